import PyProof.Rows.All
import Wide.All
import OpenK.AllK
import Wide.FinOn
import HandS.ForMost
import HandS.ForExc
import HandS.TryMany
import HandS.WideBits
import HandS.Wide
import HandS.SortInts
import HandS.IsInst
import HandS.CallSlots
import HandS.WordsDict
import HandS.EndBits
import HandS.ExcOwn
import HandS.Rev
import PyProof.ListNew
import HandS.ExcIs
import HandS.Codes
import HandS.SortKw
import KE.KDictSum
import HandS.Conv
import HandS.SetFor
import HandS.Iter
import HandS.Text
import HandS.StrMore
import PySem.Challenge.RW_sketchbounds_k11_rungs_poured
set_option Elab.async false
set_option linter.all false
set_option maxRecDepth 100000
set_option maxHeartbeats 4000000
set_option maxHeartbeats 1000000
/-! PyLite, part a: logical data, the ghost, the relation between logical and tracked state, what a reading asks. -/
namespace PL
open PySem PySem.Spec PyProof.Rows L2

/-- logical data: numbers, texts, tuples and lists by value; instances by their number -/
inductive D where
  | non | bl (b : Bool) | int (i : Int) | str (x : Str)
  | tup (ds : List D) | lst (ds : List D) | dic (kvs : List (Key × D))
  | obj (r : Nat) | err (c : Nat)

/-- what a name or a field holds: a value; a list or dict that nobody else knows; the same while it is walked -/
inductive FV where
  | val (d : D) | own (d : D) | lent (d : D)
inductive LO where
  | ins (c : Nat) (fs : List (Nat × FV)) | cell (d : D) | lck (d : D)
structure LS where
  s : List (Option FV)
  h : List LO
inductive Path where
  | loc (i : Nat) | fld (r f : Nat) | tmp | lck (a : Addr)
  deriving DecidableEq
/-- an exception: its class, its line -/
structure XV where
  c : Nat
  l : Option Int
inductive Res (α : Type) where
  | ok (a : α) (st : LS) | exc (x : XV) (st : LS) | bad
inductive SRes where
  | nx (st : LS) | ret (x : FV) (st : LS) | bk (st : LS) | ct (st : LS) | exc (x : XV) (st : LS) | bad
inductive FRes where
  | ret (x : FV) (h : List LO) | exc (x : XV) (h : List LO) | bad
abbrev Fn := List FV → List LO → FRes
abbrev E (α : Type) := LS → Res α
abbrev S := LS → SRes
def Res.bind {α β : Type} (r : Res α) (f : α → LS → Res β) : Res β := match r with
  | .ok a st => f a st
  | .exc x st => .exc x st
  | .bad => .bad
@[simp] theorem bind_ok {α β : Type} (a : α) (st : LS) (f : α → LS → Res β) : (Res.ok a st).bind f = f a st := id rfl
@[simp] theorem bind_exc {α β : Type} (x : XV) (st : LS) (f : α → LS → Res β) : (Res.exc x st : Res α).bind f = .exc x st := id rfl
@[simp] theorem bind_bad {α β : Type} (f : α → LS → Res β) : (Res.bad : Res α).bind f = .bad := id rfl
def bnd {α β : Type} (f : E α) (k : α → E β) : E β := fun st => (f st).bind k

/-- the program's classes and field names -/
structure Tab where
  K : PySem.W.Frag
  cls : Nat → Option Addr
  nm : List Str

/-- the ghost: the heap of what stands still, the instances' places, who owns -/
structure GM where
  G : Hp
  M : List Addr
  O : Addr → Option Path

def erO (a C : Addr) : HO := .ext fun h => ∃ oe vs, h.get? a = some oe ∧ oe.cls = .ref C ∧ oe.dict = none ∧ oe.data = .fields vs

mutual
/-- a value of the tracked state is a datum -/
def RD (Γ : Tab) (g : GM) : D → V → Prop
  | .non, v => v = .non
  | .bl b, v => v = .bl b
  | .int i, v => v = .int i
  | .str x, v => v = .str x
  | .tup ds, v => ∃ a vs, v = .ref a ∧ SqT Γ.K g.G a vs ∧ RDs Γ g ds vs
  | .lst ds, v => ∃ a vs, v = .ref a ∧ SqL Γ.K g.G a vs ∧ RDs Γ g ds vs
  | .dic kvs, v => ∃ a ws, v = .ref a ∧ Rd g.G a (.dK ws) ∧ RDk Γ g kvs ws
  | .obj r, v => ∃ a, v = .ref a ∧ g.M[r]? = some a
  | .err c, v => ∃ a C, v = .ref a ∧ Γ.cls c = some C ∧ Rd g.G a (erO a C)
def RDs (Γ : Tab) (g : GM) : List D → List V → Prop
  | [], vs => vs = []
  | d :: ds, vs => ∃ v r, vs = v :: r ∧ RD Γ g d v ∧ RDs Γ g ds r
def RDk (Γ : Tab) (g : GM) : List (Key × D) → List (Key × V) → Prop
  | [], vs => vs = []
  | d :: ds, vs => ∃ v r, vs = (d.1, v) :: r ∧ RD Γ g d.2 v ∧ RDk Γ g ds r
end

/-- an object's content -/
def CR (Γ : Tab) (g : GM) (d : D) (o : HO) : Prop := match d, o with
  | .lst ds, .lst vs => RDs Γ g ds vs
  | .dic kvs, .dK ws => RDk Γ g kvs ws
  | _, _ => False
/-- the same through a lock -/
def CRz (Γ : Tab) (g : GM) (d : D) (o : HO) : Prop := CR Γ g d o ∨ ∃ ob u, o = .frz ob u ∧ CR Γ g d u
def OA (Γ : Tab) (Z : Hp) (g : GM) (H : Hp) (p : Path) (a : Addr) (d : D) : Prop :=
  g.G a = none ∧ Z a = none ∧ g.O a = some p ∧ a ∉ g.M ∧ ∃ o, H a = some o ∧ CR Γ g d o
abbrev Lend := Path → Option Addr
def FVR (Γ : Tab) (Z : Hp) (Lt : Lend) (g : GM) (H : Hp) (p : Path) : FV → V → Prop
  | .val d, v => RD Γ g d v
  | .own d, v => ∃ a, v = .ref a ∧ OA Γ Z g H p a d
  | .lent d, v => ∃ a o, v = .ref a ∧ Lt p = some a ∧ Z a = some o ∧ CRz Γ g d o
def FR (Γ : Tab) (Z : Hp) (Lt : Lend) (g : GM) (H : Hp) (r : Nat) (C : Addr) : List (Nat × FV) → List (Str × V) → Prop
  | [], ws => ws = []
  | x :: fs, ws => ∃ n v q, ws = (n, v) :: q ∧ Γ.nm[x.1]? = some n ∧ NoAttr Γ.K C n ∧ FVR Γ Z Lt g H (.fld r x.1) x.2 v ∧ (∀ z ∈ fs, z.1 ≠ x.1) ∧ FR Γ Z Lt g H r C fs q
def OR (Γ : Tab) (Z : Hp) (Lt : Lend) (g : GM) (H : Hp) (r : Nat) (a : Addr) : LO → Prop
  | .ins c fs => ∃ C dx ws, Γ.cls c = some C ∧ Cls Γ.K C ∧ H a = some (.ins C dx ws) ∧ FR Γ Z Lt g H r C fs ws
  | .cell d => ∃ o, H a = some o ∧ CR Γ g d o
  | .lck d => Lt (.lck a) = some a ∧ ∃ ob u, H a = some (.frz ob u) ∧ Z a = some (.frz ob u) ∧ CR Γ g d u

def lk : HO → Bool
  | .frz _ _ => true
  | _ => false
def lkq : Path → HO → Prop
  | .lck _, o => lk o = true
  | _, _ => True
def LzOk (Lt : Lend) (Z : Hp) : Prop := ∀ q a, Lt q = some a → ∃ o, Z a = some o ∧ lkq q o
/-- the logical heap stands in the tracked one -/
structure SH (Γ : Tab) (Z : Hp) (Lt : Lend) (g : GM) (h : List LO) (H : Hp) : Prop where
  gh : ∀ a o, g.G a = some o → H a = some o
  zh : ∀ a o, Z a = some o → H a = some o
  gz : ∀ a o, Z a = some o → g.G a = none
  ml : g.M.length = h.length
  mn : g.M.Nodup
  mf : ∀ a, a ∈ g.M → g.G a = none ∧ (∀ o, Z a = some o → Lt (.lck a) = some a) ∧ g.O a = none
  ob : ∀ r lo a, h[r]? = some lo → g.M[r]? = some a → OR Γ Z Lt g H r a lo
  nd : Γ.nm.Nodup
  lz : LzOk Lt Z
/-- .. and the names -/
structure SR (Γ : Tab) (Z : Hp) (Lt : Lend) (g : GM) (st : LS) (σ : L2.St) (H : Hp) : Prop where
  sh : SH Γ Z Lt g st.h H
  sl : σ.length = st.s.length
  sv : ∀ i x, st.s[i]? = some (some x) → ∃ v, σ[i]? = some (some v) ∧ FVR Γ Z Lt g H (.loc i) x v

/-- what stood still stands (a lock may come or go) -/
def GLe (G G' : Hp) : Prop := ∀ a u, lk u = false → Rd G a u → Rd G' a u
structure GT (Z : Hp) (g g' : GM) : Prop where
  le : GLe g.G g'.G
  mp : ∃ t, g'.M = g.M ++ t
  oz : ∀ a o, Z a = some o → g'.O a = g.O a
  lo : ∀ a ob u, g.G a = some (.frz ob u) → g'.G a = some (.frz ob u)

theorem GLe.refl (G : Hp) : GLe G G := fun _ _ _ h => h
theorem GLe.trans {G1 G2 G3 : Hp} (a : GLe G1 G2) (b : GLe G2 G3) : GLe G1 G3 := fun c u l h => b c u l (a c u l h)
theorem GT.refl (Z : Hp) (g : GM) : GT Z g g := ⟨GLe.refl _, ⟨[], by simp⟩, fun _ _ _ => rfl, fun _ _ _ h => h⟩
theorem GT.trans {Z : Hp} {g1 g2 g3 : GM} (a : GT Z g1 g2) (b : GT Z g2 g3) : GT Z g1 g3 :=
  ⟨a.le.trans b.le, by obtain ⟨t, e⟩ := a.mp; obtain ⟨u, f⟩ := b.mp; exact ⟨t ++ u, by rw [f, e, List.append_assoc]⟩, fun c o h => (b.oz c o h).trans (a.oz c o h), fun c ob u h => b.lo _ _ _ (a.lo _ _ _ h)⟩
theorem GLe.sub {G G' : Hp} (h : ∀ a o, G a = some o → G' a = some o) : GLe G G' := fun a u _ r => by
  rcases r with r | ⟨o, r⟩
  · exact .inl (h _ _ r)
  · exact .inr ⟨o, h _ _ r⟩
theorem sqT_le {K : PySem.W.Frag} {G G' : Hp} {a : Addr} {vs : List V} (l : GLe G G') (h : SqT K G a vs) : SqT K G' a vs := by
  rcases h with h | h
  · exact .inl (l _ _ rfl h)
  · exact .inr h
theorem sqL_le {K : PySem.W.Frag} {G G' : Hp} {a : Addr} {vs : List V} (l : GLe G G') (h : SqL K G a vs) : SqL K G' a vs := by
  rcases h with h | h
  · exact .inl (l _ _ rfl h)
  · exact .inr h

/-! ### a datum stays -/
mutual
theorem RD.mono {Γ : Tab} {g g' : GM} (l : GLe g.G g'.G) (m : ∃ t, g'.M = g.M ++ t) : ∀ (d : D) (v : V), RD Γ g d v → RD Γ g' d v
  | .non, v, h => by simpa [RD] using h
  | .bl b, v, h => by simpa [RD] using h
  | .int i, v, h => by simpa [RD] using h
  | .str x, v, h => by simpa [RD] using h
  | .tup ds, v, h => by
    simp only [RD] at h ⊢
    obtain ⟨a, vs, e, h1, h2⟩ := h
    exact ⟨a, vs, e, sqT_le l h1, RDs.mono l m ds vs h2⟩
  | .lst ds, v, h => by
    simp only [RD] at h ⊢
    obtain ⟨a, vs, e, h1, h2⟩ := h
    exact ⟨a, vs, e, sqL_le l h1, RDs.mono l m ds vs h2⟩
  | .dic kvs, v, h => by
    simp only [RD] at h ⊢
    obtain ⟨a, vs, e, h1, h2⟩ := h
    exact ⟨a, vs, e, l _ _ rfl h1, RDk.mono l m kvs vs h2⟩
  | .obj r, v, h => by
    simp only [RD] at h ⊢
    obtain ⟨a, e, h1⟩ := h
    obtain ⟨t, et⟩ := m
    refine ⟨a, e, ?_⟩
    rw [et, List.getElem?_append_left (List.getElem?_eq_some_iff.mp h1).1]
    exact h1
  | .err c, v, h => by
    simp only [RD] at h ⊢
    obtain ⟨a, C, e, h1, h2⟩ := h
    exact ⟨a, C, e, h1, l _ _ rfl h2⟩
theorem RDs.mono {Γ : Tab} {g g' : GM} (l : GLe g.G g'.G) (m : ∃ t, g'.M = g.M ++ t) : ∀ (ds : List D) (vs : List V), RDs Γ g ds vs → RDs Γ g' ds vs
  | [], vs, h => by simpa [RDs] using h
  | d :: ds, vs, h => by
    simp only [RDs] at h ⊢
    obtain ⟨v, r, e, h1, h2⟩ := h
    exact ⟨v, r, e, RD.mono l m d v h1, RDs.mono l m ds r h2⟩
theorem RDk.mono {Γ : Tab} {g g' : GM} (l : GLe g.G g'.G) (m : ∃ t, g'.M = g.M ++ t) : ∀ (ds : List (Key × D)) (vs : List (Key × V)), RDk Γ g ds vs → RDk Γ g' ds vs
  | [], vs, h => by simpa [RDk] using h
  | d :: ds, vs, h => by
    simp only [RDk] at h ⊢
    obtain ⟨v, r, e, h1, h2⟩ := h
    exact ⟨v, r, e, RD.mono l m d.2 v h1, RDk.mono l m ds r h2⟩
end
theorem RD.up {Γ : Tab} {Z : Hp} {g g' : GM} {d : D} {v : V} (h : RD Γ g d v) (t : GT Z g g') : RD Γ g' d v := RD.mono t.le t.mp d v h
theorem RDs.up {Γ : Tab} {Z : Hp} {g g' : GM} {d : List D} {v : List V} (h : RDs Γ g d v) (t : GT Z g g') : RDs Γ g' d v := RDs.mono t.le t.mp d v h
theorem CR.mono {Γ : Tab} {g g' : GM} (l : GLe g.G g'.G) (m : ∃ t, g'.M = g.M ++ t) {d : D} {o : HO} (h : CR Γ g d o) : CR Γ g' d o := by
  unfold CR at h ⊢
  split at h
  · exact RDs.mono l m _ _ h
  · exact RDk.mono l m _ _ h
  · exact h.elim
theorem CRz.mono {Γ : Tab} {g g' : GM} (l : GLe g.G g'.G) (m : ∃ t, g'.M = g.M ++ t) {d : D} {o : HO} (h : CRz Γ g d o) : CRz Γ g' d o := by
  rcases h with h | ⟨ob, u, e, h⟩
  · exact .inl (h.mono l m)
  · exact .inr ⟨ob, u, e, h.mono l m⟩

theorem RDs.length {Γ : Tab} {g : GM} : ∀ {ds : List D} {vs : List V}, RDs Γ g ds vs → ds.length = vs.length
  | [], vs, h => by simp only [RDs] at h; subst h; rfl
  | d :: ds, vs, h => by
    simp only [RDs] at h
    obtain ⟨v, r, rfl, _, h2⟩ := h
    simp [RDs.length h2]
theorem RDs.nil {Γ : Tab} {g : GM} : RDs Γ g [] [] := by simp [RDs]
theorem RDs.cons {Γ : Tab} {g : GM} {d : D} {v : V} {ds : List D} {vs : List V} (h : RD Γ g d v) (r : RDs Γ g ds vs) : RDs Γ g (d :: ds) (v :: vs) := by
  simp only [RDs]; exact ⟨v, vs, rfl, h, r⟩
theorem RDs.get {Γ : Tab} {g : GM} : ∀ {ds : List D} {vs : List V} {i : Nat} {d : D}, RDs Γ g ds vs → ds[i]? = some d → ∃ v, vs[i]? = some v ∧ RD Γ g d v
  | [], _, _, _, _, e => by simp at e
  | d :: ds, vs, 0, x, h, e => by
    simp only [RDs] at h
    obtain ⟨v, r, rfl, h1, h2⟩ := h
    simp at e; subst e
    exact ⟨v, by simp, h1⟩
  | d :: ds, vs, i + 1, x, h, e => by
    simp only [RDs] at h
    obtain ⟨v, r, rfl, h1, h2⟩ := h
    obtain ⟨w, h3, h4⟩ := RDs.get (i := i) h2 (by simpa using e)
    exact ⟨w, by simpa using h3, h4⟩
theorem RDs.append {Γ : Tab} {g : GM} : ∀ {ds es : List D} {vs ws : List V}, RDs Γ g ds vs → RDs Γ g es ws → RDs Γ g (ds ++ es) (vs ++ ws)
  | [], _, _, _, h, h' => by simp only [RDs] at h; subst h; simpa using h'
  | d :: ds, es, vs, ws, h, h' => by
    simp only [RDs] at h
    obtain ⟨v, r, rfl, h1, h2⟩ := h
    exact RDs.cons h1 (RDs.append h2 h')

/-- what a rule asks of a call's way out -/
def XR (Γ : Tab) (x : XV) (cls : Value) (dd : Option Addr) (H : Hp) : Prop :=
  ∃ C, Γ.cls x.c = some C ∧ cls = .ref C ∧ match x.l with
    | none => dd = none
    | some i => ∃ d, dd = some d ∧ H d = some (.xd [(Str.ofString "line", .int i)])

/-- f runs from st, and what follows is k -/
def Go (Γ : Tab) (W : WX) (Z : Hp) (Lt : Lend) (σ : L2.St) {α : Type} (r : Res α) (g : GM) (k : α → GM → LS → Hp → Prop) : Prop :=
  match r with
  | .ok a st' => ∀ g' H', SR Γ Z Lt g' st' σ H' → GT Z g g' → k a g' st' H'
  | .exc x st' => ∀ cls dd g' H', SR Γ Z Lt g' st' σ H' → GT Z g g' → XR Γ x cls dd H' → W cls dd σ H'
  | .bad => False
theorem Go.imp {Γ : Tab} {W : WX} {Z : Hp} {Lt : Lend} {σ : L2.St} {α : Type} {r : Res α} {g : GM} {k k' : α → GM → LS → Hp → Prop} (h : Go Γ W Z Lt σ r g k)
    (i : ∀ a g' st' H', SR Γ Z Lt g' st' σ H' → GT Z g g' → (∀ g2 H2, SR Γ Z Lt g2 st' σ H2 → GT Z g' g2 → k a g2 st' H2) → k' a g' st' H') : Go Γ W Z Lt σ r g k' := by
  cases r with
  | ok a st' => exact fun g' H' s t => i _ _ _ _ s t fun g2 H2 s2 t2 => h g2 H2 s2 (t.trans t2)
  | exc x st' => exact h
  | bad => exact h
theorem Go.bind {Γ : Tab} {W : WX} {Z : Hp} {Lt : Lend} {σ : L2.St} {α β : Type} {r : Res α} {f : α → LS → Res β} {g : GM} {k : β → GM → LS → Hp → Prop} (h : Go Γ W Z Lt σ (r.bind f) g k) :
    Go Γ W Z Lt σ r g fun a g1 st1 H1 => Go Γ W Z Lt σ (f a st1) g1 k := by
  cases r with
  | ok a st' =>
    intro g1 H1 s1 t1
    have h : Go Γ W Z Lt σ (f a st') g k := h
    revert h
    cases f a st' with
    | ok b st2 => exact fun h g' H' s t => h g' H' s (t1.trans t)
    | exc x st2 => exact fun h cls dd g' H' s t => h cls dd g' H' s (t1.trans t)
    | bad => exact fun h => h
  | exc x st' => exact h
  | bad => exact h

/-- an expression's reading: its value is the datum -/
def T (Γ : Tab) (W : WX) (f : E D) : TE := fun σ H Q => ∃ Z Lt g st, SR Γ Z Lt g st σ H ∧ Go Γ W Z Lt σ (f st) g fun d g' _ H' => ∀ v, RD Γ g' d v → Q v H'
/-- .. content: a list or dict that may be owned -/
def CV (Γ : Tab) (g : GM) (H : Hp) (d : D) (v : V) : Prop := RD Γ g d v ∨ ∃ a o, v = .ref a ∧ H a = some o ∧ CRz Γ g d o
def TC (Γ : Tab) (W : WX) (f : E D) : TE := fun σ H Q => ∃ Z Lt g st, SR Γ Z Lt g st σ H ∧ Go Γ W Z Lt σ (f st) g fun d g' _ H' => ∀ v, CV Γ g' H' d v → Q v H'
/-- .. fresh: nobody knows it -/
def TF (Γ : Tab) (W : WX) (f : E D) : TE := fun σ H Q => ∃ Z Lt g st, SR Γ Z Lt g st σ H ∧ Go Γ W Z Lt σ (f st) g fun d g' _ H' => ∀ a, OA Γ Z g' H' .tmp a d → Q (.ref a) H'
/-- a test's -/
def TB (Γ : Tab) (W : WX) (f : E Bool) : TT := fun σ H Q => ∃ Z Lt g st, SR Γ Z Lt g st σ H ∧ Go Γ W Z Lt σ (f st) g fun b _ _ H' => Q b H'
/-- arguments' -/
def TAs (Γ : Tab) (W : WX) (f : E (List D)) : TA := fun σ H Q => ∃ Z Lt g st, SR Γ Z Lt g st σ H ∧ Go Γ W Z Lt σ (f st) g fun ds g' _ H' => ∀ vs, RDs Γ g' ds vs → Q vs H'
/-- a statement's -/
def GoS (Γ : Tab) (W : WX) (Z : Hp) (Lt : Lend) (D : Ends) (r : SRes) (g : GM) : Prop :=
  match r with
  | .nx st' => ∀ σ' g' H', SR Γ Z Lt g' st' σ' H' → GT Z g g' → D.nx σ' H'
  | .ret x st' => ∀ v g' H', SH Γ Z Lt g' st'.h H' → GT Z g g' → FVR Γ Z (fun _ => none) g' H' .tmp x v → D.rt v H'
  | .bk st' => ∀ σ' g' H', SR Γ Z Lt g' st' σ' H' → GT Z g g' → D.bk σ' H'
  | .ct st' => ∀ σ' g' H', SR Γ Z Lt g' st' σ' H' → GT Z g g' → D.ct σ' H'
  | .exc x st' => ∀ cls dd σ' g' H', SR Γ Z Lt g' st' σ' H' → GT Z g g' → XR Γ x cls dd H' → W cls dd σ' H'
  | .bad => False
def TSt (Γ : Tab) (W : WX) (f : S) : TS := fun D σ H => ∃ Z Lt g st, SR Γ Z Lt g st σ H ∧ GoS Γ W Z Lt D (f st) g

/-- an argument: a value, or a list that is lent -/
def AR (Γ : Tab) (Z : Hp) (g : GM) : FV → V → Prop
  | .val d, v => RD Γ g d v
  | .own _, _ => False
  | .lent d, v => ∃ a o, v = .ref a ∧ Z a = some o ∧ CRz Γ g d o
def ARs (Γ : Tab) (Z : Hp) (g : GM) : List FV → List V → Prop
  | [], vs => vs = []
  | d :: ds, vs => ∃ v r, vs = v :: r ∧ AR Γ Z g d v ∧ ARs Γ Z g ds r
/-- a value that is sure to stand: a datum, or a list that is lent -/
def SV (Γ : Tab) (Z : Hp) (g : GM) (d : D) (v : V) : Prop := RD Γ g d v ∨ ∃ a o, v = .ref a ∧ Z a = some o ∧ CRz Γ g d o
def TV (Γ : Tab) (W : WX) (f : E D) : TE := fun σ H Q => ∃ Z Lt g st, SR Γ Z Lt g st σ H ∧ Go Γ W Z Lt σ (f st) g fun d g' _ H' => ∀ v, SV Γ Z g' d v → Q v H'
def TGs (Γ : Tab) (W : WX) (f : E (List FV)) : TA := fun σ H Q => ∃ Z Lt g st, SR Γ Z Lt g st σ H ∧ Go Γ W Z Lt σ (f st) g fun ds g' _ H' => ∀ vs, ARs Γ Z g' ds vs → Q vs H'
def lentAt (ds : List FV) (vs : List V) (i : Nat) : Option Addr := match ds[i]?, vs[i]? with
  | some (.lent _), some (.ref a) => some a
  | _, _ => none
/-- a def's promise -/
def spF (Γ : Tab) (n : Nat) (F : Fn) : Sp := fun vs H Q X => ∃ Z Lt g ds h, SH Γ Z Lt g h H ∧ ARs Γ Z g ds vs ∧ ds.length = n ∧ (∀ i, Lt (.loc i) = lentAt ds vs i) ∧
  match F ds h with
  | .ret x h' => ∀ v g' H', SH Γ Z Lt g' h' H' → GT Z g g' → FVR Γ Z (fun _ => none) g' H' .tmp x v → Q v H'
  | .exc x h' => ∀ cls dd g' H', SH Γ Z Lt g' h' H' → GT Z g g' → XR Γ x cls dd H' → X cls dd H'
  | .bad => False

/-! ### the judgements -/
structure PD (Γ : Tab) (W : WX) (X : Cx) (e : Expr) (f : E D) : Prop where
  pe : PE X e (T Γ W f)
structure PC (Γ : Tab) (W : WX) (X : Cx) (e : Expr) (f : E D) : Prop where
  pe : PE X e (TC Γ W f)
structure PF (Γ : Tab) (W : WX) (X : Cx) (e : Expr) (f : E D) : Prop where
  pe : PE X e (TF Γ W f)
structure PB (Γ : Tab) (W : WX) (X : Cx) (e : Expr) (f : E Bool) : Prop where
  pt : PT X e (TB Γ W f)
structure PAs (Γ : Tab) (W : WX) (X : Cx) (es : List Expr) (f : E (List D)) : Prop where
  pa : PA X es (TAs Γ W f)
structure PV (Γ : Tab) (W : WX) (X : Cx) (e : Expr) (f : E D) : Prop where
  pe : PE X e (TV Γ W f)
structure PArgs (Γ : Tab) (W : WX) (X : Cx) (es : List Expr) (f : E (List FV)) : Prop where
  pa : PA X es (TGs Γ W f)
structure PSt (Γ : Tab) (W : WX) (X : Cx) (st : Stmt) (f : S) : Prop where
  ps : PS X st (TSt Γ W f)
structure PSts (Γ : Tab) (W : WX) (X : Cx) (st : List Stmt) (f : S) : Prop where
  ps : PSs X st (TSt Γ W f)
theorem _root_.L2.PE.csq {X : Cx} {e : Expr} {t u : TE} (h : PE X e t) (i : ∀ σ H Q, u σ H Q → t σ H Q) : PE X e u := ⟨fun pins s σ H Q I w => h.run pins s σ H Q I (i _ _ _ w)⟩
theorem _root_.L2.PT.csq {X : Cx} {e : Expr} {t u : TT} (h : PT X e t) (i : ∀ σ H Q, u σ H Q → t σ H Q) : PT X e u := ⟨fun pins s σ H Q I w => h.run pins s σ H Q I (i _ _ _ w)⟩
theorem _root_.L2.PA.csq {X : Cx} {e : List Expr} {t u : TA} (h : PA X e t) (i : ∀ σ H Q, u σ H Q → t σ H Q) : PA X e u := ⟨fun pos pins s σ H Q I w => h.run pos pins s σ H Q I (i _ _ _ w)⟩
theorem _root_.L2.PS.csq {X : Cx} {e : Stmt} {t u : TS} (h : PS X e t) (i : ∀ D σ H, u D σ H → t D σ H) : PS X e u := ⟨fun pins s σ H D I w => h.run pins s σ H D I (i _ _ _ w)⟩
theorem _root_.L2.PSs.csq {X : Cx} {e : List Stmt} {t u : TS} (h : PSs X e t) (i : ∀ D σ H, u D σ H → t D σ H) : PSs X e u := ⟨fun pins s σ H D I w => h.run pins s σ H D I (i _ _ _ w)⟩
end PL

/-! PyLite, part b: how the relation goes on when the state changes. -/
namespace PL
open PySem PySem.Spec PyProof.Rows L2
section
variable {Γ : Tab} {W : WX} {Z : Hp} {Lt : Lend} {g g' : GM} {st st' : LS} {σ σ' : L2.St} {H H' : Hp} {h h' : List LO} {a p : Addr} {o : HO} {d : D} {v : V}

theorem OR.at {r : Nat} {lo : LO} (x : OR Γ Z Lt g H r a lo) : ∃ o, H a = some o := by
  cases lo with
  | ins c fs => obtain ⟨C, dx, ws, _, _, e, _⟩ := x; exact ⟨_, e⟩
  | cell d => obtain ⟨o, e, _⟩ := x; exact ⟨_, e⟩
  | lck d => obtain ⟨_, ob, u, e, _⟩ := x; exact ⟨_, e⟩
/-- nothing with a name is protected, but what is locked -/
theorem SH.zn (s : SH Γ Z Lt g h H) (m : a ∈ g.M) (e : H a = some o) (hl : lk o = false) : Z a = none := by
  cases c : Z a with
  | none => rfl
  | some u =>
    have h1 := s.zh a u c
    rw [e] at h1; cases h1
    have hr := (s.mf a m).2.1 o c
    obtain ⟨u, h2, h3⟩ := s.lz _ _ hr
    rw [c] at h2; cases h2
    simp only [lkq] at h3
    rw [hl] at h3; cases h3
theorem CR.nolk (c : CR Γ g d o) : lk o = false := by
  cases o <;> first | rfl | (exfalso; cases d <;> exact c)
theorem SH.at (s : SH Γ Z Lt g h H) (m : a ∈ g.M) : ∃ o, H a = some o := by
  obtain ⟨r, hr, e⟩ := List.mem_iff_getElem.mp m
  have h1 : g.M[r]? = some a := by rw [List.getElem?_eq_getElem hr, e]
  have h2 : r < h.length := by rw [← s.ml]; exact hr
  exact (s.ob r _ a (List.getElem?_eq_getElem h2) h1).at
theorem SH.new (s : SH Γ Z Lt g h H) (n : H p = none) : p ∉ g.M ∧ g.G p = none ∧ Z p = none := by
  refine ⟨fun m => ?_, ?_, ?_⟩
  · obtain ⟨o, e⟩ := s.at m; rw [n] at e; cases e
  · cases e : g.G p with
    | none => rfl
    | some o => have := s.gh p o e; rw [n] at this; cases this
  · cases e : Z p with
    | none => rfl
    | some o => have := s.zh p o e; rw [n] at this; cases this

/-- what the paths that q tells own stays -/
structure Kp (Z : Hp) (g g' : GM) (H H' : Hp) (q : Path → Prop) : Prop where
  gt : GT Z g g'
  own : ∀ a p o, q p → g.G a = none → Z a = none → g.O a = some p → a ∉ g.M → H a = some o → g'.G a = none ∧ g'.O a = some p ∧ a ∉ g'.M ∧ H' a = some o
theorem FVR.keep {q : Path → Prop} (k : Kp Z g g' H H' q) {p : Path} (hq : q p) {x : FV} (f : FVR Γ Z Lt g H p x v) : FVR Γ Z Lt g' H' p x v := by
  cases x with
  | val d => exact RD.up f k.gt
  | own d =>
    obtain ⟨a, e, h1, h2, h3, h4, o, h5, h6⟩ := f
    obtain ⟨k1, k2, k3, k4⟩ := k.own a p o hq h1 h2 h3 h4 h5
    exact ⟨a, e, k1, h2, k2, k3, o, k4, h6.mono k.gt.le k.gt.mp⟩
  | lent d =>
    obtain ⟨a, o, e, h1, h3, h4⟩ := f
    exact ⟨a, o, e, h1, h3, h4.mono k.gt.le k.gt.mp⟩
theorem FR.keep {q : Path → Prop} (k : Kp Z g g' H H' q) {r : Nat} {C : Addr} (hq : ∀ f, q (.fld r f)) : ∀ {fs : List (Nat × FV)} {ws : List (Str × V)}, FR Γ Z Lt g H r C fs ws → FR Γ Z Lt g' H' r C fs ws
  | [], _, f => f
  | x :: fs, _, f => by
    obtain ⟨n, v, q', e, h1, h2, h3, h5, h4⟩ := f
    exact ⟨n, v, q', e, h1, h2, h3.keep k (hq _), h5, FR.keep k hq h4⟩
theorem OR.keep {q : Path → Prop} (k : Kp Z g g' H H' q) {r : Nat} (hq : ∀ f, q (.fld r f)) (hH : ∀ o, H a = some o → H' a = some o) {lo : LO} (x : OR Γ Z Lt g H r a lo) : OR Γ Z Lt g' H' r a lo := by
  cases lo with
  | ins c fs => obtain ⟨C, dx, ws, e1, e2, e, f⟩ := x; exact ⟨C, dx, ws, e1, e2, hH _ e, FR.keep k hq f⟩
  | cell d => obtain ⟨o, e, f⟩ := x; exact ⟨o, hH _ e, f.mono k.gt.le k.gt.mp⟩
  | lck d => obtain ⟨l, ob, u, e, z, f⟩ := x; exact ⟨l, ob, u, hH _ e, z, f.mono k.gt.le k.gt.mp⟩
/-- the objects stay, the ghost grows -/
theorem SH.keep (s : SH Γ Z Lt g h H) {q : Path → Prop} (k : Kp Z g g' H H' q) (hq : ∀ r f, q (.fld r f)) (hM : g'.M = g.M) (hH : ∀ a o, a ∈ g.M → H a = some o → H' a = some o)
    (gh : ∀ a o, g'.G a = some o → H' a = some o) (zh : ∀ a o, Z a = some o → H' a = some o) (gz : ∀ a o, Z a = some o → g'.G a = none) (mf : ∀ a, a ∈ g.M → g'.G a = none ∧ g'.O a = none) : SH Γ Z Lt g' h H' :=
  ⟨gh, zh, gz, by rw [hM]; exact s.ml, by rw [hM]; exact s.mn, fun a m => by rw [hM] at m; exact ⟨(mf a m).1, (s.mf a m).2.1, (mf a m).2⟩, fun r lo a e1 e2 => by
    rw [hM] at e2
    exact (s.ob r lo a e1 e2).keep k (hq r) (fun o e => hH a o (List.mem_of_getElem? e2) e), s.nd, s.lz⟩
theorem SR.keep (s : SR Γ Z Lt g st σ H) {q : Path → Prop} (k : Kp Z g g' H H' q) (hq : ∀ p, q p) (hM : g'.M = g.M) (hH : ∀ a o, a ∈ g.M → H a = some o → H' a = some o)
    (gh : ∀ a o, g'.G a = some o → H' a = some o) (zh : ∀ a o, Z a = some o → H' a = some o) (gz : ∀ a o, Z a = some o → g'.G a = none) (mf : ∀ a, a ∈ g.M → g'.G a = none ∧ g'.O a = none) : SR Γ Z Lt g' st σ H' :=
  ⟨s.sh.keep k (fun r f => hq _) hM hH gh zh gz mf, s.sl, fun i x e => by
    obtain ⟨v, e1, f⟩ := s.sv i x e
    exact ⟨v, e1, f.keep k (hq _)⟩⟩

/-! ### a new object that stands still -/
abbrev GM.put (g : GM) (p : Addr) (o : HO) : GM := { g with G := upd g.G p o }
theorem put_same {g : GM} {p : Addr} {o : HO} : (g.put p o).G p = some o := upd_same
theorem put_ne {g : GM} {p a : Addr} {o : HO} (h : a ≠ p) : (g.put p o).G a = g.G a := upd_ne h
theorem GLe.put {G : Hp} (n : G p = none) : GLe G (upd G p o) := GLe.sub fun a u e => by rw [upd_ne (ne_of_none e n)]; exact e
theorem GT.put (n : g.G p = none) : GT Z g (g.put p o) := ⟨GLe.put n, ⟨[], by simp⟩, fun _ _ _ => rfl, fun a ob u e => by show upd g.G p o a = _; rw [upd_ne (ne_of_none e n)]; exact e⟩
theorem Kp.new (s : SH Γ Z Lt g h H) (n : H p = none) : Kp Z g (g.put p o) H (upd H p o) fun _ => True :=
  ⟨GT.put (s.new n).2.1, fun a q u _ h1 h2 h3 h4 h5 => by
    have ne : a ≠ p := ne_of_none h5 n
    exact ⟨by show upd g.G p o a = none; rw [upd_ne ne]; exact h1, h3, h4, by rw [upd_ne ne]; exact h5⟩⟩
theorem SR.new (s : SR Γ Z Lt g st σ H) (n : H p = none) (o : HO) : SR Γ Z Lt (g.put p o) st σ (upd H p o) := by
  have nn := s.sh.new n
  refine s.keep (Kp.new s.sh n) (fun _ => trivial) rfl (fun a u m e => by rw [upd_ne (ne_of_none e n)]; exact e) (fun a u e => ?_) (fun a u e => ?_) (fun a u e => ?_) fun a m => ?_
  · by_cases q : a = p
    · subst q; rw [put_same] at e; rw [upd_same]; exact e
    · rw [put_ne q] at e; rw [upd_ne q]; exact s.sh.gh a u e
  · rw [upd_ne (ne_of_none e nn.2.2)]; exact s.sh.zh a u e
  · show upd g.G p o a = none
    rw [upd_ne (ne_of_none e nn.2.2)]; exact s.sh.gz a u e
  · have ne : a ≠ p := fun q => nn.1 (q ▸ m)
    exact ⟨by show upd g.G p o a = none; rw [upd_ne ne]; exact (s.sh.mf a m).1, (s.sh.mf a m).2.2⟩
/-- what nobody else knows is let stand -/
theorem Kp.frz (n : g.G a = none) {q : Path → Prop} (hq : ∀ p, g.O a = some p → ¬ q p) : Kp Z g (g.put a o) H H q :=
  ⟨GT.put n, fun b p u hp h1 h2 h3 h4 h5 => by
    have ne : b ≠ a := fun e => hq p (e ▸ h3) hp
    exact ⟨by show upd g.G a o b = none; rw [upd_ne ne]; exact h1, h3, h4, h5⟩⟩
theorem SH.frz (s : SH Γ Z Lt g h H) (n : g.G a = none) (zn : Z a = none) (nm : a ∉ g.M) (e : H a = some o) {q : Path → Prop} (hq : ∀ p, g.O a = some p → ¬ q p) (hf : ∀ r f, q (.fld r f)) : SH Γ Z Lt (g.put a o) h H := by
  refine s.keep (Kp.frz n hq) hf rfl (fun b u m e => e) (fun b u e' => ?_) s.zh (fun b u e' => ?_) fun b m => ?_
  · by_cases q : b = a
    · subst q; rw [put_same] at e'; cases e'; exact e
    · rw [put_ne q] at e'; exact s.gh b u e'
  · show upd g.G a o b = none
    rw [upd_ne (ne_of_none e' zn)]; exact s.gz b u e'
  · have ne : b ≠ a := fun q => nm (q ▸ m)
    exact ⟨by show upd g.G a o b = none; rw [upd_ne ne]; exact (s.mf b m).1, (s.mf b m).2.2⟩
theorem SR.frz (s : SR Γ Z Lt g st σ H) (x : OA Γ Z g H .tmp a d) : ∃ o, H a = some o ∧ CR Γ g d o ∧ SR Γ Z Lt (g.put a o) st σ H ∧ GT Z g (g.put a o) := by
  obtain ⟨h1, h2, h3, h4, o, h5, h6⟩ := x
  have hq : ∀ p : Path, g.O a = some p → ¬ (p ≠ .tmp) := fun p e => by rw [h3] at e; cases e; exact fun z => z rfl
  refine ⟨o, h5, h6, ⟨s.sh.frz h1 h2 h4 h5 hq (fun r f => by simp), s.sl, fun i x e => ?_⟩, GT.put h1⟩
  obtain ⟨v, e1, f⟩ := s.sv i x e
  exact ⟨v, e1, f.keep (Kp.frz h1 hq) (by simp)⟩
theorem CR.rd (h : CR Γ g d o) (e : g.G a = some o) : RD Γ g d (.ref a) := by
  unfold CR at h
  split at h
  · simp only [RD]; exact ⟨a, _, rfl, .inl (.inl e), h⟩
  · simp only [RD]; exact ⟨a, _, rfl, .inl e, h⟩
  · exact h.elim
theorem OA.rd (x : OA Γ Z g H .tmp a d) (s : SR Γ Z Lt g st σ H) : ∃ g', SR Γ Z Lt g' st σ H ∧ GT Z g g' ∧ RD Γ g' d (.ref a) := by
  obtain ⟨o, h1, h2, h3, h4⟩ := s.frz x
  exact ⟨_, h3, h4, CR.rd (h2.mono h4.le h4.mp) upd_same⟩
end
section
variable {Γ : Tab} {W : WX} {X : Cx} {e : Expr} {f : E D}
theorem T.of_TF {σ : L2.St} {H : Hp} {Q : VK} (h : T Γ W f σ H Q) : TF Γ W f σ H Q := by
  obtain ⟨Z, Lt, g, st, s, h⟩ := h
  refine ⟨Z, Lt, g, st, s, h.imp fun d g' st' H' s' t k a x => ?_⟩
  obtain ⟨g2, s2, t2, r⟩ := x.rd s'
  exact k g2 H' s2 t2 _ r
end
end PL

/-! PyLite, part c: names, constants, fields, operators. -/
namespace PL
open PySem PySem.Spec PyProof.Rows L2
section
variable {Γ : Tab} {W : WX} {Z : Hp} {Lt : Lend} {g g' : GM} {st st' : LS} {σ σ' : L2.St} {H H' : Hp} {h h' : List LO} {a p : Addr} {o : HO} {d : D} {v : V} {X : Cx} {e e1 e2 : Expr} {f k : E D}

/-! ### from the stronger to the weaker -/
theorem SV.up (x : SV Γ Z g d v) (t : GT Z g g') : SV Γ Z g' d v := by
  rcases x with x | ⟨a, o, e, z, c⟩
  · exact .inl (x.up t)
  · exact .inr ⟨a, o, e, z, c.mono t.le t.mp⟩
theorem SV.cv (x : SV Γ Z g d v) (s : SR Γ Z Lt g st σ H) : CV Γ g H d v := by
  rcases x with x | ⟨a, o, e, z, c⟩
  · exact .inl x
  · exact .inr ⟨a, o, e, s.sh.zh a o z, c⟩
theorem OA.cv (x : OA Γ Z g H .tmp a d) : CV Γ g H d (.ref a) := by
  obtain ⟨_, _, _, _, o, e, c⟩ := x
  exact .inr ⟨a, o, rfl, e, .inl c⟩
theorem PD.pv (x : PD Γ W X e f) : PV Γ W X e f := ⟨x.pe.csq fun σ H Q ⟨Z, Lt, g, st, s, h⟩ => ⟨Z, Lt, g, st, s, h.imp fun d g' st' H' s' t k v r => k g' H' s' (GT.refl _ _) v (.inl r)⟩⟩
theorem PV.pc (x : PV Γ W X e f) : PC Γ W X e f := ⟨x.pe.csq fun σ H Q ⟨Z, Lt, g, st, s, h⟩ => ⟨Z, Lt, g, st, s, h.imp fun d g' st' H' s' t k v r => k g' H' s' (GT.refl _ _) v (r.cv s')⟩⟩
theorem PD.pc (x : PD Γ W X e f) : PC Γ W X e f := x.pv.pc
theorem PF.pd (x : PF Γ W X e f) : PD Γ W X e f := ⟨x.pe.csq fun σ H Q h => T.of_TF h⟩
theorem PF.pc (x : PF Γ W X e f) : PC Γ W X e f := ⟨x.pe.csq fun σ H Q ⟨Z, Lt, g, st, s, h⟩ => ⟨Z, Lt, g, st, s, h.imp fun d g' st' H' s' t k a r => k g' H' s' (GT.refl _ _) _ r.cv⟩⟩

/-! ### constants -/
def eC (d : D) : E D := fun st => .ok d st
theorem T.c (h : T Γ W (eC d) σ H Q) (r : ∀ g, RD Γ g d v) : Q v H := by
  obtain ⟨Z, Lt, g, st, s, h⟩ := h
  exact h g H s (GT.refl _ _) v (r g)
theorem pd_int {i j pos} : PD Γ W X (.Constant (.int i) j pos) (eC (.int i)) := ⟨pe_int.csq fun σ H Q h => h.c fun g => by simp [RD]⟩
theorem pd_bl {b j pos} : PD Γ W X (.Constant (.bool b) j pos) (eC (.bl b)) := ⟨pe_bl.csq fun σ H Q h => h.c fun g => by simp [RD]⟩
theorem pd_non {j pos} : PD Γ W X (.Constant .none j pos) (eC .non) := ⟨pe_non.csq fun σ H Q h => h.c fun g => by simp [RD]⟩
theorem pd_str {x j pos} : PD Γ W X (.Constant (.str x) j pos) (eC (.str x)) := ⟨pe_str.csq fun σ H Q h => h.c fun g => by simp [RD]⟩
theorem pd_gint {x : Str} {i : Int} {t : Tok} {pos : Pos} (hg : Gl X x) (hm : X.mg x = some (.int i t)) (hd : (x == ("__debug__" : Str)) = false := by decide) : PD Γ W X (.Name x pos) (eC (.int i)) :=
  ⟨(pe_glob hg hm (v := .int i) ⟨t, rfl⟩ hd).csq fun σ H Q h => h.c fun g => by simp [RD]⟩
theorem pd_gstr {x : Str} {i : Str} {t : Tok} {pos : Pos} (hg : Gl X x) (hm : X.mg x = some (.str i t)) (hd : (x == ("__debug__" : Str)) = false := by decide) : PD Γ W X (.Name x pos) (eC (.str i)) :=
  ⟨(pe_glob hg hm (v := .str i) ⟨t, rfl⟩ hd).csq fun σ H Q h => h.c fun g => by simp [RD]⟩

/-! ### names -/
def eVar (i : Nat) : E D := fun st => match st.s[i]? with
  | some (some (.val d)) => .ok d st
  | some (some (.own d)) => .ok d { st with s := st.s.set i (some (.val d)) }
  | _ => .bad
/-- read, but not taken -/
def cVar (i : Nat) : E D := fun st => match st.s[i]? with
  | some (some (.val d)) => .ok d st
  | some (some (.own d)) => .ok d st
  | some (some (.lent d)) => .ok d st
  | _ => .bad
/-- a value, or lent -/
def vVar (i : Nat) : E D := fun st => match st.s[i]? with
  | some (some (.val d)) => .ok d st
  | some (some (.lent d)) => .ok d st
  | _ => .bad
theorem SR.frzS {i : Nat} (s : SR Γ Z Lt g st σ H) (e : st.s[i]? = some (some (.own d))) :
    ∃ g' a, σ[i]? = some (some (.ref a)) ∧ SR Γ Z Lt g' { st with s := st.s.set i (some (.val d)) } σ H ∧ GT Z g g' ∧ RD Γ g' d (.ref a) := by
  obtain ⟨v, e1, a, rfl, h1, h2, h3, h4, o, h5, h6⟩ := s.sv i _ e
  have hq : ∀ p : Path, g.O a = some p → ¬ (p ≠ .loc i) := fun p e => by rw [h3] at e; cases e; exact fun z => z rfl
  have rd : RD Γ (g.put a o) d (.ref a) := CR.rd (h6.mono (GLe.put h1) ⟨[], by simp⟩) put_same
  have hi : i < st.s.length := (List.getElem?_eq_some_iff.mp e).1
  refine ⟨g.put a o, a, e1, ⟨s.sh.frz h1 h2 h4 h5 hq fun r f => by simp, by simpa using s.sl, fun j x ej => ?_⟩, GT.put h1, rd⟩
  by_cases hj : j = i
  · subst hj
    rw [List.getElem?_set_self hi] at ej
    cases ej
    exact ⟨_, e1, rd⟩
  · rw [List.getElem?_set_ne (Ne.symm hj)] at ej
    obtain ⟨w, e2, f⟩ := s.sv j x ej
    exact ⟨w, e2, f.keep (Kp.frz h1 hq) (fun z => hj (by cases z; rfl))⟩
theorem pd_var {i : Nat} {x : Str} {pos : Pos} (hN : X.N[i]? = some x) (hv : Vis X.env.scope x) (hd : (x == ("__debug__" : Str)) = false := by decide) (hcd : (x == ("__classdict__" : Str)) = false := by decide) :
    PD Γ W X (.Name x pos) (eVar i) := ⟨(pe_var hN hv hd hcd).csq fun σ H Q ⟨Z, Lt, g, st, s, h⟩ => by
  unfold eVar at h
  split at h
  · rename_i d e
    obtain ⟨v, e1, r⟩ := s.sv i _ e
    exact ⟨v, e1, h g H s (GT.refl _ _) v r⟩
  · rename_i d e
    obtain ⟨g', a, e1, s', t, r⟩ := s.frzS e
    exact ⟨_, e1, h g' H s' t _ r⟩
  · exact h.elim⟩
theorem SR.cvS {i : Nat} {x : FV} (s : SR Γ Z Lt g st σ H) (e : st.s[i]? = some (some x)) : ∃ v, σ[i]? = some (some v) ∧ CV Γ g H (match x with | .val d => d | .own d => d | .lent d => d) v := by
  obtain ⟨v, e1, r⟩ := s.sv i _ e
  refine ⟨v, e1, ?_⟩
  cases x with
  | val d => exact .inl r
  | own d => obtain ⟨a, rfl, _, _, _, _, o, h5, h6⟩ := r; exact .inr ⟨a, o, rfl, h5, .inl h6⟩
  | lent d => obtain ⟨a, o, rfl, _, h3, h4⟩ := r; exact .inr ⟨a, o, rfl, s.sh.zh a o h3, h4⟩
theorem pc_var {i : Nat} {x : Str} {pos : Pos} (hN : X.N[i]? = some x) (hv : Vis X.env.scope x) (hd : (x == ("__debug__" : Str)) = false := by decide) (hcd : (x == ("__classdict__" : Str)) = false := by decide) :
    PC Γ W X (.Name x pos) (cVar i) := ⟨(pe_var hN hv hd hcd).csq fun σ H Q ⟨Z, Lt, g, st, s, h⟩ => by
  unfold cVar at h
  split at h
  · rename_i d e
    obtain ⟨v, e1, r⟩ := s.cvS e
    exact ⟨v, e1, h g H s (GT.refl _ _) v r⟩
  · rename_i d e
    obtain ⟨v, e1, r⟩ := s.cvS e
    exact ⟨v, e1, h g H s (GT.refl _ _) v r⟩
  · rename_i d e
    obtain ⟨v, e1, r⟩ := s.cvS e
    exact ⟨v, e1, h g H s (GT.refl _ _) v r⟩
  · exact h.elim⟩
theorem pv_var {i : Nat} {x : Str} {pos : Pos} (hN : X.N[i]? = some x) (hv : Vis X.env.scope x) (hd : (x == ("__debug__" : Str)) = false := by decide) (hcd : (x == ("__classdict__" : Str)) = false := by decide) :
    PV Γ W X (.Name x pos) (vVar i) := ⟨(pe_var hN hv hd hcd).csq fun σ H Q ⟨Z, Lt, g, st, s, h⟩ => by
  unfold vVar at h
  split at h
  · rename_i d e
    obtain ⟨v, e1, r⟩ := s.sv i _ e
    exact ⟨v, e1, h g H s (GT.refl _ _) v (.inl r)⟩
  · rename_i d e
    obtain ⟨v, e1, a, o, rfl, _, h3, h4⟩ := s.sv i _ e
    exact ⟨_, e1, h g H s (GT.refl _ _) _ (.inr ⟨a, o, rfl, h3, h4⟩)⟩
  · exact h.elim⟩

/-! ### fields -/
def putN (f : Nat) (x : FV) : List (Nat × FV) → List (Nat × FV)
  | [] => [(f, x)]
  | (g, y) :: r => if g = f then (f, x) :: r else (g, y) :: putN f x r
def LS.fld (st : LS) (r f : Nat) : Option FV := match st.h[r]? with
  | some (.ins _ fs) => fs.lookup f
  | _ => none
def LS.setF (st : LS) (r f : Nat) (x : FV) : LS := match st.h[r]? with
  | some (.ins c fs) => { st with h := st.h.set r (.ins c (putN f x fs)) }
  | _ => st
theorem FR.get {r : Nat} {C : Addr} {f : Nat} {x : FV} (nd : Γ.nm.Nodup) : ∀ {fs : List (Nat × FV)} {ws : List (Str × V)}, FR Γ Z Lt g H r C fs ws → fs.lookup f = some x →
    ∃ n v, Γ.nm[f]? = some n ∧ NoAttr Γ.K C n ∧ ws.lookup n = some v ∧ FVR Γ Z Lt g H (.fld r f) x v
  | [], _, _, e => by simp at e
  | y :: fs, _, F, e => by
    obtain ⟨n, v, q, rfl, h1, h2, h3, _, h4⟩ := F
    rw [List.lookup_cons] at e
    by_cases hf : f = y.1
    · subst hf
      rw [beq_self_eq_true] at e
      cases e
      exact ⟨n, v, h1, h2, by rw [List.lookup_cons, beq_self_eq_true], h3⟩
    · rw [beq_false_of_ne hf] at e
      obtain ⟨m, w, e1, e2, e3, e4⟩ := FR.get nd h4 e
      refine ⟨m, w, e1, e2, ?_, e4⟩
      have ne : m ≠ n := fun z => by
        subst z
        obtain ⟨b1, c1⟩ := List.getElem?_eq_some_iff.mp e1
        obtain ⟨b2, c2⟩ := List.getElem?_eq_some_iff.mp h1
        exact hf ((List.getElem_inj nd).mp (c1.trans c2.symm))
      rw [List.lookup_cons, beq_false_of_ne ne]
      exact e3
theorem SR.fld {r f : Nat} {x : FV} (s : SR Γ Z Lt g st σ H) (hr : g.M[r]? = some a) (e : st.fld r f = some x) :
    ∃ C dx ws n v, H a = some (.ins C dx ws) ∧ Cls Γ.K C ∧ Γ.nm[f]? = some n ∧ NoAttr Γ.K C n ∧ ws.lookup n = some v ∧ FVR Γ Z Lt g H (.fld r f) x v := by
  unfold LS.fld at e
  split at e
  · rename_i c fs e1
    obtain ⟨C, dx, ws, _, h2, h3, h4⟩ := s.sh.ob r _ a e1 hr
    obtain ⟨n, v, h5, h6, h7, h8⟩ := FR.get s.sh.nd h4 e
    exact ⟨C, dx, ws, n, v, h3, h2, h5, h6, h7, h8⟩
  · cases e
end
end PL

/-! PyLite, part d: fields read and stored, operators. -/
namespace PL
open PySem PySem.Spec PyProof.Rows L2
section
variable {Γ : Tab} {W : WX} {Z : Hp} {Lt : Lend} {g g' : GM} {st st' : LS} {σ σ' : L2.St} {H H' : Hp} {h h' : List LO} {a p : Addr} {o : HO} {d : D} {v : V} {X : Cx} {e e1 e2 : Expr} {f k : E D}

theorem putN_keys {f : Nat} {x : FV} : ∀ {fs : List (Nat × FV)} {z : Nat × FV}, z ∈ putN f x fs → z.1 = f ∨ z ∈ fs
  | [], z, m => by simp [putN] at m; exact .inl (by rw [m])
  | (j, y) :: r, z, m => by
    unfold putN at m
    split at m
    · rcases List.mem_cons.mp m with e | m
      · exact .inl (by rw [e])
      · exact .inr (List.mem_cons_of_mem _ m)
    · rcases List.mem_cons.mp m with e | m
      · exact .inr (by rw [e]; exact List.mem_cons_self)
      · rcases putN_keys m with e | m
        · exact .inl e
        · exact .inr (List.mem_cons_of_mem _ m)
theorem nm_ne (nd : Γ.nm.Nodup) {i j : Nat} {n m : Str} (hi : Γ.nm[i]? = some n) (hj : Γ.nm[j]? = some m) (h : i ≠ j) : n ≠ m := fun z => by
  subst z
  obtain ⟨b1, c1⟩ := List.getElem?_eq_some_iff.mp hi
  obtain ⟨b2, c2⟩ := List.getElem?_eq_some_iff.mp hj
  exact h ((List.getElem_inj nd).mp (c1.trans c2.symm))
/-- a field's word changes, its value doesn't -/
theorem FR.rep {r f : Nat} {C : Addr} {x : FV} (nd : Γ.nm.Nodup) (kp : Kp Z g g' H H' fun p => p ≠ .fld r f) : ∀ {fs : List (Nat × FV)} {ws : List (Str × V)} {x0 : FV}, FR Γ Z Lt g H r C fs ws → fs.lookup f = some x0 →
    (∀ n v, Γ.nm[f]? = some n → ws.lookup n = some v → FVR Γ Z Lt g H (.fld r f) x0 v → FVR Γ Z Lt g' H' (.fld r f) x v) → FR Γ Z Lt g' H' r C (putN f x fs) ws
  | [], _, _, _, e, _ => by simp at e
  | (j, y) :: fs, _, x0, F, e, hx => by
    obtain ⟨n, v, q, rfl, h1, h2, h3, h5, h4⟩ := F
    unfold putN
    by_cases hf : j = f
    · subst hf
      rw [if_pos rfl]
      rw [List.lookup_cons, beq_self_eq_true] at e
      cases e
      refine ⟨n, v, q, rfl, h1, h2, hx n v h1 (by rw [List.lookup_cons, beq_self_eq_true]) h3, h5, ?_⟩
      have : ∀ {fs : List (Nat × FV)} {q : List (Str × V)}, (∀ z ∈ fs, z.1 ≠ j) → FR Γ Z Lt g H r C fs q → FR Γ Z Lt g' H' r C fs q := by
        intro fs
        induction fs with
        | nil => intro q _ F; exact F
        | cons z fs ih =>
          intro q hz F
          obtain ⟨n, v, q, e, h1, h2, h3, h5, h4⟩ := F
          exact ⟨n, v, q, e, h1, h2, h3.keep kp (fun c => hz z List.mem_cons_self (by cases c; rfl)), h5, ih (fun w m => hz w (List.mem_cons_of_mem _ m)) h4⟩
      exact this h5 h4
    · rw [if_neg hf]
      rw [List.lookup_cons, beq_false_of_ne (Ne.symm hf)] at e
      refine ⟨n, v, q, rfl, h1, h2, h3.keep kp (fun c => hf (by cases c; rfl)), fun z m => ?_, FR.rep nd kp h4 e fun n' v' hn' l' fv => hx n' v' hn' (by rw [List.lookup_cons, beq_false_of_ne (nm_ne nd hn' h1 (Ne.symm hf))]; exact l') fv⟩
      rcases putN_keys m with e | m
      · rw [e]; exact Ne.symm hf
      · exact h5 z m
/-- a field is stored -/
theorem FR.put {r f : Nat} {C : Addr} {x : FV} {n : Str} (nd : Γ.nm.Nodup) (kp : Kp Z g g' H H' fun p => p ≠ .fld r f) (hn : Γ.nm[f]? = some n) (na : NoAttr Γ.K C n) (hx : FVR Γ Z Lt g' H' (.fld r f) x v) :
    ∀ {fs : List (Nat × FV)} {ws : List (Str × V)}, FR Γ Z Lt g H r C fs ws → FR Γ Z Lt g' H' r C (putN f x fs) (putF n v ws)
  | [], _, F => by
    cases (show _ = [] from F)
    exact ⟨n, v, [], rfl, hn, na, hx, fun z m => (nomatch m), rfl⟩
  | (j, y) :: fs, _, F => by
    obtain ⟨m, w, q, rfl, h1, h2, h3, h5, h4⟩ := F
    unfold putN putF
    by_cases hf : j = f
    · subst hf
      rw [if_pos rfl]
      have e : m = n := by rw [hn] at h1; cases h1; rfl
      subst e
      rw [if_pos rfl]
      refine ⟨m, v, q, rfl, h1, h2, hx, h5, ?_⟩
      have : ∀ {fs : List (Nat × FV)} {q : List (Str × V)}, (∀ z ∈ fs, z.1 ≠ j) → FR Γ Z Lt g H r C fs q → FR Γ Z Lt g' H' r C fs q := by
        intro fs
        induction fs with
        | nil => intro q _ F; exact F
        | cons z fs ih =>
          intro q hz F
          obtain ⟨n, v, q, e, h1, h2, h3, h5, h4⟩ := F
          exact ⟨n, v, q, e, h1, h2, h3.keep kp (fun c => hz z List.mem_cons_self (by cases c; rfl)), h5, ih (fun w m => hz w (List.mem_cons_of_mem _ m)) h4⟩
      exact this h5 h4
    · rw [if_neg hf, if_neg (nm_ne nd h1 hn hf)]
      refine ⟨m, w, _, rfl, h1, h2, h3.keep kp (fun c => hf (by cases c; rfl)), fun z mz => ?_, FR.put nd kp hn na hx h4⟩
      rcases putN_keys mz with e | mz
      · rw [e]; exact Ne.symm hf
      · exact h5 z mz
theorem FR.length {r : Nat} {C : Addr} : ∀ {fs : List (Nat × FV)} {ws : List (Str × V)}, FR Γ Z Lt g H r C fs ws → ws.length = fs.length
  | [], _, F => by cases (show _ = [] from F); rfl
  | y :: fs, _, F => by obtain ⟨m, w, q, rfl, _, _, _, _, h4⟩ := F; simp [FR.length h4]
/-- one object's fields change -/
theorem SH.updO {r c : Nat} {fs fs' : List (Nat × FV)} {q : Path → Prop} (s : SH Γ Z Lt g h H) (kp : Kp Z g g' H H' q) (hq : ∀ j i, j ≠ r → q (.fld j i)) (hM : g'.M = g.M) (hr : g.M[r]? = some a) (hl : h[r]? = some (.ins c fs))
    (hH : ∀ b o, b ∈ g.M → b ≠ a → H b = some o → H' b = some o) (gh : ∀ a o, g'.G a = some o → H' a = some o) (zh : ∀ a o, Z a = some o → H' a = some o) (gz : ∀ a o, Z a = some o → g'.G a = none)
    (mf : ∀ a, a ∈ g.M → g'.G a = none ∧ g'.O a = none) (new : OR Γ Z Lt g' H' r a (.ins c fs')) : SH Γ Z Lt g' (h.set r (.ins c fs')) H' :=
  ⟨gh, zh, gz, by rw [hM, List.length_set]; exact s.ml, by rw [hM]; exact s.mn, fun a m => by rw [hM] at m; exact ⟨(mf a m).1, (s.mf a m).2.1, (mf a m).2⟩, fun j lo b e1 e2 => by
    rw [hM] at e2
    by_cases hj : j = r
    · subst hj
      rw [hr] at e2; cases e2
      rw [List.getElem?_set_self (List.getElem?_eq_some_iff.mp hl).1] at e1
      cases e1
      exact new
    · rw [List.getElem?_set_ne (Ne.symm hj)] at e1
      have ne : b ≠ a := fun z => by
        subst z
        obtain ⟨b1, c1⟩ := List.getElem?_eq_some_iff.mp e2
        obtain ⟨b2, c2⟩ := List.getElem?_eq_some_iff.mp hr
        exact hj ((List.getElem_inj s.mn).mp (c1.trans c2.symm))
      exact (s.ob j lo b e1 e2).keep kp (fun i => hq j i hj) (fun o e => hH b o (List.mem_of_getElem? e2) ne e), s.nd, s.lz⟩
theorem LS.fld_ins {r f : Nat} {x : FV} (e : st.fld r f = some x) : ∃ c fs, st.h[r]? = some (.ins c fs) ∧ fs.lookup f = some x ∧ ∀ y, st.setF r f y = { st with h := st.h.set r (.ins c (putN f y fs)) } := by
  unfold LS.fld at e
  split at e
  · rename_i c fs e1
    exact ⟨c, fs, e1, e, fun y => by unfold LS.setF; rw [e1]⟩
  · cases e
theorem SR.frzF {r f : Nat} (s : SR Γ Z Lt g st σ H) (hr : g.M[r]? = some a) (e : st.fld r f = some (.own d)) :
    ∃ g' C dx ws n b, H a = some (.ins C dx ws) ∧ Cls Γ.K C ∧ Γ.nm[f]? = some n ∧ NoAttr Γ.K C n ∧ ws.lookup n = some (.ref b) ∧ SR Γ Z Lt g' (st.setF r f (.val d)) σ H ∧ GT Z g g' ∧ RD Γ g' d (.ref b) := by
  obtain ⟨C, dx, ws, n, v, h1, h2, h3, h4, h5, b, rfl, k1, k2, k3, k4, o, k5, k6⟩ := s.fld hr e
  obtain ⟨c, fs, l1, l2, l3⟩ := LS.fld_ins e
  have hq : ∀ p : Path, g.O b = some p → ¬ (p ≠ .fld r f) := fun p e => by rw [k3] at e; cases e; exact fun z => z rfl
  have kp : Kp Z g (g.put b o) H H fun p => p ≠ .fld r f := Kp.frz k1 hq
  have rd : RD Γ (g.put b o) d (.ref b) := CR.rd (k6.mono kp.gt.le kp.gt.mp) put_same
  refine ⟨g.put b o, C, dx, ws, n, b, h1, h2, h3, h4, h5, ?_, kp.gt, rd⟩
  rw [l3]
  obtain ⟨C', dx', ws', m1, m2, m3, m4⟩ := s.sh.ob r _ a l1 hr
  rw [h1] at m3; cases m3
  refine ⟨s.sh.updO kp (fun j i hj z => hj (by cases z; rfl)) rfl hr l1 (fun b o _ _ e => e) (fun b' u e' => ?_) s.sh.zh (fun b' u e' => ?_) (fun b' m => ?_) ⟨C, dx, ws, m1, m2, h1, FR.rep s.sh.nd kp m4 l2 fun n' v' hn l' _ => ?_⟩, s.sl, fun i x ei => ?_⟩
  · by_cases q : b' = b
    · subst q; rw [put_same] at e'; cases e'; exact k5
    · rw [put_ne q] at e'; exact s.sh.gh _ _ e'
  · rw [put_ne (ne_of_none e' k2)]; exact s.sh.gz _ _ e'
  · have ne : b' ≠ b := fun z => k4 (z ▸ m)
    exact ⟨by rw [put_ne ne]; exact (s.sh.mf b' m).1, (s.sh.mf b' m).2.2⟩
  · rw [h3] at hn; cases hn
    rw [h5] at l'; cases l'
    exact rd
  · obtain ⟨w, e2, fv⟩ := s.sv i x ei
    exact ⟨w, e2, fv.keep kp (by simp)⟩
end
end PL

/-! PyLite, part e: field reads, operators, tests. -/
namespace PL
open PySem PySem.Spec PyProof.Rows L2
section
variable {Γ : Tab} {W : WX} {Z : Hp} {Lt : Lend} {g g' : GM} {st st' : LS} {σ σ' : L2.St} {H H' : Hp} {h h' : List LO} {a p : Addr} {o : HO} {d : D} {v : V} {X : Cx} {e e1 e2 : Expr} {f k : E D}

def D.ref : D → Option Nat
  | .obj r => some r
  | _ => none
def eFld (i : Nat) (f : E D) : E D := fun st => (f st).bind fun d s1 => match d with
  | .obj r => match s1.fld r i with
    | some (.val x) => .ok x s1
    | some (.own x) => .ok x (s1.setF r i (.val x))
    | _ => .bad
  | _ => .bad
def vFld (i : Nat) (f : E D) : E D := fun st => (f st).bind fun d s1 => match d with
  | .obj r => match s1.fld r i with
    | some (.val x) => .ok x s1
    | some (.lent x) => .ok x s1
    | _ => .bad
  | _ => .bad
def cFld (i : Nat) (f : E D) : E D := fun st => (f st).bind fun d s1 => match d with
  | .obj r => match s1.fld r i with
    | some (.val x) => .ok x s1
    | some (.own x) => .ok x s1
    | some (.lent x) => .ok x s1
    | _ => .bad
  | _ => .bad
theorem RD.obj {r : Nat} (x : RD Γ g (.obj r) v) : ∃ a, v = .ref a ∧ g.M[r]? = some a := by simpa only [RD] using x
theorem pd_fld {i : Nat} {n : Str} {pos : Pos} (hn : Γ.nm[i]? = some n) (x : PD Γ W X e f) (hK : X.K = Γ.K) (hb : attributeBase e n X.env (eval e X.env) = eval e X.env) : PD Γ W X (.Attribute e n pos) (eFld i f) :=
  ⟨(pe_fld x.pe hb).csq fun σ H Q ⟨Z, Lt, g, st, s, h⟩ => ⟨Z, Lt, g, st, s, h.bind.imp fun d g1 st1 H1 s1 t1 k1 w r => by
    rw [hK]
    cases d with
    | obj r0 =>
      obtain ⟨a, rfl, hr⟩ := RD.obj r
      have k2 := k1 g1 H1 s1 (GT.refl _ _)
      simp only at k2
      split at k2
      · rename_i x' e'
        obtain ⟨C, dx, ws, n', v, h1, h2, h3, h4, h5, h6⟩ := s1.fld hr e'
        rw [hn] at h3; cases h3
        exact ⟨a, C, dx, ws, v, rfl, h1, h2, h4, h5, k2 g1 H1 s1 (GT.refl _ _) v h6⟩
      · rename_i x' e'
        obtain ⟨g2, C, dx, ws, n', b, h1, h2, h3, h4, h5, h6, h7, h8⟩ := s1.frzF hr e'
        rw [hn] at h3; cases h3
        exact ⟨a, C, dx, ws, _, rfl, h1, h2, h4, h5, k2 g2 H1 h6 h7 _ h8⟩
      · exact k2.elim
    | _ => exact (k1 g1 H1 s1 (GT.refl _ _)).elim⟩⟩
theorem SR.cvF {r i : Nat} {x : FV} (s : SR Γ Z Lt g st σ H) (hr : g.M[r]? = some a) (e : st.fld r i = some x) :
    ∃ C dx ws n v, H a = some (.ins C dx ws) ∧ Cls Γ.K C ∧ Γ.nm[i]? = some n ∧ NoAttr Γ.K C n ∧ ws.lookup n = some v ∧ CV Γ g H (match x with | .val d => d | .own d => d | .lent d => d) v := by
  obtain ⟨C, dx, ws, n', v, h1, h2, h3, h4, h5, r⟩ := s.fld hr e
  refine ⟨C, dx, ws, n', v, h1, h2, h3, h4, h5, ?_⟩
  cases x with
  | val d => exact .inl r
  | own d => obtain ⟨a, rfl, _, _, _, _, o, h5, h6⟩ := r; exact .inr ⟨a, o, rfl, h5, .inl h6⟩
  | lent d => obtain ⟨a, o, rfl, _, h3, h4⟩ := r; exact .inr ⟨a, o, rfl, s.sh.zh a o h3, h4⟩
theorem pc_fld {i : Nat} {n : Str} {pos : Pos} (hn : Γ.nm[i]? = some n) (x : PD Γ W X e f) (hK : X.K = Γ.K) (hb : attributeBase e n X.env (eval e X.env) = eval e X.env) : PC Γ W X (.Attribute e n pos) (cFld i f) :=
  ⟨(pe_fld x.pe hb).csq fun σ H Q ⟨Z, Lt, g, st, s, h⟩ => ⟨Z, Lt, g, st, s, h.bind.imp fun d g1 st1 H1 s1 t1 k1 w r => by
    rw [hK]
    cases d with
    | obj r0 =>
      obtain ⟨a, rfl, hr⟩ := RD.obj r
      have k2 := k1 g1 H1 s1 (GT.refl _ _)
      simp only at k2
      split at k2
      all_goals first
        | exact k2.elim
        | (rename_i x' e'
           obtain ⟨C, dx, ws, n', v, h1, h2, h3, h4, h5, h6⟩ := s1.cvF hr e'
           rw [hn] at h3; cases h3
           exact ⟨a, C, dx, ws, v, rfl, h1, h2, h4, h5, k2 g1 H1 s1 (GT.refl _ _) v h6⟩)
    | _ => exact (k1 g1 H1 s1 (GT.refl _ _)).elim⟩⟩
theorem pv_fld {i : Nat} {n : Str} {pos : Pos} (hn : Γ.nm[i]? = some n) (x : PD Γ W X e f) (hK : X.K = Γ.K) (hb : attributeBase e n X.env (eval e X.env) = eval e X.env) : PV Γ W X (.Attribute e n pos) (vFld i f) :=
  ⟨(pe_fld x.pe hb).csq fun σ H Q ⟨Z, Lt, g, st, s, h⟩ => ⟨Z, Lt, g, st, s, h.bind.imp fun d g1 st1 H1 s1 t1 k1 w r => by
    rw [hK]
    cases d with
    | obj r0 =>
      obtain ⟨a, rfl, hr⟩ := RD.obj r
      have k2 := k1 g1 H1 s1 (GT.refl _ _)
      simp only at k2
      split at k2
      · rename_i x' e'
        obtain ⟨C, dx, ws, n', v, h1, h2, h3, h4, h5, h6⟩ := s1.fld hr e'
        rw [hn] at h3; cases h3
        exact ⟨a, C, dx, ws, v, rfl, h1, h2, h4, h5, k2 g1 H1 s1 (GT.refl _ _) v (.inl h6)⟩
      · rename_i x' e'
        obtain ⟨C, dx, ws, n', v, h1, h2, h3, h4, h5, b, o, rfl, _, h6, h7⟩ := s1.fld hr e'
        rw [hn] at h3; cases h3
        exact ⟨a, C, dx, ws, _, rfl, h1, h2, h4, h5, k2 g1 H1 s1 (GT.refl _ _) _ (.inr ⟨b, o, rfl, h6, h7⟩)⟩
      · exact k2.elim
    | _ => exact (k1 g1 H1 s1 (GT.refl _ _)).elim⟩⟩

/-! ### operators: their meaning on data, and what a rule's reading asks -/
abbrev Sem2 := D → D → E D
/-- a two-place operation's meaning is held by the rule's reading -/
def Holds2 (Γ : Tab) (W : WX) (X : Cx) (r : R2) (m : Sem2) : Prop := ∀ Z Lt g st σ H x y v w Q, SR Γ Z Lt g st σ H → CV Γ g H x v → CV Γ g H y w →
  (Go Γ W Z Lt σ (m x y st) g fun d g' _ H' => ∀ u, RD Γ g' d u → Q u H') → r v w H Q
abbrev Sem1 := D → E D
def Holds1 (Γ : Tab) (W : WX) (X : Cx) (r : V → Hp → VK → Prop) (m : Sem1) : Prop := ∀ Z Lt g st σ H x v Q, SR Γ Z Lt g st σ H → CV Γ g H x v →
  (Go Γ W Z Lt σ (m x st) g fun d g' _ H' => ∀ u, RD Γ g' d u → Q u H') → r v H Q
/-- .. with a fresh object for its value -/
def Holds2F (Γ : Tab) (W : WX) (X : Cx) (r : R2) (m : Sem2) : Prop := ∀ Z Lt g st σ H x y v w Q, SR Γ Z Lt g st σ H → CV Γ g H x v → CV Γ g H y w →
  (Go Γ W Z Lt σ (m x y st) g fun d g' _ H' => ∀ a, OA Γ Z g' H' .tmp a d → Q (.ref a) H') → r v w H Q
def Holds1F (Γ : Tab) (W : WX) (X : Cx) (r : V → Hp → VK → Prop) (m : Sem1) : Prop := ∀ Z Lt g st σ H x v Q, SR Γ Z Lt g st σ H → CV Γ g H x v →
  (Go Γ W Z Lt σ (m x st) g fun d g' _ H' => ∀ a, OA Γ Z g' H' .tmp a d → Q (.ref a) H') → r v H Q
def eBin (m : Sem2) (f k : E D) : E D := fun st => (f st).bind fun x s1 => (k s1).bind fun y s2 => m x y s2
def eUn (m : Sem1) (f : E D) : E D := fun st => (f st).bind m
theorem two {r : R2} {m : Sem2} (hm : Holds2 Γ W X r m) {Q : VK} (h : T Γ W (eBin m f k) σ H Q) : tOp r (TV Γ W f) (TV Γ W k) σ H Q := by
  obtain ⟨Z, Lt, g, st, s, h⟩ := h
  refine ⟨Z, Lt, g, st, s, h.bind.imp fun x g1 st1 H1 s1 t1 k1 v rx => ?_⟩
  refine ⟨Z, Lt, g1, st1, s1, (k1 g1 H1 s1 (GT.refl _ _)).bind.imp fun y g2 st2 H2 s2 t2 k2 w ry => ?_⟩
  exact hm Z Lt g2 st2 σ H2 x y v w Q s2 ((rx.up t2).cv s2) (ry.cv s2) (k2 g2 H2 s2 (GT.refl _ _))
theorem twoF {r : R2} {m : Sem2} (hm : Holds2F Γ W X r m) {Q : VK} (h : TF Γ W (eBin m f k) σ H Q) : tOp r (TV Γ W f) (TV Γ W k) σ H Q := by
  obtain ⟨Z, Lt, g, st, s, h⟩ := h
  refine ⟨Z, Lt, g, st, s, h.bind.imp fun x g1 st1 H1 s1 t1 k1 v rx => ?_⟩
  refine ⟨Z, Lt, g1, st1, s1, (k1 g1 H1 s1 (GT.refl _ _)).bind.imp fun y g2 st2 H2 s2 t2 k2 w ry => ?_⟩
  exact hm Z Lt g2 st2 σ H2 x y v w Q s2 ((rx.up t2).cv s2) (ry.cv s2) (k2 g2 H2 s2 (GT.refl _ _))
theorem one {r : V → Hp → VK → Prop} {m : Sem1} (hm : Holds1 Γ W X r m) {Q : VK} (h : T Γ W (eUn m f) σ H Q) : TC Γ W f σ H fun v H1 => r v H1 Q := by
  obtain ⟨Z, Lt, g, st, s, h⟩ := h
  refine ⟨Z, Lt, g, st, s, h.bind.imp fun x g1 st1 H1 s1 t1 k1 v rx => ?_⟩
  exact hm Z Lt g1 st1 σ H1 x v Q s1 rx (k1 g1 H1 s1 (GT.refl _ _))
theorem oneF {r : V → Hp → VK → Prop} {m : Sem1} (hm : Holds1F Γ W X r m) {Q : VK} (h : TF Γ W (eUn m f) σ H Q) : TC Γ W f σ H fun v H1 => r v H1 Q := by
  obtain ⟨Z, Lt, g, st, s, h⟩ := h
  refine ⟨Z, Lt, g, st, s, h.bind.imp fun x g1 st1 H1 s1 t1 k1 v rx => ?_⟩
  exact hm Z Lt g1 st1 σ H1 x v Q s1 rx (k1 g1 H1 s1 (GT.refl _ _))
theorem pd_bin {op : Operator} {r : R2} {m : Sem2} {pos : Pos} (ho : OpR X (binaryOp op) r) (hm : Holds2 Γ W X r m) (x : PV Γ W X e1 f) (y : PV Γ W X e2 k) : PD Γ W X (.BinOp e1 op e2 pos) (eBin m f k) :=
  ⟨(pe_op ho x.pe y.pe).csq fun σ H Q h => two hm h⟩
theorem pf_bin {op : Operator} {r : R2} {m : Sem2} {pos : Pos} (ho : OpR X (binaryOp op) r) (hm : Holds2F Γ W X r m) (x : PV Γ W X e1 f) (y : PV Γ W X e2 k) : PF Γ W X (.BinOp e1 op e2 pos) (eBin m f k) :=
  ⟨(pe_op ho x.pe y.pe).csq fun σ H Q h => twoF hm h⟩
theorem pd_un {op : UnaryOp} {r : V → Hp → VK → Prop} {m : Sem1} {pos : Pos} (ho : UnR X (unaryOp op) r) (hm : Holds1 Γ W X r m) (x : PC Γ W X e f) : PD Γ W X (.UnaryOp op e pos) (eUn m f) :=
  ⟨(pe_un ho x.pe).csq fun σ H Q h => one hm h⟩

/-! ### data on ints and texts -/
theorem CV.int {i : Int} (c : CV Γ g H (.int i) v) : v = .int i := by
  rcases c with c | ⟨a, o, _, _, c | ⟨_, _, _, c⟩⟩
  · simpa only [RD] using c
  · cases o <;> exact c.elim
  · rename_i u _; cases u <;> exact c.elim
theorem CV.bl {i : Bool} (c : CV Γ g H (.bl i) v) : v = .bl i := by
  rcases c with c | ⟨a, o, _, _, c | ⟨_, _, _, c⟩⟩
  · simpa only [RD] using c
  · cases o <;> exact c.elim
  · rename_i u _; cases u <;> exact c.elim
theorem CV.str {i : Str} (c : CV Γ g H (.str i) v) : v = .str i := by
  rcases c with c | ⟨a, o, _, _, c | ⟨_, _, _, c⟩⟩
  · simpa only [RD] using c
  · cases o <;> exact c.elim
  · rename_i u _; cases u <;> exact c.elim
theorem CV.non (c : CV Γ g H .non v) : v = .non := by
  rcases c with c | ⟨a, o, _, _, c | ⟨_, _, _, c⟩⟩
  · simpa only [RD] using c
  · cases o <;> exact c.elim
  · rename_i u _; cases u <;> exact c.elim
theorem CV.obj {r : Nat} (c : CV Γ g H (.obj r) v) : ∃ a, v = .ref a ∧ g.M[r]? = some a := by
  rcases c with c | ⟨a, o, _, _, c | ⟨_, _, _, c⟩⟩
  · exact RD.obj c
  · cases o <;> exact c.elim
  · rename_i u _; cases u <;> exact c.elim
theorem CV.tup {ds : List D} (c : CV Γ g H (.tup ds) v) (s : SR Γ Z Lt g st σ H) : ∃ a vs, v = .ref a ∧ SqT Γ.K H a vs ∧ RDs Γ g ds vs := by
  rcases c with c | ⟨a, o, _, _, c | ⟨_, _, _, c⟩⟩
  · simp only [RD] at c
    obtain ⟨a, vs, e, q, r⟩ := c
    exact ⟨a, vs, e, sqT_le (GLe.sub s.sh.gh) q, r⟩
  · cases o <;> exact c.elim
  · rename_i u _; cases u <;> exact c.elim
theorem CV.lst {ds : List D} (c : CV Γ g H (.lst ds) v) (s : SR Γ Z Lt g st σ H) : ∃ a vs, v = .ref a ∧ SqL Γ.K H a vs ∧ RDs Γ g ds vs := by
  rcases c with c | ⟨a, o, e, eo, c | ⟨ob, u, e2, c⟩⟩
  · simp only [RD] at c
    obtain ⟨a, vs, e, q, r⟩ := c
    exact ⟨a, vs, e, sqL_le (GLe.sub s.sh.gh) q, r⟩
  · cases o <;> first | exact c.elim | exact ⟨a, _, e, .inl (.inl eo), c⟩
  · subst e2
    cases u <;> first | exact c.elim | exact ⟨a, _, e, .inl (.inr ⟨ob, eo⟩), c⟩
theorem CV.dic {ds : List (Key × D)} (c : CV Γ g H (.dic ds) v) (s : SR Γ Z Lt g st σ H) : ∃ a vs, v = .ref a ∧ Rd H a (.dK vs) ∧ RDk Γ g ds vs := by
  rcases c with c | ⟨a, o, e, eo, c | ⟨ob, u, e2, c⟩⟩
  · simp only [RD] at c
    obtain ⟨a, vs, e, q, r⟩ := c
    exact ⟨a, vs, e, GLe.sub s.sh.gh _ _ rfl q, r⟩
  · cases o <;> first | exact c.elim | exact ⟨a, _, e, .inl eo, c⟩
  · subst e2
    cases u <;> first | exact c.elim | exact ⟨a, _, e, .inr ⟨ob, eo⟩, c⟩
theorem RD.int {i : Int} : RD Γ g (.int i) (.int i) := by simp [RD]
theorem RD.bl {i : Bool} : RD Γ g (.bl i) (.bl i) := by simp [RD]
theorem RD.str {i : Str} : RD Γ g (.str i) (.str i) := by simp [RD]
theorem RD.non : RD Γ g .non .non := by simp [RD]
/-- an answer that changes nothing -/
theorem ret_int {i : Int} {Q : VK} (s : SR Γ Z Lt g st σ H) (h : Go Γ W Z Lt σ (.ok (.int i) st) g fun d g' _ H' => ∀ u, RD Γ g' d u → Q u H') : Q (.int i) H := h g H s (GT.refl _ _) _ .int
theorem ret_bl {i : Bool} {Q : VK} (s : SR Γ Z Lt g st σ H) (h : Go Γ W Z Lt σ (.ok (.bl i) st) g fun d g' _ H' => ∀ u, RD Γ g' d u → Q u H') : Q (.bl i) H := h g H s (GT.refl _ _) _ .bl
theorem ret_str {i : Str} {Q : VK} (s : SR Γ Z Lt g st σ H) (h : Go Γ W Z Lt σ (.ok (.str i) st) g fun d g' _ H' => ∀ u, RD Γ g' d u → Q u H') : Q (.str i) H := h g H s (GT.refl _ _) _ .str

/-- ints -/
def mInt (C : Int → Int → Prop) [∀ i j, Decidable (C i j)] (o : Int → Int → D) : Sem2 := fun x y st => match x, y with
  | .int i, .int j => if C i j then .ok (o i j) st else .bad
  | _, _ => .bad
theorem holds_int {C : Int → Int → Prop} [∀ i j, Decidable (C i j)] {o : Int → Int → Int} : Holds2 Γ W X (rI C fun i j => .int (o i j)) (mInt C fun i j => .int (o i j)) := by
  intro Z Lt g st σ H x y v w Q s rx ry h
  unfold mInt at h
  split at h
  · rename_i i j
    rw [rx.int, ry.int]
    split at h
    · exact ⟨i, j, rfl, rfl, ‹_›, ret_int s h⟩
    · exact h.elim
  · exact h.elim
def mInt0 (o : Int → Int → D) : Sem2 := fun x y st => match x, y with
  | .int i, .int j => .ok (o i j) st
  | _, _ => .bad
theorem holds_int0 {o : Int → Int → Int} : Holds2 Γ W X (rI0 fun i j => .int (o i j)) (mInt0 fun i j => .int (o i j)) := by
  intro Z Lt g st σ H x y v w Q s rx ry h
  unfold mInt0 at h
  split at h
  · rw [rx.int, ry.int]; exact ⟨_, _, rfl, rfl, ret_int s h⟩
  · exact h.elim
theorem holds_cmp0 {o : Int → Int → Bool} : Holds2 Γ W X (rI0 fun i j => .bl (o i j)) (mInt0 fun i j => .bl (o i j)) := by
  intro Z Lt g st σ H x y v w Q s rx ry h
  unfold mInt0 at h
  split at h
  · rw [rx.int, ry.int]; exact ⟨_, _, rfl, rfl, ret_bl s h⟩
  · exact h.elim
theorem Holds2.or {r r' : R2} {m m' mm : Sem2} (h : Holds2 Γ W X r m) (h' : Holds2 Γ W X r' m') (c : ∀ x y st, mm x y st = m x y st ∨ mm x y st = m' x y st) : Holds2 Γ W X (fun x y H Q => r x y H Q ∨ r' x y H Q) mm := by
  intro Z Lt g st σ H x y v w Q s rx ry hh
  rcases c x y st with e | e
  · exact .inl (h Z Lt g st σ H x y v w Q s rx ry (by rw [← e]; exact hh))
  · exact .inr (h' Z Lt g st σ H x y v w Q s rx ry (by rw [← e]; exact hh))
end
end PL

/-! PyLite, part f: the operators by name, tests, displays. -/
namespace PL
open PySem PySem.Spec PyProof.Rows L2
section
variable {Γ : Tab} {W : WX} {Z : Hp} {Lt : Lend} {g g' : GM} {st st' : LS} {σ σ' : L2.St} {H H' : Hp} {h h' : List LO} {a p : Addr} {o : HO} {d : D} {v : V} {X : Cx} {e e1 e2 e3 : Expr} {f k : E D} {pos : Pos}

/-! ### new objects -/
abbrev GM.tmp (g : GM) (p : Addr) (q : Path) : GM := { g with O := fun b => if b = p then some q else g.O b }
theorem tmp_same {q : Path} : (g.tmp p q).O p = some q := if_pos rfl
theorem tmp_ne {q : Path} (h : a ≠ p) : (g.tmp p q).O a = g.O a := if_neg h
theorem Kp.newT (s : SH Γ Z Lt g h H) (n : H p = none) (q : Path) : Kp Z g (g.tmp p q) H (upd H p o) fun _ => True :=
  ⟨⟨GLe.refl _, ⟨[], by simp⟩, fun a u e => tmp_ne (ne_of_none e (s.new n).2.2), fun _ _ _ h => h⟩, fun a t _ _ h1 h2 h3 h4 h5 => by
    have ne : a ≠ p := ne_of_none h5 n
    exact ⟨h1, by rw [tmp_ne ne]; exact h3, h4, by rw [upd_ne ne]; exact h5⟩⟩
theorem SR.newT (s : SR Γ Z Lt g st σ H) (n : H p = none) (c : CR Γ g d o) : SR Γ Z Lt (g.tmp p .tmp) st σ (upd H p o) ∧ GT Z g (g.tmp p .tmp) ∧ OA Γ Z (g.tmp p .tmp) (upd H p o) .tmp p d := by
  have nn := s.sh.new n
  have kp := Kp.newT (o := o) s.sh n .tmp
  refine ⟨s.keep kp (fun _ => trivial) rfl (fun a u m e => by rw [upd_ne (ne_of_none e n)]; exact e) (fun a u e => by rw [upd_ne (ne_of_none e nn.2.1)]; exact s.sh.gh a u e)
    (fun a u e => by rw [upd_ne (ne_of_none e nn.2.2)]; exact s.sh.zh a u e) (fun a u e => s.sh.gz a u e) fun a m => ⟨(s.sh.mf a m).1, (tmp_ne (fun q => nn.1 (by rw [← q]; exact m))).trans (s.sh.mf a m).2.2⟩, kp.gt, nn.2.1, nn.2.2, tmp_same, nn.1, o, upd_same, c.mono kp.gt.le kp.gt.mp⟩
/-- a fresh list is given out -/
theorem retF {ds : List D} {vs : List V} {Q : VK} (s : SR Γ Z Lt g st σ H) (r : RDs Γ g ds vs) (h : Go Γ W Z Lt σ (.ok (.lst ds) st) g fun d g' _ H' => ∀ a, OA Γ Z g' H' .tmp a d → Q (.ref a) H') :
    ∀ p, H p = none → Q (.ref p) (upd H p (.lst vs)) := fun p n => by
  obtain ⟨s', t, x⟩ := s.newT (d := .lst ds) (o := .lst vs) n r
  exact h _ _ s' t _ x
theorem Holds2F.toV {r : R2} {m : Sem2} (x : Holds2F Γ W X r m) : Holds2 Γ W X r m := by
  intro Z Lt g st σ H x' y v w Q s rx ry h
  refine x Z Lt g st σ H x' y v w Q s rx ry (h.imp fun d g' st' H' s' t k a oa => ?_)
  obtain ⟨g2, s2, t2, rd⟩ := oa.rd s'
  exact k g2 H' s2 t2 _ rd
theorem Holds1F.toV {r : V → Hp → VK → Prop} {m : Sem1} (x : Holds1F Γ W X r m) : Holds1 Γ W X r m := by
  intro Z Lt g st σ H x' v Q s rx h
  refine x Z Lt g st σ H x' v Q s rx (h.imp fun d g' st' H' s' t k a oa => ?_)
  obtain ⟨g2, s2, t2, rd⟩ := oa.rd s'
  exact k g2 H' s2 t2 _ rd

/-! ### + -/
def rCatL (K : PySem.W.Frag) : R2 := fun x y H Q => ∃ l b xs zs, x = .ref l ∧ y = .ref b ∧ SqL K H l xs ∧ SqL K H b zs ∧ xs.length + zs.length ≤ sizeLine ∧ ∀ p, H p = none → Q (.ref p) (upd H p (.lst (xs ++ zs)))
theorem op_catL : OpR X (binaryOp .Add) (rCatL X.K) := by
  intro pins s σ H x y v u Q I rx ry h
  obtain ⟨l, b, xs, zs, rfl, rfl, hL, hB, hz, q⟩ := h
  cases rx
  cases ry
  obtain ⟨its, r, ⟨o, n, e, c1, c2, c3⟩, _⟩ := I.list hL
  obtain ⟨its2, r2, ⟨o2, n2, e2, d1, d2, d3⟩, _⟩ := I.list hB
  obtain ⟨oc, od, odt, osl⟩ := o
  obtain ⟨oc2, od2, odt2, osl2⟩ := o2
  simp only at c1 c2 c3 d1 d2 d3
  subst c1 c2 c3 d1 d2 d3
  have hsz : its.toArray.size + its2.toArray.size ≤ sizeLine := by
    rw [List.size_toArray, List.size_toArray, ← r.length, ← r2.length]; exact hz
  have ea : its.toArray ++ its2.toArray = (its ++ its2).toArray := by simp
  refine concat_meets ⟨_, e, rfl⟩ ⟨_, e2, rfl⟩ noFill_list_add seq_list_add F.slot_list_add F.entry_list_add (F.args_list_add_2 _ _)
    (list_addW l b its.toArray its2.toArray n n2 none none osl osl2 hsz) ⟨e, e2, ?_⟩
  rw [ea]
  exact ⟨.ref _, _, I.lnew (t' := s.toks) (r.append r2) (by rw [List.length_append]; exact hz), rfl, q _ I.fresh⟩
def mCat : Sem2 := fun x y st => match x, y with
  | .lst xs, .lst ys => if xs.length + ys.length ≤ 16777216 then .ok (.lst (xs ++ ys)) st else .bad
  | _, _ => .bad
theorem holds_cat (hK : X.K = Γ.K) : Holds2F Γ W X (rCatL X.K) mCat := by
  intro Z Lt g st σ H x y v w Q s rx ry h
  unfold mCat at h
  split at h
  · rename_i xs ys
    split at h
    · rename_i hl
      obtain ⟨a, vs, rfl, q1, r1⟩ := rx.lst s
      obtain ⟨b, ws, rfl, q2, r2⟩ := ry.lst s
      exact ⟨a, b, vs, ws, rfl, rfl, by rw [hK]; exact q1, by rw [hK]; exact q2, by rw [← r1.length, ← r2.length, sizeLine_eq]; exact hl, retF s (r1.append r2) h⟩
    · exact h.elim
  · exact h.elim
def mStr : Sem2 := fun x y st => match x, y with
  | .str i, .str j => if i.length + j.length ≤ 16777216 then .ok (.str (i ++ j)) st else .bad
  | _, _ => .bad
theorem holds_str : Holds2 Γ W X (fun x y H Q => ∃ i j, x = .str i ∧ y = .str j ∧ i.length + j.length ≤ sizeLine ∧ Q (.str (i ++ j)) H) mStr := by
  intro Z Lt g st σ H x y v w Q s rx ry h
  unfold mStr at h
  split at h
  · rw [rx.str, ry.str]
    split at h
    · rename_i hl
      exact ⟨_, _, rfl, rfl, by rw [sizeLine_eq]; exact hl, ret_str s h⟩
    · exact h.elim
  · exact h.elim
def mAdd : Sem2 := fun x y st => match x, y with
  | .int i, .int j => .ok (.int (i + j)) st
  | .str i, .str j => if i.length + j.length ≤ 16777216 then .ok (.str (i ++ j)) st else .bad
  | .lst xs, .lst ys => if xs.length + ys.length ≤ 16777216 then .ok (.lst (xs ++ ys)) st else .bad
  | _, _ => .bad
def mAdd2 : Sem2 := fun x y st => match x, y with
  | .int i, .int j => .ok (.int (i + j)) st
  | .str i, .str j => if i.length + j.length ≤ 16777216 then .ok (.str (i ++ j)) st else .bad
  | _, _ => .bad
theorem pd_add (hK : X.K = Γ.K) (x : PV Γ W X e1 f) (y : PV Γ W X e2 k) : PD Γ W X (.BinOp e1 .Add e2 pos) (eBin mAdd f k) := by
  refine pd_bin ((op_add.or op_add_str).or op_catL) ?_ x y
  refine Holds2.or (m := mAdd2) (Holds2.or holds_int0 holds_str fun x y st => ?_) (holds_cat hK).toV fun x y st => ?_
  · unfold mAdd2 mInt0 mStr
    split <;> first | exact .inl rfl | exact .inr rfl | (left; split <;> simp_all)
  · unfold mAdd mAdd2 mCat
    split <;> first | exact .inl rfl | exact .inr rfl | (left; split <;> simp_all)
theorem pf_cat (hK : X.K = Γ.K) (x : PV Γ W X e1 f) (y : PV Γ W X e2 k) : PF Γ W X (.BinOp e1 .Add e2 pos) (eBin mCat f k) := pf_bin op_catL (holds_cat hK) x y

/-! ### the other operators on ints -/
instance : ∀ i j, Decidable (CDivW i j) := fun i j => by unfold CDivW; infer_instance
instance : ∀ i j, Decidable (CMulX i j) := fun i j => by unfold CMulX; infer_instance
instance : ∀ i j, Decidable (CShl i j) := fun i j => by unfold CShl; infer_instance
instance : ∀ i j, Decidable (CPow i j) := fun i j => by unfold CPow; infer_instance
def mSub : Sem2 := mInt0 fun i j => .int (i - j)
def mMul : Sem2 := mInt CMulX fun i j => .int (i * j)
def mDiv : Sem2 := mInt CDivW fun i j => .int (i / j)
def mMod : Sem2 := mInt (fun _ j => 0 < j) fun i j => .int (i % j)
def mShl : Sem2 := mInt CShl fun i j => .int (i * 2 ^ j.toNat)
def mShr : Sem2 := mInt (fun _ j => 0 ≤ j) fun i j => .int (i / 2 ^ j.toNat)
def mPow : Sem2 := mInt CPow fun i j => .int (i ^ j.toNat)
def mAnd : Sem2 := mInt0 fun i j => .int (Builtin.bitAnd i j)
theorem pd_sub (x : PV Γ W X e1 f) (y : PV Γ W X e2 k) : PD Γ W X (.BinOp e1 .Sub e2 pos) (eBin mSub f k) := pd_bin op_sub holds_int0 x y
theorem pd_mul (x : PV Γ W X e1 f) (y : PV Γ W X e2 k) : PD Γ W X (.BinOp e1 .Mult e2 pos) (eBin mMul f k) := pd_bin op_mulX holds_int x y
theorem pd_div (x : PV Γ W X e1 f) (y : PV Γ W X e2 k) : PD Γ W X (.BinOp e1 .FloorDiv e2 pos) (eBin mDiv f k) := pd_bin op_fdivW holds_int x y
theorem pd_mod (x : PV Γ W X e1 f) (y : PV Γ W X e2 k) : PD Γ W X (.BinOp e1 .Mod e2 pos) (eBin mMod f k) := pd_bin op_mod holds_int x y
theorem pd_shl (x : PV Γ W X e1 f) (y : PV Γ W X e2 k) : PD Γ W X (.BinOp e1 .LShift e2 pos) (eBin mShl f k) := pd_bin op_shlW holds_int x y
theorem pd_shr (x : PV Γ W X e1 f) (y : PV Γ W X e2 k) : PD Γ W X (.BinOp e1 .RShift e2 pos) (eBin mShr f k) := pd_bin op_shr holds_int x y
theorem pd_pow (x : PV Γ W X e1 f) (y : PV Γ W X e2 k) : PD Γ W X (.BinOp e1 .Pow e2 pos) (eBin mPow f k) := pd_bin op_pow holds_int x y
theorem pd_bitand (x : PV Γ W X e1 f) (y : PV Γ W X e2 k) : PD Γ W X (.BinOp e1 .BitAnd e2 pos) (eBin mAnd f k) := pd_bin op_and holds_int0 x y
def mNeg : Sem1 := fun x st => match x with
  | .int i => .ok (.int (-i)) st
  | _ => .bad
theorem pd_neg (x : PC Γ W X e f) : PD Γ W X (.UnaryOp .USub e pos) (eUn mNeg f) := by
  refine pd_un un_neg (fun Z Lt g st σ H x v Q s rx h => ?_) x
  unfold mNeg at h
  split at h
  · rw [rx.int]; exact ⟨_, rfl, ret_int s h⟩
  · exact h.elim

/-! ### comparisons -/
def mLt : Sem2 := mInt0 fun i j => .bl (decide (i < j))
def mLe : Sem2 := mInt0 fun i j => .bl (decide (i ≤ j))
def mGt : Sem2 := mInt0 fun i j => .bl (decide (j < i))
def mGe : Sem2 := mInt0 fun i j => .bl (decide (j ≤ i))
theorem holds_lt : Holds2 Γ W X (rI0 fun i j => .bl (decide (i < j))) mLt := holds_cmp0
theorem holds_le : Holds2 Γ W X (rI0 fun i j => .bl (decide (i ≤ j))) mLe := holds_cmp0
theorem holds_gt : Holds2 Γ W X (rI0 fun i j => .bl (decide (j < i))) mGt := holds_cmp0
theorem holds_ge : Holds2 Γ W X (rI0 fun i j => .bl (decide (j ≤ i))) mGe := holds_cmp0
mutual
def pyd : D → Option PyData
  | .non => some .none
  | .bl b => some (.bool b)
  | .int i => some (.int i)
  | .str x => some (.str x)
  | .tup ds => (pyds ds).map .tuple
  | .lst ds => (pyds ds).map .list
  | _ => none
def pyds : List D → Option (List PyData)
  | [] => some []
  | d :: ds => (pyd d).bind fun x => (pyds ds).map (x :: ·)
end
end
end PL

/-! PyLite, part g: equality, tests, displays, items. -/
namespace PL
open PySem PySem.Spec PyProof.Rows L2
mutual
def deq : D → D → Bool
  | .non, .non => true
  | .bl a, .bl b => a == b
  | .bl a, .int j => (if a then 1 else 0) == j
  | .int i, .bl b => i == (if b then 1 else 0)
  | .int i, .int j => i == j
  | .str x, .str y => x == y
  | .tup xs, .tup ys => deqs xs ys
  | .lst xs, .lst ys => deqs xs ys
  | _, _ => false
def deqs : List D → List D → Bool
  | [], [] => true
  | x :: xs, y :: ys => deq x y && deqs xs ys
  | _, _ => false
end
mutual
/-- data without objects, at most n deep -/
def pln : Nat → D → Bool
  | _, .non => true
  | _, .bl _ => true
  | _, .int _ => true
  | _, .str x => PyData.strOk x
  | n + 1, .tup ds => plns n ds
  | n + 1, .lst ds => plns n ds
  | _, _ => false
def plns : Nat → List D → Bool
  | _, [] => true
  | n, d :: ds => pln n d && plns n ds
end
mutual
def toP : D → PyData
  | .bl b => .bool b
  | .int i => .int i
  | .str x => .str x
  | .tup ds => .tuple (toPs ds)
  | .lst ds => .list (toPs ds)
  | _ => .none
def toPs : List D → List PyData
  | [] => []
  | d :: ds => toP d :: toPs ds
end
section
variable {Γ : Tab} {W : WX} {Z : Hp} {Lt : Lend} {g g' : GM} {st st' : LS} {σ σ' : L2.St} {H H' : Hp} {h h' : List LO} {a p : Addr} {o : HO} {d : D} {v : V} {X : Cx} {e e1 e2 e3 : Expr} {f k l : E D} {pos : Pos}
mutual
theorem pln_p : ∀ (n : Nat) (d : D), pln n d = true → (toP d).canLay0 = true ∧ (toP d).depth ≤ n
  | n, .non, _ => by cases n <;> simp [toP, PyData.canLay0, PyData.depth]
  | n, .bl b, _ => by cases n <;> simp [toP, PyData.canLay0, PyData.depth]
  | n, .int b, _ => by cases n <;> simp [toP, PyData.canLay0, PyData.depth]
  | n, .str b, h => by cases n <;> simpa [toP, PyData.canLay0, PyData.depth, pln] using h
  | n + 1, .tup ds, h => by
    have := plns_p n ds (by simpa [pln] using h)
    simp only [toP, PyData.canLay0, PyData.depth]
    exact ⟨this.1, Nat.succ_le_succ this.2⟩
  | n + 1, .lst ds, h => by
    have := plns_p n ds (by simpa [pln] using h)
    simp only [toP, PyData.canLay0, PyData.depth]
    exact ⟨this.1, Nat.succ_le_succ this.2⟩
  | 0, .tup ds, h => by simp [pln] at h
  | 0, .lst ds, h => by simp [pln] at h
  | n, .dic ds, h => by cases n <;> simp [pln] at h
  | n, .obj ds, h => by cases n <;> simp [pln] at h
  | n, .err ds, h => by cases n <;> simp [pln] at h
theorem plns_p : ∀ (n : Nat) (ds : List D), plns n ds = true → PyData.canLayAll0 (toPs ds) = true ∧ PyData.depthAll (toPs ds) ≤ n
  | n, [], _ => by cases n <;> simp [toPs, PyData.canLayAll0, PyData.depthAll]
  | n, d :: ds, h => by
    simp only [plns, Bool.and_eq_true] at h
    have h1 := pln_p n d h.1
    have h2 := plns_p n ds h.2
    simp only [toPs, PyData.canLayAll0, PyData.depthAll, Bool.and_eq_true]
    exact ⟨⟨h1.1, h2.1⟩, Nat.max_le.mpr ⟨h1.2, h2.2⟩⟩
end
mutual
theorem deq_p : ∀ (n m : Nat) (x y : D), pln n x = true → pln m y = true → PyData.eqv (toP x) (toP y) = deq x y
  | n, m, .non, y, _, h => by cases y <;> first | (simp [toP, PyData.eqv, deq]; done) | (cases m <;> simp [pln] at h)
  | n, m, .bl b, y, _, h => by cases y <;> first | (simp [toP, PyData.eqv, deq]; done) | (cases m <;> simp [pln] at h)
  | n, m, .int b, y, _, h => by cases y <;> first | (simp [toP, PyData.eqv, deq]; done) | (cases m <;> simp [pln] at h)
  | n, m, .str b, y, _, h => by cases y <;> first | (simp [toP, PyData.eqv, deq]; done) | (cases m <;> simp [pln] at h)
  | n + 1, m, .tup ds, y, h1, h => by
    cases y with
    | tup es =>
      cases m with
      | zero => simp [pln] at h
      | succ m => simp only [toP, PyData.eqv, deq]; exact deqs_p n m ds es (by simpa [pln] using h1) (by simpa [pln] using h)
    | _ => first | (simp [toP, PyData.eqv, deq]; done) | (cases m <;> simp [pln] at h)
  | n + 1, m, .lst ds, y, h1, h => by
    cases y with
    | lst es =>
      cases m with
      | zero => simp [pln] at h
      | succ m => simp only [toP, PyData.eqv, deq]; exact deqs_p n m ds es (by simpa [pln] using h1) (by simpa [pln] using h)
    | _ => first | (simp [toP, PyData.eqv, deq]; done) | (cases m <;> simp [pln] at h)
  | 0, _, .tup ds, _, h, _ => by simp [pln] at h
  | 0, _, .lst ds, _, h, _ => by simp [pln] at h
  | n, _, .dic ds, _, h, _ => by cases n <;> simp [pln] at h
  | n, _, .obj ds, _, h, _ => by cases n <;> simp [pln] at h
  | n, _, .err ds, _, h, _ => by cases n <;> simp [pln] at h
theorem deqs_p : ∀ (n m : Nat) (x y : List D), plns n x = true → plns m y = true → PyData.eqvAll (toPs x) (toPs y) = deqs x y
  | _, _, [], [], _, _ => by simp [toPs, PyData.eqvAll, deqs]
  | _, _, [], _ :: _, _, _ => by simp [toPs, PyData.eqvAll, deqs]
  | _, _, _ :: _, [], _, _ => by simp [toPs, PyData.eqvAll, deqs]
  | n, m, x :: xs, y :: ys, h1, h2 => by
    simp only [plns, Bool.and_eq_true] at h1 h2
    simp only [toPs, PyData.eqvAll, deqs]
    rw [deq_p n m x y h1.1 h2.1, deqs_p n m xs ys h1.2 h2.2]
end
mutual
theorem RD.dp (gh : ∀ a o, g.G a = some o → H a = some o) : ∀ (n : Nat) (d : D) (v : V), pln n d = true → RD Γ g d v → Dp Γ.K H v (toP d)
  | n, .non, v, _, r => by simp only [RD] at r; subst r; simp only [toP]; exact .non
  | n, .bl b, v, _, r => by simp only [RD] at r; subst r; simp only [toP]; exact .bl b
  | n, .int b, v, _, r => by simp only [RD] at r; subst r; simp only [toP]; exact .int b
  | n, .str b, v, _, r => by simp only [RD] at r; subst r; simp only [toP]; exact .str b
  | n + 1, .tup ds, v, h, r => by
    simp only [RD] at r
    obtain ⟨a, vs, rfl, q, r⟩ := r
    simp only [toP]
    exact .tup (sqT_le (GLe.sub gh) q) (RDs.dp gh n ds vs (by simpa [pln] using h) r)
  | n + 1, .lst ds, v, h, r => by
    simp only [RD] at r
    obtain ⟨a, vs, rfl, q, r⟩ := r
    simp only [toP]
    exact .lst (sqL_le (GLe.sub gh) q) (RDs.dp gh n ds vs (by simpa [pln] using h) r)
  | 0, .tup ds, _, h, _ => by simp [pln] at h
  | 0, .lst ds, _, h, _ => by simp [pln] at h
  | n, .dic ds, _, h, _ => by cases n <;> simp [pln] at h
  | n, .obj ds, _, h, _ => by cases n <;> simp [pln] at h
  | n, .err ds, _, h, _ => by cases n <;> simp [pln] at h
theorem RDs.dp (gh : ∀ a o, g.G a = some o → H a = some o) : ∀ (n : Nat) (d : List D) (v : List V), plns n d = true → RDs Γ g d v → DpAll Γ.K H v (toPs d)
  | n, [], v, _, r => by simp only [RDs] at r; subst r; simp only [toPs]; exact .nil
  | n, d :: ds, v, h, r => by
    simp only [RDs] at r
    obtain ⟨v, q, rfl, r1, r2⟩ := r
    simp only [plns, Bool.and_eq_true] at h
    simp only [toPs]
    exact .cons (RD.dp gh n d v h.1 r1) (RDs.dp gh n ds q h.2 r2)
end
theorem CV.dp (s : SR Γ Z Lt g st σ H) {n : Nat} (hp : pln n d = true) (c : CV Γ g H d v) : Dp Γ.K H v (toP d) := by
  cases d with
  | lst ds =>
    obtain ⟨a, vs, rfl, q, r⟩ := c.lst s
    cases n with
    | zero => simp [pln] at hp
    | succ n => simp only [toP]; exact .lst q (RDs.dp s.sh.gh n ds vs (by simpa [pln] using hp) r)
  | tup ds =>
    obtain ⟨a, vs, rfl, q, r⟩ := c.tup s
    cases n with
    | zero => simp [pln] at hp
    | succ n => simp only [toP]; exact .tup q (RDs.dp s.sh.gh n ds vs (by simpa [pln] using hp) r)
  | non => rw [c.non]; simp only [toP]; exact .non
  | bl b => rw [c.bl]; simp only [toP]; exact .bl b
  | int b => rw [c.int]; simp only [toP]; exact .int b
  | str b => rw [c.str]; simp only [toP]; exact .str b
  | _ => cases n <;> simp [pln] at hp
theorem shaped_of {n : Nat} (hn : n ≤ 64) (hp : pln n d = true) : SeqAt.shaped (toP d) = true := by
  have := pln_p n d hp
  unfold SeqAt.shaped
  rw [this.1, Bool.true_and, decide_eq_true_eq]
  omega
def mEq : Sem2 := fun x y st => if pln 20 x && pln 20 y then .ok (.bl (deq x y)) st else .bad
def mNe : Sem2 := fun x y st => if pln 20 x && pln 20 y then .ok (.bl (!deq x y)) st else .bad
theorem holds_eq (hK : X.K = Γ.K) : Holds2 Γ W X (rEqD X.K) mEq := by
  intro Z Lt g st σ H x y v w Q s rx ry h
  unfold mEq at h
  split at h
  · rename_i c
    rw [Bool.and_eq_true] at c
    rw [hK]
    refine ⟨_, _, rx.dp s c.1, ry.dp s c.2, shaped_of (by decide) c.1, shaped_of (by decide) c.2, ?_⟩
    rw [deq_p 20 20 x y c.1 c.2]
    exact ret_bl s h
  · exact h.elim
theorem holds_ne (hK : X.K = Γ.K) : Holds2 Γ W X (rNeD X.K) mNe := by
  intro Z Lt g st σ H x y v w Q s rx ry h
  unfold mNe at h
  split at h
  · rename_i c
    rw [Bool.and_eq_true] at c
    rw [hK]
    refine ⟨_, _, rx.dp s c.1, ry.dp s c.2, shaped_of (by decide) c.1, shaped_of (by decide) c.2, ?_⟩
    rw [deq_p 20 20 x y c.1 c.2]
    exact ret_bl s h
  · exact h.elim

/-! ### comparisons as values and as tests -/
theorem pd_cmp {op : CmpOp} {r : R2} {m : Sem2} (ho : OpR X (compareOp op) r) (hm : Holds2 Γ W X r m) (x : PV Γ W X e1 f) (y : PV Γ W X e2 k) (hb : behindInMarks op e2 = false) : PD Γ W X (.Compare e1 [op] [e2] pos) (eBin m f k) :=
  ⟨(pe_cmpR ho x.pe y.pe hb).csq fun σ H Q h => two hm h⟩
/-- an expression that tells True or False -/
def tst (f : E D) : E Bool := fun st => (f st).bind fun d s1 => match d with
  | .bl b => .ok b s1
  | _ => .bad
def ofB (f : E Bool) : E D := fun st => (f st).bind fun b s1 => .ok (.bl b) s1
theorem tst_T {Q : Bool → Hp → Prop} (h : TB Γ W (tst f) σ H Q) : T Γ W f σ H fun x H' => ∃ c, x = .bl c ∧ Q c H' := by
  obtain ⟨Z, Lt, g, st, s, h⟩ := h
  refine ⟨Z, Lt, g, st, s, h.bind.imp fun x g1 st1 H1 s1 t1 k1 v rx => ?_⟩
  have k2 := k1 g1 H1 s1 (GT.refl _ _)
  cases x with
  | bl b => simp only [RD] at rx; exact ⟨b, rx, k2 g1 H1 s1 (GT.refl _ _)⟩
  | _ => exact k2.elim
theorem tst_TC {Q : Bool → Hp → Prop} (h : TB Γ W (tst f) σ H Q) : TC Γ W f σ H fun x H' => ∃ c, x = .bl c ∧ Q c H' := by
  obtain ⟨Z, Lt, g, st, s, h⟩ := h
  refine ⟨Z, Lt, g, st, s, h.bind.imp fun x g1 st1 H1 s1 t1 k1 v rx => ?_⟩
  have k2 := k1 g1 H1 s1 (GT.refl _ _)
  cases x with
  | bl b => exact ⟨b, rx.bl, k2 g1 H1 s1 (GT.refl _ _)⟩
  | _ => exact k2.elim
theorem pb_cmp {op : CmpOp} {r : R2} {m : Sem2} (ho : OpR X (compareOp op) r) (hm : Holds2 Γ W X r m) (x : PV Γ W X e1 f) (y : PV Γ W X e2 k) (hb : behindInMarks op e2 = false) : PB Γ W X (.Compare e1 [op] [e2] pos) (tst (eBin m f k)) :=
  ⟨(pt_cmpR ho x.pe y.pe hb).csq fun σ H Q h => two hm (tst_T h)⟩
theorem pb_val (x : PC Γ W X e f) (he : ∀ whole, isTrue e X.env whole = (do let v ← whole; standAt e.pos; holding [v] (truthy v))) : PB Γ W X e (tst f) :=
  ⟨(pt_val x.pe he).csq fun σ H Q h => tst_TC h⟩

/-! ### and, or, not -/
section
variable {b1 b2 : E Bool} {es : List Expr}
def bAnd (f k : E Bool) : E Bool := fun st => (f st).bind fun b s1 => if b then k s1 else .ok false s1
def bOr (f k : E Bool) : E Bool := fun st => (f st).bind fun b s1 => if b then .ok true s1 else k s1
def bNot (f : E Bool) : E Bool := fun st => (f st).bind fun b s1 => .ok (!b) s1
structure PW (Γ : Tab) (W : WX) (X : Cx) (e : Expr) (f : E Bool) : Prop where
  pw : L2.PW X e (TB Γ W f)
theorem _root_.L2.PW.csq {X : Cx} {e : Expr} {t u : TT} (h : L2.PW X e t) (i : ∀ σ H Q, u σ H Q → t σ H Q) : L2.PW X e u := ⟨fun wh pins s σ H Q I w => h.run wh pins s σ H Q I (i _ _ _ w)⟩
theorem PW.pb (x : PW Γ W X e b1) : PB Γ W X e b1 := ⟨x.pw.pt⟩
theorem pw_and1' (x : PB Γ W X e b1) : PW Γ W X (.BoolOp .And [e] pos) b1 := ⟨pw_and1 x.pt⟩
theorem pw_or1' (x : PB Γ W X e b1) : PW Γ W X (.BoolOp .Or [e] pos) b1 := ⟨pw_or1 x.pt⟩
theorem tb_and {Q : Bool → Hp → Prop} (h : TB Γ W (bAnd b1 b2) σ H Q) : tAnd (TB Γ W b1) (TB Γ W b2) σ H Q := by
  obtain ⟨Z, Lt, g, st, s, h⟩ := h
  refine ⟨Z, Lt, g, st, s, h.bind.imp fun x g1 st1 H1 s1 t1 k1 => ?_⟩
  have k2 := k1 g1 H1 s1 (GT.refl _ _)
  cases x with
  | true => exact ⟨Z, Lt, g1, st1, s1, k2⟩
  | false => exact k2 g1 H1 s1 (GT.refl _ _)
theorem tb_or {Q : Bool → Hp → Prop} (h : TB Γ W (bOr b1 b2) σ H Q) : tOr (TB Γ W b1) (TB Γ W b2) σ H Q := by
  obtain ⟨Z, Lt, g, st, s, h⟩ := h
  refine ⟨Z, Lt, g, st, s, h.bind.imp fun x g1 st1 H1 s1 t1 k1 => ?_⟩
  have k2 := k1 g1 H1 s1 (GT.refl _ _)
  cases x with
  | false => exact ⟨Z, Lt, g1, st1, s1, k2⟩
  | true => exact k2 g1 H1 s1 (GT.refl _ _)
theorem pw_and' (x : PB Γ W X e1 b1) (y : PW Γ W X (.BoolOp .And (e2 :: es) pos) b2) : PW Γ W X (.BoolOp .And (e1 :: e2 :: es) pos) (bAnd b1 b2) := ⟨(pw_and x.pt y.pw).csq fun σ H Q h => tb_and h⟩
theorem pw_or' (x : PB Γ W X e1 b1) (y : PW Γ W X (.BoolOp .Or (e2 :: es) pos) b2) : PW Γ W X (.BoolOp .Or (e1 :: e2 :: es) pos) (bOr b1 b2) := ⟨(pw_or x.pt y.pw).csq fun σ H Q h => tb_or h⟩
theorem pb_not (x : PB Γ W X e b1) : PB Γ W X (.UnaryOp .Not e pos) (bNot b1) := ⟨(pt_not x.pt).csq fun σ H Q ⟨Z, Lt, g, st, s, h⟩ =>
  ⟨Z, Lt, g, st, s, h.bind.imp fun x g1 st1 H1 s1 t1 k1 => k1 g1 H1 s1 (GT.refl _ _) g1 H1 s1 (GT.refl _ _)⟩⟩
/-- as values -/
def eAnd (f k : E D) : E D := fun st => (tst f st).bind fun b s1 => if b then k s1 else .ok (.bl false) s1
def eOr (f k : E D) : E D := fun st => (tst f st).bind fun b s1 => if b then .ok (.bl true) s1 else k s1
def eNot (f : E D) : E D := fun st => (tst f st).bind fun b s1 => .ok (.bl (!b)) s1
theorem Go.tst {α : Type} {Q : α → GM → LS → Hp → Prop} {K : Bool → LS → Res α} {r : Res D} {g : GM} (h : Go Γ W Z Lt σ ((PL.tst (fun _ => r) st).bind K) g Q) :
    Go Γ W Z Lt σ r g fun d g1 st1 H1 => ∃ b, d = .bl b ∧ Go Γ W Z Lt σ (K b st1) g1 Q := by
  have h1 := Go.bind h
  unfold PL.tst at h1
  refine (Go.bind h1).imp fun d g1 st1 H1 s1 t1 k1 => ?_
  have k2 := k1 g1 H1 s1 (GT.refl _ _)
  cases d with
  | bl b => exact ⟨b, rfl, k2 g1 H1 s1 (GT.refl _ _)⟩
  | _ => exact k2.elim
theorem pd_one {op} (x : PD Γ W X e f) : PD Γ W X (.BoolOp op [e] pos) f := ⟨pe_one x.pe⟩
theorem pd_and (x : PD Γ W X e1 f) (y : PD Γ W X (.BoolOp .And (e2 :: es) pos) k) : PD Γ W X (.BoolOp .And (e1 :: e2 :: es) pos) (eAnd f k) :=
  ⟨(pe_and x.pe y.pe).csq fun σ H Q ⟨Z, Lt, g, st, s, h⟩ => ⟨Z, Lt, g, st, s, (Go.tst (st := st) h).imp fun d g1 st1 H1 s1 t1 k1 v r => by
    obtain ⟨b, rfl, k2⟩ := k1 g1 H1 s1 (GT.refl _ _)
    simp only [RD] at r
    refine ⟨b, r, ?_⟩
    cases b with
    | true => exact ⟨Z, Lt, g1, st1, s1, k2⟩
    | false => exact k2 g1 H1 s1 (GT.refl _ _) _ .bl⟩⟩
theorem pd_or (x : PD Γ W X e1 f) (y : PD Γ W X (.BoolOp .Or (e2 :: es) pos) k) : PD Γ W X (.BoolOp .Or (e1 :: e2 :: es) pos) (eOr f k) :=
  ⟨(pe_or x.pe y.pe).csq fun σ H Q ⟨Z, Lt, g, st, s, h⟩ => ⟨Z, Lt, g, st, s, (Go.tst (st := st) h).imp fun d g1 st1 H1 s1 t1 k1 v r => by
    obtain ⟨b, rfl, k2⟩ := k1 g1 H1 s1 (GT.refl _ _)
    simp only [RD] at r
    refine ⟨b, r, ?_⟩
    cases b with
    | false => exact ⟨Z, Lt, g1, st1, s1, k2⟩
    | true => exact k2 g1 H1 s1 (GT.refl _ _) _ .bl⟩⟩
theorem pd_not (x : PD Γ W X e f) : PD Γ W X (.UnaryOp .Not e pos) (eNot f) :=
  ⟨(pe_not x.pe).csq fun σ H Q ⟨Z, Lt, g, st, s, h⟩ => ⟨Z, Lt, g, st, s, (Go.tst (st := st) h).imp fun d g1 st1 H1 s1 t1 k1 v r => by
    obtain ⟨b, rfl, k2⟩ := k1 g1 H1 s1 (GT.refl _ _)
    simp only [RD] at r
    exact ⟨b, r, k2 g1 H1 s1 (GT.refl _ _) _ .bl⟩⟩⟩
def eIf (c : E Bool) (f k : E D) : E D := fun st => (c st).bind fun b s1 => if b then f s1 else k s1
theorem pd_ifExp (c : PB Γ W X e b1) (x : PD Γ W X e1 f) (y : PD Γ W X e2 k) : PD Γ W X (.IfExp e e1 e2 pos) (eIf b1 f k) :=
  ⟨(pe_ifExp c.pt x.pe y.pe).csq fun σ H Q ⟨Z, Lt, g, st, s, h⟩ => ⟨Z, Lt, g, st, s, h.bind.imp fun b g1 st1 H1 s1 t1 k1 => by
    have k2 := k1 g1 H1 s1 (GT.refl _ _)
    cases b with
    | true => exact ⟨Z, Lt, g1, st1, s1, k2⟩
    | false => exact ⟨Z, Lt, g1, st1, s1, k2⟩⟩⟩
end
end
end PL

/-! PyLite, part h: argument lists, displays, items, slices, in, the common built-ins. -/
namespace PL
open PySem PySem.Spec PyProof.Rows L2
/-- the item at a place of either sign -/
def atD {α : Type} (xs : List α) (i : Int) : Option α := if 0 ≤ i then xs[i.toNat]? else if -(xs.length : Int) ≤ i then xs[(i + xs.length).toNat]? else none
theorem atI_atD {α : Type} (xs : List α) (i : Int) : atI xs i = atD xs i := by
  unfold atI ixN atD
  split
  · split
    · rfl
    · rename_i h1 h2
      have : xs.length ≤ i.toNat := by omega
      simp [List.getElem?_eq_none this]
  · split <;> rfl
/-- xs[lo:hi] -/
def cutI (n d : Nat) : Option Int → Nat
  | none => d
  | some i => if i < 0 then (i + n).toNat else min i.toNat n
def cutD {α : Type} (xs : List α) (lo hi : Option Int) : List α := (xs.drop (cutI xs.length 0 lo)).take (cutI xs.length xs.length hi - cutI xs.length 0 lo)
theorem cutI_eq (n d : Nat) (o : Option Int) : HT.sIx n d o = cutI n d o := by
  cases o with
  | none => rfl
  | some i =>
    have h := HT.clip_eq i n d
    unfold cutI
    by_cases c : i < 0
    · rw [if_pos c] at h
      show HT.sIx n d (some i) = if i < 0 then _ else _
      rw [if_pos c]; omega
    · rw [if_neg c] at h
      show HT.sIx n d (some i) = if i < 0 then _ else _
      rw [if_neg c]; omega
def sortI (ns : List Int) : List Int := ns.mergeSort fun a b => decide (a ≤ b)
theorem sortI_one {ns ns' : List Int} (p : ns'.Perm ns) (s : ns'.Pairwise (· ≤ ·)) : ns' = sortI ns := by
  refine List.Perm.eq_of_pairwise (le := fun a b => decide (a ≤ b) = true) ?_ ?_ ?_ (p.trans (List.mergeSort_perm _ _).symm)
  · intro a b _ _ h1 h2; simp only [decide_eq_true_eq] at h1 h2; omega
  · exact s.imp fun h => by simpa using h
  · exact List.pairwise_mergeSort (fun a b c h1 h2 => by simp only [decide_eq_true_eq] at *; omega) (fun a b => by simp only [Bool.or_eq_true, decide_eq_true_eq]; omega) ns
/-- the whole numbers of a list of them -/
def intsOf : List D → Option (List Int)
  | [] => some []
  | .int i :: r => (intsOf r).map (i :: ·)
  | _ => none
section
variable {Γ : Tab} {W : WX} {Z : Hp} {Lt : Lend} {g g' : GM} {st st' : LS} {σ σ' : L2.St} {H H' : Hp} {h h' : List LO} {a p : Addr} {o : HO} {d : D} {v : V} {X : Cx} {e e1 e2 e3 : Expr} {es : List Expr} {f k l : E D} {pos pos2 ppos : Pos}
theorem ints_vs : ∀ {ds : List D} {vs : List V} {ns : List Int}, intsOf ds = some ns → RDs Γ g ds vs → vs = ns.map V.int
  | [], vs, ns, e, r => by cases e; simp only [RDs] at r; exact r
  | d :: ds, vs, ns, e, r => by
    cases d with
    | int i =>
      simp only [intsOf, Option.map_eq_some_iff] at e
      obtain ⟨ms, e, rfl⟩ := e
      simp only [RDs, RD] at r
      obtain ⟨v, q, rfl, rfl, r⟩ := r
      rw [ints_vs e r]; rfl
    | _ => simp [intsOf] at e
theorem ints_rd : ∀ (ns : List Int), RDs Γ g (ns.map D.int) (ns.map V.int)
  | [] => RDs.nil
  | n :: ns => RDs.cons RD.int (ints_rd ns)

/-! ### lists of expressions -/
structure PDs (Γ : Tab) (W : WX) (X : Cx) (es : List Expr) (f : E (List D)) : Prop where
  pa : PA X es (TAs Γ W f)
def eNil : E (List D) := fun st => .ok [] st
def eCons (f : E D) (k : E (List D)) : E (List D) := fun st => (f st).bind fun d s1 => (k s1).bind fun ds s2 => .ok (d :: ds) s2
theorem pds_nil : PDs Γ W X [] eNil := ⟨pa_nil.csq fun σ H Q ⟨Z, Lt, g, st, s, h⟩ => h g H s (GT.refl _ _) [] RDs.nil⟩
theorem pds_cons {fs : E (List D)} (x : PD Γ W X e f) (y : PDs Γ W X es fs) (hs : starEach (e :: es) X.env = (false, eval e X.env) :: starEach es X.env := by rfl) : PDs Γ W X (e :: es) (eCons f fs) :=
  ⟨(pa_cons x.pe y.pa hs).csq fun σ H Q ⟨Z, Lt, g, st, s, h⟩ => ⟨Z, Lt, g, st, s, h.bind.imp fun d g1 st1 H1 s1 t1 k1 v r =>
    ⟨Z, Lt, g1, st1, s1, (k1 g1 H1 s1 (GT.refl _ _)).bind.imp fun ds g2 st2 H2 s2 t2 k2 vs rs => k2 g2 H2 s2 (GT.refl _ _) g2 H2 s2 (GT.refl _ _) _ (RDs.cons (r.up t2) rs)⟩⟩⟩
def eTup (fs : E (List D)) : E D := fun st => (fs st).bind fun ds s1 => if ds.length ≤ 16777216 then .ok (.tup ds) s1 else .bad
def eLst (fs : E (List D)) : E D := fun st => (fs st).bind fun ds s1 => if ds.length ≤ 16777216 then .ok (.lst ds) s1 else .bad
theorem pd_tup {x1} {fs : E (List D)} (x : PDs Γ W X es fs) : PD Γ W X (.Tuple es x1 pos) (eTup fs) :=
  ⟨(pe_tup x.pa).csq fun σ H Q ⟨Z, Lt, g, st, s, h⟩ => ⟨Z, Lt, g, st, s, h.bind.imp fun ds g1 st1 H1 s1 t1 k1 vs rs => by
    have k2 := k1 g1 H1 s1 (GT.refl _ _)
    split at k2
    · rename_i hl
      refine ⟨by rw [← rs.length, sizeLine_eq]; exact hl, fun p n => ?_⟩
      have nn := (s1.sh.new n).2.1
      refine k2 _ _ (s1.new n (.tup vs)) (GT.put nn) _ ?_
      simp only [RD]
      exact ⟨p, vs, rfl, .inl (.inl put_same), RDs.mono (GLe.put nn) ⟨[], by simp⟩ _ _ rs⟩
    · exact k2.elim⟩⟩
theorem pf_lst {fs : E (List D)} (x : PDs Γ W X es fs) : PF Γ W X (.List es pos) (eLst fs) :=
  ⟨(pe_lst x.pa).csq fun σ H Q ⟨Z, Lt, g, st, s, h⟩ => ⟨Z, Lt, g, st, s, h.bind.imp fun ds g1 st1 H1 s1 t1 k1 vs rs => by
    have k2 := k1 g1 H1 s1 (GT.refl _ _)
    split at k2
    · rename_i hl
      exact ⟨by rw [← rs.length, sizeLine_eq]; exact hl, retF s1 rs k2⟩
    · exact k2.elim⟩⟩

/-! ### items -/
theorem RDs.at {ds : List D} {vs : List V} {i : Int} (r : RDs Γ g ds vs) (e : atD ds i = some d) : ∃ v, atI vs i = some v ∧ RD Γ g d v := by
  rw [atI_atD]
  unfold atD at e ⊢
  rw [← r.length]
  split at e
  · rw [if_pos ‹_›]; exact r.get e
  · rw [if_neg ‹_›]
    split at e
    · rw [if_pos ‹_›]; exact r.get e
    · cases e
def mIx : Sem2 := fun x y st => match x, y with
  | .lst ds, .int i => match atD ds i with
    | some d => .ok d st
    | none => .bad
  | .tup ds, .int i => match atD ds i with
    | some d => .ok d st
    | none => .bad
  | .str z, .int i => if z.length ≤ 16777216 then match atD z.cps.toList i with
    | some c => .ok (.str ⟨#[c]⟩) st
    | none => .bad else .bad
  | _, _ => .bad
theorem holds_ix (hK : X.K = Γ.K) : Holds2 Γ W X (rIx X.K) mIx := by
  intro Z Lt g st σ H x y v w Q s rx ry h
  unfold mIx at h
  split at h
  · rename_i ds i
    obtain ⟨a, vs, rfl, q, r⟩ := rx.lst s
    rw [ry.int]
    split at h
    · rename_i d e
      obtain ⟨u, e2, r2⟩ := r.at e
      exact .inl ⟨a, vs, i, u, rfl, rfl, by rw [hK]; exact q, e2, h g H s (GT.refl _ _) u r2⟩
    · exact h.elim
  · rename_i ds i
    obtain ⟨a, vs, rfl, q, r⟩ := rx.tup s
    rw [ry.int]
    split at h
    · rename_i d e
      obtain ⟨u, e2, r2⟩ := r.at e
      exact .inr (.inl ⟨a, vs, i, u, rfl, rfl, by rw [hK]; exact q, e2, h g H s (GT.refl _ _) u r2⟩)
    · exact h.elim
  · rename_i z i
    rw [rx.str, ry.int]
    split at h
    · rename_i hz
      split at h
      · rename_i c e
        exact .inr (.inr ⟨z, i, c, rfl, rfl, by rw [sizeLine_eq]; exact hz, by rw [atI_atD]; exact e, ret_str s h⟩)
      · exact h.elim
    · exact h.elim
  · exact h.elim
theorem pd_ix (hK : X.K = Γ.K) (x : PV Γ W X e1 f) (y : PV Γ W X e2 k) (hs : PlainIx e2) : PD Γ W X (.Subscript e1 e2 pos) (eBin mIx f k) :=
  ⟨(pe_ix ix_seq x.pe y.pe hs).csq fun σ H Q h => two (holds_ix hK) h⟩

/-! ### slices -/
structure PO (Γ : Tab) (W : WX) (X : Cx) (e : Option Expr) (f : E (Option Int)) : Prop where
  po : L2.PO X e fun σ H Q => ∃ Z Lt g st, SR Γ Z Lt g st σ H ∧ Go Γ W Z Lt σ (f st) g fun b _ _ H' => Q b H'
def oNone : E (Option Int) := fun st => .ok none st
def oSome (f : E D) : E (Option Int) := fun st => (f st).bind fun d s1 => match d with
  | .int i => .ok (some i) s1
  | _ => .bad
theorem _root_.L2.PO.csq {X : Cx} {e : Option Expr} {t u : TO} (h : L2.PO X e t) (i : ∀ σ H Q, u σ H Q → t σ H Q) : L2.PO X e u := ⟨fun pins s σ H Q I w => h.run pins s σ H Q I (i _ _ _ w)⟩
theorem po_none' : PO Γ W X none oNone := ⟨po_none.csq fun σ H Q ⟨Z, Lt, g, st, s, h⟩ => h g H s (GT.refl _ _)⟩
theorem po_some' (x : PD Γ W X e f) : PO Γ W X (some e) (oSome f) := ⟨(po_some x.pe).csq fun σ H Q ⟨Z, Lt, g, st, s, h⟩ => ⟨Z, Lt, g, st, s, h.bind.imp fun d g1 st1 H1 s1 t1 k1 v r => by
  have k2 := k1 g1 H1 s1 (GT.refl _ _)
  cases d with
  | int i => simp only [RD] at r; exact ⟨i, r, k2 g1 H1 s1 (GT.refl _ _)⟩
  | _ => exact k2.elim⟩⟩
theorem RDs.drop : ∀ {ds : List D} {vs : List V} (n : Nat), RDs Γ g ds vs → RDs Γ g (ds.drop n) (vs.drop n)
  | ds, vs, 0, r => by simpa using r
  | [], vs, n + 1, r => by simp only [RDs] at r; subst r; exact RDs.nil
  | d :: ds, vs, n + 1, r => by
    simp only [RDs] at r
    obtain ⟨v, q, rfl, _, r⟩ := r
    exact RDs.drop n r
theorem RDs.take : ∀ {ds : List D} {vs : List V} (n : Nat), RDs Γ g ds vs → RDs Γ g (ds.take n) (vs.take n)
  | ds, vs, 0, r => by simpa using RDs.nil
  | [], vs, n + 1, r => by simp only [RDs] at r; subst r; exact RDs.nil
  | d :: ds, vs, n + 1, r => by
    simp only [RDs] at r
    obtain ⟨v, q, rfl, r1, r⟩ := r
    exact RDs.cons r1 (RDs.take n r)
theorem RDs.cut {ds : List D} {vs : List V} (lo hi : Option Int) (r : RDs Γ g ds vs) : RDs Γ g (cutD ds lo hi) (cutV vs lo hi) := by
  unfold cutD cutV
  rw [cutI_eq, cutI_eq, ← r.length]
  exact (r.drop _).take _
def eSlc (f : E D) (lo hi : E (Option Int)) : E D := fun st => (f st).bind fun x s1 => (lo s1).bind fun i s2 => (hi s2).bind fun j s3 => match x with
  | .lst ds => .ok (.lst (cutD ds i j)) s3
  | _ => .bad
theorem pf_slc {lo hi : Option Expr} {tl th : E (Option Int)} {p2 : Pos} (hK : X.K = Γ.K) (x : PV Γ W X e f) (y : PO Γ W X lo tl) (z : PO Γ W X hi th) : PF Γ W X (.Subscript e (.Slice lo hi none p2) pos) (eSlc f tl th) :=
  ⟨(pe_slice sl_list x.pe y.po z.po).csq fun σ H Q ⟨Z, Lt, g, st, s, h⟩ => ⟨Z, Lt, g, st, s, h.bind.imp fun d g1 st1 H1 s1 t1 k1 v r =>
    ⟨Z, Lt, g1, st1, s1, (k1 g1 H1 s1 (GT.refl _ _)).bind.imp fun i g2 st2 H2 s2 t2 k2 =>
      ⟨Z, Lt, g2, st2, s2, (k2 g2 H2 s2 (GT.refl _ _)).bind.imp fun j g3 st3 H3 s3 t3 k3 => by
        have k4 := k3 g3 H3 s3 (GT.refl _ _)
        cases d with
        | lst ds =>
          obtain ⟨a, vs, rfl, q, r⟩ := ((r.up t2).up t3).cv s3 |>.lst s3
          exact ⟨a, vs, rfl, by rw [hK]; exact q, retF s3 (r.cut i j) k4⟩
        | _ => exact k4.elim⟩⟩⟩⟩

/-! ### in, is None -/
def flatD : D → Bool
  | .non => true
  | .bl _ => true
  | .int _ => true
  | .str _ => true
  | _ => false
theorem RD.flat (hf : flatD d = true) (r : RD Γ g d v) : flatV v = true := by
  cases d <;> first | (simp [flatD] at hf; done) | (simp only [RD] at r; subst r; rfl)
theorem RD.eqv {x y : D} {v w : V} (hx : flatD x = true) (hy : flatD y = true) (r : RD Γ g x v) (q : RD Γ g y w) : eqV v w = deq x y := by
  cases x <;> first | (simp [flatD] at hx; done) | (cases y <;> first | (simp [flatD] at hy; done) | (simp only [RD] at r q; subst r q; rfl))
def inD (x : D) (ds : List D) : Bool := ds.any fun y => deq y x
theorem RDs.inv {x : D} {w : V} (hx : flatD x = true) (q : RD Γ g x w) : ∀ {ds : List D} {vs : List V}, ds.all flatD = true → RDs Γ g ds vs → inV w vs = inD x ds ∧ vs.all flatV = true
  | [], vs, _, r => by simp only [RDs] at r; subst r; exact ⟨rfl, rfl⟩
  | d :: ds, vs, hf, r => by
    simp only [RDs] at r
    obtain ⟨v, q', rfl, r1, r⟩ := r
    simp only [List.all_cons, Bool.and_eq_true] at hf
    have ih := RDs.inv hx q hf.2 r
    refine ⟨?_, by simp only [List.all_cons, Bool.and_eq_true]; exact ⟨r1.flat hf.1, ih.2⟩⟩
    have h1 := ih.1
    unfold inV inD at h1 ⊢
    rw [List.any_cons, List.any_cons, h1, r1.eqv hf.1 hx q]
def mIn (neg : Bool) : Sem2 := fun x y st => match y with
  | .lst ds => if flatD x && ds.all flatD then .ok (.bl (if neg then !inD x ds else inD x ds)) st else .bad
  | .tup ds => if flatD x && ds.all flatD then .ok (.bl (if neg then !inD x ds else inD x ds)) st else .bad
  | _ => .bad
theorem CV.rd_flat (hf : flatD d = true) (c : CV Γ g H d v) : RD Γ g d v := by
  cases d <;> first | (simp [flatD] at hf; done) | (simp only [RD]; first | exact c.int | exact c.bl | exact c.str | exact c.non)
theorem holds_in {neg : Bool} (hK : X.K = Γ.K) : Holds2 Γ W X (rIn X.K neg) (mIn neg) := by
  intro Z Lt g st σ H x y v w Q s rx ry h
  unfold mIn at h
  split at h
  all_goals first
    | exact h.elim
    | (split at h
       · rename_i ds c
         rw [Bool.and_eq_true] at c
         have rx' := rx.rd_flat c.1
         first
           | (obtain ⟨a, vs, rfl, q, r⟩ := ry.lst s
              have z := r.inv c.1 rx' c.2
              refine ⟨a, vs, rfl, .inl (by rw [hK]; exact q), rx'.flat c.1, z.2, ?_⟩
              rw [z.1]; exact ret_bl s h)
           | (obtain ⟨a, vs, rfl, q, r⟩ := ry.tup s
              have z := r.inv c.1 rx' c.2
              refine ⟨a, vs, rfl, .inr (by rw [hK]; exact q), rx'.flat c.1, z.2, ?_⟩
              rw [z.1]; exact ret_bl s h)
       · exact h.elim)
def D.isNon : D → Bool
  | .non => true
  | _ => false
theorem CV.isNon (s : SR Γ Z Lt g st σ H) (c : CV Γ g H d v) : decide (v = .non) = d.isNon := by
  cases d with
  | non => rw [c.non]; rfl
  | bl b => rw [c.bl]; rfl
  | int b => rw [c.int]; rfl
  | str b => rw [c.str]; rfl
  | tup ds => obtain ⟨a, vs, rfl, _⟩ := c.tup s; rfl
  | lst ds => obtain ⟨a, vs, rfl, _⟩ := c.lst s; rfl
  | dic ds => obtain ⟨a, vs, rfl, _⟩ := c.dic s; rfl
  | obj r => obtain ⟨a, rfl, _⟩ := c.obj; rfl
  | err r =>
    rcases c with c | ⟨a, o, _, _, c | ⟨_, _, _, c⟩⟩
    · simp only [RD] at c; obtain ⟨a, _, rfl, _⟩ := c; rfl
    · cases o <;> exact c.elim
    · rename_i u _; cases u <;> exact c.elim
def mIsN : Sem1 := fun x st => .ok (.bl x.isNon) st
def mNotN : Sem1 := fun x st => .ok (.bl (!x.isNon)) st
theorem pd_isN {j pos'} (x : PC Γ W X e f) : PD Γ W X (.Compare e [.Is] [.Constant .none j pos'] pos) (eUn mIsN f) :=
  ⟨(pe_cmp (pc_isN x.pe) rfl).csq fun σ H Q h => one (X := X) (r := fun x H Q => Q (.bl (decide (x = .non))) H) (fun Z Lt g st σ H x v Q s rx h => by show Q (.bl _) H; rw [rx.isNon s]; exact ret_bl s h) h⟩
theorem pd_notN {j pos'} (x : PC Γ W X e f) : PD Γ W X (.Compare e [.IsNot] [.Constant .none j pos'] pos) (eUn mNotN f) :=
  ⟨(pe_cmp (pc_notN x.pe) rfl).csq fun σ H Q h => one (X := X) (r := fun x H Q => Q (.bl (!decide (x = .non))) H) (fun Z Lt g st σ H x v Q s rx h => by show Q (.bl _) H; rw [rx.isNon s]; exact ret_bl s h) h⟩
theorem PD.pb (x : PD Γ W X e f) (he : ∀ whole, isTrue e X.env whole = (do let v ← whole; standAt e.pos; holding [v] (truthy v))) : PB Γ W X e (tst f) := pb_val x.pc he

/-! ### a < b < c -/
def eChain (m m' : Sem2) (f k l : E D) : E D := fun st => (f st).bind fun x s1 => (k s1).bind fun y s2 => (m x y s2).bind fun c s3 => match c with
  | .bl true => (l s3).bind fun z s4 => m' y z s4
  | .bl false => .ok (.bl false) s3
  | _ => .bad
theorem chain_T {r r' : R2} {m m' : Sem2} (hm : Holds2 Γ W X r m) (hm' : Holds2 Γ W X r' m') {Q : VK} (h : T Γ W (eChain m m' f k l) σ H Q) : tChain r r' (TV Γ W f) (TV Γ W k) (TV Γ W l) σ H Q := by
  obtain ⟨Z, Lt, g, st, s, h⟩ := h
  refine ⟨Z, Lt, g, st, s, h.bind.imp fun x g1 st1 H1 s1 t1 k1 v rx => ?_⟩
  refine ⟨Z, Lt, g1, st1, s1, (k1 g1 H1 s1 (GT.refl _ _)).bind.imp fun y g2 st2 H2 s2 t2 k2 w ry => ?_⟩
  refine hm Z Lt g2 st2 σ H2 x y v w _ s2 ((rx.up t2).cv s2) (ry.cv s2) ((k2 g2 H2 s2 (GT.refl _ _)).bind.imp fun c g3 st3 H3 s3 t3 k3 u ru => ?_)
  have k4 := k3 g3 H3 s3 (GT.refl _ _)
  split at k4
  · simp only [RD] at ru
    refine ⟨true, ru, ?_⟩
    rw [if_pos rfl]
    exact ⟨Z, Lt, g3, st3, s3, k4.bind.imp fun z g4 st4 H4 s4 t4 k5 u ru' => hm' Z Lt g4 st4 σ H4 y z w u Q s4 (((ry.up t3).up t4).cv s4) (ru'.cv s4) (k5 g4 H4 s4 (GT.refl _ _))⟩
  · simp only [RD] at ru
    refine ⟨false, ru, ?_⟩
    rw [if_neg Bool.false_ne_true]
    exact ret_bl s3 k4
  · exact k4.elim
theorem pd_chain {op op' : CmpOp} {r r' : R2} {m m' : Sem2} (ho : OpR X (compareOp op) r) (ho' : OpR X (compareOp op') r') (hm : Holds2 Γ W X r m) (hm' : Holds2 Γ W X r' m') (x : PV Γ W X e1 f) (y : PV Γ W X e2 k) (z : PV Γ W X e3 l)
    (hl : lastMarks [op, op'] [e2, e3] = false := by with_unfolding_all rfl) : PD Γ W X (.Compare e1 [op, op'] [e2, e3] pos) (eChain m m' f k l) :=
  ⟨(pe_chain ho ho' x.pe y.pe z.pe hl).csq fun σ H Q h => chain_T hm hm' h⟩
theorem pb_chain {op op' : CmpOp} {r r' : R2} {m m' : Sem2} (ho : OpR X (compareOp op) r) (ho' : OpR X (compareOp op') r') (hm : Holds2 Γ W X r m) (hm' : Holds2 Γ W X r' m') (x : PV Γ W X e1 f) (y : PV Γ W X e2 k) (z : PV Γ W X e3 l)
    (hl : lastMarks [op, op'] [e2, e3] = false := by with_unfolding_all rfl) : PB Γ W X (.Compare e1 [op, op'] [e2, e3] pos) (tst (eChain m m' f k l)) :=
  ⟨(pt_chain ho ho' x.pe y.pe z.pe hl).csq fun σ H Q h => chain_T hm hm' (tst_T h)⟩
end
end PL

/-! PyLite, part i: calls. -/
namespace PL
open PySem PySem.Spec PyProof.Rows L2
section
variable {Γ : Tab} {W : WX} {Z : Hp} {Lt : Lend} {g g' : GM} {st st' : LS} {σ σ' : L2.St} {H H' : Hp} {h h' : List LO} {a p : Addr} {o : HO} {d : D} {v : V} {X : Cx} {e e1 e2 e3 : Expr} {es : List Expr} {f k l : E D} {pos pos2 ppos : Pos}

/-! ### what a callee must not touch -/
theorem ARs.length {Z : Hp} {g : GM} : ∀ {ds : List FV} {vs : List V}, ARs Γ Z g ds vs → vs.length = ds.length
  | [], _, r => by cases (show _ = [] from r); rfl
  | d :: ds, _, r => by obtain ⟨v, q, rfl, _, r2⟩ := r; simp [ARs.length r2]
theorem ARs.get {Z : Hp} {g : GM} : ∀ {ds : List FV} {vs : List V} {i : Nat} {x : FV}, ARs Γ Z g ds vs → ds[i]? = some x → ∃ v, vs[i]? = some v ∧ AR Γ Z g x v
  | [], _, _, _, _, e => by simp at e
  | d :: ds, _, 0, x, r, e => by obtain ⟨v, q, rfl, r1, _⟩ := r; simp at e; subst e; exact ⟨v, by simp, r1⟩
  | d :: ds, _, i + 1, x, r, e => by
    obtain ⟨v, q, rfl, _, r2⟩ := r
    obtain ⟨u, e1, e2⟩ := ARs.get (i := i) r2 (by simpa using e)
    exact ⟨u, by simpa using e1, e2⟩
open Classical in
noncomputable def Zc (Z : Hp) (g : GM) (H : Hp) : Hp := fun a => match Z a with
  | some o => some o
  | none => if (∃ i, g.O a = some (.loc i)) ∧ g.G a = none then H a else none
def Lc (Lt : Lend) (fs : List FV) (vs : List V) : Lend
  | .loc i => lentAt fs vs i
  | q => Lt q
theorem Zc_old {o : HO} (e : Z a = some o) : Zc Z g H a = some o := by unfold Zc; rw [e]
theorem Zc_own {i : Nat} (n : Z a = none) (e : g.O a = some (.loc i)) (hg : g.G a = none) : Zc Z g H a = H a := by
  unfold Zc; rw [n]; exact if_pos ⟨⟨i, e⟩, hg⟩
theorem Zc_none (n : Z a = none) (e : ∀ i, g.O a ≠ some (.loc i)) : Zc Z g H a = none := by
  unfold Zc; rw [n]; exact if_neg fun c => by obtain ⟨⟨i, q⟩, _⟩ := c; exact e i q
theorem Zc_some (e : Zc Z g H a = some o) : Z a = some o ∨ (Z a = none ∧ H a = some o ∧ g.G a = none ∧ ∃ i, g.O a = some (.loc i)) := by
  unfold Zc at e
  split at e
  · rename_i u hz; exact .inl (by rw [hz]; exact e)
  · rename_i hz
    split at e
    · rename_i c; exact .inr ⟨hz, e, c.2, c.1⟩
    · cases e
theorem Zc_z (e : Zc Z g H a = none) : Z a = none := by
  cases z : Z a with
  | none => rfl
  | some o => rw [Zc_old z] at e; cases e
theorem SR.callee (s : SR Γ Z Lt g st σ H) (fs : List FV) (vs : List V) (ar : ARs Γ Z g fs vs) : SH Γ (Zc Z g H) (Lc Lt fs vs) g st.h H := by
  have fv : ∀ {r i : Nat} {x : FV} {v : V}, FVR Γ Z Lt g H (.fld r i) x v → FVR Γ (Zc Z g H) (Lc Lt fs vs) g H (.fld r i) x v := by
    intro r i x v f
    cases x with
    | val d => exact f
    | own d =>
      obtain ⟨a, e, h1, h2, h3, h4⟩ := f
      exact ⟨a, e, h1, Zc_none h2 (fun i z => by rw [h3] at z; cases z), h3, h4⟩
    | lent d =>
      obtain ⟨a, o, e, h1, h2, h3⟩ := f
      exact ⟨a, o, e, h1, Zc_old h2, h3⟩
  have fr : ∀ {r : Nat} {C : Addr} {fs' : List (Nat × FV)} {ws : List (Str × V)}, FR Γ Z Lt g H r C fs' ws → FR Γ (Zc Z g H) (Lc Lt fs vs) g H r C fs' ws := by
    intro r C fs'
    induction fs' with
    | nil => intro ws f; exact f
    | cons y fs' ih =>
      intro ws f
      obtain ⟨n, v, q, e, h1, h2, h3, h4, h5⟩ := f
      exact ⟨n, v, q, e, h1, h2, fv h3, h4, ih h5⟩
  refine ⟨s.sh.gh, fun a o e => ?_, fun a o e => ?_, s.sh.ml, s.sh.mn, fun a m => ?_, fun r lo a e1 e2 => ?_, s.sh.nd, fun q a e => ?_⟩
  · rcases Zc_some e with e | ⟨_, e, _⟩
    · exact s.sh.zh a o e
    · exact e
  · rcases Zc_some e with e | ⟨_, _, e, _⟩
    · exact s.sh.gz a o e
    · exact e
  · obtain ⟨m1, m2, m3⟩ := s.sh.mf a m
    refine ⟨m1, fun o e => ?_, m3⟩
    rcases Zc_some e with e | e
    · exact m2 o e
    · obtain ⟨i, z⟩ := e.2.2.2; rw [m3] at z; cases z
  · have q := s.sh.ob r lo a e1 e2
    cases lo with
    | ins c fs' => obtain ⟨C, dx, ws, q1, q2, q3, q4⟩ := q; exact ⟨C, dx, ws, q1, q2, q3, fr q4⟩
    | cell d => exact q
    | lck d => obtain ⟨l, ob, u, h1, h2, h3⟩ := q; exact ⟨l, ob, u, h1, Zc_old h2, h3⟩
  · cases q with
    | loc i =>
      have e : lentAt fs vs i = some a := e
      unfold lentAt at e
      split at e
      · rename_i d b e1 e2
        cases e
        obtain ⟨w, ew, rw'⟩ := ARs.get ar e1
        rw [e2] at ew; cases ew
        obtain ⟨c, o, ec, z, _⟩ := rw'
        cases ec
        exact ⟨o, Zc_old z, trivial⟩
      · cases e
    | fld r f => obtain ⟨o, z, kq⟩ := s.sh.lz (.fld r f) a e; exact ⟨o, Zc_old z, trivial⟩
    | lck r => obtain ⟨o, z, kq⟩ := s.sh.lz (.lck r) a e; exact ⟨o, Zc_old z, kq⟩
    | tmp => obtain ⟨o, z, kq⟩ := s.sh.lz .tmp a e; exact ⟨o, Zc_old z, trivial⟩
theorem SH.back (s : SR Γ Z Lt g st σ H) {fs : List FV} {vs : List V} (s' : SH Γ (Zc Z g H) (Lc Lt fs vs) g' h' H') (t : GT (Zc Z g H) g g') : SR Γ Z Lt g' { st with h := h' } σ H' ∧ GT Z g g' := by
  have fv : ∀ {r i : Nat} {x : FV} {v : V}, FVR Γ (Zc Z g H) (Lc Lt fs vs) g' H' (.fld r i) x v → FVR Γ Z Lt g' H' (.fld r i) x v := by
    intro r i x v f
    cases x with
    | val d => exact f
    | own d =>
      obtain ⟨a, e, h1, h2, h3, h4⟩ := f
      exact ⟨a, e, h1, Zc_z h2, h3, h4⟩
    | lent d =>
      obtain ⟨a, o, e, h1, h2, h3⟩ := f
      obtain ⟨o', z, kq⟩ := s.sh.lz (.fld r i) a h1
      have := Zc_old (g := g) (H := H) z
      rw [h2] at this
      cases this
      exact ⟨a, o, e, h1, z, h3⟩
  have fr : ∀ {r : Nat} {C : Addr} {fs' : List (Nat × FV)} {ws : List (Str × V)}, FR Γ (Zc Z g H) (Lc Lt fs vs) g' H' r C fs' ws → FR Γ Z Lt g' H' r C fs' ws := by
    intro r C fs'
    induction fs' with
    | nil => intro ws f; exact f
    | cons y fs' ih =>
      intro ws f
      obtain ⟨n, v, q, e, h1, h2, h3, h4, h5⟩ := f
      exact ⟨n, v, q, e, h1, h2, fv h3, h4, ih h5⟩
  refine ⟨⟨⟨s'.gh, fun a o e => s'.zh a o (Zc_old e), fun a o e => s'.gz a o (Zc_old e), s'.ml, s'.mn, fun a m => ?_, fun r lo a e1 e2 => ?_, s'.nd, s.sh.lz⟩, s.sl, fun i x ei => ?_⟩, ⟨t.le, t.mp, fun a o e => t.oz a o (Zc_old e), t.lo⟩⟩
  · obtain ⟨m1, m2, m3⟩ := s'.mf a m
    exact ⟨m1, fun o e => m2 o (Zc_old e), m3⟩
  · have q := s'.ob r lo a e1 e2
    cases lo with
    | ins c fs' => obtain ⟨C, dx, ws, q1, q2, q3, q4⟩ := q; exact ⟨C, dx, ws, q1, q2, q3, fr q4⟩
    | cell d => exact q
    | lck d =>
      obtain ⟨l, ob, u, h1, h2, h3⟩ := q
      obtain ⟨o, z, _⟩ := s.sh.lz (.lck a) a l
      have z' := Zc_old (g := g) (H := H) z
      rw [h2] at z'; cases z'
      exact ⟨l, ob, u, h1, z, h3⟩
  · obtain ⟨v, e1, f⟩ := s.sv i x ei
    refine ⟨v, e1, ?_⟩
    cases x with
    | val d => exact RD.mono t.le t.mp d v f
    | own d =>
      obtain ⟨a, e, h1, h2, h3, h4, o, h5, h6⟩ := f
      have z : Zc Z g H a = some o := by rw [Zc_own h2 h3 h1]; exact h5
      refine ⟨a, e, s'.gz a o z, h2, by rw [t.oz a o z]; exact h3, fun m => ?_, o, s'.zh a o z, h6.mono t.le t.mp⟩
      have l := (s'.mf a m).2.1 o z
      obtain ⟨o', z', _⟩ := s.sh.lz (.lck a) a l
      rw [h2] at z'; cases z'
    | lent d =>
      obtain ⟨a, o, e, h1, h2, h3⟩ := f
      exact ⟨a, o, e, h1, h2, h3.mono t.le t.mp⟩
theorem AR.up {x : FV} (r : AR Γ Z g x v) (t : GT Z g g') : AR Γ Z g' x v := by
  cases x with
  | val d => exact RD.up r t
  | own d => exact r
  | lent d => obtain ⟨a, o, e, z, c⟩ := r; exact ⟨a, o, e, z, c.mono t.le t.mp⟩
theorem AR.z {x : FV} (r : AR Γ Z g x v) : AR Γ (Zc Z g' H) g x v := by
  cases x with
  | val d => exact r
  | own d => exact r
  | lent d => obtain ⟨a, o, e, z, c⟩ := r; exact ⟨a, o, e, Zc_old z, c⟩
theorem ARs.z : ∀ {xs : List FV} {vs : List V}, ARs Γ Z g xs vs → ARs Γ (Zc Z g' H) g xs vs
  | [], _, r => r
  | x :: xs, _, r => by obtain ⟨v, q, e, r1, r2⟩ := r; exact ⟨v, q, e, r1.z, ARs.z r2⟩
theorem ARs.cons {x : FV} {xs : List FV} {vs : List V} (r : AR Γ Z g x v) (q : ARs Γ Z g xs vs) : ARs Γ Z g (x :: xs) (v :: vs) := ⟨v, vs, rfl, r, q⟩

/-! ### arguments -/
def aNil : E (List FV) := fun st => .ok [] st
def aCons (f : E FV) (k : E (List FV)) : E (List FV) := fun st => (f st).bind fun d s1 => (k s1).bind fun ds s2 => .ok (d :: ds) s2
/-- a value handed over; a list lent -/
def aV (f : E D) : E FV := fun st => (f st).bind fun d s1 => .ok (.val d) s1
def aL (i : Nat) : E FV := fun st => match st.s[i]? with
  | some (some (.val d)) => .ok (.val d) st
  | some (some (.lent d)) => .ok (.lent d) st
  | _ => .bad
structure PArg (Γ : Tab) (W : WX) (X : Cx) (e : Expr) (f : E FV) : Prop where
  pe : PE X e fun σ H Q => ∃ Z Lt g st, SR Γ Z Lt g st σ H ∧ Go Γ W Z Lt σ (f st) g fun d g' _ H' => ∀ v, AR Γ Z g' d v → Q v H'
theorem pa_val (x : PD Γ W X e f) : PArg Γ W X e (aV f) := ⟨x.pe.csq fun σ H Q ⟨Z, Lt, g, st, s, h⟩ => ⟨Z, Lt, g, st, s, h.bind.imp fun d g1 st1 H1 s1 t1 k1 v r => k1 g1 H1 s1 (GT.refl _ _) g1 H1 s1 (GT.refl _ _) v r⟩⟩
theorem pa_lent {i : Nat} {x : Str} {pos : Pos} (hN : X.N[i]? = some x) (hv : Vis X.env.scope x) (hd : (x == ("__debug__" : Str)) = false := by decide) (hcd : (x == ("__classdict__" : Str)) = false := by decide) :
    PArg Γ W X (.Name x pos) (aL i) := ⟨(pe_var hN hv hd hcd).csq fun σ H Q ⟨Z, Lt, g, st, s, h⟩ => by
  unfold aL at h
  split at h
  · rename_i d e
    obtain ⟨v, e1, r⟩ := s.sv i _ e
    exact ⟨v, e1, h g H s (GT.refl _ _) v r⟩
  · rename_i d e
    obtain ⟨v, e1, a, o, rfl, _, h3, h4⟩ := s.sv i _ e
    exact ⟨_, e1, h g H s (GT.refl _ _) _ ⟨a, o, rfl, h3, h4⟩⟩
  · exact h.elim⟩
/-- a field that is lent -/
def aF (i : Nat) (f : E D) : E FV := fun st => (f st).bind fun d s1 => match d with
  | .obj r => match s1.fld r i with
    | some (.val x) => .ok (.val x) s1
    | some (.lent x) => .ok (.lent x) s1
    | _ => .bad
  | _ => .bad
theorem pa_fld {i : Nat} {n : Str} {pos : Pos} (hn : Γ.nm[i]? = some n) (x : PD Γ W X e f) (hK : X.K = Γ.K) (hb : attributeBase e n X.env (eval e X.env) = eval e X.env) : PArg Γ W X (.Attribute e n pos) (aF i f) :=
  ⟨(pe_fld x.pe hb).csq fun σ H Q ⟨Z, Lt, g, st, s, h⟩ => ⟨Z, Lt, g, st, s, h.bind.imp fun d g1 st1 H1 s1 t1 k1 w r => by
    rw [hK]
    cases d with
    | obj r0 =>
      obtain ⟨a, rfl, hr⟩ := RD.obj r
      have k2 := k1 g1 H1 s1 (GT.refl _ _)
      simp only at k2
      split at k2
      · rename_i x' e'
        obtain ⟨C, dx, ws, n', v, h1, h2, h3, h4, h5, h6⟩ := s1.fld hr e'
        rw [hn] at h3; cases h3
        exact ⟨a, C, dx, ws, v, rfl, h1, h2, h4, h5, k2 g1 H1 s1 (GT.refl _ _) v h6⟩
      · rename_i x' e'
        obtain ⟨C, dx, ws, n', v, h1, h2, h3, h4, h5, b, o, rfl, _, h6, h7⟩ := s1.fld hr e'
        rw [hn] at h3; cases h3
        exact ⟨a, C, dx, ws, _, rfl, h1, h2, h4, h5, k2 g1 H1 s1 (GT.refl _ _) _ ⟨b, o, rfl, h6, h7⟩⟩
      · exact k2.elim
    | _ => exact (k1 g1 H1 s1 (GT.refl _ _)).elim⟩⟩
theorem args_nil : PArgs Γ W X [] aNil := ⟨pa_nil.csq fun σ H Q ⟨Z, Lt, g, st, s, h⟩ => h g H s (GT.refl _ _) [] rfl⟩
theorem args_cons {fa : E FV} {fs : E (List FV)} (x : PArg Γ W X e fa) (y : PArgs Γ W X es fs) (hs : starEach (e :: es) X.env = (false, eval e X.env) :: starEach es X.env := by rfl) : PArgs Γ W X (e :: es) (aCons fa fs) :=
  ⟨(pa_cons x.pe y.pa hs).csq fun σ H Q ⟨Z, Lt, g, st, s, h⟩ => ⟨Z, Lt, g, st, s, h.bind.imp fun d g1 st1 H1 s1 t1 k1 v r =>
    ⟨Z, Lt, g1, st1, s1, (k1 g1 H1 s1 (GT.refl _ _)).bind.imp fun ds g2 st2 H2 s2 t2 k2 vs rs => k2 g2 H2 s2 (GT.refl _ _) g2 H2 s2 (GT.refl _ _) _ (ARs.cons (r.up t2) rs)⟩⟩⟩

/-! ### a def of the text called -/
def outD (st : LS) : FRes → Res D
  | .ret (.val d) h' => .ok d { st with h := h' }
  | .ret (.own d) h' => .ok d { st with h := h' }
  | .ret (.lent _) _ => .bad
  | .exc x h' => .exc x { st with h := h' }
  | .bad => .bad
/-- .. for its fresh list -/
def outF (st : LS) : FRes → Res D
  | .ret (.own d) h' => .ok d { st with h := h' }
  | .exc x h' => .exc x { st with h := h' }
  | _ => .bad
def eCall (F : Fn) (args : E (List FV)) : E D := fun st => (args st).bind fun fs s1 => outD s1 (F fs s1.h)
def eCallF (F : Fn) (args : E (List FV)) : E D := fun st => (args st).bind fun fs s1 => outF s1 (F fs s1.h)
theorem call_sp {F : Fn} {n : Nat} {fs : List FV} {vs : List V} {Q : VK} (s : SR Γ Z Lt g st σ H) (r : ARs Γ Z g fs vs) (hn : fs.length = n) (h : Go Γ W Z Lt σ (outD st (F fs st.h)) g fun d g' _ H' => ∀ v, RD Γ g' d v → Q v H') :
    spF Γ n F vs H Q (WE W σ) := by
  refine ⟨Zc Z g H, Lc Lt fs vs, g, fs, st.h, s.callee fs vs r, r.z, hn, fun i => rfl, ?_⟩
  revert h
  cases F fs st.h with
  | ret x h' =>
    intro h v g' H' s' t f
    obtain ⟨s2, t2⟩ := SH.back s s' t
    cases x with
    | val d => exact h g' H' s2 t2 v f
    | own d =>
      obtain ⟨a, rfl, h1, h2, h3⟩ := f
      have oa : OA Γ Z g' H' .tmp a d := ⟨h1, Zc_z h2, h3⟩
      obtain ⟨g3, s3, t3, rd⟩ := oa.rd s2
      exact h g3 H' s3 (t2.trans t3) _ rd
    | lent d => exact h.elim
  | exc x h' =>
    intro h cls dd g' H' s' t xr
    obtain ⟨s2, t2⟩ := SH.back s s' t
    exact h cls dd g' H' s2 t2 xr
  | bad => exact fun h => h
theorem callF_sp {F : Fn} {n : Nat} {fs : List FV} {vs : List V} {Q : VK} (s : SR Γ Z Lt g st σ H) (r : ARs Γ Z g fs vs) (hn : fs.length = n) (h : Go Γ W Z Lt σ (outF st (F fs st.h)) g fun d g' _ H' => ∀ a, OA Γ Z g' H' .tmp a d → Q (.ref a) H') :
    spF Γ n F vs H Q (WE W σ) := by
  refine ⟨Zc Z g H, Lc Lt fs vs, g, fs, st.h, s.callee fs vs r, r.z, hn, fun i => rfl, ?_⟩
  revert h
  cases F fs st.h with
  | ret x h' =>
    intro h v g' H' s' t f
    obtain ⟨s2, t2⟩ := SH.back s s' t
    cases x with
    | val d => exact h.elim
    | own d =>
      obtain ⟨a, rfl, h1, h2, h3⟩ := f
      exact h g' H' s2 t2 a ⟨h1, Zc_z h2, h3⟩
    | lent d => exact h.elim
  | exc x h' =>
    intro h cls dd g' H' s' t xr
    obtain ⟨s2, t2⟩ := SH.back s s' t
    exact h cls dd g' H' s2 t2 xr
  | bad => exact fun h => h
/-- what a call asks of its def -/
structure Def (Γ : Tab) (X : Cx) (kk : Nat) (x : Str) (n : Nat) (F : Fn) : Prop where
  ex : ∃ (f : Addr) (fd : FuncData) (ps : List Str), FnOk X.prog X.w X.K X.mg X.base (L2.CX X.prog X.w) kk f fd ps (spF Γ n F) ∧ X.mg x = some (.ref f) ∧ PySem.W.keepIn X.K (.ref f) = true ∧ Binds X.K fd ps []
theorem pd_call {F : Fn} {n kk : Nat} {x : Str} {args : E (List FV)} (tk : Takes X W) (Df : Def Γ X kk x n F) (hr : Room kk X.A) (hg : Gl X x) (ha : PArgs Γ W X (e :: es) args) (hn : ∀ st fs s1, args st = .ok fs s1 → fs.length = n)
    (hdb : (x == ("__debug__" : Str)) = false := by decide) (he : starEach (e :: es) X.env = (false, eval e X.env) :: starEach es X.env := by rfl) (hpl : (backTo pos (starEach es X.env)).any (·.1) = false := by rfl) :
    PD Γ W X (.Call (.Name x ppos) (e :: es) [] pos) (eCall F args) := by
  obtain ⟨f, fd, ps, Fo, hm, hk, hb⟩ := Df.ex
  refine ⟨(pe_callS Fo hr hg hm hk hb (fun σ => passAt tk σ) ha.pa hdb he hpl).csq fun σ H Q ⟨Z, Lt, g, st, s, h⟩ => ⟨Z, Lt, g, st, s, ?_⟩⟩
  have h2 := Go.bind h
  cases ea : args st with
  | ok fs s1 =>
    rw [ea] at h2
    exact fun g1 H1 s1' t1 vs rs => call_sp s1' rs (hn st fs s1 ea) (h2 g1 H1 s1' t1)
  | exc x' s1 => rw [ea] at h2; exact h2
  | bad => rw [ea] at h2; exact h2
theorem pf_call {F : Fn} {n kk : Nat} {x : Str} {args : E (List FV)} (tk : Takes X W) (Df : Def Γ X kk x n F) (hr : Room kk X.A) (hg : Gl X x) (ha : PArgs Γ W X (e :: es) args) (hn : ∀ st fs s1, args st = .ok fs s1 → fs.length = n)
    (hdb : (x == ("__debug__" : Str)) = false := by decide) (he : starEach (e :: es) X.env = (false, eval e X.env) :: starEach es X.env := by rfl) (hpl : (backTo pos (starEach es X.env)).any (·.1) = false := by rfl) :
    PF Γ W X (.Call (.Name x ppos) (e :: es) [] pos) (eCallF F args) := by
  obtain ⟨f, fd, ps, Fo, hm, hk, hb⟩ := Df.ex
  refine ⟨(pe_callS Fo hr hg hm hk hb (fun σ => passAt tk σ) ha.pa hdb he hpl).csq fun σ H Q ⟨Z, Lt, g, st, s, h⟩ => ⟨Z, Lt, g, st, s, ?_⟩⟩
  have h2 := Go.bind h
  cases ea : args st with
  | ok fs s1 =>
    rw [ea] at h2
    exact fun g1 H1 s1' t1 vs rs => callF_sp s1' rs (hn st fs s1 ea) (h2 g1 H1 s1' t1)
  | exc x' s1 => rw [ea] at h2; exact h2
  | bad => rw [ea] at h2; exact h2
theorem len_nil : ∀ st fs s1, aNil st = .ok fs s1 → fs.length = 0 := fun st fs s1 e => by cases e; rfl
theorem len_cons {f : E FV} {k : E (List FV)} {n : Nat} (ih : ∀ st fs s1, k st = .ok fs s1 → fs.length = n) : ∀ st fs s1, aCons f k st = .ok fs s1 → fs.length = n + 1 := fun st fs s1 e => by
  unfold aCons at e
  cases e1 : f st with
  | ok d s2 =>
    rw [e1, bind_ok] at e
    cases e2 : k s2 with
    | ok ds s3 => rw [e2, bind_ok] at e; cases e; rw [List.length_cons, ih _ _ _ e2]
    | exc x s3 => rw [e2] at e; cases e
    | bad => rw [e2] at e; cases e
  | exc x s3 => rw [e1] at e; cases e
  | bad => rw [e1] at e; cases e
end
end PL

/-! PyLite, part j: statements. -/
namespace PL
open PySem PySem.Spec PyProof.Rows L2
section
variable {Γ : Tab} {W : WX} {Z : Hp} {Lt : Lend} {g g' : GM} {st st' : LS} {σ σ' : L2.St} {H H' : Hp} {h h' : List LO} {a p : Addr} {o : HO} {d : D} {v : V} {X : Cx} {e e1 e2 e3 : Expr} {es : List Expr} {f k l : E D} {pos pos2 ppos : Pos} {stm : Stmt} {sts : List Stmt} {f1 f2 : S} {D0 : Ends}

/-- a statement by an expression -/
def SRes.of {α : Type} (r : Res α) (k : α → LS → SRes) : SRes := match r with
  | .ok a st => k a st
  | .exc x st => .exc x st
  | .bad => .bad
@[simp] theorem of_ok {α : Type} (a : α) (st : LS) (k : α → LS → SRes) : SRes.of (.ok a st) k = k a st := id rfl
@[simp] theorem of_exc {α : Type} (x : XV) (st : LS) (k : α → LS → SRes) : SRes.of (.exc x st : Res α) k = .exc x st := id rfl
@[simp] theorem of_bad {α : Type} (k : α → LS → SRes) : SRes.of (.bad : Res α) k = .bad := id rfl
theorem GoS.up {r : SRes} (h : GoS Γ W Z Lt D0 r g) (t : GT Z g g') : GoS Γ W Z Lt D0 r g' := by
  cases r with
  | nx st => exact fun σ' g2 H' s t2 => h σ' g2 H' s (t.trans t2)
  | ret x st => exact fun v g2 H' s t2 => h v g2 H' s (t.trans t2)
  | bk st => exact fun σ' g2 H' s t2 => h σ' g2 H' s (t.trans t2)
  | ct st => exact fun σ' g2 H' s t2 => h σ' g2 H' s (t.trans t2)
  | exc x st => exact fun cls dd σ' g2 H' s t2 => h cls dd σ' g2 H' s (t.trans t2)
  | bad => exact h
theorem GoS.of {α : Type} {r : Res α} {k : α → LS → SRes} (h : GoS Γ W Z Lt D0 (SRes.of r k) g) : Go Γ W Z Lt σ r g fun a g1 st1 H1 => GoS Γ W Z Lt D0 (k a st1) g1 := by
  cases r with
  | ok a st => exact fun g1 H1 s t => GoS.up h t
  | exc x st => exact fun cls dd g' H' s t xr => h cls dd σ g' H' s t xr
  | bad => exact h

/-! ### blocks -/
def sNx : S := fun st => .nx st
def sSeq (f1 f2 : S) : S := fun st => match f1 st with
  | .nx st' => f2 st'
  | r => r
theorem sts_nil : PSts Γ W X [] sNx := ⟨pss_nil.csq fun D σ H ⟨Z, Lt, g, st, s, h⟩ => h σ g H s (GT.refl _ _)⟩
theorem seq_T (h : TSt Γ W (sSeq f1 f2) D0 σ H) : tSeq (TSt Γ W f1) (TSt Γ W f2) D0 σ H := by
  obtain ⟨Z, Lt, g, st, s, h⟩ := h
  refine ⟨Z, Lt, g, st, s, ?_⟩
  unfold sSeq at h
  revert h
  cases f1 st with
  | nx st' => exact fun h σ' g' H' s' t => ⟨Z, Lt, g', st', s', h.up t⟩
  | ret x st' => exact fun h => h
  | bk st' => exact fun h => h
  | ct st' => exact fun h => h
  | exc x st' => exact fun h => h
  | bad => exact fun h => h
theorem sts_cons (x : PSt Γ W X stm f1) (y : PSts Γ W X sts f2) : PSts Γ W X (stm :: sts) (sSeq f1 f2) := ⟨(pss_cons x.ps y.ps).csq fun D σ H h => seq_T h⟩
theorem sts_one (x : PSt Γ W X stm f1) : PSts Γ W X [stm] f1 := ⟨pss_one x.ps⟩
def sBk : S := fun st => .bk st
def sCt : S := fun st => .ct st
theorem st_pass : PSt Γ W X (.Pass pos) sNx := ⟨ps_pass.csq fun D σ H ⟨Z, Lt, g, st, s, h⟩ => h σ g H s (GT.refl _ _)⟩
theorem st_break : PSt Γ W X (.Break pos) sBk := ⟨ps_break.csq fun D σ H ⟨Z, Lt, g, st, s, h⟩ => h σ g H s (GT.refl _ _)⟩
theorem st_cont : PSt Γ W X (.Continue pos) sCt := ⟨ps_continue.csq fun D σ H ⟨Z, Lt, g, st, s, h⟩ => h σ g H s (GT.refl _ _)⟩
/-- code that is never run -/
def sBad : S := fun _ => .bad
theorem sts_never : PSts Γ W X sts sBad := ⟨pss_never.csq fun D σ H ⟨Z, Lt, g, st, s, h⟩ => h⟩
def sEx (f : E D) : S := fun st => SRes.of (f st) fun _ s1 => .nx s1
theorem st_ex (x : PD Γ W X e f) (hs : swapsWith e none pos.line X.env = pure false := by rfl) : PSt Γ W X (.Expr e pos) (sEx f) :=
  ⟨(ps_expr x.pe hs).csq fun D σ H ⟨Z, Lt, g, st, s, h⟩ => ⟨Z, Lt, g, st, s, (GoS.of h).imp fun d g1 st1 H1 s1 t1 k1 v r => k1 g1 H1 s1 (GT.refl _ _) σ g1 H1 s1 (GT.refl _ _)⟩⟩
/-- return -/
def sRet (f : E D) : S := fun st => SRes.of (f st) fun d s1 => .ret (.val d) s1
def sRetF (f : E D) : S := fun st => SRes.of (f st) fun d s1 => .ret (.own d) s1
theorem st_ret (x : PD Γ W X e f) : PSt Γ W X (.Return (some e) pos) (sRet f) :=
  ⟨(ps_ret x.pe).csq fun D σ H ⟨Z, Lt, g, st, s, h⟩ => ⟨Z, Lt, g, st, s, (GoS.of h).imp fun d g1 st1 H1 s1 t1 k1 v r => k1 g1 H1 s1 (GT.refl _ _) v g1 H1 s1.sh (GT.refl _ _) r⟩⟩
theorem st_retF (x : PF Γ W X e f) : PSt Γ W X (.Return (some e) pos) (sRetF f) :=
  ⟨(ps_ret x.pe).csq fun D σ H ⟨Z, Lt, g, st, s, h⟩ => ⟨Z, Lt, g, st, s, (GoS.of h).imp fun d g1 st1 H1 s1 t1 k1 a r => k1 g1 H1 s1 (GT.refl _ _) (.ref a) g1 H1 s1.sh (GT.refl _ _) ⟨a, rfl, r⟩⟩⟩
theorem st_retN : PSt Γ W X (.Return none pos) (sRet (eC .non)) :=
  ⟨ps_retN.csq fun D σ H ⟨Z, Lt, g, st, s, h⟩ => h .non g H s.sh (GT.refl _ _) (RD.non (Γ := Γ) (g := g))⟩
/-- return name, the name holding a list of one's own -/
def sRetO (i : Nat) : S := fun st => match st.s[i]? with
  | some (some (.own d)) => .ret (.own d) st
  | some (some (.val d)) => .ret (.val d) st
  | _ => .bad
theorem st_retO {i : Nat} {x : Str} (hN : X.N[i]? = some x) (hv : Vis X.env.scope x) (hd : (x == ("__debug__" : Str)) = false := by decide) (hcd : (x == ("__classdict__" : Str)) = false := by decide) :
    PSt Γ W X (.Return (some (.Name x pos2)) pos) (sRetO i) := ⟨(ps_ret (pe_var hN hv hd hcd)).csq fun D σ H ⟨Z, Lt, g, st, s, h⟩ => by
  unfold sRetO at h
  split at h
  · rename_i d e
    obtain ⟨v, e1, a, rfl, h1, h2, h3, h4, o, h5, h6⟩ := s.sv i _ e
    refine ⟨_, e1, ?_⟩
    -- from the name's hand to nobody's
    have nz : ∀ b u, Z b = some u → b ≠ a := fun b u z q => by rw [q, h2] at z; cases z
    have gt : GT Z g (g.tmp a .tmp) := ⟨GLe.refl _, ⟨[], by simp⟩, fun b u z => tmp_ne (nz b u z), fun _ _ _ h => h⟩
    have kp : Kp Z g (g.tmp a .tmp) H H fun p => p ≠ .loc i := ⟨gt, fun b p u hp k1 k2 k3 k4 k5 => by
      have ne : b ≠ a := fun q => by subst q; rw [h3] at k3; cases k3; exact hp rfl
      exact ⟨k1, by rw [tmp_ne ne]; exact k3, k4, k5⟩⟩
    refine h (.ref a) (g.tmp a .tmp) H (s.sh.keep kp (fun r f => by simp) rfl (fun _ _ _ e => e) s.sh.gh s.sh.zh s.sh.gz fun b m => ⟨(s.sh.mf b m).1, ?_⟩) gt ⟨a, rfl, h1, h2, tmp_same, h4, o, h5, h6.mono gt.le gt.mp⟩
    exact (tmp_ne (fun q => h4 (by rw [← q]; exact m))).trans (s.sh.mf b m).2.2
  · rename_i d e
    obtain ⟨v, e1, r⟩ := s.sv i _ e
    exact ⟨v, e1, h v g H s.sh (GT.refl _ _) r⟩
  · exact h.elim⟩
/-- if -/
def sIf (c : E Bool) (f1 f2 : S) : S := fun st => SRes.of (c st) fun b s1 => if b then f1 s1 else f2 s1
theorem st_if {c : Expr} {b : E Bool} {s1 s2 : List Stmt} (x : PB Γ W X c b) (y : PSts Γ W X s1 f1) (z : PSts Γ W X s2 f2) : PSt Γ W X (.If c s1 s2 pos) (sIf b f1 f2) :=
  ⟨(ps_if x.pt y.ps z.ps).csq fun D σ H ⟨Z, Lt, g, st, s, h⟩ => ⟨Z, Lt, g, st, s, (GoS.of h).imp fun d g1 st1 H1 s1 t1 k1 => by
    have k2 := k1 g1 H1 s1 (GT.refl _ _)
    cases d with
    | true => exact ⟨Z, Lt, g1, st1, s1, k2⟩
    | false => exact ⟨Z, Lt, g1, st1, s1, k2⟩⟩⟩

/-! ### names stored -/
def LS.set (st : LS) (i : Nat) (x : FV) : LS := { st with s := st.s.set i (some x) }
theorem SR.setV (s : SR Γ Z Lt g st σ H) (i : Nat) (r : RD Γ g d v) : SR Γ Z Lt g (st.set i (.val d)) (σ.set i (some v)) H :=
  ⟨s.sh, by simpa [LS.set] using s.sl, fun j x e => by
    have e : (st.s.set i (some (.val d)))[j]? = some (some x) := e
    by_cases hj : j = i
    · subst hj
      by_cases hl : j < st.s.length
      · rw [List.getElem?_set_self hl] at e
        cases e
        exact ⟨v, List.getElem?_set_self (by rw [s.sl]; exact hl), r⟩
      · rw [List.getElem?_eq_none (by simpa using hl)] at e; cases e
    · rw [List.getElem?_set_ne (Ne.symm hj)] at e
      obtain ⟨w, e1, f⟩ := s.sv j x e
      exact ⟨w, by rw [List.getElem?_set_ne (Ne.symm hj)]; exact e1, f⟩⟩
theorem SR.setO (s : SR Γ Z Lt g st σ H) (i : Nat) (x : OA Γ Z g H .tmp a d) : SR Γ Z Lt (g.tmp a (.loc i)) (st.set i (.own d)) (σ.set i (some (.ref a))) H ∧ GT Z g (g.tmp a (.loc i)) := by
  obtain ⟨h1, h2, h3, h4, o, h5, h6⟩ := x
  have nz : ∀ b u, Z b = some u → b ≠ a := fun b u z q => by rw [q, h2] at z; cases z
  have gt : GT Z g (g.tmp a (.loc i)) := ⟨GLe.refl _, ⟨[], by simp⟩, fun b u z => tmp_ne (nz b u z), fun _ _ _ h => h⟩
  have kp : Kp Z g (g.tmp a (.loc i)) H H fun p => p ≠ .tmp := ⟨gt, fun b p u hp k1 k2 k3 k4 k5 => by
    have ne : b ≠ a := fun q => by subst q; rw [h3] at k3; cases k3; exact hp rfl
    exact ⟨k1, by rw [tmp_ne ne]; exact k3, k4, k5⟩⟩
  refine ⟨⟨s.sh.keep kp (fun r f => by simp) rfl (fun _ _ _ e => e) s.sh.gh s.sh.zh s.sh.gz fun b m => ⟨(s.sh.mf b m).1, (tmp_ne (fun q => h4 (by rw [← q]; exact m))).trans (s.sh.mf b m).2.2⟩, by simpa [LS.set] using s.sl, fun j x e => ?_⟩, gt⟩
  have e : (st.s.set i (some (.own d)))[j]? = some (some x) := e
  by_cases hj : j = i
  · subst hj
    by_cases hl : j < st.s.length
    · rw [List.getElem?_set_self hl] at e
      cases e
      exact ⟨_, List.getElem?_set_self (by rw [s.sl]; exact hl), a, rfl, h1, h2, tmp_same, h4, o, h5, h6.mono gt.le gt.mp⟩
    · rw [List.getElem?_eq_none (by simpa using hl)] at e; cases e
  · rw [List.getElem?_set_ne (Ne.symm hj)] at e
    obtain ⟨w, e1, f⟩ := s.sv j x e
    exact ⟨w, by rw [List.getElem?_set_ne (Ne.symm hj)]; exact e1, f.keep kp (by simp)⟩
def sSet (i : Nat) (f : E D) : S := fun st => SRes.of (f st) fun d s1 => .nx (s1.set i (.val d))
def sSetF (i : Nat) (f : E D) : S := fun st => SRes.of (f st) fun d s1 => .nx (s1.set i (.own d))
theorem setV_T {i : Nat} (h : TSt Γ W (sSet i f) D0 σ H) : tAsg (T Γ W f) (gName i) D0 σ H := by
  obtain ⟨Z, Lt, g, st, s, h⟩ := h
  exact ⟨Z, Lt, g, st, s, (GoS.of h).imp fun d g1 st1 H1 s1 t1 k1 v r => k1 g1 H1 s1 (GT.refl _ _) _ g1 H1 (s1.setV i r) (GT.refl _ _)⟩
theorem setF_T {i : Nat} (h : TSt Γ W (sSetF i f) D0 σ H) : tAsg (TF Γ W f) (gName i) D0 σ H := by
  obtain ⟨Z, Lt, g, st, s, h⟩ := h
  exact ⟨Z, Lt, g, st, s, (GoS.of h).imp fun d g1 st1 H1 s1 t1 k1 a r => k1 g1 H1 s1 (GT.refl _ _) _ _ H1 (s1.setO i r).1 (s1.setO i r).2⟩
theorem st_set {i : Nat} {x : Str} {pos' : Pos} (hN : X.N.Nodup) (hi : X.N[i]? = some x) (hx : Loc X.env.scope x) (y : PD Γ W X e f) (hs : swapsWith e (some (.Name x pos')) pos.line X.env = pure false := by rfl)
    (hf : X.fn x = true ∨ X.env.scope.names.lookup x = some .local := by first | exact .inl rfl | exact .inr rfl | assumption) : PSt Γ W X (.Assign [.Name x pos'] e pos) (sSet i f) := ⟨(ps_set hN hi hx y.pe hs hf).csq fun D σ H h => setV_T h⟩
theorem st_setF {i : Nat} {x : Str} {pos' : Pos} (hN : X.N.Nodup) (hi : X.N[i]? = some x) (hx : Loc X.env.scope x) (y : PF Γ W X e f) (hs : swapsWith e (some (.Name x pos')) pos.line X.env = pure false := by rfl)
    (hf : X.fn x = true ∨ X.env.scope.names.lookup x = some .local := by first | exact .inl rfl | exact .inr rfl | assumption) : PSt Γ W X (.Assign [.Name x pos'] e pos) (sSetF i f) := ⟨(ps_set hN hi hx y.pe hs hf).csq fun D σ H h => setF_T h⟩

/-! ### several targets -/
theorem wipe_set {σ : L2.St} {i : Nat} {x : Option V} : ∀ {ws : List Nat}, i ∈ ws → wipe (σ.set i x) ws = wipe σ ws
  | j :: r, m => by
    show (wipe (σ.set i x) r).set j none = (wipe σ r).set j none
    by_cases c : i ∈ r
    · rw [wipe_set c]
    · have e : i = j := by
        rcases List.mem_cons.mp m with e | m
        · exact e
        · exact absurd m c
      subst e
      have : ∀ {r : List Nat}, i ∉ r → wipe (σ.set i x) r = (wipe σ r).set i x := by
        intro r
        induction r with
        | nil => intro _; rfl
        | cons k r ih =>
          intro hn
          have h1 : i ≠ k := fun z => hn (by rw [z]; exact List.mem_cons_self)
          have h2 : i ∉ r := fun z => hn (List.mem_cons_of_mem _ z)
          show (wipe (σ.set i x) r).set k none = ((wipe σ r).set k none).set i x
          rw [ih h2, List.set_comm _ _ h1]
      rw [this c, List.set_set]
/-- the values go to the names, from the left -/
def setAll : List Nat → List D → LS → LS
  | i :: is, d :: ds, st => setAll is ds (st.set i (.val d))
  | _, _, st => st
structure PTg (X : Cx) (ts : List Expr) (is : List Nat) : Prop where
  pg : ∃ t, L2.PGs X ts t ∧ ∀ vs σ H Q, vs.length = is.length → (∀ σ', (∀ ws : List Nat, (∀ i ∈ is, i ∈ ws) → wipe σ' ws = wipe σ ws) → (∀ Γ Z Lt g st ds, SR Γ Z Lt g st σ H → RDs Γ g ds vs → SR Γ Z Lt g (setAll is ds st) σ' H) → Q σ' H) → t vs σ H Q
theorem tg_nil : PTg X [] [] := ⟨gNil, pgs_nil, fun vs σ H Q hl h => by
  have : vs = [] := List.length_eq_zero_iff.mp hl
  subst this
  exact ⟨rfl, h σ (fun ws _ => rfl) fun Γ Z Lt g st ds s r => by cases ds <;> exact s⟩⟩
theorem tg_cons {i : Nat} {is : List Nat} {x : Str} {ts : List Expr} (hN : X.N.Nodup) (hi : X.N[i]? = some x) (hx : Loc X.env.scope x) (y : PTg X ts is)
    (hf : X.fn x = true ∨ X.env.scope.names.lookup x = some .local := by first | exact .inl rfl | exact .inr rfl | assumption)
    (hs : (assignEach (.Name x pos :: ts) X.env).map (·.2) = assign (.Name x pos) X.env :: (assignEach ts X.env).map (·.2) := by rfl) : PTg X (.Name x pos :: ts) (i :: is) := by
  obtain ⟨t, h1, h2⟩ := y.pg
  refine ⟨_, pgs_cons (pg_name hN hi hx hf) h1 hs, fun vs σ H Q hl h => ?_⟩
  cases vs with
  | nil => cases hl
  | cons v r =>
    refine ⟨v, r, rfl, h2 r _ H Q (by simpa using hl) fun σ' kw k => h σ' (fun ws hw => (kw ws fun j hj => hw j (List.mem_cons_of_mem _ hj)).trans (wipe_set (hw i List.mem_cons_self))) fun Γ Z Lt g st ds s rs => ?_⟩
    cases ds with
    | nil => simp [RDs] at rs
    | cons d ds =>
      simp only [RDs] at rs
      obtain ⟨v', r', e, r1, r2⟩ := rs
      cases e
      exact k Γ Z Lt g _ ds (s.setV i r1) r2
def D.items : D → Option (List D)
  | .tup ds => some ds
  | .lst ds => some ds
  | _ => none
def sUnT (is : List Nat) (f : E D) : S := fun st => SRes.of (f st) fun d s1 => match d with
  | .tup ds => if ds.length = is.length then .nx (setAll is ds s1) else .bad
  | _ => .bad
theorem unT_G {ts : List Expr} {is : List Nat} {kt : Nat} {pt : Pos} (hc : X.calm = true) (hK : X.K = Γ.K) (y : PTg X ts is) (hn : (assignEach ts X.env).length = is.length := by rfl) (hst : (assignEach ts X.env).findIdx? (·.1) = none := by rfl) :
    ∃ gg : TG, PG X (.Tuple ts kt pt) gg ∧ ∀ ds v σ H Q Z Lt g st, SR Γ Z Lt g st σ H → CV Γ g H (.tup ds) v → ds.length = is.length → (∀ σ', (∀ ws : List Nat, (∀ i ∈ is, i ∈ ws) → wipe σ' ws = wipe σ ws) → SR Γ Z Lt g (setAll is ds st) σ' H → Q σ' H) → gg v σ H Q := by
  obtain ⟨t, h1, h2⟩ := y.pg
  refine ⟨_, pg_tup hc h1 hn hst, fun ds v σ H Q Z Lt g st s c hl h => ?_⟩
  obtain ⟨a, vs, rfl, q, r⟩ := c.tup s
  exact ⟨a, vs, rfl, by rw [hK]; exact q, by rw [← r.length]; exact hl, h2 vs σ H Q (by rw [← r.length]; exact hl) fun σ' kw k => h σ' kw (k Γ Z Lt g st ds s r)⟩
theorem st_unT {ts : List Expr} {is : List Nat} {kt : Nat} {pt : Pos} (hc : X.calm = true) (hK : X.K = Γ.K) (y : PTg X ts is) (x : PD Γ W X e f) (hn : (assignEach ts X.env).length = is.length := by rfl) (hst : (assignEach ts X.env).findIdx? (·.1) = none := by rfl)
    (hs : swapsWithSole [.Tuple ts kt pt] e pos.line X.env = pure false := by rfl) (hw : swappedStores [.Tuple ts kt pt] e X.env = pure none := by rfl) (h1 : (assignEach [.Tuple ts kt pt] X.env).map (·.2) = [assign (.Tuple ts kt pt) X.env] := by rfl) :
    PSt Γ W X (.Assign [.Tuple ts kt pt] e pos) (sUnT is f) := by
  obtain ⟨gg, g1, g2⟩ := unT_G (Γ := Γ) hc hK y hn hst
  refine ⟨(ps_asg x.pe g1 hs hw h1).csq fun D σ H ⟨Z, Lt, g, st, s, h⟩ => ⟨Z, Lt, g, st, s, (GoS.of h).imp fun d g1 st1 H1 s1 t1 k1 v r => ?_⟩⟩
  have k2 := k1 g1 H1 s1 (GT.refl _ _)
  cases d with
  | tup ds =>
    simp only at k2
    split at k2
    · exact g2 ds v σ H1 _ Z Lt g1 st1 s1 (.inl r) ‹_› fun σ' _ s' => k2 σ' g1 H1 s' (GT.refl _ _)
    · exact k2.elim
  | _ => exact k2.elim
end
end PL

/-! PyLite, part k: loops, functions, a law's end. -/
namespace PL
open PySem PySem.Spec PyProof.Rows L2
section
variable {Γ : Tab} {W : WX} {Z : Hp} {Lt : Lend} {g g' : GM} {st st' : LS} {σ σ' : L2.St} {H H' : Hp} {h h' : List LO} {a p : Addr} {o : HO} {d : D} {v : V} {X : Cx} {e e1 e2 e3 : Expr} {es : List Expr} {f k l : E D} {pos pos2 ppos : Pos} {stm : Stmt} {sts : List Stmt} {f1 f2 : S} {D0 : Ends}

/-! ### for -/
/-- the turns of a loop over known items: tg stores an item, b is the body -/
def turns (tg : D → LS → Option LS) (b : S) : List D → LS → SRes
  | [], st => .nx st
  | d :: ds, st => match tg d st with
    | none => .bad
    | some s1 => match b s1 with
      | .nx s2 => turns tg b ds s2
      | .ct s2 => turns tg b ds s2
      | .bk s2 => .nx s2
      | r => r
/-- what a target's store is worth -/
abbrev TarOk (Γ : Tab) (is : List Nat) (tg : D → LS → Option LS) (t : TG) : Prop := ∀ d v σ H Q Z Lt g st s1, SR Γ Z Lt g st σ H → CV Γ g H d v → tg d st = some s1 →
  (∀ σ', (∀ ws : List Nat, (∀ i ∈ is, i ∈ ws) → wipe σ' ws = wipe σ ws) → SR Γ Z Lt g s1 σ' H → Q σ' H) → RD Γ g d v → t v σ H Q
structure PTar (Γ : Tab) (X : Cx) (target : Expr) (is : List Nat) (tg : D → LS → Option LS) : Prop where
  pg : ∃ t, PG X target t ∧ TarOk Γ is tg t
def tgN (i : Nat) : D → LS → Option LS := fun d st => some (st.set i (.val d))
theorem tar_name {i : Nat} {x : Str} (hN : X.N.Nodup) (hi : X.N[i]? = some x) (hx : Loc X.env.scope x)
    (hf : X.fn x = true ∨ X.env.scope.names.lookup x = some .local := by first | exact .inl rfl | exact .inr rfl | assumption) : PTar Γ X (.Name x pos) [i] (tgN i) :=
  ⟨_, pg_name hN hi hx hf, fun d v σ H Q Z Lt g st s1 s c e h r => by cases e; exact h _ (fun ws hw => wipe_set (hw i List.mem_cons_self)) (s.setV i r)⟩
def tgT (is : List Nat) : D → LS → Option LS := fun d st => match d with
  | .tup ds => if ds.length = is.length then some (setAll is ds st) else none
  | _ => none
theorem tar_tup {ts : List Expr} {is : List Nat} {kt : Nat} (hc : X.calm = true) (hK : X.K = Γ.K) (y : PTg X ts is) (hn : (assignEach ts X.env).length = is.length := by rfl) (hst : (assignEach ts X.env).findIdx? (·.1) = none := by rfl) : PTar Γ X (.Tuple ts kt pos) is (tgT is) := by
  obtain ⟨gg, g1, g2⟩ := unT_G (Γ := Γ) (pt := pos) (kt := kt) hc hK y hn hst
  refine ⟨gg, g1, fun d v σ H Q Z Lt g st s1 s c e h r => ?_⟩
  cases d with
  | tup ds =>
    simp only [tgT] at e
    split at e
    · cases e; exact g2 ds v σ H Q Z Lt g st s c ‹_› h
    · cases e
  | _ => cases e
/-- nothing that stood is touched -/
structure Quiet (g : GM) (H : Hp) (g' : GM) (H' : Hp) : Prop where
  st : ∀ a o, H a = some o → H' a = some o ∧ g'.G a = g.G a ∧ g'.O a = g.O a
  m : ∀ a o, H a = some o → a ∈ g'.M → a ∈ g.M
theorem Quiet.refl (g : GM) (H : Hp) : Quiet g H g H := ⟨fun _ _ e => ⟨e, rfl, rfl⟩, fun _ _ _ m => m⟩
/-- the loop over an iterator whose turns give the items ds -/
theorem turns_run {tg : D → LS → Option LS} {b : S} {gg : TG} {is : List Nat} (hg : TarOk Γ is tg gg)
    {J : It} {ds : List D} {g0 : GM} (hgo : ∀ i H g st σ, i < ds.length → SR Γ Z Lt g st σ H → GT Z g0 g → J.go i H ∧ ∀ x H', J.yld i H x H' → ∃ g' d, ds[i]? = some d ∧ SR Γ Z Lt g' st σ H' ∧ GT Z g g' ∧ RD Γ g' d x ∧ Quiet g H g' H')
    (hst : ∀ H g st σ, SR Γ Z Lt g st σ H → GT Z g0 g → J.stop ds.length H) (s : SR Γ Z Lt g0 st σ H) (h : GoS Γ W Z Lt D0 (turns tg b ds st) g0) :
    ∃ Wi : Nat → Nat → L2.St → Hp → Prop, (∃ m, Wi 0 m σ H) ∧ ∀ i m σ H, Wi i m σ H →
      (J.stop i H ∧ D0.nx σ H) ∨ (J.go i H ∧ ∃ N : L2.St → Hp → Prop, (∀ σ' H', N σ' H' → ∃ m', m' < m ∧ Wi (i + 1) m' σ' H') ∧ ∀ x H', J.yld i H x H' → gg x σ H' fun σ2 H2 => TSt Γ W b { D0 with nx := N, ct := N, bk := D0.nx } σ2 H2) := by
  refine ⟨fun i m σ H => m = ds.length - i ∧ i ≤ ds.length ∧ ∃ g st, SR Γ Z Lt g st σ H ∧ GT Z g0 g ∧ GoS Γ W Z Lt D0 (turns tg b (ds.drop i) st) g, ⟨ds.length, by simp, Nat.zero_le _, g0, st, s, GT.refl _ _, by simpa using h⟩, ?_⟩
  rintro i m σ H ⟨rfl, hi, g, st, s, t, h⟩
  by_cases hlt : i < ds.length
  · obtain ⟨go, step⟩ := hgo i H g st σ hlt s t
    refine .inr ⟨go, fun σ' H' => i + 1 ≤ ds.length ∧ ∃ g st, SR Γ Z Lt g st σ' H' ∧ GT Z g0 g ∧ GoS Γ W Z Lt D0 (turns tg b (ds.drop (i + 1)) st) g, fun σ' H' ⟨q1, q2⟩ => ⟨ds.length - (i + 1), by omega, rfl, q1, q2⟩, fun x H' y => ?_⟩
    obtain ⟨g', d, ed, s', t', r, _⟩ := step x H' y
    have ec : ds.drop i = d :: ds.drop (i + 1) := by
      rw [List.drop_eq_getElem_cons hlt]
      rw [List.getElem?_eq_getElem hlt] at ed
      cases ed; rfl
    rw [ec] at h
    simp only [turns] at h
    cases et : tg d st with
    | none => rw [et] at h; exact h.elim
    | some s1 =>
      rw [et] at h
      refine hg d x σ H' _ Z Lt g' st s1 s' (.inl r) et (fun σ2 _ s2 => ⟨Z, Lt, g', s1, s2, ?_⟩) r
      have h := h.up t'
      revert h
      simp only
      cases b s1 with
      | nx s3 => exact fun h σ' g2 H2 s2 t2 => ⟨hlt, g2, s3, s2, (t.trans t').trans t2, h.up t2⟩
      | ct s3 => exact fun h σ' g2 H2 s2 t2 => ⟨hlt, g2, s3, s2, (t.trans t').trans t2, h.up t2⟩
      | bk s3 => exact fun h => h
      | ret x s3 => exact fun h => h
      | exc x s3 => exact fun h => h
      | bad => exact fun h => h
  · have e : i = ds.length := by omega
    subst e
    refine .inl ⟨hst H g st σ s t, ?_⟩
    rw [List.drop_length] at h
    exact h σ g H s (GT.refl _ _)
/-- an iterable: its reading gives turns -/
structure PIt (Γ : Tab) (W : WX) (X : Cx) (tg iter : Expr) (f : E (List D)) : Prop where
  pi : ∃ wi, PI X tg iter wi ∧ ∀ σ H R, (∃ Z Lt g st, SR Γ Z Lt g st σ H ∧ Go Γ W Z Lt σ (f st) g fun ds g1 st1 H1 => SR Γ Z Lt g1 st1 σ H1 → ∀ J : It,
    (∀ i H g st σ, i < ds.length → SR Γ Z Lt g st σ H → GT Z g1 g → J.go i H ∧ ∀ x H', J.yld i H x H' → ∃ g' d, ds[i]? = some d ∧ SR Γ Z Lt g' st σ H' ∧ GT Z g g' ∧ RD Γ g' d x ∧ Quiet g H g' H') →
    (∀ H g st σ, SR Γ Z Lt g st σ H → GT Z g1 g → J.stop ds.length H) → R J H1) → wi σ H R
def sFor (f : E (List D)) (tg : D → LS → Option LS) (b : S) : S := fun st => SRes.of (f st) fun ds s1 => turns tg b ds s1
theorem st_for {iter target : Expr} {fi : E (List D)} {tg : D → LS → Option LS} (hp : PassesOwn (model X.prog X.w) X.A X.env X.xe) (hc : X.calm = true) {is : List Nat} (x : PIt Γ W X target iter fi) (y : PTar Γ X target is tg) (z : PSts Γ W X sts f1)
    (hs : ∀ x, foldedSetIterable iter X.env x = pure x := by intro _; rfl) : PSt Γ W X (.For target iter sts [] pos) (sFor fi tg f1) := by
  obtain ⟨wi, h1, h2⟩ := x.pi
  obtain ⟨gg, g1, g2⟩ := y.pg
  refine ⟨(ps_for hp hc h1 g1 z.ps hs).csq fun D σ H ⟨Z, Lt, g, st, s, h⟩ => h2 σ H _ ⟨Z, Lt, g, st, s, (GoS.of h).imp fun ds g1 st1 H1 s1 t1 k1 s1' J hgo hst => ?_⟩⟩
  exact turns_run g2 hgo hst s1 (k1 g1 H1 s1 (GT.refl _ _))
/-- over a value: a list or a tuple -/
def iVal (f : E D) : E (List D) := fun st => (f st).bind fun d s1 => match d with
  | .lst ds => .ok ds s1
  | _ => .bad
def iTup (f : E D) : E (List D) := fun st => (f st).bind fun d s1 => match d with
  | .tup ds => .ok ds s1
  | _ => .bad
theorem SV.seqL {Z : Hp} {g : GM} {ds : List D} {v : V} (r : SV Γ Z g (.lst ds) v) : ∃ a vs, v = .ref a ∧ RDs Γ g ds vs ∧ ∀ Lt g' st σ H, SR Γ Z Lt g' st σ H → GT Z g g' → SqL Γ.K H a vs := by
  rcases r with r | ⟨a, o, e, z, c | ⟨ob, u, e2, c⟩⟩
  · simp only [RD] at r
    obtain ⟨a, vs, e, q, r⟩ := r
    exact ⟨a, vs, e, r, fun Lt g' st σ H s t => sqL_le ((t.le).trans (GLe.sub s.sh.gh)) q⟩
  · cases o <;> first | exact c.elim | exact ⟨a, _, e, c, fun Lt g' st σ H s t => .inl (.inl (s.sh.zh a _ z))⟩
  · subst e2
    cases u <;> first | exact c.elim | exact ⟨a, _, e, c, fun Lt g' st σ H s t => .inl (.inr ⟨ob, s.sh.zh a _ z⟩)⟩
theorem it_list {target : Expr} (hK : X.K = Γ.K) (x : PV Γ W X e f) : PIt Γ W X target e (iVal f) := by
  refine ⟨_, pi_list x.pe, fun σ H R ⟨Z, Lt, g, st, s, h⟩ => ⟨Z, Lt, g, st, s, (Go.bind h).imp fun d g1 st1 H1 s1 t1 k1 v r => ?_⟩⟩
  have k2 := k1 g1 H1 s1 (GT.refl _ _)
  cases d with
  | lst ds =>
    obtain ⟨a, vs, rfl, rs, sq⟩ := r.seqL
    refine ⟨a, rfl, ⟨vs, by rw [hK]; exact sq Lt g1 st1 σ H1 s1 (GT.refl _ _)⟩, ?_⟩
    refine k2 g1 H1 s1 (GT.refl _ _) s1 _ (fun i H g st σ hi s t => ?_) (fun H g st σ s t => ⟨vs, by rw [hK]; exact sq Lt g st σ H s t, by rw [rs.length]; exact Nat.le_refl _⟩)
    obtain ⟨d, ed⟩ : ∃ d, ds[i]? = some d := ⟨ds[i], List.getElem?_eq_getElem hi⟩
    obtain ⟨w, ew, rw'⟩ := rs.get ed
    have sq' : SqL X.K H a vs := by rw [hK]; exact sq Lt g st σ H s t
    refine ⟨⟨vs, w, sq', ew⟩, fun x H' ⟨e1, e2⟩ => ?_⟩
    subst e1
    have := e2 vs sq'
    rw [ew] at this; cases this
    exact ⟨g, d, ed, s, GT.refl _ _, rw'.up t, Quiet.refl _ _⟩
  | _ => exact k2.elim

theorem it_tup {target : Expr} (hK : X.K = Γ.K) (x : PD Γ W X e f) : PIt Γ W X target e (iTup f) := by
  refine ⟨_, pi_tup x.pe, fun σ H R ⟨Z, Lt, g, st, s, h⟩ => ⟨Z, Lt, g, st, s, (Go.bind h).imp fun d g1 st1 H1 s1 t1 k1 v r => ?_⟩⟩
  have k2 := k1 g1 H1 s1 (GT.refl _ _)
  cases d with
  | tup ds =>
    simp only [RD] at r
    obtain ⟨a, vs, rfl, q, rs⟩ := r
    have sq : ∀ {g : GM} {st : LS} {σ : L2.St} {H : Hp}, SR Γ Z Lt g st σ H → GT Z g1 g → SqT X.K H a vs := fun {g st σ H} s t => by
      rw [hK]; exact sqT_le (t.le.trans (GLe.sub s.sh.gh)) q
    refine ⟨a, rfl, ⟨vs, sq s1 (GT.refl _ _)⟩, ?_⟩
    refine k2 g1 H1 s1 (GT.refl _ _) s1 _ (fun i H g st σ hi s t => ?_) (fun H g st σ s t => ⟨vs, sq s t, by rw [rs.length]; exact Nat.le_refl _⟩)
    obtain ⟨d, ed⟩ : ∃ d, ds[i]? = some d := ⟨ds[i], List.getElem?_eq_getElem hi⟩
    obtain ⟨w, ew, rw'⟩ := rs.get ed
    refine ⟨⟨vs, w, sq s t, ew⟩, fun x H' ⟨e1, e2⟩ => ?_⟩
    subst e1
    have := e2 vs (sq s t)
    rw [ew] at this; cases this
    exact ⟨g, d, ed, s, GT.refl _ _, rw'.up t, Quiet.refl _ _⟩
  | _ => exact k2.elim
/-- a range -/
def rangeD (lo : Int) (n : Nat) : List D := (List.range n).map fun (i : Nat) => D.int (lo + (i : Int))
def iRg1 (f : E D) : E (List D) := fun st => (f st).bind fun d s1 => match d with
  | .int j => if -(2 ^ 62) ≤ j ∧ j < 2 ^ 62 then .ok (rangeD 0 j.toNat) s1 else .bad
  | _ => .bad
def iRg2 (f k : E D) : E (List D) := fun st => (f st).bind fun d s1 => (k s1).bind fun c s2 => match d, c with
  | .int i, .int j => if -(2 ^ 62) ≤ i ∧ i < 2 ^ 62 ∧ -(2 ^ 62) ≤ j ∧ j < 2 ^ 62 then .ok (rangeD i (j - i).toNat) s2 else .bad
  | _, _ => .bad
theorem rangeD_len (lo : Int) (n : Nat) : (rangeD lo n).length = n := by simp [rangeD]
theorem rangeD_get {lo : Int} {n i : Nat} (h : i < n) : (rangeD lo n)[i]? = some (.int (lo + (i : Int))) := by simp [rangeD, h]
theorem range_J {lo : Int} {n : Nat} {g1 : GM} {R : It → Hp → Prop} (k : ∀ J : It, (∀ i H g st σ, i < (rangeD lo n).length → SR Γ Z Lt g st σ H → GT Z g1 g → J.go i H ∧ ∀ x H', J.yld i H x H' → ∃ g' d, (rangeD lo n)[i]? = some d ∧ SR Γ Z Lt g' st σ H' ∧ GT Z g g' ∧ RD Γ g' d x ∧ Quiet g H g' H') →
    (∀ H g st σ, SR Γ Z Lt g st σ H → GT Z g1 g → J.stop (rangeD lo n).length H) → R J H) : R (Itr lo n) H := by
  refine k _ (fun i H g st σ hi s t => ?_) fun H g st σ s t => by rw [rangeD_len]; exact Nat.le_refl _
  rw [rangeD_len] at hi
  refine ⟨hi, fun x H' ⟨e1, e2⟩ => ?_⟩
  subst e1 e2
  exact ⟨g, _, rangeD_get hi, s, GT.refl _ _, RD.int, Quiet.refl _ _⟩
theorem it_range1 {target : Expr} (hg : Gl X "range") (hm : X.mg "range" = none) (x : PD Γ W X e f) (hs : starEach [e] X.env = [(false, eval e X.env)] := by rfl) (hs2 : starEach [e] X.env = (false, eval e X.env) :: starEach [] X.env := by rfl) :
    PIt Γ W X target (.Call (.Name "range" ppos) [e] [] pos) (iRg1 f) := by
  refine ⟨_, pi_range1 hg hm (pa_cons x.pe pa_nil hs2) hs, fun σ H R ⟨Z, Lt, g, st, s, h⟩ => ⟨Z, Lt, g, st, s, (Go.bind h).imp fun d g1 st1 H1 s1 t1 k1 v r => ?_⟩⟩
  have k2 := k1 g1 H1 s1 (GT.refl _ _)
  cases d with
  | int j =>
    simp only [RD] at r; subst r
    simp only at k2
    split at k2
    · rename_i c
      exact ⟨j, rfl, c.1, c.2, range_J (g1 := g1) (k2 g1 H1 s1 (GT.refl _ _) s1)⟩
    · exact k2.elim
  | _ => exact k2.elim
theorem it_range2 {target : Expr} (hg : Gl X "range") (hm : X.mg "range" = none) (x : PD Γ W X e1 f) (y : PD Γ W X e2 k) (hs : starEach [e1, e2] X.env = [(false, eval e1 X.env), (false, eval e2 X.env)] := by rfl) (hs2 : starEach [e2] X.env = [(false, eval e2 X.env)] := by rfl)
    (hs3 : starEach [e1, e2] X.env = (false, eval e1 X.env) :: starEach [e2] X.env := by rfl) (hs4 : starEach [e2] X.env = (false, eval e2 X.env) :: starEach [] X.env := by rfl) :
    PIt Γ W X target (.Call (.Name "range" ppos) [e1, e2] [] pos) (iRg2 f k) := by
  refine ⟨_, pi_range2 hg hm (pa_cons x.pe (pa_cons y.pe pa_nil hs4) hs3) hs hs2, fun σ H R ⟨Z, Lt, g, st, s, h⟩ => ⟨Z, Lt, g, st, s, (Go.bind h).imp fun d g1 st1 H1 s1 t1 k1 v r => ?_⟩⟩
  refine ⟨Z, Lt, g1, st1, s1, (Go.bind (k1 g1 H1 s1 (GT.refl _ _))).imp fun c g2 st2 H2 s2 t2 k2 w r2 => ?_⟩
  have k3 := k2 g2 H2 s2 (GT.refl _ _)
  split at k3
  · rename_i i j
    simp only [RD] at r r2; subst r r2
    split at k3
    · rename_i c
      exact ⟨i, j, rfl, c, range_J (g1 := g2) (k3 g2 H2 s2 (GT.refl _ _) s2)⟩
    · exact k3.elim
  · exact k3.elim

/-! ### while -/
def wh (c : E Bool) (b : S) : Nat → LS → SRes
  | 0, _ => .bad
  | n + 1, st => SRes.of (c st) fun t s1 => if t then (match b s1 with
    | .nx s2 => wh c b n s2
    | .ct s2 => wh c b n s2
    | .bk s2 => .nx s2
    | r => r) else .nx s1
theorem wh_succ (c : E Bool) (b : S) : ∀ (n : Nat) (st : LS), wh c b n st ≠ .bad → wh c b (n + 1) st = wh c b n st
  | 0, st, h => absurd rfl h
  | n + 1, st, h => by
    rw [wh] at h
    rw [wh, wh]
    cases ec : c st with
    | ok t s1 =>
      rw [ec] at h
      simp only [of_ok] at h ⊢
      cases t with
      | false => rfl
      | true =>
        simp only [if_true] at h ⊢
        cases eb : b s1 with
        | nx s2 => rw [eb] at h; exact wh_succ c b n s2 h
        | ct s2 => rw [eb] at h; exact wh_succ c b n s2 h
        | _ => rfl
    | exc x s1 => rfl
    | bad => rfl
theorem wh_add (c : E Bool) (b : S) (n : Nat) (st : LS) (h : wh c b n st ≠ .bad) : ∀ m, wh c b (n + m) st = wh c b n st
  | 0 => rfl
  | m + 1 => by
    have ih := wh_add c b n st h m
    rw [← Nat.add_assoc, wh_succ c b (n + m) st (by rw [ih]; exact h), ih]
open Classical in
noncomputable def sWhile (c : E Bool) (b : S) : S := fun st => if h : ∃ n, wh c b n st ≠ .bad then wh c b (Classical.choose h) st else .bad
theorem sWhile_of {c : E Bool} {b : S} {n : Nat} {st : LS} (h : wh c b n st ≠ .bad) : sWhile c b st = wh c b n st := by
  unfold sWhile
  have hx : ∃ n, wh c b n st ≠ .bad := ⟨n, h⟩
  rw [dif_pos hx]
  have h2 := Classical.choose_spec hx
  have a1 := wh_add c b _ st h2 n
  have a2 := wh_add c b n st h (Classical.choose hx)
  rw [Nat.add_comm] at a1
  rw [← a1, a2]
theorem sWhile_ex {c : E Bool} {b : S} {st : LS} (h : sWhile c b st ≠ .bad) : ∃ n, wh c b n st = sWhile c b st ∧ wh c b n st ≠ .bad := by
  unfold sWhile at h
  split at h
  · rename_i hx
    exact ⟨Classical.choose hx, (sWhile_of h).symm, h⟩
  · exact absurd rfl h
theorem sWhile_none {c : E Bool} {b : S} {st : LS} (h : ∀ n, wh c b n st = .bad) : sWhile c b st = .bad := by
  unfold sWhile
  rw [dif_neg]
  rintro ⟨n, hn⟩
  exact hn (h n)
/-- one turn -/
theorem sWhile_eq (c : E Bool) (b : S) (st : LS) : sWhile c b st = SRes.of (c st) fun t s1 => if t then (match b s1 with
    | .nx s2 => sWhile c b s2
    | .ct s2 => sWhile c b s2
    | .bk s2 => .nx s2
    | r => r) else .nx s1 := by
  have key : ∀ s2, (∀ n, wh c b (n + 1) st = wh c b n s2) → sWhile c b st = sWhile c b s2 := by
    intro s2 e
    by_cases hx : ∃ n, wh c b n s2 ≠ .bad
    · obtain ⟨n, hn⟩ := hx
      rw [sWhile_of hn, sWhile_of (n := n + 1) (by rw [e]; exact hn), e]
    · have h2 : ∀ n, wh c b n s2 = .bad := fun n => Classical.byContradiction fun q => hx ⟨n, q⟩
      rw [sWhile_none h2, sWhile_none fun n => ?_]
      cases n with
      | zero => rfl
      | succ n => rw [e, h2]
  have key2 : ∀ r, (∀ n, wh c b (n + 1) st = r) → sWhile c b st = r := by
    intro r e
    by_cases hr : r = .bad
    · subst hr
      exact sWhile_none fun n => by cases n with
        | zero => rfl
        | succ n => exact e n
    · rw [sWhile_of (n := 1) (by rw [e 0]; exact hr), e 0]
  cases ec : c st with
  | ok t s1 =>
    simp only [of_ok]
    cases t with
    | false => exact key2 _ fun n => by rw [wh, ec]; rfl
    | true =>
      simp only [if_true]
      cases eb : b s1 with
      | nx s2 => exact key s2 fun n => by rw [wh, ec]; simp only [of_ok, if_true, eb]
      | ct s2 => exact key s2 fun n => by rw [wh, ec]; simp only [of_ok, if_true, eb]
      | _ => exact key2 _ fun n => by rw [wh, ec]; simp only [of_ok, if_true, eb]
  | exc x s1 => exact key2 _ fun n => by rw [wh, ec]; rfl
  | bad => exact key2 _ fun n => by rw [wh, ec]; rfl
theorem st_while {c : Expr} {b : E Bool} (hp : PassesOwn (model X.prog X.w) X.A X.env X.xe) (x : PB Γ W X c b) (y : PSts Γ W X sts f1) : PSt Γ W X (.While c sts [] pos) (sWhile b f1) := by
  refine ⟨(ps_while hp x.pt y.ps).csq fun D σ H ⟨Z, Lt, g0, st, s, h⟩ => ?_⟩
  by_cases hb : sWhile b f1 st = .bad
  · rw [hb] at h; exact h.elim
  obtain ⟨n, e, _⟩ := sWhile_ex hb
  rw [← e] at h
  refine ⟨fun m σ H => ∃ g st, SR Γ Z Lt g st σ H ∧ GoS Γ W Z Lt D (wh b f1 m st) g, ⟨n, g0, st, s, h⟩, ?_⟩
  rintro m σ H ⟨g, st, s, h⟩
  cases m with
  | zero => exact h.elim
  | succ m =>
    rw [wh] at h
    refine ⟨Z, Lt, g, st, s, (GoS.of h).imp fun t g1 st1 H1 s1 t1 k1 => ?_⟩
    have k2 := k1 g1 H1 s1 (GT.refl _ _)
    cases t with
    | false => exact k2 σ g1 H1 s1 (GT.refl _ _)
    | true =>
      show if (true : Bool) = true then _ else _
      rw [if_pos rfl]
      refine ⟨fun σ' H' => ∃ g st, SR Γ Z Lt g st σ' H' ∧ GoS Γ W Z Lt D (wh b f1 m st) g, fun σ' H' q => ⟨m, Nat.lt_succ_self m, q⟩, Z, Lt, g1, st1, s1, ?_⟩
      revert k2
      simp only [if_true]
      cases f1 st1 with
      | nx s3 => exact fun h σ' g2 H2 s2 t2 => ⟨g2, s3, s2, h.up t2⟩
      | ct s3 => exact fun h σ' g2 H2 s2 t2 => ⟨g2, s3, s2, h.up t2⟩
      | bk s3 => exact fun h => h
      | ret x s3 => exact fun h => h
      | exc x s3 => exact fun h => h
      | bad => exact fun h => h
end
end PL

/-! PyLite, part l: a def by its body; a law's end. -/
namespace PL
open PySem PySem.Spec PyProof.Rows L2
def startS (m : Nat) (fs : List FV) : List (Option FV) := fs.map some ++ List.replicate (m - fs.length) none
/-- a def is its body over m names -/
def fn (m : Nat) (s : S) : Fn := fun fs h => match s ⟨startS m fs, h⟩ with
  | .nx st => .ret (.val .non) st.h
  | .ret x st => .ret x st.h
  | .exc x st => .exc x st.h
  | _ => .bad
section
variable {Γ : Tab} {P : Program} {w : World} {K : PySem.W.Frag} {mg : Str → Option Value} {base : Heap}
abbrev WXof (X : XK) : WX := fun cls d _ H => X cls d H
theorem def_ok {x qual : Str} {st : Stmt} {f : Addr} {fd : FuncData} {N ps : List Str} {k m n : Nat} {s : S} (Fu : Fun K x qual st f fd) (Sc : FnScope N ps (defScope st)) (hm : N.length = m) (hn : ps.length = n)
    (hb : ∀ (cdv : Value) (A : Around) (outer : List Env) (s0 : Shared) (H : Hp) (X : XK), Room k (A.deeper (envOfC qual (defScope st) s0.heap.objs.size f cdv)) →
      PSts Γ (WXof X) (cxOf (L2.CX P w) P w K mg base N qual (defScope st) f cdv A outer s0 H X) (defBody st) s) :
    FnOk P w K mg base (L2.CX P w) (k + 1) f fd ps (spF Γ n (fn m s)) := by
  refine Fu.okX Sc (fun vs H Q E h => ?_) (fun cdv A outer s0 H vs Q E hr h => ?_)
  · obtain ⟨Z, Lt, g, ds, hp, _, r, hl, _⟩ := h
    rw [hn, ← hl, r.length]
  · refine ⟨_, (hb cdv A outer s0 H E hr).ps, ?_⟩
    obtain ⟨Z, Lt, g, ds, hp, S, r, hl, ht, h⟩ := h
    have hmn : n ≤ m := by
      have := congrArg List.length Sc.pre
      rw [List.length_take] at this
      omega
    refine ⟨Z, Lt, g, ⟨startS m ds, hp⟩, ⟨S, ?_, fun i x e => ?_⟩, ?_⟩
    · unfold L2.start startS
      simp only [List.length_append, List.length_map, List.length_replicate, r.length]
      omega
    · have e : (startS m ds)[i]? = some (some x) := e
      unfold startS at e
      by_cases hi : i < ds.length
      · rw [List.getElem?_append_left (by simpa using hi), List.getElem?_map] at e
        obtain ⟨y, ey⟩ : ∃ y, ds[i]? = some y := ⟨ds[i], List.getElem?_eq_getElem hi⟩
        rw [ey] at e
        cases e
        obtain ⟨v, ev, rv⟩ := r.get ey
        refine ⟨v, ?_, ?_⟩
        · unfold L2.start
          rw [List.getElem?_append_left (by rw [List.length_map, r.length]; exact hi), List.getElem?_map, ev]
          rfl
        · cases x with
          | val d => exact rv
          | own d => exact rv.elim
          | lent d =>
            obtain ⟨a, o, rfl, z, c⟩ := rv
            refine ⟨a, o, rfl, ?_, z, c⟩
            rw [ht i]
            unfold lentAt
            rw [ey, ev]
      · rw [List.getElem?_append_right (by simpa using hi), List.getElem?_replicate] at e
        split at e <;> cases e
    · unfold fn at h
      revert h
      cases s ⟨startS m ds, hp⟩ with
      | nx st => exact fun h σ' g' H' s' t => h .non g' H' s'.sh t (RD.non (Γ := Γ) (g := g'))
      | ret x st => exact fun h v g' H' s' t fv => h v g' H' s' t fv
      | bk st => exact fun h => h.elim
      | ct st => exact fun h => h.elim
      | exc x st => exact fun h cls dd σ' g' H' s' t xr => h cls dd g' H' s'.sh t xr
      | bad => exact fun h => h.elim

/-! ### a law's end -/
def spL (K : PySem.W.Frag) : Sp := fun vs H Q _ => ∃ (a : Addr) (ns : List Int), vs = [.ref a] ∧ SqL K H a (ns.map V.int) ∧ (ns.length ≤ 63 ∧ ∀ z ∈ ns, Builtin.Int.intBits z ≤ 1048576) ∧ ∀ H', Q (.bl true) H'
theorem law_imp {F : Fn} (nd : Γ.nm.Nodup) (hF : ∀ ns : List Int, (ns.length ≤ 63 ∧ ∀ z ∈ ns, Builtin.Int.intBits z ≤ 1048576) → ∃ h', F [.val (.lst (ns.map D.int))] [] = .ret (.val (.bl true)) h') (vs : List V) (H : Hp) (Q : VK) (E : XK) (h : spL Γ.K vs H Q E) : spF Γ 1 F vs H Q E := by
  obtain ⟨a, ns, rfl, sq, hl, q⟩ := h
  let g : GM := ⟨fun b => if b = a then H b else none, [], fun _ => none⟩
  have ga : g.G a = H a := if_pos rfl
  have sq' : SqL Γ.K g.G a (ns.map V.int) := by
    rcases sq with (sq | ⟨o, sq⟩) | sq
    · exact .inl (.inl (ga.trans sq))
    · exact .inl (.inr ⟨o, ga.trans sq⟩)
    · exact .inr sq
  refine ⟨fun _ => none, fun _ => none, g, _, [], ⟨fun b o e => ?_, (fun _ _ e => nomatch e), (fun _ _ e => nomatch e), rfl, List.nodup_nil, (fun _ m => nomatch m), (fun _ _ _ e _ => nomatch e), nd, (fun _ _ e => nomatch e)⟩, ARs.cons (x := .val (.lst (ns.map D.int))) (xs := []) (v := .ref a) ?_ rfl, rfl, fun i => ?_, ?_⟩
  · by_cases hb : b = a
    · exact (if_pos hb : g.G b = H b).symm.trans e
    · have : g.G b = none := if_neg hb
      rw [this] at e; cases e
  · show RD Γ g (.lst _) (.ref a)
    simp only [RD]
    exact ⟨a, _, rfl, sq', ints_rd ns⟩
  · unfold lentAt
    cases i with
    | zero => rfl
    | succ i => rfl
  · obtain ⟨h', e⟩ := hF ns hl
    rw [e]
    intro v g' H' s' t r
    have r : RD Γ g' (.bl true) v := r
    simp only [RD] at r
    subst r
    exact q H'
theorem law_walk {l : PySem.W.OpenLaw} {q : Program} {loose : List Str} {XP : (Str → Option Value) → Heap → Prop} {YP : World → Heap → Prop} {d : DefRec} {K : Params → PySem.W.Frag} {k : Nat} {x : Str}
    (hn : l.most = some 63) (hdf : d.params.defaults = []) (hr : Room k callerA) (hY : ∀ (w : World) (h : Heap), YP w h → (K w.params).In h)
    (F : ∀ (w : World) (mg : Str → Option Value) (fa : Addr) (h : Heap), (K w.params).In h → h.Ns mainGlobals mg → mg d.name = some (.ref fa) →
      ∃ fd : FuncData, (∀ (s : Shared) (u : Value), BindsTo s fd ⟨[u], []⟩ [(x, u)]) ∧
        ∀ base : Heap, (K w.params).In base → base.Ns mainGlobals mg → FnOk l.prog w (K w.params) mg base (L2.CX l.prog w) k fa fd [x] (spL (K w.params))) :
    PySem.W.WalkO q loose XP YP l.row.toRowW d [] (fun f vs => PySem.call f vs) :=
  L2.walk_ofB (n := 63) (k := k) (x := x) (CX := fun w => L2.CX l.prog w) (sp := fun w => spL (K w.params)) hn (by decide) hdf hr hY F
    (fun _ _ a ns hl hz _ hS => ⟨a, ns, rfl, hS, ⟨hl, hz⟩, fun _ => rfl⟩) fun w H s e s' h => by
      obtain ⟨_, _, _, _, _, _, _, _, _, _, _, _, z⟩ := h
      exact z
end
end PL

/-! PyLite, part m: what is protected for a while; comprehensions; lending. -/
namespace PL
open PySem PySem.Spec PyProof.Rows L2
section
variable {Γ : Tab} {W : WX} {Z : Hp} {Lt : Lend} {g g' : GM} {st st' : LS} {σ σ' : L2.St} {H H' : Hp} {h h' : List LO} {a p : Addr} {o : HO} {d : D} {v : V} {X : Cx} {e e1 e2 e3 : Expr} {es : List Expr} {f k l : E D} {pos pos2 ppos : Pos} {stm : Stmt} {sts : List Stmt} {f1 f2 : S} {D0 : Ends}

/-! ### an object of one's own is protected -/
theorem FVR.prot (n : Z p = none) (ho : g.O p = some q0) {q : Path} (hq : q ≠ q0) {x : FV} (f : FVR Γ Z Lt g H q x v) : FVR Γ (upd Z p o) Lt g H q x v := by
  cases x with
  | val d => exact f
  | own d =>
    obtain ⟨a, e, h1, h2, h3, h4⟩ := f
    have ne : a ≠ p := fun z => by subst z; rw [h3] at ho; cases ho; exact hq rfl
    exact ⟨a, e, h1, by rw [upd_ne ne]; exact h2, h3, h4⟩
  | lent d =>
    obtain ⟨a, u, e, h1, h2, h3⟩ := f
    exact ⟨a, u, e, h1, by rw [upd_ne (ne_of_none h2 n)]; exact h2, h3⟩
theorem FVR.unprot (n : Z p = none) (lz : LzOk Lt Z) {q : Path} {x : FV} (f : FVR Γ (upd Z p o) Lt g H q x v) : FVR Γ Z Lt g H q x v := by
  cases x with
  | val d => exact f
  | own d =>
    obtain ⟨a, e, h1, h2, h3, h4⟩ := f
    have ne : a ≠ p := fun z => by subst z; rw [upd_same] at h2; cases h2
    exact ⟨a, e, h1, by rw [upd_ne ne] at h2; exact h2, h3, h4⟩
  | lent d =>
    obtain ⟨a, u, e, h1, h2, h3⟩ := f
    obtain ⟨u', z, kq⟩ := lz q a h1
    have ne : a ≠ p := fun z' => by subst z'; rw [n] at z; cases z
    exact ⟨a, u, e, h1, by rw [upd_ne ne] at h2; exact h2, h3⟩
theorem FR.mapf {Z' : Hp} {Lt' : Lend} {r : Nat} {C : Addr} (m : ∀ (i : Nat) (x : FV) (v : V), FVR Γ Z Lt g H (.fld r i) x v → FVR Γ Z' Lt' g H (.fld r i) x v) : ∀ {fs : List (Nat × FV)} {ws : List (Str × V)}, FR Γ Z Lt g H r C fs ws → FR Γ Z' Lt' g H r C fs ws
  | [], _, f => f
  | y :: fs, _, f => by
    obtain ⟨n, v, q, e, h1, h2, h3, h4, h5⟩ := f
    exact ⟨n, v, q, e, h1, h2, m _ _ _ h3, h4, FR.mapf m h5⟩
theorem OR.mapf {Z' : Hp} {Lt' : Lend} {r : Nat} {lo : LO} (m : ∀ (i : Nat) (x : FV) (v : V), FVR Γ Z Lt g H (.fld r i) x v → FVR Γ Z' Lt' g H (.fld r i) x v) (l : ∀ o, Z a = some o → Lt (.lck a) = some a → Z' a = some o ∧ Lt' (.lck a) = some a) (f : OR Γ Z Lt g H r a lo) : OR Γ Z' Lt' g H r a lo := by
  cases lo with
  | ins c fs => obtain ⟨C, dx, ws, q1, q2, q3, q4⟩ := f; exact ⟨C, dx, ws, q1, q2, q3, FR.mapf m q4⟩
  | cell d => exact f
  | lck d => obtain ⟨q, ob, u, h1, h2, h3⟩ := f; exact ⟨(l _ h2 q).2, ob, u, h1, (l _ h2 q).1, h3⟩
/-- p, owned by nobody that is named, is protected -/
theorem SR.prot (s : SR Γ Z Lt g st σ H) (x : OA Γ Z g H .tmp p d) (e : H p = some o) : SR Γ (upd Z p o) Lt g st σ H := by
  obtain ⟨h1, h2, h3, h4, _⟩ := x
  refine ⟨⟨s.sh.gh, fun a u z => ?_, fun a u z => ?_, s.sh.ml, s.sh.mn, fun a m => ?_, fun r lo a e1 e2 => ?_, s.sh.nd, fun q a z => ?_⟩, s.sl, fun i x e => ?_⟩
  · by_cases c : a = p
    · subst c; rw [upd_same] at z; cases z; exact e
    · rw [upd_ne c] at z; exact s.sh.zh a u z
  · by_cases c : a = p
    · subst c; exact h1
    · rw [upd_ne c] at z; exact s.sh.gz a u z
  · have ne : a ≠ p := fun z => h4 (by rw [← z]; exact m)
    rw [upd_ne ne]; exact s.sh.mf a m
  · exact (s.sh.ob r lo a e1 e2).mapf (fun i x v f => f.prot h2 h3 (by simp)) fun u z l => ⟨by rw [upd_ne (ne_of_none z h2)]; exact z, l⟩
  · obtain ⟨u, z', kq⟩ := s.sh.lz q a z
    exact ⟨u, by rw [upd_ne (ne_of_none z' h2)]; exact z', kq⟩
  · obtain ⟨v, e1, f⟩ := s.sv i x e
    exact ⟨v, e1, f.prot h2 h3 (by simp)⟩
theorem unm {r : Addr} (n : Z p = none) (lz : LzOk Lt Z) (l : Lt (.lck r) = some a) : a ≠ p := fun e => by
  obtain ⟨o, z, _⟩ := lz _ _ l
  subst e; rw [n] at z; cases z
/-- .. and let go again -/
theorem SR.unprot (s : SR Γ (upd Z p o) Lt g st σ H) (n : Z p = none) (lz : LzOk Lt Z) : SR Γ Z Lt g st σ H ∧ H p = some o ∧ g.G p = none ∧ p ∉ g.M := by
  have zz : ∀ {a u}, Z a = some u → upd Z p o a = some u := fun {a u} z => by rw [upd_ne (ne_of_none z n)]; exact z
  refine ⟨⟨⟨s.sh.gh, fun a u z => s.sh.zh a u (zz z), fun a u z => s.sh.gz a u (zz z), s.sh.ml, s.sh.mn, fun a m => ?_, fun r lo a e1 e2 => (s.sh.ob r lo a e1 e2).mapf (fun i x v f => f.unprot n lz) fun u z l => ⟨by rw [upd_ne (unm n lz l)] at z; exact z, l⟩, s.sh.nd, lz⟩, s.sl, fun i x e => ?_⟩, s.sh.zh p o upd_same, s.sh.gz p o upd_same, fun m => ?_⟩
  · obtain ⟨m1, m2, m3⟩ := s.sh.mf a m
    exact ⟨m1, fun u z => m2 u (zz z), m3⟩
  · obtain ⟨v, e1, f⟩ := s.sv i x e
    exact ⟨v, e1, f.unprot n lz⟩
  · exact unm n lz ((s.sh.mf p m).2.1 _ upd_same) rfl
theorem GT.unprot (t : GT (upd Z p o) g g') (n : Z p = none) : GT Z g g' ∧ g'.O p = g.O p :=
  ⟨⟨t.le, t.mp, fun a u z => t.oz a u (by rw [upd_ne (ne_of_none z n)]; exact z), t.lo⟩, t.oz p o upd_same⟩

/-! ### comprehensions -/
theorem wipe_set2 {σ : L2.St} {i : Nat} : ∀ {ws : List Nat}, (L2.wipe (σ.set i none) ws) = (L2.wipe σ ws).set i none
  | [] => rfl
  | j :: r => by
    show (L2.wipe (σ.set i none) r).set j none = ((L2.wipe σ r).set j none).set i none
    rw [wipe_set2]
    by_cases c : i = j
    · subst c; rw [List.set_set]
    · rw [List.set_comm _ _ c]
theorem wipe_wipe {σ : L2.St} : ∀ {ws : List Nat}, L2.wipe (L2.wipe σ ws) ws = L2.wipe σ ws
  | [] => rfl
  | j :: r => by
    show (L2.wipe ((L2.wipe σ r).set j none) r).set j none = (L2.wipe σ r).set j none
    rw [wipe_set2, wipe_wipe, List.set_set]
def LS.clr (st : LS) (i : Nat) : LS := { st with s := st.s.set i none }
def wipeS : List Nat → LS → LS
  | [], st => st
  | i :: r, st => (wipeS r st).clr i
theorem SR.clr (s : SR Γ Z Lt g st σ H) (i : Nat) : SR Γ Z Lt g (st.clr i) (σ.set i none) H :=
  ⟨s.sh, by simpa [LS.clr] using s.sl, fun j x e => by
    have e : (st.s.set i none)[j]? = some (some x) := e
    by_cases hj : j = i
    · subst hj
      by_cases hl : j < st.s.length
      · rw [List.getElem?_set_self hl] at e; cases e
      · rw [List.getElem?_eq_none (by simpa using hl)] at e; cases e
    · rw [List.getElem?_set_ne (Ne.symm hj)] at e
      obtain ⟨v, e1, f⟩ := s.sv j x e
      exact ⟨v, by rw [List.getElem?_set_ne (Ne.symm hj)]; exact e1, f⟩⟩
theorem SR.wipe (s : SR Γ Z Lt g st σ H) : ∀ vs : List Nat, SR Γ Z Lt g (wipeS vs st) (L2.wipe σ vs) H
  | [] => s
  | i :: r => (SR.wipe s r).clr i
def Clean (vs : List Nat) (st : LS) : Prop := ∀ i ∈ vs, ∀ x, st.s[i]? ≠ some (some x)
theorem clean_wipe (st : LS) : ∀ vs : List Nat, Clean vs (wipeS vs st)
  | [], _, m, _ => nomatch m
  | j :: r, i, m, x => by
    show ((wipeS r st).s.set j none)[i]? ≠ some (some x)
    by_cases c : i = j
    · subst c
      by_cases hl : i < (wipeS r st).s.length
      · rw [List.getElem?_set_self hl]; intro z; cases z
      · rw [List.getElem?_eq_none (by simpa using hl)]; intro z; cases z
    · rw [List.getElem?_set_ne (Ne.symm c)]
      exact clean_wipe st r i ((List.mem_cons.mp m).resolve_left c) x
theorem SR.unwipe {vs : List Nat} (s : SR Γ Z Lt g st (L2.wipe σ vs) H) (c : Clean vs st) : SR Γ Z Lt g st σ H :=
  ⟨s.sh, by rw [← wipe_length σ vs]; exact s.sl, fun i x e => by
    obtain ⟨v, e1, f⟩ := s.sv i x e
    have ni : i ∉ vs := fun m => c i m x e
    rw [wipe_out ni] at e1
    exact ⟨v, e1, f⟩⟩
/-- an object that nobody names is changed -/
theorem SR.updT (s : SR Γ Z Lt g st σ H) (h1 : g.G p = none) (h2 : Z p = none) (h3 : g.O p = some .tmp) (h4 : p ∉ g.M) (o : HO) : SR Γ Z Lt g st σ (upd H p o) := by
  have kp : Kp Z g g H (upd H p o) fun q => q ≠ .tmp := ⟨GT.refl _ _, fun a q u hq k1 k2 k3 k4 k5 => by
    have ne : a ≠ p := fun z => by subst z; rw [h3] at k3; cases k3; exact hq rfl
    exact ⟨k1, k3, k4, by rw [upd_ne ne]; exact k5⟩⟩
  refine ⟨s.sh.keep kp (fun r f => by simp) rfl (fun a u m e => ?_) (fun a u e => ?_) (fun a u e => ?_) s.sh.gz fun a m => ⟨(s.sh.mf a m).1, (s.sh.mf a m).2.2⟩, s.sl, fun i x e => ?_⟩
  · have ne : a ≠ p := fun z => h4 (by rw [← z]; exact m)
    rw [upd_ne ne]; exact e
  · rw [upd_ne (ne_of_none e h1)]; exact s.sh.gh a u e
  · rw [upd_ne (ne_of_none e h2)]; exact s.sh.zh a u e
  · obtain ⟨v, e1, f⟩ := s.sv i x e
    exact ⟨v, e1, f.keep kp (by simp)⟩
def Res.nox {α : Type} : Res α → Res α
  | .exc _ _ => .bad
  | r => r
@[simp] theorem nox_ok {α : Type} (a : α) (st : LS) : (Res.ok a st).nox = .ok a st := id rfl
@[simp] theorem nox_exc {α : Type} (x : XV) (st : LS) : (Res.exc x st : Res α).nox = .bad := id rfl
@[simp] theorem nox_bad {α : Type} : (Res.bad : Res α).nox = .bad := id rfl
/-- the turns of a comprehension -/
def lcT (vs : List Nat) (tg : D → LS → Option LS) (t : E Bool) (e : E D) : List D → List D → LS → Res (List D)
  | [], acc, st => .ok acc st
  | d :: ds, acc, st => match tg d st with
    | none => .bad
    | some s1 => (t s1).nox.bind fun b s2 => if b then (e s2).nox.bind fun y s3 => if acc.length < 16777216 then lcT vs tg t e ds (acc ++ [y]) (wipeS vs s3) else .bad
      else lcT vs tg t e ds acc (wipeS vs s2)
def eLc (vs : List Nat) (fi : E (List D)) (tg : D → LS → Option LS) (t : E Bool) (e : E D) : E D := fun st => (fi st).bind fun ds s1 => (lcT vs tg t e ds [] (wipeS vs s1)).bind fun ys s2 => .ok (.lst ys) s2
abbrev WN : WX := fun _ _ _ _ => False
structure PTs (Γ : Tab) (X : Cx) (ifs : List Expr) (t : E Bool) : Prop where
  pt : L2.PTs X ifs (TB Γ WN t)
def tYes' : E Bool := fun st => .ok true st
theorem _root_.L2.PTs.csq {X : Cx} {e : List Expr} {t u : TT} (h : L2.PTs X e t) (i : ∀ σ H Q, u σ H Q → t σ H Q) : L2.PTs X e u := ⟨fun pins s σ H Q I w => h.run pins s σ H Q I (i _ _ _ w)⟩
theorem ts_nil : PTs Γ X [] tYes' := ⟨pts_nil.csq fun σ H Q ⟨Z, Lt, g, st, s, h⟩ => h g H s (GT.refl _ _)⟩
theorem ts_one {b : E Bool} (x : PB Γ WN X e b) : PTs Γ X [e] b := ⟨pts_one x.pt⟩
theorem lc_T {vs : List Nat} {fi : E (List D)} {tg : D → LS → Option LS} {t : E Bool} {e : E D} {gg : TG} {wi : TI} {is : List Nat} {Q : VK} (hv : ∀ i ∈ is, i ∈ vs) (hg : TarOk Γ is tg gg)
    (hi : ∀ σ H R, (∃ Z Lt g st, SR Γ Z Lt g st σ H ∧ Go Γ W Z Lt σ (fi st) g fun ds g1 st1 H1 => SR Γ Z Lt g1 st1 σ H1 → ∀ J : It,
      (∀ i H g st σ, i < ds.length → SR Γ Z Lt g st σ H → GT Z g1 g → J.go i H ∧ ∀ x H', J.yld i H x H' → ∃ g' d, ds[i]? = some d ∧ SR Γ Z Lt g' st σ H' ∧ GT Z g g' ∧ RD Γ g' d x ∧ Quiet g H g' H') →
      (∀ H g st σ, SR Γ Z Lt g st σ H → GT Z g1 g → J.stop ds.length H) → R J H1) → wi σ H R)
    (h : TF Γ W (eLc vs fi tg t e) σ H Q) : tLc wi gg (TB Γ WN t) (T Γ WN e) vs σ H Q := by
  obtain ⟨Z, Lt, g, st, s, h⟩ := h
  refine hi σ H _ ⟨Z, Lt, g, st, s, (Go.bind h).imp fun ds g1 st1 H1 s1 t1 k1 s1' J hgo hst D nD => ?_⟩
  have k2 := k1 g1 H1 s1 (GT.refl _ _)
  obtain ⟨sD, tD, d1, d2, d3, d4, _⟩ := s1'.newT (d := .lst []) (o := .lst []) nD (RDs.nil (Γ := Γ) (g := g1))
  have lz := s1'.sh.lz
  refine ⟨fun i m H => m = ds.length - i ∧ i ≤ ds.length ∧ ∃ g st acc ws, SR Γ Z Lt g st (L2.wipe σ vs) H ∧ Clean vs st ∧ GT Z g1 g ∧ (g.G D = none ∧ g.O D = some .tmp ∧ D ∉ g.M) ∧ H D = some (.lst ws) ∧ RDs Γ g acc ws ∧
    Go Γ W Z Lt σ ((lcT vs tg t e (ds.drop i) acc st).bind fun ys s2 => .ok (.lst ys) s2) g fun d g' _ H' => ∀ a, OA Γ Z g' H' .tmp a d → Q (.ref a) H',
    ⟨ds.length, by simp, Nat.zero_le _, g1.tmp D .tmp, wipeS vs st1, [], [], sD.wipe vs, clean_wipe st1 vs, tD, ⟨d1, d3, d4⟩, upd_same, RDs.nil (Γ := Γ) (g := g1.tmp D .tmp), ?_⟩, ?_⟩
  · rw [List.drop_zero]
    revert k2
    cases lcT vs tg t e ds [] (wipeS vs st1) with
    | ok ys s2 => exact fun k2 g' H' s' t' => k2 g' H' s' (tD.trans t')
    | exc x s2 => exact fun k2 cls dd g' H' s' t' => k2 cls dd g' H' s' (tD.trans t')
    | bad => exact fun k2 => k2
  · rintro i m H ⟨rfl, hi', g, st, acc, ws, S, cl, tt, ⟨q1, q2, q3⟩, eD, ra, k3⟩
    by_cases hlt : i < ds.length
    · obtain ⟨go, step⟩ := hgo i H g st _ hlt S tt
      refine .inr ⟨go, fun H => i + 1 ≤ ds.length ∧ ∃ g st acc ws, SR Γ Z Lt g st (L2.wipe σ vs) H ∧ Clean vs st ∧ GT Z g1 g ∧ (g.G D = none ∧ g.O D = some .tmp ∧ D ∉ g.M) ∧ H D = some (.lst ws) ∧ RDs Γ g acc ws ∧
        Go Γ W Z Lt σ ((lcT vs tg t e (ds.drop (i + 1)) acc st).bind fun ys s2 => .ok (.lst ys) s2) g fun d g' _ H' => ∀ a, OA Γ Z g' H' .tmp a d → Q (.ref a) H', fun H' ⟨z1, z2⟩ => ⟨ds.length - (i + 1), by omega, rfl, z1, z2⟩, fun x H' y => ?_⟩
      obtain ⟨g', d, ed, s', t', r, qt⟩ := step x H' y
      obtain ⟨u1, u2, u3⟩ := qt.st D _ eD
      have u4 : D ∉ g'.M := fun m => q3 (qt.m D _ eD m)
      have oa : OA Γ Z g' H' .tmp D (.lst acc) := ⟨u2.trans q1, d2, u3.trans q2, u4, _, u1, ra.up t'⟩
      have ec : ds.drop i = d :: ds.drop (i + 1) := by
        rw [List.drop_eq_getElem_cons hlt]
        rw [List.getElem?_eq_getElem hlt] at ed
        cases ed; rfl
      rw [ec] at k3
      simp only [lcT] at k3
      cases et : tg d st with
      | none => rw [et] at k3; exact k3.elim
      | some st2 =>
        rw [et] at k3
        refine hg d x _ H' _ (upd Z D (.lst ws)) Lt g' st st2 (s'.prot oa u1) (.inl r) et (fun σ2 hw s2 => ⟨(hw vs hv).trans wipe_wipe, upd Z D (.lst ws), Lt, g', st2, s2, ?_⟩) r
        have hw2 : L2.wipe σ2 vs = L2.wipe σ vs := (hw vs hv).trans wipe_wipe
        -- what follows a turn
        have next : ∀ {g5 : GM} {st5 : LS} {H5 : Hp}, SR Γ (upd Z D (.lst ws)) Lt g5 st5 σ2 H5 → GT (upd Z D (.lst ws)) g' g5 → SR Γ Z Lt g5 (wipeS vs st5) (L2.wipe σ vs) H5 ∧ GT Z g' g5 ∧ (g5.G D = none ∧ g5.O D = some .tmp ∧ D ∉ g5.M) ∧ H5 D = some (.lst ws) := fun {g5 st5 H5} s5 t5 => by
          obtain ⟨w1, w2, w3, w4⟩ := s5.unprot d2 lz
          obtain ⟨x1, x2⟩ := t5.unprot d2
          have w1' := w1.wipe vs
          rw [hw2] at w1'
          exact ⟨w1', x1, ⟨w3, x2.trans (u3.trans q2), w4⟩, w2⟩
        simp only at k3
        cases e1 : t st2 with
        | ok b st3 =>
          rw [e1] at k3
          simp only [nox_ok, bind_ok] at k3
          intro g3 H3 s3 t3
          cases b with
          | false =>
            obtain ⟨n1, n2, n3, n4⟩ := next s3 t3
            show if (false : Bool) = true then _ else _
            rw [if_neg Bool.false_ne_true]
            refine ⟨hlt, g3, _, acc, ws, n1, clean_wipe _ _, (tt.trans t').trans n2, n3, n4, (ra.up t').up n2, ?_⟩
            simp only [Bool.false_eq_true, if_false] at k3
            revert k3
            cases lcT vs tg t e (ds.drop (i + 1)) acc (wipeS vs st3) with
            | ok ys s2 => exact fun k3 g6 H6 s6 t6 => k3 g6 H6 s6 ((t'.trans n2).trans t6)
            | exc x s2 => exact fun k3 cls dd g6 H6 s6 t6 => k3 cls dd g6 H6 s6 ((t'.trans n2).trans t6)
            | bad => exact fun k3 => k3
          | true =>
            show if (true : Bool) = true then _ else _
            rw [if_pos rfl]
            simp only [if_true] at k3
            refine ⟨upd Z D (.lst ws), Lt, g3, st3, s3, ?_⟩
            cases e2 : e st3 with
            | ok y st4 =>
              rw [e2] at k3
              simp only [nox_ok, bind_ok] at k3
              intro g4 H4 s4 t4 v rv
              obtain ⟨n1, n2, n3, n4⟩ := next s4 (t3.trans t4)
              split at k3
              · rename_i hl
                refine ⟨ws, n4, by rw [← ra.length, sizeLine_eq]; exact hl, hlt, g4, _, acc ++ [y], ws ++ [v], n1.updT n3.1 d2 n3.2.1 n3.2.2 _, clean_wipe _ _, (tt.trans t').trans n2, n3, upd_same, ((ra.up t').up n2).append (RDs.cons rv RDs.nil), ?_⟩
                revert k3
                cases lcT vs tg t e (ds.drop (i + 1)) (acc ++ [y]) (wipeS vs st4) with
                | ok ys s2 => exact fun k3 g6 H6 s6 t6 => k3 g6 H6 s6 ((t'.trans n2).trans t6)
                | exc x s2 => exact fun k3 cls dd g6 H6 s6 t6 => k3 cls dd g6 H6 s6 ((t'.trans n2).trans t6)
                | bad => exact fun k3 => k3
              · exact k3.elim
            | exc x st4 => rw [e2] at k3; exact k3.elim
            | bad => rw [e2] at k3; exact k3.elim
        | exc x st3 => rw [e1] at k3; exact k3.elim
        | bad => rw [e1] at k3; exact k3.elim
    · have ei : i = ds.length := by omega
      subst ei
      refine .inl ⟨hst H g st _ S tt, ?_⟩
      rw [List.drop_length] at k3
      exact k3 g H (S.unwipe cl) (GT.refl _ _) D ⟨q1, d2, q2, q3, _, eD, ra⟩
end
end PL

/-! PyLite, part n: built-in calls, lists that change, comprehensions, lists lent. -/
namespace PL
open PySem PySem.Spec PyProof.Rows L2
section
variable {Γ : Tab} {W : WX} {Z : Hp} {Lt : Lend} {g g' : GM} {st st' : LS} {σ σ' : L2.St} {H H' : Hp} {h h' : List LO} {a p : Addr} {o : HO} {d : D} {v : V} {X : Cx} {e e1 e2 e3 : Expr} {es : List Expr} {f k l : E D} {pos pos2 ppos apos : Pos} {stm : Stmt} {sts : List Stmt} {f1 f2 : S} {D0 : Ends}

/-! ### built-in functions of one and of two -/
theorem pd_b1 {r : List V → Hp → VK → Prop} {m : Sem1} {x : Str} {id : String} (hc : CallR X (.builtin id) r) (hm : Holds1 Γ W X (fun v H Q => r [v] H Q) m) (hg : Gl X x) (hn : X.mg x = none) (hv : bootBuiltins x = some (.builtin id)) (y : PC Γ W X e f)
    (hd : x ≠ "__name__" := by decide) (hdb : (x == ("__debug__" : Str)) = false := by decide) (he : starEach [e] X.env = (false, eval e X.env) :: starEach [] X.env := by rfl) (hpl : (backTo pos (starEach [] X.env)).any (·.1) = false := by rfl) : PD Γ W X (.Call (.Name x ppos) [e] [] pos) (eUn m f) :=
  ⟨(pe_callB hc hg hn hv (pa_cons y.pe pa_nil he) hd hdb he hpl).csq fun σ H Q h => one hm h⟩
theorem pf_b1 {r : List V → Hp → VK → Prop} {m : Sem1} {x : Str} {id : String} (hc : CallR X (.builtin id) r) (hm : Holds1F Γ W X (fun v H Q => r [v] H Q) m) (hg : Gl X x) (hn : X.mg x = none) (hv : bootBuiltins x = some (.builtin id)) (y : PC Γ W X e f)
    (hd : x ≠ "__name__" := by decide) (hdb : (x == ("__debug__" : Str)) = false := by decide) (he : starEach [e] X.env = (false, eval e X.env) :: starEach [] X.env := by rfl) (hpl : (backTo pos (starEach [] X.env)).any (·.1) = false := by rfl) : PF Γ W X (.Call (.Name x ppos) [e] [] pos) (eUn m f) :=
  ⟨(pe_callB hc hg hn hv (pa_cons y.pe pa_nil he) hd hdb he hpl).csq fun σ H Q h => oneF hm h⟩
theorem pd_b2 {r : List V → Hp → VK → Prop} {m : Sem2} {x : Str} {id : String} (hc : CallR X (.builtin id) r) (hm : Holds2 Γ W X (fun v w H Q => r [v, w] H Q) m) (hg : Gl X x) (hn : X.mg x = none) (hv : bootBuiltins x = some (.builtin id)) (y : PV Γ W X e1 f) (z : PV Γ W X e2 k)
    (hd : x ≠ "__name__" := by decide) (hdb : (x == ("__debug__" : Str)) = false := by decide) (he : starEach [e1, e2] X.env = (false, eval e1 X.env) :: starEach [e2] X.env := by rfl) (he2 : starEach [e2] X.env = (false, eval e2 X.env) :: starEach [] X.env := by rfl)
    (hpl : (backTo pos (starEach [e2] X.env)).any (·.1) = false := by rfl) : PD Γ W X (.Call (.Name x ppos) [e1, e2] [] pos) (eBin m f k) :=
  ⟨(pe_callB hc hg hn hv (pa_cons y.pe (pa_cons z.pe pa_nil he2) he) hd hdb he hpl).csq fun σ H Q h => two hm h⟩

/-! ### isinstance -/
inductive Ty where
  | int | bool | str | list | tuple | dict
  deriving DecidableEq
def Ty.name : Ty → String
  | .int => "int" | .bool => "bool" | .str => "str" | .list => "list" | .tuple => "tuple" | .dict => "dict"
def tyD : D → Option (Option Ty)
  | .non => some none
  | .bl _ => some (some .bool)
  | .int _ => some (some .int)
  | .str _ => some (some .str)
  | .tup _ => some (some .tuple)
  | .lst _ => some (some .list)
  | .dic _ => some (some .dict)
  | _ => none
def subTy : Option Ty → Ty → Bool
  | some .bool, .int => true
  | some t, u => t == u
  | none, _ => false
def nameO : Option Ty → String
  | none => "NoneType"
  | some t => t.name
theorem kit_sub (t : Option Ty) (u : Ty) : kitB (nameO t) u.name = some (subTy t u) := by
  cases t with
  | none => cases u <;> decide +kernel
  | some t => cases t <;> cases u <;> decide +kernel
theorem CV.ty {t : Option Ty} (c : CV Γ g H d v) (s : SR Γ Z Lt g st σ H) (e : tyD d = some t) : TyX Γ.K H v (.type (nameO t)) := by
  cases d with
  | non => cases e; rw [c.non]; exact .base .non
  | bl b => cases e; rw [c.bl]; exact .base (.bl b)
  | int b => cases e; rw [c.int]; exact .base (.int b)
  | str b => cases e; rw [c.str]; exact .base (.str b)
  | tup ds =>
    cases e
    obtain ⟨a, vs, rfl, q, _⟩ := c.tup s
    rcases q with (q | ⟨ob, q⟩) | ⟨o, its, n, e1, e2, _⟩
    · exact .base (.tup q)
    · exact .fTuple q
    · exact .kTuple e1 e2
  | lst ds =>
    cases e
    obtain ⟨a, vs, rfl, q, _⟩ := c.lst s
    rcases q with (q | ⟨ob, q⟩) | ⟨o, its, n, e1, e2, _⟩
    · exact .base (.lst q)
    · exact .base (.frz q)
    · exact .kList e1 e2
  | dic ds =>
    cases e
    obtain ⟨a, vs, rfl, q | ⟨ob, q⟩, _⟩ := c.dic s
    · exact .base (.dK q)
    · exact .fDict q
  | obj r => cases e
  | err r => cases e
def mIsi (u : Ty) : Sem1 := fun x st => match tyD x with
  | some t => .ok (.bl (subTy t u)) st
  | none => .bad
theorem pd_isi {x : Str} {u : Ty} (hK : X.K = Γ.K) (hg : Gl X "isinstance") (hn : X.mg "isinstance" = none) (hgT : Gl X x) (hnT : X.mg x = none) (hvT : bootBuiltins x = some (.type u.name)) (y : PC Γ W X e f)
    (hx : x ≠ "__name__" := by decide) (hxd : (x == ("__debug__" : Str)) = false := by decide)
    (he : starEach [e, .Name x pos2] X.env = (false, eval e X.env) :: starEach [.Name x pos2] X.env := by rfl) (he2 : starEach [.Name x pos2] X.env = (false, eval (.Name x pos2) X.env) :: starEach [] X.env := by rfl)
    (hpl : (backTo pos (starEach [.Name x pos2] X.env)).any (·.1) = false := by rfl) : PD Γ W X (.Call (.Name "isinstance" ppos) [e, .Name x pos2] [] pos) (eUn (mIsi u) f) := by
  refine ⟨(pe_callB call_isi hg hn (by decide +kernel) (pa_cons y.pe (pa_cons (pe_bltn (v := .ty u.name) hgT hnT hvT rfl hx hxd) pa_nil he2) he) (by decide) (by decide) he hpl).csq fun σ H Q h =>
    one (X := X) (r := fun v H Q => rIsi X.K [v, .ty u.name] H Q) (fun Z Lt g st σ H x v Q s rx h => ?_) h⟩
  unfold mIsi at h
  split at h
  · rename_i t et
    exact ⟨v, _, _, _, _, rfl, .ty _, by rw [hK]; exact rx.ty s et, kit_ty (kit_sub t u), ret_bl s h⟩
  · exact h.elim

/-! ### len -/
theorem call_lenD' : CallR X (.builtin "len") (fun xs H Q => ∃ a kvs, xs = [V.ref a] ∧ Rd H a (.dK kvs) ∧ Q (.int kvs.length) H) := by
  intro pins s σ H xs us Q I r h
  obtain ⟨a, kvs, rfl, ha, q⟩ := h
  obtain ⟨u, rfl, ru⟩ := vals1 r
  cases ru
  refine d_len I ha fun t s' I' => ⟨.int kvs.length, H, I', ⟨t, rfl⟩, q⟩
theorem RDk.length {Γ : Tab} {g : GM} : ∀ {ds : List (Key × D)} {vs : List (Key × V)}, RDk Γ g ds vs → ds.length = vs.length
  | [], vs, h => by simp only [RDk] at h; subst h; rfl
  | d :: ds, vs, h => by
    simp only [RDk] at h
    obtain ⟨v, r, rfl, _, h2⟩ := h
    simp [RDk.length h2]
def mLen : Sem1 := fun x st => match x with
  | .lst ds => .ok (.int ds.length) st
  | .tup ds => .ok (.int ds.length) st
  | .dic ds => .ok (.int ds.length) st
  | .str z => if z.length ≤ 16777216 then .ok (.int z.length) st else .bad
  | _ => .bad
theorem pd_len (hK : X.K = Γ.K) (hg : Gl X "len") (hn : X.mg "len" = none) (y : PC Γ W X e f)
    (he : starEach [e] X.env = (false, eval e X.env) :: starEach [] X.env := by rfl) (hpl : (backTo pos (starEach [] X.env)).any (·.1) = false := by rfl) : PD Γ W X (.Call (.Name "len" ppos) [e] [] pos) (eUn mLen f) := by
  refine pd_b1 ((call_len_seq.or call_lenD').or call_len_str) ?_ hg hn PySem.boot_len y (by decide) (by decide) he hpl
  intro Z Lt g st σ H x v Q s rx h
  unfold mLen at h
  split at h
  · obtain ⟨a, vs, rfl, q, r⟩ := rx.lst s
    rw [r.length] at h
    exact .inl (.inl ⟨a, vs, rfl, .inl (by rw [hK]; exact q), ret_int s h⟩)
  · obtain ⟨a, vs, rfl, q, r⟩ := rx.tup s
    rw [r.length] at h
    exact .inl (.inl ⟨a, vs, rfl, .inr (by rw [hK]; exact q), ret_int s h⟩)
  · obtain ⟨a, vs, rfl, q, r⟩ := rx.dic s
    rw [r.length] at h
    exact .inl (.inr ⟨a, vs, rfl, q, ret_int s h⟩)
  · split at h
    · rename_i hl
      rw [rx.str]
      exact .inr ⟨_, rfl, by rw [sizeLine_eq]; exact hl, ret_int s h⟩
    · exact h.elim
  · exact h.elim

/-! ### max, min of two -/
def mMax : Sem2 := mInt0 fun i j => .int (if j > i then j else i)
def mMin : Sem2 := mInt0 fun i j => .int (if j < i then j else i)
theorem pd_max2 (hc : X.calm = true) (hg : Gl X "max") (hn : X.mg "max" = none) (y : PV Γ W X e1 f) (z : PV Γ W X e2 k)
    (he : starEach [e1, e2] X.env = (false, eval e1 X.env) :: starEach [e2] X.env := by rfl) (he2 : starEach [e2] X.env = (false, eval e2 X.env) :: starEach [] X.env := by rfl)
    (hpl : (backTo pos (starEach [e2] X.env)).any (·.1) = false := by rfl) : PD Γ W X (.Call (.Name "max" ppos) [e1, e2] [] pos) (eBin mMax f k) := by
  refine pd_b2 (call_max2 hc) (fun Z Lt g st σ H x y v w Q s rx ry h => ?_) hg hn PyProof.Rows.boot_max y z (by decide) (by decide) he he2 hpl
  unfold mMax mInt0 at h
  split at h
  · rw [rx.int, ry.int]; exact ⟨_, _, rfl, ret_int s h⟩
  · exact h.elim
theorem pd_min2 (hc : X.calm = true) (hg : Gl X "min") (hn : X.mg "min" = none) (y : PV Γ W X e1 f) (z : PV Γ W X e2 k)
    (he : starEach [e1, e2] X.env = (false, eval e1 X.env) :: starEach [e2] X.env := by rfl) (he2 : starEach [e2] X.env = (false, eval e2 X.env) :: starEach [] X.env := by rfl)
    (hpl : (backTo pos (starEach [e2] X.env)).any (·.1) = false := by rfl) : PD Γ W X (.Call (.Name "min" ppos) [e1, e2] [] pos) (eBin mMin f k) := by
  refine pd_b2 (call_min2 hc) (fun Z Lt g st σ H x y v w Q s rx ry h => ?_) hg hn PyProof.Rows.boot_min y z (by decide) (by decide) he he2 hpl
  unfold mMin mInt0 at h
  split at h
  · rw [rx.int, ry.int]; exact ⟨_, _, rfl, ret_int s h⟩
  · exact h.elim

/-! ### bit_length -/
def mBits : Sem1 := fun x st => match x with
  | .int i => .ok (.int (Builtin.Int.intBits i : Nat)) st
  | _ => .bad
theorem pd_bits (y : PC Γ W X e f) (hbase : attributeBase e "bit_length" X.env (eval e X.env) = eval e X.env := by rfl) (hline : (apos.endLine == pos.line) = true := by rfl) : PD Γ W X (.Call (.Attribute e "bit_length" apos) [] [] pos) (eUn mBits f) := by
  refine ⟨(pe_bits y.pe hbase hline).csq fun σ H Q h => one (X := X) (r := fun v H Q => ∃ i, v = V.int i ∧ Q (.int (Builtin.Int.intBits i : Nat)) H) (fun Z Lt g st σ H x v Q s rx h => ?_) h⟩
  unfold mBits at h
  split at h
  · rw [rx.int]; exact ⟨_, rfl, ret_int s h⟩
  · exact h.elim

/-! ### for i, x in enumerate(xs) -/
def enumD : Nat → List D → List D
  | _, [] => []
  | i, d :: ds => .tup [.int (i : Nat), d] :: enumD (i + 1) ds
theorem enumD_len : ∀ (i : Nat) (ds : List D), (enumD i ds).length = ds.length
  | _, [] => rfl
  | i, d :: ds => by simp [enumD, enumD_len]
theorem enumD_get : ∀ (i : Nat) (ds : List D) (j : Nat), (enumD i ds)[j]? = (ds[j]?).map fun d => D.tup [.int ((i + j : Nat) : Int), d]
  | _, [], j => by simp [enumD]
  | i, d :: ds, 0 => by simp [enumD]
  | i, d :: ds, j + 1 => by
    simp only [enumD, List.getElem?_cons_succ]
    rw [enumD_get (i + 1) ds j]
    congr 1
    funext d
    rw [show i + 1 + j = i + (j + 1) by omega]
def iEnm (f : E D) : E (List D) := fun st => (f st).bind fun d s1 => match d with
  | .lst ds => .ok (enumD 0 ds) s1
  | _ => .bad
theorem Quiet.put {o : HO} (n : H p = none) : Quiet g H (g.put p o) (upd H p o) :=
  ⟨fun a u e => ⟨by rw [upd_ne (ne_of_none e n)]; exact e, put_ne (ne_of_none e n), rfl⟩, fun a u e m => m⟩
theorem it_enum {elts : List Expr} {kk : Nat} {tpos : Pos} (hK : X.K = Γ.K) (hg : Gl X "enumerate") (hn : X.mg "enumerate" = none) (y : PV Γ W X e f) (hs : starEach [e] X.env = [(false, eval e X.env)] := by rfl) (hs2 : starEach [e] X.env = (false, eval e X.env) :: starEach [] X.env := by rfl) :
    PIt Γ W X (.Tuple elts kk tpos) (.Call (.Name "enumerate" ppos) [e] [] pos) (iEnm f) := by
  refine ⟨_, pi_enum hg hn (pa_cons y.pe pa_nil hs2) hs, fun σ H R ⟨Z, Lt, g, st, s, h⟩ => ⟨Z, Lt, g, st, s, (Go.bind h).imp fun d g1 st1 H1 s1 t1 k1 v r => ?_⟩⟩
  have k2 := k1 g1 H1 s1 (GT.refl _ _)
  cases d with
  | lst ds =>
    obtain ⟨a, vs, rfl, rs, sq⟩ := r.seqL
    refine ⟨a, vs, rfl, by rw [hK]; exact sq Lt g1 st1 σ H1 s1 (GT.refl _ _), ?_⟩
    refine k2 g1 H1 s1 (GT.refl _ _) s1 _ (fun i H g st σ hi s t => ?_) (fun H g st σ s t => ⟨vs, by rw [hK]; exact sq Lt g st σ H s t, by rw [enumD_len, rs.length]; exact Nat.le_refl _⟩)
    rw [enumD_len] at hi
    obtain ⟨d, ed⟩ : ∃ d, ds[i]? = some d := ⟨ds[i], List.getElem?_eq_getElem hi⟩
    obtain ⟨w, ew, rw'⟩ := rs.get ed
    have sq' : SqL X.K H a vs := by rw [hK]; exact sq Lt g st σ H s t
    refine ⟨⟨vs, w, sq', ew⟩, fun x H' ⟨T, x', e1, e2, e3, e4⟩ => ?_⟩
    subst e1 e3
    have := e4 vs sq'
    rw [ew] at this; cases this
    have nn := (s.sh.new e2).2.1
    refine ⟨g.put T (.tup [.int (i : Nat), w]), .tup [.int (i : Nat), d], by rw [enumD_get, ed]; simp, s.new e2 _, GT.put nn, ?_, Quiet.put e2⟩
    simp only [RD]
    exact ⟨T, _, rfl, .inl (.inl put_same), RDs.cons RD.int (RDs.cons (RD.mono ((t.le).trans (GLe.put nn)) (by obtain ⟨u, hu⟩ := t.mp; exact ⟨u, hu⟩) _ _ rw') RDs.nil)⟩
  | _ => exact k2.elim

/-! ### a name's own list changes -/
theorem SR.own {i : Nat} (s : SR Γ Z Lt g st σ H) (e : st.s[i]? = some (some (.own d))) : ∃ a o, σ[i]? = some (some (.ref a)) ∧ H a = some o ∧ CR Γ g d o ∧ ∀ d' o', CR Γ g d' o' → SR Γ Z Lt g (st.set i (.own d')) σ (upd H a o') := by
  obtain ⟨v, e1, a, rfl, h1, h2, h3, h4, o, h5, h6⟩ := s.sv i _ e
  refine ⟨a, o, e1, h5, h6, fun d' o' c => ?_⟩
  have hi : i < st.s.length := (List.getElem?_eq_some_iff.mp e).1
  have kp : Kp Z g g H (upd H a o') fun q => q ≠ .loc i := ⟨GT.refl _ _, fun b q u hq k1 k2 k3 k4 k5 => by
    have ne : b ≠ a := fun z => by subst z; rw [h3] at k3; cases k3; exact hq rfl
    exact ⟨k1, k3, k4, by rw [upd_ne ne]; exact k5⟩⟩
  refine ⟨s.sh.keep kp (fun r f => by simp) rfl (fun b u m e => ?_) (fun b u e => ?_) (fun b u e => ?_) s.sh.gz fun b m => ⟨(s.sh.mf b m).1, (s.sh.mf b m).2.2⟩, by simpa [LS.set] using s.sl, fun j x ej => ?_⟩
  · have ne : b ≠ a := fun z => h4 (by rw [← z]; exact m)
    rw [upd_ne ne]; exact e
  · rw [upd_ne (ne_of_none e h1)]; exact s.sh.gh b u e
  · rw [upd_ne (ne_of_none e h2)]; exact s.sh.zh b u e
  · have ej : (st.s.set i (some (.own d')))[j]? = some (some x) := ej
    by_cases hj : j = i
    · subst hj
      rw [List.getElem?_set_self hi] at ej
      cases ej
      exact ⟨_, e1, a, rfl, h1, h2, h3, h4, o', upd_same, c⟩
    · rw [List.getElem?_set_ne (Ne.symm hj)] at ej
      obtain ⟨w, e2, f⟩ := s.sv j x ej
      exact ⟨w, e2, f.keep kp (fun z => hj (by cases z; rfl))⟩
theorem CR.lst {ds : List D} (c : CR Γ g (.lst ds) o) : ∃ vs, o = .lst vs ∧ RDs Γ g ds vs := by
  cases o <;> first | exact c.elim | exact ⟨_, rfl, c⟩
theorem CR.dic {ds : List (Key × D)} (c : CR Γ g (.dic ds) o) : ∃ vs, o = .dK vs ∧ RDk Γ g ds vs := by
  cases o <;> first | exact c.elim | exact ⟨_, rfl, c⟩
def LS.ownL (st : LS) (i : Nat) : Option (List D) := match st.s[i]? with
  | some (some (.own (.lst ds))) => some ds
  | _ => none
theorem ownL_eq {i : Nat} {ds : List D} (e : st.ownL i = some ds) : st.s[i]? = some (some (.own (.lst ds))) := by
  unfold LS.ownL at e
  split at e
  · cases e; assumption
  · cases e
/-- x.append(e) -/
def sApp (i : Nat) (f : E D) : S := fun st => match st.ownL i with
  | some _ => SRes.of (f st) fun d s1 => match s1.ownL i with
    | some ds => if ds.length < 16777216 then .nx (s1.set i (.own (.lst (ds ++ [d])))) else .bad
    | none => .bad
  | none => .bad
theorem st_app {i : Nat} {x : Str} (hK : X.K = Γ.K) (hN : X.N[i]? = some x) (hv : Vis X.env.scope x) (y : PD Γ W X e f) (hd : (x == ("__debug__" : Str)) = false := by decide) (hcd : (x == ("__classdict__" : Str)) = false := by decide)
    (hbase : attributeBase (.Name x pos2) "append" X.env (eval (.Name x pos2) X.env) = eval (.Name x pos2) X.env := by rfl)
    (hfew : ((backTo ppos (starEach [e] X.env)).all (fun x => !x.1) && (backToKw ppos (keywordEach [] X.env)).all (fun x => x.1.isSome)
      && decide ([e].length + ([] : List Keyword).length + (if ([] : List Keyword).isEmpty then 0 else 1) < 30)) = true := by rfl)
    (hline : (apos.endLine == ppos.line) = true := by rfl) (hs : starEach [e] X.env = (false, eval e X.env) :: starEach [] X.env := by rfl) (hplain : (backTo ppos (starEach [] X.env)).any (·.1) = false := by rfl)
    (hsw : swapsWith (.Call (.Attribute (.Name x pos2) "append" apos) [e] [] ppos) none pos.line X.env = pure false := by rfl) :
    PSt Γ W X (.Expr (.Call (.Attribute (.Name x pos2) "append" apos) [e] [] ppos) pos) (sApp i f) := by
  refine ⟨(ps_expr (pe_bm PySem.F.plainAttrs_list PySem.F.slot_list_append PySem.F.type_list_append mt_append (pe_var hN hv hd hcd) (pa_cons y.pe pa_nil hs) hbase hfew hline hs hplain) hsw).csq fun D σ H ⟨Z, Lt, g, st, s, h⟩ => ?_⟩
  unfold sApp at h
  cases e0 : st.ownL i with
  | none => rw [e0] at h; exact h.elim
  | some ds0 =>
    rw [e0] at h
    obtain ⟨a, o, e1, e2, c2, _⟩ := s.own (ownL_eq e0)
    obtain ⟨vs, rfl, _⟩ := c2.lst
    refine ⟨_, e1, .inl ⟨rfl, vs, SqL.of e2⟩, Z, Lt, g, st, s, (GoS.of h).imp fun d g1 st1 H1 s1 t1 k1 v r => ?_⟩
    have k2 := k1 g1 H1 s1 (GT.refl _ _)
    cases e3 : st1.ownL i with
    | none => rw [e3] at k2; exact k2.elim
    | some ds =>
      rw [e3] at k2
      obtain ⟨b, o, e4, e5, c5, k5⟩ := s1.own (ownL_eq e3)
      rw [e1] at e4; cases e4
      obtain ⟨ws, rfl, rs⟩ := c5.lst
      simp only at k2
      split at k2
      · rename_i hl
        exact ⟨a, ws, v, rfl, rfl, e5, by rw [← rs.length, sizeLine_eq]; exact hl, k2 σ g1 _ (k5 (.lst (ds ++ [d])) (.lst (ws ++ [v])) (rs.append (RDs.cons r RDs.nil))) (GT.refl _ _)⟩
      · exact k2.elim
/-- x[i] = e -/
def ixD (n : Nat) (i : Int) : Option Nat := if 0 ≤ i then (if i < n then some i.toNat else none) else if -(n : Int) ≤ i then some (i + n).toNat else none
theorem ixN_ixD (n : Nat) (i : Int) : ixN n i = ixD n i := rfl
theorem RDs.set {ds : List D} {vs : List V} {j : Nat} (r : RDs Γ g ds vs) (x : RD Γ g d v) : RDs Γ g (ds.set j d) (vs.set j v) := by
  induction ds generalizing vs j with
  | nil => simp only [RDs] at r; subst r; simpa using RDs.nil
  | cons y ds ih =>
    simp only [RDs] at r
    obtain ⟨w, q, rfl, r1, r2⟩ := r
    cases j with
    | zero => exact RDs.cons x r2
    | succ j => exact RDs.cons r1 (ih r2)
def sPut (i : Nat) (fi fe : E D) : S := fun st => SRes.of (fe st) fun d s1 => match s1.ownL i with
  | some _ => SRes.of (fi s1) fun j s2 => match s2.ownL i, j with
    | some ds, .int j => match ixD ds.length j with
      | some n => .nx (s2.set i (.own (.lst (ds.set n d))))
      | none => .bad
    | _, _ => .bad
  | none => .bad
theorem st_put {i : Nat} {x : Str} {ei : Expr} (hN : X.N[i]? = some x) (hv : Vis X.env.scope x) (z : PD Γ W X ei k) (y : PD Γ W X e f) (hd : (x == ("__debug__" : Str)) = false := by decide) (hcd : (x == ("__classdict__" : Str)) = false := by decide)
    (ha : ∀ v, assign (.Subscript (.Name x pos2) ei apos) X.env v = (do
      let ov ← holding [v] (eval (.Name x pos2) X.env)
      let iv ← holding [v, ov] (eval ei X.env)
      standAt apos
      holding [v, ov, iv] (setItem ov iv v)
      release [v, ov, iv] []) := by intro _; rfl)
    (hs : swapsWithSole [.Subscript (.Name x pos2) ei apos] e pos.line X.env = pure false := by rfl) (hw : swappedStores [.Subscript (.Name x pos2) ei apos] e X.env = pure none := by rfl)
    (h1 : (assignEach [.Subscript (.Name x pos2) ei apos] X.env).map (·.2) = [assign (.Subscript (.Name x pos2) ei apos) X.env] := by rfl) :
    PSt Γ W X (.Assign [.Subscript (.Name x pos2) ei apos] e pos) (sPut i k f) := by
  refine ⟨(ps_asg y.pe (pg_sub (pe_var hN hv hd hcd) z.pe set_list ha) hs hw h1).csq fun D σ H ⟨Z, Lt, g, st, s, h⟩ => ⟨Z, Lt, g, st, s, (GoS.of h).imp fun d g1 st1 H1 s1 t1 k1 v r => ?_⟩⟩
  have k2 := k1 g1 H1 s1 (GT.refl _ _)
  cases e0 : st1.ownL i with
  | none => rw [e0] at k2; exact k2.elim
  | some ds0 =>
    rw [e0] at k2
    obtain ⟨a, o, e1, e2, c2, _⟩ := s1.own (ownL_eq e0)
    refine ⟨_, e1, Z, Lt, g1, st1, s1, (GoS.of k2).imp fun j g2 st2 H2 s2 t2 k3 w r2 => ?_⟩
    have k4 := k3 g2 H2 s2 (GT.refl _ _)
    cases e3 : st2.ownL i with
    | none => rw [e3] at k4; exact k4.elim
    | some ds =>
      rw [e3] at k4
      cases j with
      | int j =>
        simp only at k4
        simp only [RD] at r2; subst r2
        obtain ⟨b, o, e4, e5, c5, k5⟩ := s2.own (ownL_eq e3)
        rw [e1] at e4; cases e4
        obtain ⟨ws, rfl, rs⟩ := c5.lst
        split at k4
        · rename_i n en
          refine ⟨a, ws, j, n, rfl, rfl, e5, by rw [ixN_ixD, ← rs.length]; exact en, ?_⟩
          exact k4 σ g2 _ (k5 (.lst (ds.set n d)) (.lst (ws.set n v)) (rs.set (r.up t2))) (GT.refl _ _)
        · exact k4.elim
      | _ => exact k4.elim

/-! ### x += e -/
def sAug (i : Nat) (m : Sem2) (f : E D) : S := fun st => match st.s[i]? with
  | some (some (.val x)) => SRes.of (f st) fun y s1 => SRes.of (m x y s1) fun z s2 => .nx (s2.set i (.val z))
  | _ => .bad
theorem st_aug {i : Nat} {x : Str} {op : Operator} {r : R2} {m : Sem2} (hN : X.N.Nodup) (hi : X.N[i]? = some x) (hx : Loc X.env.scope x) (ho : OpR X (inplaceOp op) r) (hm : Holds2 Γ W X r m) (y : PV Γ W X e f)
    (hf : X.fn x = true ∨ X.env.scope.names.lookup x = some .local := by first | exact .inl rfl | exact .inr rfl | assumption) : PSt Γ W X (.AugAssign (.Name x pos2) op e pos) (sAug i m f) :=
  ⟨(ps_aug hN hi hx y.pe ho hf).csq fun D σ H ⟨Z, Lt, g, st, s, h⟩ => by
    unfold sAug at h
    split at h
    · rename_i d e0
      obtain ⟨v, e1, r1⟩ := s.sv i _ e0
      refine ⟨v, e1, Z, Lt, g, st, s, (GoS.of h).imp fun y g1 st1 H1 s1 t1 k1 w r2 => ?_⟩
      have k2 := k1 g1 H1 s1 (GT.refl _ _)
      exact hm Z Lt g1 st1 σ H1 d y v w _ s1 (.inl (RD.up r1 t1)) (r2.cv s1) ((GoS.of k2).imp fun z g2 st2 H2 s2 t2 k3 u r3 => k3 g2 H2 s2 (GT.refl _ _) _ g2 H2 (s2.setV i r3) (GT.refl _ _))
    · exact h.elim⟩
theorem iop_mulX : OpR X (inplaceOp .Mult) (rI CMulX fun i j => .int (i * j)) := opI fun _ _ _ _ _ _ _ hc q => imul_int q hc.ok
end
end PL

/-! PyLite, part o: comprehensions, lists lent. -/
namespace PL
open PySem PySem.Spec PyProof.Rows L2
section
variable {Γ : Tab} {W : WX} {Z : Hp} {Lt : Lend} {g g' : GM} {st st' : LS} {σ σ' : L2.St} {H H' : Hp} {h h' : List LO} {a p : Addr} {o : HO} {d : D} {v : V} {X : Cx} {e e1 e2 e3 : Expr} {es : List Expr} {f k l : E D} {pos pos2 ppos apos : Pos} {stm : Stmt} {sts : List Stmt} {f1 f2 : S} {D0 : Ends}

/-! ### comprehensions -/
def gCan (Γ : Tab) (is : List Nat) (tg : D → LS → Option LS) : TG := fun v σ H Q => ∃ d Z Lt g st s1, SR Γ Z Lt g st σ H ∧ RD Γ g d v ∧ tg d st = some s1 ∧
  ∀ σ', (∀ ws : List Nat, (∀ i ∈ is, i ∈ ws) → L2.wipe σ' ws = L2.wipe σ ws) → SR Γ Z Lt g s1 σ' H → Q σ' H
theorem gCan_ok {is : List Nat} {tg : D → LS → Option LS} : TarOk Γ is tg (gCan Γ is tg) := fun d v σ H Q Z Lt g st s1 s _ e k r => ⟨d, Z, Lt, g, st, s1, s, r, e, k⟩
theorem _root_.L2.PG.csq {X : Cx} {e : Expr} {t u : TG} (h : L2.PG X e t) (i : ∀ v σ H Q, u v σ H Q → t v σ H Q) : L2.PG X e u := ⟨fun pins s σ H v w Q I r q => h.run pins s σ H v w Q I r (i _ _ _ _ q)⟩
theorem PTar.can {target : Expr} {is : List Nat} {tg : D → LS → Option LS} (x : PTar Γ X target is tg) : L2.PG X target (gCan Γ is tg) := by
  obtain ⟨t, h1, h2⟩ := x.pg
  exact h1.csq fun v σ H Q ⟨d, Z, Lt, g, st, s1, s, r, e, k⟩ => h2 d v σ H Q Z Lt g st s1 s (.inl r) e k r
theorem lc_ok {elt tg iter : Expr} {ifs : List Expr} {scope : Scope} {own : List (Str × Nat)} {is : List Nat} {fi : E (List D)} {tgf : D → LS → Option LS} {t : E Bool} (hi : PIt Γ W X tg iter fi) (hv : ∀ i ∈ is, i ∈ own.map (·.2)) :
    ∃ wi, PI X tg iter wi ∧ ∀ σ H Q, TF Γ W (eLc (own.map (·.2)) fi tgf t f) σ H Q → tLc wi (gCan Γ is tgf) (TB Γ WN t) (T Γ WN f) (own.map (·.2)) σ H Q := by
  obtain ⟨wi, h1, h2⟩ := hi.pi
  exact ⟨wi, h1, fun σ H Q h => lc_T hv gCan_ok h2 h⟩
/-- [e for x in xs if t] -/
theorem pf_lc {elt tg iter : Expr} {ifs : List Expr} {scope : Scope} {is : List Nat} {fi : E (List D)} {tgf : D → LS → Option LS} {t : E Bool} (own : List (Str × Nat)) (hc : X.calm = true) (hN : X.N.Nodup) (hi : PIt Γ W X tg iter fi) (ok : BlkOk X.N X.env.scope scope own)
    (hv : ∀ i ∈ is, i ∈ own.map (·.2))
    (hg : ∀ (s : Shared) (H : Hp) (C : Addr) (cl : List (Str × Addr)) (fp : List Addr), PTar Γ (X.blk s H scope (compEnvC scope cl C X.env) fp) tg is tgf) (ht : ∀ (s : Shared) (H : Hp) (C : Addr) (cl : List (Str × Addr)) (fp : List Addr), PTs Γ (X.blk s H scope (compEnvC scope cl C X.env) fp) ifs t)
    (he : ∀ (s : Shared) (H : Hp) (C : Addr) (cl : List (Str × Addr)) (fp : List Addr), PD Γ WN (X.blk s H scope (compEnvC scope cl C X.env) fp) elt f) (hs : ∀ x, foldedSetIterable iter X.env x = pure x := by intro _; rfl) :
    PF Γ W X (.ListComp elt [⟨tg, iter, ifs, 0⟩] scope pos) (eLc (own.map (·.2)) fi tgf t f) := by
  obtain ⟨wi, h1, h2⟩ := lc_ok (t := t) (f := f) (ifs := ifs) (elt := elt) (scope := scope) (tgf := tgf) hi hv
  exact ⟨(pe_lc hc hN h1 ok (fun s H C cl fp => (hg s H C cl fp).can) (fun s H C cl fp => (ht s H C cl fp).pt) (fun s H C cl fp => (he s H C cl fp).pe) hs).csq fun σ H Q h => h2 σ H Q h⟩
/-- name = [..], the name a local -/
theorem st_setLcF {i : Nat} {y : Str} {py : Pos} {spos : Pos} {elt tg iter : Expr} {ifs : List Expr} {scope : Scope} {is : List Nat} {fi : E (List D)} {tgf : D → LS → Option LS} {t : E Bool} (own : List (Str × Nat)) (hc : X.calm = true) (hN : X.N.Nodup) (hy : X.N[i]? = some y) (hyl : X.env.scope.names.lookup y = some .local)
    (hsw : swapsWith (.ListComp elt [⟨tg, iter, ifs, 0⟩] scope pos) (some (.Name y py)) spos.line X.env = pure true) (hi : PIt Γ W X tg iter fi) (ok : BlkOk X.N X.env.scope scope own)
    (hv : ∀ i ∈ is, i ∈ own.map (·.2))
    (hg : ∀ (s : Shared) (H : Hp) (C : Addr) (cl : List (Str × Addr)) (fp : List Addr), PTar Γ (X.blk s H scope (compEnvC scope cl C X.env) fp) tg is tgf) (ht : ∀ (s : Shared) (H : Hp) (C : Addr) (cl : List (Str × Addr)) (fp : List Addr), PTs Γ (X.blk s H scope (compEnvC scope cl C X.env) fp) ifs t)
    (he : ∀ (s : Shared) (H : Hp) (C : Addr) (cl : List (Str × Addr)) (fp : List Addr), PD Γ WN (X.blk s H scope (compEnvC scope cl C X.env) fp) elt f) (hs : ∀ x, foldedSetIterable iter X.env x = pure x := by intro _; rfl) :
    PSt Γ W X (.Assign [.Name y py] (.ListComp elt [⟨tg, iter, ifs, 0⟩] scope pos) spos) (sSetF i (eLc (own.map (·.2)) fi tgf t f)) := by
  obtain ⟨wi, h1, h2⟩ := lc_ok (t := t) (f := f) (ifs := ifs) (elt := elt) (scope := scope) (tgf := tgf) hi hv
  exact ⟨(ps_setLc hc hN hy hyl hsw h1 ok (fun s H C cl fp => (hg s H C cl fp).can) (fun s H C cl fp => (ht s H C cl fp).pt) (fun s H C cl fp => (he s H C cl fp).pe) hs).csq fun D σ H h => h2 σ H _ (setF_T h)⟩
theorem st_setLc {i : Nat} {y : Str} {py : Pos} {spos : Pos} {elt tg iter : Expr} {ifs : List Expr} {scope : Scope} {is : List Nat} {fi : E (List D)} {tgf : D → LS → Option LS} {t : E Bool} (own : List (Str × Nat)) (hc : X.calm = true) (hN : X.N.Nodup) (hy : X.N[i]? = some y) (hyl : X.env.scope.names.lookup y = some .local)
    (hsw : swapsWith (.ListComp elt [⟨tg, iter, ifs, 0⟩] scope pos) (some (.Name y py)) spos.line X.env = pure true) (hi : PIt Γ W X tg iter fi) (ok : BlkOk X.N X.env.scope scope own)
    (hv : ∀ i ∈ is, i ∈ own.map (·.2))
    (hg : ∀ (s : Shared) (H : Hp) (C : Addr) (cl : List (Str × Addr)) (fp : List Addr), PTar Γ (X.blk s H scope (compEnvC scope cl C X.env) fp) tg is tgf) (ht : ∀ (s : Shared) (H : Hp) (C : Addr) (cl : List (Str × Addr)) (fp : List Addr), PTs Γ (X.blk s H scope (compEnvC scope cl C X.env) fp) ifs t)
    (he : ∀ (s : Shared) (H : Hp) (C : Addr) (cl : List (Str × Addr)) (fp : List Addr), PD Γ WN (X.blk s H scope (compEnvC scope cl C X.env) fp) elt f) (hs : ∀ x, foldedSetIterable iter X.env x = pure x := by intro _; rfl) :
    PSt Γ W X (.Assign [.Name y py] (.ListComp elt [⟨tg, iter, ifs, 0⟩] scope pos) spos) (sSet i (eLc (own.map (·.2)) fi tgf t f)) := by
  obtain ⟨wi, h1, h2⟩ := lc_ok (t := t) (f := f) (ifs := ifs) (elt := elt) (scope := scope) (tgf := tgf) hi hv
  exact ⟨(ps_setLc hc hN hy hyl hsw h1 ok (fun s H C cl fp => (hg s H C cl fp).can) (fun s H C cl fp => (ht s H C cl fp).pt) (fun s H C cl fp => (he s H C cl fp).pe) hs).csq fun D σ H h => h2 σ H _ (T.of_TF (setV_T h))⟩

/-! ### a name's own list lent for a while -/
def LS.lend (st : LS) (i : Nat) : LS := match st.s[i]? with
  | some (some (.own d)) => { st with s := st.s.set i (some (.lent d)) }
  | _ => st
def LS.unl (st : LS) (i : Nat) : LS := match st.s[i]? with
  | some (some (.lent d)) => { st with s := st.s.set i (some (.own d)) }
  | _ => st
def Res.mapS {α : Type} (t : LS → LS) : Res α → Res α
  | .ok a st => .ok a (t st)
  | .exc x st => .exc x (t st)
  | .bad => .bad
def SRes.mapS (t : LS → LS) : SRes → SRes
  | .nx st => .nx (t st)
  | .ret x st => .ret x (t st)
  | .bk st => .bk (t st)
  | .ct st => .ct (t st)
  | .exc x st => .exc x (t st)
  | .bad => .bad
def eLend {α : Type} (i : Nat) (f : E α) : E α := fun st => match st.s[i]? with
  | some (some (.own _)) => (f (st.lend i)).mapS fun s => s.unl i
  | _ => f st
def sLend (i : Nat) (f : S) : S := fun st => match st.s[i]? with
  | some (some (.own _)) => (f (st.lend i)).mapS fun s => s.unl i
  | _ => f st
abbrev ltU (Lt : Lend) (i : Nat) (a : Addr) : Lend := fun q => if q = .loc i then some a else Lt q
theorem ltU_ne {i : Nat} {q : Path} (h : q ≠ .loc i) : ltU Lt i a q = Lt q := if_neg h
theorem ltU_same {i : Nat} : ltU Lt i a (.loc i) = some a := if_pos rfl
theorem SR.lend {i : Nat} (s : SR Γ Z Lt g st σ H) (e : st.s[i]? = some (some (.own d))) :
    ∃ a o, SR Γ (upd Z a o) (ltU Lt i a) g (st.lend i) σ H ∧ Z a = none ∧ g.O a = some (.loc i) ∧ lk o = false := by
  obtain ⟨v, e1, a, rfl, h1, h2, h3, h4, o, h5, h6⟩ := s.sv i _ e
  have hl : lk o = false := by
    cases o <;> first | rfl | (cases d <;> exact h6.elim)
  have hi : i < st.s.length := (List.getElem?_eq_some_iff.mp e).1
  have es : st.lend i = { st with s := st.s.set i (some (.lent d)) } := by unfold LS.lend; rw [e]
  have ne : ∀ {b : Addr} {q : Path}, g.O b = some q → q ≠ .loc i → b ≠ a := fun {b q} z hq w => by subst w; rw [h3] at z; cases z; exact hq rfl
  have fv : ∀ {q : Path} {x : FV} {v : V}, q ≠ .loc i → FVR Γ Z Lt g H q x v → FVR Γ (upd Z a o) (ltU Lt i a) g H q x v := by
    intro q x v hq f
    cases x with
    | val d => exact f
    | own d =>
      obtain ⟨b, eb, k1, k2, k3, k4⟩ := f
      exact ⟨b, eb, k1, by rw [upd_ne (ne k3 hq)]; exact k2, k3, k4⟩
    | lent d =>
      obtain ⟨b, u, eb, k1, k2, k3⟩ := f
      exact ⟨b, u, eb, by rw [ltU_ne hq]; exact k1, by rw [upd_ne (ne_of_none k2 h2)]; exact k2, k3⟩
  refine ⟨a, o, ?_, h2, h3, hl⟩
  rw [es]
  refine ⟨⟨s.sh.gh, fun b u z => ?_, fun b u z => ?_, s.sh.ml, s.sh.mn, fun b m => ?_, fun r lo b e1 e2 => ?_, s.sh.nd, fun q b z => ?_⟩, by simpa using s.sl, fun j x ej => ?_⟩
  · by_cases c : b = a
    · subst c; rw [upd_same] at z; cases z; exact h5
    · rw [upd_ne c] at z; exact s.sh.zh b u z
  · by_cases c : b = a
    · subst c; exact h1
    · rw [upd_ne c] at z; exact s.sh.gz b u z
  · have nb : b ≠ a := fun z => h4 (by rw [← z]; exact m)
    rw [upd_ne nb]; exact s.sh.mf b m
  · have := s.sh.ob r lo b e1 e2
    cases lo with
    | ins c fs =>
      obtain ⟨C, dx, ws, q1, q2, q3, q4⟩ := this
      refine ⟨C, dx, ws, q1, q2, q3, ?_⟩
      clear e1
      induction fs generalizing ws with
      | nil => exact q4
      | cons y fs ih =>
        have : ∀ {fs : List (Nat × FV)} {ws : List (Str × V)}, FR Γ Z Lt g H r C fs ws → FR Γ (upd Z a o) (ltU Lt i a) g H r C fs ws := by
          intro fs
          induction fs with
          | nil => intro ws f; exact f
          | cons y fs ih =>
            intro ws f
            obtain ⟨n, v, q, e, k1, k2, k3, k4, k5⟩ := f
            exact ⟨n, v, q, e, k1, k2, fv (by simp) k3, k4, ih k5⟩
        exact this q4
    | cell d => exact this
    | lck d => obtain ⟨l, ob, u, k1, k2, k3⟩ := this; exact ⟨l, ob, u, k1, by rw [upd_ne (ne_of_none k2 h2)]; exact k2, k3⟩
  · by_cases c : q = .loc i
    · subst c; rw [ltU_same] at z; cases z; exact ⟨o, upd_same, trivial⟩
    · rw [ltU_ne c] at z
      obtain ⟨u, z', kq⟩ := s.sh.lz q b z
      exact ⟨u, by rw [upd_ne (ne_of_none z' h2)]; exact z', kq⟩
  · have ej : (st.s.set i (some (.lent d)))[j]? = some (some x) := ej
    by_cases hj : j = i
    · subst hj
      rw [List.getElem?_set_self hi] at ej
      cases ej
      exact ⟨_, e1, a, o, rfl, ltU_same, upd_same, .inl h6⟩
    · rw [List.getElem?_set_ne (Ne.symm hj)] at ej
      obtain ⟨w, e2, f⟩ := s.sv j x ej
      exact ⟨w, e2, fv (fun z => hj (by cases z; rfl)) f⟩
theorem FVR.unl {i : Nat} (n : Z p = none) (lz : LzOk Lt Z) {q : Path} (hq : q ≠ .loc i) {x : FV} (f : FVR Γ (upd Z p o) (ltU Lt i p) g H q x v) : FVR Γ Z Lt g H q x v := by
  cases x with
  | val d => exact f
  | own d =>
    obtain ⟨a, e, h1, h2, h3, h4⟩ := f
    have ne : a ≠ p := fun z => by subst z; rw [upd_same] at h2; cases h2
    exact ⟨a, e, h1, by rw [upd_ne ne] at h2; exact h2, h3, h4⟩
  | lent d =>
    obtain ⟨a, u, e, h1, h2, h3⟩ := f
    rw [ltU_ne hq] at h1
    obtain ⟨u', z, kq⟩ := lz q a h1
    have ne : a ≠ p := fun z' => by subst z'; rw [n] at z; cases z
    exact ⟨a, u, e, h1, by rw [upd_ne ne] at h2; exact h2, h3⟩
theorem FR.mapf2 {Z' : Hp} {Lt' : Lend} {r : Nat} {C : Addr} (m : ∀ (i : Nat) (x : FV) (v : V), FVR Γ Z' Lt' g H (.fld r i) x v → FVR Γ Z Lt g H (.fld r i) x v) : ∀ {fs : List (Nat × FV)} {ws : List (Str × V)}, FR Γ Z' Lt' g H r C fs ws → FR Γ Z Lt g H r C fs ws
  | [], _, f => f
  | y :: fs, _, f => by
    obtain ⟨n, v, q, e, h1, h2, h3, h4, h5⟩ := f
    exact ⟨n, v, q, e, h1, h2, m _ _ _ h3, h4, FR.mapf2 m h5⟩
theorem SH.unl {i : Nat} (s : SH Γ (upd Z p o) (ltU Lt i p) g h H) (n : Z p = none) (lz : LzOk Lt Z) : SH Γ Z Lt g h H := by
  have zz : ∀ {a u}, Z a = some u → upd Z p o a = some u := fun {a u} z => by rw [upd_ne (ne_of_none z n)]; exact z
  refine ⟨s.gh, fun a u z => s.zh a u (zz z), fun a u z => s.gz a u (zz z), s.ml, s.mn, fun a m => ?_, fun r lo a e1 e2 => ?_, s.nd, lz⟩
  · obtain ⟨m1, m2, m3⟩ := s.mf a m
    exact ⟨m1, fun u z => m2 u (zz z), m3⟩
  · have := s.ob r lo a e1 e2
    cases lo with
    | ins c fs =>
      obtain ⟨C, dx, ws, q1, q2, q3, q4⟩ := this
      exact ⟨C, dx, ws, q1, q2, q3, FR.mapf2 (fun i x v f => f.unl n lz (by simp)) q4⟩
    | cell d => exact this
    | lck d => obtain ⟨l, ob, u, k1, k2, k3⟩ := this; exact ⟨l, ob, u, k1, by rw [upd_ne (unm n lz l)] at k2; exact k2, k3⟩
theorem CRz.nolk (hl : lk o = false) (c : CRz Γ g d o) : CR Γ g d o := by
  rcases c with c | ⟨ob, u, e, c⟩
  · exact c
  · subst e; cases hl
theorem SR.unl {i : Nat} (s : SR Γ (upd Z p o) (ltU Lt i p) g st σ H) (n : Z p = none) (hl : lk o = false) (ho : g.O p = some (.loc i)) (lz : LzOk Lt Z) : SR Γ Z Lt g (st.unl i) σ H := by
  have ex : (∃ d, st.s[i]? = some (some (.lent d)) ∧ st.unl i = { st with s := st.s.set i (some (.own d)) }) ∨ ((∀ d, st.s[i]? ≠ some (some (.lent d))) ∧ st.unl i = st) := by
    unfold LS.unl
    split
    · exact .inl ⟨_, ‹_›, rfl⟩
    · rename_i hx; exact .inr ⟨fun d z => hx d z, rfl⟩
  have sh := s.sh.unl n lz
  rcases ex with ⟨d, e, es⟩ | ⟨e, es⟩
  · rw [es]
    refine ⟨sh, by simpa using s.sl, fun j x ej => ?_⟩
    have ej : (st.s.set i (some (.own d)))[j]? = some (some x) := ej
    by_cases hj : j = i
    · subst hj
      rw [List.getElem?_set_self (List.getElem?_eq_some_iff.mp e).1] at ej
      cases ej
      obtain ⟨v, e1, a, u, rfl, h1, h2, h3⟩ := s.sv j _ e
      rw [ltU_same] at h1
      cases h1
      rw [upd_same] at h2; cases h2
      refine ⟨_, e1, p, rfl, s.sh.gz p o upd_same, n, ho, fun m => ?_, o, s.sh.zh p o upd_same, h3.nolk hl⟩
      exact unm n lz ((s.sh.mf p m).2.1 _ upd_same) rfl
    · rw [List.getElem?_set_ne (Ne.symm hj)] at ej
      obtain ⟨v, e1, f⟩ := s.sv j x ej
      exact ⟨v, e1, f.unl n lz (fun z => hj (by cases z; rfl))⟩
  · rw [es]
    refine ⟨sh, s.sl, fun j x ej => ?_⟩
    obtain ⟨v, e1, f⟩ := s.sv j x ej
    refine ⟨v, e1, ?_⟩
    by_cases hj : j = i
    · subst hj
      cases x with
      | val d => exact f
      | own d =>
        obtain ⟨a, ea, h1, h2, h3, h4⟩ := f
        have ne : a ≠ p := fun z => by subst z; rw [upd_same] at h2; cases h2
        exact ⟨a, ea, h1, by rw [upd_ne ne] at h2; exact h2, h3, h4⟩
      | lent d => exact absurd ej (e d)
    · exact f.unl n lz (fun z => hj (by cases z; rfl))
theorem GT.unl (t : GT (upd Z p o) g g') (n : Z p = none) (h : g.O p = some q0) : GT Z g g' ∧ g'.O p = some q0 := by
  obtain ⟨a, b⟩ := t.unprot n
  exact ⟨a, b.trans h⟩
/-- what is read while the list is lent -/
theorem lend_go {α : Type} {i : Nat} {f : E α} {k : α → GM → LS → Hp → Prop} (s : SR Γ Z Lt g st σ H) (h : Go Γ W Z Lt σ (eLend i f st) g k) :
    ∃ Z' Lt' st', SR Γ Z' Lt' g st' σ H ∧ (∀ a o, Z a = some o → Z' a = some o) ∧ Go Γ W Z' Lt' σ (f st') g fun a g1 st1 H1 => ∀ g2 H2, SR Γ Z' Lt' g2 st1 σ H2 → GT Z' g1 g2 → ∃ st2, SR Γ Z Lt g2 st2 σ H2 ∧ (∀ b, Z b ≠ none → Z' b ≠ none) ∧ k a g2 st2 H2 := by
  unfold eLend at h
  split at h
  · rename_i d e
    obtain ⟨a, o, s', n, ho, hl⟩ := s.lend e
    refine ⟨_, _, _, s', fun b u z => by rw [upd_ne (ne_of_none z n)]; exact z, ?_⟩
    revert h
    cases f (st.lend i) with
    | ok x st1 =>
      intro h g1 H1 s1 t1 g2 H2 s2 t2
      obtain ⟨t, o2⟩ := (t1.trans t2).unl n ho
      exact ⟨_, s2.unl n hl o2 s.sh.lz, fun b hb => by
        by_cases c : b = a
        · subst c; rw [upd_same]; simp
        · rw [upd_ne c]; exact hb, h g2 H2 (s2.unl n hl o2 s.sh.lz) t⟩
    | exc x st1 =>
      intro h cls dd g1 H1 s1 t1 xr
      obtain ⟨t, o2⟩ := t1.unl n ho
      exact h cls dd g1 H1 (s1.unl n hl o2 s.sh.lz) t xr
    | bad => exact fun h => h
  · refine ⟨Z, Lt, st, s, fun _ _ z => z, ?_⟩
    exact h.imp fun a g1 st1 H1 s1 t1 k1 g2 H2 s2 t2 => ⟨st1, s2, fun b hb => hb, k1 g2 H2 s2 t2⟩
theorem pd_lend (i : Nat) (x : PD Γ W X e f) : PD Γ W X e (eLend i f) := ⟨x.pe.csq fun σ H Q ⟨Z, Lt, g, st, s, h⟩ => by
  obtain ⟨Z', Lt', st', s', zz, h'⟩ := lend_go s h
  refine ⟨Z', Lt', g, st', s', h'.imp fun d g1 st1 H1 s1 t1 k1 v r => ?_⟩
  obtain ⟨st2, s2, _, q⟩ := k1 g1 H1 s1 (GT.refl _ _) g1 H1 s1 (GT.refl _ _)
  exact q v r⟩
theorem pb_lend (i : Nat) {b : E Bool} (x : PB Γ W X e b) : PB Γ W X e (eLend i b) := ⟨x.pt.csq fun σ H Q ⟨Z, Lt, g, st, s, h⟩ => by
  obtain ⟨Z', Lt', st', s', zz, h'⟩ := lend_go s h
  refine ⟨Z', Lt', g, st', s', h'.imp fun d g1 st1 H1 s1 t1 k1 => ?_⟩
  obtain ⟨st2, s2, _, q⟩ := k1 g1 H1 s1 (GT.refl _ _) g1 H1 s1 (GT.refl _ _)
  exact q⟩
theorem pf_lend (i : Nat) (x : PF Γ W X e f) : PF Γ W X e (eLend i f) := ⟨x.pe.csq fun σ H Q ⟨Z, Lt, g, st, s, h⟩ => by
  obtain ⟨Z', Lt', st', s', zz, h'⟩ := lend_go s h
  refine ⟨Z', Lt', g, st', s', h'.imp fun d g1 st1 H1 s1 t1 k1 a r => ?_⟩
  obtain ⟨st2, s2, nz, q⟩ := k1 g1 H1 s1 (GT.refl _ _) g1 H1 s1 (GT.refl _ _)
  obtain ⟨r1, r2, r3⟩ := r
  refine q a ⟨r1, ?_, r3⟩
  cases e : Z a with
  | none => rfl
  | some u => exact absurd r2 (nz a (by rw [e]; simp))⟩
theorem st_lend (i : Nat) (x : PSt Γ W X stm f1) : PSt Γ W X stm (sLend i f1) := ⟨x.ps.csq fun D σ H ⟨Z, Lt, g, st, s, h⟩ => by
  unfold sLend at h
  split at h
  · rename_i d e
    obtain ⟨a, o, s', n, ho, hl⟩ := s.lend e
    refine ⟨_, _, g, _, s', ?_⟩
    revert h
    cases f1 (st.lend i) with
    | nx st1 =>
      intro h σ' g1 H1 s1 t1
      obtain ⟨t, o2⟩ := t1.unl n ho
      exact h σ' g1 H1 (s1.unl n hl o2 s.sh.lz) t
    | bk st1 =>
      intro h σ' g1 H1 s1 t1
      obtain ⟨t, o2⟩ := t1.unl n ho
      exact h σ' g1 H1 (s1.unl n hl o2 s.sh.lz) t
    | ct st1 =>
      intro h σ' g1 H1 s1 t1
      obtain ⟨t, o2⟩ := t1.unl n ho
      exact h σ' g1 H1 (s1.unl n hl o2 s.sh.lz) t
    | exc x st1 =>
      intro h cls dd σ' g1 H1 s1 t1 xr
      obtain ⟨t, o2⟩ := t1.unl n ho
      exact h cls dd σ' g1 H1 (s1.unl n hl o2 s.sh.lz) t xr
    | ret x st1 =>
      intro h v g1 H1 s1 t1 r
      obtain ⟨t, o2⟩ := t1.unl n ho
      have hh : (LS.unl st1 i).h = st1.h := by unfold LS.unl; split <;> rfl
      refine h v g1 H1 (by rw [hh]; exact s1.unl n s.sh.lz) t ?_
      cases x with
      | val d => exact r
      | own d =>
        obtain ⟨b, eb, h1, h2, h3⟩ := r
        refine ⟨b, eb, h1, ?_, h3⟩
        cases ez : Z b with
        | none => rfl
        | some u =>
          have ne : b ≠ a := ne_of_none ez n
          rw [upd_ne ne, ez] at h2; cases h2
      | lent d => obtain ⟨b, u, eb, h1, h2⟩ := r; cases h1
    | bad => exact fun h => h
  · exact ⟨Z, Lt, g, st, s, h⟩⟩
end
end PL

/-! PyLite, part p: short words for what is printed. -/
namespace PL
open PySem PySem.Spec PyProof.Rows L2
section
variable {Γ : Tab} {W : WX} {X : Cx} {e e1 e2 e3 : Expr} {es : List Expr} {f k l : E D} {pos pos2 ppos apos : Pos} {stm : Stmt} {sts : List Stmt} {f1 f2 : S}
theorem dv (i : Nat) {x : Str} (hN : X.N[i]? = some x := by rfl) (hv : Vis X.env.scope x := by first | exact Or.inl rfl | exact Or.inr (Or.inl rfl) | exact Or.inr (Or.inr rfl)) (hd : (x == ("__debug__" : Str)) = false := by decide) (hcd : (x == ("__classdict__" : Str)) = false := by decide) :
    PD Γ W X (.Name x pos) (eVar i) := pd_var hN hv hd hcd
theorem vv (i : Nat) {x : Str} (hN : X.N[i]? = some x := by rfl) (hv : Vis X.env.scope x := by first | exact Or.inl rfl | exact Or.inr (Or.inl rfl) | exact Or.inr (Or.inr rfl)) (hd : (x == ("__debug__" : Str)) = false := by decide) (hcd : (x == ("__classdict__" : Str)) = false := by decide) :
    PV Γ W X (.Name x pos) (vVar i) := pv_var hN hv hd hcd
theorem cv (i : Nat) {x : Str} (hN : X.N[i]? = some x := by rfl) (hv : Vis X.env.scope x := by first | exact Or.inl rfl | exact Or.inr (Or.inl rfl) | exact Or.inr (Or.inr rfl)) (hd : (x == ("__debug__" : Str)) = false := by decide) (hcd : (x == ("__classdict__" : Str)) = false := by decide) :
    PC Γ W X (.Name x pos) (cVar i) := pc_var hN hv hd hcd
theorem lv (i : Nat) {x : Str} (hN : X.N[i]? = some x := by rfl) (hv : Vis X.env.scope x := by first | exact Or.inl rfl | exact Or.inr (Or.inl rfl) | exact Or.inr (Or.inr rfl)) (hd : (x == ("__debug__" : Str)) = false := by decide) (hcd : (x == ("__classdict__" : Str)) = false := by decide) :
    PArg Γ W X (.Name x pos) (aL i) := pa_lent hN hv hd hcd
theorem gI {x : Str} {i : Int} {t : Tok} (hm : X.mg x = some (.int i t)) (hg : Gl X x := by rfl) (hd : (x == ("__debug__" : Str)) = false := by decide) : PD Γ W X (.Name x pos) (eC (.int i)) := pd_gint hg hm hd
theorem gS {x : Str} {i : Str} {t : Tok} (hm : X.mg x = some (.str i t)) (hg : Gl X x := by rfl) (hd : (x == ("__debug__" : Str)) = false := by decide) : PD Γ W X (.Name x pos) (eC (.str i)) := pd_gstr hg hm hd
theorem bval (x : PC Γ W X e f) (he : ∀ whole, isTrue e X.env whole = (do let v ← whole; standAt e.pos; holding [v] (truthy v)) := by intro _; rfl) : PB Γ W X e (tst f) := pb_val x he
theorem dcmp {op : CmpOp} {r : R2} {m : Sem2} (ho : OpR X (compareOp op) r) (hm : Holds2 Γ W X r m) (x : PV Γ W X e1 f) (y : PV Γ W X e2 k) (hb : behindInMarks op e2 = false := by first | exact nobehind _ (by decide) (by decide) | rfl) : PD Γ W X (.Compare e1 [op] [e2] pos) (eBin m f k) := pd_cmp ho hm x y hb
theorem bcmp {op : CmpOp} {r : R2} {m : Sem2} (ho : OpR X (compareOp op) r) (hm : Holds2 Γ W X r m) (x : PV Γ W X e1 f) (y : PV Γ W X e2 k) (hb : behindInMarks op e2 = false := by first | exact nobehind _ (by decide) (by decide) | rfl) : PB Γ W X (.Compare e1 [op] [e2] pos) (tst (eBin m f k)) := pb_cmp ho hm x y hb
theorem xset (i : Nat) {x : Str} (hN : X.N.Nodup) (y : PD Γ W X e f) (hi : X.N[i]? = some x := by rfl) (hx : Loc X.env.scope x := by first | exact Or.inl rfl | exact Or.inr rfl) (hs : swapsWith e (some (.Name x pos2)) pos.line X.env = pure false := by rfl)
    (hf : X.fn x = true ∨ X.env.scope.names.lookup x = some .local := by first | exact .inl rfl | exact .inr rfl) : PSt Γ W X (.Assign [.Name x pos2] e pos) (sSet i f) := st_set hN hi hx y hs hf
theorem xsetF (i : Nat) {x : Str} (hN : X.N.Nodup) (y : PF Γ W X e f) (hi : X.N[i]? = some x := by rfl) (hx : Loc X.env.scope x := by first | exact Or.inl rfl | exact Or.inr rfl) (hs : swapsWith e (some (.Name x pos2)) pos.line X.env = pure false := by rfl)
    (hf : X.fn x = true ∨ X.env.scope.names.lookup x = some .local := by first | exact .inl rfl | exact .inr rfl) : PSt Γ W X (.Assign [.Name x pos2] e pos) (sSetF i f) := st_setF hN hi hx y hs hf
theorem xaug (i : Nat) {x : Str} {op : Operator} {r : R2} {m : Sem2} (hN : X.N.Nodup) (ho : OpR X (inplaceOp op) r) (hm : Holds2 Γ W X r m) (y : PV Γ W X e f) (hi : X.N[i]? = some x := by rfl) (hx : Loc X.env.scope x := by first | exact Or.inl rfl | exact Or.inr rfl)
    (hf : X.fn x = true ∨ X.env.scope.names.lookup x = some .local := by first | exact .inl rfl | exact .inr rfl) : PSt Γ W X (.AugAssign (.Name x pos2) op e pos) (sAug i m f) := st_aug hN hi hx ho hm y hf
theorem retO (i : Nat) {x : Str} (hN : X.N[i]? = some x := by rfl) (hv : Vis X.env.scope x := by first | exact Or.inl rfl | exact Or.inr (Or.inl rfl) | exact Or.inr (Or.inr rfl)) (hd : (x == ("__debug__" : Str)) = false := by decide) (hcd : (x == ("__classdict__" : Str)) = false := by decide) :
    PSt Γ W X (.Return (some (.Name x pos2)) pos) (sRetO i) := st_retO hN hv hd hcd
theorem tgn (i : Nat) {x : Str} (hN : X.N.Nodup) (hi : X.N[i]? = some x := by rfl) (hx : Loc X.env.scope x := by first | exact Or.inl rfl | exact Or.inr rfl)
    (hf : X.fn x = true ∨ X.env.scope.names.lookup x = some .local := by first | exact .inl rfl | exact .inr rfl) : PTar Γ X (.Name x pos) [i] (tgN i) := tar_name hN hi hx hf
theorem tgc (i : Nat) {is : List Nat} {x : Str} {ts : List Expr} (hN : X.N.Nodup) (y : PTg X ts is) (hi : X.N[i]? = some x := by rfl) (hx : Loc X.env.scope x := by first | exact Or.inl rfl | exact Or.inr rfl)
    (hf : X.fn x = true ∨ X.env.scope.names.lookup x = some .local := by first | exact .inl rfl | exact .inr rfl)
    (hs : (assignEach (.Name x pos :: ts) X.env).map (·.2) = assign (.Name x pos) X.env :: (assignEach ts X.env).map (·.2) := by rfl) : PTg X (.Name x pos :: ts) (i :: is) := tg_cons hN hi hx y hf hs
theorem xapp (i : Nat) {x : Str} (hK : X.K = Γ.K) (y : PD Γ W X e f) (hN : X.N[i]? = some x := by rfl) (hv : Vis X.env.scope x := by first | exact Or.inl rfl | exact Or.inr (Or.inl rfl) | exact Or.inr (Or.inr rfl)) (hd : (x == ("__debug__" : Str)) = false := by decide) (hcd : (x == ("__classdict__" : Str)) = false := by decide)
    (hbase : attributeBase (.Name x pos2) "append" X.env (eval (.Name x pos2) X.env) = eval (.Name x pos2) X.env := by rfl)
    (hfew : ((backTo ppos (starEach [e] X.env)).all (fun x => !x.1) && (backToKw ppos (keywordEach [] X.env)).all (fun x => x.1.isSome)
      && decide ([e].length + ([] : List Keyword).length + (if ([] : List Keyword).isEmpty then 0 else 1) < 30)) = true := by rfl)
    (hline : (apos.endLine == ppos.line) = true := by rfl) (hs : starEach [e] X.env = (false, eval e X.env) :: starEach [] X.env := by rfl) (hplain : (backTo ppos (starEach [] X.env)).any (·.1) = false := by rfl)
    (hsw : swapsWith (.Call (.Attribute (.Name x pos2) "append" apos) [e] [] ppos) none pos.line X.env = pure false := by rfl) :
    PSt Γ W X (.Expr (.Call (.Attribute (.Name x pos2) "append" apos) [e] [] ppos) pos) (sApp i f) := st_app hK hN hv y hd hcd hbase hfew hline hs hplain hsw
theorem xput (i : Nat) {x : Str} {ei : Expr} (z : PD Γ W X ei k) (y : PD Γ W X e f) (hN : X.N[i]? = some x := by rfl) (hv : Vis X.env.scope x := by first | exact Or.inl rfl | exact Or.inr (Or.inl rfl) | exact Or.inr (Or.inr rfl)) (hd : (x == ("__debug__" : Str)) = false := by decide) (hcd : (x == ("__classdict__" : Str)) = false := by decide)
    (ha : ∀ v, assign (.Subscript (.Name x pos2) ei apos) X.env v = (do
      let ov ← holding [v] (eval (.Name x pos2) X.env)
      let iv ← holding [v, ov] (eval ei X.env)
      standAt apos
      holding [v, ov, iv] (setItem ov iv v)
      release [v, ov, iv] []) := by intro _; rfl)
    (hs : swapsWithSole [.Subscript (.Name x pos2) ei apos] e pos.line X.env = pure false := by rfl) (hw : swappedStores [.Subscript (.Name x pos2) ei apos] e X.env = pure none := by rfl)
    (h1 : (assignEach [.Subscript (.Name x pos2) ei apos] X.env).map (·.2) = [assign (.Subscript (.Name x pos2) ei apos) X.env] := by rfl) :
    PSt Γ W X (.Assign [.Subscript (.Name x pos2) ei apos] e pos) (sPut i k f) := st_put hN hv z y hd hcd ha hs hw h1
theorem dix (hK : X.K = Γ.K) (x : PV Γ W X e1 f) (y : PV Γ W X e2 k) (hs : PlainIx e2 := by intro _ _; rfl) : PD Γ W X (.Subscript e1 e2 pos) (eBin mIx f k) := pd_ix hK x y hs
end
/-- x += e on ints -/
def mAddI : Sem2 := mInt0 fun i j => .int (i + j)
/-- what is known of a def that others call -/
structure DefF (Γ : Tab) (P : Program) (w : World) (mg : Str → Option Value) (base : Heap) (kk : Nat) (x : Str) (n : Nat) (F : Fn) : Prop where
  ex : ∃ (f : Addr) (fd : FuncData) (ps : List Str), FnOk P w Γ.K mg base (L2.CX P w) kk f fd ps (spF Γ n F) ∧ mg x = some (.ref f) ∧ PySem.W.keepIn Γ.K (.ref f) = true ∧ Binds Γ.K fd ps []
section
variable {Γ : Tab} {W : WX} {X : Cx} {e e1 e2 e3 : Expr} {es : List Expr} {f k l : E D} {pos pos2 ppos apos : Pos}
theorem dcall {F : Fn} {n kk : Nat} {x : Str} {args : E (List FV)} (Df : DefF Γ X.prog X.w X.mg X.base kk x n F) (hK : X.K = Γ.K) (tk : Takes X W) (hr : Room kk X.A) (ha : PArgs Γ W X (e :: es) args) (hn : ∀ st fs s1, args st = .ok fs s1 → fs.length = n) (hg : Gl X x := by rfl)
    (hdb : (x == ("__debug__" : Str)) = false := by decide) (he : starEach (e :: es) X.env = (false, eval e X.env) :: starEach es X.env := by rfl) (hpl : (backTo pos (starEach es X.env)).any (·.1) = false := by rfl) :
    PD Γ W X (.Call (.Name x ppos) (e :: es) [] pos) (eCall F args) := pd_call tk ⟨by rw [hK]; exact Df.ex⟩ hr hg ha hn hdb he hpl
theorem fcall {F : Fn} {n kk : Nat} {x : Str} {args : E (List FV)} (Df : DefF Γ X.prog X.w X.mg X.base kk x n F) (hK : X.K = Γ.K) (tk : Takes X W) (hr : Room kk X.A) (ha : PArgs Γ W X (e :: es) args) (hn : ∀ st fs s1, args st = .ok fs s1 → fs.length = n) (hg : Gl X x := by rfl)
    (hdb : (x == ("__debug__" : Str)) = false := by decide) (he : starEach (e :: es) X.env = (false, eval e X.env) :: starEach es X.env := by rfl) (hpl : (backTo pos (starEach es X.env)).any (·.1) = false := by rfl) :
    PF Γ W X (.Call (.Name x ppos) (e :: es) [] pos) (eCallF F args) := pf_call tk ⟨by rw [hK]; exact Df.ex⟩ hr hg ha hn hdb he hpl
end
end PL

/-! PyLite, part q: reckoning with the functions of data. -/
namespace PL
open PySem PySem.Spec PyProof.Rows L2
section
variable {f k l : E D} {b c : E Bool} {st : LS} {f1 f2 : S} {x y d : D} {i j : Int} {h : List LO} {s : List (Option FV)}
@[simp] theorem startS_cons (m : Nat) (a : FV) (fs : List FV) : startS (m + 1) (a :: fs) = some a :: startS m fs := by
  unfold startS
  simp
@[simp] theorem startS_zero : startS 0 [] = [] := id rfl
@[simp] theorem startS_none (m : Nat) : startS (m + 1) [] = none :: startS m [] := by
  unfold startS
  simp [List.replicate_succ]
def fin : SRes → FRes
  | .nx st => .ret (.val .non) st.h
  | .ret x st => .ret x st.h
  | .exc x st => .exc x st.h
  | _ => .bad
theorem fn_s (m : Nat) (f1 : S) (fs : List FV) (h : List LO) : fn m f1 fs h = fin (f1 ⟨startS m fs, h⟩) := by
  unfold fn fin
  cases f1 ⟨startS m fs, h⟩ <;> rfl
@[simp] theorem fin_nx : fin (.nx st) = .ret (.val .non) st.h := id rfl
@[simp] theorem fin_ret {z : FV} : fin (.ret z st) = .ret z st.h := id rfl
@[simp] theorem fin_exc {z : XV} : fin (.exc z st) = .exc z st.h := id rfl
@[simp] theorem fin_bad : fin .bad = .bad := id rfl
@[simp] theorem eC_s : eC d st = .ok d st := id rfl
@[simp] theorem eVar_s (n : Nat) : eVar n ⟨s, h⟩ = match s[n]? with
  | some (some (.val d)) => .ok d ⟨s, h⟩
  | some (some (.own d)) => .ok d ⟨s.set n (some (.val d)), h⟩
  | _ => .bad := id rfl
@[simp] theorem vVar_s (n : Nat) : vVar n ⟨s, h⟩ = match s[n]? with
  | some (some (.val d)) => .ok d ⟨s, h⟩
  | some (some (.lent d)) => .ok d ⟨s, h⟩
  | _ => .bad := id rfl
@[simp] theorem cVar_s (n : Nat) : cVar n ⟨s, h⟩ = match s[n]? with
  | some (some (.val d)) => .ok d ⟨s, h⟩
  | some (some (.own d)) => .ok d ⟨s, h⟩
  | some (some (.lent d)) => .ok d ⟨s, h⟩
  | _ => .bad := id rfl
@[simp] theorem eBin_s (m : Sem2) : eBin m f k st = (f st).bind fun x s1 => (k s1).bind fun y s2 => m x y s2 := id rfl
@[simp] theorem eUn_s (m : Sem1) : eUn m f st = (f st).bind m := id rfl
@[simp] theorem mAdd_i : mAdd (.int i) (.int j) st = .ok (.int (i + j)) st := id rfl
@[simp] theorem mAdd_l {xs ys : List D} : mAdd (.lst xs) (.lst ys) st = if xs.length + ys.length ≤ 16777216 then .ok (.lst (xs ++ ys)) st else .bad := id rfl
@[simp] theorem mAdd_s {xs ys : Str} : mAdd (.str xs) (.str ys) st = if xs.length + ys.length ≤ 16777216 then .ok (.str (xs ++ ys)) st else .bad := id rfl
@[simp] theorem mCat_l {xs ys : List D} : mCat (.lst xs) (.lst ys) st = if xs.length + ys.length ≤ 16777216 then .ok (.lst (xs ++ ys)) st else .bad := id rfl
@[simp] theorem mAddI_i : mAddI (.int i) (.int j) st = .ok (.int (i + j)) st := id rfl
@[simp] theorem mSub_i : mSub (.int i) (.int j) st = .ok (.int (i - j)) st := id rfl
@[simp] theorem mMul_i : mMul (.int i) (.int j) st = if CMulX i j then .ok (.int (i * j)) st else .bad := id rfl
@[simp] theorem mDiv_i : mDiv (.int i) (.int j) st = if CDivW i j then .ok (.int (i / j)) st else .bad := id rfl
@[simp] theorem mMod_i : mMod (.int i) (.int j) st = if 0 < j then .ok (.int (i % j)) st else .bad := id rfl
@[simp] theorem mShl_i : mShl (.int i) (.int j) st = if CShl i j then .ok (.int (i * 2 ^ j.toNat)) st else .bad := id rfl
@[simp] theorem mShr_i : mShr (.int i) (.int j) st = if 0 ≤ j then .ok (.int (i / 2 ^ j.toNat)) st else .bad := id rfl
@[simp] theorem mPow_i : mPow (.int i) (.int j) st = if CPow i j then .ok (.int (i ^ j.toNat)) st else .bad := id rfl
@[simp] theorem mAnd_i : mAnd (.int i) (.int j) st = .ok (.int (Builtin.bitAnd i j)) st := id rfl
@[simp] theorem mNeg_i : mNeg (.int i) st = .ok (.int (-i)) st := id rfl
@[simp] theorem mLt_i : mLt (.int i) (.int j) st = .ok (.bl (decide (i < j))) st := id rfl
@[simp] theorem mLe_i : mLe (.int i) (.int j) st = .ok (.bl (decide (i ≤ j))) st := id rfl
@[simp] theorem mGt_i : mGt (.int i) (.int j) st = .ok (.bl (decide (j < i))) st := id rfl
@[simp] theorem mGe_i : mGe (.int i) (.int j) st = .ok (.bl (decide (j ≤ i))) st := id rfl
@[simp] theorem pln_int (n : Nat) : pln n (.int i) = true := by cases n <;> rfl
@[simp] theorem pln_bl (n : Nat) (z : Bool) : pln n (.bl z) = true := by cases n <;> rfl
@[simp] theorem pln_non (n : Nat) : pln n .non = true := by cases n <;> rfl
@[simp] theorem pln_lst (n : Nat) (ds : List D) : pln (n + 1) (.lst ds) = plns n ds := id rfl
@[simp] theorem pln_tup (n : Nat) (ds : List D) : pln (n + 1) (.tup ds) = plns n ds := id rfl
@[simp] theorem plns_nil (n : Nat) : plns n [] = true := by cases n <;> rfl
@[simp] theorem plns_cons (n : Nat) (d : D) (ds : List D) : plns n (d :: ds) = (pln n d && plns n ds) := by cases n <;> rfl
@[simp] theorem mEq_s : mEq x y st = if pln 20 x && pln 20 y then .ok (.bl (deq x y)) st else .bad := id rfl
@[simp] theorem mNe_s : mNe x y st = if pln 20 x && pln 20 y then .ok (.bl (!deq x y)) st else .bad := id rfl
@[simp] theorem deq_int : deq (.int i) (.int j) = (i == j) := by simp [deq]
@[simp] theorem deq_lst {xs ys : List D} : deq (.lst xs) (.lst ys) = deqs xs ys := by simp [deq]
@[simp] theorem deq_tup {xs ys : List D} : deq (.tup xs) (.tup ys) = deqs xs ys := by simp [deq]
@[simp] theorem deqs_nil : deqs [] [] = true := by simp [deqs]
@[simp] theorem deqs_cons {xs ys : List D} : deqs (x :: xs) (y :: ys) = (deq x y && deqs xs ys) := by simp [deqs]
@[simp] theorem tst_s : tst f st = (f st).bind fun d s1 => match d with
  | .bl b => .ok b s1
  | _ => .bad := id rfl
@[simp] theorem bAnd_s : bAnd b c st = (b st).bind fun z s1 => if z then c s1 else .ok false s1 := id rfl
@[simp] theorem bOr_s : bOr b c st = (b st).bind fun z s1 => if z then .ok true s1 else c s1 := id rfl
@[simp] theorem bNot_s : bNot b st = (b st).bind fun z s1 => .ok (!z) s1 := id rfl
@[simp] theorem eAnd_s : eAnd f k st = (tst f st).bind fun b s1 => if b then k s1 else .ok (.bl false) s1 := id rfl
@[simp] theorem eOr_s : eOr f k st = (tst f st).bind fun b s1 => if b then .ok (.bl true) s1 else k s1 := id rfl
@[simp] theorem eNot_s : eNot f st = (tst f st).bind fun b s1 => .ok (.bl (!b)) s1 := id rfl
@[simp] theorem eIf_s : eIf b f k st = (b st).bind fun b s1 => if b then f s1 else k s1 := id rfl
@[simp] theorem eChain_s {m m' : Sem2} : eChain m m' f k l st = (f st).bind fun x s1 => (k s1).bind fun y s2 => (m x y s2).bind fun c s3 => match c with
  | .bl true => (l s3).bind fun z s4 => m' y z s4
  | .bl false => .ok (.bl false) s3
  | _ => .bad := id rfl
@[simp] theorem eNil_s : eNil st = .ok [] st := id rfl
@[simp] theorem eCons_s {k : E (List D)} : eCons f k st = (f st).bind fun d s1 => (k s1).bind fun ds s2 => .ok (d :: ds) s2 := id rfl
@[simp] theorem eTup_s {k : E (List D)} : eTup k st = (k st).bind fun ds s1 => if ds.length ≤ 16777216 then .ok (.tup ds) s1 else .bad := id rfl
@[simp] theorem eLst_s {k : E (List D)} : eLst k st = (k st).bind fun ds s1 => if ds.length ≤ 16777216 then .ok (.lst ds) s1 else .bad := id rfl
@[simp] theorem mIx_l {ds : List D} : mIx (.lst ds) (.int i) st = match atD ds i with
    | some d => .ok d st
    | none => .bad := id rfl
@[simp] theorem mIx_t {ds : List D} : mIx (.tup ds) (.int i) st = match atD ds i with
    | some d => .ok d st
    | none => .bad := id rfl
@[simp] theorem oNone_s : oNone st = .ok none st := id rfl
@[simp] theorem oSome_s : oSome f st = (f st).bind fun d s1 => match d with
  | .int i => .ok (some i) s1
  | _ => .bad := id rfl
@[simp] theorem eSlc_s {lo hi : E (Option Int)} : eSlc f lo hi st = (f st).bind fun x s1 => (lo s1).bind fun i s2 => (hi s2).bind fun j s3 => match x with
  | .lst ds => .ok (.lst (cutD ds i j)) s3
  | _ => .bad := id rfl
@[simp] theorem isNon_n : D.non.isNon = true := id rfl
@[simp] theorem isNon_i : (D.int i).isNon = false := id rfl
@[simp] theorem isNon_b {z : Bool} : (D.bl z).isNon = false := id rfl
@[simp] theorem isNon_s {z : Str} : (D.str z).isNon = false := id rfl
@[simp] theorem isNon_l {z : List D} : (D.lst z).isNon = false := id rfl
@[simp] theorem isNon_t {z : List D} : (D.tup z).isNon = false := id rfl
@[simp] theorem isNon_o {z : Nat} : (D.obj z).isNon = false := id rfl
@[simp] theorem mIsN_s : mIsN x st = .ok (.bl x.isNon) st := id rfl
@[simp] theorem mNotN_s : mNotN x st = .ok (.bl (!x.isNon)) st := id rfl
@[simp] theorem tyD_i : tyD (.int i) = some (some .int) := id rfl
@[simp] theorem tyD_b {z : Bool} : tyD (.bl z) = some (some .bool) := id rfl
@[simp] theorem tyD_s {z : Str} : tyD (.str z) = some (some .str) := id rfl
@[simp] theorem tyD_l {z : List D} : tyD (.lst z) = some (some .list) := id rfl
@[simp] theorem tyD_t {z : List D} : tyD (.tup z) = some (some .tuple) := id rfl
@[simp] theorem tyD_d {z : List (Key × D)} : tyD (.dic z) = some (some .dict) := id rfl
@[simp] theorem tyD_n : tyD .non = some none := id rfl
@[simp] theorem mIsi_s {u : Ty} : mIsi u x st = match tyD x with
  | some t => .ok (.bl (subTy t u)) st
  | none => .bad := id rfl
@[simp] theorem subTy_bi : subTy (some .bool) .int = true := id rfl
@[simp] theorem subTy_ii : subTy (some .int) .int = true := id rfl
@[simp] theorem subTy_ib : subTy (some .int) .bool = false := id rfl
@[simp] theorem subTy_ll : subTy (some .list) .list = true := id rfl
@[simp] theorem subTy_tt : subTy (some .tuple) .tuple = true := id rfl
@[simp] theorem mLen_l {z : List D} : mLen (.lst z) st = .ok (.int z.length) st := id rfl
@[simp] theorem mLen_t {z : List D} : mLen (.tup z) st = .ok (.int z.length) st := id rfl
@[simp] theorem mLen_d {z : List (Key × D)} : mLen (.dic z) st = .ok (.int z.length) st := id rfl
@[simp] theorem mMax_i : mMax (.int i) (.int j) st = .ok (.int (if j > i then j else i)) st := id rfl
@[simp] theorem mMin_i : mMin (.int i) (.int j) st = .ok (.int (if j < i then j else i)) st := id rfl
@[simp] theorem mBits_i : mBits (.int i) st = .ok (.int (Builtin.Int.intBits i : Nat)) st := id rfl
@[simp] theorem aNil_s : aNil st = .ok [] st := id rfl
@[simp] theorem aCons_s {g : E FV} {k : E (List FV)} : aCons g k st = (g st).bind fun d s1 => (k s1).bind fun ds s2 => .ok (d :: ds) s2 := id rfl
@[simp] theorem aV_s : aV f st = (f st).bind fun d s1 => .ok (.val d) s1 := id rfl
@[simp] theorem aL_s (n : Nat) : aL n ⟨s, h⟩ = match s[n]? with
  | some (some (.val d)) => .ok (.val d) ⟨s, h⟩
  | some (some (.lent d)) => .ok (.lent d) ⟨s, h⟩
  | _ => .bad := id rfl
@[simp] theorem outD_v : outD st (.ret (.val d) h) = .ok d { st with h := h } := id rfl
@[simp] theorem outD_o : outD st (.ret (.own d) h) = .ok d { st with h := h } := id rfl
@[simp] theorem outD_x {z : XV} : outD st (.exc z h) = .exc z { st with h := h } := id rfl
@[simp] theorem outF_o : outF st (.ret (.own d) h) = .ok d { st with h := h } := id rfl
@[simp] theorem outF_x {z : XV} : outF st (.exc z h) = .exc z { st with h := h } := id rfl
@[simp] theorem eCall_s {F : Fn} {k : E (List FV)} : eCall F k st = (k st).bind fun fs s1 => outD s1 (F fs s1.h) := id rfl
@[simp] theorem eCallF_s {F : Fn} {k : E (List FV)} : eCallF F k st = (k st).bind fun fs s1 => outF s1 (F fs s1.h) := id rfl
@[simp] theorem sNx_s : sNx st = .nx st := id rfl
@[simp] theorem sBk_s : sBk st = .bk st := id rfl
@[simp] theorem sCt_s : sCt st = .ct st := id rfl
def SRes.seq (r : SRes) (f2 : S) : SRes := match r with
  | .nx st' => f2 st'
  | r => r
@[simp] theorem seq_nx : (SRes.nx st).seq f2 = f2 st := id rfl
@[simp] theorem seq_ret {z : FV} : (SRes.ret z st).seq f2 = .ret z st := id rfl
@[simp] theorem seq_bk : (SRes.bk st).seq f2 = .bk st := id rfl
@[simp] theorem seq_ct : (SRes.ct st).seq f2 = .ct st := id rfl
@[simp] theorem seq_exc {z : XV} : (SRes.exc z st).seq f2 = .exc z st := id rfl
@[simp] theorem seq_bad : SRes.bad.seq f2 = .bad := id rfl
@[simp] theorem sSeq_s : sSeq f1 f2 st = (f1 st).seq f2 := id rfl
@[simp] theorem sEx_s : sEx f st = SRes.of (f st) fun _ s1 => .nx s1 := id rfl
@[simp] theorem sRet_s : sRet f st = SRes.of (f st) fun d s1 => .ret (.val d) s1 := id rfl
@[simp] theorem sRetF_s : sRetF f st = SRes.of (f st) fun d s1 => .ret (.own d) s1 := id rfl
@[simp] theorem sRetO_s (n : Nat) : sRetO n ⟨s, h⟩ = match s[n]? with
  | some (some (.own d)) => .ret (.own d) ⟨s, h⟩
  | some (some (.val d)) => .ret (.val d) ⟨s, h⟩
  | _ => .bad := id rfl
@[simp] theorem sIf_s : sIf b f1 f2 st = SRes.of (b st) fun b s1 => if b then f1 s1 else f2 s1 := id rfl
@[simp] theorem set_s (n : Nat) (z : FV) : LS.set ⟨s, h⟩ n z = ⟨s.set n (some z), h⟩ := id rfl
@[simp] theorem sSet_s (n : Nat) : sSet n f st = SRes.of (f st) fun d s1 => .nx (s1.set n (.val d)) := id rfl
@[simp] theorem sSetF_s (n : Nat) : sSetF n f st = SRes.of (f st) fun d s1 => .nx (s1.set n (.own d)) := id rfl
@[simp] theorem setAll_nil (ds : List D) : setAll [] ds st = st := by cases ds <;> rfl
@[simp] theorem setAll_cons (n : Nat) (is : List Nat) (d : D) (ds : List D) : setAll (n :: is) (d :: ds) st = setAll is ds (st.set n (.val d)) := id rfl
@[simp] theorem sUnT_s (is : List Nat) : sUnT is f st = SRes.of (f st) fun d s1 => match d with
  | .tup ds => if ds.length = is.length then .nx (setAll is ds s1) else .bad
  | _ => .bad := id rfl
@[simp] theorem sAug_s (n : Nat) (m : Sem2) : sAug n m f ⟨s, h⟩ = match s[n]? with
  | some (some (.val x)) => SRes.of (f ⟨s, h⟩) fun y s1 => SRes.of (m x y s1) fun z s2 => .nx (s2.set n (.val z))
  | _ => .bad := id rfl
@[simp] theorem ownL_s (n : Nat) : LS.ownL ⟨s, h⟩ n = match s[n]? with
  | some (some (.own (.lst ds))) => some ds
  | _ => none := id rfl
@[simp] theorem sApp_s (n : Nat) : sApp n f st = match st.ownL n with
  | some _ => SRes.of (f st) fun d s1 => match s1.ownL n with
    | some ds => if ds.length < 16777216 then .nx (s1.set n (.own (.lst (ds ++ [d])))) else .bad
    | none => .bad
  | none => .bad := id rfl
@[simp] theorem sPut_s (n : Nat) : sPut n k f st = SRes.of (f st) fun d s1 => match s1.ownL n with
  | some _ => SRes.of (k s1) fun j s2 => match s2.ownL n, j with
    | some ds, .int j => match ixD ds.length j with
      | some m => .nx (s2.set n (.own (.lst (ds.set m d))))
      | none => .bad
    | _, _ => .bad
  | none => .bad := id rfl
@[simp] theorem tgN_s (n : Nat) : tgN n d st = some (st.set n (.val d)) := id rfl
@[simp] theorem tgT_s (is : List Nat) (ds : List D) : tgT is (.tup ds) st = if ds.length = is.length then some (setAll is ds st) else none := id rfl
@[simp] theorem sFor_s {k : E (List D)} {tg : D → LS → Option LS} : sFor k tg f1 st = SRes.of (k st) fun ds s1 => turns tg f1 ds s1 := id rfl
@[simp] theorem iVal_s : iVal f st = (f st).bind fun d s1 => match d with
  | .lst ds => .ok ds s1
  | _ => .bad := id rfl
@[simp] theorem iTup_s : iTup f st = (f st).bind fun d s1 => match d with
  | .tup ds => .ok ds s1
  | _ => .bad := id rfl
@[simp] theorem iEnm_s : iEnm f st = (f st).bind fun d s1 => match d with
  | .lst ds => .ok (enumD 0 ds) s1
  | _ => .bad := id rfl
@[simp] theorem iRg1_s : iRg1 f st = (f st).bind fun d s1 => match d with
  | .int j => if -(2 ^ 62) ≤ j ∧ j < 2 ^ 62 then .ok (rangeD 0 j.toNat) s1 else .bad
  | _ => .bad := id rfl
@[simp] theorem iRg2_s : iRg2 f k st = (f st).bind fun d s1 => (k s1).bind fun c s2 => match d, c with
  | .int i, .int j => if -(2 ^ 62) ≤ i ∧ i < 2 ^ 62 ∧ -(2 ^ 62) ≤ j ∧ j < 2 ^ 62 then .ok (rangeD i (j - i).toNat) s2 else .bad
  | _, _ => .bad := id rfl
@[simp] theorem clr_s (n : Nat) : LS.clr ⟨s, h⟩ n = ⟨s.set n none, h⟩ := id rfl
@[simp] theorem wipeS_nil : wipeS [] st = st := id rfl
@[simp] theorem wipeS_cons (n : Nat) (r : List Nat) : wipeS (n :: r) st = (wipeS r st).clr n := id rfl
@[simp] theorem tYes_s : tYes' st = .ok true st := id rfl
@[simp] theorem eLc_s {vs : List Nat} {fi : E (List D)} {tg : D → LS → Option LS} : eLc vs fi tg b f st = (fi st).bind fun ds s1 => (lcT vs tg b f ds [] (wipeS vs s1)).bind fun ys s2 => .ok (.lst ys) s2 := id rfl
@[simp] theorem lend_s (n : Nat) : LS.lend ⟨s, h⟩ n = match s[n]? with
  | some (some (.own d)) => ⟨s.set n (some (.lent d)), h⟩
  | _ => ⟨s, h⟩ := id rfl
@[simp] theorem unl_s (n : Nat) : LS.unl ⟨s, h⟩ n = match s[n]? with
  | some (some (.lent d)) => ⟨s.set n (some (.own d)), h⟩
  | _ => ⟨s, h⟩ := id rfl
@[simp] theorem mapS_ok {α : Type} {t : LS → LS} {a : α} : (Res.ok a st).mapS t = .ok a (t st) := id rfl
@[simp] theorem mapS_exc {α : Type} {t : LS → LS} {a : XV} : (Res.exc a st : Res α).mapS t = .exc a (t st) := id rfl
@[simp] theorem smapS_nx {t : LS → LS} : (SRes.nx st).mapS t = .nx (t st) := id rfl
@[simp] theorem smapS_ret {t : LS → LS} {z : FV} : (SRes.ret z st).mapS t = .ret z (t st) := id rfl
@[simp] theorem smapS_exc {t : LS → LS} {z : XV} : (SRes.exc z st).mapS t = .exc z (t st) := id rfl
@[simp] theorem eLend_s {α : Type} {f : E α} (n : Nat) : eLend n f ⟨s, h⟩ = match s[n]? with
  | some (some (.own _)) => (f (LS.lend ⟨s, h⟩ n)).mapS fun s => s.unl n
  | _ => f ⟨s, h⟩ := id rfl
@[simp] theorem sLend_s (n : Nat) : sLend n f1 ⟨s, h⟩ = match s[n]? with
  | some (some (.own _)) => (f1 (LS.lend ⟨s, h⟩ n)).mapS fun s => s.unl n
  | _ => f1 ⟨s, h⟩ := id rfl
end
/-! ### loops -/
theorem turns_inv {tg : D → LS → Option LS} {b : S} (I : List D → LS → Prop) (step : ∀ d r st, I (d :: r) st → ∃ s1, tg d st = some s1 ∧ ∃ s2, (b s1 = .nx s2 ∨ b s1 = .ct s2) ∧ I r s2) :
    ∀ (ds : List D) (st : LS), I ds st → ∃ st', turns tg b ds st = .nx st' ∧ I [] st'
  | [], st, i => ⟨st, rfl, i⟩
  | d :: r, st, i => by
    obtain ⟨s1, e1, s2, e2, i2⟩ := step d r st i
    obtain ⟨st', e3, i3⟩ := turns_inv I step r s2 i2
    refine ⟨st', ?_, i3⟩
    rw [turns, e1]
    rcases e2 with e2 | e2 <;> simp only [e2, e3]
/-- the state behind each turn is told -/
theorem turns_fold {tg : D → LS → Option LS} {b : S} {α : Type} (mk : α → LS) (up : D → α → α) : ∀ (ds : List D) (a : α), (∀ d ∈ ds, ∀ a, ∃ s1, tg d (mk a) = some s1 ∧ (b s1 = .nx (mk (up d a)) ∨ b s1 = .ct (mk (up d a)))) →
    turns tg b ds (mk a) = .nx (mk (ds.foldl (fun a d => up d a) a))
  | [], a, _ => rfl
  | d :: r, a, h => by
    obtain ⟨s1, e1, e2⟩ := h d List.mem_cons_self a
    have ih := turns_fold mk up r (up d a) fun d m => h d (List.mem_cons_of_mem _ m)
    rw [turns, e1]
    rcases e2 with e2 | e2 <;> simp only [e2, ih, List.foldl_cons]
theorem lcT_map {vs : List Nat} {tg : D → LS → Option LS} {t : E Bool} {e : E D} (st : LS) (q : D → Bool) (y : D → D) : ∀ (ds acc : List D), (∀ d ∈ ds, ∃ s1, tg d st = some s1 ∧ ∃ s2, t s1 = .ok (q d) s2 ∧ (q d = true → ∃ s3, e s2 = .ok (y d) s3 ∧ wipeS vs s3 = st) ∧ (q d = false → wipeS vs s2 = st)) →
    acc.length + ds.length ≤ 16777216 → lcT vs tg t e ds acc st = .ok (acc ++ (ds.filter q).map y) st
  | [], acc, _, _ => by simp [lcT]
  | d :: r, acc, h, hl => by
    obtain ⟨s1, e1, s2, e2, h3, h4⟩ := h d List.mem_cons_self
    have hr := fun d m => h d (List.mem_cons_of_mem _ m)
    rw [List.length_cons] at hl
    rw [lcT, e1]
    simp only [e2, nox_ok, bind_ok]
    cases hq : q d with
    | false =>
      rw [h4 hq]
      simp only [Bool.false_eq_true, if_false]
      rw [lcT_map st q y r acc hr (by omega), List.filter_cons, hq]
      simp
    | true =>
      obtain ⟨s3, e3, e4⟩ := h3 hq
      simp only [if_true, e3, nox_ok, bind_ok]
      rw [if_pos (by omega), e4, lcT_map st q y r (acc ++ [y d]) hr (by simp; omega), List.filter_cons, hq]
      simp
theorem filter_true {ds : List D} : ds.filter (fun _ => true) = ds := by simp
/-! ### sizes -/
theorem cmul_of {i j : Int} (a b : Nat) (ha : i.natAbs < 2 ^ a) (hb : j.natAbs < 2 ^ b) (h : a + b ≤ 134217728 := by omega) : CMulX i j := mulx_ok ha hb h
theorem bits_lt {i : Int} {n : Nat} (h : i.natAbs < 2 ^ n) : Builtin.Int.intBits i ≤ n := by
  unfold Builtin.Int.intBits
  split
  · omega
  · rename_i hi
    have hz : i.natAbs ≠ 0 := by simp at hi; omega
    have := (Nat.log2_lt hz).mpr h
    omega
theorem lt_bits {i : Int} {n : Nat} (h : Builtin.Int.intBits i ≤ n) : i.natAbs < 2 ^ n := by
  unfold Builtin.Int.intBits at h
  split at h
  · rename_i hi
    have hz : i = 0 := by simpa using hi
    subst hz
    exact Nat.two_pow_pos n
  · rename_i hi
    have hz : i.natAbs ≠ 0 := by simp at hi; omega
    exact (Nat.log2_lt hz).mp (by omega)
theorem cmul_fit {i j : Int} (hi : Builtin.Int.intBits i ≤ 100000000) (hj : j.natAbs < 2 ^ 200) : CMulX i j := by
  have := bits_lt hj
  unfold CMulX
  omega
theorem cmul_fit' {i j : Int} (hj : Builtin.Int.intBits j ≤ 100000000) (hi : i.natAbs < 2 ^ 200) : CMulX i j := by
  have := bits_lt hi
  unfold CMulX
  omega
@[simp] theorem cdiv_small {i j : Int} (h : 0 < j) (hb : j < 1606938044258990275541962092341162602522202993782792835301376) : CDivW i j :=
  wide_div h (b := 200) (by have e : (2 : Nat) ^ 200 = 1606938044258990275541962092341162602522202993782792835301376 := by decide
                            rw [e]; omega) (by decide) (by decide)
theorem cshl_ok {i j : Int} (n : Nat) (h : i.natAbs < 2 ^ n) (h0 : 0 ≤ j) (hn : (n : Int) + j ≤ 134217728) : CShl i j := by
  have := bits_lt h
  refine ⟨h0, ?_⟩
  have e : (2 : Int) ^ 27 = 134217728 := by decide
  rw [e]
  omega
theorem cshl_one {j : Int} (h0 : 0 ≤ j) (hn : j ≤ 134217000) : CShl 1 j := cshl_ok 1 (by decide) h0 (by omega)
theorem p2pos (k : Nat) : (0 : Int) < 2 ^ k := Int.pow_pos (by decide)
theorem p2le {a b : Nat} (h : a ≤ b) : (2 : Int) ^ a ≤ 2 ^ b := by
  have := Nat.pow_le_pow_right (n := 2) (by decide) h
  exact_mod_cast this
/-- a while loop by an invariant and a measure -/
theorem while_inv {c : E Bool} {b : S} (Post : LS → Prop) (I : Nat → LS → Prop)
    (step : ∀ n st, I n st → (∃ st1, c st = .ok false st1 ∧ Post st1) ∨ (∃ st1, c st = .ok true st1 ∧ ∃ st2, (b st1 = .nx st2 ∨ b st1 = .ct st2) ∧ ∃ m, m < n ∧ I m st2)) :
    ∀ (n : Nat) (st : LS), I n st → ∃ st', sWhile c b st = .nx st' ∧ Post st' := by
  intro n
  induction n using Nat.strongRecOn with
  | _ n ih =>
    intro st i
    rw [sWhile_eq]
    rcases step n st i with ⟨st1, e1, hp⟩ | ⟨st1, e1, st2, e2, m, hm, i2⟩
    · rw [e1]
      exact ⟨st1, by simp, hp⟩
    · obtain ⟨st', e3, hp⟩ := ih m hm st2 i2
      rw [e1]
      refine ⟨st', ?_, hp⟩
      rcases e2 with e2 | e2 <;> simp [e2, e3]
end PL

/-! PyLite, part r: fields stored, methods, instances made, exceptions raised. -/
namespace PL
open PySem PySem.Spec PyProof.Rows L2
section
variable {Γ : Tab} {W : WX} {Z : Hp} {Lt : Lend} {g g' : GM} {st st' : LS} {σ σ' : L2.St} {H H' : Hp} {h h' : List LO} {a p : Addr} {o : HO} {d : D} {v : V} {X : Cx} {e e1 e2 e3 : Expr} {es : List Expr} {f k l : E D} {pos pos2 ppos apos tpos : Pos} {stm : Stmt} {sts : List Stmt} {f1 f2 : S} {D0 : Ends}

/-! ### a field is stored -/
theorem SR.insAt {r c : Nat} {fs : List (Nat × FV)} (s : SR Γ Z Lt g st σ H) (hr : g.M[r]? = some a) (e : st.h[r]? = some (.ins c fs)) : ∃ C dx ws, Γ.cls c = some C ∧ Cls Γ.K C ∧ H a = some (.ins C dx ws) ∧ FR Γ Z Lt g H r C fs ws := s.sh.ob r _ a e hr
theorem SR.setX {r c i : Nat} {fs : List (Nat × FV)} {C dx : Addr} {ws : List (Str × V)} {n : Str} {x : FV} (s : SR Γ Z Lt g st σ H) (hr : g.M[r]? = some a) (e : st.h[r]? = some (.ins c fs)) (hC : Γ.cls c = some C) (ea : H a = some (.ins C dx ws)) (hn : Γ.nm[i]? = some n) (na : NoAttr Γ.K C n)
    (hx : FVR Γ Z Lt g H (.fld r i) x v) : SR Γ Z Lt g (st.setF r i x) σ (upd H a (.ins C dx (putF n v ws))) := by
  obtain ⟨C', dx', ws', h1, h2, h3, h4⟩ := s.insAt hr e
  rw [hC] at h1; cases h1
  rw [ea] at h3; cases h3
  have ma : a ∈ g.M := List.mem_of_getElem? hr
  obtain ⟨m1, _, m3⟩ := s.sh.mf a ma
  have m2 := s.sh.zn ma ea rfl
  have kp : ∀ q : Path → Prop, Kp Z g g H (upd H a (.ins C dx (putF n v ws))) q := fun q => ⟨GT.refl _ _, fun b p u hq k1 k2 k3 k4 k5 => by
    have ne : b ≠ a := fun z => k4 (by rw [z]; exact ma)
    exact ⟨k1, k3, k4, by rw [upd_ne ne]; exact k5⟩⟩
  have es : st.setF r i x = { st with h := st.h.set r (.ins c (putN i x fs)) } := by unfold LS.setF; rw [e]
  rw [es]
  refine ⟨s.sh.updO (kp fun _ => True) (fun _ _ _ => trivial) rfl hr e (fun b u _ ne e' => by rw [upd_ne ne]; exact e') (fun b u e' => ?_) (fun b u e' => ?_) s.sh.gz (fun b m => ⟨(s.sh.mf b m).1, (s.sh.mf b m).2.2⟩)
    ⟨C, dx, _, hC, h2, upd_same, FR.put s.sh.nd (kp _) hn na (hx.keep (kp fun _ => True) trivial) h4⟩, s.sl, fun j y ej => ?_⟩
  · have ne : b ≠ a := fun z => by subst z; rw [m1] at e'; cases e'
    rw [upd_ne ne]; exact s.sh.gh b u e'
  · have ne : b ≠ a := fun z => by subst z; rw [m2] at e'; cases e'
    rw [upd_ne ne]; exact s.sh.zh b u e'
  · obtain ⟨w, e2, fv⟩ := s.sv j y ej
    exact ⟨w, e2, fv.keep (kp fun _ => True) trivial⟩
/-- nobody's object is given to a path -/
theorem SR.give (s : SR Γ Z Lt g st σ H) (x : OA Γ Z g H .tmp a d) (q : Path) : SR Γ Z Lt (g.tmp a q) st σ H ∧ GT Z g (g.tmp a q) ∧ OA Γ Z (g.tmp a q) H q a d := by
  obtain ⟨h1, h2, h3, h4, o, h5, h6⟩ := x
  have nz : ∀ b u, Z b = some u → b ≠ a := fun b u z q => by rw [q, h2] at z; cases z
  have gt : GT Z g (g.tmp a q) := ⟨GLe.refl _, ⟨[], by simp⟩, fun b u z => tmp_ne (nz b u z), fun _ _ _ h => h⟩
  have kp : Kp Z g (g.tmp a q) H H fun p => p ≠ .tmp := ⟨gt, fun b p u hp k1 k2 k3 k4 k5 => by
    have ne : b ≠ a := fun q => by subst q; rw [h3] at k3; cases k3; exact hp rfl
    exact ⟨k1, by rw [tmp_ne ne]; exact k3, k4, k5⟩⟩
  refine ⟨⟨s.sh.keep kp (fun r f => by simp) rfl (fun _ _ _ e => e) s.sh.gh s.sh.zh s.sh.gz fun b m => ⟨(s.sh.mf b m).1, (tmp_ne (fun q => h4 (by rw [← q]; exact m))).trans (s.sh.mf b m).2.2⟩, s.sl, fun j x e => ?_⟩, gt, h1, h2, tmp_same, h4, o, h5, h6.mono gt.le gt.mp⟩
  obtain ⟨w, e1, f⟩ := s.sv j x e
  exact ⟨w, e1, f.keep kp (by simp)⟩
/-- the classes that have the field by themselves -/
def FldOk (Γ : Tab) (n : Str) (cs : List Nat) : Prop := ∀ c ∈ cs, ∀ C, Γ.cls c = some C → NoAttr Γ.K C n
def sFld (i : Nat) (cs : List Nat) (fo fe : E D) : S := fun st => SRes.of (fe st) fun d s1 => SRes.of (fo s1) fun x s2 => match x with
  | .obj r => match s2.h[r]? with
    | some (.ins c fs) => if c ∈ cs ∧ fs.length < 1000 then .nx (s2.setF r i (.val d)) else .bad
    | _ => .bad
  | _ => .bad
theorem st_fld {i : Nat} {cs : List Nat} {n : Str} {o : Expr} (hn : Γ.nm[i]? = some n) (ok : FldOk Γ n cs) (hK : X.K = Γ.K) (x : PD Γ W X o k) (y : PD Γ W X e f) (hs : swapsWith e (some (.Attribute o n pos2)) pos.line X.env = pure false := by rfl) : PSt Γ W X (.Assign [.Attribute o n pos2] e pos) (sFld i cs k f) := by
  refine ⟨(ps_fld x.pe y.pe hs).csq fun D σ H ⟨Z, Lt, g, st, s, h⟩ => ⟨Z, Lt, g, st, s, (GoS.of h).imp fun d g1 st1 H1 s1 t1 k1 v r => ?_⟩⟩
  refine ⟨Z, Lt, g1, st1, s1, (GoS.of (k1 g1 H1 s1 (GT.refl _ _))).imp fun x g2 st2 H2 s2 t2 k2 w r2 => ?_⟩
  have k3 := k2 g2 H2 s2 (GT.refl _ _)
  cases x with
  | obj r0 =>
    obtain ⟨a, rfl, hr⟩ := RD.obj r2
    simp only at k3
    split at k3
    · rename_i c fs e1
      split at k3
      · rename_i hc
        obtain ⟨C, dx, ws, q1, q2, q3, q4⟩ := s2.insAt hr e1
        have na := ok c hc.1 C q1
        rw [hK]
        exact ⟨a, C, dx, ws, rfl, q3, q2, na, by rw [q4.length]; exact hc.2, k3 σ g2 _ (s2.setX hr e1 q1 q3 hn na (show FVR Γ Z Lt g2 H2 (.fld r0 i) (.val d) v from r.up t2)) (GT.refl _ _)⟩
      · exact k3.elim
    · exact k3.elim
  | _ => exact k3.elim
/-- a fresh list goes to a field of the object that a name holds -/
def LS.objAt (st : LS) (k : Nat) : Option Nat := match st.s[k]? with
  | some (some (.val (.obj r))) => some r
  | _ => none
theorem objAt_eq {k r : Nat} (e : st.objAt k = some r) : st.s[k]? = some (some (.val (.obj r))) := by
  unfold LS.objAt at e
  split at e
  · cases e; assumption
  · cases e
def sFldF (i : Nat) (cs : List Nat) (j : Nat) (fe : E D) : S := fun st => SRes.of (fe st) fun d s1 => match s1.objAt j with
  | some r => match s1.h[r]? with
    | some (.ins c fs) => if c ∈ cs ∧ fs.length < 1000 then .nx (s1.setF r i (.own d)) else .bad
    | _ => .bad
  | none => .bad
theorem st_fldF {i j : Nat} {cs : List Nat} {n x : Str} {ypos : Pos} (hn : Γ.nm[i]? = some n) (ok : FldOk Γ n cs) (hK : X.K = Γ.K) (hN : X.N[j]? = some x) (hv : Vis X.env.scope x) (y : PF Γ W X e f) (hd : (x == ("__debug__" : Str)) = false := by decide) (hcd : (x == ("__classdict__" : Str)) = false := by decide)
    (hs : swapsWith e (some (.Attribute (.Name x ypos) n pos2)) pos.line X.env = pure false := by rfl) : PSt Γ W X (.Assign [.Attribute (.Name x ypos) n pos2] e pos) (sFldF i cs j f) := by
  refine ⟨(ps_fld (pe_var hN hv hd hcd) y.pe hs).csq fun D σ H ⟨Z, Lt, g, st, s, h⟩ => ⟨Z, Lt, g, st, s, (GoS.of h).imp fun d g1 st1 H1 s1 t1 k1 b r => ?_⟩⟩
  have k3 := k1 g1 H1 s1 (GT.refl _ _)
  cases e0 : st1.objAt j with
  | none => rw [e0] at k3; exact k3.elim
  | some r0 =>
    rw [e0] at k3
    simp only at k3
    obtain ⟨w, ew, rw'⟩ := s1.sv j _ (objAt_eq e0)
    obtain ⟨a, rfl, hr⟩ := RD.obj (show RD Γ g1 (.obj r0) w from rw')
    refine ⟨_, ew, ?_⟩
    split at k3
    · rename_i c fs e1
      split at k3
      · rename_i hc
        obtain ⟨s2, t2, oa⟩ := s1.give r (.fld r0 i)
        obtain ⟨C, dx, ws, q1, q2, q3, q4⟩ := s2.insAt hr e1
        have na := ok c hc.1 C q1
        rw [hK]
        exact ⟨a, C, dx, ws, rfl, q3, q2, na, by rw [q4.length]; exact hc.2, k3 σ _ _ (s2.setX (x := .own d) hr e1 q1 q3 hn na ⟨b, rfl, oa⟩) t2⟩
      · exact k3.elim
    · exact k3.elim
/-- o.f op= e -/
def sFldAug (i : Nat) (cs : List Nat) (fo : E D) (m : Sem2) (fe : E D) : S := fun st => SRes.of (fo st) fun x s1 => match x with
  | .obj r => match s1.h[r]?, s1.fld r i with
    | some (.ins c _), some (.val u) => if c ∈ cs then SRes.of (fe s1) fun y s2 => SRes.of (m u y s2) fun z s3 => match s3.h[r]? with
      | some (.ins c' fs) => if c' = c ∧ fs.length < 1000 then .nx (s3.setF r i (.val z)) else .bad
      | _ => .bad else .bad
    | _, _ => .bad
  | _ => .bad
theorem st_fldAug {i : Nat} {cs : List Nat} {n : Str} {o : Expr} {op : Operator} {r : R2} {m : Sem2} (hn : Γ.nm[i]? = some n) (ok : FldOk Γ n cs) (hK : X.K = Γ.K) (x : PD Γ W X o k) (ho : OpR X (inplaceOp op) r) (hm : Holds2 Γ W X r m) (y : PV Γ W X e f) :
    PSt Γ W X (.AugAssign (.Attribute o n tpos) op e pos) (sFldAug i cs k m f) := by
  refine ⟨(ps_fldaug (rd := r) x.pe y.pe ho).csq fun D σ H ⟨Z, Lt, g, st, s, h⟩ => ⟨Z, Lt, g, st, s, (GoS.of h).imp fun x g1 st1 H1 s1 t1 k1 w r1 => ?_⟩⟩
  have k2 := k1 g1 H1 s1 (GT.refl _ _)
  cases x with
  | obj r0 =>
    obtain ⟨a, rfl, hr⟩ := RD.obj r1
    simp only at k2
    split at k2
    · rename_i c fs u e1 e2
      split at k2
      · rename_i hc
        obtain ⟨C, dx, ws, q1, q2, q3, q4⟩ := s1.insAt hr e1
        have na := ok c hc C q1
        obtain ⟨C', dx', ws', n', v, p1, p2, p3, p4, p5, p6⟩ := s1.fld hr e2
        rw [q3] at p1; cases p1
        rw [hn] at p3; cases p3
        rw [hK]
        refine ⟨a, C, dx, ws, v, rfl, q3, q2, na, p5, Z, Lt, g1, st1, s1, (GoS.of k2).imp fun y g2 st2 H2 s2 t2 k3 w2 r2 => ?_⟩
        have k4 := k3 g2 H2 s2 (GT.refl _ _)
        refine hm Z Lt g2 st2 σ H2 u y v w2 _ s2 (.inl (RD.up p6 t2)) (r2.cv s2) ((GoS.of k4).imp fun z g3 st3 H3 s3 t3 k5 w3 r3 => ?_)
        have k6 := k5 g3 H3 s3 (GT.refl _ _)
        split at k6
        · rename_i c' fs' e3
          split at k6
          · rename_i hc'
            obtain ⟨rfl, hl⟩ := hc'
            have hr3 : g3.M[r0]? = some a := by
              obtain ⟨t, et⟩ := (t2.trans t3).mp
              rw [et, List.getElem?_append_left (List.getElem?_eq_some_iff.mp hr).1]
              exact hr
            obtain ⟨C2, dx2, ws2, y1, y2, y3, y4⟩ := s3.insAt hr3 e3
            rw [q1] at y1; cases y1
            exact ⟨dx2, ws2, y3, by rw [y4.length]; exact hl, k6 σ g3 _ (s3.setX hr3 e3 q1 y3 hn na (show FVR Γ Z Lt g3 H3 (.fld r0 i) (.val z) w3 from r3)) (GT.refl _ _)⟩
          · exact k6.elim
        · exact k6.elim
      · exact k2.elim
    · exact k2.elim
  | _ => exact k2.elim

/-! ### methods -/
structure MDef (Γ : Tab) (P : Program) (w : World) (mg : Str → Option Value) (base : Heap) (kk : Nat) (m : Str) (c n : Nat) (F : Fn) : Prop where
  ex : ∃ (C f : Addr) (fd : FuncData) (ps : List Str), Γ.cls c = some C ∧ Meth Γ.K C m f ∧ FnOk P w Γ.K mg base (L2.CX P w) kk f fd ps (spF Γ n F) ∧ Binds Γ.K fd ps []
theorem MDef.mono {P : Program} {w : World} {mg : Str → Option Value} {base : Heap} {kk kl : Nat} {m : Str} {c n : Nat} {F : Fn} (x : MDef Γ P w mg base kk m c n F) (h : kk ≤ kl) : MDef Γ P w mg base kl m c n F := by
  obtain ⟨C, f, fd, ps, h1, h2, h3, h4⟩ := x.ex
  exact ⟨C, f, fd, ps, h1, h2, h3.mono h, h4⟩
def tMethV (X : Cx) (W : WX) (k : Nat) (m : Str) (ta : TE) (t : TA) : TE := fun σ H Q => ta σ H fun x H1 => ∃ (a C f : Addr) (fd : FuncData) (ps : List Str) (sp : Sp) (dx : Addr) (fs : List (Str × V)), x = .ref a ∧ H1 a = some (.ins C dx fs) ∧ Cls X.K C ∧ Meth X.K C m f ∧
  FnOk X.prog X.w X.K X.mg X.base (L2.CX X.prog X.w) k f fd ps sp ∧ Binds X.K fd ps [] ∧ fs.lookup m = none ∧ t σ H1 fun vs H2 => sp (.ref a :: vs) H2 Q (WE W σ)
theorem pe_methV {o : Expr} {k : Nat} {m : Str} {ta : TE} {t : TA} {pl : Sem Bool} (tk : Takes X W) (he : PE X o ta) (hr : Room k X.A) (ha : PA X (e :: es) t)
    (hst : starEach (e :: es) X.env = (false, eval e X.env) :: starEach es X.env := by rfl) (hpl : (backTo pos (starEach es X.env)).any (·.1) = false := by rfl)
    (ht : eval (.Call (.Attribute o m apos) (e :: es) [] pos) X.env = (do
      let ov ← eval o X.env
      standAt apos.atName
      let (f, first) ← holding [ov] (getMethod ov m pl)
      callWith pos f first (backTo pos (starEach (e :: es) X.env)) (backToKw pos (keywordEach [] X.env))) := by rfl) :
    PE X (.Call (.Attribute o m apos) (e :: es) [] pos) (tMethV X W k m ta t) := by
  refine ⟨fun pins s σ H Q I h => ?_⟩
  refine PySem.W.methodCall_KW (pl := pl) (thn (he.run pins s σ H _ I h) fun u s1 ⟨x, H1, I1, rx, a, C, f, fd, ps, sp, dx, fs, ex, ea, c, hm, F, hb, l, q⟩ => ?_) ht
  subst ex
  obtain rfl : u = Value.ref a := rx
  refine getmeth_ok I1 ea c hm l ?_
  refine PySem.W.callWith_K (first := [.ref a]) (h₀ := X.base) I.ok.mod.kin hm.kp (thn (ha.run pos pins s1 σ H1 _ I1 q) fun us s2 ⟨vs, H2, I2, r, q2⟩ => ⟨I2.kIn, ?_⟩) hst hpl
  exact run_fnS (us := .ref a :: us) (vs := .ref a :: vs) (E := WE W) F hr hb (passAt tk σ) I2 (.cons rfl r) q2
theorem pe_methV0 {o : Expr} {k : Nat} {m : Str} {ta : TE} {pl : Sem Bool} (tk : Takes X W) (he : PE X o ta) (hr : Room k X.A)
    (ht : eval (.Call (.Attribute o m apos) [] [] pos) X.env = (do
      let ov ← eval o X.env
      standAt apos.atName
      let (f, first) ← holding [ov] (getMethod ov m pl)
      callWith pos f first (backTo pos (starEach [] X.env)) (backToKw pos (keywordEach [] X.env))) := by rfl) :
    PE X (.Call (.Attribute o m apos) [] [] pos) (tMethV X W k m ta tNil) := by
  refine ⟨fun pins s σ H Q I h => ?_⟩
  refine PySem.W.methodCall_KW (pl := pl) (thn (he.run pins s σ H _ I h) fun u s1 ⟨x, H1, I1, rx, a, C, f, fd, ps, sp, dx, fs, ex, ea, c, hm, F, hb, l, q⟩ => ?_) ht
  subst ex
  obtain rfl : u = Value.ref a := rx
  refine getmeth_ok I1 ea c hm l ?_
  exact PySem.W.callWith_K0 (first := [.ref a]) I1.kIn hm.kp (run_fnS (us := [.ref a]) (vs := [.ref a]) (E := WE W) F hr hb (passAt tk σ) I1 (.cons rfl .nil) q)
def eMeth (n : Nat) (ms : List (Nat × Fn)) (fo : E D) (args : E (List FV)) : E D := fun st => (fo st).bind fun d s1 => match d with
  | .obj r => match s1.h[r]? with
    | some (.ins c _) => match ms.lookup c with
      | some F => (args s1).bind fun fs s2 => if fs.length + 1 = n then outD s2 (F (.val (.obj r) :: fs) s2.h) else .bad
      | none => .bad
    | _ => .bad
  | _ => .bad
def eMethF (n : Nat) (ms : List (Nat × Fn)) (fo : E D) (args : E (List FV)) : E D := fun st => (fo st).bind fun d s1 => match d with
  | .obj r => match s1.h[r]? with
    | some (.ins c _) => match ms.lookup c with
      | some F => (args s1).bind fun fs s2 => if fs.length + 1 = n then outF s2 (F (.val (.obj r) :: fs) s2.h) else .bad
      | none => .bad
    | _ => .bad
  | _ => .bad
/-- the method is no field -/
def NoFld (Γ : Tab) (m : Str) : Prop := m ∉ Γ.nm
theorem FR.no {r : Nat} {C : Addr} {m : Str} (nf : NoFld Γ m) : ∀ {fs : List (Nat × FV)} {ws : List (Str × V)}, FR Γ Z Lt g H r C fs ws → ws.lookup m = none
  | [], _, F => by cases (show _ = [] from F); rfl
  | y :: fs, _, F => by
    obtain ⟨n, v, q, rfl, h1, _, _, _, h4⟩ := F
    have ne : m ≠ n := fun z => nf (by rw [z]; exact List.mem_of_getElem? h1)
    rw [List.lookup_cons, beq_false_of_ne ne]
    exact FR.no nf h4
def AllM (Γ : Tab) (X : Cx) (kk : Nat) (m : Str) (n : Nat) (ms : List (Nat × Fn)) : Prop := ∀ c F, ms.lookup c = some F → MDef Γ X.prog X.w X.mg X.base kk m c n F
theorem allM_nil {kk n : Nat} {m : Str} : AllM Γ X kk m n [] := fun c F e => by simp at e
theorem allM_cons {kk n c : Nat} {m : Str} {F : Fn} {ms : List (Nat × Fn)} (x : MDef Γ X.prog X.w X.mg X.base kk m c n F) (y : AllM Γ X kk m n ms) : AllM Γ X kk m n ((c, F) :: ms) := fun c' F' e => by
  rw [List.lookup_cons] at e
  by_cases q : c' = c
  · subst q; rw [beq_self_eq_true] at e; cases e; exact x
  · rw [beq_false_of_ne q] at e; exact y c' F' e
theorem ARs.up : ∀ {xs : List FV} {vs : List V}, ARs Γ Z g xs vs → GT Z g g' → ARs Γ Z g' xs vs
  | [], _, r, _ => r
  | x :: xs, _, r, t => by obtain ⟨v, q, e, r1, r2⟩ := r; exact ⟨v, q, e, r1.up t, ARs.up r2 t⟩
theorem meth_T {m : Str} {n kk : Nat} {ms : List (Nat × Fn)} {args : E (List FV)} {Q : VK} (hK : X.K = Γ.K) (nf : NoFld Γ m) (am : AllM Γ X kk m n ms) (h : T Γ W (eMeth n ms f args) σ H Q) : tMethV X W kk m (T Γ W f) (TGs Γ W args) σ H Q := by
  obtain ⟨Z, Lt, g, st, s, h⟩ := h
  refine ⟨Z, Lt, g, st, s, h.bind.imp fun d g1 st1 H1 s1 t1 k1 v r => ?_⟩
  have k2 := k1 g1 H1 s1 (GT.refl _ _)
  cases d with
  | obj r0 =>
    obtain ⟨a, rfl, hr⟩ := RD.obj r
    simp only at k2
    split at k2
    · rename_i c fs e1
      split at k2
      · rename_i F eF
        obtain ⟨C, f', fd, ps, x1, x2, x3, x4⟩ := (am c F eF).ex
        obtain ⟨C', dx, ws, q1, q2, q3, q4⟩ := s1.insAt hr e1
        rw [x1] at q1; cases q1
        rw [hK]
        refine ⟨a, C, f', fd, ps, _, dx, ws, rfl, q3, q2, x2, x3, x4, q4.no nf, Z, Lt, g1, st1, s1, (Go.bind k2).imp fun fs g2 st2 H2 s2 t2 k3 vs rs => ?_⟩
        have k4 := k3 g2 H2 s2 (GT.refl _ _)
        split at k4
        · rename_i hl
          exact call_sp s2 (ARs.cons (show AR Γ Z g2 (.val (.obj r0)) (.ref a) from RD.up r t2) rs) (by simpa using hl) k4
        · exact k4.elim
      · exact k2.elim
    · exact k2.elim
  | _ => exact k2.elim
theorem methF_T {m : Str} {n kk : Nat} {ms : List (Nat × Fn)} {args : E (List FV)} {Q : VK} (hK : X.K = Γ.K) (nf : NoFld Γ m) (am : AllM Γ X kk m n ms) (h : TF Γ W (eMethF n ms f args) σ H Q) : tMethV X W kk m (T Γ W f) (TGs Γ W args) σ H Q := by
  obtain ⟨Z, Lt, g, st, s, h⟩ := h
  refine ⟨Z, Lt, g, st, s, h.bind.imp fun d g1 st1 H1 s1 t1 k1 v r => ?_⟩
  have k2 := k1 g1 H1 s1 (GT.refl _ _)
  cases d with
  | obj r0 =>
    obtain ⟨a, rfl, hr⟩ := RD.obj r
    simp only at k2
    split at k2
    · rename_i c fs e1
      split at k2
      · rename_i F eF
        obtain ⟨C, f', fd, ps, x1, x2, x3, x4⟩ := (am c F eF).ex
        obtain ⟨C', dx, ws, q1, q2, q3, q4⟩ := s1.insAt hr e1
        rw [x1] at q1; cases q1
        rw [hK]
        refine ⟨a, C, f', fd, ps, _, dx, ws, rfl, q3, q2, x2, x3, x4, q4.no nf, Z, Lt, g1, st1, s1, (Go.bind k2).imp fun fs g2 st2 H2 s2 t2 k3 vs rs => ?_⟩
        have k4 := k3 g2 H2 s2 (GT.refl _ _)
        split at k4
        · rename_i hl
          exact callF_sp s2 (ARs.cons (show AR Γ Z g2 (.val (.obj r0)) (.ref a) from RD.up r t2) rs) (by simpa using hl) k4
        · exact k4.elim
      · exact k2.elim
    · exact k2.elim
  | _ => exact k2.elim
theorem args0_T {m : Str} {kk : Nat} {ta : TE} {Q : VK} (h : tMethV X W kk m ta (TGs Γ W aNil) σ H Q) (hm : ∀ {Q Q' : VK} {σ H}, (∀ v H, Q v H → Q' v H) → ta σ H Q → ta σ H Q') : tMethV X W kk m ta tNil σ H Q := by
  refine hm (fun v H ⟨a, C, f, fd, ps, sp, dx, fs, x1, x2, x3, x4, x5, x6, x7, Z, Lt, g, st, s, h⟩ => ⟨a, C, f, fd, ps, sp, dx, fs, x1, x2, x3, x4, x5, x6, x7, ?_⟩) h
  exact h g H s (GT.refl _ _) [] rfl
theorem T.mono {Q Q' : VK} (i : ∀ v H, Q v H → Q' v H) (h : T Γ W f σ H Q) : T Γ W f σ H Q' := by
  obtain ⟨Z, Lt, g, st, s, h⟩ := h
  exact ⟨Z, Lt, g, st, s, h.imp fun d g1 st1 H1 s1 t1 k1 v r => i _ _ (k1 g1 H1 s1 (GT.refl _ _) v r)⟩
theorem dmeth {o : Expr} {m : Str} {n kk : Nat} {ms : List (Nat × Fn)} {args : E (List FV)} {pl : Sem Bool} (am : AllM Γ X kk m n ms) (hK : X.K = Γ.K) (nf : NoFld Γ m) (tk : Takes X W) (hr : Room kk X.A) (x : PD Γ W X o f) (ha : PArgs Γ W X (e :: es) args)
    (hst : starEach (e :: es) X.env = (false, eval e X.env) :: starEach es X.env := by rfl) (hpl : (backTo pos (starEach es X.env)).any (·.1) = false := by rfl)
    (ht : eval (.Call (.Attribute o m apos) (e :: es) [] pos) X.env = (do
      let ov ← eval o X.env
      standAt apos.atName
      let (f, first) ← holding [ov] (getMethod ov m pl)
      callWith pos f first (backTo pos (starEach (e :: es) X.env)) (backToKw pos (keywordEach [] X.env))) := by rfl) :
    PD Γ W X (.Call (.Attribute o m apos) (e :: es) [] pos) (eMeth n ms f args) := ⟨(pe_methV tk x.pe hr ha.pa hst hpl ht).csq fun σ H Q h => meth_T hK nf am h⟩
theorem dmeth0 {o : Expr} {m : Str} {n kk : Nat} {ms : List (Nat × Fn)} {pl : Sem Bool} (am : AllM Γ X kk m n ms) (hK : X.K = Γ.K) (nf : NoFld Γ m) (tk : Takes X W) (hr : Room kk X.A) (x : PD Γ W X o f)
    (ht : eval (.Call (.Attribute o m apos) [] [] pos) X.env = (do
      let ov ← eval o X.env
      standAt apos.atName
      let (f, first) ← holding [ov] (getMethod ov m pl)
      callWith pos f first (backTo pos (starEach [] X.env)) (backToKw pos (keywordEach [] X.env))) := by rfl) :
    PD Γ W X (.Call (.Attribute o m apos) [] [] pos) (eMeth n ms f aNil) := ⟨(pe_methV0 tk x.pe hr ht).csq fun σ H Q h => args0_T (meth_T hK nf am h) T.mono⟩
theorem fmeth {o : Expr} {m : Str} {n kk : Nat} {ms : List (Nat × Fn)} {args : E (List FV)} {pl : Sem Bool} (am : AllM Γ X kk m n ms) (hK : X.K = Γ.K) (nf : NoFld Γ m) (tk : Takes X W) (hr : Room kk X.A) (x : PD Γ W X o f) (ha : PArgs Γ W X (e :: es) args)
    (hst : starEach (e :: es) X.env = (false, eval e X.env) :: starEach es X.env := by rfl) (hpl : (backTo pos (starEach es X.env)).any (·.1) = false := by rfl)
    (ht : eval (.Call (.Attribute o m apos) (e :: es) [] pos) X.env = (do
      let ov ← eval o X.env
      standAt apos.atName
      let (f, first) ← holding [ov] (getMethod ov m pl)
      callWith pos f first (backTo pos (starEach (e :: es) X.env)) (backToKw pos (keywordEach [] X.env))) := by rfl) :
    PF Γ W X (.Call (.Attribute o m apos) (e :: es) [] pos) (eMethF n ms f args) := ⟨(pe_methV tk x.pe hr ha.pa hst hpl ht).csq fun σ H Q h => methF_T hK nf am h⟩
theorem fmeth0 {o : Expr} {m : Str} {n kk : Nat} {ms : List (Nat × Fn)} {pl : Sem Bool} (am : AllM Γ X kk m n ms) (hK : X.K = Γ.K) (nf : NoFld Γ m) (tk : Takes X W) (hr : Room kk X.A) (x : PD Γ W X o f)
    (ht : eval (.Call (.Attribute o m apos) [] [] pos) X.env = (do
      let ov ← eval o X.env
      standAt apos.atName
      let (f, first) ← holding [ov] (getMethod ov m pl)
      callWith pos f first (backTo pos (starEach [] X.env)) (backToKw pos (keywordEach [] X.env))) := by rfl) :
    PF Γ W X (.Call (.Attribute o m apos) [] [] pos) (eMethF n ms f aNil) := ⟨(pe_methV0 tk x.pe hr ht).csq fun σ H Q h => args0_T (methF_T hK nf am h) T.mono⟩

/-! ### an instance is made -/
structure CDef (Γ : Tab) (P : Program) (w : World) (mg : Str → Option Value) (base : Heap) (kk : Nat) (x : Str) (c n : Nat) (F : Fn) : Prop where
  ex : ∃ (C f : Addr) (fd : FuncData) (ps : List Str), Γ.cls c = some C ∧ mg x = some (.ref C) ∧ Cls Γ.K C ∧ Mk Γ.K C f ∧ FnOk P w Γ.K mg base (L2.CX P w) kk f fd ps (spF Γ n F) ∧ Binds Γ.K fd ps []
theorem run_makeS {pins : List (Addr × Obj)} {s : Shared} {Q : VK} {us : List Value} {vs : List V} {k : Nat} {C f : Addr} {fd : FuncData} {ps : List Str} {sp : Sp} {E : XK} (M : Mk X.K C f) (F : FnOk X.prog X.w X.K X.mg X.base (L2.CX X.prog X.w) k f fd ps sp) (hr : Room (k + 1) X.A) (hb : Binds X.K fd ps [])
    (hx : PassesAt (L2.CX X.prog X.w) X σ E) (I : Inv X pins σ H s) (r : Vals vs us)
    (h : ∀ x dx, H x = none → H dx = none → dx ≠ x → sp (.ref x :: vs) (upd (upd H dx (.own x)) x (.ins C dx [])) (fun v H2 => v = .non ∧ Q (.ref x) H2) E) :
    wpAny (model X.prog X.w) X.A (call (.ref C) us) (EP X pins σ Q) X.xe s := by
  have hq := h (s.heap.objs.size + 1) s.heap.objs.size (I.hok.fresh (Nat.le_succ _)) (I.hok.fresh (Nat.le_refl _)) (Nat.ne_of_lt (Nat.lt_succ_self _))
  have I2 := Inv.made (C := C) I
  have r2 : Vals (V.ref (s.heap.objs.size + 1) :: vs) (Value.ref (s.heap.objs.size + 1) :: us) := .cons rfl r
  have hl : (Value.ref (s.heap.objs.size + 1) :: us).length = ps.length := by
    have e := r2.length
    rw [F.len _ _ _ _ hq] at e
    exact e.symm
  have b := hb { s with heap := (s.heap.push PySem.W.emptyDict).push (PySem.W.instObj C s.heap.objs.size) } (Value.ref (s.heap.objs.size + 1) :: us) I2.kIn (by rw [List.append_nil]; exact hl)
  rw [List.append_nil] at b
  refine wpAny_call (make_map (f := f) I.kIn M.makes M.init (beq_iff_eq.mp M.fn) (codeAny_mono (F.run _ X.stack _ _ ⟨Value.ref (s.heap.objs.size + 1) :: us, []⟩ (Value.ref (s.heap.objs.size + 1) :: us) _ _ E (hr.make C us [])
    (I2.env0.make C us []) b r2 hq) fun r s' hq' => ?_))
  cases r with
  | error e => exact hx pins _ _ e s' I2 hq'
  | ok fl =>
    cases fl with
    | ret u =>
      obtain ⟨v, H', I3, rv, ev, q3⟩ := I2.after hq'
      subst ev
      exact ⟨rv, ⟨V.ref (s.heap.objs.size + 1), H', I3, rfl, q3⟩⟩
    | next => exact False.elim hq'
    | brk => exact False.elim hq'
    | cont => exact False.elim hq'
/-- a new instance is there -/
theorem SR.made {C x dx : Addr} {c : Nat} (s : SR Γ Z Lt g st σ H) (hC : Γ.cls c = some C) (cl : Cls Γ.K C) (nx : H x = none) (nd : H dx = none) (ne : dx ≠ x) :
    ∃ g', SR Γ Z Lt g' { st with h := st.h ++ [.ins c []] } σ (upd (upd H dx (.own x)) x (.ins C dx [])) ∧ GT Z g g' ∧ g'.M[st.h.length]? = some x := by
  have qx := s.sh.new nx
  have qd := s.sh.new nd
  have kh : ∀ {b u}, H b = some u → upd (upd H dx (.own x)) x (.ins C dx []) b = some u := fun {b u} e => by rw [upd_ne (ne_of_none e nx), upd_ne (ne_of_none e nd)]; exact e
  let g' : GM := { G := g.G, M := g.M ++ [x], O := fun b => if b = x then none else g.O b }
  have ox : ∀ {b}, b ≠ x → g'.O b = g.O b := fun {b} hb => if_neg hb
  have gt : GT Z g g' := ⟨GLe.refl _, ⟨[x], rfl⟩, fun b u z => ox (ne_of_none z qx.2.2), fun _ _ _ h => h⟩
  have kp : Kp Z g g' H (upd (upd H dx (.own x)) x (.ins C dx [])) fun _ => True := ⟨gt, fun b p u _ k1 k2 k3 k4 k5 => by
    have hb : b ≠ x := ne_of_none k5 nx
    exact ⟨k1, by rw [ox hb]; exact k3, fun m => (List.mem_append.mp m).elim k4 fun m => hb (by simpa using m), kh k5⟩⟩
  refine ⟨g', ⟨⟨fun b u e => kh (s.sh.gh b u e), fun b u e => kh (s.sh.zh b u e), s.sh.gz, by simp [g', s.sh.ml], ?_, fun b m => ?_, fun r lo b e1 e2 => ?_, s.sh.nd, s.sh.lz⟩, s.sl, fun j y e => ?_⟩, gt, ?_⟩
  · refine List.nodup_append.mpr ⟨s.sh.mn, by simp, fun b hb c hc => ?_⟩
    simp only [List.mem_singleton] at hc
    subst hc
    exact fun z => qx.1 (by rw [← z]; exact hb)
  · rcases List.mem_append.mp m with m | m
    · have hb : b ≠ x := fun z => qx.1 (by rw [← z]; exact m)
      exact ⟨(s.sh.mf b m).1, (s.sh.mf b m).2.1, by rw [ox hb]; exact (s.sh.mf b m).2.2⟩
    · simp only [List.mem_singleton] at m
      subst m
      exact ⟨qx.2.1, fun o e => (by rw [qx.2.2] at e; cases e), if_pos rfl⟩
  · by_cases hr : r < st.h.length
    · rw [List.getElem?_append_left hr] at e1
      have e2' : g.M[r]? = some b := by
        have : (g.M ++ [x])[r]? = some b := e2
        rwa [List.getElem?_append_left (by rw [s.sh.ml]; exact hr)] at this
      exact (s.sh.ob r lo b e1 e2').keep kp (fun _ => trivial) (fun u e => kh e)
    · have hr' : r = st.h.length := by
        have := (List.getElem?_eq_some_iff.mp e1).1
        simp at this; omega
      subst hr'
      rw [List.getElem?_append_right (Nat.le_refl _), Nat.sub_self] at e1
      cases e1
      have : (g.M ++ [x])[st.h.length]? = some b := e2
      rw [List.getElem?_append_right (by rw [s.sh.ml]; exact Nat.le_refl _), s.sh.ml, Nat.sub_self] at this
      cases this
      exact ⟨C, dx, [], hC, cl, upd_same, rfl⟩
  · obtain ⟨w, e1, f⟩ := s.sv j y e
    exact ⟨w, e1, f.keep kp trivial⟩
  · show (g.M ++ [x])[st.h.length]? = some x
    rw [List.getElem?_append_right (by rw [s.sh.ml]; exact Nat.le_refl _), s.sh.ml, Nat.sub_self]; rfl
def outN (r : Nat) (st : LS) : FRes → Res D
  | .ret (.val .non) h' => .ok (.obj r) { st with h := h' }
  | .exc x h' => .exc x { st with h := h' }
  | _ => .bad
def eMake (n c : Nat) (F : Fn) (args : E (List FV)) : E D := fun st => (args st).bind fun fs s1 => if fs.length + 1 = n then outN s1.h.length s1 (F (.val (.obj s1.h.length) :: fs) (s1.h ++ [.ins c []])) else .bad
def tMakeS (C : Addr) (sp : Sp) (W : WX) (t : TA) : TE := fun σ H Q => t σ H fun vs H1 => ∀ x dx, H1 x = none → H1 dx = none → dx ≠ x → sp (.ref x :: vs) (upd (upd H1 dx (.own x)) x (.ins C dx [])) (fun v H2 => v = .non ∧ Q (.ref x) H2) (WE W σ)
theorem make_sp {n c : Nat} {F : Fn} {C x dx : Addr} {fs : List FV} {vs : List V} {Q : VK} (s : SR Γ Z Lt g st σ H) (hC : Γ.cls c = some C) (cl : Cls Γ.K C) (nx : H x = none) (nd : H dx = none) (ne : dx ≠ x) (r : ARs Γ Z g fs vs) (hn : fs.length + 1 = n)
    (h : Go Γ W Z Lt σ (outN st.h.length st (F (.val (.obj st.h.length) :: fs) (st.h ++ [.ins c []]))) g fun d g' _ H' => ∀ v, RD Γ g' d v → Q v H') :
    spF Γ n F (.ref x :: vs) (upd (upd H dx (.own x)) x (.ins C dx [])) (fun v H2 => v = .non ∧ Q (.ref x) H2) (WE W σ) := by
  obtain ⟨g1, s1, t1, hx⟩ := s.made hC cl nx nd ne
  have rx : AR Γ Z g1 (.val (.obj st.h.length)) (.ref x) := by show RD Γ g1 (.obj st.h.length) (.ref x); simp only [RD]; exact ⟨x, rfl, hx⟩
  have r1 : ARs Γ Z g1 (.val (.obj st.h.length) :: fs) (.ref x :: vs) := ARs.cons rx (r.up t1)
  refine ⟨_, _, g1, _, _, s1.callee _ _ r1, r1.z, by simpa using hn, fun i => rfl, ?_⟩
  revert h
  cases eF : F (.val (.obj st.h.length) :: fs) (st.h ++ [.ins c []]) with
  | ret y h' =>
    intro h v g' H' s' t fv
    simp only [eF] at *
    obtain ⟨s2, t2⟩ := SH.back s1 s' t
    cases y with
    | val d =>
      cases d with
      | non =>
        have ev : v = .non := by have fv : RD Γ g' .non v := fv; simpa only [RD] using fv
        refine ⟨ev, h g' H' s2 (t1.trans t2) _ ?_⟩
        simp only [RD]
        obtain ⟨tt, et⟩ := t2.mp
        refine ⟨x, rfl, ?_⟩
        rw [et, List.getElem?_append_left (List.getElem?_eq_some_iff.mp hx).1]
        exact hx
      | _ => exact h.elim
    | _ => exact h.elim
  | exc y h' =>
    intro h cls dd g' H' s' t xr
    obtain ⟨s2, t2⟩ := SH.back s1 s' t
    exact h cls dd g' H' s2 (t1.trans t2) xr
  | bad => exact fun h => h
theorem dmake {x : Str} {n c kk : Nat} {F : Fn} {args : E (List FV)} (cd : CDef Γ X.prog X.w X.mg X.base kk x c n F) (hK : X.K = Γ.K) (tk : Takes X W) (hr : Room (kk + 1) X.A) (ha : PArgs Γ W X (e :: es) args) (hg : Gl X x := by rfl)
    (hdb : (x == ("__debug__" : Str)) = false := by decide) (he : starEach (e :: es) X.env = (false, eval e X.env) :: starEach es X.env := by rfl) (hpl : (backTo pos (starEach es X.env)).any (·.1) = false := by rfl) :
    PD Γ W X (.Call (.Name x ppos) (e :: es) [] pos) (eMake n c F args) := by
  obtain ⟨C, f, fd, ps, hC, hm, cl, M, Fo, hb⟩ := cd.ex
  rw [← hK] at M Fo hb
  have key : PE X (.Call (.Name x ppos) (e :: es) [] pos) (tMakeS C (spF Γ n F) W (TGs Γ W args)) := ⟨fun pins s σ H Q I h =>
    wpAny_Call_Name_kw (ld_glob I hg hm (PySem.W.callWith_K (h₀ := X.base) I.ok.mod.kin M.kp (thn (ha.pa.run pos pins s σ H _ I h) fun us s1 ⟨vs, H1, I1, r, q⟩ => ⟨I1.kIn, run_makeS M Fo hr hb (passAt tk σ) I1 r q⟩) he hpl) hdb)⟩
  refine ⟨key.csq fun σ H Q ⟨Z, Lt, g, st, s, h⟩ => ⟨Z, Lt, g, st, s, h.bind.imp fun fs g1 st1 H1 s1 t1 k1 vs rs x dx nx nd ne => ?_⟩⟩
  have k2 := k1 g1 H1 s1 (GT.refl _ _)
  split at k2
  · exact make_sp s1 hC cl nx nd ne rs ‹_› k2
  · exact k2.elim
theorem dmake0 {x : Str} {n c kk : Nat} {F : Fn} (cd : CDef Γ X.prog X.w X.mg X.base kk x c n F) (hK : X.K = Γ.K) (tk : Takes X W) (hr : Room (kk + 1) X.A) (hg : Gl X x := by rfl)
    (hdb : (x == ("__debug__" : Str)) = false := by decide) : PD Γ W X (.Call (.Name x ppos) [] [] pos) (eMake n c F aNil) := by
  obtain ⟨C, f, fd, ps, hC, hm, cl, M, Fo, hb⟩ := cd.ex
  rw [← hK] at M Fo hb
  have key : PE X (.Call (.Name x ppos) [] [] pos) (tMakeS C (spF Γ n F) W tNil) := ⟨fun pins s σ H Q I h =>
    wpAny_Call_Name_kw (ld_glob I hg hm (PySem.W.callWith_K0 I.kIn M.kp (run_makeS (us := []) M Fo hr hb (passAt tk σ) I .nil h)) hdb)⟩
  refine ⟨key.csq fun σ H Q ⟨Z, Lt, g, st, s, h⟩ x dx nx nd ne => ?_⟩
  have k2 := h.bind
  unfold aNil at k2
  have k3 := k2 g H s (GT.refl _ _)
  dsimp only at k3
  split at k3
  · exact make_sp s hC cl nx nd ne (fs := []) (vs := []) rfl ‹_› k3
  · exact k3.elim

/-! ### raise X('..'), X a class of the text over ValueError -/
structure EDef (Γ : Tab) (mg : Str → Option Value) (x : Str) (c : Nat) : Prop where
  ex : ∃ C : Addr, Γ.cls c = some C ∧ mg x = some (.ref C) ∧ PySem.W.keepIn Γ.K (.ref C) = true ∧ PySem.W.excIn Γ.K C [.type "ValueError", .type "Exception", .type "BaseException", .type "object"] "ValueError.__new__" = true ∧ PySem.W.subIn Γ.K (.ref C) (.type "BaseException") = some true ∧ PySem.W.typeIn Γ.K (.ref C) = some (.type "type")
def sRaise (c : Nat) : S := fun st => .exc ⟨c, none⟩ st
theorem st_raise {x m : Str} {c j : Nat} (ed : EDef Γ X.mg x c) (hK : X.K = Γ.K) (hc : X.calm = true) (tk : Takes X W) (hg : Gl X x := by rfl) (hdb : (x == ("__debug__" : Str)) = false := by decide) :
    PSt Γ W X (.Raise (some (.Call (.Name x ppos) [.Constant (.str m) j pos2] [] apos)) none pos) (sRaise c) := by
  obtain ⟨C, hC, gC, kC, xC, b1, t1⟩ := ed.ex
  rw [← hK] at kC xC b1 t1
  exact ⟨(ps_raise hc tk (pmk_own PySem.F.excBase_ValueError xC gC kC (raises_own b1 t1) hg hdb)).csq fun D σ H ⟨Z, Lt, g, st, s, h⟩ => h (.ref C) none σ g H s (GT.refl _ _) ⟨C, hC, rfl, rfl⟩⟩
end
end PL

/-! PyLite, part s: list(reversed(xs)), list(xs), loops over reversed, enumerated, zipped lists. -/
namespace PLR
open PySem PySem.Spec PyProof.Rows L2
section
variable {prog : Program} {w : World} {A : Around} {E : Value → Shared → Prop} {s : Shared}
theorem extend_revL {R : Result → Shared → Prop} {it l S : Addr} {items : Array Value} {res : Value} {c₀ : Nat} (hh : A.handled = none) (hit : s.heap.IsRevIter it l ((items.size : Int) - 1)) (hl : s.heap.IsList l items) (hne : l ≠ it) (hSf : S ∉ [it, l]) (hn : items.size ≤ sizeLine)
    (hS : s.heap.get? S = some { cls := .type "list", data := .seq #[] c₀ })
    (hR : ∀ s' acc' c', Moved (S :: [it]) (fun a b => b = a) s s' → s'.heap.get? S = some { cls := .type "list", dict := none, data := .seq acc' c', slots := #[] } → ItemsOf (fun i v => items[items.size - 1 - i]? = some v) acc' items.size → R (.ok (.ret res)) s') :
    wpAny (model prog w) A.in1 (Builtin.List.listExtendWith (.ref S) (.ref it) res)
      (fun fin s' => match fin with | .done f => R (.ok f) s' | .again c' => c'.quiet = true ∧ codeAny (model prog w) A c' R s') (fun e s' => R (.error e) s') s := by
  have W := (Walks.listRev (prog := prog) (w := w) (A := A.in1) hh it l hne items).toS
  have hSi : S ≠ it := fun e => hSf (by rw [e]; simp)
  have hT : s.TypeIs (.ref it) "list_reverseiterator" := hit.typeIs
  have h1 : Builtin.List.listSameRef (.ref S) (.ref it) = false := by simp [Builtin.List.listSameRef, hSi]
  unfold Builtin.List.listExtendWith
  refine wpAny_bind (wpAny_typeOf hT ?_)
  rw [if_neg (by rw [h1]; decide)]
  refine wpAny_bind (wpAny_pyIter_revIter hit ?_)
  refine wpAny_bind (wpAny_holding ?_)
  unfold Builtin.List.listLengthHint
  refine wpAny_bind (wpAny_specialOf hT RT.nolen_lri ?_)
  show wpAny _ A.in1 (specialOf (Value.ref it) (Str.ofString "__length_hint__") >>= _) _ _ _
  refine wpAny_bind (wpAny_specialOf hT RT.hint_lri ?_)
  generalize hid : ("list_reverseiterator.__length_hint__" : String) = id0
  wp_delta
  rw [show splitId id0 = some ("list_reverseiterator", "__length_hint__") from by subst hid; decide +kernel]
  subst hid
  refine wpAny_bind (wpAny_isInstance (b := true) hT (by rw [isSubtype_type]; kernel_rfl) ?_)
  refine wpAny_pure ?_
  rw [if_neg (by decide)]
  have e0 : ((items.size : Nat) : Int) - 1 - ((0 : Nat) : Int) = (items.size : Int) - 1 := by omega
  exact wpAny_pure ⟨plainId_quiet F.plain_extend_loop _, codeAny_extend_loopS W hn _ hSf _ items.size 0 _ _ _ rfl (Nat.zero_le _) ⟨Nat.zero_le _, by rw [e0]; exact hit, hl⟩ hS (ItemsOf.nil _) fun s' acc' c' hm hS' hacc => hR s' acc' c' hm hS' hacc⟩
theorem call_listRev {it l : Addr} {items : Array Value} {Q : Value → Shared → Prop} (hh : A.handled = none) (hit : s.heap.IsRevIter it l ((items.size : Int) - 1)) (hl : s.heap.IsList l items) (hne : l ≠ it) (hn : items.size ≤ sizeLine)
    (hQ : ∀ (h' : Heap) (tk : Nat) (acc : Array Value) (c : Nat), (∀ b o, b ≠ it → s.heap.get? b = some o → h'.get? b = some o) → h'.get? s.heap.objs.size = some { cls := .type "list", dict := none, data := .seq acc c, slots := #[] } → ItemsOf (fun i v => items[items.size - 1 - i]? = some v) acc items.size →
      Q (.ref s.heap.objs.size) { s with heap := h', toks := tk }) :
    wpAny (model prog w) A (call (.type "list") [.ref it]) Q E s := by
  obtain ⟨oi, hoi, _⟩ := id hit
  obtain ⟨ol, hol, _⟩ := id hl
  have hSi : s.heap.objs.size ≠ it := Nat.ne_of_gt (Heap.lt_size hoi)
  have hSl : s.heap.objs.size ≠ l := Nat.ne_of_gt (Heap.lt_size hol)
  have hSf : s.heap.objs.size ∉ [it, l] := by simp only [List.mem_cons, List.not_mem_nil, or_false, not_or]; exact ⟨hSi, hSl⟩
  refine callType_codes (Q₁ := fun obj s₁ => obj = .ref s.heap.objs.size ∧ s₁ = { s with heap := s.heap.push { cls := .type "list", data := .seq #[] } }) F.called_list (F.typeCall_list_1 _) F.entry_list_init
    (code_list_new _ ⟨rfl, rfl⟩) fun obj s₁ h₁ => ?_
  obtain ⟨rfl, rfl⟩ := h₁
  have hS : (s.heap.push { cls := .type "list", data := .seq #[] }).get? s.heap.objs.size = some { cls := .type "list", data := .seq #[] } := Heap.get?_push_size _ rfl
  refine ⟨⟨_, hS, rfl⟩, F.args_list_init_2 _ _, ?_⟩
  show wpAny _ A.in1.in1 (do let old ← Builtin.List.listItems (.ref s.heap.objs.size); Builtin.List.listUpdate (.ref s.heap.objs.size) (fun _ => #[]); letGo old.toList.reverse; Builtin.List.listExtendWith (.ref s.heap.objs.size) (.ref it) .none) _ _ _
  refine wpAny_bind ?_
  unfold Builtin.List.listItems
  refine wpAny_bind (wpAny_seqItems hS rfl (wpAny_pure ?_))
  show wpAny _ A.in1.in1 (updateSeq s.heap.objs.size (fun _ => #[]) >>= fun _ => letGo (#[] : Array Value).toList.reverse >>= fun _ => Builtin.List.listExtendWith (.ref s.heap.objs.size) (.ref it) .none) _ _ _
  refine wpAny_bind (wpAny_updateSeq hS rfl ?_)
  have hS₂ := Heap.get?_update_self (Obj.mapSeq (fun _ => (#[] : Array Value))) hS rfl
  have oth : ∀ b o, b ≠ s.heap.objs.size → s.heap.get? b = some o → ((s.heap.push { cls := .type "list", data := .seq #[] }).update s.heap.objs.size (Obj.mapSeq (fun _ => (#[] : Array Value)))).get? b = some o :=
    fun b o hb e => (Heap.get?_update_other _ _ (Ne.symm hb)).trans (Heap.get?_push_of_some _ e)
  refine wpAny_bind (wpAny_letGo ?_)
  have hit2 : ((s.heap.push { cls := .type "list", data := .seq #[] }).update s.heap.objs.size (Obj.mapSeq (fun _ => (#[] : Array Value)))).IsRevIter it l ((items.size : Int) - 1) := hit.at fun o e => oth it o (Ne.symm hSi) e
  have hl2 : ((s.heap.push { cls := .type "list", data := .seq #[] }).update s.heap.objs.size (Obj.mapSeq (fun _ => (#[] : Array Value)))).IsList l items := hl.at fun o e => oth l o (Ne.symm hSl) e
  refine extend_revL (A := A.in1) hh hit2 hl2 hne hSf hn hS₂ fun s' acc' c' hm hS' hacc => ?_
  refine ⟨rfl, ?_⟩
  rw [Moved.eq_with hm] at hS' ⊢
  refine hQ s'.heap s'.toks acc' c' (fun b o hb e => hm.heap b o (fun hmem => ?_) (oth b o (fun z => ?_) e)) hS' hacc
  · rcases List.mem_cons.mp hmem with e' | hmem
    · exact absurd (Heap.lt_size e) (by rw [e']; exact Nat.lt_irrefl _)
    · exact hb (List.mem_singleton.mp hmem)
  · exact absurd (Heap.lt_size e) (by rw [z]; exact Nat.lt_irrefl _)
end
def tListRev (K : PySem.W.Frag) (te : TE) : TE := fun σ H Q => te σ H fun v H1 => ∃ (a : Addr) (xs : List V), v = .ref a ∧ SqL K H1 a xs ∧ ∀ q, H1 q = none → Q (.ref q) (upd H1 q (.lst xs.reverse))
section
variable {X : Cx}
theorem pe_listRev {e : Expr} {te : TE} {p p2 pos pos2 : Pos} (hc : X.calm = true) (hg : Gl X "list") (hm : X.mg "list" = none) (hg2 : Gl X "reversed") (hm2 : X.mg "reversed" = none) (he : PE X e te)
    (hs : starEach [e] X.env = (false, eval e X.env) :: starEach [] X.env := by rfl)
    (hs2 : starEach [.Call (.Name "reversed" p2) [e] [] pos2] X.env = (false, eval (.Call (.Name "reversed" p2) [e] [] pos2) X.env) :: starEach [] X.env := by rfl) :
    PE X (.Call (.Name "list" p) [.Call (.Name "reversed" p2) [e] [] pos2] [] pos) (tListRev X.K te) := by
  refine ⟨fun pins s σ H Q I h => ?_⟩
  refine Call_ (ld_blt I hg hm PyProof.Rows.boot_list (PyProof.Rows.callWith_type1 (args_cons (Call_ (ld_blt I hg2 hm2 PyProof.Rows.boot_reversed (PyProof.Rows.callWith_type1 (args_cons (thn (he.run pins s σ H _ I h) fun u s1 ⟨v, H1, I1, r1, q1⟩ => args_nil ?_) hs) hs rfl))) hs2) hs2 rfl))
  obtain ⟨a, xs, ev, hq, q⟩ := q1
  subst ev
  obtain rfl : u = Value.ref a := r1
  obtain ⟨its, rv, p', hz⟩ := I1.list hq
  refine call_reversed_list p'.isList (args_nil ?_)
  have k0 : ∀ b o, s1.heap.get? b = some o → (s1.heap.push (revObj a ((its.toArray.size : Int) - 1))).get? b = some o := fun b o e => Heap.get?_push_of_some _ e
  have I2 : Inv X pins σ H1 { s1 with heap := s1.heap.push (revObj a ((its.toArray.size : Int) - 1)) } := I1.kept (t' := s1.toks) k0
  obtain ⟨f0, f1, f2, f3, f4, f5⟩ := I1.fpOk (H' := H1) (b := s1.heap.objs.size) (Nat.le_refl _) (I1.hok.fresh (Nat.le_refl _))
  have hl := p'.isList
  obtain ⟨ol, hol, _⟩ := id hl
  have hne : a ≠ s1.heap.objs.size := Nat.ne_of_lt (Heap.lt_size hol)
  have hn : its.toArray.size ≤ sizeLine := by rw [List.size_toArray, ← rv.length]; exact hz
  refine call_listRev (s := { s1 with heap := s1.heap.push (revObj a ((its.toArray.size : Int) - 1)) }) (I1.ok.hd hc) ⟨_, Heap.get?_push_size _ rfl, rfl, rfl⟩ (hl.push _) hne hn fun h' tk acc c hk hS hi => ?_
  have hsz : (s1.heap.push (revObj a ((its.toArray.size : Int) - 1))).objs.size = s1.heap.objs.size + 1 := Heap.size_push _ _
  have hSn : H1 (s1.heap.push (revObj a ((its.toArray.size : Int) - 1))).objs.size = none := I2.hok.fresh (Nat.le_refl _)
  have I3 : Inv X pins σ (upd H1 (s1.heap.push (revObj a ((its.toArray.size : Int) - 1))).objs.size (.lst xs.reverse)) { s1 with heap := (s1.heap.push (revObj a ((its.toArray.size : Int) - 1))).push { cls := .type "list", dict := none, data := .seq acc c, slots := #[] } } :=
    I2.laid (t' := s1.toks) (fun b o e => Heap.get?_push_of_some _ e) (Nat.le_refl _) (show ObjOk X.prog X.w _ _ _ (.lst xs.reverse) from ⟨by rw [List.length_reverse]; exact hz, acc.toList, c, RT.vals_rev rv hi, by rw [Array.toArray_toList]; exact Heap.get?_push_size _ rfl⟩)
  have nS : s1.heap.objs.size ≠ (s1.heap.push (revObj a ((its.toArray.size : Int) - 1))).objs.size := by rw [hsz]; omega
  have I4 := I3.turned (it := s1.heap.objs.size) (t' := tk) (h' := h') (fun b o hb e => by
    rcases Heap.get?_push_cases e with ⟨e1, e2⟩ | e1
    · subst e1 e2
      exact hS
    · exact hk b o hb e1) (by rw [upd_ne nS]; exact f0) f1 f3 f4 f5
  exact ⟨.ref _, _, I4, rfl, q _ hSn⟩
end
end PLR
namespace PL
open PySem PySem.Spec PyProof.Rows L2
section
variable {Γ : Tab} {W : WX} {Z : Hp} {Lt : Lend} {g g' : GM} {st st' : LS} {σ σ' : L2.St} {H H' : Hp} {h h' : List LO} {a p : Addr} {o : HO} {d : D} {v : V} {X : Cx} {e e1 e2 e3 : Expr} {es : List Expr} {f k l : E D} {pos pos2 ppos apos : Pos} {stm : Stmt} {sts : List Stmt} {f1 f2 : S} {D0 : Ends}
theorem RDs.reverse : ∀ {ds : List D} {vs : List V}, RDs Γ g ds vs → RDs Γ g ds.reverse vs.reverse
  | [], _, r => by simp only [RDs] at r; subst r; exact RDs.nil
  | d :: ds, _, r => by
    simp only [RDs] at r
    obtain ⟨w, q, rfl, r1, r2⟩ := r
    rw [List.reverse_cons, List.reverse_cons]
    exact r2.reverse.append (RDs.cons r1 RDs.nil)
/-- list(reversed(xs)) -/
def mRev : Sem1 := fun x st => match x with
  | .lst ds => .ok (.lst ds.reverse) st
  | _ => .bad
theorem pf_listRev (hK : X.K = Γ.K) (hc : X.calm = true) (hg : Gl X "list") (hm : X.mg "list" = none) (hg2 : Gl X "reversed") (hm2 : X.mg "reversed" = none) (y : PC Γ W X e f) (hs : starEach [e] X.env = (false, eval e X.env) :: starEach [] X.env := by rfl)
    (hs2 : starEach [.Call (.Name "reversed" ppos) [e] [] pos2] X.env = (false, eval (.Call (.Name "reversed" ppos) [e] [] pos2) X.env) :: starEach [] X.env := by rfl) : PF Γ W X (.Call (.Name "list" apos) [.Call (.Name "reversed" ppos) [e] [] pos2] [] pos) (eUn mRev f) := by
  refine ⟨(PLR.pe_listRev hc hg hm hg2 hm2 y.pe hs hs2).csq fun σ H Q h => oneF (X := X) (r := fun v H Q => ∃ (a : Addr) (xs : List V), v = .ref a ∧ SqL X.K H a xs ∧ ∀ q, H q = none → Q (.ref q) (upd H q (.lst xs.reverse))) (fun Z Lt g st σ H x v Q s rx h => ?_) h⟩
  unfold mRev at h
  split at h
  · obtain ⟨a, vs, rfl, q, r⟩ := rx.lst s
    exact ⟨a, vs, rfl, by rw [hK]; exact q, retF s r.reverse h⟩
  · exact h.elim
/-- list(xs) -/
def mList : Sem1 := fun x st => match x with
  | .lst ds => .ok (.lst ds) st
  | .tup ds => .ok (.lst ds) st
  | _ => .bad
theorem pf_list (hK : X.K = Γ.K) (hg : Gl X "list") (hm : X.mg "list" = none) (y : PC Γ W X e f) (he : starEach [e] X.env = (false, eval e X.env) :: starEach [] X.env := by rfl) (hpl : (backTo pos (starEach [] X.env)).any (·.1) = false := by rfl) :
    PF Γ W X (.Call (.Name "list" ppos) [e] [] pos) (eUn mList f) := by
  refine ⟨(pe_callTy call_list_of hg hm PyProof.Rows.boot_list (pa_cons y.pe pa_nil he) (by decide) (by decide) he hpl).csq fun σ H Q h => oneF (X := X) (r := fun v H Q => ∃ p ys, [v] = [V.ref p] ∧ (SqL X.K H p ys ∨ SqT X.K H p ys) ∧ ∀ l, H l = none → Q (.ref l) (upd H l (.lst ys))) (fun Z Lt g st σ H x v Q s rx h => ?_) h⟩
  unfold mList at h
  split at h
  · obtain ⟨a, vs, rfl, q, r⟩ := rx.lst s
    exact ⟨a, vs, rfl, .inl (by rw [hK]; exact q), retF s r h⟩
  · obtain ⟨a, vs, rfl, q, r⟩ := rx.tup s
    exact ⟨a, vs, rfl, .inr (by rw [hK]; exact q), retF s r h⟩
  · exact h.elim
/-- for x in reversed(xs) -/
def iRvs (f : E D) : E (List D) := fun st => (f st).bind fun d s1 => match d with
  | .lst ds => .ok ds.reverse s1
  | _ => .bad
theorem it_rev {target : Expr} (hK : X.K = Γ.K) (hg : Gl X "reversed") (hn : X.mg "reversed" = none) (y : PV Γ W X e f) (hs : starEach [e] X.env = [(false, eval e X.env)] := by rfl) (hs2 : starEach [e] X.env = (false, eval e X.env) :: starEach [] X.env := by rfl) :
    PIt Γ W X target (.Call (.Name "reversed" ppos) [e] [] pos) (iRvs f) := by
  refine ⟨_, pi_reversed hg hn (pa_cons y.pe pa_nil hs2) hs, fun σ H R ⟨Z, Lt, g, st, s, h⟩ => ⟨Z, Lt, g, st, s, (Go.bind h).imp fun d g1 st1 H1 s1 t1 k1 v r => ?_⟩⟩
  have k2 := k1 g1 H1 s1 (GT.refl _ _)
  cases d with
  | lst ds =>
    obtain ⟨a, vs, rfl, rs, sq⟩ := r.seqL
    refine ⟨a, vs, rfl, by rw [hK]; exact sq Lt g1 st1 σ H1 s1 (GT.refl _ _), ?_⟩
    refine k2 g1 H1 s1 (GT.refl _ _) s1 _ (fun i H g st σ hi s t => ?_) (fun H g st σ s t => by rw [List.length_reverse, rs.length]; exact Nat.le_refl _)
    rw [List.length_reverse] at hi
    have hj : ds.length - 1 - i < ds.length := by omega
    obtain ⟨d, ed⟩ : ∃ d, ds[ds.length - 1 - i]? = some d := ⟨ds[ds.length - 1 - i], List.getElem?_eq_getElem hj⟩
    obtain ⟨w, ew, rw'⟩ := rs.get ed
    have sq' : SqL X.K H a vs := by rw [hK]; exact sq Lt g st σ H s t
    have el := rs.length
    rw [el] at ew
    refine ⟨⟨by omega, vs, w, sq', ew⟩, fun x H' ⟨e1, e2⟩ => ?_⟩
    subst e1
    have := e2 vs sq'
    rw [ew] at this; cases this
    exact ⟨g, d, by rw [List.getElem?_reverse hi]; exact ed, s, GT.refl _ _, rw'.up t, Quiet.refl _ _⟩
  | _ => exact k2.elim
/-- for x, y in zip(xs, ys) -/
def zipD : List D → List D → List D
  | x :: xs, y :: ys => .tup [x, y] :: zipD xs ys
  | _, _ => []
theorem zipD_len : ∀ (xs ys : List D), (zipD xs ys).length = min xs.length ys.length
  | [], _ => by simp [zipD]
  | _ :: _, [] => by simp [zipD]
  | x :: xs, y :: ys => by simp [zipD, zipD_len xs ys]
theorem zipD_get : ∀ (xs ys : List D) (i : Nat) (x y : D), xs[i]? = some x → ys[i]? = some y → (zipD xs ys)[i]? = some (.tup [x, y])
  | [], _, i, _, _, e, _ => by simp at e
  | _ :: _, [], i, _, _, _, e => by simp at e
  | a :: xs, b :: ys, 0, x, y, e1, e2 => by simp at e1 e2; subst e1 e2; simp [zipD]
  | a :: xs, b :: ys, i + 1, x, y, e1, e2 => by
    simp only [zipD, List.getElem?_cons_succ] at e1 e2 ⊢
    exact zipD_get xs ys i x y e1 e2
def iZp (f k : E D) : E (List D) := fun st => (f st).bind fun d s1 => (k s1).bind fun c s2 => match d, c with
  | .lst ds, .lst cs => .ok (zipD ds cs) s2
  | _, _ => .bad
theorem SV.up' (x : SV Γ Z g d v) (t : GT Z g g') : SV Γ Z g' d v := x.up t
theorem it_zip {elts : List Expr} {kk : Nat} {tpos : Pos} (hK : X.K = Γ.K) (hg : Gl X "zip") (hn : X.mg "zip" = none) (x : PV Γ W X e1 f) (y : PV Γ W X e2 k) (hs : starEach [e1, e2] X.env = (false, eval e1 X.env) :: starEach [e2] X.env := by rfl) (hs2 : starEach [e2] X.env = (false, eval e2 X.env) :: starEach [] X.env := by rfl)
    (hpl : (backTo pos (starEach [e2] X.env)).any (·.1) = false := by rfl) : PIt Γ W X (.Tuple elts kk tpos) (.Call (.Name "zip" ppos) [e1, e2] [] pos) (iZp f k) := by
  refine ⟨_, pi_zip hg hn (pa_cons x.pe (pa_cons y.pe pa_nil hs2) hs) hs hpl, fun σ H R ⟨Z, Lt, g, st, s, h⟩ => ⟨Z, Lt, g, st, s, (Go.bind h).imp fun d g1 st1 H1 s1 t1 k1 v r => ?_⟩⟩
  refine ⟨Z, Lt, g1, st1, s1, (Go.bind (k1 g1 H1 s1 (GT.refl _ _))).imp fun c g2 st2 H2 s2 t2 k2 v2 r2 => ?_⟩
  have k3 := k2 g2 H2 s2 (GT.refl _ _)
  split at k3
  · rename_i ds cs
    obtain ⟨a, vs, rfl, rs, sq⟩ := (r.up t2).seqL
    obtain ⟨b, ws, rfl, rt, sr⟩ := r2.seqL
    refine ⟨a, b, vs, ws, rfl, by rw [hK]; exact sq Lt g2 st2 σ H2 s2 (GT.refl _ _), by rw [hK]; exact sr Lt g2 st2 σ H2 s2 (GT.refl _ _), ?_⟩
    refine k3 g2 H2 s2 (GT.refl _ _) s2 _ (fun i H g st σ hi s t => ?_) (fun H g st σ s t => ⟨vs, ws, by rw [hK]; exact sq Lt g st σ H s t, by rw [hK]; exact sr Lt g st σ H s t, by rw [zipD_len, rs.length, rt.length]; omega⟩)
    rw [zipD_len] at hi
    obtain ⟨d, ed⟩ : ∃ d, ds[i]? = some d := ⟨_, List.getElem?_eq_getElem (by omega)⟩
    obtain ⟨c, ec⟩ : ∃ c, cs[i]? = some c := ⟨_, List.getElem?_eq_getElem (by omega)⟩
    obtain ⟨w, ew, rw1⟩ := rs.get ed
    obtain ⟨w2, ew2, rw2⟩ := rt.get ec
    have sq' : SqL X.K H a vs := by rw [hK]; exact sq Lt g st σ H s t
    have sr' : SqL X.K H b ws := by rw [hK]; exact sr Lt g st σ H s t
    refine ⟨⟨vs, ws, w, w2, sq', sr', ew, ew2⟩, fun x H' ⟨T, x', y', e1, e2, e3, e4, e5⟩ => ?_⟩
    subst e1 e3
    have := e4 vs sq'
    rw [ew] at this; cases this
    have := e5 ws sr'
    rw [ew2] at this; cases this
    have nn := (s.sh.new e2).2.1
    refine ⟨g.put T (.tup [w, w2]), .tup [d, c], zipD_get _ _ _ _ _ ed ec, s.new e2 _, GT.put nn, ?_, Quiet.put e2⟩
    have le : GLe g2.G (g.put T (.tup [w, w2])).G := (t.le).trans (GLe.put nn)
    have mp : ∃ u, (g.put T (.tup [w, w2])).M = g2.M ++ u := by obtain ⟨u, hu⟩ := t.mp; exact ⟨u, hu⟩
    simp only [RD]
    exact ⟨T, _, rfl, .inl (.inl put_same), RDs.cons (RD.mono le mp _ _ rw1) (RDs.cons (RD.mono le mp _ _ rw2) RDs.nil)⟩
  · exact k3.elim
@[simp] theorem mRev_l {ds : List D} : mRev (.lst ds) st = .ok (.lst ds.reverse) st := id rfl
@[simp] theorem mList_l {ds : List D} : mList (.lst ds) st = .ok (.lst ds) st := id rfl
@[simp] theorem mList_t {ds : List D} : mList (.tup ds) st = .ok (.lst ds) st := id rfl
@[simp] theorem iRvs_s : iRvs f st = (f st).bind fun d s1 => match d with
  | .lst ds => .ok ds.reverse s1
  | _ => .bad := id rfl
@[simp] theorem iZp_s : iZp f k st = (f st).bind fun d s1 => (k s1).bind fun c s2 => match d, c with
  | .lst ds, .lst cs => .ok (zipD ds cs) s2
  | _, _ => .bad := id rfl
/-! ### tests for None -/
theorem pb_isN {j pos'} (x : PC Γ W X e f) : PB Γ W X (.Compare e [.Is] [.Constant .none j pos'] pos) (tst (eUn mIsN f)) :=
  ⟨(pt_cmp (pc_isN x.pe) rfl).csq fun σ H Q h => one (X := X) (r := fun x H Q => Q (.bl (decide (x = .non))) H) (fun Z Lt g st σ H x v Q s rx h => by show Q (.bl _) H; rw [rx.isNon s]; exact ret_bl s h) (tst_T h)⟩
theorem pb_notN {j pos'} (x : PC Γ W X e f) : PB Γ W X (.Compare e [.IsNot] [.Constant .none j pos'] pos) (tst (eUn mNotN f)) :=
  ⟨(pt_cmp (pc_notN x.pe) rfl).csq fun σ H Q h => one (X := X) (r := fun x H Q => Q (.bl (!decide (x = .non))) H) (fun Z Lt g st σ H x v Q s rx h => by show Q (.bl _) H; rw [rx.isNon s]; exact ret_bl s h) (tst_T h)⟩
/-! ### fields, methods: equations -/
@[simp] theorem eFld_s (i : Nat) : eFld i f st = (f st).bind fun d s1 => match d with
  | .obj r => match s1.fld r i with
    | some (.val x) => .ok x s1
    | some (.own x) => .ok x (s1.setF r i (.val x))
    | _ => .bad
  | _ => .bad := id rfl
@[simp] theorem vFld_s (i : Nat) : vFld i f st = (f st).bind fun d s1 => match d with
  | .obj r => match s1.fld r i with
    | some (.val x) => .ok x s1
    | some (.lent x) => .ok x s1
    | _ => .bad
  | _ => .bad := id rfl
@[simp] theorem cFld_s (i : Nat) : cFld i f st = (f st).bind fun d s1 => match d with
  | .obj r => match s1.fld r i with
    | some (.val x) => .ok x s1
    | some (.own x) => .ok x s1
    | some (.lent x) => .ok x s1
    | _ => .bad
  | _ => .bad := id rfl
@[simp] theorem aF_s (i : Nat) : aF i f st = (f st).bind fun d s1 => match d with
  | .obj r => match s1.fld r i with
    | some (.val x) => .ok (.val x) s1
    | some (.lent x) => .ok (.lent x) s1
    | _ => .bad
  | _ => .bad := id rfl
@[simp] theorem fld_s (s : List (Option FV)) (h : List LO) (r i : Nat) : LS.fld ⟨s, h⟩ r i = match h[r]? with
  | some (.ins _ fs) => fs.lookup i
  | _ => none := id rfl
@[simp] theorem setF_s (s : List (Option FV)) (h : List LO) (r i : Nat) (x : FV) : LS.setF ⟨s, h⟩ r i x = match h[r]? with
  | some (.ins c fs) => ⟨s, h.set r (.ins c (putN i x fs))⟩
  | _ => ⟨s, h⟩ := by
  unfold LS.setF
  cases h[r]? with
  | none => rfl
  | some o => cases o <;> rfl
@[simp] theorem objAt_s (s : List (Option FV)) (h : List LO) (n : Nat) : LS.objAt ⟨s, h⟩ n = match s[n]? with
  | some (some (.val (.obj r))) => some r
  | _ => none := id rfl
@[simp] theorem putN_nil (i : Nat) (x : FV) : putN i x [] = [(i, x)] := id rfl
@[simp] theorem putN_cons (i j : Nat) (x y : FV) (r : List (Nat × FV)) : putN i x ((j, y) :: r) = if j = i then (i, x) :: r else (j, y) :: putN i x r := id rfl
@[simp] theorem sFld_s (i : Nat) (cs : List Nat) : sFld i cs k f st = SRes.of (f st) fun d s1 => SRes.of (k s1) fun x s2 => match x with
  | .obj r => match s2.h[r]? with
    | some (.ins c fs) => if c ∈ cs ∧ fs.length < 1000 then .nx (s2.setF r i (.val d)) else .bad
    | _ => .bad
  | _ => .bad := id rfl
@[simp] theorem sFldF_s (i : Nat) (cs : List Nat) (j : Nat) : sFldF i cs j f st = SRes.of (f st) fun d s1 => match s1.objAt j with
  | some r => match s1.h[r]? with
    | some (.ins c fs) => if c ∈ cs ∧ fs.length < 1000 then .nx (s1.setF r i (.own d)) else .bad
    | _ => .bad
  | none => .bad := id rfl
@[simp] theorem sFldAug_s (i : Nat) (cs : List Nat) (m : Sem2) : sFldAug i cs k m f st = SRes.of (k st) fun x s1 => match x with
  | .obj r => match s1.h[r]?, s1.fld r i with
    | some (.ins c _), some (.val u) => if c ∈ cs then SRes.of (f s1) fun y s2 => SRes.of (m u y s2) fun z s3 => match s3.h[r]? with
      | some (.ins c' fs) => if c' = c ∧ fs.length < 1000 then .nx (s3.setF r i (.val z)) else .bad
      | _ => .bad else .bad
    | _, _ => .bad
  | _ => .bad := id rfl
@[simp] theorem eMeth_s (n : Nat) (ms : List (Nat × Fn)) {k : E (List FV)} : eMeth n ms f k st = (f st).bind fun d s1 => match d with
  | .obj r => match s1.h[r]? with
    | some (.ins c _) => match ms.lookup c with
      | some F => (k s1).bind fun fs s2 => if fs.length + 1 = n then outD s2 (F (.val (.obj r) :: fs) s2.h) else .bad
      | none => .bad
    | _ => .bad
  | _ => .bad := id rfl
@[simp] theorem eMethF_s (n : Nat) (ms : List (Nat × Fn)) {k : E (List FV)} : eMethF n ms f k st = (f st).bind fun d s1 => match d with
  | .obj r => match s1.h[r]? with
    | some (.ins c _) => match ms.lookup c with
      | some F => (k s1).bind fun fs s2 => if fs.length + 1 = n then outF s2 (F (.val (.obj r) :: fs) s2.h) else .bad
      | none => .bad
    | _ => .bad
  | _ => .bad := id rfl
@[simp] theorem outN_n (r : Nat) : outN r st (.ret (.val .non) h) = .ok (.obj r) { st with h := h } := id rfl
@[simp] theorem outN_x (r : Nat) {z : XV} : outN r st (.exc z h) = .exc z { st with h := h } := id rfl
@[simp] theorem eMake_s (n c : Nat) (F : Fn) {k : E (List FV)} : eMake n c F k st = (k st).bind fun fs s1 => if fs.length + 1 = n then outN s1.h.length s1 (F (.val (.obj s1.h.length) :: fs) (s1.h ++ [.ins c []])) else .bad := id rfl
@[simp] theorem sRaise_s (c : Nat) : sRaise c st = .exc ⟨c, none⟩ st := id rfl
end
end PL

/-! PyLite, part t: exceptions caught and kept. -/
namespace PLR
open PySem PySem.Spec PyProof.Rows L2
/-- an exception object, tracked -/
abbrev erX (a C : Addr) : HO := PL.erO a C
section
variable {X : Cx} {pins : List (Addr × Obj)} {σ : L2.St} {H : Hp} {s : Shared}
/-- an object that nobody tracked, new behind the entry, is tracked -/
theorem keepErr {a C : Addr} {oe : Obj} {vs : Array Value} (I : Inv X pins σ H s) (ha : s.heap.get? a = some oe) (hd : oe.data = .fields vs) (hc : oe.cls = .ref C) (hdi : oe.dict = none) (na : H a = none) (n0 : X.s_0.heap.get? a = none) (nL : a ≠ X.env.locals)
    (np : ∀ p ∈ X.pn ++ pins, p.1 ≠ a) : Inv X pins σ (upd H a (erX a C)) s := by
  have stays : ∀ b u, H b = some u → upd H a (erX a C) b = some u := fun b u e => by rw [upd_ne (ne_of_none e na)]; exact e
  refine ⟨I.ok, I.os, I.bare, ⟨I.base.keep, I.base.slot, fun b o e n hx => ?_, I.base.there, fun b xs e => stays _ _ (I.base.tups b xs e), fun b o u e => stays _ _ (I.base.frzs b o u e), fun b ps e => ?_⟩, I.loc, I.cell, ?_, fun x c e => ?_, fun p hp => ?_, fun b u e => ?_, I.len⟩
  · have hb : b ≠ a := fun z => by subst z; rw [n0] at e; cases e
    rw [upd_ne hb]; exact I.base.free b o e n hx
  · obtain ⟨more, q⟩ := I.base.tbls b ps e
    exact ⟨more, stays _ _ q⟩
  · rw [upd_ne (Ne.symm nL)]; exact I.free
  · obtain ⟨v, o, ho, hdd⟩ := I.cell x c e
    have hb : c ≠ a := fun z => by subst z; rw [ha] at ho; cases ho; rw [hd] at hdd; cases hdd
    rw [upd_ne hb]; exact I.freeC x c e
  · obtain ⟨p1, p2, p3⟩ := I.pin p hp
    exact ⟨p1, by rw [upd_ne (np p hp)]; exact p2, p3⟩
  · by_cases hb : b = a
    · subst hb
      rw [upd_same] at e
      cases e
      exact ⟨⟨oe, vs, ha, hc, hdi, hd⟩, ⟨oe, ha⟩, fun h1 h2 ⟨o, v, q, r⟩ k => ⟨o, v, k o q, r⟩⟩
    · rw [upd_ne hb] at e
      exact (I.hok b u e).stay (fun c v _ q => q) (fun c q => stays _ _ q) fun c xs q => stays _ _ q
end
/-- what the clause wishes: as for a name, but behind the suite the exception stays known -/
def wKeep (K : PySem.W.Frag) (c : Value) (i : Nat) (ts : Addr → Value → Option Addr → TS) (Wout : WX) (D : Ends) : WX := fun cls d σ H =>
  ∃ b, PySem.W.exmOne K cls c = some b ∧ (b = true → ∃ C : Addr, cls = .ref C ∧ d = none ∧ ∀ a, H a = none →
      ts a cls d { nx := fun σ' H' => D.nx (σ'.set i none) (upd H' a (erX a C)), rt := D.rt, bk := fun σ' H' => D.bk (σ'.set i none) H', ct := fun σ' H' => D.ct (σ'.set i none) H' } (σ.set i (some (.ref a))) H) ∧
    (b = false → Wout cls d σ H)
section
variable {X : Cx} {x n : Str} {c : Value} {i : Nat} {body suite : List Stmt} {b₀ : Stmt} {np pos pos' : Pos} {tb : WX → TS} {ts : Addr → Value → Option Addr → TS} {Wout : WX}
theorem try_keep (hx0 : X.ex = []) (hs : X.stack = X.env :: X.outer) (hf : X.env.frame = some X.env.locals) (hN : X.N.Nodup) (hi : X.N[i]? = some n) (hln : X.env.kindOf n = some .local) (hc : Names X x c) (tk : Takes X Wout)
    (hb : ∀ (W : WX) (pn : List (Addr × Obj)) (xe : Value → Shared → Prop), Takes (X.tr pn xe) W → PassesOwn (model X.prog X.w) X.A X.env xe → PSs (X.tr pn xe) body (tb W))
    (hsu : ∀ (a : Addr) (oe : Obj) (cls : Value) (d : Option Addr) (pn : List (Addr × Obj)), Zc cls d oe → (∃ vs, oe.data = .fields vs) → PSs (X.suite a ((a, oe) :: pn)) (b₀ :: suite) (ts a cls d)) :
    PS X (.Try body [.ExceptHandler (some (.Name x np)) (some n) (b₀ :: suite) pos'] [] [] pos) (fun D σ H => tb (wKeep X.K c i ts Wout D) D σ H) := by
  refine ⟨fun pins s σ H D I hyp => wpAny_Try_except ?_⟩
  have ok := I.ok
  have hframes : X.A.frames = some (X.env :: X.outer) := by rw [ok.frames, hs]
  have hlocal : Loc X.env.scope n := .inl hln
  let after : Value → Shared → Prop := fun e s₁ => wpAny (model X.prog X.w) X.A (noteFrame e X.env) (fun _ s₂ => wpAny (model X.prog X.w) X.A (setFlight e none)
    (fun _ s₃ => wpAny (model X.prog X.w) X.A (handleBy e X.env [.ExceptHandler (some (.Name x np)) (some n) (b₀ :: suite) pos']) (SP X pins D) X.xe s₃) X.xe s₂) X.xe s₁
  have bodyRun := (hb (wKeep X.K c i ts Wout D) (X.pn ++ pins) after (fun u s' air => ?caught) PassesOwn.looking).run [] s σ H D (I.toTry _) hyp
  case caught =>
    obtain ⟨a, B, sI, pins', σ', H', cls, d, rfl, J', nb, up, sky, na, os, ag, b, hb1, hyes, hno⟩ := air
    have J : Inv X pins σ' H' sI := J'.ofTry ok
    have sky' : Sky B (X.env :: X.outer) a (Zc cls d) X.env.locals s'.heap := hs ▸ sky
    show wpAny (model X.prog X.w) X.A (noteFrame (.ref a) X.env) _ _ _
    refine Sky.land Zc.steady hframes hf sky' fun h3 fl3 up3 => ?_
    have J3 : Inv X pins σ' H' { s' with heap := h3 } := J.landed nb fl3.1 (up.trans up3) os ag
    obtain ⟨oe3, vs3, he3, hz3, hd3⟩ := fl3.there
    have nfr : a ∉ frs (X.env :: X.outer) := fun hm => by
      obtain ⟨_, o', e', hnf⟩ := fl3.2.2.1.mem hm
      rw [he3] at e'
      cases e'
      exact hnf _ hd3
    have nL : a ≠ X.env.locals := fun z => nfr (List.mem_filterMap.mpr ⟨X.env, List.mem_cons_self, by rw [hf, z]⟩)
    have nF : a ∉ X.fs := fun hm => by
      obtain ⟨e, he, q⟩ := List.mem_filterMap.mp hm
      exact nfr (List.mem_filterMap.mpr ⟨e, List.mem_cons_of_mem _ he, q⟩)
    have nI : sI.heap.get? a = none := by
      cases q : sI.heap.get? a with
      | none => rfl
      | some o =>
        have z := nb a o q (by rw [hs]; exact nfr)
        rw [fl3.2.1] at z
        cases z
    have n0 : X.s_0.heap.get? a = none := by
      cases q : X.s_0.heap.get? a with
      | none => rfl
      | some o =>
        obtain ⟨o', z⟩ := J.base.there a o q (by rw [hx0]; exact List.not_mem_nil)
        rw [nI] at z
        cases z
    have npin : ∀ p ∈ X.pn ++ pins, p.1 ≠ a := fun p hp z => by
      have q := (J.pin p hp).1
      rw [z, nI] at q
      cases q
    have S3 := J3.suite he3 hd3 na nL nF
    refine wpAny_handleBy_cons (codeAny_handlers_test ?_) (by intro q; cases q)
    have LT : PySem.W.Looks (model X.prog X.w) h3 (typeOf (.ref a)) cls := fun A Q E s k q => wpAny_typeOf_ref (k _ _ he3) (by rw [hz3.1]; exact q)
    have named : ∀ {Q : Value → Shared → Prop} {E : Value → Shared → Prop}, Q c { s' with heap := h3 } → wpAny (model X.prog X.w) (X.A.mark (some (.ref a))) (eval (.Name x np) X.env) Q E { s' with heap := h3 } := fun {Q E} q => by
      obtain ⟨hg, hdbg, hm | ⟨hm, hv, hnn⟩⟩ := hc
      · exact ld_glob (X := X.suite a ((a, oe3) :: (X.pn ++ pins))) S3 hg hm q hdbg
      · exact ld_blt (X := X.suite a ((a, oe3) :: (X.pn ++ pins))) S3 hg hm hv q hnn hdbg
    refine named ((PySem.W.exm_one (M := model X.prog X.w) J3.kIn LT hb1).here ?_)
    cases b with
    | true =>
      obtain ⟨C, eC, eD, hyes⟩ := hyes rfl
      refine codeAny_handlers_suite_as (HandSPX.lands_againZ fl3 fun h4 fl4 up4 => ?_)
      have J4 : Inv X pins σ' H' { s' with heap := h4 } := J.landed nb fl4.1 ((up.trans up3).trans up4) os ag
      obtain ⟨oe4, vs4, he4, hz4, hd4⟩ := fl4.there
      have S4 := J4.suite he4 hd4 na nL nF
      refine store_ok (X := X.suite a ((a, oe4) :: (X.pn ++ pins))) (v := .ref a) S4 hN hi hlocal rfl (fun s5 S5 => ?_) (.inr hln)
      refine wpAny_mono ((hsu a oe4 cls d (X.pn ++ pins) hz4 ⟨_, hd4⟩).run [] s5 _ H' _ S5 (hyes a na)) (fun f s6 hsp => ?_) (fun _ _ z => False.elim z)
      cases f with
      | next =>
        obtain ⟨σ6, H6, S6, q6⟩ := hsp
        have here := S6.pin (a, oe4) (List.mem_append_left _ List.mem_cons_self)
        have T6 := keepErr (S6.unsuite ok) here.1 hd4 (by rw [hz4.1, eC]) (by rw [hz4.2, eD]) here.2.1 n0 nL npin
        exact gone_ok T6 hN hi hln fun s7 J7 => ⟨_, _, J7, q6⟩
      | brk =>
        obtain ⟨σ6, H6, S6, q6⟩ := hsp
        exact gone_ok (S6.unsuite ok) hN hi hln fun s7 J7 => ⟨_, _, J7, q6⟩
      | cont =>
        obtain ⟨σ6, H6, S6, q6⟩ := hsp
        exact gone_ok (S6.unsuite ok) hN hi hln fun s7 J7 => ⟨_, _, J7, q6⟩
      | ret u =>
        obtain ⟨v6, σ6, H6, S6, r6, q6⟩ := hsp
        exact gone_ok (S6.unsuite ok) hN hi hln fun s7 J7 => ⟨_, _, _, J7, r6, q6⟩
    | false =>
      show wpAny _ X.A (handleBy (.ref a) X.env []) _ _ _
      refine wpAny_handleBy_nil ?_
      obtain ⟨_, _, _, oe, vs, T, oT, ts', he, _, _, h1, _⟩ := id fl3
      unfold PySem.passOn
      refine wpAny_bind (wpAny_field he (by assumption) h1 ?_)
      rw [if_neg (by simp : ¬ ((Value.ref T == Value.none) = true))]
      have goOn : wpAny (model X.prog X.w) X.A (setFlight (.ref a) X.env.frame) (fun _ s4 => wpAny (model X.prog X.w) X.A (throw (.ref a) : Sem Flow) (SP X pins D) X.xe s4) X.xe { s' with heap := h3 } := by
        rw [hf]
        exact HandSPX.setFlight_upZ fl3 fun h4 hh4 up4 => wpAny_throw (tk _ _ ⟨a, B, sI, pins, σ', H', cls, d, rfl, J, nb, (up.trans up3).trans up4, .inr (.inr (by rw [hs]; exact hh4)), na, os, ag, hno rfl⟩)
      first
      | exact wpAny_bind (wpAny_pure (wpAny_bind goOn))
      | exact wpAny_bind goOn
  refine wpAny_mono bodyRun (fun f s1 hsp => ?_) fun e s1 he => he
  cases f with
  | next =>
    obtain ⟨σ', H', J', q⟩ := hsp
    exact wpAny_execs_nil ⟨σ', H', J'.ofTry ok, q⟩
  | brk => obtain ⟨σ', H', J', q⟩ := hsp; exact ⟨σ', H', J'.ofTry ok, q⟩
  | cont => obtain ⟨σ', H', J', q⟩ := hsp; exact ⟨σ', H', J'.ofTry ok, q⟩
  | ret u => obtain ⟨v, σ', H', J', r, q⟩ := hsp; exact ⟨v, σ', H', J'.ofTry ok, r, q⟩
end
end PLR
namespace PLR
open PySem PySem.Spec PyProof.Rows L2
/-- isinstance(e, c), e an exception that is tracked -/
theorem call_isK {X : Cx} : CallR X (.builtin "isinstance") (fun xs H Q => ∃ (a D : Addr) (c : V) (cv : Value) (b : Bool), xs = [.ref a, c] ∧ Rd H a (erX a D) ∧ ExcC X.K D ∧ (∀ u, RelV c u → u = cv) ∧ PySem.W.kitOne X.K (.ref D) cv = some b ∧ Q (.bl b) H) := by
  intro pins s σ H xs us Q I r h
  obtain ⟨a, D, c, cv, b, rfl, hr, C, hcv, e, q⟩ := h
  obtain ⟨u1, u2, rfl, r1, r2⟩ := vals2 r
  cases r1
  have ec := hcv _ r2
  subst ec
  have ph : ∃ oe vs, s.heap.get? a = some oe ∧ oe.cls = .ref D ∧ oe.dict = none ∧ oe.data = .fields vs := by
    rcases hr with hr | ⟨o, hr⟩
    · exact (I.hok a _ hr).1
    · exact (I.hok a _ hr).2.1
  obtain ⟨oe, vs, h1, h2, h3, h4⟩ := ph
  have J : PySem.W.InstAt s.heap a oe D none := by
    obtain ⟨oc, od, oda, osl⟩ := oe
    dsimp only at h2 h3 h4
    subst h2 h3 h4
    exact ⟨h1, rfl, rfl, trivial⟩
  exact PySem.W.kia_one (PySem.W.handS_kitx_exc C.hg C.hk C.hs C.hd C.ha C.hn C.ht C.hm) I.kIn J e (fun z => nomatch z) fun tk => ⟨.bl b, H, I.kept (t' := tk) fun _ _ z => z, rfl, q⟩
end PLR
namespace PL
open PySem PySem.Spec PyProof.Rows L2
section
variable {Γ : Tab} {W : WX} {Z : Hp} {Lt : Lend} {g g' : GM} {st st' : LS} {σ σ' : L2.St} {H H' : Hp} {h h' : List LO} {a p : Addr} {o : HO} {d : D} {v : V} {X : Cx} {e e1 e2 e3 : Expr} {es : List Expr} {f k l : E D} {pos pos2 ppos apos pos3 pos4 : Pos} {stm : Stmt} {sts body : List Stmt} {f1 f2 : S} {D0 : Ends}

/-! ### isinstance of what was caught -/
structure IsE (Γ : Tab) (cv : Value) (sub : Nat → Option Bool) : Prop where
  is : ∀ k b C, sub k = some b → Γ.cls k = some C → ExcC Γ.K C ∧ PySem.W.kitOne Γ.K (.ref C) cv = some b
def mIsE (sub : Nat → Option Bool) : Sem1 := fun x st => match x with
  | .err k => match sub k with
    | some b => .ok (.bl b) st
    | none => .bad
  | _ => .bad
theorem CV.err {c : Nat} (x : CV Γ g H (.err c) v) (s : SR Γ Z Lt g st σ H) : ∃ a C, v = .ref a ∧ Γ.cls c = some C ∧ Rd H a (erO a C) := by
  rcases x with x | ⟨a, o, _, _, c | ⟨_, _, _, c⟩⟩
  · simp only [RD] at x
    obtain ⟨a, C, e, h1, h2⟩ := x
    exact ⟨a, C, e, h1, GLe.sub s.sh.gh _ _ rfl h2⟩
  · cases o <;> exact c.elim
  · rename_i u _; cases u <;> exact c.elim
theorem isE_core {x : Str} {cv : Value} {c : V} {sub : Nat → Option Bool} (hK : X.K = Γ.K) (hg : Gl X "isinstance") (hn : X.mg "isinstance" = none) (hc : PE X (.Name x pos2) (tC c)) (hv : ∀ u, RelV c u → u = cv) (is : IsE Γ cv sub) (y : PC Γ W X e f)
    (he : starEach [e, .Name x pos2] X.env = (false, eval e X.env) :: starEach [.Name x pos2] X.env := by rfl) (he2 : starEach [.Name x pos2] X.env = (false, eval (.Name x pos2) X.env) :: starEach [] X.env := by rfl)
    (hpl : (backTo pos (starEach [.Name x pos2] X.env)).any (·.1) = false := by rfl) : PD Γ W X (.Call (.Name "isinstance" ppos) [e, .Name x pos2] [] pos) (eUn (mIsE sub) f) := by
  refine ⟨(pe_callB PLR.call_isK hg hn (by decide +kernel) (pa_cons y.pe (pa_cons hc pa_nil he2) he) (by decide) (by decide) he hpl).csq fun σ H Q h =>
    one (X := X) (r := fun v H Q => ∃ (a D : Addr) (c' : V) (cv : Value) (b : Bool), [v, c] = [V.ref a, c'] ∧ Rd H a (PLR.erX a D) ∧ ExcC X.K D ∧ (∀ u, RelV c' u → u = cv) ∧ PySem.W.kitOne X.K (.ref D) cv = some b ∧ Q (.bl b) H) (fun Z Lt g st σ H x v Q s rx h => ?_) h⟩
  unfold mIsE at h
  split at h
  · rename_i k
    split at h
    · rename_i b eb
      obtain ⟨a, C, rfl, hC, hr⟩ := rx.err s
      obtain ⟨i1, i2⟩ := is.is k b C eb hC
      rw [hK]
      exact ⟨a, C, c, cv, b, rfl, hr, i1, hv, i2, ret_bl s h⟩
    · exact h.elim
  · exact h.elim
/-- .. of a class of the text -/
theorem pd_isE {x : Str} {C : Addr} {sub : Nat → Option Bool} (is : IsE Γ (.ref C) sub) (hm : X.mg x = some (.ref C)) (hK : X.K = Γ.K) (hn : X.mg "isinstance" = none) (y : PC Γ W X e f) (hg : Gl X "isinstance" := by rfl) (hgx : Gl X x := by rfl) (hd : (x == ("__debug__" : Str)) = false := by decide)
    (he : starEach [e, .Name x pos2] X.env = (false, eval e X.env) :: starEach [.Name x pos2] X.env := by rfl) (he2 : starEach [.Name x pos2] X.env = (false, eval (.Name x pos2) X.env) :: starEach [] X.env := by rfl)
    (hpl : (backTo pos (starEach [.Name x pos2] X.env)).any (·.1) = false := by rfl) : PD Γ W X (.Call (.Name "isinstance" ppos) [e, .Name x pos2] [] pos) (eUn (mIsE sub) f) :=
  isE_core (c := .ref C) hK hg hn (pe_glob hgx hm rfl hd) (fun u r => r) is y he he2 hpl
/-- .. of ValueError -/
theorem pd_isV {sub : Nat → Option Bool} (is : IsE Γ (.type "ValueError") sub) (hm : X.mg "ValueError" = none) (hK : X.K = Γ.K) (hn : X.mg "isinstance" = none) (y : PC Γ W X e f) (hg : Gl X "isinstance" := by rfl) (hgx : Gl X "ValueError" := by rfl)
    (he : starEach [e, .Name "ValueError" pos2] X.env = (false, eval e X.env) :: starEach [.Name "ValueError" pos2] X.env := by rfl) (he2 : starEach [.Name "ValueError" pos2] X.env = (false, eval (.Name "ValueError" pos2) X.env) :: starEach [] X.env := by rfl)
    (hpl : (backTo pos (starEach [.Name "ValueError" pos2] X.env)).any (·.1) = false := by rfl) : PD Γ W X (.Call (.Name "isinstance" ppos) [e, .Name "ValueError" pos2] [] pos) (eUn (mIsE sub) f) :=
  isE_core (c := .ty "ValueError") hK hg hn (pe_bltn hgx hm (by decide +kernel) rfl (by decide) (by decide)) (fun u r => r) is y he he2 hpl

/-! ### try: .. except K as n: m = n -/
/-- which classes the clause's class takes -/
structure Tk (Γ : Tab) (c : Value) (sub : Nat → Option Bool) : Prop where
  tk : ∀ k b C, sub k = some b → Γ.cls k = some C → PySem.W.exmOne Γ.K (.ref C) c = some b
def sTryK (i m : Nat) (sub : Nat → Option Bool) (body : S) : S := fun st => match body st with
  | .exc x st' => match sub x.c, x.l with
    | some true, none => if i < st'.s.length ∧ m < st'.s.length ∧ i ≠ m then .nx ((st'.set m (.val (.err x.c))).clr i) else .bad
    | some false, _ => .exc x st'
    | _, _ => .bad
  | r => r
theorem set_none_comm {σ : L2.St} {i m : Nat} {x y : Option V} (h : i ≠ m) : ((σ.set i x).set m y).set i none = (σ.set m y).set i none := by
  rw [List.set_comm _ _ h, List.set_set]
theorem st_tryK {i m : Nat} {x n y : Str} {c : Value} {sub : Nat → Option Bool} {ypos npos mpos : Pos} (hT : Tk Γ c sub) (hK : X.K = Γ.K) (hx0 : X.ex = []) (hs : X.stack = X.env :: X.outer) (hf : X.env.frame = some X.env.locals) (hN : X.N.Nodup) (hi : X.N[i]? = some n) (hln : X.env.kindOf n = some .local) (hc : Names X x c) (tk : Takes X W)
    (hm : X.N[m]? = some y) (hml : X.env.scope.names.lookup y = some .local) (hnl : X.env.scope.names.lookup n = some .local)
    (hb : ∀ (W' : WX) (pn : List (Addr × Obj)) (xe : Value → Shared → Prop), Takes (X.tr pn xe) W' → PassesOwn (model X.prog X.w) X.A X.env xe → PSts Γ W' (X.tr pn xe) body f1)
    (hsw : ∀ (a : Addr) (pn : List (Addr × Obj)), swapsWith (.Name n npos) (some (.Name y mpos)) apos.line (X.suite a pn).env = pure false := by intro _ _; rfl)
    (hd : (n == ("__debug__" : Str)) = false := by decide) (hcd : (n == ("__classdict__" : Str)) = false := by decide) :
    PSt Γ W X (.Try body [.ExceptHandler (some (.Name x ypos)) (some n) [.Assign [.Name y mpos] (.Name n npos) apos] pos2] [] [] pos) (sTryK i m sub f1) := by
  have suite := fun (a : Addr) (oe : Obj) (cls : Value) (dd : Option Addr) (pn : List (Addr × Obj)) (_ : L2.Zc cls dd oe) (_ : ∃ vs, oe.data = .fields vs) =>
    (pss_one (ps_set (X := X.suite a ((a, oe) :: pn)) (i := m) hN hm (.inl hml) (pe_var (X := X.suite a ((a, oe) :: pn)) hi (.inl hnl) hd hcd) (hsw a _) (.inr hml)) : PSs (X.suite a ((a, oe) :: pn)) [.Assign [.Name y mpos] (.Name n npos) apos] _)
  refine ⟨(PLR.try_keep (tb := fun W' => TSt Γ W' f1) hx0 hs hf hN hi hln hc tk (fun W' pn xe tk' ps => (hb W' pn xe tk' ps).ps) suite).csq fun D σ H ⟨Z, Lt, g, st, s, h⟩ => ⟨Z, Lt, g, st, s, ?_⟩⟩
  unfold sTryK at h
  revert h
  cases f1 st with
  | exc z st' =>
    intro h cls dd σ' g' H' s' t xr
    obtain ⟨C, hC, rfl, hl⟩ := xr
    simp only at h
    rw [hK]
    split at h
    · rename_i es el
      split at h
      · rename_i hlen
        rw [el] at hl
        refine ⟨true, hT.tk _ _ _ es hC, fun _ => ⟨C, rfl, hl, fun a na => ?_⟩, fun q => nomatch q⟩
        refine ⟨.ref a, List.getElem?_set_self (by rw [s'.sl]; exact hlen.1), ?_⟩
        show D.nx _ _
        rw [set_none_comm hlen.2.2]
        have nn := (s'.sh.new na).2.1
        have s2 := s'.new na (erO a C)
        have rd : RD Γ (g'.put a (erO a C)) (.err z.c) (.ref a) := by
          simp only [RD]
          exact ⟨a, C, rfl, hC, .inl put_same⟩
        exact h _ _ _ ((s2.setV m rd).clr i) (t.trans (GT.put nn))
      · exact h.elim
    · rename_i es
      exact ⟨false, hT.tk _ _ _ es hC, fun q => (nomatch q), fun _ => h (.ref C) dd σ' g' H' s' t ⟨C, hC, rfl, hl⟩⟩
    · exact h.elim
  | nx st' => exact fun h => h
  | ret x st' => exact fun h => h
  | bk st' => exact fun h => h
  | ct st' => exact fun h => h
  | bad => exact fun h => h

/-! ### try: .. except K: suite -/
def noX : SRes → SRes
  | .exc _ _ => .bad
  | r => r
def sTryO (sub : Nat → Option Bool) (body suite : S) : S := fun st => match body st with
  | .exc x st' => match sub x.c with
    | some true => noX (suite st')
    | some false => .exc x st'
    | none => .bad
  | r => r
theorem GoS.noX {r : SRes} {W' : WX} (h : GoS Γ W Z Lt D0 (PL.noX r) g) : GoS Γ W' Z Lt D0 r g := by
  cases r <;> first | exact h | exact h.elim
theorem st_tryO {x : Str} {c : Value} {sub : Nat → Option Bool} {b₀ : Stmt} {ypos : Pos} (hT : Tk Γ c sub) (hK : X.K = Γ.K) (hs : X.stack = X.env :: X.outer) (hf : X.env.frame = some X.env.locals) (hc : Names X x c) (tk : Takes X W)
    (hb : ∀ (W' : WX) (pn : List (Addr × Obj)) (xe : Value → Shared → Prop), Takes (X.tr pn xe) W' → PassesOwn (model X.prog X.w) X.A X.env xe → PSts Γ W' (X.tr pn xe) body f1)
    (hsu : ∀ (a : Addr) (oe : Obj) (pn : List (Addr × Obj)), PSts Γ WN (X.suite a ((a, oe) :: pn)) (b₀ :: sts) f2) :
    PSt Γ W X (.Try body [.ExceptHandler (some (.Name x ypos)) none (b₀ :: sts) pos2] [] [] pos) (sTryO sub f1 f2) := by
  refine ⟨(ps_try_only (tb := fun W' => TSt Γ W' f1) (ts := fun _ _ _ => TSt Γ WN f2) hs hf hc tk (fun W' pn xe tk' ps => (hb W' pn xe tk' ps).ps) (fun a oe cls dd pn _ _ => (hsu a oe pn).ps)).csq fun D σ H ⟨Z, Lt, g, st, s, h⟩ => ⟨Z, Lt, g, st, s, ?_⟩⟩
  unfold sTryO at h
  revert h
  cases f1 st with
  | exc z st' =>
    intro h cls dd σ' g' H' s' t xr
    obtain ⟨C, hC, rfl, hl⟩ := xr
    simp only at h
    rw [hK]
    split at h
    · rename_i es
      exact ⟨true, hT.tk _ _ _ es hC, fun _ a na => ⟨Z, Lt, g', st', s', (h.up t).noX⟩, fun q => nomatch q⟩
    · rename_i es
      exact ⟨false, hT.tk _ _ _ es hC, fun q => (nomatch q), fun _ => h (.ref C) dd σ' g' H' s' t ⟨C, hC, rfl, hl⟩⟩
    · exact h.elim
  | nx st' => exact fun h => h
  | ret x st' => exact fun h => h
  | bk st' => exact fun h => h
  | ct st' => exact fun h => h
  | bad => exact fun h => h
@[simp] theorem mIsE_s {sub : Nat → Option Bool} (c : Nat) : mIsE sub (.err c) st = match sub c with
  | some b => .ok (.bl b) st
  | none => .bad := id rfl
@[simp] theorem sTryK_s (i m : Nat) (sub : Nat → Option Bool) : sTryK i m sub f1 st = match f1 st with
  | .exc x st' => match sub x.c, x.l with
    | some true, none => if i < st'.s.length ∧ m < st'.s.length ∧ i ≠ m then .nx ((st'.set m (.val (.err x.c))).clr i) else .bad
    | some false, _ => .exc x st'
    | _, _ => .bad
  | r => r := id rfl
@[simp] theorem noX_nx : noX (.nx st) = .nx st := id rfl
@[simp] theorem noX_ret {z : FV} : noX (.ret z st) = .ret z st := id rfl
@[simp] theorem sTryO_s (sub : Nat → Option Bool) : sTryO sub f1 f2 st = match f1 st with
  | .exc x st' => match sub x.c with
    | some true => noX (f2 st')
    | some false => .exc x st'
    | none => .bad
  | r => r := id rfl
@[simp] theorem deq_bl (a b : Bool) : deq (.bl a) (.bl b) = (a == b) := by simp [deq]
@[simp] theorem isNon_e (c : Nat) : (D.err c).isNon = false := id rfl
end
end PL

/-! PyLite, part u: isinstance of own classes; int, sum, sorted, min, max, divmod; division by what may be below 0; range of three. -/
namespace PL
open PySem PySem.Spec PyProof.Rows L2
section
variable {Γ : Tab} {W : WX} {Z : Hp} {Lt : Lend} {g g' : GM} {st st' : LS} {σ σ' : L2.St} {H H' : Hp} {h h' : List LO} {a p : Addr} {o : HO} {d : D} {v : V} {X : Cx} {e e1 e2 e3 : Expr} {es : List Expr} {f k l : E D} {pos pos2 ppos apos : Pos} {stm : Stmt} {sts : List Stmt} {f1 f2 : S} {D0 : Ends}

/-! ### isinstance of an instance by its own class -/
structure IsO (Γ : Tab) (C : Addr) (c : Nat) : Prop where
  cl : Γ.cls c = some C
  ic : C8.InsC Γ.K C
def mIsO (c : Nat) : Sem1 := fun x st => match x with
  | .obj r => match st.h[r]? with
    | some (.ins c' _) => if c' = c then .ok (.bl true) st else .bad
    | _ => .bad
  | _ => .bad
theorem pd_isO {x : Str} {C : Addr} {c : Nat} (is : IsO Γ C c) (hm : X.mg x = some (.ref C)) (hK : X.K = Γ.K) (hn : X.mg "isinstance" = none) (y : PC Γ W X e f) (hg : Gl X "isinstance" := by rfl) (hgx : Gl X x := by rfl) (hd : (x == ("__debug__" : Str)) = false := by decide)
    (he : starEach [e, .Name x pos2] X.env = (false, eval e X.env) :: starEach [.Name x pos2] X.env := by rfl) (he2 : starEach [.Name x pos2] X.env = (false, eval (.Name x pos2) X.env) :: starEach [] X.env := by rfl)
    (hpl : (backTo pos (starEach [.Name x pos2] X.env)).any (·.1) = false := by rfl) : PD Γ W X (.Call (.Name "isinstance" ppos) [e, .Name x pos2] [] pos) (eUn (mIsO c) f) := by
  have ic : C8.InsC X.K C := by rw [hK]; exact is.ic
  refine ⟨(pe_callB (C8.call_isC ic) hg hn (by decide +kernel) (pa_cons y.pe (pa_cons (pe_glob (v := .ref C) hgx hm rfl hd) pa_nil he2) he) (by decide) (by decide) he hpl).csq fun σ H Q hh =>
    one (X := X) (r := fun v H Q => ∃ a dx fs, [v, V.ref C] = [V.ref a, V.ref C] ∧ H a = some (.ins C dx fs) ∧ Q (.bl true) H) (fun Z Lt g st σ H x v Q s rx h => ?_) hh⟩
  unfold mIsO at h
  split at h
  · rename_i r
    split at h
    · rename_i c' fs e1
      split at h
      · rename_i ec
        subst ec
        obtain ⟨a, rfl, hr⟩ := rx.obj
        obtain ⟨C', dx, ws, q1, q2, q3, q4⟩ := s.insAt hr e1
        rw [is.cl] at q1; cases q1
        exact ⟨a, dx, ws, rfl, q3, ret_bl s h⟩
      · exact h.elim
    · exact h.elim
  · exact h.elim
@[simp] theorem mIsO_s (c r : Nat) : mIsO c (.obj r) st = match st.h[r]? with
    | some (.ins c' _) => if c' = c then .ok (.bl true) st else .bad
    | _ => .bad := id rfl

/-! ### int(x) -/
def mIntOf : Sem1 := fun x st => match x with
  | .int i => .ok (.int i) st
  | .bl b => .ok (.int (if b then 1 else 0)) st
  | _ => .bad
theorem pd_int1 (hg : Gl X "int") (hn : X.mg "int" = none) (y : PC Γ W X e f) (he : starEach [e] X.env = (false, eval e X.env) :: starEach [] X.env := by rfl) (hpl : (backTo pos (starEach [] X.env)).any (·.1) = false := by rfl) :
    PD Γ W X (.Call (.Name "int" ppos) [e] [] pos) (eUn mIntOf f) := by
  refine ⟨(pe_callTy call_int1 hg hn (by decide +kernel) (pa_cons y.pe pa_nil he) (by decide) (by decide) he hpl).csq fun σ H Q h => one (X := X) (r := fun v H Q => (∃ i, [v] = [V.int i] ∧ Q (.int i) H) ∨ ∃ k, [v] = [V.bl k] ∧ Q (.int (if k then 1 else 0)) H) (fun Z Lt g st σ H x v Q s rx h => ?_) h⟩
  unfold mIntOf at h
  split at h
  · rw [rx.int]; exact .inl ⟨_, rfl, ret_int s h⟩
  · rw [rx.bl]; exact .inr ⟨_, rfl, ret_int s h⟩
  · exact h.elim
@[simp] theorem mIntOf_i (i : Int) : mIntOf (.int i) st = .ok (.int i) st := id rfl
@[simp] theorem mIntOf_b (b : Bool) : mIntOf (.bl b) st = .ok (.int (if b then 1 else 0)) st := id rfl

/-! ### lists of ints -/
def intsD : List D → Option (List Int)
  | [] => some []
  | .int i :: ds => (intsD ds).map (i :: ·)
  | _ => none
@[simp] theorem intsD_map : ∀ ns : List Int, intsD (ns.map D.int) = some ns
  | [] => rfl
  | n :: ns => by simp [intsD, intsD_map ns]
@[simp] theorem intsD_nil : intsD [] = some [] := id rfl
@[simp] theorem intsD_cons (i : Int) (ds : List D) : intsD (.int i :: ds) = (intsD ds).map (i :: ·) := id rfl
theorem intsD_eq : ∀ {ds : List D} {ns : List Int}, intsD ds = some ns → ds = ns.map D.int
  | [], ns, h => by simp [intsD] at h; subst h; rfl
  | .int i :: ds, ns, h => by
    simp only [intsD, Option.map_eq_some_iff] at h
    obtain ⟨m, h1, rfl⟩ := h
    rw [intsD_eq h1]; rfl
  | .non :: _, _, h => nomatch h
  | .bl _ :: _, _, h => nomatch h
  | .str _ :: _, _, h => nomatch h
  | .tup _ :: _, _, h => nomatch h
  | .lst _ :: _, _, h => nomatch h
  | .dic _ :: _, _, h => nomatch h
  | .obj _ :: _, _, h => nomatch h
  | .err _ :: _, _, h => nomatch h
theorem RDs.ints : ∀ {ns : List Int} {vs : List V}, RDs Γ g (ns.map D.int) vs → vs = ns.map V.int
  | [], vs, r => by simp only [List.map_nil, RDs] at r; exact r
  | n :: ns, vs, r => by
    simp only [List.map_cons, RDs] at r
    obtain ⟨w, q, rfl, r1, r2⟩ := r
    simp only [RD] at r1
    rw [r1, RDs.ints r2]; rfl
theorem RDs.ofInts : ∀ (ns : List Int), RDs Γ g (ns.map D.int) (ns.map V.int)
  | [] => by simp [RDs]
  | n :: ns => RDs.cons .int (RDs.ofInts ns)
theorem CV.ints {ns : List Int} (c : CV Γ g H (.lst (ns.map D.int)) v) (s : SR Γ Z Lt g st σ H) : ∃ a, v = .ref a ∧ SqL Γ.K H a (ns.map V.int) := by
  obtain ⟨a, vs, rfl, q, r⟩ := c.lst s
  rw [r.ints] at q
  exact ⟨a, rfl, q⟩
def mSum : Sem1 := fun x st => match x with
  | .lst ds => match intsD ds with
    | some ns => .ok (.int ns.sum) st
    | none => .bad
  | _ => .bad
theorem pd_sum (hK : X.K = Γ.K) (hc : X.calm = true) (hg : Gl X "sum") (hn : X.mg "sum" = none) (y : PC Γ W X e f)
    (he : starEach [e] X.env = (false, eval e X.env) :: starEach [] X.env := by rfl) (hpl : (backTo pos (starEach [] X.env)).any (·.1) = false := by rfl) : PD Γ W X (.Call (.Name "sum" ppos) [e] [] pos) (eUn mSum f) := by
  refine pd_b1 (cr_sum hc) ?_ hg hn (by decide +kernel) y (by decide) (by decide) he hpl
  intro Z Lt g st σ H x v Q s rx h
  unfold mSum at h
  split at h
  · split at h
    · rename_i ds ns e
      rw [intsD_eq e] at rx
      obtain ⟨a, rfl, q⟩ := rx.ints s
      exact ⟨a, ns, rfl, by rw [hK]; exact q, ret_int s h⟩
    · exact h.elim
  · exact h.elim
@[simp] theorem mSum_s (ds : List D) : mSum (.lst ds) st = match intsD ds with
    | some ns => .ok (.int ns.sum) st
    | none => .bad := id rfl
/-- the ints by size -/
def srt (ns : List Int) : List Int := ns.mergeSort fun a b => decide (a ≤ b)
theorem srt_perm (ns : List Int) : (srt ns).Perm ns := List.mergeSort_perm _ _
theorem srt_sorted (ns : List Int) : (srt ns).Pairwise (· ≤ ·) := by
  have := List.pairwise_mergeSort (le := fun a b : Int => decide (a ≤ b)) (by intro a b c; simp; omega) (by intro a b; simp; omega) ns
  exact this.imp fun {a b} h => of_decide_eq_true h
theorem srt_unique {ns ms : List Int} (p : ms.Perm ns) (q : ms.Pairwise (· ≤ ·)) : ms = srt ns :=
  List.Perm.eq_of_pairwise (fun a b _ _ h1 h2 => Int.le_antisymm h1 h2) q (srt_sorted ns) (p.trans (srt_perm ns).symm)
@[simp] theorem mem_srt {ns : List Int} {x : Int} : x ∈ srt ns ↔ x ∈ ns := (srt_perm ns).mem_iff
@[simp] theorem srt_length (ns : List Int) : (srt ns).length = ns.length := (srt_perm ns).length_eq
def mSorted : Sem1 := fun x st => match x with
  | .lst ds => match intsD ds with
    | some ns => .ok (.lst ((srt ns).map D.int)) st
    | none => .bad
  | _ => .bad
theorem pf_sorted (hK : X.K = Γ.K) (hg : Gl X "sorted") (hn : X.mg "sorted" = none) (y : PC Γ W X e f)
    (he : starEach [e] X.env = (false, eval e X.env) :: starEach [] X.env := by rfl) (hpl : (backTo pos (starEach [] X.env)).any (·.1) = false := by rfl) : PF Γ W X (.Call (.Name "sorted" ppos) [e] [] pos) (eUn mSorted f) := by
  refine pf_b1 cr_sortedI ?_ hg hn (by decide +kernel) y (by decide) (by decide) he hpl
  intro Z Lt g st σ H x v Q s rx h
  unfold mSorted at h
  split at h
  · split at h
    · rename_i ds ns e
      rw [intsD_eq e] at rx
      obtain ⟨a, rfl, q⟩ := rx.ints s
      refine ⟨a, ns, rfl, by rw [hK]; exact q, fun ns' p h1 h2 h3 => ?_⟩
      rw [srt_unique h1 h2]
      exact retF s (RDs.ofInts _) h p h3
    · exact h.elim
  · exact h.elim
@[simp] theorem mSorted_s (ds : List D) : mSorted (.lst ds) st = match intsD ds with
    | some ns => .ok (.lst ((srt ns).map D.int)) st
    | none => .bad := id rfl
def mMinL : Sem1 := fun x st => match x with
  | .lst ds => match (intsD ds).bind List.min? with
    | some m => .ok (.int m) st
    | none => .bad
  | _ => .bad
def mMaxL : Sem1 := fun x st => match x with
  | .lst ds => match (intsD ds).bind List.max? with
    | some m => .ok (.int m) st
    | none => .bad
  | _ => .bad
theorem pd_minL (hK : X.K = Γ.K) (hc : X.calm = true) (hg : Gl X "min") (hn : X.mg "min" = none) (y : PC Γ W X e f)
    (he : starEach [e] X.env = (false, eval e X.env) :: starEach [] X.env := by rfl) (hpl : (backTo pos (starEach [] X.env)).any (·.1) = false := by rfl) : PD Γ W X (.Call (.Name "min" ppos) [e] [] pos) (eUn mMinL f) := by
  refine pd_b1 (cr_min hc) ?_ hg hn PyProof.Rows.boot_min y (by decide) (by decide) he hpl
  intro Z Lt g st σ H x v Q s rx h
  unfold mMinL at h
  split at h
  · split at h
    · rename_i ds m e
      obtain ⟨ns, e1, e2⟩ := Option.bind_eq_some_iff.mp e
      rw [intsD_eq e1] at rx
      obtain ⟨a, rfl, q⟩ := rx.ints s
      refine ⟨a, ns, rfl, by rw [hK]; exact q, ?_, fun m' h1 h2 => ?_⟩
      · cases ns with
        | nil => simp at e2
        | cons => simp
      · have := (List.min?_eq_some_iff (xs := ns) (a := m')).mpr ⟨h1, h2⟩
        rw [e2] at this; cases this
        exact ret_int s h
    · exact h.elim
  · exact h.elim
theorem pd_maxL (hK : X.K = Γ.K) (hc : X.calm = true) (hg : Gl X "max") (hn : X.mg "max" = none) (y : PC Γ W X e f)
    (he : starEach [e] X.env = (false, eval e X.env) :: starEach [] X.env := by rfl) (hpl : (backTo pos (starEach [] X.env)).any (·.1) = false := by rfl) : PD Γ W X (.Call (.Name "max" ppos) [e] [] pos) (eUn mMaxL f) := by
  refine pd_b1 (cr_max hc) ?_ hg hn PyProof.Rows.boot_max y (by decide) (by decide) he hpl
  intro Z Lt g st σ H x v Q s rx h
  unfold mMaxL at h
  split at h
  · split at h
    · rename_i ds m e
      obtain ⟨ns, e1, e2⟩ := Option.bind_eq_some_iff.mp e
      rw [intsD_eq e1] at rx
      obtain ⟨a, rfl, q⟩ := rx.ints s
      refine ⟨a, ns, rfl, by rw [hK]; exact q, ?_, fun m' h1 h2 => ?_⟩
      · cases ns with
        | nil => simp at e2
        | cons => simp
      · have := (List.max?_eq_some_iff (xs := ns) (a := m')).mpr ⟨h1, h2⟩
        rw [e2] at this; cases this
        exact ret_int s h
    · exact h.elim
  · exact h.elim
@[simp] theorem mMinL_s (ds : List D) : mMinL (.lst ds) st = match (intsD ds).bind List.min? with
    | some m => .ok (.int m) st
    | none => .bad := id rfl
@[simp] theorem mMaxL_s (ds : List D) : mMaxL (.lst ds) st = match (intsD ds).bind List.max? with
    | some m => .ok (.int m) st
    | none => .bad := id rfl

/-! ### divmod, // and % by what may be below 0 -/
def CDivQ (_ j : Int) : Prop := j ≠ 0 ∧ j.natAbs.log2 < 9000
instance : ∀ i j, Decidable (CDivQ i j) := fun i j => by unfold CDivQ; infer_instance
theorem op_fdivQ : OpR X (binaryOp .FloorDiv) (rI CDivQ fun i j => .int (i.fdiv j)) := opI fun i j _ _ _ _ _ hc q => floordiv_int hc.1 q (.inl (PyProof.noPylong_of_log2 hc.2))
theorem call_divmodQ : CallR X (.builtin "divmod") (fun xs H Q => ∃ i j, xs = [.int i, .int j] ∧ CDivQ i j ∧ ∀ p, H p = none → Q (.ref p) (upd H p (.tup [.int (i.fdiv j), .int (i.fmod j)]))) := by
  intro pins s σ H xs us Q I r h
  obtain ⟨i, j, rfl, hc, q⟩ := h
  obtain ⟨u1, u2, rfl, ⟨t1, rfl⟩, ⟨t2, rfl⟩⟩ := vals2 r
  refine divmod_int hc.1 ?_ (.inl (PyProof.noPylong_of_log2 hc.2))
  have hn : H s.heap.objs.size = none := I.hok.fresh (Nat.le_refl _)
  refine ⟨.ref s.heap.objs.size, _, ?_, rfl, q _ hn⟩
  refine I.laid (fun b o e => Heap.get?_push_of_some _ e) (Nat.le_refl _) ⟨by simp only [List.length_cons, List.length_nil]; rw [sizeLine_eq]; decide, [.int (i.fdiv j) s.toks, .int (i.fmod j) (s.toks + 1)], .cons ⟨_, rfl⟩ (.cons ⟨_, rfl⟩ .nil), ?_⟩
  exact ⟨_, Heap.get?_push_size s.heap rfl, rfl, 0, rfl⟩
def mDivN : Sem2 := mInt CDivQ fun i j => .int (i.fdiv j)
def mModN : Sem2 := mInt (fun _ j => j ≠ 0) fun i j => .int (i.fmod j)
def mDivmod : Sem2 := mInt CDivQ fun i j => .tup [.int (i.fdiv j), .int (i.fmod j)]
theorem pd_divN (x : PV Γ W X e1 f) (y : PV Γ W X e2 k) : PD Γ W X (.BinOp e1 .FloorDiv e2 pos) (eBin mDivN f k) := pd_bin op_fdivQ holds_int x y
theorem pd_modN (x : PV Γ W X e1 f) (y : PV Γ W X e2 k) : PD Γ W X (.BinOp e1 .Mod e2 pos) (eBin mModN f k) := pd_bin op_modN holds_int x y
theorem pd_divmod (hg : Gl X "divmod") (hn : X.mg "divmod" = none) (y : PV Γ W X e1 f) (z : PV Γ W X e2 k)
    (he : starEach [e1, e2] X.env = (false, eval e1 X.env) :: starEach [e2] X.env := by rfl) (he2 : starEach [e2] X.env = (false, eval e2 X.env) :: starEach [] X.env := by rfl)
    (hpl : (backTo pos (starEach [e2] X.env)).any (·.1) = false := by rfl) : PD Γ W X (.Call (.Name "divmod" ppos) [e1, e2] [] pos) (eBin mDivmod f k) := by
  refine pd_b2 call_divmodQ (fun Z Lt g st σ H x y v w Q s rx ry h => ?_) hg hn (by decide +kernel) y z (by decide) (by decide) he he2 hpl
  unfold mDivmod mInt at h
  split at h
  · split at h
    · rename_i i j c
      rw [rx.int, ry.int]
      refine ⟨i, j, rfl, c, fun p n => ?_⟩
      refine h (g.put p (.tup [.int (i.fdiv j), .int (i.fmod j)])) _ (s.new n _) (GT.put (s.sh.new n).2.1) _ ?_
      simp only [RD]
      exact ⟨p, _, rfl, .inl (.inl put_same), RDs.cons .int (RDs.cons .int RDs.nil)⟩
    · exact h.elim
  · exact h.elim
@[simp] theorem mDivN_i (i j : Int) : mDivN (.int i) (.int j) st = if CDivQ i j then .ok (.int (i.fdiv j)) st else .bad := id rfl
@[simp] theorem mModN_i (i j : Int) : mModN (.int i) (.int j) st = if j ≠ 0 then .ok (.int (i.fmod j)) st else .bad := id rfl
@[simp] theorem mDivmod_i (i j : Int) : mDivmod (.int i) (.int j) st = if CDivQ i j then .ok (.tup [.int (i.fdiv j), .int (i.fmod j)]) st else .bad := id rfl
end
end PL

/-! PyLite, part v: a field's own list or dict: lent for a while, changed in place. -/
namespace PL
open PySem PySem.Spec PyProof.Rows L2
section
variable {Γ : Tab} {W : WX} {Z Z' : Hp} {Lt Lt' : Lend} {g g' : GM} {st st' : LS} {σ σ' : L2.St} {H H' : Hp} {h h' : List LO} {a p : Addr} {o : HO} {d : D} {v : V} {X : Cx} {e e1 e2 e3 : Expr} {es : List Expr} {f k l : E D} {pos pos2 ppos apos tpos : Pos} {stm : Stmt} {sts : List Stmt} {f1 f2 : S} {D0 : Ends}

abbrev ltP (Lt : Lend) (p : Path) (a : Addr) : Lend := fun q => if q = p then some a else Lt q
theorem ltP_ne {p q : Path} (h : q ≠ p) : ltP Lt p a q = Lt q := if_neg h
theorem ltP_same {p : Path} : ltP Lt p a p = some a := if_pos rfl
/-- one field's word may be told otherwise, all else goes over -/
theorem FR.spec {r i : Nat} {C : Addr} {x0 x : FV} (nd : Γ.nm.Nodup) (m : ∀ (j : Nat) (y : FV) (v : V), j ≠ i → FVR Γ Z Lt g H (.fld r j) y v → FVR Γ Z' Lt' g H' (.fld r j) y v) :
    ∀ {fs : List (Nat × FV)} {ws : List (Str × V)}, FR Γ Z Lt g H r C fs ws → fs.lookup i = some x0 → (∀ n v, Γ.nm[i]? = some n → ws.lookup n = some v → FVR Γ Z Lt g H (.fld r i) x0 v → FVR Γ Z' Lt' g H' (.fld r i) x v) → FR Γ Z' Lt' g H' r C (putN i x fs) ws
  | [], _, _, e, _ => by simp at e
  | (j, y) :: fs, _, F, e, hx => by
    obtain ⟨n, v, q, rfl, h1, h2, h3, h5, h4⟩ := F
    unfold putN
    by_cases hf : j = i
    · subst hf
      rw [if_pos rfl]
      rw [List.lookup_cons, beq_self_eq_true] at e
      cases e
      refine ⟨n, v, q, rfl, h1, h2, hx n v h1 (by rw [List.lookup_cons, beq_self_eq_true]) h3, h5, ?_⟩
      have : ∀ {fs : List (Nat × FV)} {q : List (Str × V)}, (∀ z ∈ fs, z.1 ≠ j) → FR Γ Z Lt g H r C fs q → FR Γ Z' Lt' g H' r C fs q := by
        intro fs
        induction fs with
        | nil => intro q _ F; exact F
        | cons z fs ih =>
          intro q hz F
          obtain ⟨n, v, q, e, h1, h2, h3, h5, h4⟩ := F
          exact ⟨n, v, q, e, h1, h2, m _ _ _ (hz z List.mem_cons_self) h3, h5, ih (fun w m => hz w (List.mem_cons_of_mem _ m)) h4⟩
      exact this h5 h4
    · rw [if_neg hf]
      rw [List.lookup_cons, beq_false_of_ne (Ne.symm hf)] at e
      refine ⟨n, v, q, rfl, h1, h2, m _ _ _ hf h3, fun z mz => ?_, FR.spec nd m h4 e fun n' v' hn' l' fv => hx n' v' hn' (by rw [List.lookup_cons, beq_false_of_ne (nm_ne nd hn' h1 (Ne.symm hf))]; exact l') fv⟩
      rcases putN_keys mz with e | mz
      · rw [e]; exact Ne.symm hf
      · exact h5 z mz
theorem FR.maps {r : Nat} {C : Addr} (m : ∀ (j : Nat) (y : FV) (v : V), FVR Γ Z Lt g H (.fld r j) y v → FVR Γ Z' Lt' g H' (.fld r j) y v) : ∀ {fs : List (Nat × FV)} {ws : List (Str × V)}, FR Γ Z Lt g H r C fs ws → FR Γ Z' Lt' g H' r C fs ws
  | [], _, f => f
  | y :: fs, _, f => by
    obtain ⟨n, v, q, e, h1, h2, h3, h4, h5⟩ := f
    exact ⟨n, v, q, e, h1, h2, m _ _ _ h3, h4, FR.maps m h5⟩
theorem SH.spec {r i c : Nat} {fs : List (Nat × FV)} {x0 x : FV} (s : SH Γ Z Lt g h H) (hr : g.M[r]? = some a) (el : h[r]? = some (.ins c fs)) (ef : fs.lookup i = some x0)
    (m : ∀ (q : Path) (y : FV) (v : V), q ≠ .fld r i → FVR Γ Z Lt g H q y v → FVR Γ Z' Lt' g H' q y v) (hx : ∀ C dx ws n v, H a = some (.ins C dx ws) → Γ.nm[i]? = some n → ws.lookup n = some v → FVR Γ Z Lt g H (.fld r i) x0 v → FVR Γ Z' Lt' g H' (.fld r i) x v)
    (hM : ∀ b o, b ∈ g.M → H b = some o → H' b = some o) (gh : ∀ b o, g.G b = some o → H' b = some o) (zh : ∀ b o, Z' b = some o → H' b = some o) (gz : ∀ b o, Z' b = some o → g.G b = none)
    (mz : ∀ b, b ∈ g.M → ∀ o, Z' b = some o → Lt' (.lck b) = some b) (ml : ∀ b r u, Lt (.lck r) = some b → Z b = some u → Lt' (.lck r) = some b ∧ Z' b = some u) (lz : LzOk Lt' Z') : SH Γ Z' Lt' g (h.set r (.ins c (putN i x fs))) H' := by
  refine ⟨gh, zh, gz, by rw [List.length_set]; exact s.ml, s.mn, fun b mb => ⟨(s.mf b mb).1, mz b mb, (s.mf b mb).2.2⟩, fun j lo b e1 e2 => ?_, s.nd, lz⟩
  by_cases hj : j = r
  · subst hj
    rw [List.getElem?_set_self (List.getElem?_eq_some_iff.mp el).1] at e1
    cases e1
    rw [hr] at e2; cases e2
    obtain ⟨C, dx, ws, q1, q2, q3, q4⟩ := s.ob j _ a el hr
    exact ⟨C, dx, ws, q1, q2, hM _ _ (List.mem_of_getElem? hr) q3, FR.spec s.nd (fun i' y v hne => m _ y v (by simpa using hne)) q4 ef fun n v hn hl => hx C dx ws n v q3 hn hl⟩
  · rw [List.getElem?_set_ne (Ne.symm hj)] at e1
    have mb := List.mem_of_getElem? e2
    have := s.ob j lo b e1 e2
    cases lo with
    | ins c' fs' =>
      obtain ⟨C, dx, ws, q1, q2, q3, q4⟩ := this
      exact ⟨C, dx, ws, q1, q2, hM _ _ mb q3, FR.maps (fun i' y v => m _ y v (by simp [hj])) q4⟩
    | cell d =>
      obtain ⟨u, q1, q2⟩ := this
      exact ⟨u, hM _ _ mb q1, q2⟩
    | lck d =>
      obtain ⟨l, ob, u, q1, q2, q3⟩ := this
      obtain ⟨l', z'⟩ := ml _ _ _ l q2
      exact ⟨l', ob, u, hM _ _ mb q1, z', q3⟩
theorem fld_ins {r i : Nat} {x : FV} (e : st.fld r i = some x) : ∃ c fs, st.h[r]? = some (.ins c fs) ∧ fs.lookup i = some x ∧ ∀ y, st.setF r i y = { st with h := st.h.set r (.ins c (putN i y fs)) } := by
  unfold LS.fld at e
  split at e
  · rename_i c fs e1
    exact ⟨c, fs, e1, e, fun y => by unfold LS.setF; rw [e1]⟩
  · cases e
/-- the object of a field of one's own -/
theorem SR.fldA {r i : Nat} (s : SR Γ Z Lt g st σ H) (hr : g.M[r]? = some p) (e : st.fld r i = some (.own d)) : ∃ a, OA Γ Z g H (.fld r i) a d ∧ ∃ C dx ws n, H p = some (.ins C dx ws) ∧ Cls Γ.K C ∧ Γ.nm[i]? = some n ∧ NoAttr Γ.K C n ∧ ws.lookup n = some (.ref a) := by
  obtain ⟨C, dx, ws, n, v, h1, h2, h3, h4, h5, a, rfl, oa⟩ := s.fld hr e
  exact ⟨a, oa, C, dx, ws, n, h1, h2, h3, h4, h5⟩
theorem SR.lendF {r i : Nat} (s : SR Γ Z Lt g st σ H) (hr : g.M[r]? = some p) (e : st.fld r i = some (.own d)) :
    ∃ a o, SR Γ (upd Z a o) (ltP Lt (.fld r i) a) g (st.setF r i (.lent d)) σ H ∧ Z a = none ∧ g.O a = some (.fld r i) ∧ lk o = false := by
  obtain ⟨C, dx, ws, n, v, p1, p2, p3, p4, p5, a, rfl, h1, h2, h3, h4, o, h5, h6⟩ := s.fld hr e
  have hl : lk o = false := by
    cases o <;> first | rfl | (cases d <;> exact h6.elim)
  obtain ⟨c, fs, e1, e2, e3⟩ := fld_ins e
  have ne : ∀ {b : Addr} {q : Path}, g.O b = some q → q ≠ .fld r i → b ≠ a := fun {b q} z hq w => by subst w; rw [h3] at z; cases z; exact hq rfl
  have fv : ∀ (q : Path) (x : FV) (v : V), q ≠ .fld r i → FVR Γ Z Lt g H q x v → FVR Γ (upd Z a o) (ltP Lt (.fld r i) a) g H q x v := by
    intro q x v hq f
    cases x with
    | val d => exact f
    | own d =>
      obtain ⟨b, eb, k1, k2, k3, k4⟩ := f
      exact ⟨b, eb, k1, by rw [upd_ne (ne k3 hq)]; exact k2, k3, k4⟩
    | lent d =>
      obtain ⟨b, u, eb, k1, k2, k3⟩ := f
      exact ⟨b, u, eb, by rw [ltP_ne hq]; exact k1, by rw [upd_ne (ne_of_none k2 h2)]; exact k2, k3⟩
  refine ⟨a, o, ?_, h2, h3, hl⟩
  rw [e3]
  refine ⟨s.sh.spec hr e1 e2 fv (fun C' dx' ws' n' w g1 g2 g3 f => ?_) (fun b u _ z => z) s.sh.gh (fun b u z => ?_) (fun b u z => ?_) (fun b m => ?_) (fun b r u l z => ⟨by rw [ltP_ne (by simp)]; exact l, by rw [upd_ne (ne_of_none z h2)]; exact z⟩) (fun q b z => ?_), s.sl, fun j x ej => ?_⟩
  · rw [p1] at g1; cases g1
    rw [p3] at g2; cases g2
    rw [p5] at g3; cases g3
    exact ⟨a, o, rfl, ltP_same, upd_same, .inl h6⟩
  · by_cases c : b = a
    · subst c; rw [upd_same] at z; cases z; exact h5
    · rw [upd_ne c] at z; exact s.sh.zh b u z
  · by_cases c : b = a
    · subst c; exact h1
    · rw [upd_ne c] at z; exact s.sh.gz b u z
  · have nb : b ≠ a := fun z => h4 (by rw [← z]; exact m)
    intro u z
    rw [upd_ne nb] at z
    rw [ltP_ne (by simp)]; exact (s.sh.mf b m).2.1 u z
  · by_cases c : q = .fld r i
    · subst c; rw [ltP_same] at z; cases z; exact ⟨o, upd_same, trivial⟩
    · rw [ltP_ne c] at z
      obtain ⟨u, z', kq⟩ := s.sh.lz q b z
      exact ⟨u, by rw [upd_ne (ne_of_none z' h2)]; exact z', kq⟩
  · obtain ⟨w, e4, f⟩ := s.sv j x ej
    exact ⟨w, e4, fv _ _ _ (by simp) f⟩
theorem fv_unl {r i : Nat} (n : Z p = none) (lz : LzOk Lt Z) : ∀ (q : Path) (x : FV) (v : V), q ≠ .fld r i → FVR Γ (upd Z p o) (ltP Lt (.fld r i) p) g H q x v → FVR Γ Z Lt g H q x v := by
  intro q x v hq f
  cases x with
  | val d => exact f
  | own d =>
    obtain ⟨a, e, h1, h2, h3, h4⟩ := f
    have ne : a ≠ p := fun z => by subst z; rw [upd_same] at h2; cases h2
    exact ⟨a, e, h1, by rw [upd_ne ne] at h2; exact h2, h3, h4⟩
  | lent d =>
    obtain ⟨a, u, e, h1, h2, h3⟩ := f
    rw [ltP_ne hq] at h1
    obtain ⟨u', z, kq⟩ := lz q a h1
    have ne : a ≠ p := fun z' => by subst z'; rw [n] at z; cases z
    exact ⟨a, u, e, h1, by rw [upd_ne ne] at h2; exact h2, h3⟩
theorem SH.unlF {r i c : Nat} {fs : List (Nat × FV)} {lb : Addr} (s : SH Γ (upd Z p o) (ltP Lt (.fld r i) p) g h H) (hr : g.M[r]? = some lb) (e1 : h[r]? = some (.ins c fs)) (e2 : fs.lookup i = some (.lent d)) (n : Z p = none) (hl : lk o = false) (ho : g.O p = some (.fld r i)) (lz : LzOk Lt Z) : SH Γ Z Lt g (h.set r (.ins c (putN i (.own d) fs))) H := by
  obtain ⟨C, dx, ws, q1, q2, p1, q4⟩ := s.ob r _ lb e1 hr
  obtain ⟨nn, v, p3, p4, p5, a, u, rfl, h1, h2, h3⟩ := FR.get s.nd q4 e2
  rw [ltP_same] at h1; cases h1
  rw [upd_same] at h2; cases h2
  have fv := fv_unl (Γ := Γ) (r := r) (i := i) (o := o) (g := g) (H := H) n lz
  have zz : ∀ {a u}, Z a = some u → upd Z p o a = some u := fun {a u} z => by rw [upd_ne (ne_of_none z n)]; exact z
  have nM : p ∉ g.M := fun m => by
    have l := (s.mf p m).2.1 _ upd_same
    rw [ltP_ne (by simp)] at l
    exact unm n lz l rfl
  have mz : ∀ b, b ∈ g.M → ∀ o, Z b = some o → Lt (.lck b) = some b := fun b m u z => by
    have l := (s.mf b m).2.1 u (zz z)
    rw [ltP_ne (by simp)] at l; exact l
  refine s.spec hr e1 e2 fv (fun C' dx' ws' n' w g1 g2 g3 f => ?_) (fun b u _ z => z) s.gh (fun b u z => s.zh b u (zz z)) (fun b u z => s.gz b u (zz z)) mz (fun b r u l z => by rw [ltP_ne (by simp)] at l; exact ⟨l, by rw [upd_ne (unm n lz l)] at z; exact z⟩) lz
  rw [p1] at g1; cases g1
  rw [p3] at g2; cases g2
  rw [p5] at g3; cases g3
  exact ⟨p, rfl, s.gz p o upd_same, n, ho, nM, o, s.zh p o upd_same, h3.nolk hl⟩
theorem SR.unlF {r i : Nat} {lb : Addr} (s : SR Γ (upd Z p o) (ltP Lt (.fld r i) p) g st σ H) (hr : g.M[r]? = some lb) (e : st.fld r i = some (.lent d)) (n : Z p = none) (hl : lk o = false) (ho : g.O p = some (.fld r i)) (lz : LzOk Lt Z) : SR Γ Z Lt g (st.setF r i (.own d)) σ H := by
  obtain ⟨c, fs, e1, e2, e3⟩ := fld_ins e
  rw [e3]
  refine ⟨s.sh.unlF hr e1 e2 n hl ho lz, s.sl, fun j x ej => ?_⟩
  obtain ⟨w, e4, f⟩ := s.sv j x ej
  exact ⟨w, e4, fv_unl n lz _ _ _ (by simp) f⟩
def Res.unF {α : Type} (r i : Nat) : Res α → Res α
  | .ok a st => match st.fld r i with
    | some (.lent d) => .ok a (st.setF r i (.own d))
    | _ => .bad
  | .exc x st => match st.fld r i with
    | some (.lent d) => .exc x (st.setF r i (.own d))
    | _ => .bad
  | .bad => .bad
def SRes.unF (r i : Nat) : SRes → SRes
  | .nx st => match st.fld r i with
    | some (.lent d) => .nx (st.setF r i (.own d))
    | _ => .bad
  | .ret x st => match st.fld r i with
    | some (.lent d) => .ret x (st.setF r i (.own d))
    | _ => .bad
  | .bk st => match st.fld r i with
    | some (.lent d) => .bk (st.setF r i (.own d))
    | _ => .bad
  | .ct st => match st.fld r i with
    | some (.lent d) => .ct (st.setF r i (.own d))
    | _ => .bad
  | .exc x st => match st.fld r i with
    | some (.lent d) => .exc x (st.setF r i (.own d))
    | _ => .bad
  | .bad => .bad
def eLendF {α : Type} (j i : Nat) (f : E α) : E α := fun st => match st.objAt j with
  | some r => match st.fld r i with
    | some (.own d) => (f (st.setF r i (.lent d))).unF r i
    | _ => f st
  | none => .bad
def sLendF (j i : Nat) (f : S) : S := fun st => match st.objAt j with
  | some r => match st.fld r i with
    | some (.own d) => (f (st.setF r i (.lent d))).unF r i
    | _ => f st
  | none => .bad
theorem SR.objM {j r : Nat} (s : SR Γ Z Lt g st σ H) (e : st.objAt j = some r) : ∃ b, g.M[r]? = some b := by
  obtain ⟨w, ew, rw'⟩ := s.sv j _ (objAt_eq e)
  obtain ⟨a, _, hr⟩ := RD.obj (show RD Γ g (.obj r) w from rw')
  exact ⟨a, hr⟩
theorem GT.mAt {r : Nat} {b : Addr} (t : GT Z g g') (hr : g.M[r]? = some b) : g'.M[r]? = some b := by
  obtain ⟨u, et⟩ := t.mp
  rw [et, List.getElem?_append_left (List.getElem?_eq_some_iff.mp hr).1]
  exact hr
theorem lend_goF {α : Type} {j i : Nat} {f : E α} {k : α → GM → LS → Hp → Prop} (s : SR Γ Z Lt g st σ H) (h : Go Γ W Z Lt σ (eLendF j i f st) g k) :
    ∃ Z' Lt' st', SR Γ Z' Lt' g st' σ H ∧ (∀ a o, Z a = some o → Z' a = some o) ∧ Go Γ W Z' Lt' σ (f st') g fun a g1 st1 H1 => ∀ g2 H2, SR Γ Z' Lt' g2 st1 σ H2 → GT Z' g1 g2 → ∃ st2, SR Γ Z Lt g2 st2 σ H2 ∧ (∀ b, Z b ≠ none → Z' b ≠ none) ∧ k a g2 st2 H2 := by
  unfold eLendF at h
  split at h
  · rename_i r ej
    obtain ⟨b, hr⟩ := s.objM ej
    split at h
    · rename_i d e
      obtain ⟨a, o, s', n, ho, hl⟩ := s.lendF hr e
      refine ⟨_, _, _, s', fun b u z => by rw [upd_ne (ne_of_none z n)]; exact z, ?_⟩
      revert h
      cases f (st.setF r i (.lent d)) with
      | ok x st1 =>
        intro h
        simp only [Res.unF] at h
        split at h
        · rename_i d1 e1
          intro g1 H1 s1 t1 g2 H2 s2 t2
          obtain ⟨t, o2⟩ := (t1.trans t2).unl n ho
          have s3 := s2.unlF (t.mAt hr) e1 n hl o2 s.sh.lz
          exact ⟨_, s3, fun b hb => by
            by_cases c : b = a
            · subst c; rw [upd_same]; simp
            · rw [upd_ne c]; exact hb, h g2 H2 s3 t⟩
        · exact h.elim
      | exc x st1 =>
        intro h
        simp only [Res.unF] at h
        split at h
        · rename_i d1 e1
          intro cls dd g1 H1 s1 t1 xr
          obtain ⟨t, o2⟩ := t1.unl n ho
          exact h cls dd g1 H1 (s1.unlF (t.mAt hr) e1 n hl o2 s.sh.lz) t xr
        · exact h.elim
      | bad => exact fun h => h
    · refine ⟨Z, Lt, st, s, fun _ _ z => z, ?_⟩
      exact h.imp fun a g1 st1 H1 s1 t1 k1 g2 H2 s2 t2 => ⟨st1, s2, fun b hb => hb, k1 g2 H2 s2 t2⟩
  · exact h.elim
theorem pd_lendF (j i : Nat) (x : PD Γ W X e f) : PD Γ W X e (eLendF j i f) := ⟨x.pe.csq fun σ H Q ⟨Z, Lt, g, st, s, h⟩ => by
  obtain ⟨Z', Lt', st', s', zz, h'⟩ := lend_goF s h
  refine ⟨Z', Lt', g, st', s', h'.imp fun d g1 st1 H1 s1 t1 k1 v r => ?_⟩
  obtain ⟨st2, s2, _, q⟩ := k1 g1 H1 s1 (GT.refl _ _) g1 H1 s1 (GT.refl _ _)
  exact q v r⟩
theorem pb_lendF (j i : Nat) {b : E Bool} (x : PB Γ W X e b) : PB Γ W X e (eLendF j i b) := ⟨x.pt.csq fun σ H Q ⟨Z, Lt, g, st, s, h⟩ => by
  obtain ⟨Z', Lt', st', s', zz, h'⟩ := lend_goF s h
  refine ⟨Z', Lt', g, st', s', h'.imp fun d g1 st1 H1 s1 t1 k1 => ?_⟩
  obtain ⟨st2, s2, _, q⟩ := k1 g1 H1 s1 (GT.refl _ _) g1 H1 s1 (GT.refl _ _)
  exact q⟩
theorem pf_lendF (j i : Nat) (x : PF Γ W X e f) : PF Γ W X e (eLendF j i f) := ⟨x.pe.csq fun σ H Q ⟨Z, Lt, g, st, s, h⟩ => by
  obtain ⟨Z', Lt', st', s', zz, h'⟩ := lend_goF s h
  refine ⟨Z', Lt', g, st', s', h'.imp fun d g1 st1 H1 s1 t1 k1 a r => ?_⟩
  obtain ⟨st2, s2, nz, q⟩ := k1 g1 H1 s1 (GT.refl _ _) g1 H1 s1 (GT.refl _ _)
  obtain ⟨r1, r2, r3⟩ := r
  refine q a ⟨r1, ?_, r3⟩
  cases e : Z a with
  | none => rfl
  | some u => exact absurd r2 (nz a (by rw [e]; simp))⟩
theorem st_lendF (j i : Nat) (x : PSt Γ W X stm f1) : PSt Γ W X stm (sLendF j i f1) := ⟨x.ps.csq fun D σ H ⟨Z, Lt, g, st, s, h⟩ => by
  unfold sLendF at h
  split at h
  · rename_i r ej
    obtain ⟨b, hr⟩ := s.objM ej
    split at h
    · rename_i d e
      obtain ⟨a, o, s', n, ho, hl⟩ := s.lendF hr e
      refine ⟨_, _, g, _, s', ?_⟩
      revert h
      cases f1 (st.setF r i (.lent d)) with
      | nx st1 =>
        intro h
        simp only [SRes.unF] at h
        split at h
        · rename_i d1 e1
          intro σ' g1 H1 s1 t1
          obtain ⟨t, o2⟩ := t1.unl n ho
          exact h σ' g1 H1 (s1.unlF (t.mAt hr) e1 n hl o2 s.sh.lz) t
        · exact h.elim
      | bk st1 =>
        intro h
        simp only [SRes.unF] at h
        split at h
        · rename_i d1 e1
          intro σ' g1 H1 s1 t1
          obtain ⟨t, o2⟩ := t1.unl n ho
          exact h σ' g1 H1 (s1.unlF (t.mAt hr) e1 n hl o2 s.sh.lz) t
        · exact h.elim
      | ct st1 =>
        intro h
        simp only [SRes.unF] at h
        split at h
        · rename_i d1 e1
          intro σ' g1 H1 s1 t1
          obtain ⟨t, o2⟩ := t1.unl n ho
          exact h σ' g1 H1 (s1.unlF (t.mAt hr) e1 n hl o2 s.sh.lz) t
        · exact h.elim
      | exc x st1 =>
        intro h
        simp only [SRes.unF] at h
        split at h
        · rename_i d1 e1
          intro cls dd σ' g1 H1 s1 t1 xr
          obtain ⟨t, o2⟩ := t1.unl n ho
          exact h cls dd σ' g1 H1 (s1.unlF (t.mAt hr) e1 n hl o2 s.sh.lz) t xr
        · exact h.elim
      | ret x st1 =>
        intro h
        simp only [SRes.unF] at h
        split at h
        · rename_i d1 e1
          intro v g1 H1 s1 t1 r
          obtain ⟨t, o2⟩ := t1.unl n ho
          obtain ⟨c, fs, k1, k2, k3⟩ := fld_ins e1
          refine h v g1 H1 (by rw [k3]; exact s1.unlF (t.mAt hr) k1 k2 n hl o2 s.sh.lz) t ?_
          cases x with
          | val d => exact r
          | own d =>
            obtain ⟨b, eb, h1, h2, h3⟩ := r
            refine ⟨b, eb, h1, ?_, h3⟩
            cases ez : Z b with
            | none => rfl
            | some u =>
              have ne : b ≠ a := ne_of_none ez n
              rw [upd_ne ne, ez] at h2; cases h2
          | lent d => obtain ⟨b, u, eb, h1, h2⟩ := r; cases h1
        · exact h.elim
      | bad => exact fun h => h
    · exact ⟨Z, Lt, g, st, s, h⟩
  · exact h.elim⟩

/-! ### .. changed in place -/
theorem SR.ownF {r i : Nat} (s : SR Γ Z Lt g st σ H) (hr : g.M[r]? = some p) (e : st.fld r i = some (.own d)) :
    ∃ a o C dx ws n, H p = some (.ins C dx ws) ∧ Cls Γ.K C ∧ Γ.nm[i]? = some n ∧ NoAttr Γ.K C n ∧ ws.lookup n = some (.ref a) ∧ H a = some o ∧ CR Γ g d o ∧ ∀ d' o', CR Γ g d' o' → SR Γ Z Lt g (st.setF r i (.own d')) σ (upd H a o') := by
  obtain ⟨C, dx, ws, n, v, p1, p2, p3, p4, p5, a, rfl, h1, h2, h3, h4, o, h5, h6⟩ := s.fld hr e
  refine ⟨a, o, C, dx, ws, n, p1, p2, p3, p4, p5, h5, h6, fun d' o' c' => ?_⟩
  obtain ⟨c, fs, e1, e2, e3⟩ := fld_ins e
  have kp : Kp Z g g H (upd H a o') fun q => q ≠ .fld r i := ⟨GT.refl _ _, fun b q u hq k1 k2 k3 k4 k5 => by
    have ne : b ≠ a := fun z => by subst z; rw [h3] at k3; cases k3; exact hq rfl
    exact ⟨k1, k3, k4, by rw [upd_ne ne]; exact k5⟩⟩
  rw [e3]
  refine ⟨s.sh.spec hr e1 e2 (fun q y v hq f => f.keep kp hq) (fun C' dx' ws' n' w g1 g2 g3 f => ?_) (fun b u m z => ?_) (fun b u z => ?_) (fun b u z => ?_) s.sh.gz (fun b m => (s.sh.mf b m).2.1) (fun b r u l z => ⟨l, z⟩) s.sh.lz, s.sl, fun j x ej => ?_⟩
  · rw [p1] at g1; cases g1
    rw [p3] at g2; cases g2
    rw [p5] at g3; cases g3
    exact ⟨a, rfl, h1, h2, h3, h4, o', upd_same, c'⟩
  · have ne : b ≠ a := fun z => h4 (by rw [← z]; exact m)
    rw [upd_ne ne]; exact z
  · rw [upd_ne (ne_of_none z h1)]; exact s.sh.gh b u z
  · rw [upd_ne (ne_of_none z h2)]; exact s.sh.zh b u z
  · obtain ⟨w, e4, f⟩ := s.sv j x ej
    exact ⟨w, e4, f.keep kp (by simp)⟩
/-- the field's address stays while it is lent -/
theorem SR.lentA {r i : Nat} (s : SR Γ Z Lt g st σ H) (hr : g.M[r]? = some p) (e : st.fld r i = some (.lent d)) : ∃ a o, Lt (.fld r i) = some a ∧ Z a = some o ∧ CRz Γ g d o ∧ ∃ C dx ws n, H p = some (.ins C dx ws) ∧ Cls Γ.K C ∧ Γ.nm[i]? = some n ∧ NoAttr Γ.K C n ∧ ws.lookup n = some (.ref a) := by
  obtain ⟨C, dx, ws, n, v, p1, p2, p3, p4, p5, a, o, rfl, h1, h2, h3⟩ := s.fld hr e
  exact ⟨a, o, h1, h2, h3, C, dx, ws, n, p1, p2, p3, p4, p5⟩
theorem fld_setF {r i : Nat} {x y : FV} (e : st.fld r i = some x) : (st.setF r i y).fld r i = some y := by
  obtain ⟨c, fs, e1, e2, e3⟩ := fld_ins e
  rw [e3]
  unfold LS.fld
  simp only
  rw [List.getElem?_set_self (List.getElem?_eq_some_iff.mp e1).1]
  simp only
  clear e1 e3
  induction fs with
  | nil => simp at e2
  | cons z fs ih =>
    obtain ⟨z1, z2⟩ := z
    unfold putN
    by_cases q : z1 = i
    · rw [if_pos q, List.lookup_cons, beq_self_eq_true]
    · rw [if_neg q, List.lookup_cons, beq_false_of_ne (Ne.symm q)]
      rw [List.lookup_cons, beq_false_of_ne (Ne.symm q)] at e2
      exact ih e2
/-- the field's object at one address, lent and had back -/
theorem SR.lendA {r i : Nat} (s : SR Γ Z Lt g st σ H) (hr : g.M[r]? = some p) (e : st.fld r i = some (.own d)) :
    ∃ a o C dx ws n, H p = some (.ins C dx ws) ∧ Cls Γ.K C ∧ Γ.nm[i]? = some n ∧ NoAttr Γ.K C n ∧ ws.lookup n = some (.ref a) ∧ H a = some o ∧ CR Γ g d o ∧ Z a = none ∧ g.O a = some (.fld r i) ∧ lk o = false ∧ SR Γ (upd Z a o) (ltP Lt (.fld r i) a) g (st.setF r i (.lent d)) σ H := by
  obtain ⟨a0, o0, C, dx, ws0, n, p1, p2, p3, p4, p5, p6, p7, _⟩ := s.ownF hr e
  obtain ⟨a, o, s', nz, ho, hl⟩ := s.lendF hr e
  obtain ⟨a1, o1, k1, k2, k3, C', dx', ws', n'', l1, l2, l3, l4, l5⟩ := s'.lentA hr (fld_setF (y := .lent d) e)
  rw [ltP_same] at k1; cases k1
  rw [p1] at l1; cases l1
  rw [p3] at l3; cases l3
  rw [p5] at l5; cases l5
  have : o = o0 := by
    have := s'.sh.zh a0 o upd_same
    rw [p6] at this; cases this; rfl
  subst this
  exact ⟨a0, o, C, dx, ws0, n, p1, p2, p3, p4, p5, p6, p7, nz, ho, hl, s'⟩
/-- an expression run while the field is lent -/
theorem GoS.unF {α : Type} {r i : Nat} {o : HO} {r0 : Res α} {kk : α → LS → SRes} (hr : g.M[r]? = some p) (n : Z a = none) (hl : lk o = false) (ho : g.O a = some (.fld r i)) (lz : LzOk Lt Z)
    (h : GoS Γ W Z Lt D0 (SRes.of (r0.unF r i) kk) g) : Go Γ W (upd Z a o) (ltP Lt (.fld r i) a) σ r0 g fun y g1 st1 H1 => ∀ g2 H2, SR Γ (upd Z a o) (ltP Lt (.fld r i) a) g2 st1 σ H2 → GT (upd Z a o) g1 g2 →
      ∃ d, st1.fld r i = some (.lent d) ∧ g2.M[r]? = some p ∧ SR Γ Z Lt g2 (st1.setF r i (.own d)) σ H2 ∧ GoS Γ W Z Lt D0 (kk y (st1.setF r i (.own d))) g2 := by
  revert h
  cases r0 with
  | ok y st1 =>
    intro h
    simp only [Res.unF] at h
    split at h
    · rename_i d1 e1
      intro g1 H1 s1 t1 g2 H2 s2 t2
      obtain ⟨t, o2⟩ := (t1.trans t2).unl n ho
      have s3 := s2.unlF (t.mAt hr) e1 n hl o2 lz
      exact ⟨d1, e1, t.mAt hr, s3, GoS.up h t⟩
    · exact h.elim
  | exc x st1 =>
    intro h
    simp only [Res.unF] at h
    split at h
    · rename_i d1 e1
      intro cls dd g1 H1 s1 t1 xr
      obtain ⟨t, o2⟩ := t1.unl n ho
      exact h cls dd σ g1 H1 (s1.unlF (t.mAt hr) e1 n hl o2 lz) t xr
    · exact h.elim
  | bad => exact fun h => h
/-- x.f.append(e) -/
def sAppF (j i : Nat) (f : E D) : S := fun st => match st.objAt j with
  | some r => match st.fld r i with
    | some (.own (.lst ds0)) => SRes.of ((f (st.setF r i (.lent (.lst ds0)))).unF r i) fun y s1 => match s1.fld r i with
      | some (.own (.lst ds)) => if ds.length < 16777216 then .nx (s1.setF r i (.own (.lst (ds ++ [y])))) else .bad
      | _ => .bad
    | _ => .bad
  | none => .bad
theorem st_appF {i j : Nat} {x n : Str} {xpos fpos : Pos} (hn : Γ.nm[i]? = some n) (hK : X.K = Γ.K) (hN : X.N[j]? = some x) (hv : Vis X.env.scope x) (y : PD Γ W X e f) (hd : (x == ("__debug__" : Str)) = false := by decide) (hcd : (x == ("__classdict__" : Str)) = false := by decide)
    (hb0 : attributeBase (.Name x xpos) n X.env (eval (.Name x xpos) X.env) = eval (.Name x xpos) X.env := by rfl)
    (hbase : attributeBase (.Attribute (.Name x xpos) n fpos) "append" X.env (eval (.Attribute (.Name x xpos) n fpos) X.env) = eval (.Attribute (.Name x xpos) n fpos) X.env := by rfl)
    (hfew : ((backTo ppos (starEach [e] X.env)).all (fun x => !x.1) && (backToKw ppos (keywordEach [] X.env)).all (fun x => x.1.isSome)
      && decide ([e].length + ([] : List Keyword).length + (if ([] : List Keyword).isEmpty then 0 else 1) < 30)) = true := by rfl)
    (hline : (apos.endLine == ppos.line) = true := by rfl) (hs : starEach [e] X.env = (false, eval e X.env) :: starEach [] X.env := by rfl) (hplain : (backTo ppos (starEach [] X.env)).any (·.1) = false := by rfl)
    (hsw : swapsWith (.Call (.Attribute (.Attribute (.Name x xpos) n fpos) "append" apos) [e] [] ppos) none pos.line X.env = pure false := by rfl) :
    PSt Γ W X (.Expr (.Call (.Attribute (.Attribute (.Name x xpos) n fpos) "append" apos) [e] [] ppos) pos) (sAppF j i f) := by
  refine ⟨(ps_expr (pe_bm PySem.F.plainAttrs_list PySem.F.slot_list_append PySem.F.type_list_append mt_append (pe_fld (pe_var hN hv hd hcd) hb0) (pa_cons y.pe pa_nil hs) hbase hfew hline hs hplain) hsw).csq fun D σ H ⟨Z, Lt, g, st, s, h⟩ => ?_⟩
  unfold sAppF at h
  cases ej : st.objAt j with
  | none => rw [ej] at h; exact h.elim
  | some r =>
    rw [ej] at h
    simp only at h
    obtain ⟨w, ew, rw'⟩ := s.sv j _ (objAt_eq ej)
    obtain ⟨b, rfl, hr⟩ := RD.obj (show RD Γ g (.obj r) w from rw')
    split at h
    · rename_i ds0 e0
      obtain ⟨a, o, C, dx, ws, n', p1, p2, p3, p4, p5, p6, p7, nz, ho, hl, s'⟩ := s.lendA hr e0
      rw [hn] at p3; cases p3
      obtain ⟨vs, rfl, _⟩ := p7.lst
      refine ⟨_, ew, b, C, dx, ws, .ref a, rfl, p1, by rw [hK]; exact p2, by rw [hK]; exact p4, p5, .inl ⟨rfl, vs, SqL.of p6⟩, _, _, g, _, s', (GoS.unF hr nz hl ho s.sh.lz h).imp fun d g1 st1 H1 s1 t1 k1 v rv => ?_⟩
      obtain ⟨d1, q1, q2, q3, q4⟩ := k1 g1 H1 s1 (GT.refl _ _) g1 H1 s1 (GT.refl _ _)
      obtain ⟨a1, o1, l1, l2, l3, _⟩ := s1.lentA q2 q1
      rw [ltP_same] at l1; cases l1
      have e5 := fld_setF (y := .own d1) q1
      rw [e5] at q4
      cases d1 with
      | lst ds =>
        simp only at q4
        split at q4
        · rename_i hlen
          obtain ⟨a2, o2, C2, dx2, ws2, n2, r1, r2, r3, r4, r5, r6, r7, r8⟩ := q3.ownF q2 e5
          obtain ⟨a3, o3, l1', l2', l3', C3, dx3, ws3, n3, m1, m2, m3, m4, m5⟩ := s1.lentA q2 q1
          rw [ltP_same] at l1'; cases l1'
          rw [r1] at m1; cases m1
          rw [r3] at m3; cases m3
          rw [r5] at m5; cases m5
          obtain ⟨vs2, rfl, rs2⟩ := r7.lst
          refine ⟨a, vs2, v, rfl, rfl, r6, by rw [← rs2.length, sizeLine_eq]; exact hlen, q4 σ g1 _ (?_) (GT.refl _ _)⟩
          exact r8 (.lst (ds ++ [d])) (.lst (vs2 ++ [v])) (rs2.append (RDs.cons rv RDs.nil))
        · exact q4.elim
      | _ => exact q4.elim
    · exact h.elim
/-- x.f[k] = e, a list -/
def sPutF (j i : Nat) (fk fe : E D) : S := fun st => SRes.of (fe st) fun d s1 => match s1.objAt j with
  | some r => match s1.fld r i with
    | some (.own (.lst ds0)) => SRes.of ((fk (s1.setF r i (.lent (.lst ds0)))).unF r i) fun jx s2 => match s2.fld r i, jx with
      | some (.own (.lst ds)), .int q => match ixD ds.length q with
        | some n => .nx (s2.setF r i (.own (.lst (ds.set n d))))
        | none => .bad
      | _, _ => .bad
    | _ => .bad
  | none => .bad
theorem st_putF {i j : Nat} {x n : Str} {ei : Expr} {xpos fpos : Pos} (hn : Γ.nm[i]? = some n) (hK : X.K = Γ.K) (hN : X.N[j]? = some x) (hv : Vis X.env.scope x) (z : PD Γ W X ei k) (y : PD Γ W X e f) (hd : (x == ("__debug__" : Str)) = false := by decide) (hcd : (x == ("__classdict__" : Str)) = false := by decide)
    (hb0 : attributeBase (.Name x xpos) n X.env (eval (.Name x xpos) X.env) = eval (.Name x xpos) X.env := by rfl)
    (ha : ∀ v, assign (.Subscript (.Attribute (.Name x xpos) n fpos) ei apos) X.env v = (do
      let ov ← holding [v] (eval (.Attribute (.Name x xpos) n fpos) X.env)
      let iv ← holding [v, ov] (eval ei X.env)
      standAt apos
      holding [v, ov, iv] (setItem ov iv v)
      release [v, ov, iv] []) := by intro _; rfl)
    (hs : swapsWithSole [.Subscript (.Attribute (.Name x xpos) n fpos) ei apos] e pos.line X.env = pure false := by rfl) (hw : swappedStores [.Subscript (.Attribute (.Name x xpos) n fpos) ei apos] e X.env = pure none := by rfl)
    (h1 : (assignEach [.Subscript (.Attribute (.Name x xpos) n fpos) ei apos] X.env).map (·.2) = [assign (.Subscript (.Attribute (.Name x xpos) n fpos) ei apos) X.env] := by rfl) :
    PSt Γ W X (.Assign [.Subscript (.Attribute (.Name x xpos) n fpos) ei apos] e pos) (sPutF j i k f) := by
  refine ⟨(ps_asg y.pe (pg_sub (pe_fld (pe_var hN hv hd hcd) hb0) z.pe set_list ha) hs hw h1).csq fun D σ H ⟨Z, Lt, g, st, s, h⟩ => ⟨Z, Lt, g, st, s, (GoS.of h).imp fun d g1 st1 H1 s1 t1 k1 v rv => ?_⟩⟩
  have h := k1 g1 H1 s1 (GT.refl _ _)
  cases ej : st1.objAt j with
  | none => rw [ej] at h; exact h.elim
  | some r =>
    rw [ej] at h
    simp only at h
    obtain ⟨w, ew, rw'⟩ := s1.sv j _ (objAt_eq ej)
    obtain ⟨b, rfl, hr⟩ := RD.obj (show RD Γ g1 (.obj r) w from rw')
    split at h
    · rename_i ds0 e0
      obtain ⟨a, o, C, dx, ws, n', p1, p2, p3, p4, p5, p6, p7, nz, ho, hl, s'⟩ := s1.lendA hr e0
      rw [hn] at p3; cases p3
      obtain ⟨vs, rfl, _⟩ := p7.lst
      refine ⟨_, ew, b, C, dx, ws, .ref a, rfl, p1, by rw [hK]; exact p2, by rw [hK]; exact p4, p5, _, _, g1, _, s', (GoS.unF hr nz hl ho s1.sh.lz h).imp fun jx g2 st2 H2 s2 t2 k2 u ru => ?_⟩
      obtain ⟨d1, q1, q2, q3, q4⟩ := k2 g2 H2 s2 (GT.refl _ _) g2 H2 s2 (GT.refl _ _)
      have e5 := fld_setF (y := .own d1) q1
      rw [e5] at q4
      cases d1 with
      | lst ds =>
        cases jx with
        | int q =>
          simp only at q4
          split at q4
          · rename_i m em
            obtain ⟨a2, o2, C2, dx2, ws2, n2, r1, r2, r3, r4, r5, r6, r7, r8⟩ := q3.ownF q2 e5
            obtain ⟨a3, o3, l1', l2', l3', C3, dx3, ws3, n3, m1, m2, m3, m4, m5⟩ := s2.lentA q2 q1
            rw [ltP_same] at l1'; cases l1'
            rw [r1] at m1; cases m1
            rw [r3] at m3; cases m3
            rw [r5] at m5; cases m5
            obtain ⟨vs2, rfl, rs2⟩ := r7.lst
            simp only [RD] at ru; subst ru
            have tt := t2.unprot nz
            refine ⟨a, vs2, q, m, rfl, rfl, r6, by rw [ixN_ixD, ← rs2.length]; exact em, q4 σ g2 _ ?_ (GT.refl _ _)⟩
            exact r8 (.lst (ds.set m d)) (.lst (vs2.set m v)) (rs2.set (rv.up t2))
          · exact q4.elim
        | _ => exact q4.elim
      | _ => exact q4.elim
    · exact h.elim

/-! ### dicts: keys, reads -/
def kD : Key → D
  | .inl i => .int i
  | .inr x => .str x
def dKey : D → Option Key
  | .int i => some (.inl i)
  | .str x => some (.inr x)
  | _ => none
theorem RD.key {k : Key} (e : dKey d = some k) (r : RD Γ g d v) : v = kV k := by
  cases d with
  | int i => cases e; simp only [RD] at r; exact r
  | str i => cases e; simp only [RD] at r; exact r
  | _ => cases e
theorem CV.key {k : Key} (e : dKey d = some k) (r : CV Γ g H d v) : v = kV k := by
  cases d with
  | int i => cases e; exact r.int
  | str i => cases e; exact r.str
  | _ => cases e
theorem RD.kD (k : Key) : RD Γ g (kD k) (kV k) := by cases k <;> simp [PL.kD, RD, kV]
def valD (kvs : List (Key × D)) (k : Key) : Option D := (kvs.find? fun kv => decide (kv.1 = k)).map (·.2)
def putD (kvs : List (Key × D)) (k : Key) (d : D) : List (Key × D) :=
  if (kvs.any fun kv => decide (kv.1 = k)) = true then kvs.map (fun kv => if kv.1 = k then (kv.1, d) else kv) else kvs ++ [(k, d)]
theorem RDk.val {k : Key} : ∀ {kvs : List (Key × D)} {ws : List (Key × V)}, RDk Γ g kvs ws → (∃ d v, valD kvs k = some d ∧ valV ws k = some v ∧ RD Γ g d v) ∨ (valD kvs k = none ∧ valV ws k = none)
  | [], ws, r => by simp only [RDk] at r; subst r; exact .inr ⟨rfl, rfl⟩
  | (k', d) :: kvs, ws, r => by
    simp only [RDk] at r
    obtain ⟨v, q, rfl, r1, r2⟩ := r
    by_cases c : k' = k
    · exact .inl ⟨d, v, by simp [valD, c], by simp [valV, c], r1⟩
    · rcases RDk.val (k := k) r2 with ⟨d', v', e1, e2, r'⟩ | ⟨e1, e2⟩
      · exact .inl ⟨d', v', by simpa [valD, c] using e1, by simpa [valV, c] using e2, r'⟩
      · exact .inr ⟨by simpa [valD, c] using e1, by simpa [valV, c] using e2⟩
theorem RDk.any {k : Key} : ∀ {kvs : List (Key × D)} {ws : List (Key × V)}, RDk Γ g kvs ws → (kvs.any fun kv => decide (kv.1 = k)) = (ws.any fun kv => decide (kv.1 = k))
  | [], ws, r => by simp only [RDk] at r; subst r; rfl
  | (k', d) :: kvs, ws, r => by
    simp only [RDk] at r
    obtain ⟨v, q, rfl, r1, r2⟩ := r
    simp only [List.any_cons, RDk.any r2]
theorem RDk.append : ∀ {ks ls : List (Key × D)} {ws us : List (Key × V)}, RDk Γ g ks ws → RDk Γ g ls us → RDk Γ g (ks ++ ls) (ws ++ us)
  | [], ls, ws, us, r, r' => by simp only [RDk] at r; subst r; simpa using r'
  | (k', d) :: kvs, ls, ws, us, r, r' => by
    simp only [RDk] at r
    obtain ⟨v, q, rfl, r1, r2⟩ := r
    rw [List.cons_append, List.cons_append]
    simp only [RDk]
    exact ⟨v, q ++ us, rfl, r1, RDk.append r2 r'⟩
theorem RDk.one {k : Key} (r : RD Γ g d v) : RDk Γ g [(k, d)] [(k, v)] := by simp only [RDk]; exact ⟨v, [], rfl, r, rfl⟩
theorem RDk.nil : RDk Γ g [] [] := by simp [RDk]
theorem RDk.put {k : Key} {kvs : List (Key × D)} {ws : List (Key × V)} (r : RDk Γ g kvs ws) (x : RD Γ g d v) : RDk Γ g (putD kvs k d) (putK ws k v) := by
  unfold putD putK
  rw [r.any (k := k)]
  split
  · have : ∀ {kvs : List (Key × D)} {ws : List (Key × V)}, RDk Γ g kvs ws → RDk Γ g (kvs.map fun kv => if kv.1 = k then (kv.1, d) else kv) (ws.map fun kv => if kv.1 = k then (kv.1, v) else kv) := by
      intro kvs
      induction kvs with
      | nil => intro ws r; simp only [RDk] at r; subst r; exact RDk.nil
      | cons p kvs ih =>
        intro ws r
        obtain ⟨k', d'⟩ := p
        simp only [RDk] at r
        obtain ⟨v', q, rfl, r1, r2⟩ := r
        rw [List.map_cons, List.map_cons]
        have := ih r2
        by_cases c : k' = k
        · subst c
          simp only [if_true, RDk]
          exact ⟨v, _, rfl, x, this⟩
        · simp only [if_neg c, RDk]
          exact ⟨v', _, rfl, r1, this⟩
    exact this r
  · exact r.append (RDk.one x)
def mDGet : Sem2 := fun x y st => match x, dKey y with
  | .dic kvs, some k => match valD kvs k with
    | some d => .ok d st
    | none => .bad
  | _, _ => .bad
theorem pd_dget (hu : X.A.units + 64 < cLine) (x : PV Γ W X e1 f) (y : PV Γ W X e2 k) (hs : NoSl e2 := by intro _ _; rfl) : PD Γ W X (.Subscript e1 e2 pos) (eBin mDGet f k) := by
  refine ⟨(pe_dget (by omega) x.pe y.pe hs).csq fun σ H Q h => two (X := X) (r := fun x y H Q => ∃ a v, x = .ref a ∧ DGet H a y (some v) ∧ Q v H) (fun Z Lt g st σ H x y v w Q s rx ry h => ?_) h⟩
  unfold mDGet at h
  split at h
  · rename_i kvs k' ek
    split at h
    · rename_i d ed
      obtain ⟨a, ws, rfl, ha, r⟩ := rx.dic s
      rw [ry.key ek]
      rcases r.val (k := k') with ⟨d', v', q1, q2, q3⟩ | ⟨q1, _⟩
      · rw [ed] at q1; cases q1
        exact ⟨a, v', rfl, .inl ⟨ws, k', ha, rfl, q2.symm⟩, h g H s (GT.refl _ _) _ q3⟩
      · rw [ed] at q1; cases q1
    · exact h.elim
  · exact h.elim
def mDIn (neg : Bool) : Sem2 := fun y x st => match x, dKey y with
  | .dic kvs, some k => .ok (.bl ((valD kvs k).isSome != neg)) st
  | _, _ => .bad
theorem holds_din {neg : Bool} {q : Bool → Bool} (hq : ∀ b, q b = (b != neg)) : Holds2 Γ W X (fun y x H Q => ∃ a o, x = .ref a ∧ DGet H a y o ∧ Q (.bl (q o.isSome)) H) (mDIn neg) := by
  intro Z Lt g st σ H y x w v Q s ry rx h
  unfold mDIn at h
  split at h
  · rename_i kvs k' ek
    obtain ⟨a, ws, rfl, ha, r⟩ := rx.dic s
    rw [ry.key ek]
    rcases r.val (k := k') with ⟨d', v', q1, q2, q3⟩ | ⟨q1, q2⟩
    · rw [q1, ← hq] at h
      exact ⟨a, some v', rfl, .inl ⟨ws, k', ha, rfl, q2.symm⟩, ret_bl s h⟩
    · rw [q1, ← hq] at h
      exact ⟨a, none, rfl, .inl ⟨ws, k', ha, rfl, q2.symm⟩, ret_bl s h⟩
  · exact h.elim
theorem pd_din (hu : X.A.units + 64 < cLine) (y : PV Γ W X e1 f) (x : PV Γ W X e2 k) (hb : behindInMarks .In e2 = false := by first | exact nobehind _ (by decide) (by decide) | rfl) : PD Γ W X (.Compare e1 [.In] [e2] pos) (eBin (mDIn false) f k) :=
  ⟨(pe_cmp (pc_din (by omega) y.pe x.pe) hb).csq fun σ H Q h => two (X := X) (holds_din (X := X) (q := fun b => b) (by decide)) h⟩
theorem pb_din (hu : X.A.units + 64 < cLine) (y : PV Γ W X e1 f) (x : PV Γ W X e2 k) (hb : behindInMarks .In e2 = false := by first | exact nobehind _ (by decide) (by decide) | rfl) : PB Γ W X (.Compare e1 [.In] [e2] pos) (tst (eBin (mDIn false) f k)) :=
  ⟨(pt_cmp (pc_din (by omega) y.pe x.pe) hb).csq fun σ H Q h => two (X := X) (holds_din (X := X) (q := fun b => b) (by decide)) (tst_T h)⟩
theorem pd_dnin (hu : X.A.units + 64 < cLine) (y : PV Γ W X e1 f) (x : PV Γ W X e2 k) (hb : behindInMarks .NotIn e2 = false := by first | exact nobehind _ (by decide) (by decide) | rfl) : PD Γ W X (.Compare e1 [.NotIn] [e2] pos) (eBin (mDIn true) f k) :=
  ⟨(pe_cmp (pc_dnotin (by omega) y.pe x.pe) hb).csq fun σ H Q h => two (X := X) (holds_din (X := X) (q := fun b => !b) (by decide)) h⟩
theorem pb_dnin (hu : X.A.units + 64 < cLine) (y : PV Γ W X e1 f) (x : PV Γ W X e2 k) (hb : behindInMarks .NotIn e2 = false := by first | exact nobehind _ (by decide) (by decide) | rfl) : PB Γ W X (.Compare e1 [.NotIn] [e2] pos) (tst (eBin (mDIn true) f k)) :=
  ⟨(pt_cmp (pc_dnotin (by omega) y.pe x.pe) hb).csq fun σ H Q h => two (X := X) (holds_din (X := X) (q := fun b => !b) (by decide)) (tst_T h)⟩
/-- d.get(k, x) -/
def eDGet2 (f k l : E D) : E D := fun st => (f st).bind fun x s1 => match x with
  | .dic kvs => (k s1).bind fun y s2 => (l s2).bind fun z s3 => match dKey y with
    | some q => .ok ((valD kvs q).getD z) s3
    | none => .bad
  | _ => .bad
theorem SV.dicV {kvs : List (Key × D)} (r : SV Γ Z g (.dic kvs) v) : ∃ a ws, v = .ref a ∧ RDk Γ g kvs ws ∧ ∀ Lt g' st σ H, SR Γ Z Lt g' st σ H → GT Z g g' → Rd H a (.dK ws) := by
  rcases r with r | ⟨a, o, e, z, c | ⟨ob, u, e2, c⟩⟩
  · simp only [RD] at r
    obtain ⟨a, vs, e, q, r⟩ := r
    exact ⟨a, vs, e, r, fun Lt g' st σ H s t => (t.le.trans (GLe.sub s.sh.gh)) _ _ rfl q⟩
  · cases o <;> first | exact c.elim | exact ⟨a, _, e, c, fun Lt g' st σ H s t => .inl (s.sh.zh a _ z)⟩
  · subst e2
    cases u <;> first | exact c.elim | exact ⟨a, _, e, c, fun Lt g' st σ H s t => .inr ⟨ob, s.sh.zh a _ z⟩⟩
theorem RDk.up {ds : List (Key × D)} {vs : List (Key × V)} (h : RDk Γ g ds vs) (t : GT Z g g') : RDk Γ g' ds vs := RDk.mono t.le t.mp _ _ h
theorem pd_dget2 (hu : X.A.units + 64 < cLine) (x : PV Γ W X e1 f) (y : PD Γ W X e2 k) (z : PD Γ W X e3 l) (m : M2 X e1 "get" apos e2 e3 pos := by exact ⟨rfl, rfl, rfl, rfl⟩) : PD Γ W X (.Call (.Attribute e1 "get" apos) [e2, e3] [] pos) (eDGet2 f k l) := by
  refine ⟨(pe_dget2 (by omega) x.pe y.pe z.pe m).csq fun σ H Q ⟨Z, Lt, g, st, s, h⟩ => ⟨Z, Lt, g, st, s, h.bind.imp fun x g1 st1 H1 s1 t1 k1 v r1 => ?_⟩⟩
  have h := k1 g1 H1 s1 (GT.refl _ _)
  cases x with
  | dic kvs =>
    obtain ⟨a, ws, rfl, rk, st'⟩ := r1.dicV
    refine ⟨a, rfl, .inl ⟨ws, st' Lt g1 st1 σ H1 s1 (GT.refl _ _)⟩, Z, Lt, g1, st1, s1, (Go.bind h).imp fun y g2 st2 H2 s2 t2 k2 w r2 => ?_⟩
    refine ⟨Z, Lt, g2, st2, s2, (Go.bind (k2 g2 H2 s2 (GT.refl _ _))).imp fun z g3 st3 H3 s3 t3 k3 u r3 => ?_⟩
    have h := k3 g3 H3 s3 (GT.refl _ _)
    split at h
    · rename_i q eq
      rw [r2.key eq]
      have rk3 := (rk.up t2).up t3
      rcases rk3.val (k := q) with ⟨d', v', q1, q2, q3⟩ | ⟨q1, q2⟩
      · rw [q1] at h
        exact ⟨some v', .inl ⟨ws, q, st' Lt g3 st3 σ H3 s3 (t2.trans t3), rfl, q2.symm⟩, h g3 H3 s3 (GT.refl _ _) _ q3⟩
      · rw [q1] at h
        exact ⟨none, .inl ⟨ws, q, st' Lt g3 st3 σ H3 s3 (t2.trans t3), rfl, q2.symm⟩, h g3 H3 s3 (GT.refl _ _) _ r3⟩
    · exact h.elim
  | _ => exact h.elim
/-- {} -/
def eDNew : E D := fun st => .ok (.dic []) st
theorem SR.newTD {ws : List (Key × V)} {kvs : List (Key × D)} (s : SR Γ Z Lt g st σ H) (n : H p = none) (r : RDk Γ g kvs ws) : ∃ g', SR Γ Z Lt g' st σ (upd H p (.dK ws)) ∧ GT Z g g' ∧ OA Γ Z g' (upd H p (.dK ws)) .tmp p (.dic kvs) := by
  obtain ⟨s', t, x⟩ := s.newT (d := .dic kvs) (o := .dK ws) n r
  exact ⟨_, s', t, x⟩
theorem pf_dnew : PF Γ W X (.Dict [] [] pos) eDNew := ⟨pe_dnewK.csq fun σ H Q ⟨Z, Lt, g, st, s, h⟩ p n => by
  obtain ⟨g', s', t, x⟩ := s.newTD n RDk.nil
  exact h g' _ s' t p x⟩

/-! ### a name's own dict changes -/
def LS.ownD (st : LS) (i : Nat) : Option (List (Key × D)) := match st.s[i]? with
  | some (some (.own (.dic ds))) => some ds
  | _ => none
theorem ownD_eq {i : Nat} {ds : List (Key × D)} (e : st.ownD i = some ds) : st.s[i]? = some (some (.own (.dic ds))) := by
  unfold LS.ownD at e
  split at e
  · cases e; assumption
  · cases e
def sDPut (i : Nat) (fk fe : E D) : S := fun st => SRes.of (fe st) fun d s1 => match s1.ownD i with
  | some _ => SRes.of (fk s1) fun y s2 => match s2.ownD i, dKey y with
    | some kvs, some q => if kvs.length < 16777216 then .nx (s2.set i (.own (.dic (putD kvs q d)))) else .bad
    | _, _ => .bad
  | none => .bad
theorem st_dput {i : Nat} {x : Str} {ei : Expr} (hu : X.A.units + 64 < cLine) (hN : X.N[i]? = some x) (hv : Vis X.env.scope x) (z : PD Γ W X ei k) (y : PD Γ W X e f) (hd : (x == ("__debug__" : Str)) = false := by decide) (hcd : (x == ("__classdict__" : Str)) = false := by decide)
    (hs : swapsWith e (some (.Subscript (.Name x pos2) ei apos)) pos.line X.env = pure false := by rfl) :
    PSt Γ W X (.Assign [.Subscript (.Name x pos2) ei apos] e pos) (sDPut i k f) := by
  refine ⟨(ps_dput (by omega) (pe_var hN hv hd hcd) z.pe y.pe hs).csq fun D σ H ⟨Z, Lt, g, st, s, h⟩ => ⟨Z, Lt, g, st, s, (GoS.of h).imp fun d g1 st1 H1 s1 t1 k1 v r => ?_⟩⟩
  have k2 := k1 g1 H1 s1 (GT.refl _ _)
  cases e0 : st1.ownD i with
  | none => rw [e0] at k2; exact k2.elim
  | some ds0 =>
    rw [e0] at k2
    obtain ⟨a, o, e1, e2, c2, _⟩ := s1.own (ownD_eq e0)
    refine ⟨_, e1, Z, Lt, g1, st1, s1, (GoS.of k2).imp fun j g2 st2 H2 s2 t2 k3 w r2 => ?_⟩
    have k4 := k3 g2 H2 s2 (GT.refl _ _)
    cases e3 : st2.ownD i with
    | none => rw [e3] at k4; exact k4.elim
    | some ds =>
      rw [e3] at k4
      cases ek : dKey j with
      | none => rw [ek] at k4; exact k4.elim
      | some q =>
        rw [ek] at k4
        simp only at k4
        obtain ⟨b, o, e4, e5, c5, k5⟩ := s2.own (ownD_eq e3)
        rw [e1] at e4; cases e4
        obtain ⟨ws, rfl, rs⟩ := c5.dic
        split at k4
        · rename_i hl
          refine ⟨a, _, rfl, .inl ⟨ws, q, e5, r2.key ek, by rw [← rs.length, sizeLine_eq]; exact hl, rfl⟩, ?_⟩
          exact k4 σ g2 _ (k5 (.dic (putD ds q d)) (.dK (putK ws q v)) (rs.put (r.up t2))) (GT.refl _ _)
        · exact k4.elim
/-- x.f[k] = e, a dict -/
def sDPutF (j i : Nat) (fk fe : E D) : S := fun st => SRes.of (fe st) fun d s1 => match s1.objAt j with
  | some r => match s1.fld r i with
    | some (.own (.dic ds0)) => SRes.of ((fk (s1.setF r i (.lent (.dic ds0)))).unF r i) fun jx s2 => match s2.fld r i, dKey jx with
      | some (.own (.dic kvs)), some q => if kvs.length < 16777216 then .nx (s2.setF r i (.own (.dic (putD kvs q d)))) else .bad
      | _, _ => .bad
    | _ => .bad
  | none => .bad
theorem st_dputF {i j : Nat} {x n : Str} {ei : Expr} {xpos fpos : Pos} (hn : Γ.nm[i]? = some n) (hK : X.K = Γ.K) (hu : X.A.units + 64 < cLine) (hN : X.N[j]? = some x) (hv : Vis X.env.scope x) (z : PD Γ W X ei k) (y : PD Γ W X e f) (hd : (x == ("__debug__" : Str)) = false := by decide) (hcd : (x == ("__classdict__" : Str)) = false := by decide)
    (hb0 : attributeBase (.Name x xpos) n X.env (eval (.Name x xpos) X.env) = eval (.Name x xpos) X.env := by rfl)
    (hs : swapsWith e (some (.Subscript (.Attribute (.Name x xpos) n fpos) ei apos)) pos.line X.env = pure false := by rfl) :
    PSt Γ W X (.Assign [.Subscript (.Attribute (.Name x xpos) n fpos) ei apos] e pos) (sDPutF j i k f) := by
  refine ⟨(ps_dput (by omega) (pe_fld (pe_var hN hv hd hcd) hb0) z.pe y.pe hs).csq fun D σ H ⟨Z, Lt, g, st, s, h⟩ => ⟨Z, Lt, g, st, s, (GoS.of h).imp fun d g1 st1 H1 s1 t1 k1 v rv => ?_⟩⟩
  have h := k1 g1 H1 s1 (GT.refl _ _)
  cases ej : st1.objAt j with
  | none => rw [ej] at h; exact h.elim
  | some r =>
    rw [ej] at h
    simp only at h
    obtain ⟨w, ew, rw'⟩ := s1.sv j _ (objAt_eq ej)
    obtain ⟨b, rfl, hr⟩ := RD.obj (show RD Γ g1 (.obj r) w from rw')
    split at h
    · rename_i ds0 e0
      obtain ⟨a, o, C, dx, ws, n', p1, p2, p3, p4, p5, p6, p7, nz, ho, hl, s'⟩ := s1.lendA hr e0
      rw [hn] at p3; cases p3
      obtain ⟨vs, rfl, _⟩ := p7.dic
      refine ⟨_, ew, b, C, dx, ws, .ref a, rfl, p1, by rw [hK]; exact p2, by rw [hK]; exact p4, p5, _, _, g1, _, s', (GoS.unF hr nz hl ho s1.sh.lz h).imp fun jx g2 st2 H2 s2 t2 k2 u ru => ?_⟩
      obtain ⟨d1, q1, q2, q3, q4⟩ := k2 g2 H2 s2 (GT.refl _ _) g2 H2 s2 (GT.refl _ _)
      have e5 := fld_setF (y := .own d1) q1
      rw [e5] at q4
      cases d1 with
      | dic ds =>
        cases ek : dKey jx with
        | none => rw [ek] at q4; exact q4.elim
        | some q =>
          rw [ek] at q4
          simp only at q4
          split at q4
          · rename_i hlen
            obtain ⟨a2, o2, C2, dx2, ws2, n2, r1, r2, r3, r4, r5, r6, r7, r8⟩ := q3.ownF q2 e5
            obtain ⟨a3, o3, l1', l2', l3', C3, dx3, ws3, n3, m1, m2, m3, m4, m5⟩ := s2.lentA q2 q1
            rw [ltP_same] at l1'; cases l1'
            rw [r1] at m1; cases m1
            rw [r3] at m3; cases m3
            rw [r5] at m5; cases m5
            obtain ⟨vs2, rfl, rs2⟩ := r7.dic
            refine ⟨a, _, rfl, .inl ⟨vs2, q, r6, ru.key ek, by rw [← rs2.length, sizeLine_eq]; exact hlen, rfl⟩, q4 σ g2 _ ?_ (GT.refl _ _)⟩
            exact r8 (.dic (putD ds q d)) (.dK (putK vs2 q v)) (rs2.put (rv.up t2))
          · exact q4.elim
      | _ => exact q4.elim
    · exact h.elim
end
end PL

/-! PyLite, part w: sorted over dicts, dicts copied, loops over dicts. -/
namespace PLR
open PySem PySem.Spec PyProof.Rows L2
section
variable {prog : Program} {w : World} {A : Around} {E : Value → Shared → Prop} {s : Shared} {T : String} {r d : Addr} {n : Nat} {P : Nat → Value → Prop} {OK : Heap → Prop}
/-- sorted of any source of ints -/
theorem sorted_src {b : Bool} {kw : List (Str × Value)} {ns : List Int} {Q : Value → Shared → Prop} (K : PySem.W.KdlSrc prog w T r d n P OK) (hk : ∀ a, Builtin.«list.sort» ⟨[.ref a], kw⟩ = Builtin.«list.sort» ⟨[.ref a], [(Str.ofString "reverse", .bool b)]⟩)
    (ha1 : argsOk "sorted" ⟨[.ref r], kw⟩) (ha2 : ∀ a, argsOk "list.sort" ⟨[a], kw⟩) (hh : A.handled = none) (hok : OK s.heap) (hn : n ≤ sizeLine) (hI : ∀ vs : List Value, vs.length = n → (∀ (j : Nat) (v : Value), vs[j]? = some v → P j v) → IntsAre vs ns)
    (h : ∀ (h1 h' : Heap) (tk : Nat) (p : Addr) (out : Array Value) (ns' : List Int) (ep : Nat), (∀ b o, s.heap.get? b = some o → h1.get? b = some o) → (∀ b o, h1.get? b = some o → h'.get? b = some o) → h'.get? p = some (seqObj "list" out ep) → IntsAre out.toList ns' → ns'.Perm ns → Ordered b ns' → h1.objs.size ≤ p → Q (.ref p) { s with heap := h', toks := tk }) :
    wpAny (model prog w) A (call (.builtin "sorted") [.ref r] kw) Q E s := by
  refine call_function_entry_kw kind_sorted plain_sorted entry_sorted ha1 ?_
  unfold Builtin.«sorted»
  refine wpAny_bind (m := checkCount "sorted" 1 1 _) (wpAny_pure ?_)
  refine wpAny_bind (PySem.W.kdu_collect (A := A.in1) K hh hok hn fun h1 tk acc hkp hacc => ?_)
  have hl : acc.toList.length = n := by rw [Array.length_toList]; exact hacc.1
  have hi := hI acc.toList hl fun j v e => hacc.2 j v (by rw [← Array.getElem?_toList]; exact e)
  refine wpAny_bind (wpAny_newList ?_ (by rw [hl]; exact hn))
  have hoL : (h1.push (seqObj "list" acc.toList.toArray 0)).get? h1.objs.size = some (seqObj "list" acc.toList.toArray 0) := Heap.get?_push_size _ rfl
  refine wpAny_bind (wpAny_holding (wpAny_call_entry_kw slot_list_sort ⟨_, hoL, rfl⟩ entry_list_sort ?_ (ha2 _)))
  rw [hk]
  refine SrtR.list_sort_ordR SrtO.swo_int hoL (by rw [hl]; exact hn) (fun h2 => SrtO.ints_sortable hi h2) fun out hs hb => ⟨_, rfl, ?_⟩
  obtain ⟨ns', k1, k2, k3⟩ := SrtR.ints_outR hi hs hb
  obtain ⟨ep, he⟩ := sortedHeap_at (out := if b = true then out.toArray.reverse else out.toArray) hoL
  refine wpAny_pure ⟨_, rfl, h h1 _ tk _ _ ns' ep hkp (fun c o e => ?_) he k1 k2 k3 (Nat.le_refl _)⟩
  have hlt := Heap.lt_size e
  rw [sortedHeap_old (Nat.ne_of_lt hlt) (Nat.lt_of_lt_of_le hlt (by rw [Heap.size_push]; exact Nat.le_succ _))]
  exact Heap.get?_push_of_some _ e
end
/-- the ints of keys -/
def keysI : List (Key × V) → Option (List Int)
  | [] => some []
  | (.inl i, _) :: r => (keysI r).map (i :: ·)
  | _ => none
theorem sorted_done {X : Cx} {b : Bool} {pins : List (Addr × Obj)} {s : Shared} {σ : L2.St} {H : Hp} {ns : List Int} {Q : VK} (I : Inv X pins σ H s) (q : ∀ (ns' : List Int) (p : Addr), ns'.Perm ns → Ordered b ns' → H p = none → Q (.ref p) (upd H p (.lst (ns'.map V.int)))) (hz : ns.length ≤ sizeLine)
    {h1 h' : Heap} {tk : Nat} {p : Addr} {out : Array Value} {ns' : List Int} {ep : Nat} (k1 : ∀ b o, s.heap.get? b = some o → h1.get? b = some o) (k2 : ∀ b o, h1.get? b = some o → h'.get? b = some o) (hp : h'.get? p = some (seqObj "list" out ep)) (hi : IntsAre out.toList ns') (pm : ns'.Perm ns) (od : Ordered b ns') (sz : h1.objs.size ≤ p) : EP X pins σ Q (.ref p) { s with heap := h', toks := tk } := by
  have I1 : Inv X pins σ H { s with heap := h1, toks := tk } := I.kept (t' := tk) k1
  have I2 : Inv X pins σ (upd H p (.lst (ns'.map V.int))) { s with heap := h', toks := tk } := I1.laid (t' := tk) k2 sz ⟨by rw [List.length_map, pm.length_eq]; exact hz, out.toList, ep, vals_of_ints hi, by rw [Array.toArray_toList]; exact hp⟩
  exact ⟨.ref p, _, I2, rfl, q ns' p pm od (I1.hok.fresh sz)⟩
theorem sort_nokw (a : Addr) : Builtin.«list.sort» ⟨[.ref a], []⟩ = Builtin.«list.sort» ⟨[.ref a], [(Str.ofString "reverse", .bool false)]⟩ := by
  rw [list_sort_rev, list_sort_plain]
  first | rfl | kernel_rfl
theorem keysI_len : ∀ {kvs : List (Key × V)} {ns : List Int}, keysI kvs = some ns → ns.length = kvs.length
  | [], _, h => by simp [keysI] at h; subst h; rfl
  | (.inl i, _) :: r, ns, h => by
    simp only [keysI, Option.map_eq_some_iff] at h
    obtain ⟨m, h1, rfl⟩ := h
    simp [keysI_len h1]
  | (.inr i, _) :: r, ns, h => by simp [keysI] at h
theorem keysI_get : ∀ {kvs : List (Key × V)} {ns : List Int} {i : Nat} {k : Key} {v : V}, keysI kvs = some ns → kvs[i]? = some (k, v) → ∃ n, ns[i]? = some n ∧ k = .inl n
  | [], _, _, _, _, _, e => by simp at e
  | (.inl j, _) :: r, ns, i, k, v, h, e => by
    simp only [keysI, Option.map_eq_some_iff] at h
    obtain ⟨m, h1, rfl⟩ := h
    cases i with
    | zero => simp at e; exact ⟨j, rfl, e.1.symm⟩
    | succ i => exact keysI_get (i := i) h1 (by simpa using e)
  | (.inr j, _) :: r, ns, _, _, _, h, _ => by simp [keysI] at h
theorem ints_by : ∀ {vs : List Value} {ns : List Int}, vs.length = ns.length → (∀ (j : Nat) (v : Value), vs[j]? = some v → ∃ n t, ns[j]? = some n ∧ v = .int n t) → IntsAre vs ns
  | [], [], _, _ => .nil
  | v :: vs, n :: ns, hl, h => by
    obtain ⟨m, t, e1, e2⟩ := h 0 v rfl
    simp at e1
    subst e1 e2
    exact .cons _ t (ints_by (by simpa using hl) fun j u e => h (j + 1) u (by simpa using e))
  | [], _ :: _, hl, _ => by simp at hl
  | _ :: _, [], hl, _ => by simp at hl
/-- sorted(d): the keys, ints -/
theorem cr_sortedD {X : Cx} (hc : X.calm = true) : CallR X (.builtin "sorted") (fun vs H Q => ∃ (a : Addr) (kvs : List (Key × V)) (ns : List Int), vs = [V.ref a] ∧ Rd H a (.dK kvs) ∧ keysI kvs = some ns ∧ ∀ (ns' : List Int) (p : Addr), ns'.Perm ns → Ordered false ns' → H p = none → Q (.ref p) (upd H p (.lst (ns'.map V.int)))) := by
  intro pins s σ H vs us Q I r h
  obtain ⟨a, kvs, ns, rfl, hd, hk, q⟩ := h
  obtain rfl := Vals.ref1 r
  obtain ⟨z, hsys, ws, rel, dof⟩ := dk_rd I.hok hd
  obtain ⟨ep, dat⟩ := dof.dictAt
  have hl : ws.length = kvs.length := (Paired.length rel).symm
  have hz : ws.length ≤ sizeLine := by rw [hl]; exact z
  refine sorted_src (b := false) (ns := ns) (PySem.W.kdl_dict (knd := mixKind X.prog X.w) (kvs := ws) (ep := ep) hsys) sort_nokw (args_sorted1 _) (fun _ => PySem.F.args_list_sort_1 _) (I.ok.hd hc) dat hz (fun vs hvl hv => ints_by (by rw [hvl, hl, keysI_len hk]) fun j v e => ?_)
    fun h1 h' tk p out ns' ep' k1 k2 k3 k4 k5 k6 k7 => sorted_done I q (by rw [keysI_len hk, ← hl]; exact hz) k1 k2 k3 k4 k5 k6 k7
  obtain ⟨k, x, e1, e2⟩ := hv j v e
  obtain ⟨y, e3, _⟩ := KV.at' rel e1
  obtain ⟨n, e4, rfl⟩ := keysI_get hk e3
  rcases keyIs_shape (show keyIs (.inl n) v = true from e2) with ⟨i, t, q1, q2⟩ | ⟨i, t, q1, q2⟩
  · cases q1; exact ⟨n, t, e4, q2⟩
  · cases q1
/-! ### views -/
def valsO (p d : Addr) : HO := .ext fun h => h.IsValuesView p d
def keysO (p d : Addr) : HO := .ext fun h => PySem.W.KdlKeysView h p d
def tVals (td : TE) : TE := fun σ H Q => td σ H fun x H1 => ∃ a kvs, x = .ref a ∧ Rd H1 a (.dK kvs) ∧ ∀ p, H1 p = none → Q (.ref p) (upd H1 p (valsO p a))
def tKeys (td : TE) : TE := fun σ H Q => td σ H fun x H1 => ∃ a kvs, x = .ref a ∧ Rd H1 a (.dK kvs) ∧ ∀ p, H1 p = none → Q (.ref p) (upd H1 p (keysO p a))
section
variable {X : Cx} {o : Expr} {td : TE} {apos mpos : Pos}
theorem pe_vals (hd : PE X o td) (hbase : attributeBase o "values" X.env (eval o X.env) = eval o X.env := by rfl) (hline : (apos.endLine == mpos.line) = true := by rfl) : PE X (.Call (.Attribute o "values" apos) [] [] mpos) (tVals td) := by
  refine ⟨fun pins s σ H Q I h => ?_⟩
  refine wpAny_Call_method0_late hbase hline (thn (hd.run pins s σ H _ I h) fun v s1 ⟨x, H1, I1, r1, a, kvs, ex, ha, q⟩ => ?_)
  subst ex
  obtain rfl : v = Value.ref a := r1
  obtain ⟨z, hsys, vs, rel, dof⟩ := dk_rd I1.hok ha
  obtain ⟨ep, dat⟩ := dof.dictAt
  obtain ⟨ob, es, ho, ex, hdat, hko, hpr, hnd⟩ := id dat
  refine ⟨"dict", "dict.values", F.plainAttrs_dict, F.slot_dict_values, F.type_dict_values, ⟨ob, ho, ex.1⟩, fun b e => ?_, Calls.callWith_builtin rfl (PySem.evalArgs_none ?_)⟩
  · cases e
    exact ⟨ob, ho, ex.2.1⟩
  refine call_meetsIn F.slot_dict_values ⟨ob, ho, ex.1⟩ F.entry_dict_values (F.args_dict_values_1 _) (meets_dict_values (mixKind X.prog X.w) a hsys) ⟨⟨vs, dof⟩, ?_⟩
  have hf : H1 s1.heap.objs.size = none := I1.hok.fresh (Nat.le_refl _)
  exact ⟨.ref s1.heap.objs.size, upd H1 s1.heap.objs.size (valsO s1.heap.objs.size a), I1.laid (t' := s1.toks) (fun b u e => Heap.get?_push_of_some _ e) (Nat.le_refl _) ⟨⟨_, Heap.get?_push_size _ rfl, rfl, rfl⟩, ⟨_, Heap.get?_push_size _ rfl⟩, fun h1 h2 x k => let ⟨o, ho, r⟩ := x; ⟨o, k o ho, r⟩⟩, rfl, q _ hf⟩
theorem pe_keys (hd : PE X o td) (hbase : attributeBase o "keys" X.env (eval o X.env) = eval o X.env := by rfl) (hline : (apos.endLine == mpos.line) = true := by rfl) : PE X (.Call (.Attribute o "keys" apos) [] [] mpos) (tKeys td) := by
  refine ⟨fun pins s σ H Q I h => ?_⟩
  refine wpAny_Call_method0_late hbase hline (thn (hd.run pins s σ H _ I h) fun v s1 ⟨x, H1, I1, r1, a, kvs, ex, ha, q⟩ => ?_)
  subst ex
  obtain rfl : v = Value.ref a := r1
  obtain ⟨z, hsys, vs, rel, dof⟩ := dk_rd I1.hok ha
  obtain ⟨ep, dat⟩ := dof.dictAt
  obtain ⟨ob, es, ho, ex, hdat, hko, hpr, hnd⟩ := id dat
  refine ⟨"dict", "dict.keys", F.plainAttrs_dict, F.slot_dict_keys, F.type_dict_keys, ⟨ob, ho, ex.1⟩, fun b e => ?_, Calls.callWith_builtin rfl (PySem.evalArgs_none ?_)⟩
  · cases e
    exact ⟨ob, ho, ex.2.1⟩
  refine call_meetsIn F.slot_dict_keys ⟨ob, ho, ex.1⟩ F.entry_dict_keys (F.args_dict_keys_1 _) (PySem.W.kdl_meets_keys (mixKind X.prog X.w) a hsys) ⟨⟨vs, dof⟩, ?_⟩
  have hf : H1 s1.heap.objs.size = none := I1.hok.fresh (Nat.le_refl _)
  exact ⟨.ref s1.heap.objs.size, upd H1 s1.heap.objs.size (keysO s1.heap.objs.size a), I1.laid (t' := s1.toks) (fun b u e => Heap.get?_push_of_some _ e) (Nat.le_refl _) ⟨⟨_, Heap.get?_push_size _ rfl, rfl, rfl⟩, ⟨_, Heap.get?_push_size _ rfl⟩, fun h1 h2 x k => let ⟨o, ho, r⟩ := x; ⟨o, k o ho, r⟩⟩, rfl, q _ hf⟩
end
theorem vals_get {kvs : List (Key × V)} {ws : List (Key × Value)} {ns : List Int} (rel : KV kvs ws) (hn : kvs.map (·.2) = ns.map V.int) {j : Nat} {v : Value} (h : ∃ k, ws[j]? = some (k, v)) : ∃ n t, ns[j]? = some n ∧ v = .int n t := by
  obtain ⟨k, e1⟩ := h
  obtain ⟨x, h1, h2⟩ := KV.at' rel e1
  have e2 : (kvs.map (·.2))[j]? = some x := by rw [List.getElem?_map, h1]; rfl
  rw [hn, List.getElem?_map] at e2
  obtain ⟨n, e3, e4⟩ := Option.map_eq_some_iff.mp e2
  subst e4
  obtain ⟨t, e5⟩ := h2
  exact ⟨n, t, e3, e5⟩
/-- sorted(d.values(), reverse=b) -/
theorem cr_sortedVR {X : Cx} {b : Bool} (hc : X.calm = true) : CallRK X (.builtin "sorted") [Str.ofString "reverse"] (fun vs zs H Q => ∃ (p a : Addr) (kvs : List (Key × V)) (ns : List Int), vs = [V.ref p] ∧ zs = [.bl b] ∧ H p = some (valsO p a) ∧ Rd H a (.dK kvs) ∧ kvs.map (·.2) = ns.map V.int ∧ ∀ (ns' : List Int) (q : Addr), ns'.Perm ns → Ordered b ns' → H q = none → Q (.ref q) (upd H q (.lst (ns'.map V.int)))) := by
  intro pins s σ H vs zs us ws Q I r rz h
  obtain ⟨p, a, kvs, ns, rfl, rfl, hp, hd, hn, q⟩ := h
  obtain rfl := Vals.ref1 r
  obtain ⟨w1, rfl, e1⟩ := vals1 rz
  obtain rfl : w1 = Value.bool b := e1
  have view : s.heap.IsValuesView p a := (show ObjOk X.prog X.w H s.heap p (valsO p a) from I.hok p _ hp).1
  obtain ⟨z, hsys, ws, rel, dof⟩ := dk_rd I.hok hd
  obtain ⟨ep, dat⟩ := dof.dictAt
  have hl : ws.length = kvs.length := (Paired.length rel).symm
  have hz : ws.length ≤ sizeLine := by rw [hl]; exact z
  have hnl : ns.length = kvs.length := by have := congrArg List.length hn; simpa using this.symm
  refine sorted_src (b := b) (ns := ns) (PySem.W.kdl_values (knd := mixKind X.prog X.w) (kvs := ws) (ep := ep)) (fun _ => rfl) (args_sorted_rev _ _) (fun _ => args_list_sort_rev _ _) (I.ok.hd hc) ⟨view, dat⟩ hz (fun vs hvl hv => ints_by (by rw [hvl, hl, hnl]) fun j v e => vals_get rel hn (hv j v e))
    fun h1 h' tk p out ns' ep' k1 k2 k3 k4 k5 k6 k7 => sorted_done I q (by rw [hnl, ← hl]; exact hz) k1 k2 k3 k4 k5 k6 k7
/-- sorted(d.keys()) -/
theorem cr_sortedKs {X : Cx} (hc : X.calm = true) : CallR X (.builtin "sorted") (fun vs H Q => ∃ (p a : Addr) (kvs : List (Key × V)) (ns : List Int), vs = [V.ref p] ∧ H p = some (keysO p a) ∧ Rd H a (.dK kvs) ∧ keysI kvs = some ns ∧ ∀ (ns' : List Int) (p : Addr), ns'.Perm ns → Ordered false ns' → H p = none → Q (.ref p) (upd H p (.lst (ns'.map V.int)))) := by
  intro pins s σ H vs us Q I r h
  obtain ⟨p, a, kvs, ns, rfl, hp, hd, hk, q⟩ := h
  obtain rfl := Vals.ref1 r
  have view : PySem.W.KdlKeysView s.heap p a := (show ObjOk X.prog X.w H s.heap p (keysO p a) from I.hok p _ hp).1
  obtain ⟨z, hsys, ws, rel, dof⟩ := dk_rd I.hok hd
  obtain ⟨ep, dat⟩ := dof.dictAt
  have hl : ws.length = kvs.length := (Paired.length rel).symm
  have hz : ws.length ≤ sizeLine := by rw [hl]; exact z
  refine sorted_src (b := false) (ns := ns) (PySem.W.kdl_keys (knd := mixKind X.prog X.w) (kvs := ws) (ep := ep)) sort_nokw (args_sorted1 _) (fun _ => PySem.F.args_list_sort_1 _) (I.ok.hd hc) ⟨view, dat⟩ hz (fun vs hvl hv => ints_by (by rw [hvl, hl, keysI_len hk]) fun j v e => ?_)
    fun h1 h' tk p out ns' ep' k1 k2 k3 k4 k5 k6 k7 => sorted_done I q (by rw [keysI_len hk, ← hl]; exact hz) k1 k2 k3 k4 k5 k6 k7
  obtain ⟨k, x, e1, e2⟩ := hv j v e
  obtain ⟨y, e3, _⟩ := KV.at' rel e1
  obtain ⟨n, e4, rfl⟩ := keysI_get hk e3
  rcases keyIs_shape (show keyIs (.inl n) v = true from e2) with ⟨i, t, q1, q2⟩ | ⟨i, t, q1, q2⟩
  · cases q1; exact ⟨n, t, e4, q2⟩
  · cases q1
/-- list(d.values()) -/
theorem cr_listV {X : Cx} (hc : X.calm = true) : CallR X (.type "list") (fun vs H Q => ∃ (p a : Addr) (kvs : List (Key × V)), vs = [V.ref p] ∧ H p = some (valsO p a) ∧ Rd H a (.dK kvs) ∧ ∀ q, H q = none → Q (.ref q) (upd H q (.lst (kvs.map (·.2))))) := by
  intro pins s σ H vs us Q I r h
  obtain ⟨p, a, kvs, rfl, hp, hd, q⟩ := h
  obtain rfl := Vals.ref1 r
  have view : s.heap.IsValuesView p a := (show ObjOk X.prog X.w H s.heap p (valsO p a) from I.hok p _ hp).1
  obtain ⟨z, hsys, ws, rel, dof⟩ := dk_rd I.hok hd
  obtain ⟨ep, dat⟩ := dof.dictAt
  have hl : ws.length = kvs.length := (Paired.length rel).symm
  have hz : ws.length ≤ sizeLine := by rw [hl]; exact z
  refine PySem.W.kdl_call (PySem.W.kdl_values (knd := mixKind X.prog X.w) (kvs := ws) (ep := ep)) (I.ok.hd hc) ⟨view, dat⟩ hz fun h' tk acc' c' hkeep hS hacc => ?_
  refine ⟨.ref s.heap.objs.size, upd H s.heap.objs.size (.lst (kvs.map (·.2))), I.laid (t' := tk) hkeep (Nat.le_refl _) ⟨by rw [List.length_map]; exact z, acc'.toList, c', ?_, by rw [Array.toArray_toList]; exact hS⟩, rfl, q _ (I.hok.fresh (Nat.le_refl _))⟩
  have el : acc'.toList.length = kvs.length := by rw [Array.length_toList, hacc.1, hl]
  have key : ∀ (us : List Value) (xs : List V), us.length = xs.length → (∀ (j : Nat) (v : Value), us[j]? = some v → ∃ x, xs[j]? = some x ∧ RelV x v) → Vals xs us := by
    intro us
    induction us with
    | nil => intro xs hl _; cases xs with
      | nil => exact .nil
      | cons => simp at hl
    | cons u us ih =>
      intro xs hl h
      cases xs with
      | nil => simp at hl
      | cons x xs =>
        obtain ⟨x', e1, e2⟩ := h 0 u rfl
        simp at e1
        subst e1
        exact .cons e2 (ih xs (by simpa using hl) fun j v e => h (j + 1) v (by simpa using e))
  refine key _ _ (by rw [el, List.length_map]) fun j v e => ?_
  obtain ⟨k, e1⟩ := hacc.2 j v (by rw [← Array.getElem?_toList]; exact e)
  obtain ⟨x, h1, h2⟩ := KV.at' rel e1
  exact ⟨x, by rw [List.getElem?_map, h1]; rfl, h2⟩
end PLR
namespace PL
open PySem PySem.Spec PyProof.Rows L2
section
variable {Γ : Tab} {W : WX} {Z Z' : Hp} {Lt Lt' : Lend} {g g' : GM} {st st' : LS} {σ σ' : L2.St} {H H' : Hp} {h h' : List LO} {a p : Addr} {o : HO} {d : D} {v : V} {X : Cx} {e e1 e2 e3 : Expr} {es : List Expr} {f k l : E D} {pos pos2 ppos apos tpos mpos : Pos} {stm : Stmt} {sts : List Stmt} {f1 f2 : S} {D0 : Ends}

/-! ### sorted, of dicts too -/
def keysD : List (Key × D) → Option (List Int)
  | [] => some []
  | (.inl i, _) :: r => (keysD r).map (i :: ·)
  | _ => none
theorem RDk.keys : ∀ {kvs : List (Key × D)} {ws : List (Key × V)}, RDk Γ g kvs ws → PLR.keysI ws = keysD kvs
  | [], ws, r => by simp only [RDk] at r; subst r; rfl
  | (.inl i, d) :: kvs, ws, r => by
    simp only [RDk] at r
    obtain ⟨v, q, rfl, r1, r2⟩ := r
    simp only [PLR.keysI, keysD, RDk.keys r2]
  | (.inr i, d) :: kvs, ws, r => by
    simp only [RDk] at r
    obtain ⟨v, q, rfl, r1, r2⟩ := r
    simp only [PLR.keysI, keysD]
theorem RDk.vals : ∀ {kvs : List (Key × D)} {ws : List (Key × V)}, RDk Γ g kvs ws → RDs Γ g (kvs.map (·.2)) (ws.map (·.2))
  | [], ws, r => by simp only [RDk] at r; subst r; exact RDs.nil
  | (i, d) :: kvs, ws, r => by
    simp only [RDk] at r
    obtain ⟨v, q, rfl, r1, r2⟩ := r
    exact RDs.cons r1 (RDk.vals r2)
theorem ord_false {ns : List Int} (h : Ordered false ns) : ns.Pairwise (· ≤ ·) := by simpa [Ordered] using h
theorem ord_true {ns ms : List Int} (p : ms.Perm ns) (h : Ordered true ms) : ms = (srt ns).reverse := by
  have h : ms.Pairwise (· ≥ ·) := by simpa [Ordered] using h
  have h2 : ms.reverse.Pairwise (· ≤ ·) := by rw [List.pairwise_reverse]; exact h
  have := srt_unique ((List.reverse_perm ms).trans p) h2
  rw [← this, List.reverse_reverse]
def mSortedX : Sem1 := fun x st => match x with
  | .lst ds => match intsD ds with
    | some ns => .ok (.lst ((srt ns).map D.int)) st
    | none => .bad
  | .dic kvs => match keysD kvs with
    | some ns => .ok (.lst ((srt ns).map D.int)) st
    | none => .bad
  | _ => .bad
theorem pf_sortedX (hK : X.K = Γ.K) (hc : X.calm = true) (hg : Gl X "sorted") (hn : X.mg "sorted" = none) (y : PC Γ W X e f)
    (he : starEach [e] X.env = (false, eval e X.env) :: starEach [] X.env := by rfl) (hpl : (backTo pos (starEach [] X.env)).any (·.1) = false := by rfl) : PF Γ W X (.Call (.Name "sorted" ppos) [e] [] pos) (eUn mSortedX f) := by
  refine pf_b1 (cr_sortedI.or (PLR.cr_sortedD hc)) ?_ hg hn (by decide +kernel) y (by decide) (by decide) he hpl
  intro Z Lt g st σ H x v Q s rx h
  unfold mSortedX at h
  split at h
  · split at h
    · rename_i ds ns e
      rw [intsD_eq e] at rx
      obtain ⟨a, rfl, q⟩ := rx.ints s
      refine .inl ⟨a, ns, rfl, by rw [hK]; exact q, fun ns' p h1 h2 h3 => ?_⟩
      rw [srt_unique h1 h2]
      exact retF s (RDs.ofInts _) h p h3
    · exact h.elim
  · split at h
    · rename_i kvs ns e
      obtain ⟨a, ws, rfl, ha, r⟩ := rx.dic s
      refine .inr ⟨a, ws, ns, rfl, ha, by rw [r.keys]; exact e, fun ns' p h1 h2 h3 => ?_⟩
      rw [srt_unique h1 (ord_false h2)]
      exact retF s (RDs.ofInts _) h p h3
    · exact h.elim
  · exact h.elim
/-- sorted(d.values(), reverse=True) -/
def mSortedVR : Sem1 := fun x st => match x with
  | .dic kvs => match intsD (kvs.map (·.2)) with
    | some ns => .ok (.lst ((srt ns).reverse.map D.int)) st
    | none => .bad
  | _ => .bad
theorem PC.views {t : TE} {Q : VK} {m : Sem1} (hm : ∀ Z Lt g st σ H x v p, SR Γ Z Lt g st σ H → CV Γ g H x v → H p = none → True) : True := trivial
theorem SR.view {p : Addr} (s : SR Γ Z Lt g st σ H) (n : H p = none) (o : HO) : SR Γ Z Lt (g.put p o) st σ (upd H p o) ∧ GT Z g (g.put p o) := ⟨s.new n o, GT.put (s.sh.new n).2.1⟩
theorem pf_sortedVR (hK : X.K = Γ.K) (hc : X.calm = true) (hg : Gl X "sorted") (hn : X.mg "sorted" = none) (y : PC Γ W X e f) {kpos cpos : Pos} {j : Nat}
    (hbase : attributeBase e "values" X.env (eval e X.env) = eval e X.env := by rfl) (hline : (apos.endLine == mpos.line) = true := by rfl)
    (hs : starEach [.Call (.Attribute e "values" apos) [] [] mpos] X.env = (false, eval (.Call (.Attribute e "values" apos) [] [] mpos) X.env) :: starEach [] X.env := by rfl)
    (hk : PK X [⟨some (Str.ofString "reverse"), .Constant (.bool true) j cpos, kpos⟩] (tCons (tC (.bl true)) tNil) := by exact pk_cons pe_bl pk_nil)
    (he : backTo pos (starEach [.Call (.Attribute e "values" apos) [] [] mpos] X.env) = (false, eval (.Call (.Attribute e "values" apos) [] [] mpos) X.env) :: backTo pos (starEach [] X.env) := by rfl) (hpl : (backTo pos (starEach [.Call (.Attribute e "values" apos) [] [] mpos] X.env)).any (·.1) = false := by rfl)
    (hall : (backToKw pos (keywordEach [⟨some (Str.ofString "reverse"), .Constant (.bool true) j cpos, kpos⟩] X.env)).all (·.1.isSome) = true := by rfl) (hnone : (backToKw pos (keywordEach [⟨some (Str.ofString "reverse"), .Constant (.bool true) j cpos, kpos⟩] X.env)).any (·.1.isNone) = false := by rfl) (hks : (backToKw pos (keywordEach [⟨some (Str.ofString "reverse"), .Constant (.bool true) j cpos, kpos⟩] X.env)).filterMap (·.1) = [Str.ofString "reverse"] := by rfl) :
    PF Γ W X (.Call (.Name "sorted" ppos) [.Call (.Attribute e "values" apos) [] [] mpos] [⟨some (Str.ofString "reverse"), .Constant (.bool true) j cpos, kpos⟩] pos) (eUn mSortedVR f) := by
  refine ⟨(pe_callBK (PLR.cr_sortedVR (b := true) hc) hg hn (by decide +kernel) (pa_cons (PLR.pe_vals y.pe hbase hline) pa_nil hs) hk (by decide) (by decide) he hpl hall hnone hks).csq fun σ H Q ⟨Z, Lt, g, st, s, h⟩ => ⟨Z, Lt, g, st, s, (Go.bind h).imp fun d g1 st1 H1 s1 t1 k1 v r => ?_⟩⟩
  have h := k1 g1 H1 s1 (GT.refl _ _)
  unfold mSortedVR at h
  split at h
  · split at h
    · rename_i kvs ns en
      obtain ⟨a, ws, rfl, ha, rk⟩ := r.dic s1
      refine ⟨a, ws, rfl, ha, fun p n => ⟨p, a, ws, ns, rfl, rfl, upd_same, ?_, ?_, fun ns' q h1 h2 h3 => ?_⟩⟩
      · rcases ha with ha | ⟨ob, ha⟩
        · exact .inl (by rw [upd_ne (ne_of_none ha n)]; exact ha)
        · exact .inr ⟨ob, by rw [upd_ne (ne_of_none ha n)]; exact ha⟩
      · have rv := rk.vals
        rw [intsD_eq en] at rv
        exact rv.ints
      · obtain ⟨s2, t2⟩ := s1.view n (PLR.valsO p a)
        rw [ord_true h1 h2]
        exact retF (W := W) s2 (RDs.ofInts _) (fun g3 H3 s3 t3 => h g3 H3 s3 (t2.trans t3)) q h3
    · exact h.elim
  · exact h.elim
/-- sorted(d.keys()) -/
def mSortedK : Sem1 := fun x st => match x with
  | .dic kvs => match keysD kvs with
    | some ns => .ok (.lst ((srt ns).map D.int)) st
    | none => .bad
  | _ => .bad
theorem pf_sortedK (hK : X.K = Γ.K) (hc : X.calm = true) (hg : Gl X "sorted") (hn : X.mg "sorted" = none) (y : PC Γ W X e f)
    (hbase : attributeBase e "keys" X.env (eval e X.env) = eval e X.env := by rfl) (hline : (apos.endLine == mpos.line) = true := by rfl)
    (hs : starEach [.Call (.Attribute e "keys" apos) [] [] mpos] X.env = (false, eval (.Call (.Attribute e "keys" apos) [] [] mpos) X.env) :: starEach [] X.env := by rfl) (hpl : (backTo pos (starEach [] X.env)).any (·.1) = false := by rfl) :
    PF Γ W X (.Call (.Name "sorted" ppos) [.Call (.Attribute e "keys" apos) [] [] mpos] [] pos) (eUn mSortedK f) := by
  refine ⟨(pe_callB (PLR.cr_sortedKs hc) hg hn (by decide +kernel) (pa_cons (PLR.pe_keys y.pe hbase hline) pa_nil hs) (by decide) (by decide) hs hpl).csq fun σ H Q ⟨Z, Lt, g, st, s, h⟩ => ⟨Z, Lt, g, st, s, (Go.bind h).imp fun d g1 st1 H1 s1 t1 k1 v r => ?_⟩⟩
  have h := k1 g1 H1 s1 (GT.refl _ _)
  unfold mSortedK at h
  split at h
  · split at h
    · rename_i kvs ns en
      obtain ⟨a, ws, rfl, ha, rk⟩ := r.dic s1
      refine ⟨a, ws, rfl, ha, fun p n => ⟨p, a, ws, ns, rfl, upd_same, ?_, by rw [rk.keys]; exact en, fun ns' q h1 h2 h3 => ?_⟩⟩
      · rcases ha with ha | ⟨ob, ha⟩
        · exact .inl (by rw [upd_ne (ne_of_none ha n)]; exact ha)
        · exact .inr ⟨ob, by rw [upd_ne (ne_of_none ha n)]; exact ha⟩
      · obtain ⟨s2, t2⟩ := s1.view n (PLR.keysO p a)
        rw [srt_unique h1 (ord_false h2)]
        exact retF (W := W) s2 (RDs.ofInts _) (fun g3 H3 s3 t3 => h g3 H3 s3 (t2.trans t3)) q h3
    · exact h.elim
  · exact h.elim
/-- list(d.values()) -/
def mListV : Sem1 := fun x st => match x with
  | .dic kvs => .ok (.lst (kvs.map (·.2))) st
  | _ => .bad
theorem pf_listV (hK : X.K = Γ.K) (hc : X.calm = true) (hg : Gl X "list") (hn : X.mg "list" = none) (y : PC Γ W X e f)
    (hbase : attributeBase e "values" X.env (eval e X.env) = eval e X.env := by rfl) (hline : (apos.endLine == mpos.line) = true := by rfl)
    (hs : starEach [.Call (.Attribute e "values" apos) [] [] mpos] X.env = (false, eval (.Call (.Attribute e "values" apos) [] [] mpos) X.env) :: starEach [] X.env := by rfl) (hpl : (backTo pos (starEach [] X.env)).any (·.1) = false := by rfl) :
    PF Γ W X (.Call (.Name "list" ppos) [.Call (.Attribute e "values" apos) [] [] mpos] [] pos) (eUn mListV f) := by
  refine ⟨(pe_callTy (PLR.cr_listV hc) hg hn PyProof.Rows.boot_list (pa_cons (PLR.pe_vals y.pe hbase hline) pa_nil hs) (by decide) (by decide) hs hpl).csq fun σ H Q ⟨Z, Lt, g, st, s, h⟩ => ⟨Z, Lt, g, st, s, (Go.bind h).imp fun d g1 st1 H1 s1 t1 k1 v r => ?_⟩⟩
  have h := k1 g1 H1 s1 (GT.refl _ _)
  unfold mListV at h
  split at h
  · rename_i kvs
    obtain ⟨a, ws, rfl, ha, rk⟩ := r.dic s1
    refine ⟨a, ws, rfl, ha, fun p n => ⟨p, a, ws, rfl, upd_same, ?_, fun q h3 => ?_⟩⟩
    · rcases ha with ha | ⟨ob, ha⟩
      · exact .inl (by rw [upd_ne (ne_of_none ha n)]; exact ha)
      · exact .inr ⟨ob, by rw [upd_ne (ne_of_none ha n)]; exact ha⟩
    · obtain ⟨s2, t2⟩ := s1.view n (PLR.valsO p a)
      exact retF (W := W) s2 (rk.vals.up t2) (fun g3 H3 s3 t3 => h g3 H3 s3 (t2.trans t3)) q h3
  · exact h.elim
/-- dict(d) -/
theorem cr_dictC : CallR X (.type "dict") (fun vs H Q => ∃ (a : Addr) (kvs : List (Key × V)), vs = [V.ref a] ∧ Rd H a (.dK kvs) ∧ ∀ p, H p = none → Q (.ref p) (upd H p (.dK kvs))) := by
  intro pins s σ H vs us Q I r h
  obtain ⟨a, kvs, rfl, hd, q⟩ := h
  obtain rfl := Vals.ref1 r
  exact d_copyOf I hd fun p s' n I' => ⟨.ref p, _, I', rfl, q p n⟩
def mDictC : Sem1 := fun x st => match x with
  | .dic kvs => .ok (.dic kvs) st
  | _ => .bad
theorem pf_dictC (hg : Gl X "dict") (hn : X.mg "dict" = none) (y : PC Γ W X e f)
    (he : starEach [e] X.env = (false, eval e X.env) :: starEach [] X.env := by rfl) (hpl : (backTo pos (starEach [] X.env)).any (·.1) = false := by rfl) : PF Γ W X (.Call (.Name "dict" ppos) [e] [] pos) (eUn mDictC f) := by
  refine ⟨(pe_callTy cr_dictC hg hn (by decide +kernel) (pa_cons y.pe pa_nil he) (by decide) (by decide) he hpl).csq fun σ H Q ⟨Z, Lt, g, st, s, h⟩ => ⟨Z, Lt, g, st, s, (Go.bind h).imp fun d g1 st1 H1 s1 t1 k1 v r => ?_⟩⟩
  have h := k1 g1 H1 s1 (GT.refl _ _)
  unfold mDictC at h
  split at h
  · rename_i kvs
    obtain ⟨a, ws, rfl, ha, rk⟩ := r.dic s1
    refine ⟨a, ws, rfl, ha, fun p n => ?_⟩
    obtain ⟨g', s', t, x⟩ := s1.newTD n rk
    exact h g' _ s' t p x
  · exact h.elim

/-! ### loops over dicts: the dict is locked -/
theorem SR.unmark {u : HO} (s : SR Γ Z Lt g st σ H) (hz : Z a = some u) (hu : lk u = false) (r : Addr) : Lt (.lck r) ≠ some a := fun l => by
  obtain ⟨o, z, k⟩ := s.sh.lz _ _ l
  rw [hz] at z; cases z
  simp only [lkq] at k
  rw [hu] at k; cases k
theorem SR.chZ {u u' : HO} (s : SR Γ Z Lt g st σ H) (hz : Z a = some u) (hm : ∀ r, Lt (.lck r) ≠ some a) (hc : ∀ (g : GM) (d : D), CRz Γ g d u → CRz Γ g d u') : SR Γ (upd Z a u') Lt g st σ (upd H a u') := by
  have nb : ∀ {b : Addr}, Z b = none → b ≠ a := fun {b} n q => by rw [q, hz] at n; cases n
  have fv : ∀ (q : Path) (x : FV) (v : V), FVR Γ Z Lt g H q x v → FVR Γ (upd Z a u') Lt g (upd H a u') q x v := by
    intro q x v f
    cases x with
    | val d => exact f
    | own d =>
      obtain ⟨b, eb, k1, k2, k3, k4, o, k5, k6⟩ := f
      have ne := nb k2
      exact ⟨b, eb, k1, by rw [upd_ne ne]; exact k2, k3, k4, o, by rw [upd_ne ne]; exact k5, k6⟩
    | lent d =>
      obtain ⟨b, o, eb, k1, k2, k3⟩ := f
      by_cases c : b = a
      · subst c
        rw [hz] at k2; cases k2
        exact ⟨b, u', eb, k1, upd_same, hc _ _ k3⟩
      · exact ⟨b, o, eb, k1, by rw [upd_ne c]; exact k2, k3⟩
  have nb' : ∀ {b}, b ∈ g.M → b ≠ a := fun {b} m q => by subst q; exact hm _ ((s.sh.mf b m).2.1 u hz)
  refine ⟨⟨fun b o e => ?_, fun b o e => ?_, fun b o e => ?_, s.sh.ml, s.sh.mn, fun b m => ?_, fun r lo b e1 e2 => ?_, s.sh.nd, fun q b e => ?_⟩, s.sl, fun j x e => ?_⟩
  · have ne : b ≠ a := fun q => by subst q; rw [s.sh.gz b u hz] at e; cases e
    rw [upd_ne ne]; exact s.sh.gh b o e
  · by_cases c : b = a
    · subst c; rw [upd_same] at e ⊢; exact e
    · rw [upd_ne c] at e ⊢; exact s.sh.zh b o e
  · by_cases c : b = a
    · subst c; exact s.sh.gz b u hz
    · rw [upd_ne c] at e; exact s.sh.gz b o e
  · obtain ⟨m1, m2, m3⟩ := s.sh.mf b m
    exact ⟨m1, fun o e => m2 o (by rw [upd_ne (nb' m)] at e; exact e), m3⟩
  · have ne := nb' (List.mem_of_getElem? e2)
    have := s.sh.ob r lo b e1 e2
    cases lo with
    | ins c fs =>
      obtain ⟨C, dx, ws, q1, q2, q3, q4⟩ := this
      exact ⟨C, dx, ws, q1, q2, by rw [upd_ne ne]; exact q3, FR.maps (fun i y v => fv _ y v) q4⟩
    | cell d =>
      obtain ⟨o, q1, q2⟩ := this
      exact ⟨o, by rw [upd_ne ne]; exact q1, q2⟩
    | lck d =>
      obtain ⟨l, ob, u, q1, q2, q3⟩ := this
      exact ⟨l, ob, u, by rw [upd_ne ne]; exact q1, by rw [upd_ne ne]; exact q2, q3⟩
  · obtain ⟨o, e', kq⟩ := s.sh.lz q b e
    by_cases c : b = a
    · subst c
      refine ⟨u', upd_same, ?_⟩
      cases q with
      | lck r => exact absurd e (hm r)
      | _ => trivial
    · exact ⟨o, by rw [upd_ne c]; exact e', kq⟩
  · obtain ⟨w, e', f⟩ := s.sv j x e
    exact ⟨w, e', fv _ _ _ f⟩
theorem GT.chZ {u u' : HO} (t : GT (upd Z a u') g g') (hz : Z a = some u) : GT Z g g' := ⟨t.le, t.mp, fun b o e => by
  by_cases c : b = a
  · subst c; exact t.oz b u' upd_same
  · exact t.oz b o (by rw [upd_ne c]; exact e), t.lo⟩
/-- an expression that gives a dict which stands -/
structure PLt (Γ : Tab) (X : Cx) (e : Expr) (π : LS → Option (List (Key × D))) : Prop where
  pl : ∃ te, PE X e te ∧ ∀ Z Lt g st σ H kvs, SR Γ Z Lt g st σ H → π st = some kvs → ∃ a o, (Z a = some o ∨ g.G a = some o) ∧ CRz Γ g (.dic kvs) o ∧ ∀ Z' g' H' Q, SR Γ Z' Lt g' st σ H' → g'.M = g.M → Q (.ref a) H' → te σ H' Q
def πV (i : Nat) : LS → Option (List (Key × D)) := fun st => match st.s[i]? with
  | some (some (.lent (.dic kvs))) => some kvs
  | some (some (.val (.dic kvs))) => some kvs
  | _ => none
def πF (j i : Nat) : LS → Option (List (Key × D)) := fun st => match st.objAt j with
  | some r => match st.fld r i with
    | some (.lent (.dic kvs)) => some kvs
    | _ => none
  | none => none
theorem RD.dicG {kvs : List (Key × D)} (r : RD Γ g (.dic kvs) v) : ∃ a o, v = .ref a ∧ g.G a = some o ∧ CRz Γ g (.dic kvs) o := by
  simp only [RD] at r
  obtain ⟨a, ws, rfl, h | ⟨ob, h⟩, rk⟩ := r
  · exact ⟨a, _, rfl, h, .inl rk⟩
  · exact ⟨a, _, rfl, h, .inr ⟨ob, _, rfl, rk⟩⟩
theorem lt_var (i : Nat) {x : Str} (hN : X.N[i]? = some x := by rfl) (hv : Vis X.env.scope x := by first | exact Or.inl rfl | exact Or.inr (Or.inl rfl) | exact Or.inr (Or.inr rfl)) (hd : (x == ("__debug__" : Str)) = false := by decide) (hcd : (x == ("__classdict__" : Str)) = false := by decide) : PLt Γ X (.Name x pos) (πV i) := by
  refine ⟨_, pe_var hN hv hd hcd, fun Z Lt g st σ H kvs s e => ?_⟩
  unfold πV at e
  split at e
  · rename_i kvs' e0
    cases e
    obtain ⟨v, e1, a, o, rfl, h1, h2, h3⟩ := s.sv i _ e0
    exact ⟨a, o, .inl h2, h3, fun Z' g' H' Q s' m q => ⟨_, e1, q⟩⟩
  · rename_i kvs' e0
    cases e
    obtain ⟨v, e1, r⟩ := s.sv i _ e0
    obtain ⟨a, o, rfl, h1, h2⟩ := RD.dicG (show RD Γ g (.dic kvs) v from r)
    exact ⟨a, o, .inr h1, h2, fun Z' g' H' Q s' m q => ⟨_, e1, q⟩⟩
  · cases e
theorem lt_fld (j i : Nat) {x n : Str} {xpos : Pos} (hn : Γ.nm[i]? = some n) (hK : X.K = Γ.K) (hN : X.N[j]? = some x := by rfl) (hv : Vis X.env.scope x := by first | exact Or.inl rfl | exact Or.inr (Or.inl rfl) | exact Or.inr (Or.inr rfl)) (hd : (x == ("__debug__" : Str)) = false := by decide) (hcd : (x == ("__classdict__" : Str)) = false := by decide)
    (hb0 : attributeBase (.Name x xpos) n X.env (eval (.Name x xpos) X.env) = eval (.Name x xpos) X.env := by rfl) : PLt Γ X (.Attribute (.Name x xpos) n pos) (πF j i) := by
  refine ⟨_, pe_fld (pe_var hN hv hd hcd) hb0, fun Z Lt g st σ H kvs s e => ?_⟩
  unfold πF at e
  split at e
  · rename_i r ej
    split at e
    · rename_i kvs' e0
      cases e
      obtain ⟨w, ew, rw'⟩ := s.sv j _ (objAt_eq ej)
      obtain ⟨b, rfl, hr⟩ := RD.obj (show RD Γ g (.obj r) w from rw')
      obtain ⟨a, o, h1, h2, h3, C, dx, ws, n', p1, p2, p3, p4, p5⟩ := s.lentA hr e0
      refine ⟨a, o, .inl h2, h3, fun Z' g' H' Q s' m q => ⟨_, ew, ?_⟩⟩
      obtain ⟨a', o', l1, l2, l3, C', dx', ws', n'', m1, m2, m3, m4, m5⟩ := s'.lentA (by rw [m]; exact hr) e0
      rw [h1] at l1; cases l1
      rw [hn] at m3; cases m3
      exact ⟨b, C', dx', ws', .ref a, rfl, m1, by rw [hK]; exact m2, by rw [hK]; exact m4, m5, q⟩
    · cases e
  · cases e
theorem FR.mapg {r : Nat} {C : Addr} (m : ∀ (j : Nat) (y : FV) (v : V), FVR Γ Z Lt g H (.fld r j) y v → FVR Γ Z' Lt' g' H' (.fld r j) y v) : ∀ {fs : List (Nat × FV)} {ws : List (Str × V)}, FR Γ Z Lt g H r C fs ws → FR Γ Z' Lt' g' H' r C fs ws
  | [], _, f => f
  | y :: fs, _, f => by
    obtain ⟨n, v, q, e, h1, h2, h3, h4, h5⟩ := f
    exact ⟨n, v, q, e, h1, h2, m _ _ _ h3, h4, FR.mapg m h5⟩
/-- one word of what stands still changes its lock -/
theorem SR.chG {u u' : HO} (s : SR Γ Z Lt g st σ H) (hG : g.G a = some u) (hr : ∀ w, lk w = false → (u = w ∨ ∃ ob, u = .frz ob w) → (u' = w ∨ ∃ ob, u' = .frz ob w)) : SR Γ Z Lt (g.put a u') st σ (upd H a u') := by
  have le : GLe g.G (g.put a u').G := fun b w hw r => by
    by_cases c : b = a
    · subst c
      have : u' = w ∨ ∃ ob, u' = .frz ob w := hr w hw (by
        rcases r with r | ⟨ob, r⟩
        · rw [hG] at r; cases r; exact .inl rfl
        · rw [hG] at r; cases r; exact .inr ⟨ob, rfl⟩)
      rcases this with rfl | ⟨ob, rfl⟩
      · exact .inl put_same
      · exact .inr ⟨ob, put_same⟩
    · rcases r with r | ⟨ob, r⟩
      · exact .inl (by rw [put_ne c]; exact r)
      · exact .inr ⟨ob, by rw [put_ne c]; exact r⟩
  have mp : ∃ t, (g.put a u').M = g.M ++ t := ⟨[], by simp⟩
  have zn : Z a = none := by
    cases e : Z a with
    | none => rfl
    | some o => rw [s.sh.gz a o e] at hG; cases hG
  have fv : ∀ (q : Path) (x : FV) (v : V), FVR Γ Z Lt g H q x v → FVR Γ Z Lt (g.put a u') (upd H a u') q x v := by
    intro q x v f
    cases x with
    | val d => exact RD.mono le mp d v f
    | own d =>
      obtain ⟨b, eb, k1, k2, k3, k4, o, k5, k6⟩ := f
      have ne : b ≠ a := fun q => by subst q; rw [hG] at k1; cases k1
      exact ⟨b, eb, by rw [put_ne ne]; exact k1, k2, k3, k4, o, by rw [upd_ne ne]; exact k5, k6.mono le mp⟩
    | lent d =>
      obtain ⟨b, o, eb, k1, k2, k3⟩ := f
      exact ⟨b, o, eb, k1, k2, k3.mono le mp⟩
  refine ⟨⟨fun b o e => ?_, fun b o e => ?_, fun b o e => ?_, s.sh.ml, s.sh.mn, fun b m => ?_, fun r lo b e1 e2 => ?_, s.sh.nd, s.sh.lz⟩, s.sl, fun j x e => ?_⟩
  · by_cases c : b = a
    · subst c; rw [put_same] at e; rw [upd_same]; exact e
    · rw [put_ne c] at e; rw [upd_ne c]; exact s.sh.gh b o e
  · have ne : b ≠ a := ne_of_none e zn
    rw [upd_ne ne]; exact s.sh.zh b o e
  · have ne : b ≠ a := ne_of_none e zn
    rw [put_ne ne]; exact s.sh.gz b o e
  · obtain ⟨m1, m2, m3⟩ := s.sh.mf b m
    have ne : b ≠ a := fun q => by subst q; rw [hG] at m1; cases m1
    exact ⟨by rw [put_ne ne]; exact m1, m2, m3⟩
  · have m1 := (s.sh.mf b (List.mem_of_getElem? e2)).1
    have ne : b ≠ a := fun q => by subst q; rw [hG] at m1; cases m1
    have := s.sh.ob r lo b e1 e2
    cases lo with
    | ins c fs =>
      obtain ⟨C, dx, ws, q1, q2, q3, q4⟩ := this
      exact ⟨C, dx, ws, q1, q2, by rw [upd_ne ne]; exact q3, FR.mapg (fun i y v => fv _ y v) q4⟩
    | cell d =>
      obtain ⟨o, q1, q2⟩ := this
      exact ⟨o, by rw [upd_ne ne]; exact q1, q2.mono le mp⟩
    | lck d =>
      obtain ⟨l, ob, u, q1, q2, q3⟩ := this
      exact ⟨l, ob, u, by rw [upd_ne ne]; exact q1, q2, q3.mono le mp⟩
  · obtain ⟨w, e', f⟩ := s.sv j x e
    exact ⟨w, e', fv _ _ _ f⟩
theorem GT.lockG {u : HO} {ob : Obj} {g2 : GM} (hG : g.G a = some u) (hu : lk u = false) (t : GT Z (g.put a (.frz ob u)) g2) : GT Z g (g2.put a u) := by
  refine ⟨fun b w hw r => ?_, ?_, fun b o e => (t.oz b o e), fun b ob' w e => ?_⟩
  · by_cases c : b = a
    · subst c
      rcases r with r | ⟨ob', r⟩
      · rw [hG] at r; cases r; exact .inl put_same
      · rw [hG] at r; cases r; cases hu
    · have r1 : Rd (g.put a (.frz ob u)).G b w := by
        rcases r with r | ⟨ob', r⟩
        · exact .inl (by rw [put_ne c]; exact r)
        · exact .inr ⟨ob', by rw [put_ne c]; exact r⟩
      rcases t.le b w hw r1 with r2 | ⟨ob', r2⟩
      · exact .inl (by rw [put_ne c]; exact r2)
      · exact .inr ⟨ob', by rw [put_ne c]; exact r2⟩
  · obtain ⟨u', e⟩ := t.mp; exact ⟨u', e⟩
  · have c : b ≠ a := fun q => by subst q; rw [hG] at e; cases e; cases hu
    rw [put_ne c]
    exact t.lo b ob' w (by rw [put_ne c]; exact e)
/-- what the turns tell of a dict -/
def itemsD (kvs : List (Key × D)) : List D := kvs.map fun p => .tup [kD p.1, p.2]
def noE : SRes → SRes
  | .exc _ _ => .bad
  | r => r
def sForI (π : LS → Option (List (Key × D))) (tg : D → LS → Option LS) (b : S) : S := fun st => match π st with
  | some kvs => noE (turns tg b (itemsD kvs) st)
  | none => .bad
def sForK (π : LS → Option (List (Key × D))) (tg : D → LS → Option LS) (b : S) : S := fun st => match π st with
  | some kvs => noE (turns tg b (kvs.map fun p => kD p.1) st)
  | none => .bad
theorem GoS.lockD {r : SRes} {u : HO} {ob : Obj} (hm : ∀ r, Lt (.lck r) ≠ some a) (hz : Z a = some u) (h : GoS Γ W Z Lt D0 (noE r) g) (hu : lk u = false) :
    GoS Γ W (upd Z a (.frz ob u)) Lt ⟨fun σ' H' => H' a = some (.frz ob u) ∧ D0.nx σ' (upd H' a u), fun v H' => H' a = some (.frz ob u) ∧ D0.rt v (upd H' a u), fun σ' H' => H' a = some (.frz ob u) ∧ D0.bk σ' (upd H' a u), fun σ' H' => H' a = some (.frz ob u) ∧ D0.ct σ' (upd H' a u)⟩ r g := by
  have back : ∀ {g' : GM} {d : D}, CRz Γ g' d (.frz ob u) → CRz Γ g' d u := fun {g' d} c => by
    rcases c with c | ⟨ob', u', e, c⟩
    · cases d <;> exact c.elim
    · cases e; exact .inl c
  have zz : upd (upd Z a (.frz ob u)) a u = Z := by
    funext b
    by_cases c : b = a
    · subst c; rw [upd_same, hz]
    · rw [upd_ne c, upd_ne c]
  have un : ∀ {g' : GM} {st' : LS} {σ' : L2.St} {H' : Hp}, SR Γ (upd Z a (.frz ob u)) Lt g' st' σ' H' → SR Γ Z Lt g' st' σ' (upd H' a u) := fun {g' st' σ' H'} s => by
    have := s.chZ (u' := u) upd_same hm fun g d c => back c
    rw [zz] at this
    exact this
  cases r with
  | nx st' => exact fun σ' g' H' s t => ⟨s.sh.zh a _ upd_same, h σ' g' _ (un s) (t.chZ hz)⟩
  | bk st' => exact fun σ' g' H' s t => ⟨s.sh.zh a _ upd_same, h σ' g' _ (un s) (t.chZ hz)⟩
  | ct st' => exact fun σ' g' H' s t => ⟨s.sh.zh a _ upd_same, h σ' g' _ (un s) (t.chZ hz)⟩
  | ret x st' =>
    intro v g' H' s t fv
    refine ⟨s.zh a _ upd_same, ?_⟩
    have s0 : SR Γ (upd Z a (.frz ob u)) Lt g' ⟨[], st'.h⟩ [] H' := ⟨s, rfl, fun i x e => by simp at e⟩
    refine h v g' _ (un s0).sh (t.chZ hz) ?_
    cases x with
    | val d => exact fv
    | own d =>
      obtain ⟨b, eb, k1, k2, k3, k4, o, k5, k6⟩ := fv
      have ne : b ≠ a := fun q => by subst q; rw [upd_same] at k2; cases k2
      rw [upd_ne ne] at k2
      exact ⟨b, eb, k1, k2, k3, k4, o, by rw [upd_ne ne]; exact k5, k6⟩
    | lent d => obtain ⟨b, o, eb, k1, _⟩ := fv; cases k1
  | exc x st' => exact h.elim
  | bad => exact h.elim
theorem GoS.lockG {r : SRes} {u : HO} {ob : Obj} (hG : g.G a = some u) (h : GoS Γ W Z Lt D0 (noE r) g) (hu : lk u = false) :
    GoS Γ W Z Lt ⟨fun σ' H' => H' a = some (.frz ob u) ∧ D0.nx σ' (upd H' a u), fun v H' => H' a = some (.frz ob u) ∧ D0.rt v (upd H' a u), fun σ' H' => H' a = some (.frz ob u) ∧ D0.bk σ' (upd H' a u), fun σ' H' => H' a = some (.frz ob u) ∧ D0.ct σ' (upd H' a u)⟩ r (g.put a (.frz ob u)) := by
  have at2 : ∀ {g2 : GM}, GT Z (g.put a (.frz ob u)) g2 → g2.G a = some (.frz ob u) := fun {g2} t => t.lo a ob u put_same
  have hr : ∀ w, lk w = false → (HO.frz ob u = w ∨ ∃ ob', HO.frz ob u = .frz ob' w) → (u = w ∨ ∃ ob', u = .frz ob' w) := fun w hw c => by
    rcases c with c | ⟨ob', c⟩
    · subst c; cases hw
    · cases c; exact .inl rfl
  cases r with
  | nx st' => exact fun σ' g' H' s t => ⟨s.sh.gh a _ (at2 t), h σ' _ _ (s.chG (at2 t) hr) (t.lockG hG hu)⟩
  | bk st' => exact fun σ' g' H' s t => ⟨s.sh.gh a _ (at2 t), h σ' _ _ (s.chG (at2 t) hr) (t.lockG hG hu)⟩
  | ct st' => exact fun σ' g' H' s t => ⟨s.sh.gh a _ (at2 t), h σ' _ _ (s.chG (at2 t) hr) (t.lockG hG hu)⟩
  | ret x st' =>
    intro v g' H' s t fv
    refine ⟨s.gh a _ (at2 t), ?_⟩
    have s0 : SR Γ Z Lt g' ⟨[], st'.h⟩ [] H' := ⟨s, rfl, fun i x e => by simp at e⟩
    have s1 := s0.chG (at2 t) hr
    have le : GLe g'.G (g'.put a u).G := fun b w hw r => by
      by_cases c : b = a
      · subst c
        rcases r with r | ⟨ob', r⟩
        · rw [at2 t] at r; cases r; cases hw
        · rw [at2 t] at r; cases r; exact .inl put_same
      · rcases r with r | ⟨ob', r⟩
        · exact .inl (by rw [put_ne c]; exact r)
        · exact .inr ⟨ob', by rw [put_ne c]; exact r⟩
    refine h v _ _ s1.sh (t.lockG hG hu) ?_
    cases x with
    | val d => exact RD.mono le ⟨[], by simp⟩ d v fv
    | own d =>
      obtain ⟨b, eb, k1, k2, k3, k4, o, k5, k6⟩ := fv
      have ne : b ≠ a := fun q => by subst q; rw [at2 t] at k1; cases k1
      exact ⟨b, eb, by rw [put_ne ne]; exact k1, k2, k3, k4, o, by rw [upd_ne ne]; exact k5, k6.mono le ⟨[], by simp⟩⟩
    | lent d => obtain ⟨b, o, eb, k1, _⟩ := fv; cases k1
  | exc x st' => exact h.elim
  | bad => exact h.elim
theorem GoS.noE' {r : SRes} (h : GoS Γ W Z Lt D0 (noE r) g) : GoS Γ W Z Lt D0 r g := by
  cases r <;> first | exact h | exact h.elim
theorem _root_.L2.PS.or {X : Cx} {s : Stmt} {t u : TS} (h : PS X s t) (k : PS X s u) : PS X s (fun D σ H => t D σ H ∨ u D σ H) := ⟨fun pins st σ H D I q => by
  rcases q with q | q
  · exact h.run pins st σ H D I q
  · exact k.run pins st σ H D I q⟩
theorem RDk.get {i : Nat} : ∀ {kvs : List (Key × D)} {ws : List (Key × V)} {k : Key} {d : D}, RDk Γ g kvs ws → kvs[i]? = some (k, d) → ∃ v, ws[i]? = some (k, v) ∧ RD Γ g d v := by
  induction i with
  | zero =>
    intro kvs ws k d r e
    cases kvs with
    | nil => simp at e
    | cons p kvs =>
      simp at e; subst e
      simp only [RDk] at r
      obtain ⟨v, q, rfl, r1, r2⟩ := r
      exact ⟨v, rfl, r1⟩
  | succ i ih =>
    intro kvs ws k d r e
    cases kvs with
    | nil => simp at e
    | cons p kvs =>
      simp only [RDk] at r
      obtain ⟨v, q, rfl, r1, r2⟩ := r
      exact ih r2 (by simpa using e)
/-- the turns over the items of a locked dict -/
theorem items_J {kvs : List (Key × D)} {ws : List (Key × V)} {ob : Obj} {g0 : GM} (hz : ∀ g st σ H, SR Γ Z Lt g st σ H → GT Z g0 g → H a = some (.frz ob (.dK ws))) (rk : RDk Γ g0 kvs ws) :
    (∀ i H g st σ, i < (itemsD kvs).length → SR Γ Z Lt g st σ H → GT Z g0 g → (Iti a ob ws).go i H ∧ ∀ x H', (Iti a ob ws).yld i H x H' → ∃ g' d, (itemsD kvs)[i]? = some d ∧ SR Γ Z Lt g' st σ H' ∧ GT Z g g' ∧ RD Γ g' d x ∧ Quiet g H g' H') ∧
    (∀ H g st σ, SR Γ Z Lt g st σ H → GT Z g0 g → (Iti a ob ws).stop (itemsD kvs).length H) := by
  have hl : (itemsD kvs).length = ws.length := by unfold itemsD; rw [List.length_map, rk.length]
  refine ⟨fun i H g st σ hi s t => ?_, fun H g st σ s t => ⟨hz g st σ H s t, by rw [hl]; exact Nat.le_refl _⟩⟩
  rw [hl] at hi
  refine ⟨⟨hz g st σ H s t, hi⟩, fun x H' ⟨T, kk, vv, e1, e2, e3, e4⟩ => ?_⟩
  subst e2 e4
  have hk : i < kvs.length := by rw [rk.length]; exact hi
  rcases hp : kvs[i] with ⟨k1, d1⟩
  have e5 : kvs[i]? = some (k1, d1) := by rw [List.getElem?_eq_getElem hk, hp]
  obtain ⟨v1, e6, r1⟩ := (rk.up t).get e5
  rw [e1] at e6; cases e6
  have nn := (s.sh.new e3).2.1
  refine ⟨g.put T (.tup [kV kk, vv]), .tup [kD kk, d1], by unfold itemsD; rw [List.getElem?_map, e5]; rfl, s.new e3 _, GT.put nn, ?_, Quiet.put e3⟩
  simp only [RD]
  exact ⟨T, _, rfl, .inl (.inl put_same), RDs.cons (RD.kD kk) (RDs.cons (r1.up (GT.put (Z := Z) nn)) RDs.nil)⟩
theorem keys_J {kvs : List (Key × D)} {ws : List (Key × V)} {ob : Obj} {g0 : GM} (hz : ∀ g st σ H, SR Γ Z Lt g st σ H → GT Z g0 g → H a = some (.frz ob (.dK ws))) (rk : RDk Γ g0 kvs ws) :
    (∀ i H g st σ, i < (kvs.map fun p => kD p.1).length → SR Γ Z Lt g st σ H → GT Z g0 g → (Itk a ob ws).go i H ∧ ∀ x H', (Itk a ob ws).yld i H x H' → ∃ g' d, (kvs.map fun p => kD p.1)[i]? = some d ∧ SR Γ Z Lt g' st σ H' ∧ GT Z g g' ∧ RD Γ g' d x ∧ Quiet g H g' H') ∧
    (∀ H g st σ, SR Γ Z Lt g st σ H → GT Z g0 g → (Itk a ob ws).stop (kvs.map fun p => kD p.1).length H) := by
  have hl : (kvs.map fun p => kD p.1).length = ws.length := by rw [List.length_map, rk.length]
  refine ⟨fun i H g st σ hi s t => ?_, fun H g st σ s t => ⟨hz g st σ H s t, by rw [hl]; exact Nat.le_refl _⟩⟩
  rw [hl] at hi
  refine ⟨⟨hz g st σ H s t, hi⟩, fun x H' ⟨e0, kk, vv, e1, e2⟩ => ?_⟩
  subst e0 e2
  have hk : i < kvs.length := by rw [rk.length]; exact hi
  rcases hp : kvs[i] with ⟨k1, d1⟩
  have e5 : kvs[i]? = some (k1, d1) := by rw [List.getElem?_eq_getElem hk, hp]
  obtain ⟨v1, e6, r1⟩ := (rk.up t).get e5
  rw [e1] at e6; cases e6
  exact ⟨g, kD kk, by rw [List.getElem?_map, e5]; rfl, s, GT.refl _ _, RD.kD kk, Quiet.refl _ _⟩
theorem dic_lk {kvs : List (Key × D)} (c : CRz Γ g (.dic kvs) o) : ∃ ws, RDk Γ g kvs ws ∧ (o = .dK ws ∨ ∃ ob, o = .frz ob (.dK ws)) := by
  rcases c with c | ⟨ob, u, e, c⟩
  · obtain ⟨ws, rfl, r⟩ := c.dic
    exact ⟨ws, r, .inl rfl⟩
  · subst e
    obtain ⟨ws, rfl, r⟩ := c.dic
    exact ⟨ws, r, .inr ⟨ob, rfl⟩⟩
/-- the dict is locked, however it stands -/
theorem lock_run {te : TE} {W : WX} {tb : LS → SRes} {st : LS} {kvs : List (Key × D)} {t : TS} {D : Ends} (s : SR Γ Z Lt g st σ H) (ha : Z a = some o ∨ g.G a = some o) (hcr : CRz Γ g (.dic kvs) o) (h : GoS Γ W Z Lt D (noE (tb st)) g)
    (hq : ∀ Z' g' H', SR Γ Z' Lt g' st σ H' → g'.M = g.M → ∀ (D' : Ends) (ob : Obj) (ws : List (Key × V)), H' a = some (.frz ob (.dK ws)) → RDk Γ g' kvs ws → (∀ g2 st2 σ2 H2, SR Γ Z' Lt g2 st2 σ2 H2 → GT Z' g' g2 → H2 a = some (.frz ob (.dK ws))) → GoS Γ W Z' Lt D' (tb st) g' → t D' σ H') :
    t D σ H ∨ tLock t D σ H := by
  obtain ⟨ws, rk, rfl | ⟨ob, rfl⟩⟩ := dic_lk hcr
  · rcases ha with hz | hG
    · refine .inr ⟨a, .dK ws, s.sh.zh a _ hz, trivial, fun od => ?_⟩
      have s1 := s.chZ (u' := .frz od (.dK ws)) hz (s.unmark hz rfl) fun g d c => by
        rcases c with c | ⟨ob', u', e', c⟩
        · exact .inr ⟨od, _, rfl, c⟩
        · cases e'
      exact hq _ _ _ s1 rfl _ od ws upd_same rk (fun g2 st2 σ2 H2 s2 _ => s2.sh.zh a _ upd_same) (GoS.lockD (s.unmark hz rfl) hz h rfl)
    · refine .inr ⟨a, .dK ws, s.sh.gh a _ hG, trivial, fun od => ?_⟩
      have s1 := s.chG (u' := .frz od (.dK ws)) hG fun w hw c => by
        rcases c with c | ⟨ob', c⟩
        · subst c; exact .inr ⟨od, rfl⟩
        · cases c
      refine hq _ _ _ s1 rfl _ od ws upd_same ?_ (fun g2 st2 σ2 H2 s2 t2 => s2.sh.gh a _ (t2.lo a od _ put_same)) (GoS.lockG hG h rfl)
      refine RDk.mono ?_ ⟨[], by simp⟩ _ _ rk
      intro b w hw r
      by_cases c : b = a
      · subst c
        rcases r with r | ⟨ob', r⟩
        · rw [hG] at r; cases r; exact .inr ⟨od, put_same⟩
        · rw [hG] at r; cases r
      · rcases r with r | ⟨ob', r⟩
        · exact .inl (by rw [put_ne c]; exact r)
        · exact .inr ⟨ob', by rw [put_ne c]; exact r⟩
  · refine .inl ?_
    rcases ha with hz | hG
    · exact hq _ _ _ s rfl _ ob ws (s.sh.zh a _ hz) rk (fun g2 st2 σ2 H2 s2 _ => s2.sh.zh a _ hz) (GoS.noE' h)
    · exact hq _ _ _ s rfl _ ob ws (s.sh.gh a _ hG) rk (fun g2 st2 σ2 H2 s2 t2 => s2.sh.gh a _ (t2.lo a ob _ hG)) (GoS.noE' h)
theorem st_forI {elts : List Expr} {kk : Nat} {π : LS → Option (List (Key × D))} {tg : D → LS → Option LS} {is : List Nat} (hp : PassesOwn (model X.prog X.w) X.A X.env X.xe) (hc : X.calm = true) (x : PLt Γ X e π) (y : PTar Γ X (.Tuple elts kk tpos) is tg) (z : PSts Γ W X sts f1)
    (hbase : attributeBase e "items" X.env (eval e X.env) = eval e X.env := by rfl) (hline : (apos.endLine == mpos.line) = true := by rfl)
    (hs : ∀ x, foldedSetIterable (.Call (.Attribute e "items" apos) [] [] mpos) X.env x = pure x := by intro _; rfl) : PSt Γ W X (.For (.Tuple elts kk tpos) (.Call (.Attribute e "items" apos) [] [] mpos) sts [] pos) (sForI π tg f1) := by
  obtain ⟨te, h1, h2⟩ := x.pl
  obtain ⟨gg, g1, g2⟩ := y.pg
  have base := ps_for (pos := pos) hp hc (pi_items (tpos := tpos) (kk := kk) (elts := elts) h1 hbase hline) g1 z.ps hs
  refine ⟨(base.or (ps_lock base)).csq fun D σ H ⟨Z, Lt, g, st, s, h⟩ => ?_⟩
  unfold sForI at h
  cases eπ : π st with
  | none => rw [eπ] at h; exact h.elim
  | some kvs =>
    rw [eπ] at h
    simp only at h
    obtain ⟨a, o, hz, hcr, hq⟩ := h2 Z Lt g st σ H kvs s eπ
    refine lock_run (te := te) (tb := fun st => turns tg f1 (itemsD kvs) st) s hz hcr h fun Z' g' H' s' m D' ob ws ha rk hst hgo => ?_
    refine hq _ _ _ _ s' m ⟨a, ob, ws, rfl, ha, ?_⟩
    obtain ⟨j1, j2⟩ := items_J (Lt := Lt) (Z := Z') (g0 := g') hst rk
    exact turns_run g2 j1 j2 s' hgo
theorem st_forK {target : Expr} {π : LS → Option (List (Key × D))} {tg : D → LS → Option LS} {is : List Nat} (hp : PassesOwn (model X.prog X.w) X.A X.env X.xe) (hc : X.calm = true) (x : PLt Γ X e π) (y : PTar Γ X target is tg) (z : PSts Γ W X sts f1)
    (hs : ∀ x, foldedSetIterable e X.env x = pure x := by intro _; rfl) : PSt Γ W X (.For target e sts [] pos) (sForK π tg f1) := by
  obtain ⟨te, h1, h2⟩ := x.pl
  obtain ⟨gg, g1, g2⟩ := y.pg
  have base := ps_for (pos := pos) hp hc (pi_keys h1) g1 z.ps hs
  refine ⟨(base.or (ps_lock base)).csq fun D σ H ⟨Z, Lt, g, st, s, h⟩ => ?_⟩
  unfold sForK at h
  cases eπ : π st with
  | none => rw [eπ] at h; exact h.elim
  | some kvs =>
    rw [eπ] at h
    simp only at h
    obtain ⟨a, o, hz, hcr, hq⟩ := h2 Z Lt g st σ H kvs s eπ
    refine lock_run (te := te) (tb := fun st => turns tg f1 (kvs.map fun p => kD p.1) st) s hz hcr h fun Z' g' H' s' m D' ob ws ha rk hst hgo => ?_
    refine hq _ _ _ _ s' m ⟨a, ob, rfl, .inl ⟨ws, ha, ?_⟩⟩
    obtain ⟨j1, j2⟩ := keys_J (Lt := Lt) (Z := Z') (g0 := g') hst rk
    exact turns_run g2 j1 j2 s' hgo
end
end PL

/-! PyLite, part x: pop, extend, list of a dict; equations of the parts v and w. -/
namespace PLR
open PySem PySem.Spec PyProof.Rows L2
/-- list(d): the keys -/
theorem cr_listD {X : Cx} (hc : X.calm = true) : CallR X (.type "list") (fun vs H Q => ∃ (a : Addr) (kvs : List (Key × V)), vs = [V.ref a] ∧ Rd H a (.dK kvs) ∧ ∀ q, H q = none → Q (.ref q) (upd H q (.lst (kvs.map fun kv => kV kv.1)))) := by
  intro pins s σ H vs us Q I r h
  obtain ⟨a, kvs, rfl, hd, q⟩ := h
  obtain rfl := Vals.ref1 r
  obtain ⟨z, hsys, ws, rel, dof⟩ := dk_rd I.hok hd
  obtain ⟨ep, dat⟩ := dof.dictAt
  have hl : ws.length = kvs.length := (Paired.length rel).symm
  have hz : ws.length ≤ sizeLine := by rw [hl]; exact z
  refine PySem.W.kdl_call (PySem.W.kdl_dict (knd := mixKind X.prog X.w) (kvs := ws) (ep := ep) hsys) (I.ok.hd hc) dat hz fun h' tk acc' c' hkeep hS hacc => ?_
  refine ⟨.ref s.heap.objs.size, upd H s.heap.objs.size (.lst (kvs.map fun kv => kV kv.1)), I.laid (t' := tk) hkeep (Nat.le_refl _) ⟨by rw [List.length_map]; exact z, acc'.toList, c', ?_, by rw [Array.toArray_toList]; exact hS⟩, rfl, q _ (I.hok.fresh (Nat.le_refl _))⟩
  have el : acc'.toList.length = kvs.length := by rw [Array.length_toList, hacc.1, hl]
  have key : ∀ (us : List Value) (xs : List V), us.length = xs.length → (∀ (j : Nat) (v : Value), us[j]? = some v → ∃ x, xs[j]? = some x ∧ RelV x v) → Vals xs us := by
    intro us
    induction us with
    | nil => intro xs hl _; cases xs with
      | nil => exact .nil
      | cons => simp at hl
    | cons u us ih =>
      intro xs hl h
      cases xs with
      | nil => simp at hl
      | cons x xs =>
        obtain ⟨x', e1, e2⟩ := h 0 u rfl
        simp at e1
        subst e1
        exact .cons e2 (ih xs (by simpa using hl) fun j v e => h (j + 1) v (by simpa using e))
  refine key _ _ (by rw [el, List.length_map]) fun j v e => ?_
  obtain ⟨k, x, e1, e2⟩ := hacc.2 j v (by rw [← Array.getElem?_toList]; exact e)
  obtain ⟨y, h1, h2⟩ := KV.at' rel e1
  refine ⟨kV k, by rw [List.getElem?_map, h1]; rfl, ?_⟩
  rcases keyIs_shape (show keyIs k v = true from e2) with ⟨i, t, q1, q2⟩ | ⟨i, t, q1, q2⟩
  · subst q1; exact ⟨t, q2⟩
  · subst q1; exact ⟨t, q2⟩
end PLR
namespace PL
open PySem PySem.Spec PyProof.Rows L2
section
variable {Γ : Tab} {W : WX} {Z Z' : Hp} {Lt Lt' : Lend} {g g' : GM} {st st' : LS} {σ σ' : L2.St} {H H' : Hp} {h h' : List LO} {a p : Addr} {o : HO} {d : D} {v : V} {X : Cx} {e e1 e2 e3 : Expr} {es : List Expr} {f k l : E D} {pos pos2 ppos apos tpos mpos : Pos} {stm : Stmt} {sts : List Stmt} {f1 f2 : S} {D0 : Ends}
theorem RDk.keyVs : ∀ {kvs : List (Key × D)} {ws : List (Key × V)}, RDk Γ g kvs ws → RDs Γ g (kvs.map fun p => kD p.1) (ws.map fun p => kV p.1)
  | [], ws, r => by simp only [RDk] at r; subst r; exact RDs.nil
  | (i, d) :: kvs, ws, r => by
    simp only [RDk] at r
    obtain ⟨v, q, rfl, r1, r2⟩ := r
    exact RDs.cons (RD.kD i) (RDk.keyVs r2)
/-- list(xs), a dict too -/
def mListX : Sem1 := fun x st => match x with
  | .lst ds => .ok (.lst ds) st
  | .tup ds => .ok (.lst ds) st
  | .dic kvs => .ok (.lst (kvs.map fun p => kD p.1)) st
  | _ => .bad
theorem pf_listX (hK : X.K = Γ.K) (hc : X.calm = true) (hg : Gl X "list") (hm : X.mg "list" = none) (y : PC Γ W X e f) (he : starEach [e] X.env = (false, eval e X.env) :: starEach [] X.env := by rfl) (hpl : (backTo pos (starEach [] X.env)).any (·.1) = false := by rfl) :
    PF Γ W X (.Call (.Name "list" ppos) [e] [] pos) (eUn mListX f) := by
  refine ⟨(pe_callTy (call_list_of.or (PLR.cr_listD hc)) hg hm PyProof.Rows.boot_list (pa_cons y.pe pa_nil he) (by decide) (by decide) he hpl).csq fun σ H Q h => oneF (X := X) (r := fun v H Q => (∃ p ys, [v] = [V.ref p] ∧ (SqL X.K H p ys ∨ SqT X.K H p ys) ∧ ∀ l, H l = none → Q (.ref l) (upd H l (.lst ys))) ∨ ∃ (a : Addr) (kvs : List (Key × V)), [v] = [V.ref a] ∧ Rd H a (.dK kvs) ∧ ∀ q, H q = none → Q (.ref q) (upd H q (.lst (kvs.map fun (kv : Key × V) => kV kv.1)))) (fun Z Lt g st σ H x v Q s rx h => ?_) h⟩
  unfold mListX at h
  split at h
  · obtain ⟨a, vs, rfl, q, r⟩ := rx.lst s
    exact .inl ⟨a, vs, rfl, .inl (by rw [hK]; exact q), retF s r h⟩
  · obtain ⟨a, vs, rfl, q, r⟩ := rx.tup s
    exact .inl ⟨a, vs, rfl, .inr (by rw [hK]; exact q), retF s r h⟩
  · obtain ⟨a, ws, rfl, q, r⟩ := rx.dic s
    exact .inr ⟨a, ws, rfl, q, retF s r.keyVs h⟩
  · exact h.elim
/-! ### x.pop(i), x.pop() of a name's own list -/
theorem RDs.eraseIdx : ∀ {ds : List D} {vs : List V} (n : Nat), RDs Γ g ds vs → RDs Γ g (ds.eraseIdx n) (vs.eraseIdx n)
  | [], vs, n, r => by simp only [RDs] at r; subst r; simpa using RDs.nil
  | d :: ds, vs, 0, r => by
    simp only [RDs] at r
    obtain ⟨w, q, rfl, r1, r2⟩ := r
    simpa using r2
  | d :: ds, vs, n + 1, r => by
    simp only [RDs] at r
    obtain ⟨w, q, rfl, r1, r2⟩ := r
    simpa using RDs.cons r1 (RDs.eraseIdx n r2)
theorem RDs.dropLast : ∀ {ds : List D} {vs : List V}, RDs Γ g ds vs → RDs Γ g ds.dropLast vs.dropLast
  | [], vs, r => by simp only [RDs] at r; subst r; simpa using RDs.nil
  | [d], vs, r => by
    simp only [RDs] at r
    obtain ⟨w, q, rfl, r1, rfl⟩ := r
    simpa using RDs.nil
  | d :: d' :: ds, vs, r => by
    simp only [RDs] at r
    obtain ⟨w, q, rfl, r1, w2, q2, rfl, r3, r4⟩ := r
    have := RDs.dropLast (ds := d' :: ds) (RDs.cons r3 r4)
    simpa using RDs.cons r1 this
def ePop (i : Nat) (f : E D) : E D := fun st => match st.ownL i with
  | some _ => (f st).bind fun d s1 => match s1.ownL i, d with
    | some ds, .int q => if -(2 ^ 63) ≤ q ∧ q < 2 ^ 63 then match ixD ds.length q with
      | some n => match ds[n]? with
        | some x => .ok x (s1.set i (.own (.lst (ds.eraseIdx n))))
        | none => .bad
      | none => .bad else .bad
    | _, _ => .bad
  | none => .bad
theorem seq_ix (i : Int) (n : Nat) : seqIndex? i n = ixD n i := by
  unfold seqIndex? ixD
  by_cases c0 : 0 ≤ i
  · rw [if_pos c0]
    simp only [if_neg (show ¬ i < 0 by omega)]
    by_cases c1 : i < n
    · simp [c0, c1]
    · simp [c0, c1]
  · rw [if_neg c0]
    simp only [if_pos (show i < 0 by omega)]
    by_cases c1 : -(n : Int) ≤ i
    · rw [if_pos c1]
      simp only [show 0 ≤ i + (n : Int) by omega, show i + (n : Int) < (n : Int) by omega, decide_true, Bool.and_true, if_true]
    · rw [if_neg c1]
      simp only [show ¬ 0 ≤ i + (n : Int) by omega, decide_false, Bool.false_and, Bool.false_eq_true, if_false]
theorem pd_pop {i : Nat} {x : Str} (hK : X.K = Γ.K) (hN : X.N[i]? = some x) (hv : Vis X.env.scope x) (y : PD Γ W X e f) (hd : (x == ("__debug__" : Str)) = false := by decide) (hcd : (x == ("__classdict__" : Str)) = false := by decide)
    (hbase : attributeBase (.Name x pos2) "pop" X.env (eval (.Name x pos2) X.env) = eval (.Name x pos2) X.env := by rfl)
    (hfew : ((backTo ppos (starEach [e] X.env)).all (fun x => !x.1) && (backToKw ppos (keywordEach [] X.env)).all (fun x => x.1.isSome)
      && decide ([e].length + ([] : List Keyword).length + (if ([] : List Keyword).isEmpty then 0 else 1) < 30)) = true := by rfl)
    (hline : (apos.endLine == ppos.line) = true := by rfl) (hs : starEach [e] X.env = (false, eval e X.env) :: starEach [] X.env := by rfl) (hplain : (backTo ppos (starEach [] X.env)).any (·.1) = false := by rfl) :
    PD Γ W X (.Call (.Attribute (.Name x pos2) "pop" apos) [e] [] ppos) (ePop i f) := by
  refine ⟨(pe_bm PySem.F.plainAttrs_list PySem.F.slot_list_pop PySem.F.type_list_pop mt_popAt (pe_var hN hv hd hcd) (pa_cons y.pe pa_nil hs) hbase hfew hline hs hplain).csq fun σ H Q ⟨Z, Lt, g, st, s, h⟩ => ?_⟩
  unfold ePop at h
  cases e0 : st.ownL i with
  | none => rw [e0] at h; exact h.elim
  | some ds0 =>
    rw [e0] at h
    obtain ⟨a, o, e1, e2, c2, _⟩ := s.own (ownL_eq e0)
    obtain ⟨vs, rfl, _⟩ := c2.lst
    refine ⟨_, e1, .inl ⟨rfl, vs, SqL.of e2⟩, Z, Lt, g, st, s, (Go.bind h).imp fun d g1 st1 H1 s1 t1 k1 v r => ?_⟩
    have k2 := k1 g1 H1 s1 (GT.refl _ _)
    cases e3 : st1.ownL i with
    | none => rw [e3] at k2; exact k2.elim
    | some ds =>
      rw [e3] at k2
      cases d with
      | int q =>
        simp only at k2
        split at k2
        · rename_i hq
          split at k2
          · rename_i n en
            split at k2
            · rename_i x ex
              simp only [RD] at r; subst r
              obtain ⟨b, o, e4, e5, c5, k5⟩ := s1.own (ownL_eq e3)
              rw [e1] at e4; cases e4
              obtain ⟨ws, rfl, rs⟩ := c5.lst
              obtain ⟨w, ew, rw'⟩ := rs.get ex
              exact ⟨a, ws, q, n, w, rfl, rfl, e5, hq.1, hq.2, by rw [seq_ix, ← rs.length]; exact en, ew, k2 g1 _ (k5 (.lst (ds.eraseIdx n)) (.lst (ws.eraseIdx n)) (rs.eraseIdx n)) (GT.refl _ _) w rw'⟩
            · exact k2.elim
          · exact k2.elim
        · exact k2.elim
      | _ => exact k2.elim
def ePop0 (i : Nat) : E D := fun st => match st.ownL i with
  | some ds => match ds[ds.length - 1]? with
    | some x => .ok x (st.set i (.own (.lst ds.dropLast)))
    | none => .bad
  | none => .bad
theorem pd_pop0 {i : Nat} {x : Str} (hK : X.K = Γ.K) (hN : X.N[i]? = some x) (hv : Vis X.env.scope x) (hd : (x == ("__debug__" : Str)) = false := by decide) (hcd : (x == ("__classdict__" : Str)) = false := by decide)
    (hbase : attributeBase (.Name x pos2) "pop" X.env (eval (.Name x pos2) X.env) = eval (.Name x pos2) X.env := by rfl) (hline : (apos.endLine == ppos.line) = true := by rfl) :
    PD Γ W X (.Call (.Attribute (.Name x pos2) "pop" apos) [] [] ppos) (ePop0 i) := by
  refine ⟨(pe_bm0 PySem.F.plainAttrs_list PySem.F.slot_list_pop PySem.F.type_list_pop mt_pop (pe_var hN hv hd hcd) hbase hline).csq fun σ H Q ⟨Z, Lt, g, st, s, h⟩ => ?_⟩
  unfold ePop0 at h
  cases e0 : st.ownL i with
  | none => rw [e0] at h; exact h.elim
  | some ds =>
    rw [e0] at h
    simp only at h
    obtain ⟨a, o, e1, e2, c2, k2⟩ := s.own (ownL_eq e0)
    obtain ⟨vs, rfl, rs⟩ := c2.lst
    split at h
    · rename_i x ex
      obtain ⟨w, ew, rw'⟩ := rs.get ex
      refine ⟨_, e1, .inl ⟨rfl, vs, SqL.of e2⟩, a, vs, w, rfl, rfl, e2, by rw [← rs.length]; exact ew, h g _ (k2 (.lst ds.dropLast) (.lst vs.dropLast) rs.dropLast) (GT.refl _ _) w rw'⟩
    · exact h.elim
/-! ### x.extend(e) of a name's own list -/
def sExt (i : Nat) (f : E D) : S := fun st => match st.ownL i with
  | some _ => SRes.of (f st) fun d s1 => match s1.ownL i, d with
    | some ds, .lst es => if ds.length + es.length ≤ 16777216 then .nx (s1.set i (.own (.lst (ds ++ es)))) else .bad
    | _, _ => .bad
  | none => .bad
theorem st_ext {i : Nat} {x : Str} (hK : X.K = Γ.K) (hN : X.N[i]? = some x) (hv : Vis X.env.scope x) (y : PF Γ W X e f) (hd : (x == ("__debug__" : Str)) = false := by decide) (hcd : (x == ("__classdict__" : Str)) = false := by decide)
    (hbase : attributeBase (.Name x pos2) "extend" X.env (eval (.Name x pos2) X.env) = eval (.Name x pos2) X.env := by rfl)
    (hfew : ((backTo ppos (starEach [e] X.env)).all (fun x => !x.1) && (backToKw ppos (keywordEach [] X.env)).all (fun x => x.1.isSome)
      && decide ([e].length + ([] : List Keyword).length + (if ([] : List Keyword).isEmpty then 0 else 1) < 30)) = true := by rfl)
    (hline : (apos.endLine == ppos.line) = true := by rfl) (hs : starEach [e] X.env = (false, eval e X.env) :: starEach [] X.env := by rfl) (hplain : (backTo ppos (starEach [] X.env)).any (·.1) = false := by rfl)
    (hsw : swapsWith (.Call (.Attribute (.Name x pos2) "extend" apos) [e] [] ppos) none pos.line X.env = pure false := by rfl) :
    PSt Γ W X (.Expr (.Call (.Attribute (.Name x pos2) "extend" apos) [e] [] ppos) pos) (sExt i f) := by
  refine ⟨(ps_expr (pe_bm PySem.F.plainAttrs_list PySem.F.slot_list_extend PySem.F.type_list_extend mt_extend (pe_var hN hv hd hcd) (pa_cons y.pe pa_nil hs) hbase hfew hline hs hplain) hsw).csq fun D σ H ⟨Z, Lt, g, st, s, h⟩ => ?_⟩
  unfold sExt at h
  cases e0 : st.ownL i with
  | none => rw [e0] at h; exact h.elim
  | some ds0 =>
    rw [e0] at h
    obtain ⟨a, o, e1, e2, c2, _⟩ := s.own (ownL_eq e0)
    obtain ⟨vs, rfl, _⟩ := c2.lst
    refine ⟨_, e1, .inl ⟨rfl, vs, SqL.of e2⟩, Z, Lt, g, st, s, (GoS.of h).imp fun d g1 st1 H1 s1 t1 k1 b r => ?_⟩
    have k2 := k1 g1 H1 s1 (GT.refl _ _)
    cases e3 : st1.ownL i with
    | none => rw [e3] at k2; exact k2.elim
    | some ds =>
      rw [e3] at k2
      cases d with
      | lst es =>
        simp only at k2
        obtain ⟨b', o, e4, e5, c5, k5⟩ := s1.own (ownL_eq e3)
        rw [e1] at e4; cases e4
        obtain ⟨ws, rfl, rs⟩ := c5.lst
        obtain ⟨r1, r2, r3, r4, o', r5, r6⟩ := r
        obtain ⟨zs, rfl, rz⟩ := r6.lst
        split at k2
        · rename_i hl
          exact ⟨a, b, ws, zs, rfl, rfl, e5, r5, by rw [← rs.length, ← rz.length, sizeLine_eq]; exact hl, k2 σ g1 _ (k5 (.lst (ds ++ es)) (.lst (ws ++ zs)) (rs.append rz)) (GT.refl _ _)⟩
        · exact k2.elim
      | _ => exact k2.elim
/-! ### equations -/
@[simp] theorem eLendF_s {α : Type} {f : E α} (j i : Nat) : eLendF j i f st = match st.objAt j with
  | some r => match st.fld r i with
    | some (.own d) => (f (st.setF r i (.lent d))).unF r i
    | _ => f st
  | none => .bad := id rfl
@[simp] theorem sLendF_s (j i : Nat) : sLendF j i f1 st = match st.objAt j with
  | some r => match st.fld r i with
    | some (.own d) => (f1 (st.setF r i (.lent d))).unF r i
    | _ => f1 st
  | none => .bad := id rfl
@[simp] theorem unF_ok {α : Type} {a : α} (r i : Nat) : (Res.ok a st).unF r i = match st.fld r i with
    | some (.lent d) => .ok a (st.setF r i (.own d))
    | _ => .bad := id rfl
@[simp] theorem unF_exc {α : Type} {x : XV} (r i : Nat) : (Res.exc x st : Res α).unF r i = match st.fld r i with
    | some (.lent d) => .exc x (st.setF r i (.own d))
    | _ => .bad := id rfl
@[simp] theorem sunF_nx (r i : Nat) : (SRes.nx st).unF r i = match st.fld r i with
    | some (.lent d) => .nx (st.setF r i (.own d))
    | _ => .bad := id rfl
@[simp] theorem sunF_ret {x : FV} (r i : Nat) : (SRes.ret x st).unF r i = match st.fld r i with
    | some (.lent d) => .ret x (st.setF r i (.own d))
    | _ => .bad := id rfl
@[simp] theorem sAppF_s (j i : Nat) : sAppF j i f st = match st.objAt j with
  | some r => match st.fld r i with
    | some (.own (.lst ds0)) => SRes.of ((f (st.setF r i (.lent (.lst ds0)))).unF r i) fun y s1 => match s1.fld r i with
      | some (.own (.lst ds)) => if ds.length < 16777216 then .nx (s1.setF r i (.own (.lst (ds ++ [y])))) else .bad
      | _ => .bad
    | _ => .bad
  | none => .bad := id rfl
@[simp] theorem sPutF_s (j i : Nat) : sPutF j i k f st = SRes.of (f st) fun d s1 => match s1.objAt j with
  | some r => match s1.fld r i with
    | some (.own (.lst ds0)) => SRes.of ((k (s1.setF r i (.lent (.lst ds0)))).unF r i) fun jx s2 => match s2.fld r i, jx with
      | some (.own (.lst ds)), .int q => match ixD ds.length q with
        | some n => .nx (s2.setF r i (.own (.lst (ds.set n d))))
        | none => .bad
      | _, _ => .bad
    | _ => .bad
  | none => .bad := id rfl
@[simp] theorem ownD_s (s : List (Option FV)) (h : List LO) (n : Nat) : LS.ownD ⟨s, h⟩ n = match s[n]? with
  | some (some (.own (.dic ds))) => some ds
  | _ => none := id rfl
@[simp] theorem dKey_i (i : Int) : dKey (.int i) = some (.inl i) := id rfl
@[simp] theorem dKey_s (i : Str) : dKey (.str i) = some (.inr i) := id rfl
@[simp] theorem kD_i (i : Int) : kD (.inl i) = .int i := id rfl
@[simp] theorem kD_s (i : Str) : kD (.inr i) = .str i := id rfl
@[simp] theorem mDGet_i (kvs : List (Key × D)) (i : Int) : mDGet (.dic kvs) (.int i) st = match valD kvs (.inl i) with
    | some d => .ok d st
    | none => .bad := id rfl
@[simp] theorem mDGet_t (kvs : List (Key × D)) (i : Str) : mDGet (.dic kvs) (.str i) st = match valD kvs (.inr i) with
    | some d => .ok d st
    | none => .bad := id rfl
@[simp] theorem mDIn_i (kvs : List (Key × D)) (neg : Bool) (i : Int) : mDIn neg (.int i) (.dic kvs) st = .ok (.bl ((valD kvs (.inl i)).isSome != neg)) st := id rfl
@[simp] theorem eDGet2_s : eDGet2 f k l st = (f st).bind fun x s1 => match x with
  | .dic kvs => (k s1).bind fun y s2 => (l s2).bind fun z s3 => match dKey y with
    | some q => .ok ((valD kvs q).getD z) s3
    | none => .bad
  | _ => .bad := id rfl
@[simp] theorem eDNew_s : eDNew st = .ok (.dic []) st := id rfl
@[simp] theorem sDPut_s (i : Nat) : sDPut i k f st = SRes.of (f st) fun d s1 => match s1.ownD i with
  | some _ => SRes.of (k s1) fun y s2 => match s2.ownD i, dKey y with
    | some kvs, some q => if kvs.length < 16777216 then .nx (s2.set i (.own (.dic (putD kvs q d)))) else .bad
    | _, _ => .bad
  | none => .bad := id rfl
@[simp] theorem sDPutF_s (j i : Nat) : sDPutF j i k f st = SRes.of (f st) fun d s1 => match s1.objAt j with
  | some r => match s1.fld r i with
    | some (.own (.dic ds0)) => SRes.of ((k (s1.setF r i (.lent (.dic ds0)))).unF r i) fun jx s2 => match s2.fld r i, dKey jx with
      | some (.own (.dic kvs)), some q => if kvs.length < 16777216 then .nx (s2.setF r i (.own (.dic (putD kvs q d)))) else .bad
      | _, _ => .bad
    | _ => .bad
  | none => .bad := id rfl
@[simp] theorem mSortedX_l (ds : List D) : mSortedX (.lst ds) st = match intsD ds with
    | some ns => .ok (.lst ((srt ns).map D.int)) st
    | none => .bad := id rfl
@[simp] theorem mSortedX_d (ds : List (Key × D)) : mSortedX (.dic ds) st = match keysD ds with
    | some ns => .ok (.lst ((srt ns).map D.int)) st
    | none => .bad := id rfl
@[simp] theorem mSortedVR_d (ds : List (Key × D)) : mSortedVR (.dic ds) st = match intsD (ds.map (·.2)) with
    | some ns => .ok (.lst ((srt ns).reverse.map D.int)) st
    | none => .bad := id rfl
@[simp] theorem mSortedK_d (ds : List (Key × D)) : mSortedK (.dic ds) st = match keysD ds with
    | some ns => .ok (.lst ((srt ns).map D.int)) st
    | none => .bad := id rfl
@[simp] theorem mListV_d (ds : List (Key × D)) : mListV (.dic ds) st = .ok (.lst (ds.map (·.2))) st := id rfl
@[simp] theorem mListX_l (ds : List D) : mListX (.lst ds) st = .ok (.lst ds) st := id rfl
@[simp] theorem mListX_t (ds : List D) : mListX (.tup ds) st = .ok (.lst ds) st := id rfl
@[simp] theorem mListX_d (ds : List (Key × D)) : mListX (.dic ds) st = .ok (.lst (ds.map fun p => kD p.1)) st := id rfl
@[simp] theorem mDictC_d (ds : List (Key × D)) : mDictC (.dic ds) st = .ok (.dic ds) st := id rfl
@[simp] theorem noE_nx : noE (.nx st) = .nx st := id rfl
@[simp] theorem noE_ret {z : FV} : noE (.ret z st) = .ret z st := id rfl
@[simp] theorem sForI_s (π : LS → Option (List (Key × D))) (tg : D → LS → Option LS) : sForI π tg f1 st = match π st with
  | some kvs => noE (turns tg f1 (itemsD kvs) st)
  | none => .bad := id rfl
@[simp] theorem sForK_s (π : LS → Option (List (Key × D))) (tg : D → LS → Option LS) : sForK π tg f1 st = match π st with
  | some kvs => noE (turns tg f1 (kvs.map fun p => kD p.1) st)
  | none => .bad := id rfl
@[simp] theorem πV_s (s : List (Option FV)) (h : List LO) (i : Nat) : πV i ⟨s, h⟩ = match s[i]? with
  | some (some (.lent (.dic kvs))) => some kvs
  | some (some (.val (.dic kvs))) => some kvs
  | _ => none := id rfl
@[simp] theorem πF_s (j i : Nat) : πF j i st = match st.objAt j with
  | some r => match st.fld r i with
    | some (.lent (.dic kvs)) => some kvs
    | _ => none
  | none => none := id rfl
@[simp] theorem ePop_s (i : Nat) : ePop i f st = match st.ownL i with
  | some _ => (f st).bind fun d s1 => match s1.ownL i, d with
    | some ds, .int q => if -(2 ^ 63) ≤ q ∧ q < 2 ^ 63 then match ixD ds.length q with
      | some n => match ds[n]? with
        | some x => .ok x (s1.set i (.own (.lst (ds.eraseIdx n))))
        | none => .bad
      | none => .bad else .bad
    | _, _ => .bad
  | none => .bad := id rfl
@[simp] theorem ePop0_s (i : Nat) : ePop0 i st = match st.ownL i with
  | some ds => match ds[ds.length - 1]? with
    | some x => .ok x (st.set i (.own (.lst ds.dropLast)))
    | none => .bad
  | none => .bad := id rfl
@[simp] theorem sExt_s (i : Nat) : sExt i f st = match st.ownL i with
  | some _ => SRes.of (f st) fun d s1 => match s1.ownL i, d with
    | some ds, .lst es => if ds.length + es.length ≤ 16777216 then .nx (s1.set i (.own (.lst (ds ++ es)))) else .bad
    | _, _ => .bad
  | none => .bad := id rfl
end
end PL

/-! The plain law of rungs. -/
namespace PX
open PL
/-- a sum over lists, each by its place -/
def wsum (g : Nat → List Int → Int) : Nat → List (List Int) → Int
  | _, [] => 0
  | k, r :: rs => g k r + wsum g (k + 1) rs
def rowAt (R : List (List Int)) (h : Nat) : List Int := (R[h]?).getD []
theorem wsum_set (g : Nat → List Int → Int) : ∀ (R : List (List Int)) (k h : Nat) (x : List Int), h < R.length → wsum g k (R.set h x) = wsum g k R + g (k + h) x - g (k + h) (rowAt R h)
  | [], _, _, _, hl => by simp at hl
  | r :: R, k, 0, x, _ => by simp [wsum, rowAt]; omega
  | r :: R, k, h + 1, x, hl => by
    have := wsum_set g R (k + 1) h x (by simpa using hl)
    simp only [List.set_cons_succ, wsum, this, show k + 1 + h = k + (h + 1) by omega]
    have e : rowAt (r :: R) (h + 1) = rowAt R h := by simp [rowAt]
    rw [e]; omega
theorem wsum_app (g : Nat → List Int → Int) : ∀ (R Q : List (List Int)) (k : Nat), wsum g k (R ++ Q) = wsum g k R + wsum g (k + R.length) Q
  | [], Q, k => by simp [wsum]
  | r :: R, Q, k => by
    rw [List.cons_append, wsum, wsum, wsum_app g R Q (k + 1), List.length_cons, show k + 1 + R.length = k + (R.length + 1) by omega]
    omega
theorem wsum_nils (g : Nat → List Int → Int) (h0 : ∀ k, g k [] = 0) : ∀ (n k : Nat), wsum g k (List.replicate n []) = 0
  | 0, k => rfl
  | n + 1, k => by rw [List.replicate_succ, wsum, h0, wsum_nils g h0 n]; rfl
theorem wsum_le {g g' : Nat → List Int → Int} : ∀ (R : List (List Int)) (k : Nat), (∀ h r, k ≤ h → h < k + R.length → r ∈ R → g h r ≤ g' h r) → wsum g k R ≤ wsum g' k R
  | [], k, _ => by simp [wsum]
  | r :: R, k, h => by
    have h1 := h k r (Nat.le_refl _) (by simp) (by simp)
    have h2 := wsum_le (g := g) (g' := g') R (k + 1) fun a b c d e => h a b (by omega) (by simp; omega) (by simp [e])
    simp only [wsum]; omega
theorem wsum_nn {g : Nat → List Int → Int} (R : List (List Int)) (k : Nat) (h : ∀ h r, r ∈ R → 0 ≤ g h r) : 0 ≤ wsum g k R := by
  induction R generalizing k with
  | nil => simp [wsum]
  | cons r R ih =>
    have h1 := h k r (by simp)
    have h2 := ih (k + 1) fun a b m => h a b (by simp [m])
    simp only [wsum]; omega
theorem wsum_mul (c : Int) (g : Nat → List Int → Int) : ∀ (R : List (List Int)) (k : Nat), wsum (fun h r => c * g h r) k R = c * wsum g k R
  | [], k => by simp [wsum]
  | r :: R, k => by simp only [wsum]; rw [wsum_mul c g R, Int.mul_add]
theorem rowAt_app {R Q : List (List Int)} {h : Nat} (hl : h < R.length) : rowAt (R ++ Q) h = rowAt R h := by
  unfold rowAt; rw [List.getElem?_append_left hl]
theorem rowAt_nils (R : List (List Int)) (n h : Nat) (hl : R.length ≤ h) : rowAt (R ++ List.replicate n []) h = [] := by
  unfold rowAt
  rw [List.getElem?_append_right hl, List.getElem?_replicate]
  split <;> rfl
theorem rowAt_set (R : List (List Int)) (h j : Nat) (x : List Int) : rowAt (R.set h x) j = if j = h ∧ h < R.length then x else rowAt R j := by
  unfold rowAt
  rw [List.getElem?_set]
  by_cases c : h = j
  · subst c
    by_cases d : h < R.length
    · simp [d]
    · simp [d]
  · have : ¬ j = h := fun e => c e.symm
    simp [c, this]
theorem rowAt_mem {R : List (List Int)} {h : Nat} (hl : h < R.length) : rowAt R h ∈ R := by
  unfold rowAt; rw [List.getElem?_eq_getElem hl]; exact List.getElem_mem hl
/-- of each two neighbours one -/
def goesOf (g : Bool) : List Int → List Int
  | a :: b :: r => (if g then b else a) :: goesOf g r
  | _ => []
def staysOf (row : List Int) : List Int := row.drop (2 * (row.length / 2))
theorem goes_len (g : Bool) : ∀ row : List Int, (goesOf g row).length = row.length / 2
  | [] => rfl
  | [_] => by simp [goesOf]
  | a :: b :: r => by rw [goesOf, List.length_cons, goes_len g r]; simp only [List.length_cons]; omega
theorem goes_mem (g : Bool) : ∀ (row : List Int) (x : Int), x ∈ goesOf g row → x ∈ row
  | [], x, m => m
  | [_], x, m => by simp [goesOf] at m
  | a :: b :: r, x, m => by
    rw [goesOf] at m
    rcases List.mem_cons.mp m with e | m
    · cases g <;> simp at e <;> simp [e]
    · have := goes_mem g r x m; simp [this]
theorem stays_len (row : List Int) : (staysOf row).length = row.length % 2 := by unfold staysOf; rw [List.length_drop]; omega
theorem stays_cons (a b : Int) (r : List Int) : staysOf (a :: b :: r) = staysOf r := by
  unfold staysOf
  have : 2 * ((a :: b :: r).length / 2) = 2 * (r.length / 2) + 2 := by simp only [List.length_cons]; omega
  rw [this]; rfl
def cntL (t : Int) (row : List Int) : Int := ((row.countP fun a => decide (a ≤ t) : Nat) : Int)
theorem cnt_nil (t : Int) : cntL t [] = 0 := rfl
theorem cnt_cons (t a : Int) (r : List Int) : cntL t (a :: r) = (if a ≤ t then 1 else 0) + cntL t r := by
  unfold cntL; rw [List.countP_cons]
  by_cases c : a ≤ t <;> simp [c]; omega
theorem cnt_app (t : Int) (a b : List Int) : cntL t (a ++ b) = cntL t a + cntL t b := by unfold cntL; rw [List.countP_append]; simp
theorem cnt_perm {t : Int} {a b : List Int} (p : a.Perm b) : cntL t a = cntL t b := by unfold cntL; rw [p.countP_eq]
theorem cnt_none {t : Int} {r : List Int} (h : ∀ a ∈ r, t < a) : cntL t r = 0 := by
  unfold cntL
  have : r.countP (fun a => decide (a ≤ t)) = 0 := by
    rw [List.countP_eq_zero]; intro a m; have := h a m; simp; omega
  rw [this]; rfl
theorem cnt_nn (t : Int) (r : List Int) : 0 ≤ cntL t r := by unfold cntL; omega
theorem cnt_le (t : Int) (r : List Int) : cntL t r ≤ r.length := by unfold cntL; have := List.countP_le_length (p := fun a => decide (a ≤ t)) (l := r); omega
theorem goes_cnt (g : Bool) (t : Int) : ∀ row : List Int, row.Pairwise (· ≤ ·) → (g = false → 0 ≤ 2 * cntL t (goesOf g row) - (cntL t row - cntL t (staysOf row)) ∧ 2 * cntL t (goesOf g row) - (cntL t row - cntL t (staysOf row)) ≤ 1) ∧
    (g = true → -1 ≤ 2 * cntL t (goesOf g row) - (cntL t row - cntL t (staysOf row)) ∧ 2 * cntL t (goesOf g row) - (cntL t row - cntL t (staysOf row)) ≤ 0)
  | [], _ => by simp [goesOf, staysOf, cnt_nil]
  | [a], _ => by simp [goesOf, staysOf, cnt_nil]
  | a :: b :: r, h => by
    rw [List.pairwise_cons, List.pairwise_cons] at h
    obtain ⟨h1, h2, h3⟩ := h
    have ih := goes_cnt g t r h3
    rw [goesOf, stays_cons, cnt_cons, cnt_cons, cnt_cons]
    have hab := h1 b (by simp)
    by_cases ca : a ≤ t
    · by_cases cb : b ≤ t
      · cases g <;> simp only [ca, cb, if_true, if_false, Bool.false_eq_true, reduceCtorEq, false_implies, true_implies, forall_const, and_true, true_and] at ih ⊢ <;> omega
      · have z1 : cntL t r = 0 := cnt_none fun c m => by have := h2 c m; omega
        have z2 : cntL t (goesOf g r) = 0 := cnt_none fun c m => by have := h2 c (goes_mem g r c m); omega
        have z3 : cntL t (staysOf r) = 0 := cnt_none fun c m => by have := h2 c (List.mem_of_mem_drop m); omega
        rw [z1, z2, z3]
        cases g <;> simp [ca, cb]
    · have cb : ¬ b ≤ t := by omega
      have e : ¬ (if g = true then b else a) ≤ t := by cases g <;> simp <;> omega
      simp only [ca, cb, e, if_false]
      constructor
      · intro hg; have := ih.1 hg; omega
      · intro hg; have := ih.2 hg; omega
structure Rg where
  R : List (List Int)
  ov : Int
  un : Int
  tu : Int
def growR (R : List (List Int)) (h : Nat) : List (List Int) := if h + 1 = R.length then R ++ [[]] else R
def stepR (room : Nat) (h : Nat) (S : Rg) : Rg :=
  if room < (rowAt S.R h).length then
    ⟨((growR S.R h).set h (staysOf (rowAt S.R h))).set (h + 1) (srt (rowAt (growR S.R h) (h + 1) ++ goesOf (decide (S.tu % 2 = 1)) (rowAt S.R h))),
     if S.tu % 2 = 1 then S.ov else S.ov + 2 ^ h, if S.tu % 2 = 1 then S.un + 2 ^ h else S.un, S.tu + 1⟩
  else S
def loopR (room : Nat) : Nat → Nat → Rg → Rg
  | 0, _, S => S
  | n + 1, h, S => if h < S.R.length then loopR room n (h + 1) (stepR room h S) else S
def elems (R : List (List Int)) : Nat := (R.map List.length).sum
def mu (h : Nat) (R : List (List Int)) : Nat := (R.length - h) + elems (R.drop h)
def settleR (room : Nat) (S : Rg) : Rg := loopR room (mu 0 S.R) 0 S
theorem growR_len (R : List (List Int)) (h : Nat) (hl : h < R.length) : h + 1 < (growR R h).length ∧ R.length ≤ (growR R h).length := by
  unfold growR
  split
  · simp; omega
  · omega
theorem drop_row {R : List (List Int)} {h : Nat} (hl : h < R.length) : R.drop h = rowAt R h :: R.drop (h + 1) := by
  rw [List.drop_eq_getElem_cons hl]
  unfold rowAt; rw [List.getElem?_eq_getElem hl]; rfl
theorem elems_cons (r : List Int) (R : List (List Int)) : elems (r :: R) = r.length + elems R := by unfold elems; simp
theorem mu_step {room h : Nat} {S : Rg} (hr : 1 ≤ room) (hl : h < S.R.length) : mu (h + 1) (stepR room h S).R < mu h S.R := by
  unfold stepR
  split
  · rename_i c
    obtain ⟨g1, g2⟩ := growR_len S.R h hl
    have e0 : mu h S.R = (S.R.length - h) + ((rowAt S.R h).length + elems (S.R.drop (h + 1))) := by unfold mu; rw [drop_row hl, elems_cons]
    rw [e0]
    unfold mu
    simp only [List.length_set]
    have e1 : List.drop (h + 1) (((growR S.R h).set h (staysOf (rowAt S.R h))).set (h + 1) (srt (rowAt (growR S.R h) (h + 1) ++ goesOf (decide (S.tu % 2 = 1)) (rowAt S.R h)))) =
        srt (rowAt (growR S.R h) (h + 1) ++ goesOf (decide (S.tu % 2 = 1)) (rowAt S.R h)) :: (growR S.R h).drop (h + 2) := by
      rw [drop_row (by simpa using g1), rowAt_set]
      simp only [List.length_set, g1, and_self, if_true]
      congr 1
      rw [List.drop_set, if_pos (by omega), List.drop_set, if_pos (by omega)]
    rw [e1, elems_cons, srt_length, List.length_append, goes_len]
    unfold growR at *
    by_cases q : h + 1 = S.R.length
    · rw [if_pos q] at *
      have z : rowAt (S.R ++ [[]]) (h + 1) = [] := by have := rowAt_nils S.R 1 (h + 1) (by omega); simpa using this
      have d : (S.R ++ [[]]).drop (h + 2) = [] := List.drop_eq_nil_of_le (by simp; omega)
      rw [z, d]
      have d2 : S.R.drop (h + 1) = [] := List.drop_eq_nil_of_le (by omega)
      rw [d2]
      simp [elems] at *
      omega
    · rw [if_neg q] at *
      rw [drop_row (h := h + 1) (by omega), elems_cons, show h + 1 + 1 = h + 2 from rfl]
      omega
  · unfold mu
    rw [drop_row hl, elems_cons]; omega
theorem loop_fuel {room : Nat} (hr : 1 ≤ room) : ∀ (n m h : Nat) (S : Rg), mu h S.R ≤ n → mu h S.R ≤ m → loopR room n h S = loopR room m h S
  | 0, 0, h, S, _, _ => rfl
  | 0, m + 1, h, S, a, _ => by
    have : ¬ h < S.R.length := by unfold mu at a; omega
    rw [loopR, loopR, if_neg this]
  | n + 1, 0, h, S, _, a => by
    have : ¬ h < S.R.length := by unfold mu at a; omega
    rw [loopR, loopR, if_neg this]
  | n + 1, m + 1, h, S, a, b => by
    rw [loopR, loopR]
    by_cases c : h < S.R.length
    · rw [if_pos c, if_pos c]
      have := mu_step (room := room) hr c
      exact loop_fuel hr n m (h + 1) _ (by omega) (by omega)
    · rw [if_neg c, if_neg c]
/-- what a loop keeps -/
theorem loop_inv {room : Nat} (hr : 1 ≤ room) (P : Nat → Rg → Prop) (step : ∀ h S, h < S.R.length → P h S → P (h + 1) (stepR room h S)) : ∀ (n h : Nat) (S : Rg), mu h S.R ≤ n → P h S → ∃ h', (loopR room n h S).R.length ≤ h' ∧ P h' (loopR room n h S)
  | 0, h, S, a, p => ⟨h, by unfold mu at a; simp only [loopR]; omega, p⟩
  | n + 1, h, S, a, p => by
    rw [loopR]
    by_cases c : h < S.R.length
    · rw [if_pos c]
      have := mu_step (room := room) hr c
      exact loop_inv hr P step n (h + 1) _ (by omega) (step h S c p)
    · rw [if_neg c]; exact ⟨h, by omega, p⟩
/-! ### the measures -/
def lenG : Nat → List Int → Int := fun h r => (r.length : Int) * 2 ^ h
def cntG (t : Int) : Nat → List Int → Int := fun h r => cntL t r * 2 ^ h
def phiG : Nat → List Int → Int := fun h r => (h : Int) * ((r.length : Int) * 2 ^ h)
def weightR (R : List (List Int)) : Int := wsum lenG 0 R
def nearR (t : Int) (R : List (List Int)) : Int := wsum (cntG t) 0 R
def phiR (R : List (List Int)) : Int := wsum phiG 0 R
theorem lenG_nil (k : Nat) : lenG k [] = 0 := by simp [lenG]
theorem cntG_nil (t : Int) (k : Nat) : cntG t k [] = 0 := by simp [cntG, cnt_nil]
theorem phiG_nil (k : Nat) : phiG k [] = 0 := by simp [phiG]
theorem wsum_grow (g : Nat → List Int → Int) (h0 : ∀ k, g k [] = 0) (R : List (List Int)) (h : Nat) : wsum g 0 (growR R h) = wsum g 0 R := by
  unfold growR
  split
  · rw [wsum_app]; simp [wsum, h0]
  · rfl
theorem rowAt_grow {R : List (List Int)} {h j : Nat} (hj : j < R.length) : rowAt (growR R h) j = rowAt R j := by
  unfold growR
  split
  · exact rowAt_app hj
  · rfl
theorem wsum_settle (g : Nat → List Int → Int) (h0 : ∀ k, g k [] = 0) (R : List (List Int)) (h : Nat) (hl : h < R.length) (x y : List Int) :
    wsum g 0 (((growR R h).set h x).set (h + 1) y) = wsum g 0 R + g h x - g h (rowAt R h) + g (h + 1) y - g (h + 1) (rowAt (growR R h) (h + 1)) := by
  obtain ⟨g1, g2⟩ := growR_len R h hl
  rw [wsum_set g _ 0 (h + 1) y (by simpa using g1), wsum_set g _ 0 h x (by omega), wsum_grow g h0, rowAt_set]
  have : ¬ (h + 1 = h ∧ h < (growR R h).length) := by omega
  rw [if_neg this, rowAt_grow hl, Nat.zero_add, Nat.zero_add]
structure OkS (room : Nat) (S : Rg) (total : Int) (tr : Int → Int) (P : Int → Prop) : Prop where
  so : ∀ r ∈ S.R, r.Pairwise (· ≤ ·)
  ov : 0 ≤ S.ov
  un : 0 ≤ S.un
  tu : 0 ≤ S.tu
  bd : ∀ t, nearR t S.R - S.ov ≤ tr t ∧ tr t ≤ nearR t S.R + S.un
  we : weightR S.R = total
  sl : (S.ov + S.un) * (room : Int) ≤ phiR S.R
  me : ∀ r ∈ S.R, ∀ a ∈ r, P a
  la : S.R = [] ∨ rowAt S.R (S.R.length - 1) ≠ []
theorem mem_grow {R : List (List Int)} {h : Nat} {r : List Int} (m : r ∈ growR R h) : r ∈ R ∨ r = [] := by
  unfold growR at m
  split at m
  · simpa using m
  · exact .inl m
theorem two_pow_succ (h : Nat) : (2 : Int) ^ (h + 1) = 2 * 2 ^ h := by rw [Int.pow_succ]; omega
theorem p2p (h : Nat) : (0 : Int) < 2 ^ h := Int.pow_pos (by decide)
theorem step_ok {room h : Nat} {S : Rg} {total : Int} {tr : Int → Int} {P : Int → Prop} (he : room % 2 = 0) (hr : 2 ≤ room) (hl : h < S.R.length) (o : OkS room S total tr P) : OkS room (stepR room h S) total tr P ∧ S.ov ≤ (stepR room h S).ov ∧ S.un ≤ (stepR room h S).un ∧ S.tu ≤ (stepR room h S).tu := by
  unfold stepR
  split
  case isFalse => exact ⟨o, Int.le_refl _, Int.le_refl _, Int.le_refl _⟩
  rename_i c
  obtain ⟨g1, g2⟩ := growR_len S.R h hl
  have hp := p2p h
  have row_m := rowAt_mem hl
  have hso := o.so _ row_m
  have hs := stays_len (rowAt S.R h)
  have hg := goes_len (decide (S.tu % 2 = 1)) (rowAt S.R h)
  have nx_m : ∀ a ∈ rowAt (growR S.R h) (h + 1), P a := fun a m => by
    rcases mem_grow (rowAt_mem g1) with q | q
    · exact o.me _ q a m
    · rw [q] at m; simp at m
  refine ⟨⟨?_, ?_, ?_, ?_, ?_, ?_, ?_, ?_, ?_⟩, ?_, ?_, ?_⟩
  · intro r m
    rcases List.mem_or_eq_of_mem_set m with m | rfl
    · rcases List.mem_or_eq_of_mem_set m with m | rfl
      · rcases mem_grow m with m | rfl
        · exact o.so r m
        · exact List.Pairwise.nil
      · exact hso.sublist (List.drop_sublist _ _)
    · exact srt_sorted _
  · have := o.ov; simp only; split <;> omega
  · have := o.un; simp only; split <;> omega
  · have := o.tu; simp only; omega
  · intro t
    have := o.bd t
    have hGG : (S.tu % 2 = 1 ∧ decide (S.tu % 2 = 1) = true) ∨ (¬ S.tu % 2 = 1 ∧ decide (S.tu % 2 = 1) = false) := by
      by_cases q : S.tu % 2 = 1
      · exact .inl ⟨q, by simp [q]⟩
      · exact .inr ⟨q, by simp [q]⟩
    have gc := goes_cnt (decide (S.tu % 2 = 1)) t (rowAt S.R h) hso
    have e : nearR t (((growR S.R h).set h (staysOf (rowAt S.R h))).set (h + 1) (srt (rowAt (growR S.R h) (h + 1) ++ goesOf (decide (S.tu % 2 = 1)) (rowAt S.R h)))) =
        nearR t S.R + (2 * cntL t (goesOf (decide (S.tu % 2 = 1)) (rowAt S.R h)) - (cntL t (rowAt S.R h) - cntL t (staysOf (rowAt S.R h)))) * 2 ^ h := by
      unfold nearR
      rw [wsum_settle _ (cntG_nil t) _ _ hl]
      simp only [cntG]
      rw [cnt_perm (srt_perm _), cnt_app, two_pow_succ]
      generalize (2 : Int) ^ h = p at *
      generalize cntL t (rowAt S.R h) = a at *
      generalize cntL t (staysOf (rowAt S.R h)) = b at *
      generalize cntL t (rowAt (growR S.R h) (h + 1)) = d at *
      generalize cntL t (goesOf _ (rowAt S.R h)) = e at *
      simp only [Int.add_mul, Int.sub_mul, Int.mul_assoc, Int.mul_left_comm _ 2]
      omega
    generalize decide (S.tu % 2 = 1) = G at *
    have hG : (S.tu % 2 = 1 ∧ G = true) ∨ (¬ S.tu % 2 = 1 ∧ G = false) := hGG
    simp only
    rw [e]
    generalize 2 * cntL t (goesOf G (rowAt S.R h)) - (cntL t (rowAt S.R h) - cntL t (staysOf (rowAt S.R h))) = x at *
    rcases hG with ⟨q, rfl⟩ | ⟨q, rfl⟩
    · have gc := gc.2 rfl
      rw [if_pos q, if_pos q]
      have : x = -1 ∨ x = 0 := by omega
      rcases this with rfl | rfl <;> omega
    · have gc := gc.1 rfl
      rw [if_neg q, if_neg q]
      have : x = 1 ∨ x = 0 := by omega
      rcases this with rfl | rfl <;> omega
  · have := o.we
    unfold weightR at *
    rw [wsum_settle _ lenG_nil _ _ hl]
    simp only [lenG]
    rw [srt_length, List.length_append, hg, hs, two_pow_succ, this]
    generalize (rowAt (growR S.R h) (h + 1)).length = d at *
    generalize (rowAt S.R h).length = n at *
    generalize (2 : Int) ^ h = p at *
    have e1 : (n : Int) = ((n % 2 : Nat) : Int) + 2 * ((n / 2 : Nat) : Int) := by omega
    rw [show ((d + n / 2 : Nat) : Int) = (d : Int) + ((n / 2 : Nat) : Int) by push_cast; rfl]
    rw [e1]
    simp only [Int.add_mul, Int.mul_assoc, Int.mul_left_comm _ 2]
    have : ((n % 2 : Nat) : Int) = (((n : Nat) : Int) % 2) := by omega
    generalize ((n % 2 : Nat) : Int) = a at *
    generalize ((n / 2 : Nat) : Int) = b at *
    omega
  · have hsl := o.sl
    unfold phiR at *
    rw [wsum_settle _ phiG_nil _ _ hl]
    simp only [phiG]
    rw [srt_length, List.length_append, hg, hs, two_pow_succ]
    generalize (rowAt (growR S.R h) (h + 1)).length = d at *
    have hn : room ≤ 2 * ((rowAt S.R h).length / 2) := by omega
    generalize (rowAt S.R h).length = n at *
    have e0 : (if S.tu % 2 = 1 then S.ov else S.ov + 2 ^ h) + (if S.tu % 2 = 1 then S.un + 2 ^ h else S.un) = S.ov + S.un + 2 ^ h := by split <;> omega
    rw [e0, Int.add_mul]
    have hm : 2 ^ h * (room : Int) ≤ 2 ^ h * (2 * ((n / 2 : Nat) : Int)) := Int.mul_le_mul_of_nonneg_left (by omega) (by omega)
    generalize (2 : Int) ^ h = p at *
    have e1 : (n : Int) = ((n % 2 : Nat) : Int) + 2 * ((n / 2 : Nat) : Int) := by omega
    rw [show ((d + n / 2 : Nat) : Int) = (d : Int) + ((n / 2 : Nat) : Int) by push_cast; rfl, show ((h + 1 : Nat) : Int) = (h : Int) + 1 by push_cast; rfl]
    rw [e1]
    generalize ((n % 2 : Nat) : Int) = a at *
    generalize ((n / 2 : Nat) : Int) = b at *
    have k1 : (h : Int) * ((a + 2 * b) * p) = (h : Int) * (a * p) + 2 * ((h : Int) * (b * p)) := by
      rw [Int.add_mul, Int.mul_add, Int.mul_assoc 2 b p, Int.mul_left_comm (h : Int) 2]
    have k2 : ((h : Int) + 1) * ((↑d + b) * (2 * p)) = ((h : Int) + 1) * (↑d * (2 * p)) + 2 * ((h : Int) * (b * p)) + 2 * (b * p) := by
      rw [Int.add_mul (↑d) b, Int.mul_add, Int.add_mul (h : Int) 1 (b * (2 * p)), Int.one_mul, Int.mul_left_comm b 2 p, Int.mul_left_comm (h : Int) 2]
      omega
    have k3 : p * (2 * b) = 2 * (b * p) := by rw [Int.mul_left_comm, Int.mul_comm p b]
    rw [k1, k2]
    omega
  · intro r m a ma
    rcases List.mem_or_eq_of_mem_set m with m | rfl
    · rcases List.mem_or_eq_of_mem_set m with m | rfl
      · rcases mem_grow m with m | rfl
        · exact o.me r m a ma
        · simp at ma
      · exact o.me _ row_m a (List.mem_of_mem_drop ma)
    · rw [mem_srt] at ma
      rcases List.mem_append.mp ma with ma | ma
      · exact nx_m a ma
      · exact o.me _ row_m a (goes_mem _ _ a ma)
  · right
    simp only [List.length_set]
    rw [rowAt_set, rowAt_set]
    have gne : srt (rowAt (growR S.R h) (h + 1) ++ goesOf (decide (S.tu % 2 = 1)) (rowAt S.R h)) ≠ [] := fun e => by
      have := congrArg List.length e
      simp [hg] at this
      omega
    split
    · exact gne
    · rename_i q
      simp only [List.length_set] at q
      have q2 : ¬ (growR S.R h).length - 1 = h + 1 := fun e => q ⟨e, g1⟩
      have q3 : ¬ ((growR S.R h).length - 1 = h ∧ h < (growR S.R h).length) := by omega
      rw [if_neg q3]
      have ge : growR S.R h = S.R := by
        unfold growR at *
        split
        · rename_i z; rw [if_pos z] at *; simp at *; omega
        · rfl
      rw [ge]
      rcases o.la with z | z
      · rw [z] at hl; simp at hl
      · exact z
  · simp only; split <;> omega
  · simp only; split <;> omega
  · simp only; omega
theorem settle_ok {room : Nat} {S : Rg} {total : Int} {tr : Int → Int} {P : Int → Prop} (he : room % 2 = 0) (hr : 2 ≤ room) (o : OkS room S total tr P) :
    OkS room (settleR room S) total tr P ∧ (∀ r ∈ (settleR room S).R, r.length ≤ room) ∧ S.ov ≤ (settleR room S).ov ∧ S.un ≤ (settleR room S).un ∧ S.tu ≤ (settleR room S).tu := by
  obtain ⟨h', a, b, c, d1, d2, d3⟩ := loop_inv (room := room) (by omega) (fun h Q => OkS room Q total tr P ∧ (∀ j, j < h → j < Q.R.length → (rowAt Q.R j).length ≤ room) ∧ S.ov ≤ Q.ov ∧ S.un ≤ Q.un ∧ S.tu ≤ Q.tu)
    (fun h Q hl ⟨o, s, q1, q2, q3⟩ => by
      obtain ⟨o', p1, p2, p3⟩ := step_ok he hr hl o
      refine ⟨o', fun j h1 h2 => ?_, by omega, by omega, by omega⟩
      unfold stepR at h2 ⊢
      split
      · rename_i c
        rw [if_pos c] at h2
        simp only [List.length_set] at h2
        rw [rowAt_set, rowAt_set]
        have : ¬ (j = h + 1 ∧ h + 1 < ((growR Q.R h).set h (staysOf (rowAt Q.R h))).length) := by omega
        rw [if_neg this]
        split
        · rw [stays_len]; omega
        · rename_i z
          have : j < h := by
            have := (growR_len Q.R h hl).2
            omega
          rw [rowAt_grow (by omega)]
          exact s j this (by omega)
      · rename_i c
        rw [if_neg c] at h2
        by_cases e : j = h
        · subst e; omega
        · exact s j (by omega) h2) (mu 0 S.R) 0 S (Nat.le_refl _) ⟨o, fun j h => by omega, Int.le_refl _, Int.le_refl _, Int.le_refl _⟩
  refine ⟨b, fun r m => ?_, d1, d2, d3⟩
  obtain ⟨j, hj, e⟩ := List.getElem_of_mem m
  have hj' : j < (loopR room (mu 0 S.R) 0 S).R.length := hj
  have := c j (by omega) hj'
  unfold rowAt at this
  rw [List.getElem?_eq_getElem hj'] at this
  rw [← e]; exact this
theorem phi_le (R : List (List Int)) : phiR R ≤ ((R.length : Int) - 1) * weightR R := by
  unfold phiR weightR
  rw [← wsum_mul]
  refine wsum_le R 0 fun h r h1 h2 m => ?_
  unfold phiG lenG
  have hp := p2p h
  exact Int.mul_le_mul_of_nonneg_right (by omega) (Int.mul_nonneg (by omega) (by omega))
theorem lists_le {R : List (List Int)} (h : rowAt R (R.length - 1) ≠ []) (hn : R ≠ []) : (2 : Int) ^ (R.length - 1) ≤ weightR R := by
  have hl : R.length - 1 < R.length := by
    cases R with
    | nil => simp at hn
    | cons => simp
  have e := wsum_set lenG R 0 (R.length - 1) [] hl
  have nn : 0 ≤ wsum lenG 0 (R.set (R.length - 1) []) := wsum_nn _ _ fun h r _ => Int.mul_nonneg (by omega) (by have := p2p h; omega)
  unfold weightR
  rw [Nat.zero_add, lenG_nil] at e
  have : (2 : Int) ^ (R.length - 1) ≤ lenG (R.length - 1) (rowAt R (R.length - 1)) := by
    unfold lenG
    have h1 : 1 ≤ ((rowAt R (R.length - 1)).length : Int) := by
      cases q : rowAt R (R.length - 1) with
      | nil => exact absurd q h
      | cons => simp; omega
    have := Int.mul_le_mul_of_nonneg_right h1 (Int.le_of_lt (p2p (R.length - 1)))
    omega
  omega
end PX

/-! The plain law of rungs: a weight put in. -/
namespace PX
open PL
def padR (R : List (List Int)) (b : Nat) : List (List Int) := R ++ List.replicate (b - R.length) []
def putB (w x : Int) : Nat → List (List Int) → List (List Int)
  | 0, R => R
  | n + 1, R => if w / 2 ^ n % 2 = 1 then (putB w x n R).set n (srt (rowAt (putB w x n R) n ++ [x])) else putB w x n R
theorem putB_len (w x : Int) : ∀ (n : Nat) (R : List (List Int)), (putB w x n R).length = R.length
  | 0, R => rfl
  | n + 1, R => by
    rw [putB]
    split
    · rw [List.length_set, putB_len w x n R]
    · exact putB_len w x n R
theorem padR_len (R : List (List Int)) (b : Nat) : (padR R b).length = max R.length b := by unfold padR; simp; omega
theorem wsum_pad (g : Nat → List Int → Int) (h0 : ∀ k, g k [] = 0) (R : List (List Int)) (b : Nat) : wsum g 0 (padR R b) = wsum g 0 R := by
  unfold padR; rw [wsum_app, wsum_nils g h0]; omega
theorem mod_bit (w : Int) (n : Nat) : w % 2 ^ (n + 1) = w % 2 ^ n + 2 ^ n * (w / 2 ^ n % 2) := by
  have h2 : (2 : Int) ^ (n + 1) = 2 ^ n * 2 := Int.pow_succ ..
  have hp : (0 : Int) < 2 ^ n := p2p n
  have e1 := Int.mul_ediv_add_emod w (2 ^ n)
  have e2 := Int.mul_ediv_add_emod (w / 2 ^ n) 2
  have b1 := Int.emod_nonneg w (show (2 : Int) ^ n ≠ 0 by omega)
  have b2 := Int.emod_lt_of_pos w hp
  have b3 : 0 ≤ w / 2 ^ n % 2 ∧ w / 2 ^ n % 2 ≤ 1 := by omega
  generalize hq : w / 2 ^ n = q at *
  generalize hr : w % 2 ^ n = r at *
  generalize hd : q / 2 = d at *
  generalize hb : q % 2 = b at *
  have e3 : w = 2 ^ (n + 1) * d + (r + 2 ^ n * b) := by
    rw [h2, ← e1, ← e2, Int.mul_add, ← Int.mul_assoc]; omega
  have b4 : 0 ≤ 2 ^ n * b := Int.mul_nonneg (by omega) b3.1
  have b5 : 2 ^ n * b ≤ 2 ^ n := by
    have := Int.mul_le_mul_of_nonneg_left b3.2 (show (0 : Int) ≤ 2 ^ n by omega)
    omega
  rw [e3, Int.add_comm, Int.add_mul_emod_self_left]
  exact Int.emod_eq_of_lt (by omega) (by rw [h2]; omega)
theorem cnt_srt (t x : Int) (row : List Int) : cntL t (srt (row ++ [x])) = cntL t row + if x ≤ t then 1 else 0 := by
  rw [cnt_perm (srt_perm _), cnt_app, cnt_cons, cnt_nil]; omega
theorem putB_near (t w x : Int) (R : List (List Int)) : ∀ n : Nat, n ≤ R.length → nearR t (putB w x n R) = nearR t R + if x ≤ t then w % 2 ^ n else 0
  | 0, _ => by simp [putB, Int.emod_one]
  | n + 1, hn => by
    have ih := putB_near t w x R n (by omega)
    rw [putB, mod_bit]
    split
    · rename_i c
      unfold nearR at *
      rw [wsum_set _ _ _ _ _ (by rw [putB_len]; omega), ih, Nat.zero_add, c]
      unfold cntG
      rw [cnt_srt, Int.add_mul]
      split <;> omega
    · rename_i c
      have c0 : w / 2 ^ n % 2 = 0 := by omega
      rw [ih, c0]; simp
theorem putB_weight (w x : Int) (R : List (List Int)) : ∀ n : Nat, n ≤ R.length → weightR (putB w x n R) = weightR R + w % 2 ^ n
  | 0, _ => by simp [putB, Int.emod_one]
  | n + 1, hn => by
    have ih := putB_weight w x R n (by omega)
    rw [putB, mod_bit]
    split
    · rename_i c
      unfold weightR at *
      rw [wsum_set _ _ _ _ _ (by rw [putB_len]; omega), ih, Nat.zero_add, c]
      unfold lenG
      rw [(srt_perm _).length_eq, List.length_append]
      push_cast
      rw [Int.add_mul]
      simp; omega
    · rename_i c
      have c0 : w / 2 ^ n % 2 = 0 := by omega
      rw [ih, c0]; simp
theorem putB_phi (w x : Int) (R : List (List Int)) : ∀ n : Nat, n ≤ R.length → phiR R ≤ phiR (putB w x n R)
  | 0, _ => Int.le_refl _
  | n + 1, hn => by
    have ih := putB_phi w x R n (by omega)
    rw [putB]
    split
    · unfold phiR at *
      rw [wsum_set _ _ _ _ _ (by rw [putB_len]; omega), Nat.zero_add]
      unfold phiG at *
      rw [(srt_perm _).length_eq, List.length_append]
      push_cast
      rw [Int.add_mul, Int.mul_add]
      have : 0 ≤ (n : Int) * (((([x] : List Int).length : Nat) : Int) * 2 ^ n) := Int.mul_nonneg (by omega) (Int.mul_nonneg (by omega) (Int.le_of_lt (p2p n)))
      omega
    · exact ih
theorem putB_mem (w x : Int) (R : List (List Int)) : ∀ (n : Nat) (r : List Int), r ∈ putB w x n R → ∀ a ∈ r, (∃ r0 ∈ R, a ∈ r0) ∨ a = x
  | 0, r, m, a, ma => .inl ⟨r, m, ma⟩
  | n + 1, r, m, a, ma => by
    rw [putB] at m
    split at m
    · rcases List.mem_or_eq_of_mem_set m with m | rfl
      · exact putB_mem w x R n r m a ma
      · rw [mem_srt, List.mem_append] at ma
        rcases ma with ma | ma
        · by_cases hl : n < (putB w x n R).length
          · exact putB_mem w x R n _ (rowAt_mem hl) a ma
          · unfold rowAt at ma
            rw [List.getElem?_eq_none (by omega)] at ma
            simp at ma
        · simp at ma; exact .inr ma
    · exact putB_mem w x R n r m a ma
theorem putB_sorted (w x : Int) (R : List (List Int)) (hR : ∀ r ∈ R, r.Pairwise (· ≤ ·)) : ∀ (n : Nat) (r : List Int), r ∈ putB w x n R → r.Pairwise (· ≤ ·)
  | 0, r, m => hR r m
  | n + 1, r, m => by
    rw [putB] at m
    split at m
    · rcases List.mem_or_eq_of_mem_set m with m | rfl
      · exact putB_sorted w x R hR n r m
      · exact srt_sorted _
    · exact putB_sorted w x R hR n r m
theorem srt_ne (row : List Int) (x : Int) : srt (row ++ [x]) ≠ [] := fun e => by
  have : x ∈ srt (row ++ [x]) := mem_srt.mpr (by simp)
  rw [e] at this; simp at this
theorem putB_ne (w x : Int) (R : List (List Int)) : ∀ (n j : Nat), rowAt R j ≠ [] → rowAt (putB w x n R) j ≠ []
  | 0, j, h => h
  | n + 1, j, h => by
    have ih := putB_ne w x R n j h
    rw [putB]
    split
    · rw [rowAt_set]
      split
      · exact srt_ne _ _
      · exact ih
    · exact ih
theorem putB_top (w x : Int) (R : List (List Int)) : ∀ (n j : Nat), j < n → j < R.length → w / 2 ^ j % 2 = 1 → rowAt (putB w x n R) j ≠ []
  | 0, j, h, _, _ => by omega
  | n + 1, j, h, hl, hb => by
    rw [putB]
    by_cases c : j = n
    · subst c
      rw [if_pos hb, rowAt_set, if_pos ⟨rfl, by rw [putB_len]; exact hl⟩]
      exact srt_ne _ _
    · have ih := putB_top w x R n j (by omega) hl hb
      split
      · rw [rowAt_set]
        split
        · exact srt_ne _ _
        · exact ih
      · exact ih
theorem putB_elems (w x : Int) (R : List (List Int)) : ∀ n : Nat, elems (putB w x n R) ≤ elems R + n
  | 0 => by simp [putB]
  | n + 1 => by
    have ih := putB_elems w x R n
    rw [putB]
    split
    · by_cases hl : n < (putB w x n R).length
      · have key : ∀ (R : List (List Int)) (h : Nat) (x : List Int), h < R.length → elems (R.set h x) + (rowAt R h).length = elems R + x.length := by
          intro R
          induction R with
          | nil => intro h x hl; simp at hl
          | cons y R ih =>
            intro h x hl
            cases h with
            | zero => rw [List.set_cons_zero, elems_cons, elems_cons]; unfold rowAt; simp; omega
            | succ h =>
              have := ih h x (by simpa using hl)
              rw [List.set_cons_succ, elems_cons, elems_cons]
              have e : rowAt (y :: R) (h + 1) = rowAt R h := by unfold rowAt; simp
              rw [e]; omega
        have := key (putB w x n R) n (srt (rowAt (putB w x n R) n ++ [x])) hl
        rw [(srt_perm _).length_eq, List.length_append] at this
        simp at this
        omega
      · rw [List.set_eq_of_length_le (by omega)]; omega
    · omega
theorem elems_pad (R : List (List Int)) (b : Nat) : elems (padR R b) = elems R := by
  unfold padR elems
  simp
theorem pad_mem {R : List (List Int)} {b : Nat} {r : List Int} (m : r ∈ padR R b) : r ∈ R ∨ r = [] := by
  unfold padR at m
  rcases List.mem_append.mp m with m | m
  · exact .inl m
  · exact .inr (List.eq_of_mem_replicate m)
theorem bits_top {w : Int} {b : Nat} (hb : PySem.Builtin.Int.intBits w = b + 1) (hw : 1 ≤ w) : w / 2 ^ b % 2 = 1 := by
  have h1 := lt_bits (Nat.le_of_eq hb)
  have h2 : ¬ w.natAbs < 2 ^ b := fun h => by have := bits_lt h; omega
  have e : ((2 ^ b : Nat) : Int) = 2 ^ b := by push_cast; rfl
  have e2 : ((2 ^ (b + 1) : Nat) : Int) = 2 ^ b * 2 := by push_cast; rw [Int.pow_succ]
  have l1 : (2 : Int) ^ b ≤ w := by omega
  have l2 : w < 2 ^ b * 2 := by omega
  have q1 : 1 ≤ w / 2 ^ b := Int.le_ediv_of_mul_le (p2p b) (by omega)
  have q2 : w / 2 ^ b < 2 := Int.ediv_lt_of_lt_mul (p2p b) (by omega)
  omega
/-- before the settling -/
def preR (S : Rg) (x w : Int) : Rg := ⟨putB w x (PySem.Builtin.Int.intBits w) (padR S.R (PySem.Builtin.Int.intBits w)), S.ov, S.un, S.tu⟩
theorem bits_pos {w : Int} (hw : 1 ≤ w) : 1 ≤ PySem.Builtin.Int.intBits w := by
  have h2 : ¬ w.natAbs < 2 ^ 0 := by simp; omega
  have : ¬ PySem.Builtin.Int.intBits w ≤ 0 := fun h => h2 (lt_bits h)
  omega
theorem pre_ok {room : Nat} {S : Rg} {total : Int} {tr : Int → Int} {P P' : Int → Prop} (o : OkS room S total tr P) {x w : Int} (hw : 1 ≤ w) (hP : ∀ a, P a → P' a) (hx : P' x) :
    OkS room (preR S x w) (total + w) (fun t => tr t + if x ≤ t then w else 0) P' := by
  have hb := bits_pos hw
  have hl : PySem.Builtin.Int.intBits w ≤ (padR S.R (PySem.Builtin.Int.intBits w)).length := by rw [padR_len]; omega
  have wm : w % 2 ^ PySem.Builtin.Int.intBits w = w := by
    have := lt_bits (Nat.le_refl (PySem.Builtin.Int.intBits w))
    have e : ((2 ^ (PySem.Builtin.Int.intBits w) : Nat) : Int) = 2 ^ (PySem.Builtin.Int.intBits w) := by push_cast; rfl
    exact Int.emod_eq_of_lt (by omega) (by omega)
  have n1 := fun t => putB_near t w x _ _ hl
  have n2 := putB_weight w x _ _ hl
  have n3 := putB_phi w x _ _ hl
  rw [wm] at n2
  have wp : weightR (padR S.R (PySem.Builtin.Int.intBits w)) = weightR S.R := wsum_pad _ lenG_nil _ _
  have pp : phiR (padR S.R (PySem.Builtin.Int.intBits w)) = phiR S.R := wsum_pad _ phiG_nil _ _
  have np : ∀ t, nearR t (padR S.R (PySem.Builtin.Int.intBits w)) = nearR t S.R := fun t => wsum_pad _ (cntG_nil t) _ _
  refine ⟨fun r m => ?_, o.ov, o.un, o.tu, fun t => ?_, ?_, ?_, fun r m a ma => ?_, .inr ?_⟩
  · refine putB_sorted w x _ (fun r m => ?_) _ r m
    rcases pad_mem m with m | rfl
    · exact o.so r m
    · exact List.Pairwise.nil
  · have := o.bd t
    have n1 := n1 t
    rw [np, wm] at n1
    show nearR t (putB w x _ _) - S.ov ≤ _ ∧ _
    unfold preR
    simp only
    rw [n1]
    split <;> omega
  · unfold preR; simp only; rw [n2, wp, o.we]
  · unfold preR; simp only
    have := o.sl
    omega
  · rcases putB_mem w x _ _ r m a ma with ⟨r0, m0, ma0⟩ | rfl
    · rcases pad_mem m0 with m0 | rfl
      · exact hP a (o.me r0 m0 a ma0)
      · simp at ma0
    · exact hx
  · unfold preR; simp only
    rw [putB_len, padR_len]
    by_cases c : PySem.Builtin.Int.intBits w ≤ S.R.length
    · have e : max S.R.length (PySem.Builtin.Int.intBits w) = S.R.length := by omega
      rw [e]
      refine putB_ne _ _ _ _ _ ?_
      rcases o.la with la | la
      · rw [la] at c; simp at c; omega
      · unfold padR
        rw [rowAt_app (by omega)]; exact la
    · have e : max S.R.length (PySem.Builtin.Int.intBits w) = PySem.Builtin.Int.intBits w := by omega
      rw [e]
      refine putB_top _ _ _ _ _ (by omega) (by rw [padR_len]; omega) (bits_top (by omega) hw)
def addRg (room : Nat) (S : Rg) (x w : Int) : Rg := settleR room (preR S x w)
end PX

namespace PX
open PySem PySem.Spec PyProof.Rows L2 PL
@[irreducible] noncomputable def F_whole : Fn := fn 1 <|
  sRet (eAnd (eUn (mIsi .int) (cVar 0)) (eNot (eUn (mIsi .bool) (cVar 0))))
@[irreducible] noncomputable def F_cell_at : Fn := fn 2 <|
  sSeq (sIf (tst (eBin mLt (vVar 1) (eUn mLen (cVar 0)))) (sRet (eBin mIx (vVar 0) (vVar 1))) (sNx)) <|
  sRet (eC (.int 0))
@[irreducible] noncomputable def F_mix : Fn := fn 3 <|
  sRet (eBin mMod (eBin mMul (vVar 0) (vVar 1)) (vVar 2))
end PX

/-! What the laws' common helpers answer; data equal to themselves. -/
namespace PX
open PySem PySem.Spec PyProof.Rows L2 PL
theorem whole_int (i : Int) (h : List LO) : F_whole [.val (.int i)] h = .ret (.val (.bl true)) h := by
  unfold F_whole
  simp [fn_s]
theorem mix_v (c f p : Int) (h : List LO) (hc : CMulX c f) (hp : 0 < p) : F_mix [.val (.int c), .val (.int f), .val (.int p)] h = .ret (.val (.int (c * f % p))) h := by
  unfold F_mix
  simp [fn_s, hc, hp]
theorem cutD_map (ns : List Int) (lo hi : Option Int) : PL.cutD (ns.map D.int) lo hi = (PL.cutD ns lo hi).map D.int := by
  unfold PL.cutD
  simp [List.map_take, List.map_drop]
theorem cutD_mem {ns : List Int} {lo hi : Option Int} {z : Int} (m : z ∈ PL.cutD ns lo hi) : z ∈ ns := by
  unfold PL.cutD at m
  exact List.mem_of_mem_drop (List.mem_of_mem_take m)
theorem cutD_len (ns : List Int) (lo hi : Option Int) : (PL.cutD ns lo hi).length ≤ ns.length := by
  unfold PL.cutD
  simp
  omega
theorem hset {h : List LO} {r : Nat} {b : LO} (e : h[r]? = some b) (a : LO) : (h.set r a)[r]? = some a := List.getElem?_set_self (List.getElem?_eq_some_iff.mp e).1
def cellAt (ns : List Int) (k : Nat) : Int := (ns[k]?).getD 0
theorem cellAt_bits {ns : List Int} (hn : ∀ z ∈ ns, Builtin.Int.intBits z ≤ 1048576) (k : Nat) : Builtin.Int.intBits (cellAt ns k) ≤ 1048576 := by
  unfold cellAt
  cases e : ns[k]? with
  | none => decide
  | some z => exact hn z (List.mem_of_getElem? e)
theorem cell_at_v (ns : List Int) (k : Nat) (h : List LO) : F_cell_at [.val (.lst (ns.map D.int)), .val (.int (k : Int))] h = .ret (.val (.int (cellAt ns k))) h := by
  unfold F_cell_at cellAt
  by_cases q : k < ns.length
  · have e : PL.atD (ns.map D.int) (k : Int) = some (.int ns[k]) := by
      unfold PL.atD
      rw [if_pos (by omega)]
      simp [q]
    have e2 : ns[k]? = some ns[k] := List.getElem?_eq_getElem q
    simp [fn_s, q, e, e2]
  · have e2 : ns[k]? = none := List.getElem?_eq_none (by omega)
    simp [fn_s, q, e2]
mutual
theorem deq_refl : ∀ (n : Nat) (d : D), pln n d = true → deq d d = true
  | n, .non, _ => by simp [deq]
  | n, .bl b, _ => by simp [deq]
  | n, .int b, _ => by simp [deq]
  | n, .str b, _ => by simp [deq]
  | n + 1, .tup ds, h => by
    simp only [deq]
    exact deqs_refl n ds (by simpa [pln] using h)
  | n + 1, .lst ds, h => by
    simp only [deq]
    exact deqs_refl n ds (by simpa [pln] using h)
  | 0, .tup ds, h => by simp [pln] at h
  | 0, .lst ds, h => by simp [pln] at h
  | n, .dic ds, h => by cases n <;> simp [pln] at h
  | n, .obj ds, h => by cases n <;> simp [pln] at h
  | n, .err ds, h => by cases n <;> simp [pln] at h
theorem deqs_refl : ∀ (n : Nat) (ds : List D), plns n ds = true → deqs ds ds = true
  | _, [], _ => by simp [deqs]
  | n, d :: ds, h => by
    simp only [plns, Bool.and_eq_true] at h
    simp only [deqs, Bool.and_eq_true]
    exact ⟨deq_refl n d h.1, deqs_refl n ds h.2⟩
end
theorem plns_map {α : Type} {f : α → D} {n : Nat} (hf : ∀ a, pln n (f a) = true) : ∀ (xs : List α), plns n (xs.map f) = true
  | [] => by simp
  | x :: xs => by simp [hf, plns_map hf xs]
theorem plns_all {n : Nat} : ∀ (xs : List D), (∀ a ∈ xs, pln n a = true) → plns n xs = true
  | [], _ => by simp
  | x :: xs, h => by simp [h x (by simp), plns_all xs fun a m => h a (by simp [m])]
theorem at4 (a b c d : D) : PL.atD [a, b, c, d] 0 = some a ∧ PL.atD [a, b, c, d] 1 = some b ∧ PL.atD [a, b, c, d] 2 = some c ∧ PL.atD [a, b, c, d] 3 = some d := ⟨rfl, rfl, rfl, rfl⟩
theorem at2 (a b : D) : PL.atD [a, b] 0 = some a ∧ PL.atD [a, b] 1 = some b := ⟨rfl, rfl⟩
theorem mod4 (c : Int) : c % 4 = 0 ∨ c % 4 = 1 ∨ c % 4 = 2 ∨ c % 4 = 3 := by omega
theorem bits_le {i j : Int} {n : Nat} (h : Builtin.Int.intBits j ≤ n) (hij : i.natAbs ≤ j.natAbs) : Builtin.Int.intBits i ≤ n := bits_lt (Nat.lt_of_le_of_lt hij (lt_bits h))
theorem atD_mid (xs zs : List D) (y : D) (n : Int) (hn : n = (xs.length : Int)) : PL.atD (xs ++ y :: zs) n = some y := by
  subst hn
  unfold PL.atD
  rw [if_pos (by omega)]
  simp
theorem cut_lo (xs : List D) (n : Int) (m : Nat) (hn : n = (m : Int)) : PL.cutD xs none (some n) = xs.take m := by
  subst hn
  unfold PL.cutD PL.cutI
  simp only [List.drop_zero, Nat.sub_zero]
  rw [if_neg (by omega)]
  simp only [Int.toNat_natCast]
  by_cases q : m ≤ xs.length
  · rw [Nat.min_eq_left q]
  · rw [Nat.min_eq_right (by omega), List.take_length, List.take_of_length_le (by omega)]
theorem cut_hi (xs : List D) (n : Int) (m : Nat) (hn : n = (m : Int)) : PL.cutD xs (some n) none = xs.drop m := by
  subst hn
  unfold PL.cutD PL.cutI
  simp only
  rw [if_neg (by omega)]
  simp only [Int.toNat_natCast]
  by_cases q : m ≤ xs.length
  · rw [Nat.min_eq_left q, List.take_of_length_le (by simp)]
  · rw [Nat.min_eq_right (by omega), List.drop_length, List.drop_eq_nil_of_le (by omega)]; simp
theorem mul_fit {x y : Int} {a b : Nat} (hx : x.natAbs < 2 ^ a) (hy : y.natAbs < 2 ^ b) : (x * y).natAbs < 2 ^ (a + b) := by
  rw [Int.natAbs_mul, Nat.pow_add]
  exact Nat.mul_lt_mul'' hx hy
theorem pow_fit {x : Int} {a : Nat} (hx : x.natAbs < 2 ^ a) : ∀ n : Nat, (x ^ n).natAbs < 2 ^ (a * n + 1)
  | 0 => by simp
  | n + 1 => by
    have := mul_fit (pow_fit hx n) hx
    rw [Int.pow_succ]
    rw [show a * (n + 1) + 1 = a * n + 1 + a by rw [Nat.mul_succ]; omega]
    exact this
theorem rangeD_succ (n : Nat) : rangeD 0 (n + 1) = rangeD 0 n ++ [.int (n : Nat)] := by
  unfold rangeD
  rw [List.range_succ]
  simp
theorem turns_app {tg : D → LS → Option LS} {b : S} : ∀ (xs ys : List D) (st : LS), turns tg b (xs ++ ys) st = (match turns tg b xs st with | .nx s => turns tg b ys s | r => r) ∨ ∃ s, turns tg b xs st = .nx s
  | [], ys, st => .inr ⟨st, rfl⟩
  | d :: xs, ys, st => by
    rw [List.cons_append, turns, turns]
    cases tg d st with
    | none => exact .inl rfl
    | some s1 =>
      simp only
      cases b s1 with
      | nx s2 => exact turns_app xs ys s2
      | ct s2 => exact turns_app xs ys s2
      | bk s2 => exact .inr ⟨s2, rfl⟩
      | _ => exact .inl rfl
/-- a loop over a range by an invariant on the turn -/
theorem range_inv {tg : D → LS → Option LS} {b : S} (I : Nat → LS → Prop) (n : Nat) (step : ∀ i st, i < n → I i st → ∃ s1, tg (.int (i : Nat)) st = some s1 ∧ ∃ s2, (b s1 = .nx s2 ∨ b s1 = .ct s2) ∧ I (i + 1) s2) (st : LS) (h0 : I 0 st) :
    ∃ st', turns tg b (rangeD 0 n) st = .nx st' ∧ I n st' := by
  have key : ∀ (k i : Nat) (st : LS), i + k = n → I i st → ∃ st', turns tg b ((List.range' i k).map fun (j : Nat) => D.int (0 + (j : Int))) st = .nx st' ∧ I n st' := by
    intro k
    induction k with
    | zero => intro i st e hI; exact ⟨st, rfl, by rw [← e]; exact hI⟩
    | succ k ih =>
      intro i st e hI
      obtain ⟨s1, e1, s2, e2, h2⟩ := step i st (by omega) hI
      obtain ⟨st', e3, h3⟩ := ih (i + 1) s2 (by omega) h2
      refine ⟨st', ?_, h3⟩
      rw [List.range'_succ, List.map_cons, turns, Int.zero_add, e1]
      rcases e2 with e2 | e2 <;> simp only [e2, e3]
  obtain ⟨st', e, h1⟩ := key n 0 st (by omega) h0
  exact ⟨st', by unfold rangeD; rw [List.range_eq_range']; exact e, h1⟩
theorem happ (h : List LO) (x : LO) : (h ++ [x])[h.length]? = some x := by simp
theorem happ_lt {h : List LO} {r : Nat} {y : LO} (e : h[r]? = some y) (t : List LO) : (h ++ t)[r]? = some y := by
  rw [List.getElem?_append_left (List.getElem?_eq_some_iff.mp e).1]; exact e
theorem hset_end (h : List LO) (x y : LO) : (h ++ [x]).set h.length y = h ++ [y] := by simp
theorem hset_lt {h : List LO} {r : Nat} {y : LO} (e : h[r]? = some y) (t : List LO) (z : LO) : (h ++ t).set r z = h.set r z ++ t := List.set_append_left _ _ (List.getElem?_eq_some_iff.mp e).1
theorem at3 (f e w : D) : PL.atD [f, e, w] 0 = some f ∧ PL.atD [f, e, w] 1 = some e ∧ PL.atD [f, e, w] 2 = some w := ⟨rfl, rfl, rfl⟩
theorem at5 (a b c d e : D) : PL.atD [a, b, c, d, e] 0 = some a ∧ PL.atD [a, b, c, d, e] 1 = some b ∧ PL.atD [a, b, c, d, e] 2 = some c ∧ PL.atD [a, b, c, d, e] 3 = some d ∧ PL.atD [a, b, c, d, e] 4 = some e := ⟨rfl, rfl, rfl, rfl, rfl⟩
theorem at6 (a b c d e f : D) : PL.atD [a, b, c, d, e, f] 0 = some a ∧ PL.atD [a, b, c, d, e, f] 1 = some b ∧ PL.atD [a, b, c, d, e, f] 2 = some c ∧ PL.atD [a, b, c, d, e, f] 3 = some d ∧ PL.atD [a, b, c, d, e, f] 4 = some e ∧ PL.atD [a, b, c, d, e, f] 5 = some f := ⟨rfl, rfl, rfl, rfl, rfl, rfl⟩
theorem at0 (d : D) (ds : List D) : PL.atD (d :: ds) 0 = some d := rfl
theorem atD_nat (ds : List D) (i : Nat) : PL.atD ds (i : Int) = ds[i]? := by
  unfold PL.atD
  rw [if_pos (by omega)]
  simp
theorem cutI_hi (ns : List Int) (m : Nat) : PL.cutD ns (some (m : Int)) none = ns.drop m := by
  unfold PL.cutD PL.cutI
  simp only
  rw [if_neg (by omega)]
  simp only [Int.toNat_natCast]
  by_cases q : m ≤ ns.length
  · rw [Nat.min_eq_left q, List.take_of_length_le (by simp)]
  · rw [Nat.min_eq_right (by omega), List.drop_length, List.drop_eq_nil_of_le (by omega)]; simp
/-- what each number leads to, chosen -/
theorem choose_fn {α : Type} {P : Int → Prop} {Q : Int → α → Prop} (d : α) (h : ∀ z, P z → ∃ a, Q z a) : ∃ f : Int → α, ∀ z, P z → Q z (f z) := by
  have h' : ∀ z, ∃ a, P z → Q z a := fun z => by
    by_cases p : P z
    · obtain ⟨a, q⟩ := h z p; exact ⟨a, fun _ => q⟩
    · exact ⟨d, fun p' => absurd p' p⟩
  obtain ⟨f, hf⟩ := Classical.axiomOfChoice h'
  exact ⟨f, hf⟩
theorem set_self {h : List LO} {r : Nat} {y : LO} (e : h[r]? = some y) : h.set r y = h := by
  obtain ⟨a, b⟩ := List.getElem?_eq_some_iff.mp e
  rw [← b]; simp
end PX

/-! Steps of loops. -/
namespace PX
open PySem PySem.Spec PyProof.Rows L2 PL
theorem turns_step {tg : D → LS → Option LS} {b : S} {d : D} {ds : List D} {st s1 s2 : LS} {r : SRes} (h1 : tg d st = some s1) (h2 : b s1 = .nx s2 ∨ b s1 = .ct s2) (h3 : turns tg b ds s2 = r) : turns tg b (d :: ds) st = r := by
  rw [turns, h1]
  rcases h2 with h2 | h2 <;> simp only [h2, h3]
theorem tgN_set (i : Nat) (d : D) (s : List (Option FV)) (h : List LO) : tgN i d ⟨s, h⟩ = some ⟨s.set i (some (.val d)), h⟩ := rfl
/-- a loop over a range from any place by an invariant on the turn -/
theorem range_invL {tg : D → LS → Option LS} {b : S} (lo : Int) (I : Nat → LS → Prop) (n : Nat) (step : ∀ i st, i < n → I i st → ∃ s1, tg (.int (lo + (i : Nat))) st = some s1 ∧ ∃ s2, (b s1 = .nx s2 ∨ b s1 = .ct s2) ∧ I (i + 1) s2) (st : LS) (h0 : I 0 st) :
    ∃ st', turns tg b (rangeD lo n) st = .nx st' ∧ I n st' := by
  have key : ∀ (k i : Nat) (st : LS), i + k = n → I i st → ∃ st', turns tg b ((List.range' i k).map fun (j : Nat) => D.int (lo + (j : Int))) st = .nx st' ∧ I n st' := by
    intro k
    induction k with
    | zero => intro i st e hI; exact ⟨st, rfl, by rw [← e]; exact hI⟩
    | succ k ih =>
      intro i st e hI
      obtain ⟨s1, e1, s2, e2, h2⟩ := step i st (by omega) hI
      obtain ⟨st', e3, h3⟩ := ih (i + 1) s2 (by omega) h2
      refine ⟨st', ?_, h3⟩
      rw [List.range'_succ, List.map_cons, turns, e1]
      rcases e2 with e2 | e2 <;> simp only [e2, e3]
  obtain ⟨st', e, h1⟩ := key n 0 st (by omega) h0
  exact ⟨st', by unfold rangeD; rw [List.range_eq_range']; exact e, h1⟩
theorem rg2 : rangeD 0 2 = [.int 0, .int 1] := rfl
theorem rg3 : rangeD 0 3 = [.int 0, .int 1, .int 2] := rfl
theorem rg4 : rangeD 0 4 = [.int 0, .int 1, .int 2, .int 3] := rfl
end PX

namespace PX
open PySem PySem.Spec PyProof.Rows L2 PL
@[irreducible] noncomputable def B_settled_list_0 : S :=
  sIf (tst (cVar 1)) (sApp 3 (eBin mIx (vVar 0) (eBin mAdd (eBin mMul (eC (.int 2)) (vVar 4)) (eC (.int 1))))) (sApp 3 (eBin mIx (vVar 0) (eBin mMul (eC (.int 2)) (vVar 4))))
@[irreducible] noncomputable def F_settled_list : Fn := fn 5 <|
  sSeq (sSet 2 (eBin mDiv (eUn mLen (cVar 0)) (eC (.int 2)))) <|
  sSeq (sSetF 3 (eLst (eNil))) <|
  sSeq (sFor (iRg1 (eVar 2)) (tgN 4) (PX.B_settled_list_0)) <|
  sRet (eTup (eCons (eSlc (vVar 0) (oSome (eBin mMul (eC (.int 2)) (vVar 2))) (oNone)) (eCons (eVar 3) (eNil))))
@[irreducible] noncomputable def B_settle_rungs_0 : S :=
  sSeq (sIf (eLendF 0 14 (tst (eBin mGt (eUn mLen (eBin mIx (vFld 14 (eVar 0)) (vVar 1))) (vFld 0 (eVar 0))))) (sSeq (sSet 2 (eBin mEq (eBin mMod (vFld 11 (eVar 0)) (eC (.int 2))) (eC (.int 1)))) <|
  sSeq (sUnT [3, 4] (eLendF 0 14 (eCall PX.F_settled_list (aCons (aV (eBin mIx (vFld 14 (eVar 0)) (vVar 1))) (aCons (aL 2) (aNil)))))) <|
  sSeq (sPutF 0 14 (eVar 1) (eVar 3)) <|
  sSeq (sIf (tst (eBin mEq (eBin mAdd (vVar 1) (eC (.int 1))) (eUn mLen (cFld 14 (eVar 0))))) (sAppF 0 14 (eLst (eNil))) (sNx)) <|
  sSeq (sPutF 0 14 (eBin mAdd (vVar 1) (eC (.int 1))) (eLendF 0 14 (eUn mSortedX (eBin mAdd (eBin mIx (vFld 14 (eVar 0)) (eBin mAdd (vVar 1) (eC (.int 1)))) (vVar 4))))) <|
  sSeq (sIf (tst (cVar 2)) (sFldAug 10 [9] (eVar 0) mAddI (eBin mShl (eC (.int 1)) (vVar 1))) (sFldAug 9 [9] (eVar 0) mAddI (eBin mShl (eC (.int 1)) (vVar 1)))) <|
  sFldAug 11 [9] (eVar 0) mAddI (eC (.int 1))) (sNx)) <|
  sAug 1 mAddI (eC (.int 1))
@[irreducible] noncomputable def C_settle_rungs_0 : E Bool :=
  tst (eBin mLt (vVar 1) (eUn mLen (cFld 14 (eVar 0))))
@[irreducible] noncomputable def F_settle_rungs : Fn := fn 5 <|
  sSeq (sSet 1 (eC (.int 0))) <|
  sWhile (PX.C_settle_rungs_0) (PX.B_settle_rungs_0)
@[irreducible] noncomputable def F_Rungs_init : Fn := fn 2 <|
  sSeq (sFld 0 [6, 8, 9, 10, 12, 13] (eVar 0) (eVar 1)) <|
  sSeq (sFld 6 [8, 9] (eVar 0) (eC (.int 0))) <|
  sSeq (sFld 9 [9] (eVar 0) (eC (.int 0))) <|
  sSeq (sFld 10 [9] (eVar 0) (eC (.int 0))) <|
  sSeq (sFld 11 [9] (eVar 0) (eC (.int 0))) <|
  sSeq (sFld 12 [9] (eVar 0) (eC .non)) <|
  sSeq (sFld 13 [9] (eVar 0) (eC .non)) <|
  sFldF 14 [9] 0 (eLst (eNil))
@[irreducible] noncomputable def B_Rungs_add_0 : S :=
  sAppF 0 14 (eLst (eNil))
@[irreducible] noncomputable def C_Rungs_add_0 : E Bool :=
  tst (eBin mLt (eUn mLen (cFld 14 (eVar 0))) (eUn mBits (cVar 2)))
@[irreducible] noncomputable def B_Rungs_add_1 : S :=
  sIf (tst (eBin mEq (eBin mAnd (eBin mShr (vVar 2) (vVar 3)) (eC (.int 1))) (eC (.int 1)))) (sPutF 0 14 (eVar 3) (eLendF 0 14 (eUn mSortedX (eBin mAdd (eBin mIx (vFld 14 (eVar 0)) (vVar 3)) (eLst (eCons (eVar 1) (eNil))))))) (sNx)
@[irreducible] noncomputable def F_Rungs_add : Fn := fn 4 <|
  sSeq (sFldAug 6 [8, 9] (eVar 0) mAddI (eVar 2)) <|
  sSeq (sIf (bOr (tst (eUn mIsN (cFld 12 (eVar 0)))) (tst (eBin mLt (vVar 1) (vFld 12 (eVar 0))))) (sFld 12 [9] (eVar 0) (eVar 1)) (sNx)) <|
  sSeq (sIf (bOr (tst (eUn mIsN (cFld 13 (eVar 0)))) (tst (eBin mGt (vVar 1) (vFld 13 (eVar 0))))) (sFld 13 [9] (eVar 0) (eVar 1)) (sNx)) <|
  sSeq (sWhile (PX.C_Rungs_add_0) (PX.B_Rungs_add_0)) <|
  sSeq (sFor (iRg1 (eUn mBits (cVar 2))) (tgN 3) (PX.B_Rungs_add_1)) <|
  sEx (eCall PX.F_settle_rungs (aCons (aL 0) (aNil)))
end PX

/-! What a Rungs does. -/
namespace PX
open PySem PySem.Spec PyProof.Rows L2 PL
def encL (r : List Int) : D := .lst (r.map D.int)
def oD : Option Int → D
  | none => .non
  | some i => .int i
def rgFs (room : Nat) (S : Rg) (total : Int) (least most : Option Int) : List (Nat × FV) :=
  [(0, .val (.int (room : Nat))), (6, .val (.int total)), (9, .val (.int S.ov)), (10, .val (.int S.un)), (11, .val (.int S.tu)), (12, .val (oD least)), (13, .val (oD most)), (14, .own (.lst (S.R.map encL)))]
def rgO (room : Nat) (S : Rg) (total : Int) (least most : Option Int) : LO := .ins 9 (rgFs room S total least most)
theorem goes_get (g : Bool) : ∀ (row : List Int) (k : Nat), k < row.length / 2 → (goesOf g row)[k]? = row[2 * k + (if g then 1 else 0)]?
  | [], k, h => by simp at h
  | [_], k, h => by simp at h
  | a :: b :: r, 0, h => by cases g <;> simp [goesOf]
  | a :: b :: r, k + 1, h => by
    have := goes_get g r k (by simp at h; omega)
    rw [goesOf, List.getElem?_cons_succ, this]
    cases g
    · simp [Nat.mul_add]
    · simp [Nat.mul_add]
theorem settled_v (row : List Int) (g : Bool) (h : List LO) (hl : row.length ≤ 1000000) : F_settled_list [.val (encL row), .val (.bl g)] h = .ret (.val (.tup [encL (staysOf row), encL (goesOf g row)])) h := by
  have hg := goes_len g row
  obtain ⟨st', e, y4, rfl⟩ := range_inv (tg := tgN 4) (b := B_settled_list_0) (fun i st => ∃ y4, st = ⟨[some (.val (encL row)), some (.val (.bl g)), some (.val (.int ((row.length : Int) / 2))), some (.own (encL ((goesOf g row).take i))), y4], h⟩) (row.length / 2)
    (fun i st hi ⟨y4, e⟩ => by
      subst e
      refine ⟨_, rfl, ⟨[some (.val (encL row)), some (.val (.bl g)), some (.val (.int ((row.length : Int) / 2))), some (.own (encL ((goesOf g row).take (i + 1)))), some (.val (.int (i : Nat)))], h⟩, .inl ?_, _, rfl⟩
      have hx := goes_get g row i hi
      obtain ⟨x, ex⟩ : ∃ x, (goesOf g row)[i]? = some x := ⟨_, List.getElem?_eq_getElem (by rw [hg]; exact hi)⟩
      have tk : (goesOf g row).take (i + 1) = (goesOf g row).take i ++ [x] := by rw [List.take_add_one, ex]; rfl
      rw [ex] at hx
      have at0 : PL.atD (row.map D.int) (2 * (i : Int) + (if g then 1 else 0)) = some (.int x) := by
        have e2 : 2 * (i : Int) + (if g then 1 else 0) = ((2 * i + (if g then 1 else 0) : Nat) : Int) := by cases g <;> simp
        rw [e2, atD_nat, List.getElem?_map, ← hx]; rfl
      have c2 : CMulX 2 (i : Int) := cmul_of 10 100 (by decide) (by omega)
      have tl : ((goesOf g row).take i).length < 16777216 := by rw [List.length_take]; omega
      rw [List.length_take] at tl
      rw [tk]
      unfold B_settled_list_0 encL
      cases g
      · simp at at0
        simp [at0, c2, tl, -List.map_take]
      · simp at at0
        simp [at0, c2, tl, -List.map_take])
    ⟨[some (.val (encL row)), some (.val (.bl g)), some (.val (.int ((row.length : Int) / 2))), some (.own (encL [])), none], h⟩ ⟨none, rfl⟩
  rw [List.take_of_length_le (by omega)] at e
  have g1 : ((row.length : Int) / 2).toNat = row.length / 2 := by omega
  have g2 : -4611686018427387904 ≤ (row.length : Int) / 2 ∧ (row.length : Int) / 2 < 4611686018427387904 := by omega
  have cut : PL.cutD (row.map D.int) (some (2 * ((row.length : Int) / 2))) none = (staysOf row).map D.int := by
    rw [cut_hi _ _ (2 * (row.length / 2)) (by omega)]
    unfold staysOf; rw [List.map_drop]
  have c2 : CMulX 2 ((row.length : Int) / 2) := cmul_of 10 100 (by decide) (by omega)
  unfold F_settled_list
  unfold encL at *
  simp at e
  simp [fn_s, e, g1, g2, cut, c2]
theorem rg_lk (a b c d e f g i : FV) : List.lookup 0 [(0, a), (6, b), (9, c), (10, d), (11, e), (12, f), (13, g), (14, i)] = some a ∧ List.lookup 6 [(0, a), (6, b), (9, c), (10, d), (11, e), (12, f), (13, g), (14, i)] = some b ∧
    List.lookup 9 [(0, a), (6, b), (9, c), (10, d), (11, e), (12, f), (13, g), (14, i)] = some c ∧ List.lookup 10 [(0, a), (6, b), (9, c), (10, d), (11, e), (12, f), (13, g), (14, i)] = some d ∧
    List.lookup 11 [(0, a), (6, b), (9, c), (10, d), (11, e), (12, f), (13, g), (14, i)] = some e ∧ List.lookup 12 [(0, a), (6, b), (9, c), (10, d), (11, e), (12, f), (13, g), (14, i)] = some f ∧
    List.lookup 13 [(0, a), (6, b), (9, c), (10, d), (11, e), (12, f), (13, g), (14, i)] = some g ∧ List.lookup 14 [(0, a), (6, b), (9, c), (10, d), (11, e), (12, f), (13, g), (14, i)] = some i := ⟨rfl, rfl, rfl, rfl, rfl, rfl, rfl, rfl⟩
theorem row_at {R : List (List Int)} {h : Nat} (hl : h < R.length) : (R.map encL)[h]? = some (encL (rowAt R h)) := by
  rw [List.getElem?_map, List.getElem?_eq_getElem hl]
  unfold rowAt
  rw [List.getElem?_eq_getElem hl]; rfl
theorem enc_cat (a b : List Int) : (a.map D.int) ++ (b.map D.int) = (a ++ b).map D.int := by simp
theorem set_grow (R : List (List Int)) (h : Nat) (x : List Int) (hl : h < R.length) : growR (R.set h x) h = (growR R h).set h x := by
  unfold growR
  rw [List.length_set]
  split
  · rw [List.set_append_left _ _ hl]
  · rfl
theorem ints_app : ∀ (a b : List Int), intsD (a.map D.int ++ b.map D.int) = some (a ++ b) := fun a b => by rw [← List.map_append]; exact intsD_map _
theorem shl1 (h : Nat) (hb : h ≤ 100000000) : CShl 1 (h : Int) := ⟨by omega, by
  have : Builtin.Int.intBits 1 = 1 := by decide
  rw [this]; omega⟩
theorem elems_ge : ∀ {R : List (List Int)} {x : List Int}, x ∈ R → x.length ≤ elems R := by
  intro R
  induction R with
  | nil => intro x m; simp at m
  | cons y R ih =>
    intro x m
    rw [elems_cons]
    rcases List.mem_cons.mp m with rfl | m
    · omega
    · have := ih m; omega
theorem settle_step_v (r room : Nat) (S : Rg) (total : Int) (least most : Option Int) (H : List LO) (hr : H[r]? = some (rgO room S total least most)) (h : Nat) (hl : h < S.R.length) (hb : h ≤ 100000) (he : elems S.R ≤ 1000000) (hlen : S.R.length ≤ 100000) (x2 x3 x4 : Option FV) :
    ∃ y2 y3 y4, B_settle_rungs_0 ⟨[some (.val (.obj r)), some (.val (.int (h : Nat))), x2, x3, x4], H⟩ = .nx ⟨[some (.val (.obj r)), some (.val (.int ((h + 1 : Nat) : Int))), y2, y3, y4], H.set r (rgO room (stepR room h S) total least most)⟩ := by
  have hs := fun a => hset hr a
  have ss := set_self hr
  have rl : r < H.length := (List.getElem?_eq_some_iff.mp hr).1
  have ra : PL.atD (S.R.map encL) (h : Int) = some (encL (rowAt S.R h)) := by rw [atD_nat, row_at hl]
  have rlen : (rowAt S.R h).length ≤ 1000000 := by
    have := elems_ge (rowAt_mem hl)
    omega
  have sv := fun g H => settled_v (rowAt S.R h) g H rlen
  have c1 := shl1 h (by omega)
  unfold B_settle_rungs_0
  unfold rgO rgFs at *
  by_cases q : room < (rowAt S.R h).length
  · refine ⟨some (.val (.bl (decide (S.tu % 2 = 1)))), some (.val (encL (staysOf (rowAt S.R h)))), some (.val (encL (goesOf (decide (S.tu % 2 = 1)) (rowAt S.R h)))), ?_⟩
    have ix1 : ixD S.R.length (h : Int) = some h := by unfold ixD; rw [if_pos (by omega), if_pos (by omega)]; simp
    have gl := growR_len S.R h hl
    have ix2 : ∀ n : Nat, n = (growR S.R h).length → ixD n ((h : Int) + 1) = some (h + 1) := fun n e => by unfold ixD; rw [if_pos (by omega), if_pos (by omega)]; simp
    have ms : (S.R.map encL).set h (encL (staysOf (rowAt S.R h))) = (S.R.set h (staysOf (rowAt S.R h))).map encL := by rw [List.map_set]
    have rb : PL.atD ((growR (S.R.set h (staysOf (rowAt S.R h))) h).map encL) ((h : Int) + 1) = some (encL (rowAt (growR S.R h) (h + 1))) := by
      rw [show (h : Int) + 1 = ((h + 1 : Nat) : Int) by omega, atD_nat, row_at (by rw [set_grow _ _ _ hl, List.length_set]; exact gl.1), set_grow _ _ _ hl, rowAt_set, if_neg (by omega)]
    have sl : (rowAt (growR S.R h) (h + 1)).length + (goesOf (decide (S.tu % 2 = 1)) (rowAt S.R h)).length ≤ 16777216 := by
      have h1 : (rowAt (growR S.R h) (h + 1)).length ≤ 1000000 := by
        rcases mem_grow (rowAt_mem gl.1) with m | m
        · have := elems_ge m; omega
        · rw [m]; simp
      rw [goes_len]; omega
    have e : stepR room h S = ⟨(growR (S.R.set h (staysOf (rowAt S.R h))) h).set (h + 1) (srt (rowAt (growR S.R h) (h + 1) ++ goesOf (decide (S.tu % 2 = 1)) (rowAt S.R h))), if S.tu % 2 = 1 then S.ov else S.ov + 2 ^ h, if S.tu % 2 = 1 then S.un + 2 ^ h else S.un, S.tu + 1⟩ := by
      unfold stepR; rw [if_pos q, set_grow _ _ _ hl]
    rw [e]
    have ic := fun a b => ints_app a b
    by_cases c : h + 1 = S.R.length
    · have eg : growR (S.R.set h (staysOf (rowAt S.R h))) h = S.R.set h (staysOf (rowAt S.R h)) ++ [[]] := by unfold growR; rw [List.length_set, if_pos c]
      have c' : (h : Int) + 1 = (S.R.length : Int) := by omega
      rw [eg] at rb ⊢
      have ix3 := ix2 (S.R.length + 1) (by unfold growR; rw [if_pos c]; simp)
      have ms2 : ∀ x, (List.map encL (S.R.set h (staysOf (rowAt S.R h))) ++ [D.lst []]).set (h + 1) (encL x) = List.map encL ((S.R.set h (staysOf (rowAt S.R h)) ++ [[]]).set (h + 1) x) := fun x => by
        have := (List.map_set (f := encL) (l := S.R.set h (staysOf (rowAt S.R h)) ++ [[]]) (i := h + 1) (a := x)).symm
        rw [List.map_append] at this
        exact this
      rw [List.map_append, c'] at rb
      rw [c'] at ix3
      have rb' : PL.atD (List.map encL (S.R.set h (staysOf (rowAt S.R h))) ++ [D.lst []]) (S.R.length : Int) = some (encL (rowAt (growR S.R h) (h + 1))) := rb
      have ln : S.R.length < 16777216 := by omega
      unfold encL at *
      by_cases g : S.tu % 2 = 1
      · simp only [g, decide_true] at sl
        simp [hr, rg_lk, hs, ra, ss, q, sv, ix1, ix3, rb', sl, c1, g, c', ms, ms2, ln, ic, -List.map_set]
      · have g1 : (S.tu % 2 == 1) = false := by simpa using g
        simp only [g, decide_false] at sl
        simp [hr, rg_lk, hs, ra, ss, q, sv, ix1, ix3, rb', sl, c1, g, g1, c', ms, ms2, ln, ic, -List.map_set]
    · have eg : growR (S.R.set h (staysOf (rowAt S.R h))) h = S.R.set h (staysOf (rowAt S.R h)) := by unfold growR; rw [List.length_set, if_neg c]
      have c' : ¬ (h : Int) + 1 = (S.R.length : Int) := by omega
      rw [eg] at rb ⊢
      have ix3 := ix2 S.R.length (by unfold growR; rw [if_neg c])
      have ms2 : ∀ x, (List.map encL (S.R.set h (staysOf (rowAt S.R h)))).set (h + 1) (encL x) = List.map encL ((S.R.set h (staysOf (rowAt S.R h))).set (h + 1) x) := fun x => List.map_set.symm
      unfold encL at *
      by_cases g : S.tu % 2 = 1
      · simp only [g, decide_true] at sl
        simp [hr, rg_lk, hs, ra, ss, q, sv, ix1, ix3, rb, sl, c1, g, c', ms, ms2, ic, -List.map_set]
      · have g1 : (S.tu % 2 == 1) = false := by simpa using g
        simp only [g, decide_false] at sl
        simp [hr, rg_lk, hs, ra, ss, q, sv, ix1, ix3, rb, sl, c1, g, g1, c', ms, ms2, ic, -List.map_set]
  · refine ⟨x2, x3, x4, ?_⟩
    have e : stepR room h S = S := by unfold stepR; rw [if_neg q]
    rw [e, ss]
    simp [hr, rg_lk, hs, ra, ss, q, encL]
theorem elems_set : ∀ (R : List (List Int)) (h : Nat) (x : List Int), h < R.length → elems (R.set h x) + (rowAt R h).length = elems R + x.length
  | [], h, x, hl => by simp at hl
  | y :: R, 0, x, _ => by rw [List.set_cons_zero, elems_cons, elems_cons]; unfold rowAt; simp; omega
  | y :: R, h + 1, x, hl => by
    have := elems_set R h x (by simpa using hl)
    rw [List.set_cons_succ, elems_cons, elems_cons]
    have e : rowAt (y :: R) (h + 1) = rowAt R h := by unfold rowAt; simp
    rw [e]; omega
theorem elems_grow (R : List (List Int)) (h : Nat) : elems (growR R h) = elems R := by
  unfold growR elems
  split <;> simp
theorem step_elems (room h : Nat) (S : Rg) (hl : h < S.R.length) : elems (stepR room h S).R ≤ elems S.R := by
  unfold stepR
  split
  · have gl := growR_len S.R h hl
    have e1 := elems_set (growR S.R h) h (staysOf (rowAt S.R h)) (by omega)
    have e2 := elems_set ((growR S.R h).set h (staysOf (rowAt S.R h))) (h + 1) (srt (rowAt (growR S.R h) (h + 1) ++ goesOf (decide (S.tu % 2 = 1)) (rowAt S.R h))) (by rw [List.length_set]; omega)
    rw [rowAt_set, if_neg (by omega)] at e2
    rw [rowAt_grow hl, elems_grow] at e1
    simp only
    rw [(srt_perm _).length_eq, List.length_append, goes_len] at e2
    rw [stays_len] at e1
    omega
  · omega
/-- the settling, by the turns that are left -/
theorem settle_loop_v (r room : Nat) (hm : 1 ≤ room) (total : Int) (least most : Option Int) : ∀ (n h : Nat) (S : Rg) (H : List LO) (x2 x3 x4 : Option FV), H[r]? = some (rgO room S total least most) → mu h S.R ≤ n → h + n ≤ 100000 → elems S.R ≤ 100000 → S.R.length + n ≤ 100000 →
    ∃ k y2 y3 y4, sWhile C_settle_rungs_0 B_settle_rungs_0 ⟨[some (.val (.obj r)), some (.val (.int (h : Nat))), x2, x3, x4], H⟩ = .nx ⟨[some (.val (.obj r)), some (.val (.int k)), y2, y3, y4], H.set r (rgO room (loopR room n h S) total least most)⟩ := by
  intro n
  induction n with
  | zero =>
    intro h S H x2 x3 x4 hr hmu hb he hlen
    have hl : ¬ h < S.R.length := by unfold mu at hmu; omega
    refine ⟨h, x2, x3, x4, ?_⟩
    have e : loopR room 0 h S = S := rfl
    rw [e, set_self hr, sWhile_eq]
    unfold C_settle_rungs_0
    unfold rgO rgFs at hr
    simp [hr, rg_lk, hl]
  | succ n ih =>
    intro h S H x2 x3 x4 hr hmu hb he hlen
    by_cases hl : h < S.R.length
    · obtain ⟨y2, y3, y4, e1⟩ := settle_step_v r room S total least most H hr h hl (by omega) (by omega) (by omega) x2 x3 x4
      have m := mu_step hm hl
      have el : elems (stepR room h S).R ≤ elems S.R := step_elems room h S hl
      have ll : (stepR room h S).R.length ≤ S.R.length + 1 := by
        unfold stepR
        split
        · simp only [List.length_set]; unfold growR; split <;> simp
        · omega
      obtain ⟨k, z2, z3, z4, e2⟩ := ih (h + 1) (stepR room h S) (H.set r (rgO room (stepR room h S) total least most)) y2 y3 y4 (hset hr _) (by omega) (by omega) (by omega) (by omega)
      refine ⟨k, z2, z3, z4, ?_⟩
      rw [List.set_set] at e2
      have e : loopR room (n + 1) h S = loopR room n (h + 1) (stepR room h S) := by rw [loopR, if_pos hl]
      have hc : C_settle_rungs_0 ⟨[some (.val (.obj r)), some (.val (.int (h : Nat))), x2, x3, x4], H⟩ = .ok true ⟨[some (.val (.obj r)), some (.val (.int (h : Nat))), x2, x3, x4], H⟩ := by
        unfold C_settle_rungs_0
        unfold rgO rgFs at hr
        simp [hr, rg_lk, hl]
      rw [e, ← e2, sWhile_eq, hc]
      simp only [of_ok, if_true, e1]
    · refine ⟨h, x2, x3, x4, ?_⟩
      have e : loopR room (n + 1) h S = S := by rw [loopR, if_neg hl]
      rw [e, set_self hr, sWhile_eq]
      unfold C_settle_rungs_0
      unfold rgO rgFs at hr
      simp [hr, rg_lk, hl]
theorem settle_v (r room : Nat) (hm : 1 ≤ room) (S : Rg) (total : Int) (least most : Option Int) (H : List LO) (hr : H[r]? = some (rgO room S total least most)) (he : elems S.R ≤ 10000) (hlen : S.R.length ≤ 10000) :
    F_settle_rungs [.val (.obj r)] H = .ret (.val .non) (H.set r (rgO room (settleR room S) total least most)) := by
  have hmu : mu 0 S.R ≤ 20000 := by unfold mu; simp; omega
  obtain ⟨k, y2, y3, y4, e⟩ := settle_loop_v r room hm total least most (mu 0 S.R) 0 S H none none none hr (Nat.le_refl _) (by omega) (by omega) (by omega)
  unfold F_settle_rungs settleR
  simp at e
  simp [fn_s, e]
def rgZ : Rg := ⟨[], 0, 0, 0⟩
theorem rg_init_v (r room : Nat) (h : List LO) (hr : h[r]? = some (.ins 9 [])) : F_Rungs_init [.val (.obj r), .val (.int (room : Nat))] h = .ret (.val .non) (h.set r (rgO room rgZ 0 none none)) := by
  have hs := fun a => hset hr a
  have hl : r < h.length := (List.getElem?_eq_some_iff.mp hr).1
  unfold F_Rungs_init
  simp [fn_s, hr, hs, rgO, rgFs, rgZ, oD]
def loO (l : Option Int) (x : Int) : Option Int := some (match l with
  | none => x
  | some i => if x < i then x else i)
def hiO (l : Option Int) (x : Int) : Option Int := some (match l with
  | none => x
  | some i => if i < x then x else i)
theorem rg_add_v (r room : Nat) (hm : 1 ≤ room) (S : Rg) (total : Int) (least most : Option Int) (x w : Int) (H : List LO) (hr : H[r]? = some (rgO room S total least most)) (hw : 1 ≤ w) (hb : w < 2 ^ 100) (he : elems S.R ≤ 9000) (hlen : S.R.length ≤ 9000) :
    F_Rungs_add [.val (.obj r), .val (.int x), .val (.int w)] H = .ret (.val .non) (H.set r (rgO room (addRg room S x w) (total + w) (loO least x) (hiO most x))) := by
  have hs := fun a => hset hr a
  have ss := set_self hr
  have b1 : Builtin.Int.intBits w ≤ 100 := bits_lt (by omega)
  obtain ⟨B, hB⟩ : ∃ B, Builtin.Int.intBits w = B := ⟨_, rfl⟩
  rw [hB] at b1
  -- the lists that are lacking
  have pad : ∀ (n : Nat) (R : List (List Int)) (l m : Option Int), R.length + n = B → ∀ x3, sWhile C_Rungs_add_0 B_Rungs_add_0 ⟨[some (.val (.obj r)), some (.val (.int x)), some (.val (.int w)), x3], H.set r (rgO room ⟨R, S.ov, S.un, S.tu⟩ (total + w) l m)⟩ =
      .nx ⟨[some (.val (.obj r)), some (.val (.int x)), some (.val (.int w)), x3], H.set r (rgO room ⟨R ++ List.replicate n [], S.ov, S.un, S.tu⟩ (total + w) l m)⟩ := by
    intro n
    induction n with
    | zero =>
      intro R l m e x3
      rw [sWhile_eq]
      unfold C_Rungs_add_0 rgO rgFs
      simp [hs, rg_lk, hB, show ¬ R.length < B by omega]
    | succ n ih =>
      intro R l m e x3
      have := ih (R ++ [[]]) l m (by simp; omega) x3
      rw [List.replicate_succ, show R ++ [] :: List.replicate n [] = R ++ [[]] ++ List.replicate n [] by simp, ← this, sWhile_eq]
      unfold C_Rungs_add_0 B_Rungs_add_0 rgO rgFs
      simp [hs, rg_lk, hB, show R.length < B by omega, show R.length < 16777216 by omega, encL]
  have pad2 : ∀ (l m : Option Int) x3, sWhile C_Rungs_add_0 B_Rungs_add_0 ⟨[some (.val (.obj r)), some (.val (.int x)), some (.val (.int w)), x3], H.set r (rgO room S (total + w) l m)⟩ =
      .nx ⟨[some (.val (.obj r)), some (.val (.int x)), some (.val (.int w)), x3], H.set r (rgO room ⟨padR S.R B, S.ov, S.un, S.tu⟩ (total + w) l m)⟩ := by
    intro l m x3
    by_cases c : S.R.length ≤ B
    · exact pad (B - S.R.length) S.R l m (by omega) x3
    · have e : padR S.R B = S.R := by unfold padR; rw [show B - S.R.length = 0 by omega]; simp
      rw [e, sWhile_eq]
      unfold C_Rungs_add_0 rgO rgFs
      simp [hs, rg_lk, hB, show ¬ S.R.length < B by omega]
  have pl := padR_len S.R B
  have loop : ∀ (l m : Option Int), ∃ x3, turns (tgN 3) B_Rungs_add_1 (rangeD 0 B) ⟨[some (.val (.obj r)), some (.val (.int x)), some (.val (.int w)), none], H.set r (rgO room ⟨padR S.R B, S.ov, S.un, S.tu⟩ (total + w) l m)⟩ =
      .nx ⟨[some (.val (.obj r)), some (.val (.int x)), some (.val (.int w)), x3], H.set r (rgO room ⟨putB w x B (padR S.R B), S.ov, S.un, S.tu⟩ (total + w) l m)⟩ := by
    intro l m
    obtain ⟨st', e, x3, rfl⟩ := range_inv (tg := tgN 3) (b := B_Rungs_add_1) (fun i st => ∃ x3, st = ⟨[some (.val (.obj r)), some (.val (.int x)), some (.val (.int w)), x3], H.set r (rgO room ⟨putB w x i (padR S.R B), S.ov, S.un, S.tu⟩ (total + w) l m)⟩) B
      (fun i st hi ⟨x3, e⟩ => by
        subst e
        refine ⟨_, rfl, ⟨[some (.val (.obj r)), some (.val (.int x)), some (.val (.int w)), some (.val (.int (i : Nat)))], H.set r (rgO room ⟨putB w x (i + 1) (padR S.R B), S.ov, S.un, S.tu⟩ (total + w) l m)⟩, .inl ?_, _, rfl⟩
        have il : i < (putB w x i (padR S.R B)).length := by rw [putB_len]; omega
        have ra : PL.atD ((putB w x i (padR S.R B)).map encL) (i : Int) = some (encL (rowAt (putB w x i (padR S.R B)) i)) := by rw [atD_nat, row_at il]
        have ix : ixD (putB w x i (padR S.R B)).length (i : Int) = some i := by unfold ixD; rw [if_pos (by omega), if_pos (by omega)]; simp
        have pe := putB_elems w x (padR S.R B) i
        rw [elems_pad] at pe
        have rl : (rowAt (putB w x i (padR S.R B)) i).length + 1 ≤ 16777216 := by have := elems_ge (rowAt_mem il); omega
        have ba := PyProof.Rows.bitAnd_m1 (w / 2 ^ i)
        have ic : ∀ a : List Int, intsD (a.map D.int ++ [D.int x]) = some (a ++ [x]) := fun a => ints_app a [x]
        have ms : ∀ y, (List.map encL (putB w x i (padR S.R B))).set i (encL y) = List.map encL ((putB w x i (padR S.R B)).set i y) := fun y => List.map_set.symm
        rw [putB]
        generalize putB w x i (padR S.R B) = R at *
        unfold B_Rungs_add_1 rgO rgFs
        unfold encL at *
        by_cases q : w / 2 ^ i % 2 = 1
        · simp [hs, rg_lk, ba, q, ra, ix, rl, ic, ms, -List.map_set]
        · have q1 : (w / 2 ^ i % 2 == 1) = false := by simpa using q
          simp [hs, rg_lk, ba, q, q1])
      ⟨[some (.val (.obj r)), some (.val (.int x)), some (.val (.int w)), none], H.set r (rgO room ⟨padR S.R B, S.ov, S.un, S.tu⟩ (total + w) l m)⟩ ⟨none, rfl⟩
    exact ⟨x3, e⟩
  have pre : preR S x w = ⟨putB w x B (padR S.R B), S.ov, S.un, S.tu⟩ := by unfold preR; rw [hB]
  have pe := putB_elems w x (padR S.R B) B
  rw [elems_pad] at pe
  have sv0 := fun l m => settle_v r room hm (preR S x w) (total + w) l m (H.set r (rgO room (preR S x w) (total + w) l m)) (hset hr _) (by rw [pre]; simp only; omega) (by rw [pre]; simp only; rw [putB_len]; omega)
  have g2 : (B : Int) < 4611686018427387904 := by omega
  unfold addRg
  rw [pre]
  unfold F_Rungs_add
  rcases least with _ | l
  · rcases most with _ | m
    · skip
      have p1 := pad2 (some x) (some x) none
      obtain ⟨x3, lp⟩ := loop (some x) (some x)
      have sv := sv0 (some x) (some x)
      rw [List.set_set, pre] at sv
      unfold loO hiO
      clear pad2 loop sv0 pad
      unfold rgO rgFs oD at *
      simp [fn_s, hr, hs, rg_lk, p1, lp, sv, hB, g2]
    · by_cases c2 : m < x
      · skip
        have p1 := pad2 (some x) (some x) none
        obtain ⟨x3, lp⟩ := loop (some x) (some x)
        have sv := sv0 (some x) (some x)
        rw [List.set_set, pre] at sv
        unfold loO hiO
        clear pad2 loop sv0 pad
        unfold rgO rgFs oD at *
        simp [fn_s, hr, hs, rg_lk, p1, lp, sv, hB, g2, c2]
      · skip
        have p1 := pad2 (some x) (some m) none
        obtain ⟨x3, lp⟩ := loop (some x) (some m)
        have sv := sv0 (some x) (some m)
        rw [List.set_set, pre] at sv
        unfold loO hiO
        clear pad2 loop sv0 pad
        unfold rgO rgFs oD at *
        simp [fn_s, hr, hs, rg_lk, p1, lp, sv, hB, g2, c2]
  · by_cases c1 : x < l
    · rcases most with _ | m
      · skip
        have p1 := pad2 (some x) (some x) none
        obtain ⟨x3, lp⟩ := loop (some x) (some x)
        have sv := sv0 (some x) (some x)
        rw [List.set_set, pre] at sv
        unfold loO hiO
        clear pad2 loop sv0 pad
        unfold rgO rgFs oD at *
        simp [fn_s, hr, hs, rg_lk, p1, lp, sv, hB, g2, c1]
      · by_cases c2 : m < x
        · skip
          have p1 := pad2 (some x) (some x) none
          obtain ⟨x3, lp⟩ := loop (some x) (some x)
          have sv := sv0 (some x) (some x)
          rw [List.set_set, pre] at sv
          unfold loO hiO
          clear pad2 loop sv0 pad
          unfold rgO rgFs oD at *
          simp [fn_s, hr, hs, rg_lk, p1, lp, sv, hB, g2, c1, c2]
        · skip
          have p1 := pad2 (some x) (some m) none
          obtain ⟨x3, lp⟩ := loop (some x) (some m)
          have sv := sv0 (some x) (some m)
          rw [List.set_set, pre] at sv
          unfold loO hiO
          clear pad2 loop sv0 pad
          unfold rgO rgFs oD at *
          simp [fn_s, hr, hs, rg_lk, p1, lp, sv, hB, g2, c1, c2]
    · rcases most with _ | m
      · skip
        have p1 := pad2 (some l) (some x) none
        obtain ⟨x3, lp⟩ := loop (some l) (some x)
        have sv := sv0 (some l) (some x)
        rw [List.set_set, pre] at sv
        unfold loO hiO
        clear pad2 loop sv0 pad
        unfold rgO rgFs oD at *
        simp [fn_s, hr, hs, rg_lk, p1, lp, sv, hB, g2, c1]
      · by_cases c2 : m < x
        · skip
          have p1 := pad2 (some l) (some x) none
          obtain ⟨x3, lp⟩ := loop (some l) (some x)
          have sv := sv0 (some l) (some x)
          rw [List.set_set, pre] at sv
          unfold loO hiO
          clear pad2 loop sv0 pad
          unfold rgO rgFs oD at *
          simp [fn_s, hr, hs, rg_lk, p1, lp, sv, hB, g2, c1, c2]
        · skip
          have p1 := pad2 (some l) (some m) none
          obtain ⟨x3, lp⟩ := loop (some l) (some m)
          have sv := sv0 (some l) (some m)
          rw [List.set_set, pre] at sv
          unfold loO hiO
          clear pad2 loop sv0 pad
          unfold rgO rgFs oD at *
          simp [fn_s, hr, hs, rg_lk, p1, lp, sv, hB, g2, c1, c2]
end PX

namespace PX
open PySem PySem.Spec PyProof.Rows L2 PL
@[irreducible] noncomputable def F_mixed : Fn := fn 3 <|
  sSeq (sSet 2 (eBin mMod (eBin mMul (eBin mAdd (eBin mAdd (eBin mMod (vVar 0) (eC (.int 2147483647))) (eBin mMul (eC (.int 5)) (vVar 1))) (eC (.int 1))) (eC (.int 48271))) (eC (.int 2147483647)))) <|
  sRet (eBin mMod (eBin mMul (vVar 2) (vVar 2)) (eC (.int 2147483629)))
@[irreducible] noncomputable def F_thing : Fn := fn 2 <|
  sSeq (sSet 1 (eBin mMod (vVar 0) (eC (.int 5)))) <|
  sSeq (sIf (bOr (tst (eBin mEq (vVar 1) (eC (.int 0)))) (tst (eBin mEq (vVar 1) (eC (.int 4))))) (sRet (eBin mMod (eBin mDiv (vVar 0) (eC (.int 5))) (eC (.int 7)))) (sNx)) <|
  sSeq (sIf (tst (eBin mEq (vVar 1) (eC (.int 1)))) (sRet (eBin mMod (eBin mDiv (vVar 0) (eC (.int 5))) (eC (.int 1152921504606846976)))) (sNx)) <|
  sSeq (sIf (tst (eBin mEq (vVar 1) (eC (.int 2)))) (sRet (eBin mSub (eC (.int 1152921504606846975)) (eBin mMod (eBin mDiv (vVar 0) (eC (.int 5))) (eC (.int 4))))) (sNx)) <|
  sRet (eBin mMod (eBin mMul (eBin mDiv (vVar 0) (eC (.int 5))) (eC (.int 2862933555777941757))) (eC (.int 1152921504606846976)))
@[irreducible] noncomputable def F_weight : Fn := fn 2 <|
  sSeq (sSet 1 (eCall PX.F_mixed (aCons (aL 0) (aCons (aV (eC (.int 2))) (aNil))))) <|
  sSeq (sIf (tst (eBin mEq (eBin mMod (vVar 1) (eC (.int 4))) (eC (.int 0)))) (sRet (eC (.int 1))) (sNx)) <|
  sSeq (sIf (tst (eBin mEq (eBin mMod (vVar 1) (eC (.int 4))) (eC (.int 1)))) (sRet (eBin mAdd (eC (.int 1)) (eBin mMod (eBin mDiv (vVar 1) (eC (.int 4))) (eC (.int 9))))) (sNx)) <|
  sSeq (sIf (tst (eBin mEq (eBin mMod (vVar 1) (eC (.int 4))) (eC (.int 2)))) (sRet (eBin mShl (eC (.int 1)) (eBin mMod (eBin mDiv (vVar 1) (eC (.int 4))) (eC (.int 40))))) (sNx)) <|
  sRet (eBin mAdd (eC (.int 1)) (eBin mMod (eBin mAdd (eBin mMod (vVar 0) (eBin mPow (eC (.int 10)) (eC (.int 12)))) (eBin mMul (vVar 1) (eC (.int 48271)))) (eBin mPow (eC (.int 10)) (eC (.int 12)))))
@[irreducible] noncomputable def F_room : Fn := fn 1 <|
  sSeq (sIf (tst (eBin mEq (eBin mMod (vVar 0) (eC (.int 8))) (eC (.int 5)))) (sRet (eBin mAdd (eC (.int 2)) (eBin mMul (eC (.int 2)) (eBin mMod (eBin mDiv (vVar 0) (eC (.int 8))) (eC (.int 32)))))) (sNx)) <|
  sRet (eBin mIx (eLst (eCons (eC (.int 2)) (eCons (eC (.int 2)) (eCons (eC (.int 4)) (eCons (eC (.int 4)) (eCons (eC (.int 6)) (eCons (eC (.int 2)) (eCons (eC (.int 8)) (eCons (eC (.int 10)) (eNil)))))))))) (eBin mMod (vVar 0) (eC (.int 8))))
end PX

/-! What the drawing functions of the rungs' laws tell. -/
namespace PX
open PySem PySem.Spec PyProof.Rows L2 PL
def mixV (c k : Int) : Int := ((c % 2147483647 + 5 * k + 1) * 48271 % 2147483647) * ((c % 2147483647 + 5 * k + 1) * 48271 % 2147483647) % 2147483629
theorem mixV_bd (c k : Int) : 0 ≤ mixV c k ∧ mixV c k < 2147483629 := ⟨Int.emod_nonneg _ (by decide), Int.emod_lt_of_pos _ (by decide)⟩
theorem mixed_v (c k : Int) (h : List LO) (hk : 0 ≤ k) (hk2 : k ≤ 1000000) : F_mixed [.val (.int c), .val (.int k)] h = .ret (.val (.int (mixV c k))) h := by
  have b1 : 0 ≤ c % 2147483647 ∧ c % 2147483647 < 2147483647 := ⟨Int.emod_nonneg _ (by decide), Int.emod_lt_of_pos _ (by decide)⟩
  have c1 : CMulX 5 k := cmul_of 10 100 (by decide) (by omega)
  have c2 : CMulX (c % 2147483647 + 5 * k + 1) 48271 := cmul_of 100 100 (by omega) (by decide)
  have b2 : 0 ≤ (c % 2147483647 + 5 * k + 1) * 48271 % 2147483647 ∧ (c % 2147483647 + 5 * k + 1) * 48271 % 2147483647 < 2147483647 := ⟨Int.emod_nonneg _ (by decide), Int.emod_lt_of_pos _ (by decide)⟩
  have c3 : CMulX ((c % 2147483647 + 5 * k + 1) * 48271 % 2147483647) ((c % 2147483647 + 5 * k + 1) * 48271 % 2147483647) := cmul_of 100 100 (by omega) (by omega)
  unfold F_mixed mixV
  simp [fn_s, c1, c2, c3]
theorem rthing_v (c : Int) (h : List LO) (hc : Builtin.Int.intBits c ≤ 1048576) : ∃ t, F_thing [.val (.int c)] h = .ret (.val (.int t)) h ∧ 0 ≤ t ∧ t < 1152921504606846976 := by
  have cb := lt_bits hc
  have c1 : CMulX (c / 5) 2862933555777941757 := cmul_of 1048576 100 (by
    refine Nat.lt_of_le_of_lt ?_ cb
    omega) (by decide)
  unfold F_thing
  by_cases q0 : c % 5 = 0
  · exact ⟨_, by simp [fn_s, q0]; rfl, by omega, by omega⟩
  · by_cases q4 : c % 5 = 4
    · exact ⟨_, by simp [fn_s, q0, q4]; rfl, by omega, by omega⟩
    · by_cases q1 : c % 5 = 1
      · exact ⟨_, by simp [fn_s, q0, q4, q1]; rfl, Int.emod_nonneg _ (by decide), Int.emod_lt_of_pos _ (by decide)⟩
      · by_cases q2 : c % 5 = 2
        · exact ⟨_, by simp [fn_s, q0, q4, q1, q2]; rfl, by omega, by omega⟩
        · exact ⟨_, by simp [fn_s, q0, q4, q1, q2, c1]; rfl, Int.emod_nonneg _ (by decide), Int.emod_lt_of_pos _ (by decide)⟩
theorem rweight_v (c : Int) (h : List LO) : ∃ w, F_weight [.val (.int c)] h = .ret (.val (.int w)) h ∧ 1 ≤ w ∧ w ≤ 1000000000000 := by
  have em := fun h => mixed_v c 2 h (by decide) (by decide)
  obtain ⟨m0, m1⟩ := mixV_bd c 2
  generalize mixV c 2 = m at *
  unfold F_weight
  by_cases q0 : m % 4 = 0
  · exact ⟨1, by simp [fn_s, em, q0], by omega, by omega⟩
  · by_cases q1 : m % 4 = 1
    · exact ⟨_, by simp [fn_s, em, q0, q1]; rfl, by omega, by omega⟩
    · by_cases q2 : m % 4 = 2
      · obtain ⟨s, hs⟩ : ∃ s : Nat, (s : Int) = m / 4 % 40 := ⟨(m / 4 % 40).toNat, by omega⟩
        have c2 : CShl 1 (m / 4 % 40) := ⟨by omega, by
          have : Builtin.Int.intBits 1 = 1 := by decide
          rw [this]; omega⟩
        have p1 : (1 : Int) ≤ 2 ^ s := Int.pow_pos (by decide)
        have p2 : (2 : Int) ^ s ≤ 2 ^ 39 := by
          have h1 := Nat.pow_le_pow_right (show 0 < 2 by decide) (show s ≤ 39 by omega)
          have h2 : ((2 ^ s : Nat) : Int) = 2 ^ s := by push_cast; rfl
          omega
        refine ⟨2 ^ s, ?_, by omega, by omega⟩
        rw [← hs] at c2
        simp [fn_s, em, q0, q1, q2, ← hs, c2]
      · have c3 : CMulX m 48271 := cmul_of 100 100 (by omega) (by decide)
        have c4 : CPow 10 12 := by decide
        exact ⟨1 + (c % 1000000000000 + m * 48271) % 1000000000000, by simp [fn_s, em, q0, q1, q2, c3, c4], by omega, by omega⟩
theorem rroom_v (c : Int) (h : List LO) : ∃ room : Nat, F_room [.val (.int c)] h = .ret (.val (.int (room : Nat))) h ∧ room % 2 = 0 ∧ 2 ≤ room ∧ room ≤ 64 := by
  unfold F_room
  by_cases q : c % 8 = 5
  · refine ⟨(2 + 2 * (c / 8 % 32)).toNat, ?_, by omega, by omega, by omega⟩
    have c1 : CMulX 2 (c / 8 % 32) := cmul_of 10 100 (by decide) (by omega)
    have e : (((2 + 2 * (c / 8 % 32)).toNat : Nat) : Int) = 2 + 2 * (c / 8 % 32) := by omega
    rw [e]
    simp [fn_s, q, c1]
  · have key : c % 8 = 0 ∨ c % 8 = 1 ∨ c % 8 = 2 ∨ c % 8 = 3 ∨ c % 8 = 4 ∨ c % 8 = 6 ∨ c % 8 = 7 := by omega
    rcases key with e | e | e | e | e | e | e
    · exact ⟨2, by simp [fn_s, e]; rfl, by decide, by decide, by decide⟩
    · exact ⟨2, by simp [fn_s, e]; rfl, by decide, by decide, by decide⟩
    · exact ⟨4, by simp [fn_s, e]; rfl, by decide, by decide, by decide⟩
    · exact ⟨4, by simp [fn_s, e]; rfl, by decide, by decide, by decide⟩
    · exact ⟨6, by simp [fn_s, e]; rfl, by decide, by decide, by decide⟩
    · exact ⟨8, by simp [fn_s, e]; rfl, by decide, by decide, by decide⟩
    · exact ⟨10, by simp [fn_s, e]; rfl, by decide, by decide, by decide⟩
end PX

/-! PyLite, part y: chains of three, isinstance by several classes of what was caught. -/
namespace PLR
open PySem PySem.Spec PyProof.Rows L2
section
variable {X : Cx} {a b c d e : Expr} {ta tb tc td : TE} {pos : Pos}
/-- a op1 b op2 c op3 d -/
def tChain3 (r r' r'' : R2) (ta tb tc td : TE) : TE := fun σ H Q => ta σ H fun x H1 => tb σ H1 fun y H2 => r x y H2 fun z H3 => ∃ k, z = .bl k ∧
  (if k = true then tc σ H3 fun w' H4 => r' y w' H4 fun z2 H5 => ∃ k2, z2 = .bl k2 ∧ (if k2 = true then td σ H5 fun u' H6 => r'' w' u' H6 Q else Q (.bl false) H5) else Q (.bl false) H3)
theorem pe_chain3 {op op' op'' : CmpOp} {r r' r'' : R2} (ho : OpR X (compareOp op) r) (ho' : OpR X (compareOp op') r') (ho'' : OpR X (compareOp op'') r'') (ha : PE X a ta) (hb : PE X b tb) (hc : PE X c tc) (hd : PE X d td)
    (hm : lastMarks [op, op', op''] [b, c, d] = false := by with_unfolding_all rfl) : PE X (.Compare a [op, op', op''] [b, c, d] pos) (tChain3 r r' r'' ta tb tc td) := by
  refine ⟨fun pins s σ H Q I h => ?_⟩
  refine Compare_chain (thn (ha.run pins s σ H _ I h) fun v s1 ⟨x, H1, I1, r1, q1⟩ => chain_link (thn (hb.run pins s1 σ H1 _ I1 q1) fun u s2 ⟨y, H2, I2, r2, q2⟩ =>
    thn (ho pins s2 σ H2 x y v u _ I2 r1 r2 q2) fun d s3 ⟨z, H3, I3, r3, k, e, q3⟩ => ?_)) hm
  subst e
  cases r3
  refine wpAny_truthy_bool ?_
  cases k with
  | false => exact ite_ff ⟨.bl false, H3, I3, rfl, q3⟩
  | true =>
    refine ite_tt (chain_link (thn (hc.run pins s3 σ H3 _ I3 q3) fun w' s4 ⟨z', H4, I4, r4, q4⟩ => thn (ho' pins s4 σ H4 y z' u w' _ I4 r2 r4 q4) fun d5 s5 ⟨z5, H5, I5, r5, k5, e5, q5⟩ => ?_))
    subst e5
    cases r5
    refine wpAny_truthy_bool ?_
    cases k5 with
    | false => exact ite_ff ⟨.bl false, H5, I5, rfl, q5⟩
    | true => exact ite_tt (chain_last (thn (hd.run pins s5 σ H5 _ I5 q5) fun u6 s6 ⟨z6, H6, I6, r6, q6⟩ => ho'' pins s6 σ H6 z' z6 w' u6 Q I6 r4 r6 q6))
theorem pt_chain3 {op op' op'' : CmpOp} {r r' r'' : R2} (ho : OpR X (compareOp op) r) (ho' : OpR X (compareOp op') r') (ho'' : OpR X (compareOp op'') r'') (ha : PE X a ta) (hb : PE X b tb) (hc : PE X c tc) (hd : PE X d td)
    (hm : lastMarks [op, op', op''] [b, c, d] = false := by with_unfolding_all rfl) : PT X (.Compare a [op, op', op''] [b, c, d] pos) (tTest (tChain3 r r' r'' ta tb tc td)) := by
  refine ⟨fun pins s σ H Q I h => ?_⟩
  refine isTrue_chain (thn (ha.run pins s σ H _ I h) fun v s1 ⟨x, H1, I1, r1, q1⟩ => test_link (thn (hb.run pins s1 σ H1 _ I1 q1) fun u s2 ⟨y, H2, I2, r2, q2⟩ =>
    thn (ho pins s2 σ H2 x y v u _ I2 r1 r2 q2) fun d s3 ⟨z, H3, I3, r3, k, e, q3⟩ => ?_)) hm
  subst e
  cases r3
  refine wpAny_truthy_bool ?_
  cases k with
  | false =>
    obtain ⟨k', e', q'⟩ := q3
    cases e'
    exact ite_ff ⟨H3, I3, q'⟩
  | true =>
    refine ite_tt (test_link (thn (hc.run pins s3 σ H3 _ I3 q3) fun w' s4 ⟨z', H4, I4, r4, q4⟩ => thn (ho' pins s4 σ H4 y z' u w' _ I4 r2 r4 q4) fun d5 s5 ⟨z5, H5, I5, r5, k5, e5, q5⟩ => ?_))
    subst e5
    cases r5
    refine wpAny_truthy_bool ?_
    cases k5 with
    | false =>
      obtain ⟨k', e', q'⟩ := q5
      cases e'
      exact ite_ff ⟨H5, I5, q'⟩
    | true =>
      refine ite_tt (test_last (thn (hd.run pins s5 σ H5 _ I5 q5) fun u6 s6 ⟨z6, H6, I6, r6, q6⟩ => thn (ho'' pins s6 σ H6 z' z6 w' u6 _ I6 r4 r6 q6) fun d7 s7 ⟨z7, H7, I7, r7, k7, e7, q7⟩ => ?_))
      subst e7
      cases r7
      exact wpAny_truthy_bool ⟨H7, I7, q7⟩
end
/-- isinstance(e, (c1, c2, ..)), e an exception that is tracked -/
theorem call_isKT {X : Cx} : CallR X (.builtin "isinstance") (fun xs H Q => ∃ (a D tp : Addr) (cs : List V) (us : List Value) (b : Bool), xs = [.ref a, .ref tp] ∧ Rd H a (erX a D) ∧ ExcC X.K D ∧ H tp = some (.tup cs) ∧ Paired ClsV cs us ∧ PySem.W.kitAny X.K (.ref D) us = some b ∧ Q (.bl b) H) := by
  intro pins s σ H xs us Q I r h
  obtain ⟨a, D, tp, cs, ws, b, rfl, hr, C, hT, hp, e, q⟩ := h
  obtain ⟨u1, u2, rfl, r1, r2⟩ := vals2 r
  cases r1
  cases (show u2 = Value.ref tp from r2)
  have ph : ∃ oe vs, s.heap.get? a = some oe ∧ oe.cls = .ref D ∧ oe.dict = none ∧ oe.data = .fields vs := by
    rcases hr with hr | ⟨o, hr⟩
    · exact (I.hok a _ hr).1
    · exact (I.hok a _ hr).2.1
  obtain ⟨oe, vs, h1, h2, h3, h4⟩ := ph
  have J : PySem.W.InstAt s.heap a oe D none := by
    obtain ⟨oc, od, oda, osl⟩ := oe
    dsimp only at h2 h3 h4
    subst h2 h3 h4
    exact ⟨h1, rfl, rfl, trivial⟩
  obtain ⟨_, its, rv, o, g1, g2, n, g3⟩ := (show ObjOk X.prog X.w H s.heap tp (.tup cs) from I.hok tp _ hT)
  have e3 := ClsV.all hp rv
  subst e3
  obtain ⟨oc, od, dt, sl⟩ := o
  simp only at g2 g3
  subst g2 g3
  exact PySem.W.kia_tup (PySem.W.handS_kitx_exc C.hg C.hk C.hs C.hd C.ha C.hn C.ht C.hm) I.kIn J g1 e (fun z => nomatch z) fun tk => ⟨.bl b, H, I.kept (t' := tk) fun _ _ z => z, rfl, q⟩
/-- max(d), min(d): of the keys, whole numbers -/
theorem cr_dict_walk {X : Cx} (hc : X.calm = true) {nm : String} {op : CmpOp} {cmp : Int → Int → Bool} {ok : Int → Int → Prop}
    (hw : ∀ {pins : List (Addr × Obj)} {x : Value} {s : Shared} {Q : Value → Shared → Prop}, wpAny (model X.prog X.w) X.A.in1 (pyIter x) (fun it s₂ => ∃ I fp wr n P St bt, it = .ref I ∧ Walks X.prog X.w X.A.in1 I fp wr n P St ∧ St 0 s₂.heap ∧ (∀ b ∈ fp, b < s₂.heap.objs.size) ∧ 0 < n ∧ CmpOf X.prog X.w X.A.in1 op P bt ∧
      ∀ v h' tk, P (argBest bt (n - 1)) v → (∀ b o, b ∉ wr → s₂.heap.get? b = some o → h'.get? b = some o) → Q v { s₂ with heap := h', toks := tk }) X.xe s → wpAny (model X.prog X.w) X.A (call (.builtin nm) [x]) Q X.xe s)
    (hcmp : ∀ (P : Nat → Value → Prop) (val : Nat → Int), (∀ i v, P i v → ∃ t, v = .int (val i) t) → CmpOf X.prog X.w X.A.in1 op P fun i j => cmp (val i) (val j))
    (hbest : ∀ (val : Nat → Int) (k : Nat), argBest (fun i j => cmp (val i) (val j)) k ≤ k ∧ ∀ j, j ≤ k → ok (val (argBest (fun i j => cmp (val i) (val j)) k)) (val j)) :
    CallR X (.builtin nm) (fun vs H Q => ∃ (a : Addr) (kvs : List (Key × V)) (ns : List Int), vs = [V.ref a] ∧ Rd H a (.dK kvs) ∧ keysI kvs = some ns ∧ 0 < ns.length ∧ ∀ m, m ∈ ns → (∀ y, y ∈ ns → ok m y) → Q (.int m) H) := by
  intro pins s σ H vs us Q I r h
  obtain ⟨a, kvs, ns, rfl, hd, hk, hne, q⟩ := h
  obtain rfl := Vals.ref1 r
  obtain ⟨z, hsys, ws, rel, dof⟩ := dk_rd I.hok hd
  obtain ⟨ep, dat⟩ := dof.dictAt
  have hl : ws.length = kvs.length := (Paired.length rel).symm
  have hkn := keysI_len hk
  refine hw (pins := pins) (wpAny_pyIter_dict hsys dat ?_)
  have ha : a < s.heap.objs.size := dat.lt_size
  have hval : ∀ i v, (∃ k x, ws[i]? = some (k, x) ∧ (mixKind X.prog X.w).is k v = true) → ∃ t, v = .int (ns.getD i 0) t := fun i v ⟨k, x, e1, e2⟩ => by
    obtain ⟨y, e3, _⟩ := KV.at' rel e1
    obtain ⟨n, e4, rfl⟩ := keysI_get hk e3
    rcases keyIs_shape (show keyIs (.inl n) v = true from e2) with ⟨i', t, q1, q2⟩ | ⟨i', t, q1, q2⟩
    · cases q1
      refine ⟨t, ?_⟩
      rw [List.getD_eq_getElem?_getD, e4]
      exact q2
    · cases q1
  refine ⟨s.heap.objs.size, [s.heap.objs.size, a], [s.heap.objs.size], ws.length, _, _, fun i j => cmp (ns.getD i 0) (ns.getD j 0), rfl, Walks.dictKeys (knd := mixKind X.prog X.w) (show X.A.in1.handled = none from I.ok.hd hc) _ a (Nat.ne_of_lt ha) ws ep,
    ⟨⟨_, Heap.get?_push_size _ rfl, rfl, by rfl⟩, dat.push _⟩, fun b hb => ?_, by omega, hcmp _ _ hval, fun v h' tk hv hk' => ?_⟩
  · show b < (s.heap.push _).objs.size
    rw [size_push']
    rcases List.mem_cons.mp hb with z | z
    · rw [z]; exact Nat.lt_succ_self _
    · rw [List.mem_singleton.mp z]; exact Nat.lt_succ_of_lt ha
  · obtain ⟨t, rfl⟩ := hval _ _ hv
    obtain ⟨m1, m2⟩ := hbest (fun i => ns.getD i 0) (ws.length - 1)
    have I2 : Inv X pins σ H { s with heap := h', toks := tk } := I.kept fun b o e => hk' b o (fun z => by
      rw [List.mem_singleton.mp z] at e
      exact Nat.lt_irrefl _ (Heap.lt_size e)) (Heap.get?_push_of_some _ e)
    refine ⟨.int _, H, I2, ⟨_, rfl⟩, q _ ?_ fun y hy => ?_⟩
    · rw [List.getD_eq_getElem?_getD, List.getElem?_eq_getElem (by omega)]
      exact List.getElem_mem _
    · obtain ⟨j, hj, rfl⟩ := List.getElem_of_mem hy
      have := m2 j (by omega)
      rw [show ns.getD j 0 = ns[j] by rw [List.getD_eq_getElem?_getD, List.getElem?_eq_getElem hj]; rfl] at this
      exact this
theorem cr_maxD {X : Cx} (hc : X.calm = true) : CallR X (.builtin "max") (fun vs H Q => ∃ (a : Addr) (kvs : List (Key × V)) (ns : List Int), vs = [V.ref a] ∧ Rd H a (.dK kvs) ∧ keysI kvs = some ns ∧ 0 < ns.length ∧ ∀ m, m ∈ ns → (∀ y, y ∈ ns → y ≤ m) → Q (.int m) H) :=
  cr_dict_walk (op := .Gt) (cmp := fun i j => decide (i > j)) (ok := fun m y => y ≤ m) hc (fun h => call_max_walk h) (fun P val hv => CmpOf.ints_gt val hv) fun val k => argBest_gt val k
theorem cr_minD {X : Cx} (hc : X.calm = true) : CallR X (.builtin "min") (fun vs H Q => ∃ (a : Addr) (kvs : List (Key × V)) (ns : List Int), vs = [V.ref a] ∧ Rd H a (.dK kvs) ∧ keysI kvs = some ns ∧ 0 < ns.length ∧ ∀ m, m ∈ ns → (∀ y, y ∈ ns → m ≤ y) → Q (.int m) H) :=
  cr_dict_walk (op := .Lt) (cmp := fun i j => decide (i < j)) (ok := fun m y => m ≤ y) hc (fun h => call_min_walk h) (fun P val hv => CmpOf.ints_lt val hv) fun val k => argBest_lt val k
end PLR
namespace PL
open PySem PySem.Spec PyProof.Rows L2
section
variable {Γ : Tab} {W : WX} {Z Z' : Hp} {Lt Lt' : Lend} {g g' : GM} {st st' : LS} {σ σ' : L2.St} {H H' : Hp} {h h' : List LO} {a p : Addr} {o : HO} {d : D} {v : V} {X : Cx} {e e1 e2 e3 e4 : Expr} {es : List Expr} {f k l j : E D} {pos pos2 ppos apos tpos mpos : Pos} {stm : Stmt} {sts : List Stmt} {f1 f2 : S} {D0 : Ends}
/-! ### a < b < c < d -/
def eChain3 (m m' m'' : Sem2) (f k l j : E D) : E D := fun st => (f st).bind fun x s1 => (k s1).bind fun y s2 => (m x y s2).bind fun c s3 => match c with
  | .bl true => (l s3).bind fun z s4 => (m' y z s4).bind fun c2 s5 => match c2 with
    | .bl true => (j s5).bind fun u s6 => m'' z u s6
    | .bl false => .ok (.bl false) s5
    | _ => .bad
  | .bl false => .ok (.bl false) s3
  | _ => .bad
theorem chain3_T {r r' r'' : R2} {m m' m'' : Sem2} (hm : Holds2 Γ W X r m) (hm' : Holds2 Γ W X r' m') (hm'' : Holds2 Γ W X r'' m'') {Q : VK} (h : T Γ W (eChain3 m m' m'' f k l j) σ H Q) : PLR.tChain3 r r' r'' (TV Γ W f) (TV Γ W k) (TV Γ W l) (TV Γ W j) σ H Q := by
  obtain ⟨Z, Lt, g, st, s, h⟩ := h
  refine ⟨Z, Lt, g, st, s, h.bind.imp fun x g1 st1 H1 s1 t1 k1 v rx => ?_⟩
  refine ⟨Z, Lt, g1, st1, s1, (k1 g1 H1 s1 (GT.refl _ _)).bind.imp fun y g2 st2 H2 s2 t2 k2 w ry => ?_⟩
  refine hm Z Lt g2 st2 σ H2 x y v w _ s2 ((rx.up t2).cv s2) (ry.cv s2) ((k2 g2 H2 s2 (GT.refl _ _)).bind.imp fun c g3 st3 H3 s3 t3 k3 u ru => ?_)
  have k4 := k3 g3 H3 s3 (GT.refl _ _)
  split at k4
  · simp only [RD] at ru
    refine ⟨true, ru, ?_⟩
    rw [if_pos rfl]
    refine ⟨Z, Lt, g3, st3, s3, k4.bind.imp fun z g4 st4 H4 s4 t4 k5 u ru' => hm' Z Lt g4 st4 σ H4 y z w u _ s4 (((ry.up t3).up t4).cv s4) (ru'.cv s4) ((k5 g4 H4 s4 (GT.refl _ _)).bind.imp fun c2 g5 st5 H5 s5 t5 k6 u5 ru5 => ?_)⟩
    have k7 := k6 g5 H5 s5 (GT.refl _ _)
    split at k7
    · simp only [RD] at ru5
      refine ⟨true, ru5, ?_⟩
      rw [if_pos rfl]
      exact ⟨Z, Lt, g5, st5, s5, k7.bind.imp fun u g6 st6 H6 s6 t6 k8 u6 ru6 => hm'' Z Lt g6 st6 σ H6 z u _ u6 Q s6 (((ru'.up t5).up t6).cv s6) (ru6.cv s6) (k8 g6 H6 s6 (GT.refl _ _))⟩
    · simp only [RD] at ru5
      refine ⟨false, ru5, ?_⟩
      rw [if_neg Bool.false_ne_true]
      exact ret_bl s5 k7
    · exact k7.elim
  · simp only [RD] at ru
    refine ⟨false, ru, ?_⟩
    rw [if_neg Bool.false_ne_true]
    exact ret_bl s3 k4
  · exact k4.elim
theorem pd_chain3 {op op' op'' : CmpOp} {r r' r'' : R2} {m m' m'' : Sem2} (ho : OpR X (compareOp op) r) (ho' : OpR X (compareOp op') r') (ho'' : OpR X (compareOp op'') r'') (hm : Holds2 Γ W X r m) (hm' : Holds2 Γ W X r' m') (hm'' : Holds2 Γ W X r'' m'') (x : PV Γ W X e1 f) (y : PV Γ W X e2 k) (z : PV Γ W X e3 l) (u : PV Γ W X e4 j)
    (hl : lastMarks [op, op', op''] [e2, e3, e4] = false := by with_unfolding_all rfl) : PD Γ W X (.Compare e1 [op, op', op''] [e2, e3, e4] pos) (eChain3 m m' m'' f k l j) :=
  ⟨(PLR.pe_chain3 ho ho' ho'' x.pe y.pe z.pe u.pe hl).csq fun σ H Q h => chain3_T hm hm' hm'' h⟩
theorem pb_chain3 {op op' op'' : CmpOp} {r r' r'' : R2} {m m' m'' : Sem2} (ho : OpR X (compareOp op) r) (ho' : OpR X (compareOp op') r') (ho'' : OpR X (compareOp op'') r'') (hm : Holds2 Γ W X r m) (hm' : Holds2 Γ W X r' m') (hm'' : Holds2 Γ W X r'' m'') (x : PV Γ W X e1 f) (y : PV Γ W X e2 k) (z : PV Γ W X e3 l) (u : PV Γ W X e4 j)
    (hl : lastMarks [op, op', op''] [e2, e3, e4] = false := by with_unfolding_all rfl) : PB Γ W X (.Compare e1 [op, op', op''] [e2, e3, e4] pos) (tst (eChain3 m m' m'' f k l j)) :=
  ⟨(PLR.pt_chain3 ho ho' ho'' x.pe y.pe z.pe u.pe hl).csq fun σ H Q h => chain3_T hm hm' hm'' (tst_T h)⟩
@[simp] theorem eChain3_s {m m' m'' : Sem2} : eChain3 m m' m'' f k l j st = (f st).bind fun x s1 => (k s1).bind fun y s2 => (m x y s2).bind fun c s3 => match c with
  | .bl true => (l s3).bind fun z s4 => (m' y z s4).bind fun c2 s5 => match c2 with
    | .bl true => (j s5).bind fun u s6 => m'' z u s6
    | .bl false => .ok (.bl false) s5
    | _ => .bad
  | .bl false => .ok (.bl false) s3
  | _ => .bad := id rfl

/-! ### isinstance by several classes -/
structure PKs (Γ : Tab) (X : Cx) (es : List Expr) (cs : List V) (us : List Value) : Prop where
  pa : PA X es fun _ H Q => Q cs H
  pr : Paired ClsV cs us
theorem pks_nil : PKs Γ X [] [] [] := ⟨pa_nil, .nil⟩
theorem pks_cons {x : Str} {C : Addr} {cs : List V} {us : List Value} (hm : X.mg x = some (.ref C)) (y : PKs Γ X es cs us) (hgx : Gl X x := by rfl) (hd : (x == ("__debug__" : Str)) = false := by decide)
    (he : starEach (.Name x pos2 :: es) X.env = (false, eval (.Name x pos2) X.env) :: starEach es X.env := by rfl) : PKs Γ X (.Name x pos2 :: es) (.ref C :: cs) (.ref C :: us) :=
  ⟨(pa_cons (pe_glob hgx hm (show RelV (V.ref C) (Value.ref C) from rfl) hd) y.pa he).csq fun σ H Q h => h, .cons (.own C) y.pr⟩
structure IsT (Γ : Tab) (us : List Value) (sub : Nat → Option Bool) : Prop where
  is : ∀ k b C, sub k = some b → Γ.cls k = some C → ExcC Γ.K C ∧ PySem.W.kitAny Γ.K (.ref C) us = some b
def subOr (s1 s2 : Nat → Option Bool) : Nat → Option Bool := fun k => match s1 k, s2 k with
  | some a, some b => some (a || b)
  | _, _ => none
@[simp] theorem subOr_s {s1 s2 : Nat → Option Bool} {k : Nat} : subOr s1 s2 k = match s1 k, s2 k with
  | some a, some b => some (a || b)
  | _, _ => none := id rfl
theorem IsT.one {cv : Value} {s : Nat → Option Bool} (h : IsE Γ cv s) : IsT Γ [cv] s := ⟨fun k b C h1 h2 => by
  obtain ⟨i1, i2⟩ := h.is k b C h1 h2
  refine ⟨i1, ?_⟩
  cases b with
  | true => exact kitAny_cons i2 (fun z => by cases z) fun _ => rfl
  | false => exact kitAny_cons i2 (fun _ => kitAny_nil) fun z => by cases z⟩
theorem IsT.cons {cv : Value} {us : List Value} {s1 s2 : Nat → Option Bool} (h : IsE Γ cv s1) (h2 : IsT Γ us s2) : IsT Γ (cv :: us) (subOr s1 s2) := ⟨fun k b C h1 h3 => by
  unfold subOr at h1
  split at h1
  · rename_i x y ex ey
    cases h1
    obtain ⟨i1, i2⟩ := h.is k _ C ex h3
    obtain ⟨_, i3⟩ := h2.is k _ C ey h3
    refine ⟨i1, ?_⟩
    cases x with
    | true => exact kitAny_cons i2 (fun z => by cases z) fun _ => rfl
    | false => exact kitAny_cons i2 (fun _ => i3) fun z => by cases z
  · cases h1⟩
theorem pd_isT {cs : List V} {us : List Value} {x1} {sub : Nat → Option Bool} (is : IsT Γ us sub) (hK : X.K = Γ.K) (hn : X.mg "isinstance" = none) (y : PC Γ W X e f) (ks : PKs Γ X es cs us) (hl : cs.length ≤ 16777216 := by simp) (hg : Gl X "isinstance" := by rfl)
    (he : starEach [e, .Tuple es x1 pos2] X.env = (false, eval e X.env) :: starEach [.Tuple es x1 pos2] X.env := by rfl) (he2 : starEach [.Tuple es x1 pos2] X.env = (false, eval (.Tuple es x1 pos2) X.env) :: starEach [] X.env := by rfl)
    (hpl : (backTo pos (starEach [.Tuple es x1 pos2] X.env)).any (·.1) = false := by rfl) : PD Γ W X (.Call (.Name "isinstance" ppos) [e, .Tuple es x1 pos2] [] pos) (eUn (mIsE sub) f) := by
  refine ⟨(pe_callB PLR.call_isKT hg hn (by decide +kernel) (pa_cons y.pe (pa_cons (pe_tup ks.pa) pa_nil he2) he) (by decide) (by decide) he hpl).csq fun σ H Q h => ?_⟩
  refine one (X := X) (r := fun v H Q => cs.length ≤ sizeLine ∧ ∀ tp, H tp = none → ∃ (a D tp' : Addr) (cs' : List V) (us' : List Value) (b : Bool), [v, .ref tp] = [V.ref a, V.ref tp'] ∧ Rd (upd H tp (.tup cs)) a (PLR.erX a D) ∧ ExcC X.K D ∧ (upd H tp (.tup cs)) tp' = some (.tup cs') ∧ Paired ClsV cs' us' ∧ PySem.W.kitAny X.K (.ref D) us' = some b ∧ Q (.bl b) (upd H tp (.tup cs))) (fun Z Lt g st σ H x v Q s rx h => ?_) h
  refine ⟨by rw [sizeLine_eq]; exact hl, fun tp n => ?_⟩
  unfold mIsE at h
  split at h
  · rename_i k
    split at h
    · rename_i b eb
      obtain ⟨a, C, rfl, hC, hr⟩ := rx.err s
      obtain ⟨i1, i2⟩ := is.is k b C eb hC
      have nn := (s.sh.new n).2.1
      rw [hK]
      refine ⟨a, C, tp, cs, us, b, rfl, ?_, i1, upd_same, ks.pr, i2, h _ _ (s.new n (.tup cs)) (GT.put nn) _ .bl⟩
      rcases hr with hr | ⟨o, hr⟩
      · exact .inl (by rw [upd_ne (ne_of_none hr n)]; exact hr)
      · exact .inr ⟨o, by rw [upd_ne (ne_of_none hr n)]; exact hr⟩
    · exact h.elim
  · exact h.elim
/-! ### min, max of a list or of a dict's keys -/
def mMinX : Sem1 := fun x st => match x with
  | .lst ds => match (intsD ds).bind List.min? with
    | some m => .ok (.int m) st
    | none => .bad
  | .dic kvs => match (keysD kvs).bind List.min? with
    | some m => .ok (.int m) st
    | none => .bad
  | _ => .bad
def mMaxX : Sem1 := fun x st => match x with
  | .lst ds => match (intsD ds).bind List.max? with
    | some m => .ok (.int m) st
    | none => .bad
  | .dic kvs => match (keysD kvs).bind List.max? with
    | some m => .ok (.int m) st
    | none => .bad
  | _ => .bad
theorem pd_minX (hK : X.K = Γ.K) (hc : X.calm = true) (hg : Gl X "min") (hn : X.mg "min" = none) (y : PC Γ W X e f)
    (he : starEach [e] X.env = (false, eval e X.env) :: starEach [] X.env := by rfl) (hpl : (backTo pos (starEach [] X.env)).any (·.1) = false := by rfl) : PD Γ W X (.Call (.Name "min" ppos) [e] [] pos) (eUn mMinX f) := by
  refine pd_b1 ((cr_min hc).or (PLR.cr_minD hc)) ?_ hg hn PyProof.Rows.boot_min y (by decide) (by decide) he hpl
  intro Z Lt g st σ H x v Q s rx h
  unfold mMinX at h
  split at h
  · split at h
    · rename_i ds m e
      obtain ⟨ns, e1, e2⟩ := Option.bind_eq_some_iff.mp e
      rw [intsD_eq e1] at rx
      obtain ⟨a, rfl, q⟩ := rx.ints s
      refine .inl ⟨a, ns, rfl, by rw [hK]; exact q, ?_, fun m' h1 h2 => ?_⟩
      · cases ns with
        | nil => simp at e2
        | cons => simp
      · have := (List.min?_eq_some_iff (xs := ns) (a := m')).mpr ⟨h1, h2⟩
        rw [e2] at this; cases this
        exact ret_int s h
    · exact h.elim
  · split at h
    · rename_i kvs m e
      obtain ⟨ns, e1, e2⟩ := Option.bind_eq_some_iff.mp e
      obtain ⟨a, ws, rfl, ha, r⟩ := rx.dic s
      refine .inr ⟨a, ws, ns, rfl, ha, by rw [r.keys]; exact e1, ?_, fun m' h1 h2 => ?_⟩
      · cases ns with
        | nil => simp at e2
        | cons => simp
      · have := (List.min?_eq_some_iff (xs := ns) (a := m')).mpr ⟨h1, h2⟩
        rw [e2] at this; cases this
        exact ret_int s h
    · exact h.elim
  · exact h.elim
theorem pd_maxX (hK : X.K = Γ.K) (hc : X.calm = true) (hg : Gl X "max") (hn : X.mg "max" = none) (y : PC Γ W X e f)
    (he : starEach [e] X.env = (false, eval e X.env) :: starEach [] X.env := by rfl) (hpl : (backTo pos (starEach [] X.env)).any (·.1) = false := by rfl) : PD Γ W X (.Call (.Name "max" ppos) [e] [] pos) (eUn mMaxX f) := by
  refine pd_b1 ((cr_max hc).or (PLR.cr_maxD hc)) ?_ hg hn PyProof.Rows.boot_max y (by decide) (by decide) he hpl
  intro Z Lt g st σ H x v Q s rx h
  unfold mMaxX at h
  split at h
  · split at h
    · rename_i ds m e
      obtain ⟨ns, e1, e2⟩ := Option.bind_eq_some_iff.mp e
      rw [intsD_eq e1] at rx
      obtain ⟨a, rfl, q⟩ := rx.ints s
      refine .inl ⟨a, ns, rfl, by rw [hK]; exact q, ?_, fun m' h1 h2 => ?_⟩
      · cases ns with
        | nil => simp at e2
        | cons => simp
      · have := (List.max?_eq_some_iff (xs := ns) (a := m')).mpr ⟨h1, h2⟩
        rw [e2] at this; cases this
        exact ret_int s h
    · exact h.elim
  · split at h
    · rename_i kvs m e
      obtain ⟨ns, e1, e2⟩ := Option.bind_eq_some_iff.mp e
      obtain ⟨a, ws, rfl, ha, r⟩ := rx.dic s
      refine .inr ⟨a, ws, ns, rfl, ha, by rw [r.keys]; exact e1, ?_, fun m' h1 h2 => ?_⟩
      · cases ns with
        | nil => simp at e2
        | cons => simp
      · have := (List.max?_eq_some_iff (xs := ns) (a := m')).mpr ⟨h1, h2⟩
        rw [e2] at this; cases this
        exact ret_int s h
    · exact h.elim
  · exact h.elim
@[simp] theorem mMinX_l (ds : List D) : mMinX (.lst ds) st = match (intsD ds).bind List.min? with
    | some m => .ok (.int m) st
    | none => .bad := id rfl
@[simp] theorem mMinX_d (ds : List (Key × D)) : mMinX (.dic ds) st = match (keysD ds).bind List.min? with
    | some m => .ok (.int m) st
    | none => .bad := id rfl
@[simp] theorem mMaxX_l (ds : List D) : mMaxX (.lst ds) st = match (intsD ds).bind List.max? with
    | some m => .ok (.int m) st
    | none => .bad := id rfl
@[simp] theorem mMaxX_d (ds : List (Key × D)) : mMaxX (.dic ds) st = match (keysD ds).bind List.max? with
    | some m => .ok (.int m) st
    | none => .bad := id rfl
/-! ### a list or dict of one's own is let stand -/
def LS.frz (st : LS) (i : Nat) : LS := match st.s[i]? with
  | some (some (.own d)) => { st with s := st.s.set i (some (.val d)) }
  | _ => st
def sFrz (i : Nat) (f : S) : S := fun st => f (st.frz i)
theorem SR.frzL (s : SR Γ Z Lt g st σ H) (i : Nat) : ∃ g', SR Γ Z Lt g' (st.frz i) σ H ∧ GT Z g g' := by
  unfold LS.frz
  split
  · rename_i d e
    obtain ⟨v, ev, a, rfl, h1, h2, h3, h4, o, h5, h6⟩ := s.sv i _ e
    have hq : ∀ p : Path, g.O a = some p → ¬ (p ≠ .loc i) := fun p e => by rw [h3] at e; cases e; exact fun z => z rfl
    refine ⟨g.put a o, ⟨s.sh.frz h1 h2 h4 h5 hq (fun r f => by simp), by simpa using s.sl, fun j x ej => ?_⟩, GT.put h1⟩
    have gt : GT Z g (g.put a o) := GT.put h1
    by_cases hj : j = i
    · subst hj
      have hl : j < st.s.length := (List.getElem?_eq_some_iff.mp e).1
      rw [List.getElem?_set_self hl] at ej
      cases ej
      exact ⟨_, ev, CR.rd (h6.mono gt.le gt.mp) upd_same⟩
    · rw [List.getElem?_set_ne (Ne.symm hj)] at ej
      obtain ⟨w, e1, f⟩ := s.sv j x ej
      exact ⟨w, e1, f.keep (Kp.frz h1 hq) (by simpa using hj)⟩
  · exact ⟨g, s, GT.refl _ _⟩
theorem st_frz (i : Nat) (x : PSt Γ W X stm f1) : PSt Γ W X stm (sFrz i f1) := ⟨x.ps.csq fun D σ H ⟨Z, Lt, g, st, s, h⟩ => by
  obtain ⟨g', s', t⟩ := s.frzL i
  exact ⟨Z, Lt, g', st.frz i, s', GoS.up h t⟩⟩
@[simp] theorem sFrz_s {i : Nat} : sFrz i f1 st = f1 (st.frz i) := id rfl
@[simp] theorem frz_s {i : Nat} {s : List (Option FV)} {h : List LO} : LS.frz ⟨s, h⟩ i = match s[i]? with
  | some (some (.own d)) => ⟨s.set i (some (.val d)), h⟩
  | _ => ⟨s, h⟩ := id rfl
end
end PL

/-! PyLite, part z: comprehensions over the keys of a dict. -/
namespace PL
open PySem PySem.Spec PyProof.Rows L2
section
variable {Γ : Tab} {W : WX} {Z Z' : Hp} {Lt Lt' : Lend} {g g' g1 : GM} {st st' st1 : LS} {σ σ' : L2.St} {H H' H1 : Hp} {h h' : List LO} {a p : Addr} {o : HO} {d : D} {v : V} {X : Cx} {e1 e2 e3 e4 : Expr} {es : List Expr} {f k l j : E D} {pos pos2 ppos apos tpos mpos : Pos} {stm : Stmt} {sts : List Stmt} {f1 f2 : S} {D0 : Ends}
/-- the turns of a comprehension over what the iterator J tells -/
theorem lc_core {vs : List Nat} {ds : List D} {tg : D → LS → Option LS} {t : E Bool} {e : E D} {gg : TG} {is : List Nat} {Q : VK} (hv : ∀ i ∈ is, i ∈ vs) (hg : TarOk Γ is tg gg) (s1' : SR Γ Z Lt g1 st1 σ H1)
    (k2 : Go Γ W Z Lt σ ((lcT vs tg t e ds [] (wipeS vs st1)).bind fun ys s2 => .ok (.lst ys) s2) g1 fun d g' _ H' => ∀ a, OA Γ Z g' H' .tmp a d → Q (.ref a) H') (J : It)
    (hgo : ∀ i H g st σ, i < ds.length → SR Γ Z Lt g st σ H → GT Z g1 g → J.go i H ∧ ∀ x H', J.yld i H x H' → ∃ g' d, ds[i]? = some d ∧ SR Γ Z Lt g' st σ H' ∧ GT Z g g' ∧ RD Γ g' d x ∧ Quiet g H g' H')
    (hst : ∀ H g st σ, SR Γ Z Lt g st σ H → GT Z g1 g → J.stop ds.length H) : tLc (fun _ H R => R J H) gg (TB Γ WN t) (T Γ WN e) vs σ H1 Q := by
  intro D nD
  obtain ⟨sD, tD, d1, d2, d3, d4, _⟩ := s1'.newT (d := .lst []) (o := .lst []) nD (RDs.nil (Γ := Γ) (g := g1))
  have lz := s1'.sh.lz
  refine ⟨fun i m H => m = ds.length - i ∧ i ≤ ds.length ∧ ∃ g st acc ws, SR Γ Z Lt g st (L2.wipe σ vs) H ∧ Clean vs st ∧ GT Z g1 g ∧ (g.G D = none ∧ g.O D = some .tmp ∧ D ∉ g.M) ∧ H D = some (.lst ws) ∧ RDs Γ g acc ws ∧
    Go Γ W Z Lt σ ((lcT vs tg t e (ds.drop i) acc st).bind fun ys s2 => .ok (.lst ys) s2) g fun d g' _ H' => ∀ a, OA Γ Z g' H' .tmp a d → Q (.ref a) H',
    ⟨ds.length, by simp, Nat.zero_le _, g1.tmp D .tmp, wipeS vs st1, [], [], sD.wipe vs, clean_wipe st1 vs, tD, ⟨d1, d3, d4⟩, upd_same, RDs.nil (Γ := Γ) (g := g1.tmp D .tmp), ?_⟩, ?_⟩
  · rw [List.drop_zero]
    revert k2
    cases lcT vs tg t e ds [] (wipeS vs st1) with
    | ok ys s2 => exact fun k2 g' H' s' t' => k2 g' H' s' (tD.trans t')
    | exc x s2 => exact fun k2 cls dd g' H' s' t' => k2 cls dd g' H' s' (tD.trans t')
    | bad => exact fun k2 => k2
  · rintro i m H ⟨rfl, hi', g, st, acc, ws, S, cl, tt, ⟨q1, q2, q3⟩, eD, ra, k3⟩
    by_cases hlt : i < ds.length
    · obtain ⟨go, step⟩ := hgo i H g st _ hlt S tt
      refine .inr ⟨go, fun H => i + 1 ≤ ds.length ∧ ∃ g st acc ws, SR Γ Z Lt g st (L2.wipe σ vs) H ∧ Clean vs st ∧ GT Z g1 g ∧ (g.G D = none ∧ g.O D = some .tmp ∧ D ∉ g.M) ∧ H D = some (.lst ws) ∧ RDs Γ g acc ws ∧
        Go Γ W Z Lt σ ((lcT vs tg t e (ds.drop (i + 1)) acc st).bind fun ys s2 => .ok (.lst ys) s2) g fun d g' _ H' => ∀ a, OA Γ Z g' H' .tmp a d → Q (.ref a) H', fun H' ⟨z1, z2⟩ => ⟨ds.length - (i + 1), by omega, rfl, z1, z2⟩, fun x H' y => ?_⟩
      obtain ⟨g', d, ed, s', t', r, qt⟩ := step x H' y
      obtain ⟨u1, u2, u3⟩ := qt.st D _ eD
      have u4 : D ∉ g'.M := fun m => q3 (qt.m D _ eD m)
      have oa : OA Γ Z g' H' .tmp D (.lst acc) := ⟨u2.trans q1, d2, u3.trans q2, u4, _, u1, ra.up t'⟩
      have ec : ds.drop i = d :: ds.drop (i + 1) := by
        rw [List.drop_eq_getElem_cons hlt]
        rw [List.getElem?_eq_getElem hlt] at ed
        cases ed; rfl
      rw [ec] at k3
      simp only [lcT] at k3
      cases et : tg d st with
      | none => rw [et] at k3; exact k3.elim
      | some st2 =>
        rw [et] at k3
        refine hg d x _ H' _ (upd Z D (.lst ws)) Lt g' st st2 (s'.prot oa u1) (.inl r) et (fun σ2 hw s2 => ⟨(hw vs hv).trans wipe_wipe, upd Z D (.lst ws), Lt, g', st2, s2, ?_⟩) r
        have hw2 : L2.wipe σ2 vs = L2.wipe σ vs := (hw vs hv).trans wipe_wipe
        -- what follows a turn
        have next : ∀ {g5 : GM} {st5 : LS} {H5 : Hp}, SR Γ (upd Z D (.lst ws)) Lt g5 st5 σ2 H5 → GT (upd Z D (.lst ws)) g' g5 → SR Γ Z Lt g5 (wipeS vs st5) (L2.wipe σ vs) H5 ∧ GT Z g' g5 ∧ (g5.G D = none ∧ g5.O D = some .tmp ∧ D ∉ g5.M) ∧ H5 D = some (.lst ws) := fun {g5 st5 H5} s5 t5 => by
          obtain ⟨w1, w2, w3, w4⟩ := s5.unprot d2 lz
          obtain ⟨x1, x2⟩ := t5.unprot d2
          have w1' := w1.wipe vs
          rw [hw2] at w1'
          exact ⟨w1', x1, ⟨w3, x2.trans (u3.trans q2), w4⟩, w2⟩
        simp only at k3
        cases e1 : t st2 with
        | ok b st3 =>
          rw [e1] at k3
          simp only [nox_ok, bind_ok] at k3
          intro g3 H3 s3 t3
          cases b with
          | false =>
            obtain ⟨n1, n2, n3, n4⟩ := next s3 t3
            show if (false : Bool) = true then _ else _
            rw [if_neg Bool.false_ne_true]
            refine ⟨hlt, g3, _, acc, ws, n1, clean_wipe _ _, (tt.trans t').trans n2, n3, n4, (ra.up t').up n2, ?_⟩
            simp only [Bool.false_eq_true, if_false] at k3
            revert k3
            cases lcT vs tg t e (ds.drop (i + 1)) acc (wipeS vs st3) with
            | ok ys s2 => exact fun k3 g6 H6 s6 t6 => k3 g6 H6 s6 ((t'.trans n2).trans t6)
            | exc x s2 => exact fun k3 cls dd g6 H6 s6 t6 => k3 cls dd g6 H6 s6 ((t'.trans n2).trans t6)
            | bad => exact fun k3 => k3
          | true =>
            show if (true : Bool) = true then _ else _
            rw [if_pos rfl]
            simp only [if_true] at k3
            refine ⟨upd Z D (.lst ws), Lt, g3, st3, s3, ?_⟩
            cases e2 : e st3 with
            | ok y st4 =>
              rw [e2] at k3
              simp only [nox_ok, bind_ok] at k3
              intro g4 H4 s4 t4 v rv
              obtain ⟨n1, n2, n3, n4⟩ := next s4 (t3.trans t4)
              split at k3
              · rename_i hl
                refine ⟨ws, n4, by rw [← ra.length, sizeLine_eq]; exact hl, hlt, g4, _, acc ++ [y], ws ++ [v], n1.updT n3.1 d2 n3.2.1 n3.2.2 _, clean_wipe _ _, (tt.trans t').trans n2, n3, upd_same, ((ra.up t').up n2).append (RDs.cons rv RDs.nil), ?_⟩
                revert k3
                cases lcT vs tg t e (ds.drop (i + 1)) (acc ++ [y]) (wipeS vs st4) with
                | ok ys s2 => exact fun k3 g6 H6 s6 t6 => k3 g6 H6 s6 ((t'.trans n2).trans t6)
                | exc x s2 => exact fun k3 cls dd g6 H6 s6 t6 => k3 cls dd g6 H6 s6 ((t'.trans n2).trans t6)
                | bad => exact fun k3 => k3
              · exact k3.elim
            | exc x st4 => rw [e2] at k3; exact k3.elim
            | bad => rw [e2] at k3; exact k3.elim
        | exc x st3 => rw [e1] at k3; exact k3.elim
        | bad => rw [e1] at k3; exact k3.elim
    · have ei : i = ds.length := by omega
      subst ei
      refine .inl ⟨hst H g st _ S tt, ?_⟩
      rw [List.drop_length] at k3
      exact k3 g H (S.unwipe cl) (GT.refl _ _) D ⟨q1, d2, q2, q3, _, eD, ra⟩
theorem un_back {ob : Obj} {u : HO} {g' : GM} {d : D} (c : CRz Γ g' d (.frz ob u)) : CRz Γ g' d u := by
  rcases c with c | ⟨ob', u', e, c⟩
  · cases d <;> exact c.elim
  · cases e; exact .inl c
theorem Go.lockD {r : Res D} {u : HO} {ob : Obj} {Q : VK} (hm : ∀ r, Lt (.lck r) ≠ some a) (hz : Z a = some u) (h : Go Γ W Z Lt σ r.nox g fun d g' _ H' => ∀ b, OA Γ Z g' H' .tmp b d → Q (.ref b) H') :
    Go Γ W (upd Z a (.frz ob u)) Lt σ r g fun d g' _ H' => ∀ b, OA Γ (upd Z a (.frz ob u)) g' H' .tmp b d → H' a = some (.frz ob u) ∧ Q (.ref b) (upd H' a u) := by
  have zz : upd (upd Z a (.frz ob u)) a u = Z := by
    funext b
    by_cases c : b = a
    · subst c; rw [upd_same, hz]
    · rw [upd_ne c, upd_ne c]
  cases r with
  | ok d st' =>
    intro g' H' s t b x
    have s2 := s.chZ (u' := u) upd_same hm fun g d c => un_back c
    rw [zz] at s2
    obtain ⟨k1, k2, k3, k4, o, k5, k6⟩ := x
    have ne : b ≠ a := fun q => by subst q; rw [upd_same] at k2; cases k2
    rw [upd_ne ne] at k2
    exact ⟨s.sh.zh a _ upd_same, h g' _ s2 (t.chZ hz) b ⟨k1, k2, k3, k4, o, by rw [upd_ne ne]; exact k5, k6⟩⟩
  | exc x st' => exact h.elim
  | bad => exact h.elim
theorem Go.lockG {r : Res D} {u : HO} {ob : Obj} {Q : VK} (hG : g.G a = some u) (h : Go Γ W Z Lt σ r.nox g fun d g' _ H' => ∀ b, OA Γ Z g' H' .tmp b d → Q (.ref b) H') (hu : lk u = false) :
    Go Γ W Z Lt σ r (g.put a (.frz ob u)) fun d g' _ H' => ∀ b, OA Γ Z g' H' .tmp b d → H' a = some (.frz ob u) ∧ Q (.ref b) (upd H' a u) := by
  have at2 : ∀ {g2 : GM}, GT Z (g.put a (.frz ob u)) g2 → g2.G a = some (.frz ob u) := fun {g2} t => t.lo a ob u put_same
  have hr : ∀ w, lk w = false → (HO.frz ob u = w ∨ ∃ ob', HO.frz ob u = .frz ob' w) → (u = w ∨ ∃ ob', u = .frz ob' w) := fun w hw c => by
    rcases c with c | ⟨ob', c⟩
    · subst c; cases hw
    · cases c; exact .inl rfl
  cases r with
  | ok d st' =>
    intro g' H' s t b x
    have le : GLe g'.G (g'.put a u).G := fun b w hw r => by
      by_cases c : b = a
      · subst c
        rcases r with r | ⟨ob', r⟩
        · rw [at2 t] at r; cases r; cases hw
        · rw [at2 t] at r; cases r; exact .inl put_same
      · rcases r with r | ⟨ob', r⟩
        · exact .inl (by rw [put_ne c]; exact r)
        · exact .inr ⟨ob', by rw [put_ne c]; exact r⟩
    obtain ⟨k1, k2, k3, k4, o, k5, k6⟩ := x
    have ne : b ≠ a := fun q => by subst q; rw [at2 t] at k1; cases k1
    exact ⟨s.sh.gh a _ (at2 t), h _ _ (s.chG (at2 t) hr) (t.lockG hG hu) b ⟨by rw [put_ne ne]; exact k1, k2, k3, k4, o, by rw [upd_ne ne]; exact k5, k6.mono le ⟨[], by simp⟩⟩⟩
  | exc x st' => exact h.elim
  | bad => exact h.elim
theorem Go.noX {α : Type} {r : Res α} {k : α → GM → LS → Hp → Prop} (h : Go Γ W Z Lt σ r.nox g k) : Go Γ W Z Lt σ r g k := by
  cases r <;> first | exact h | exact h.elim
/-- [e for x in d if t], d a dict -/
def eLcK (vs : List Nat) (π : LS → Option (List (Key × D))) (tg : D → LS → Option LS) (t : E Bool) (e : E D) : E D := fun st => match π st with
  | some kvs => ((lcT vs tg t e (kvs.map fun p => kD p.1) [] (wipeS vs st)).bind fun ys s2 => .ok (.lst ys) s2).nox
  | none => .bad
theorem _root_.L2.PE.or {X : Cx} {s : Expr} {t u : TE} (h : PE X s t) (k : PE X s u) : PE X s (fun σ H Q => t σ H Q ∨ u σ H Q) := ⟨fun pins st σ H D I q => by
  rcases q with q | q
  · exact h.run pins st σ H D I q
  · exact k.run pins st σ H D I q⟩
structure PLt2 (Γ : Tab) (X : Cx) (e : Expr) (π : LS → Option (List (Key × D))) : Prop where
  pl : ∃ te, PE X e te ∧ ∀ Z Lt g st σ H kvs, SR Γ Z Lt g st σ H → π st = some kvs → ∃ a o, (Z a = some o ∨ g.G a = some o) ∧ CRz Γ g (.dic kvs) o ∧ ∀ Z' g' H' Q, SR Γ Z' Lt g' st σ H' → g'.M = g.M → GLe g.G g'.G → Q (.ref a) H' → te σ H' Q
theorem PLt.two {e : Expr} {π : LS → Option (List (Key × D))} (x : PLt Γ X e π) : PLt2 Γ X e π := by
  obtain ⟨te, h1, h2⟩ := x.pl
  refine ⟨te, h1, fun Z Lt g st σ H kvs s e => ?_⟩
  obtain ⟨a, o, h3, h4, h5⟩ := h2 Z Lt g st σ H kvs s e
  exact ⟨a, o, h3, h4, fun Z' g' H' Q s' m _ q => h5 Z' g' H' Q s' m q⟩
theorem lcK_T {vs : List Nat} {π : LS → Option (List (Key × D))} {tg : D → LS → Option LS} {t : E Bool} {e : E D} {gg : TG} {is : List Nat} {Q : VK} {te : TE} (hv : ∀ i ∈ is, i ∈ vs) (hg : TarOk Γ is tg gg)
    (h2 : ∀ Z Lt g st σ H kvs, SR Γ Z Lt g st σ H → π st = some kvs → ∃ a o, (Z a = some o ∨ g.G a = some o) ∧ CRz Γ g (.dic kvs) o ∧ ∀ Z' g' H' Q, SR Γ Z' Lt g' st σ H' → g'.M = g.M → GLe g.G g'.G → Q (.ref a) H' → te σ H' Q)
    (h : TF Γ W (eLcK vs π tg t e) σ H Q) : tLc (iKeys te) gg (TB Γ WN t) (T Γ WN e) vs σ H Q ∨ tLockE (tLc (iKeys te) gg (TB Γ WN t) (T Γ WN e) vs) σ H Q := by
  obtain ⟨Z, Lt, g, st, s, h⟩ := h
  unfold eLcK at h
  cases eπ : π st with
  | none => rw [eπ] at h; exact h.elim
  | some kvs =>
    rw [eπ] at h
    simp only at h
    obtain ⟨a, o, ha, hcr, hq⟩ := h2 Z Lt g st σ H kvs s eπ
    have go : ∀ Z' g' H' ob ws (Q' : VK), SR Γ Z' Lt g' st σ H' → g'.M = g.M → GLe g.G g'.G → H' a = some (.frz ob (.dK ws)) → RDk Γ g' kvs ws → (∀ g2 st2 σ2 H2, SR Γ Z' Lt g2 st2 σ2 H2 → GT Z' g' g2 → H2 a = some (.frz ob (.dK ws))) →
        (Go Γ W Z' Lt σ ((lcT vs tg t e (kvs.map fun p => kD p.1) [] (wipeS vs st)).bind fun ys s2 => .ok (.lst ys) s2) g' fun d g' _ H' => ∀ a, OA Γ Z' g' H' .tmp a d → Q' (.ref a) H') → tLc (iKeys te) gg (TB Γ WN t) (T Γ WN e) vs σ H' Q' := by
      intro Z' g' H' ob ws Q' s' m gl hl rk hst k
      refine hq Z' g' H' _ s' m gl ⟨a, ob, rfl, .inl ⟨ws, hl, ?_⟩⟩
      obtain ⟨j1, j2⟩ := keys_J (Lt := Lt) (Z := Z') (g0 := g') hst rk
      exact lc_core (W := W) hv hg s' k (Itk a ob ws) j1 j2
    obtain ⟨ws, rk, rfl | ⟨ob, rfl⟩⟩ := dic_lk hcr
    · rcases ha with hz | hG
      · refine .inr ⟨a, .dK ws, s.sh.zh a _ hz, trivial, fun od => ?_⟩
        have s1 := s.chZ (u' := .frz od (.dK ws)) hz (s.unmark hz rfl) fun g d c => by
          rcases c with c | ⟨ob', u', e', c⟩
          · exact .inr ⟨od, _, rfl, c⟩
          · cases e'
        exact go _ _ _ od ws _ s1 rfl (GLe.refl _) upd_same rk (fun g2 st2 σ2 H2 s2 _ => s2.sh.zh a _ upd_same) (Go.lockD (s.unmark hz rfl) hz h)
      · refine .inr ⟨a, .dK ws, s.sh.gh a _ hG, trivial, fun od => ?_⟩
        have s1 := s.chG (u' := .frz od (.dK ws)) hG fun w hw c => by
          rcases c with c | ⟨ob', c⟩
          · subst c; exact .inr ⟨od, rfl⟩
          · cases c
        have gl : GLe g.G (g.put a (.frz od (.dK ws))).G := ?_
        refine go _ _ _ od ws _ s1 rfl gl upd_same (RDk.mono gl ⟨[], by simp⟩ _ _ rk) (fun g2 st2 σ2 H2 s2 t2 => s2.sh.gh a _ (t2.lo a od _ put_same)) (Go.lockG hG h rfl)
        intro b w hw r
        by_cases c : b = a
        · subst c
          rcases r with r | ⟨ob', r⟩
          · rw [hG] at r; cases r; exact .inr ⟨od, put_same⟩
          · rw [hG] at r; cases r
        · rcases r with r | ⟨ob', r⟩
          · exact .inl (by rw [put_ne c]; exact r)
          · exact .inr ⟨ob', by rw [put_ne c]; exact r⟩
    · refine .inl ?_
      rcases ha with hz | hG
      · exact go _ _ _ ob ws _ s rfl (GLe.refl _) (s.sh.zh a _ hz) rk (fun g2 st2 σ2 H2 s2 _ => s2.sh.zh a _ hz) (Go.noX h)
      · exact go _ _ _ ob ws _ s rfl (GLe.refl _) (s.sh.gh a _ hG) rk (fun g2 st2 σ2 H2 s2 t2 => s2.sh.gh a _ (t2.lo a ob _ hG)) (Go.noX h)
theorem pf_lcK {elt tg iter : Expr} {ifs : List Expr} {scope : Scope} {is : List Nat} {π : LS → Option (List (Key × D))} {tgf : D → LS → Option LS} {t : E Bool} (own : List (Str × Nat)) (hc : X.calm = true) (hN : X.N.Nodup) (hi : PLt2 Γ X iter π) (ok : BlkOk X.N X.env.scope scope own)
    (hv : ∀ i ∈ is, i ∈ own.map (·.2))
    (hg : ∀ (s : Shared) (H : Hp) (C : Addr) (cl : List (Str × Addr)) (fp : List Addr), PTar Γ (X.blk s H scope (compEnvC scope cl C X.env) fp) tg is tgf) (ht : ∀ (s : Shared) (H : Hp) (C : Addr) (cl : List (Str × Addr)) (fp : List Addr), PTs Γ (X.blk s H scope (compEnvC scope cl C X.env) fp) ifs t)
    (he : ∀ (s : Shared) (H : Hp) (C : Addr) (cl : List (Str × Addr)) (fp : List Addr), PD Γ WN (X.blk s H scope (compEnvC scope cl C X.env) fp) elt f) (hs : ∀ x, foldedSetIterable iter X.env x = pure x := by intro _; rfl) :
    PF Γ W X (.ListComp elt [⟨tg, iter, ifs, 0⟩] scope pos) (eLcK (own.map (·.2)) π tgf t f) := by
  obtain ⟨te, h1, h2⟩ := hi.pl
  have base := pe_lc (pos := pos) hc hN (pi_keys (tg := tg) h1) ok (fun s H C cl fp => (hg s H C cl fp).can) (fun s H C cl fp => (ht s H C cl fp).pt) (fun s H C cl fp => (he s H C cl fp).pe) hs
  exact ⟨(base.or (pe_lock base)).csq fun σ H Q h => lcK_T hv gCan_ok h2 h⟩
theorem st_setLcFK {i : Nat} {y : Str} {py : Pos} {spos : Pos} {elt tg iter : Expr} {ifs : List Expr} {scope : Scope} {is : List Nat} {π : LS → Option (List (Key × D))} {tgf : D → LS → Option LS} {t : E Bool} (own : List (Str × Nat)) (hc : X.calm = true) (hN : X.N.Nodup) (hy : X.N[i]? = some y) (hyl : X.env.scope.names.lookup y = some .local)
    (hsw : swapsWith (.ListComp elt [⟨tg, iter, ifs, 0⟩] scope pos) (some (.Name y py)) spos.line X.env = pure true) (hi : PLt2 Γ X iter π) (ok : BlkOk X.N X.env.scope scope own)
    (hv : ∀ i ∈ is, i ∈ own.map (·.2))
    (hg : ∀ (s : Shared) (H : Hp) (C : Addr) (cl : List (Str × Addr)) (fp : List Addr), PTar Γ (X.blk s H scope (compEnvC scope cl C X.env) fp) tg is tgf) (ht : ∀ (s : Shared) (H : Hp) (C : Addr) (cl : List (Str × Addr)) (fp : List Addr), PTs Γ (X.blk s H scope (compEnvC scope cl C X.env) fp) ifs t)
    (he : ∀ (s : Shared) (H : Hp) (C : Addr) (cl : List (Str × Addr)) (fp : List Addr), PD Γ WN (X.blk s H scope (compEnvC scope cl C X.env) fp) elt f) (hs : ∀ x, foldedSetIterable iter X.env x = pure x := by intro _; rfl) :
    PSt Γ W X (.Assign [.Name y py] (.ListComp elt [⟨tg, iter, ifs, 0⟩] scope pos) spos) (sSetF i (eLcK (own.map (·.2)) π tgf t f)) := by
  obtain ⟨te, h1, h2⟩ := hi.pl
  have base := ps_setLc (pos := pos) hc hN hy hyl hsw (pi_keys (tg := tg) h1) ok (fun s H C cl fp => (hg s H C cl fp).can) (fun s H C cl fp => (ht s H C cl fp).pt) (fun s H C cl fp => (he s H C cl fp).pe) hs
  exact ⟨(base.or (ps_lock base)).csq fun D σ H h => lcK_T hv gCan_ok h2 (setF_T h)⟩
theorem st_setLcK {i : Nat} {y : Str} {py : Pos} {spos : Pos} {elt tg iter : Expr} {ifs : List Expr} {scope : Scope} {is : List Nat} {π : LS → Option (List (Key × D))} {tgf : D → LS → Option LS} {t : E Bool} (own : List (Str × Nat)) (hc : X.calm = true) (hN : X.N.Nodup) (hy : X.N[i]? = some y) (hyl : X.env.scope.names.lookup y = some .local)
    (hsw : swapsWith (.ListComp elt [⟨tg, iter, ifs, 0⟩] scope pos) (some (.Name y py)) spos.line X.env = pure true) (hi : PLt2 Γ X iter π) (ok : BlkOk X.N X.env.scope scope own)
    (hv : ∀ i ∈ is, i ∈ own.map (·.2))
    (hg : ∀ (s : Shared) (H : Hp) (C : Addr) (cl : List (Str × Addr)) (fp : List Addr), PTar Γ (X.blk s H scope (compEnvC scope cl C X.env) fp) tg is tgf) (ht : ∀ (s : Shared) (H : Hp) (C : Addr) (cl : List (Str × Addr)) (fp : List Addr), PTs Γ (X.blk s H scope (compEnvC scope cl C X.env) fp) ifs t)
    (he : ∀ (s : Shared) (H : Hp) (C : Addr) (cl : List (Str × Addr)) (fp : List Addr), PD Γ WN (X.blk s H scope (compEnvC scope cl C X.env) fp) elt f) (hs : ∀ x, foldedSetIterable iter X.env x = pure x := by intro _; rfl) :
    PSt Γ W X (.Assign [.Name y py] (.ListComp elt [⟨tg, iter, ifs, 0⟩] scope pos) spos) (sSet i (eLcK (own.map (·.2)) π tgf t f)) := by
  obtain ⟨te, h1, h2⟩ := hi.pl
  have base := ps_setLc (pos := pos) hc hN hy hyl hsw (pi_keys (tg := tg) h1) ok (fun s H C cl fp => (hg s H C cl fp).can) (fun s H C cl fp => (ht s H C cl fp).pt) (fun s H C cl fp => (he s H C cl fp).pe) hs
  exact ⟨(base.or (ps_lock base)).csq fun D σ H h => lcK_T hv gCan_ok h2 (T.of_TF (setV_T h))⟩
/-- a tuple's part that is a dict -/
def πT (i : Nat) (k : Int) : LS → Option (List (Key × D)) := fun st => match st.s[i]? with
  | some (some (.val (.tup ds))) => match atD ds k with
    | some (.dic kvs) => some kvs
    | _ => none
  | _ => none
theorem lt_tup (i : Nat) (k : Int) (hK : X.K = Γ.K) {x : Str} {xpos : Pos} {ek : Expr} (hk : PE X ek (tC (.int k)) := by exact pe_int) (hN : X.N[i]? = some x := by rfl) (hv : Vis X.env.scope x := by first | exact Or.inl rfl | exact Or.inr (Or.inl rfl) | exact Or.inr (Or.inr rfl)) (hd : (x == ("__debug__" : Str)) = false := by decide) (hcd : (x == ("__classdict__" : Str)) = false := by decide)
    (hs : PlainIx ek := by intro _ _; rfl) : PLt2 Γ X (.Subscript (.Name x xpos) ek pos) (πT i k) := by
  refine ⟨_, pe_ix ix_seq (pe_var hN hv hd hcd) hk hs, fun Z Lt g st σ H kvs s e => ?_⟩
  unfold πT at e
  split at e
  · rename_i ds e0
    split at e
    · rename_i kvs' ea
      cases e
      obtain ⟨v, e1, r⟩ := s.sv i _ e0
      have r0 : RD Γ g (.tup ds) v := r
      simp only [RD] at r0
      obtain ⟨b, vs, rfl, sq, rs⟩ := r0
      obtain ⟨u, e2, ru⟩ := rs.at ea
      obtain ⟨a, o, rfl, h1, h2⟩ := RD.dicG ru
      refine ⟨a, o, .inr h1, h2, fun Z' g' H' Q s' m gl q => ?_⟩
      exact ⟨_, e1, .inr (.inl ⟨b, vs, k, .ref a, rfl, rfl, by rw [hK]; exact sqT_le (gl.trans (GLe.sub s'.sh.gh)) sq, e2, q⟩)⟩
    · cases e
  · cases e
@[simp] theorem πT_s {i : Nat} {k : Int} {s : List (Option FV)} {h : List LO} : πT i k ⟨s, h⟩ = match s[i]? with
  | some (some (.val (.tup ds))) => match atD ds k with
    | some (.dic kvs) => some kvs
    | _ => none
  | _ => none := id rfl
@[simp] theorem eLcK_s {vs : List Nat} {π : LS → Option (List (Key × D))} {tg : D → LS → Option LS} {t : E Bool} {e : E D} : eLcK vs π tg t e st = match π st with
  | some kvs => ((lcT vs tg t e (kvs.map fun p => kD p.1) [] (wipeS vs st)).bind fun ys s2 => .ok (.lst ys) s2).nox
  | none => .bad := id rfl
end
end PL

/-! PyLite, part za: lists of pairs of whole numbers sorted. -/
namespace PLR
open PySem PySem.Spec PyProof.Rows L2
/-- x is the pair p -/
def IsPr (K : PySem.W.Frag) (H : Hp) (x : V) (p : Int × Int) : Prop := ∃ t, x = V.ref t ∧ SqT K H t [.int p.1, .int p.2]
inductive All2 {α β : Type} (R : α → β → Prop) : List α → List β → Prop where
  | nil : All2 R [] []
  | cons {a : α} {b : β} {as : List α} {bs : List β} : R a b → All2 R as bs → All2 R (a :: as) (b :: bs)
theorem All2.mem {α β : Type} {R : α → β → Prop} : ∀ {as : List α} {bs : List β}, All2 R as bs → ∀ a ∈ as, ∃ b ∈ bs, R a b
  | _, _, .cons r t, a, m => by
    rcases List.mem_cons.mp m with rfl | m
    · exact ⟨_, List.mem_cons_self, r⟩
    · obtain ⟨b, h1, h2⟩ := t.mem a m
      exact ⟨b, List.mem_cons_of_mem _ h1, h2⟩
theorem All2.map_eq {α β : Type} {R : α → β → Prop} {k : α → β} : ∀ {as : List α} {bs : List β}, All2 R as bs → (∀ a b, R a b → k a = b) → as.map k = bs
  | _, _, .nil, _ => rfl
  | _, _, .cons r t, h => by rw [List.map_cons, h _ _ r, t.map_eq h]
theorem All2.of_map {α β : Type} {R : α → β → Prop} {k : α → β} : ∀ {as : List α}, (∀ a ∈ as, R a (k a)) → All2 R as (as.map k)
  | [], _ => .nil
  | a :: as, h => .cons (h a List.mem_cons_self) (All2.of_map fun b m => h b (List.mem_cons_of_mem _ m))
/-- sorted(xs), xs a list of pairs of whole numbers -/
theorem cr_sortedPT {X : Cx} : CallR X (.builtin "sorted") (fun vs H Q => ∃ (a : Addr) (xs : List V) (ps : List (Int × Int)), vs = [V.ref a] ∧ SqL X.K H a xs ∧ All2 (IsPr X.K H) xs ps ∧
    ∀ ys qs p, All2 (IsPr X.K H) ys qs → (∀ y ∈ ys, y ∈ xs) → (∀ x p q, IsPr X.K H x p → IsPr X.K H x q → p = q) → qs.Perm ps → qs.Pairwise (fun x y => SrtO.lexB y x = false) → H p = none → Q (.ref p) (upd H p (.lst ys))) := by
  classical
  intro pins s σ H vs us Q I r h
  obtain ⟨a, xs, ps, rfl, hs, hx, q⟩ := h
  obtain ⟨its, rv, hl, hz⟩ := I.list hs
  obtain ⟨u, rfl, ru⟩ := vals1 r
  obtain rfl : u = Value.ref a := ru
  let k : V → Int × Int := fun x => if h : ∃ p, IsPr X.K H x p then h.choose else (0, 0)
  have hk : ∀ x p, IsPr X.K H x p → k x = p := fun x p hp => by
    have he : ∃ p, IsPr X.K H x p := ⟨p, hp⟩
    have hc : IsPr X.K H x (k x) := by
      show IsPr X.K H x (if h : ∃ p, IsPr X.K H x p then h.choose else (0, 0))
      rw [dif_pos he]; exact he.choose_spec
    obtain ⟨t, e1, h1⟩ := hc
    obtain ⟨t', e2, h2⟩ := hp
    rw [e1] at e2; cases e2
    have e := I.tuple_inj h1 h2
    injection e with e3 e4
    injection e4 with e5 _
    injection e3 with e3
    injection e5 with e5
    exact Prod.ext e3 e5
  have hkx : ∀ x ∈ xs, IsPr X.K H x (k x) := fun x m => by
    obtain ⟨p, _, hp⟩ := hx.mem x m
    rw [hk x p hp]; exact hp
  have eps := hx.map_eq hk
  obtain ⟨e1, e2⟩ := refs_back rv fun x m => by
    obtain ⟨t, e, _⟩ := hkx x m
    exact ⟨t, e⟩
  refine SrtO.sorted_pairsO (k := fun u => k (backV u)) hl.isList (by rw [← rv.length]; exact hz) (fun v hv => ?_) fun h' d out h1 h2 kp hd hn => ?_
  · obtain ⟨t, rfl⟩ := e2 v hv
    have hm : V.ref t ∈ xs := by rw [e1]; exact List.mem_map.mpr ⟨_, hv, rfl⟩
    obtain ⟨t', e, ht⟩ := hkx _ hm
    cases e
    obtain ⟨its2, r2, ⟨o, ho, hc, n, hd⟩, _⟩ := I.tuple ht
    obtain ⟨u1, u2, rfl, ri, rj⟩ := vals2 r2
    obtain ⟨t1, rfl⟩ := ri
    obtain ⟨t2, rfl⟩ := rj
    exact ⟨t, o, t1, t2, n, rfl, ho, hc, hd⟩
  · have h3 : ∀ u ∈ out, ∃ a, u = Value.ref a := fun u hu => e2 u (h2.perm.mem_iff.mp hu)
    obtain ⟨n, hn⟩ := hn
    have hb : SrtO.Stb (ltP k) (out.map backV) xs := by
      rw [e1]
      exact SrtO.Stb.map (ltP_swo k) backV h2
    refine ⟨.ref d, upd H d (.lst (out.map backV)), I.laid (t' := s.toks) kp hd ⟨?_, out, n, vals_back h3, hn⟩, rfl, q _ ((out.map backV).map k) d (All2.of_map fun y m => hkx y (hb.perm.mem_iff.mp m)) (fun y m => hb.perm.mem_iff.mp m) (fun x p q h1 h2 => (hk x p h1).symm.trans (hk x q h2)) ?_ ?_ (I.hok.fresh hd)⟩
    · rw [hb.len]; exact hz
    · rw [← eps]; exact hb.perm.map k
    · have : SrtO.Srtd (ltP k) (out.map backV) := SrtO.srtd_map h1
      rw [List.pairwise_map]
      exact this
end PLR
namespace PL
open PySem PySem.Spec PyProof.Rows L2
section
variable {Γ : Tab} {W : WX} {Z Z' : Hp} {Lt Lt' : Lend} {g g' : GM} {st st' : LS} {σ σ' : L2.St} {H H' : Hp} {h h' : List LO} {a p : Addr} {o : HO} {d : D} {v : V} {X : Cx} {e e1 e2 e3 e4 : Expr} {es : List Expr} {f k l j : E D} {pos pos2 ppos apos tpos mpos : Pos} {stm : Stmt} {sts : List Stmt} {f1 f2 : S} {D0 : Ends}
def pD (p : Int × Int) : D := .tup [.int p.1, .int p.2]
def pairsD : List D → Option (List (Int × Int))
  | [] => some []
  | .tup [.int i, .int j] :: ds => (pairsD ds).map ((i, j) :: ·)
  | _ => none
theorem pairsD_map : ∀ ps : List (Int × Int), pairsD (ps.map pD) = some ps
  | [] => rfl
  | (i, j) :: ps => by rw [List.map_cons, pD, pairsD, pairsD_map ps]; rfl
theorem pairsD_eq : ∀ {ds : List D} {ps : List (Int × Int)}, pairsD ds = some ps → ds = ps.map pD := by
  intro ds
  induction ds with
  | nil => intro ps e; cases e; rfl
  | cons d ds ih =>
    intro ps e
    unfold pairsD at e
    split at e
    · rename_i heq; cases heq
    · rename_i i j ds' heq
      cases heq
      cases q : pairsD ds with
      | none => rw [q] at e; cases e
      | some qs => rw [q] at e; cases e; rw [List.map_cons, ← ih q]; rfl
    · cases e
/-- pairs by their first, then by their second -/
def lexLe (p q : Int × Int) : Bool := decide (p.1 < q.1 ∨ (p.1 = q.1 ∧ p.2 ≤ q.2))
def srtP (ps : List (Int × Int)) : List (Int × Int) := ps.mergeSort lexLe
theorem srtP_perm (ps : List (Int × Int)) : (srtP ps).Perm ps := List.mergeSort_perm _ _
theorem srtP_sorted (ps : List (Int × Int)) : (srtP ps).Pairwise (fun p q => p.1 < q.1 ∨ (p.1 = q.1 ∧ p.2 ≤ q.2)) := by
  have := List.pairwise_mergeSort (le := lexLe) (by intro a b c; simp [lexLe]; omega) (by intro a b; simp [lexLe]; omega) ps
  exact this.imp fun {a b} h => of_decide_eq_true h
theorem srtP_unique {ps qs : List (Int × Int)} (p : qs.Perm ps) (q : qs.Pairwise (fun p q => p.1 < q.1 ∨ (p.1 = q.1 ∧ p.2 ≤ q.2))) : qs = srtP ps :=
  List.Perm.eq_of_pairwise (fun a b _ _ h1 h2 => Prod.ext (by omega) (by omega)) q (srtP_sorted ps) (p.trans (srtP_perm ps).symm)
theorem RDs.prs (s : SR Γ Z Lt g st σ H) : ∀ {ps : List (Int × Int)} {vs : List V}, RDs Γ g (ps.map pD) vs → PLR.All2 (PLR.IsPr Γ.K H) vs ps
  | [], vs, r => by simp only [List.map_nil, RDs] at r; subst r; exact .nil
  | (i, j) :: ps, vs, r => by
    simp only [List.map_cons, RDs] at r
    obtain ⟨v, q, rfl, r1, r2⟩ := r
    simp only [pD, RD] at r1
    obtain ⟨a, ws, rfl, sq, rs⟩ := r1
    simp only [RDs, RD] at rs
    obtain ⟨_, _, rfl, rfl, _, _, rfl, rfl, rfl⟩ := rs
    exact .cons ⟨a, rfl, sqT_le (GLe.sub s.sh.gh) sq⟩ (RDs.prs s r2)
/-- what the sorted list holds is what it held -/
theorem RDs.perm_prs {ps qs : List (Int × Int)} {xs ys : List V} (s : SR Γ Z Lt g st σ H) (rs : RDs Γ g (ps.map pD) xs) (hy : ∀ y ∈ ys, y ∈ xs) (al : PLR.All2 (PLR.IsPr Γ.K H) ys qs)
    (inj : ∀ x p q, PLR.IsPr Γ.K H x p → PLR.IsPr Γ.K H x q → p = q) : RDs Γ g (qs.map pD) ys := by
  have get : ∀ {ps : List (Int × Int)} {xs : List V}, RDs Γ g (ps.map pD) xs → ∀ y ∈ xs, ∃ p, RD Γ g (pD p) y ∧ PLR.IsPr Γ.K H y p := by
    intro ps
    induction ps with
    | nil => intro xs r y m; simp only [List.map_nil, RDs] at r; subst r; simp at m
    | cons p ps ih =>
      intro xs r y m
      have al := RDs.prs s r
      simp only [List.map_cons, RDs] at r
      obtain ⟨v, q, rfl, r1, r2⟩ := r
      cases al with
      | cons h1 _ =>
        rcases List.mem_cons.mp m with rfl | m
        · exact ⟨p, r1, h1⟩
        · exact ih r2 y m
  induction al with
  | nil => exact RDs.nil
  | cons h1 t ih =>
    obtain ⟨p, hp, hq⟩ := get rs _ (hy _ List.mem_cons_self)
    rw [inj _ _ _ hq h1] at hp
    exact RDs.cons hp (ih fun y m => hy y (List.mem_cons_of_mem _ m))
def mSortedP : Sem1 := fun x st => match x with
  | .lst ds => match pairsD ds with
    | some ps => .ok (.lst ((srtP ps).map pD)) st
    | none => .bad
  | _ => .bad
theorem pf_sortedP (hK : X.K = Γ.K) (hg : Gl X "sorted") (hn : X.mg "sorted" = none) (y : PC Γ W X e f)
    (he : starEach [e] X.env = (false, eval e X.env) :: starEach [] X.env := by rfl) (hpl : (backTo pos (starEach [] X.env)).any (·.1) = false := by rfl) : PF Γ W X (.Call (.Name "sorted" ppos) [e] [] pos) (eUn mSortedP f) := by
  refine pf_b1 PLR.cr_sortedPT ?_ hg hn (by decide +kernel) y (by decide) (by decide) he hpl
  intro Z Lt g st σ H x v Q s rx h
  unfold mSortedP at h
  split at h
  · split at h
    · rename_i ds ps e
      rw [pairsD_eq e] at rx
      obtain ⟨a, vs, rfl, q, r⟩ := rx.lst s
      have al := RDs.prs s r
      rw [← hK] at q al
      refine ⟨a, vs, ps, rfl, q, al, fun ys qs p h1 hm inj h2 h3 h4 => ?_⟩
      rw [hK] at h1 inj
      have rq := RDs.perm_prs s r hm h1 inj
      rw [srtP_unique h2 (h3.imp fun {a b} z => by
        have := SrtO.lexB_no.mp z
        omega)] at rq
      exact retF s rq h p h4
    · exact h.elim
  · exact h.elim
@[simp] theorem mSortedP_s (ds : List D) : mSortedP (.lst ds) st = match pairsD ds with
    | some ps => .ok (.lst ((srtP ps).map pD)) st
    | none => .bad := id rfl
end
end PL

/-! PyLite, part zb: lists and dicts that several know (cells). -/
namespace PL
open PySem PySem.Spec PyProof.Rows L2
section
variable {Γ : Tab} {W : WX} {Z Z' : Hp} {Lt Lt' : Lend} {g g' : GM} {st st' : LS} {σ σ' : L2.St} {H H' : Hp} {h h' : List LO} {a p : Addr} {o : HO} {d : D} {v : V} {X : Cx} {e e1 e2 e3 e4 : Expr} {es : List Expr} {f k l j : E D} {pos pos2 ppos apos tpos mpos : Pos} {stm : Stmt} {sts : List Stmt} {f1 f2 : S} {D0 : Ends}
def LS.cell (st : LS) (r : Nat) : Option D := match st.h[r]? with
  | some (.cell d) => some d
  | _ => none
def LS.cellR (st : LS) (r : Nat) : Option D := match st.h[r]? with
  | some (.cell d) => some d
  | some (.lck d) => some d
  | _ => none
def LS.setC (st : LS) (r : Nat) (d : D) : LS := { st with h := st.h.set r (.cell d) }
theorem cell_eq {r : Nat} (e : st.cell r = some d) : st.h[r]? = some (.cell d) := by
  unfold LS.cell at e
  split at e
  · cases e; assumption
  · cases e
theorem SR.cellV {r : Nat} (s : SR Γ Z Lt g st σ H) (hr : g.M[r]? = some a) (e : st.cellR r = some d) : ∃ o, H a = some o ∧ CRz Γ g d o := by
  unfold LS.cellR at e
  split at e
  · rename_i d' e1
    cases e
    obtain ⟨o, h1, h2⟩ := s.sh.ob r _ a e1 hr
    exact ⟨o, h1, .inl h2⟩
  · rename_i d' e1
    cases e
    obtain ⟨_, ob, u, h1, _, h2⟩ := s.sh.ob r _ a e1 hr
    exact ⟨_, h1, .inr ⟨ob, u, rfl, h2⟩⟩
  · cases e
theorem SR.dicV {r : Nat} {kvs : List (Key × D)} (s : SR Γ Z Lt g st σ H) (hr : g.M[r]? = some a) (e : st.cellR r = some (.dic kvs)) : ∃ ws, Rd H a (.dK ws) ∧ RDk Γ g kvs ws := by
  obtain ⟨o, h1, h2⟩ := s.cellV hr e
  obtain ⟨ws, rk, rfl | ⟨ob, rfl⟩⟩ := dic_lk h2
  · exact ⟨ws, .inl h1, rk⟩
  · exact ⟨ws, .inr ⟨ob, h1⟩, rk⟩
theorem SR.cellA {r : Nat} (s : SR Γ Z Lt g st σ H) (hr : g.M[r]? = some a) (e : st.cell r = some d) : ∃ o, H a = some o ∧ CR Γ g d o ∧ ∀ d' o', CR Γ g d' o' → SR Γ Z Lt g (st.setC r d') σ (upd H a o') := by
  have e := cell_eq e
  obtain ⟨o, h1, h2⟩ := s.sh.ob r _ a e hr
  have am := List.mem_of_getElem? hr
  obtain ⟨m1, _, m3⟩ := s.sh.mf a am
  have m2 := s.sh.zn am h1 h2.nolk
  refine ⟨o, h1, h2, fun d' o' c => ?_⟩
  have fv : ∀ (q : Path) (x : FV) (v : V), FVR Γ Z Lt g H q x v → FVR Γ Z Lt g (upd H a o') q x v := by
    intro q x v f
    cases x with
    | val d => exact f
    | own d =>
      obtain ⟨b, eb, k1, k2, k3, k4, o, k5, k6⟩ := f
      have ne : b ≠ a := fun q => by subst q; rw [m3] at k3; cases k3
      exact ⟨b, eb, k1, k2, k3, k4, o, by rw [upd_ne ne]; exact k5, k6⟩
    | lent d => exact f
  have fr : ∀ {r : Nat} {C : Addr} {fs : List (Nat × FV)} {ws : List (Str × V)}, FR Γ Z Lt g H r C fs ws → FR Γ Z Lt g (upd H a o') r C fs ws := fun f => FR.mapg (fun i y v => fv _ y v) f
  refine ⟨⟨fun b u e => ?_, fun b u e => ?_, s.sh.gz, by simpa [LS.setC] using s.sh.ml, s.sh.mn, s.sh.mf, fun i lo b e1 e2 => ?_, s.sh.nd, s.sh.lz⟩, s.sl, fun i x ei => ?_⟩
  · rw [upd_ne (ne_of_none e m1)]; exact s.sh.gh b u e
  · rw [upd_ne (ne_of_none e m2)]; exact s.sh.zh b u e
  · have hl : r < st.h.length := (List.getElem?_eq_some_iff.mp e).1
    by_cases c1 : i = r
    · subst c1
      rw [hr] at e2; cases e2
      have e1 : (st.h.set i (.cell d'))[i]? = some lo := e1
      rw [List.getElem?_set_self hl] at e1
      cases e1
      exact ⟨o', upd_same, c⟩
    · have e1 : (st.h.set r (.cell d'))[i]? = some lo := e1
      rw [List.getElem?_set_ne (Ne.symm c1)] at e1
      have ne : b ≠ a := fun q => by
        subst q
        obtain ⟨i1, i2⟩ := List.getElem?_eq_some_iff.mp e2
        obtain ⟨r1, r2⟩ := List.getElem?_eq_some_iff.mp hr
        exact c1 ((List.getElem_inj s.sh.mn).mp (i2.trans r2.symm))
      have := s.sh.ob i lo b e1 e2
      cases lo with
      | ins c fs =>
        obtain ⟨C, dx, ws, q1, q2, q3, q4⟩ := this
        exact ⟨C, dx, ws, q1, q2, by rw [upd_ne ne]; exact q3, fr q4⟩
      | cell d => obtain ⟨o, q1, q2⟩ := this; exact ⟨o, by rw [upd_ne ne]; exact q1, q2⟩
      | lck d => obtain ⟨l, ob, u, q1, q2, q3⟩ := this; exact ⟨l, ob, u, by rw [upd_ne ne]; exact q1, q2, q3⟩
  · obtain ⟨w, e1, f⟩ := s.sv i x ei
    exact ⟨w, e1, fv _ _ _ f⟩
/-- a new one -/
theorem SR.newC (s : SR Γ Z Lt g st σ H) (x : OA Γ Z g H .tmp a d) : ∃ g', SR Γ Z Lt g' ⟨st.s, st.h ++ [.cell d]⟩ σ H ∧ GT Z g g' ∧ g'.M[st.h.length]? = some a := by
  obtain ⟨h1, h2, h3, h4, o, h5, h6⟩ := x
  have nz : ∀ b u, Z b = some u → b ≠ a := fun b u z q => by rw [q, h2] at z; cases z
  let g2 : GM := ⟨g.G, g.M ++ [a], fun b => if b = a then none else g.O b⟩
  have o2 : ∀ b, b ≠ a → g2.O b = g.O b := fun b ne => if_neg ne
  have gt : GT Z g g2 := ⟨GLe.refl _, ⟨[a], rfl⟩, fun b u z => o2 b (nz b u z), fun _ _ _ h => h⟩
  have kp : Kp Z g g2 H H fun p => p ≠ .tmp := ⟨gt, fun b p u hp k1 k2 k3 k4 k5 => by
    have ne : b ≠ a := fun q => by subst q; rw [h3] at k3; cases k3; exact hp rfl
    exact ⟨k1, (o2 b ne).trans k3, fun m => by rcases List.mem_append.mp m with m | m; exact k4 m; exact ne (by simpa using m), k5⟩⟩
  refine ⟨g2, ⟨⟨s.sh.gh, s.sh.zh, s.sh.gz, ?_, ?_, fun b m => ?_, fun r lo b e1 e2 => ?_, s.sh.nd, s.sh.lz⟩, s.sl, fun i y ei => ?_⟩, gt, ?_⟩
  · show (g.M ++ [a]).length = (st.h ++ [LO.cell d]).length
    simp [s.sh.ml]
  · show (g.M ++ [a]).Nodup
    rw [List.nodup_append]
    exact ⟨s.sh.mn, by simp, fun b mb c mc e => by simp at mc; subst mc; exact h4 (e ▸ mb)⟩
  · rcases List.mem_append.mp (show b ∈ g.M ++ [a] from m) with m | m
    · obtain ⟨q1, q2, q3⟩ := s.sh.mf b m
      have ne : b ≠ a := fun q => h4 (q ▸ m)
      exact ⟨q1, q2, (o2 b ne).trans q3⟩
    · simp at m; subst m
      exact ⟨h1, fun o e => (by rw [h2] at e; cases e), if_pos rfl⟩
  · have e1 : (st.h ++ [LO.cell d])[r]? = some lo := e1
    have e2 : (g.M ++ [a])[r]? = some b := e2
    by_cases c : r < st.h.length
    · rw [List.getElem?_append_left c] at e1
      rw [List.getElem?_append_left (by rw [s.sh.ml]; exact c)] at e2
      exact (s.sh.ob r lo b e1 e2).keep kp (fun f => by simp) fun o e => e
    · rw [List.getElem?_append_right (by omega)] at e1
      rw [List.getElem?_append_right (by rw [s.sh.ml]; omega)] at e2
      rw [s.sh.ml] at e2
      cases q : r - st.h.length with
      | zero =>
        rw [q] at e1 e2
        simp at e1 e2
        subst e1 e2
        exact ⟨o, h5, h6.mono gt.le gt.mp⟩
      | succ n => rw [q] at e1; simp at e1
  · obtain ⟨w, e1, f⟩ := s.sv i y ei
    exact ⟨w, e1, f.keep kp (by simp)⟩
  · show (g.M ++ [a])[st.h.length]? = some a
    rw [← s.sh.ml]; simp
/-- a fresh list or dict that may be known to several -/
def eNewC (f : E D) : E D := fun st => (f st).bind fun d s1 => .ok (.obj s1.h.length) ⟨s1.s, s1.h ++ [.cell d]⟩
theorem pd_newC (x : PF Γ W X e f) : PD Γ W X e (eNewC f) := ⟨x.pe.csq fun σ H Q ⟨Z, Lt, g, st, s, h⟩ => ⟨Z, Lt, g, st, s, (Go.bind h).imp fun d g1 st1 H1 s1 t1 k1 a x => by
  obtain ⟨g2, s2, t2, m⟩ := s1.newC x
  refine k1 g1 H1 s1 (GT.refl _ _) g2 H1 s2 t2 _ ?_
  simp only [RD]
  exact ⟨a, rfl, m⟩⟩⟩
@[simp] theorem eNewC_s : eNewC f st = (f st).bind fun d s1 => .ok (.obj s1.h.length) ⟨s1.s, s1.h ++ [.cell d]⟩ := id rfl

/-! ### the content -/
def LS.dr (st : LS) : D → D
  | .obj r => (st.cellR r).getD (.obj r)
  | d => d
theorem CV.dr (s : SR Γ Z Lt g st σ H) (c : CV Γ g H d v) : CV Γ g H (st.dr d) v := by
  unfold LS.dr
  split
  · rename_i r
    cases e : st.cellR r with
    | none => exact c
    | some d' =>
      obtain ⟨a, rfl, hr⟩ := c.obj
      obtain ⟨o, h1, h2⟩ := s.cellV hr e
      exact .inr ⟨a, o, rfl, h1, h2⟩
  · exact c
def eDr (f : E D) : E D := fun st => (f st).bind fun d s1 => .ok (s1.dr d) s1
theorem pc_dr (x : PC Γ W X e f) : PC Γ W X e (eDr f) := ⟨x.pe.csq fun σ H Q ⟨Z, Lt, g, st, s, h⟩ => ⟨Z, Lt, g, st, s, (Go.bind h).imp fun d g1 st1 H1 s1 t1 k1 v r => k1 g1 H1 s1 (GT.refl _ _) g1 H1 s1 (GT.refl _ _) v (CV.dr s1 r)⟩⟩
def Sem2.dr (m : Sem2) : Sem2 := fun x y st => m (st.dr x) (st.dr y) st
theorem Holds2.dr {r : R2} {m : Sem2} (h : Holds2 Γ W X r m) : Holds2 Γ W X r (Sem2.dr m) := fun Z Lt g st σ H x y v w Q s rx ry k => h Z Lt g st σ H _ _ v w Q s (CV.dr s rx) (CV.dr s ry) k
theorem Holds2F.dr {r : R2} {m : Sem2} (h : Holds2F Γ W X r m) : Holds2F Γ W X r (Sem2.dr m) := fun Z Lt g st σ H x y v w Q s rx ry k => h Z Lt g st σ H _ _ v w Q s (CV.dr s rx) (CV.dr s ry) k
@[simp] theorem cell_s (s : List (Option FV)) (h : List LO) (r : Nat) : LS.cell ⟨s, h⟩ r = match h[r]? with
  | some (.cell d) => some d
  | _ => none := id rfl
@[simp] theorem cellR_s (s : List (Option FV)) (h : List LO) (r : Nat) : LS.cellR ⟨s, h⟩ r = match h[r]? with
  | some (.cell d) => some d
  | some (.lck d) => some d
  | _ => none := id rfl
@[simp] theorem setC_s (s : List (Option FV)) (h : List LO) (r : Nat) (d : D) : LS.setC ⟨s, h⟩ r d = ⟨s, h.set r (.cell d)⟩ := id rfl
@[simp] theorem dr_obj (r : Nat) : st.dr (.obj r) = (st.cellR r).getD (.obj r) := id rfl
@[simp] theorem dr_int (i : Int) : st.dr (.int i) = .int i := id rfl
@[simp] theorem dr_str (i : Str) : st.dr (.str i) = .str i := id rfl
@[simp] theorem dr_lst (i : List D) : st.dr (.lst i) = .lst i := id rfl
@[simp] theorem dr_tup (i : List D) : st.dr (.tup i) = .tup i := id rfl
@[simp] theorem dr_dic (i : List (Key × D)) : st.dr (.dic i) = .dic i := id rfl
@[simp] theorem dr_non : st.dr .non = .non := id rfl
@[simp] theorem dr_bl (b : Bool) : st.dr (.bl b) = .bl b := id rfl
@[simp] theorem eDr_s : eDr f st = (f st).bind fun d s1 => .ok (s1.dr d) s1 := id rfl
@[simp] theorem Sem2_dr_s {m : Sem2} {x y : D} : Sem2.dr m x y st = m (st.dr x) (st.dr y) st := id rfl
/-! ### readings -/
theorem pd_ixC (hK : X.K = Γ.K) (x : PV Γ W X e1 f) (y : PV Γ W X e2 k) (hs : PlainIx e2 := by intro _ _; rfl) : PD Γ W X (.Subscript e1 e2 pos) (eBin (Sem2.dr mIx) f k) :=
  ⟨(pe_ix ix_seq x.pe y.pe hs).csq fun σ H Q h => two (holds_ix hK).dr h⟩
theorem holds_dget : Holds2 Γ W X (fun x y H Q => ∃ a v, x = .ref a ∧ DGet H a y (some v) ∧ Q v H) mDGet := by
  intro Z Lt g st σ H x y v w Q s rx ry h
  unfold mDGet at h
  split at h
  · rename_i kvs k' ek
    split at h
    · rename_i d ed
      obtain ⟨a, ws, rfl, ha, r⟩ := rx.dic s
      rw [ry.key ek]
      rcases r.val (k := k') with ⟨d', v', q1, q2, q3⟩ | ⟨q1, _⟩
      · rw [ed] at q1; cases q1
        exact ⟨a, v', rfl, .inl ⟨ws, k', ha, rfl, q2.symm⟩, h g H s (GT.refl _ _) _ q3⟩
      · rw [ed] at q1; cases q1
    · exact h.elim
  · exact h.elim
theorem pd_dgetC (hu : X.A.units + 64 < cLine) (x : PV Γ W X e1 f) (y : PV Γ W X e2 k) (hs : NoSl e2 := by intro _ _; rfl) : PD Γ W X (.Subscript e1 e2 pos) (eBin (Sem2.dr mDGet) f k) :=
  ⟨(pe_dget (by omega) x.pe y.pe hs).csq fun σ H Q h => two (X := X) (holds_dget (X := X)).dr h⟩
theorem pd_dinC (hu : X.A.units + 64 < cLine) (y : PV Γ W X e1 f) (x : PV Γ W X e2 k) (hb : behindInMarks .In e2 = false := by first | exact nobehind _ (by decide) (by decide) | rfl) : PD Γ W X (.Compare e1 [.In] [e2] pos) (eBin (Sem2.dr (mDIn false)) f k) :=
  ⟨(pe_cmp (pc_din (by omega) y.pe x.pe) hb).csq fun σ H Q h => two (X := X) (holds_din (X := X) (q := fun b => b) (by decide)).dr h⟩
theorem pb_dinC (hu : X.A.units + 64 < cLine) (y : PV Γ W X e1 f) (x : PV Γ W X e2 k) (hb : behindInMarks .In e2 = false := by first | exact nobehind _ (by decide) (by decide) | rfl) : PB Γ W X (.Compare e1 [.In] [e2] pos) (tst (eBin (Sem2.dr (mDIn false)) f k)) :=
  ⟨(pt_cmp (pc_din (by omega) y.pe x.pe) hb).csq fun σ H Q h => two (X := X) (holds_din (X := X) (q := fun b => b) (by decide)).dr (tst_T h)⟩
theorem pd_dninC (hu : X.A.units + 64 < cLine) (y : PV Γ W X e1 f) (x : PV Γ W X e2 k) (hb : behindInMarks .NotIn e2 = false := by first | exact nobehind _ (by decide) (by decide) | rfl) : PD Γ W X (.Compare e1 [.NotIn] [e2] pos) (eBin (Sem2.dr (mDIn true)) f k) :=
  ⟨(pe_cmp (pc_dnotin (by omega) y.pe x.pe) hb).csq fun σ H Q h => two (X := X) (holds_din (X := X) (q := fun b => !b) (by decide)).dr h⟩
theorem pb_dninC (hu : X.A.units + 64 < cLine) (y : PV Γ W X e1 f) (x : PV Γ W X e2 k) (hb : behindInMarks .NotIn e2 = false := by first | exact nobehind _ (by decide) (by decide) | rfl) : PB Γ W X (.Compare e1 [.NotIn] [e2] pos) (tst (eBin (Sem2.dr (mDIn true)) f k)) :=
  ⟨(pt_cmp (pc_dnotin (by omega) y.pe x.pe) hb).csq fun σ H Q h => two (X := X) (holds_din (X := X) (q := fun b => !b) (by decide)).dr (tst_T h)⟩
theorem pd_addC (hK : X.K = Γ.K) (x : PV Γ W X e1 f) (y : PV Γ W X e2 k) : PD Γ W X (.BinOp e1 .Add e2 pos) (eBin (Sem2.dr mAdd) f k) := by
  refine pd_bin ((op_add.or op_add_str).or op_catL) (Holds2.dr ?_) x y
  refine Holds2.or (m := mAdd2) (Holds2.or holds_int0 holds_str fun x y st => ?_) (holds_cat hK).toV fun x y st => ?_
  · unfold mAdd2 mInt0 mStr
    split <;> first | exact .inl rfl | exact .inr rfl | (left; split <;> simp_all)
  · unfold mAdd mAdd2 mCat
    split <;> first | exact .inl rfl | exact .inr rfl | (left; split <;> simp_all)
theorem pf_catC (hK : X.K = Γ.K) (x : PV Γ W X e1 f) (y : PV Γ W X e2 k) : PF Γ W X (.BinOp e1 .Add e2 pos) (eBin (Sem2.dr mCat) f k) := pf_bin op_catL (holds_cat hK).dr x y
def eSlcC (f : E D) (lo hi : E (Option Int)) : E D := fun st => (f st).bind fun x s1 => (lo s1).bind fun i s2 => (hi s2).bind fun j s3 => match s3.dr x with
  | .lst ds => .ok (.lst (cutD ds i j)) s3
  | _ => .bad
theorem pf_slcC {lo hi : Option Expr} {tl th : E (Option Int)} {p2 : Pos} (hK : X.K = Γ.K) (x : PV Γ W X e f) (y : PO Γ W X lo tl) (z : PO Γ W X hi th) : PF Γ W X (.Subscript e (.Slice lo hi none p2) pos) (eSlcC f tl th) :=
  ⟨(pe_slice sl_list x.pe y.po z.po).csq fun σ H Q ⟨Z, Lt, g, st, s, h⟩ => ⟨Z, Lt, g, st, s, h.bind.imp fun d g1 st1 H1 s1 t1 k1 v r =>
    ⟨Z, Lt, g1, st1, s1, (k1 g1 H1 s1 (GT.refl _ _)).bind.imp fun i g2 st2 H2 s2 t2 k2 =>
      ⟨Z, Lt, g2, st2, s2, (k2 g2 H2 s2 (GT.refl _ _)).bind.imp fun j g3 st3 H3 s3 t3 k3 => by
        have k4 := k3 g3 H3 s3 (GT.refl _ _)
        have cv := CV.dr s3 (((r.up t2).up t3).cv s3)
        cases e : st3.dr d with
        | lst ds =>
          rw [e] at k4 cv
          obtain ⟨a, vs, rfl, q, r⟩ := cv.lst s3
          exact ⟨a, vs, rfl, by rw [hK]; exact q, retF s3 (r.cut i j) k4⟩
        | _ => rw [e] at k4; exact k4.elim⟩⟩⟩⟩
@[simp] theorem eSlcC_s {lo hi : E (Option Int)} : eSlcC f lo hi st = (f st).bind fun x s1 => (lo s1).bind fun i s2 => (hi s2).bind fun j s3 => match s3.dr x with
  | .lst ds => .ok (.lst (cutD ds i j)) s3
  | _ => .bad := id rfl
/-- d.get(k, x), d a cell -/
def eDGet2C (f k l : E D) : E D := fun st => (f st).bind fun x s1 => match x with
  | .obj r => match s1.cellR r with
    | some (.dic _) => (k s1).bind fun y s2 => (l s2).bind fun z s3 => match s3.cellR r, dKey y with
      | some (.dic kvs), some q => .ok ((valD kvs q).getD z) s3
      | _, _ => .bad
    | _ => .bad
  | _ => .bad
theorem pd_dget2C (hu : X.A.units + 64 < cLine) (x : PD Γ W X e1 f) (y : PD Γ W X e2 k) (z : PD Γ W X e3 l) (m : M2 X e1 "get" apos e2 e3 pos := by exact ⟨rfl, rfl, rfl, rfl⟩) : PD Γ W X (.Call (.Attribute e1 "get" apos) [e2, e3] [] pos) (eDGet2C f k l) := by
  refine ⟨(pe_dget2 (by omega) x.pe y.pe z.pe m).csq fun σ H Q ⟨Z, Lt, g, st, s, h⟩ => ⟨Z, Lt, g, st, s, h.bind.imp fun x g1 st1 H1 s1 t1 k1 v r1 => ?_⟩⟩
  have h := k1 g1 H1 s1 (GT.refl _ _)
  cases x with
  | obj r =>
    simp only at h
    obtain ⟨a, rfl, hr⟩ := RD.obj r1
    split at h
    · rename_i kvs0 ec
      obtain ⟨ws0, c1, _⟩ := s1.dicV hr ec
      refine ⟨a, rfl, .inl ⟨ws0, c1⟩, Z, Lt, g1, st1, s1, (Go.bind h).imp fun y g2 st2 H2 s2 t2 k2 w r2 => ?_⟩
      refine ⟨Z, Lt, g2, st2, s2, (Go.bind (k2 g2 H2 s2 (GT.refl _ _))).imp fun z g3 st3 H3 s3 t3 k3 u r3 => ?_⟩
      have h := k3 g3 H3 s3 (GT.refl _ _)
      split at h
      · rename_i kvs q ec3 eq
        obtain ⟨tm2, em2⟩ := t2.mp
        obtain ⟨tm3, em3⟩ := t3.mp
        have hr3 : g3.M[r]? = some a := by
          rw [em3, em2, List.append_assoc, List.getElem?_append_left (List.getElem?_eq_some_iff.mp hr).1]; exact hr
        obtain ⟨ws, c3, rk3⟩ := s3.dicV hr3 ec3
        rw [r2.key eq]
        rcases rk3.val (k := q) with ⟨d', v', q1, q2, q3⟩ | ⟨q1, q2⟩
        · rw [q1] at h
          exact ⟨some v', .inl ⟨ws, q, c3, rfl, q2.symm⟩, h g3 H3 s3 (GT.refl _ _) _ q3⟩
        · rw [q1] at h
          exact ⟨none, .inl ⟨ws, q, c3, rfl, q2.symm⟩, h g3 H3 s3 (GT.refl _ _) _ r3⟩
      · exact h.elim
    · exact h.elim
  | _ => exact h.elim
@[simp] theorem eDGet2C_s : eDGet2C f k l st = (f st).bind fun x s1 => match x with
  | .obj r => match s1.cellR r with
    | some (.dic _) => (k s1).bind fun y s2 => (l s2).bind fun z s3 => match s3.cellR r, dKey y with
      | some (.dic kvs), some q => .ok ((valD kvs q).getD z) s3
      | _, _ => .bad
    | _ => .bad
  | _ => .bad := id rfl
theorem GT.at {r : Nat} (t : GT Z g g') (hr : g.M[r]? = some a) : g'.M[r]? = some a := by
  obtain ⟨tm, em⟩ := t.mp
  rw [em, List.getElem?_append_left (List.getElem?_eq_some_iff.mp hr).1]; exact hr

/-! ### changes -/
/-- x.append(e), x a cell -/
def sAppC (f k : E D) : S := fun st => SRes.of (f st) fun x s1 => match x with
  | .obj r => match s1.cell r with
    | some (.lst _) => SRes.of (k s1) fun d s2 => match s2.cell r with
      | some (.lst ds) => if ds.length < 16777216 then .nx (s2.setC r (.lst (ds ++ [d]))) else .bad
      | _ => .bad
    | _ => .bad
  | _ => .bad
theorem st_appC {er : Expr} (hK : X.K = Γ.K) (x : PD Γ W X er f) (y : PD Γ W X e k)
    (hbase : attributeBase er "append" X.env (eval er X.env) = eval er X.env := by rfl)
    (hfew : ((backTo ppos (starEach [e] X.env)).all (fun x => !x.1) && (backToKw ppos (keywordEach [] X.env)).all (fun x => x.1.isSome)
      && decide ([e].length + ([] : List Keyword).length + (if ([] : List Keyword).isEmpty then 0 else 1) < 30)) = true := by rfl)
    (hline : (apos.endLine == ppos.line) = true := by rfl) (hs : starEach [e] X.env = (false, eval e X.env) :: starEach [] X.env := by rfl) (hplain : (backTo ppos (starEach [] X.env)).any (·.1) = false := by rfl)
    (hsw : swapsWith (.Call (.Attribute er "append" apos) [e] [] ppos) none pos.line X.env = pure false := by rfl) :
    PSt Γ W X (.Expr (.Call (.Attribute er "append" apos) [e] [] ppos) pos) (sAppC f k) := by
  refine ⟨(ps_expr (pe_bm PySem.F.plainAttrs_list PySem.F.slot_list_append PySem.F.type_list_append mt_append x.pe (pa_cons y.pe pa_nil hs) hbase hfew hline hs hplain) hsw).csq fun D σ H ⟨Z, Lt, g, st, s, h⟩ => ⟨Z, Lt, g, st, s, (GoS.of h).imp fun d g1 st1 H1 s1 t1 k1 v r => ?_⟩⟩
  have h := k1 g1 H1 s1 (GT.refl _ _)
  cases d with
  | obj r0 =>
    simp only at h
    obtain ⟨a, rfl, hr⟩ := RD.obj r
    split at h
    · rename_i ds0 ec
      obtain ⟨o, c1, c2, _⟩ := s1.cellA hr ec
      obtain ⟨vs, rfl, _⟩ := c2.lst
      refine ⟨.inl ⟨rfl, vs, SqL.of c1⟩, Z, Lt, g1, st1, s1, (GoS.of h).imp fun d g2 st2 H2 s2 t2 k2 w r2 => ?_⟩
      have h := k2 g2 H2 s2 (GT.refl _ _)
      split at h
      · rename_i ds ec2
        obtain ⟨o2, c3, c4, c5⟩ := s2.cellA (t2.at hr) ec2
        obtain ⟨ws, rfl, rs⟩ := c4.lst
        split at h
        · rename_i hl
          exact ⟨a, ws, w, rfl, rfl, c3, by rw [← rs.length, sizeLine_eq]; exact hl, h σ g2 _ (c5 (.lst (ds ++ [d])) (.lst (ws ++ [w])) (rs.append (RDs.cons r2 RDs.nil))) (GT.refl _ _)⟩
        · exact h.elim
      · exact h.elim
    · exact h.elim
  | _ => exact h.elim
@[simp] theorem sAppC_s : sAppC f k st = SRes.of (f st) fun x s1 => match x with
  | .obj r => match s1.cell r with
    | some (.lst _) => SRes.of (k s1) fun d s2 => match s2.cell r with
      | some (.lst ds) => if ds.length < 16777216 then .nx (s2.setC r (.lst (ds ++ [d]))) else .bad
      | _ => .bad
    | _ => .bad
  | _ => .bad := id rfl
/-- x[i] = e, x a list cell -/
def sPutC (fr fi fe : E D) : S := fun st => SRes.of (fe st) fun d s1 => SRes.of (fr s1) fun x s2 => match x with
  | .obj r => SRes.of (fi s2) fun j s3 => match s3.cell r, j with
    | some (.lst ds), .int j => match ixD ds.length j with
      | some n => .nx (s3.setC r (.lst (ds.set n d)))
      | none => .bad
    | _, _ => .bad
  | _ => .bad
theorem st_putC {er ei : Expr} (x : PD Γ W X er l) (z : PD Γ W X ei k) (y : PD Γ W X e f)
    (ha : ∀ v, assign (.Subscript er ei apos) X.env v = (do
      let ov ← holding [v] (eval er X.env)
      let iv ← holding [v, ov] (eval ei X.env)
      standAt apos
      holding [v, ov, iv] (setItem ov iv v)
      release [v, ov, iv] []) := by intro _; rfl)
    (hs : swapsWithSole [.Subscript er ei apos] e pos.line X.env = pure false := by rfl) (hw : swappedStores [.Subscript er ei apos] e X.env = pure none := by rfl)
    (h1 : (assignEach [.Subscript er ei apos] X.env).map (·.2) = [assign (.Subscript er ei apos) X.env] := by rfl) :
    PSt Γ W X (.Assign [.Subscript er ei apos] e pos) (sPutC l k f) := by
  refine ⟨(ps_asg y.pe (pg_sub x.pe z.pe set_list ha) hs hw h1).csq fun D σ H ⟨Z, Lt, g, st, s, h⟩ => ⟨Z, Lt, g, st, s, (GoS.of h).imp fun d g1 st1 H1 s1 t1 k1 v r => ?_⟩⟩
  have h := k1 g1 H1 s1 (GT.refl _ _)
  refine ⟨Z, Lt, g1, st1, s1, (GoS.of h).imp fun x g2 st2 H2 s2 t2 k2 u r2 => ?_⟩
  have h := k2 g2 H2 s2 (GT.refl _ _)
  cases x with
  | obj r0 =>
    simp only at h
    obtain ⟨a, rfl, hr⟩ := RD.obj r2
    refine ⟨Z, Lt, g2, st2, s2, (GoS.of h).imp fun j g3 st3 H3 s3 t3 k3 w r3 => ?_⟩
    have h := k3 g3 H3 s3 (GT.refl _ _)
    split at h
    · rename_i ds j' ec
      simp only [RD] at r3; subst r3
      obtain ⟨o, c3, c4, c5⟩ := s3.cellA (t3.at hr) ec
      obtain ⟨ws, rfl, rs⟩ := c4.lst
      split at h
      · rename_i n en
        refine ⟨a, ws, j', n, rfl, rfl, c3, by rw [ixN_ixD, ← rs.length]; exact en, ?_⟩
        exact h σ g3 _ (c5 (.lst (ds.set n d)) (.lst (ws.set n v)) (rs.set ((r.up t2).up t3))) (GT.refl _ _)
      · exact h.elim
    · exact h.elim
  | _ => exact h.elim
@[simp] theorem sPutC_s : sPutC l k f st = SRes.of (f st) fun d s1 => SRes.of (l s1) fun x s2 => match x with
  | .obj r => SRes.of (k s2) fun j s3 => match s3.cell r, j with
    | some (.lst ds), .int j => match ixD ds.length j with
      | some n => .nx (s3.setC r (.lst (ds.set n d)))
      | none => .bad
    | _, _ => .bad
  | _ => .bad := id rfl
/-- x[k] = e, x a dict cell -/
def sDPutC (fr fi fe : E D) : S := fun st => SRes.of (fe st) fun d s1 => SRes.of (fr s1) fun x s2 => match x with
  | .obj r => SRes.of (fi s2) fun j s3 => match s3.cell r, dKey j with
    | some (.dic kvs), some q => if kvs.length < 16777216 then .nx (s3.setC r (.dic (putD kvs q d))) else .bad
    | _, _ => .bad
  | _ => .bad
theorem st_dputC {er ei : Expr} (hu : X.A.units + 64 < cLine) (x : PD Γ W X er l) (z : PD Γ W X ei k) (y : PD Γ W X e f)
    (hs : swapsWith e (some (.Subscript er ei apos)) pos.line X.env = pure false := by rfl) :
    PSt Γ W X (.Assign [.Subscript er ei apos] e pos) (sDPutC l k f) := by
  refine ⟨(ps_dput (by omega) x.pe z.pe y.pe hs).csq fun D σ H ⟨Z, Lt, g, st, s, h⟩ => ⟨Z, Lt, g, st, s, (GoS.of h).imp fun d g1 st1 H1 s1 t1 k1 v r => ?_⟩⟩
  have h := k1 g1 H1 s1 (GT.refl _ _)
  refine ⟨Z, Lt, g1, st1, s1, (GoS.of h).imp fun x g2 st2 H2 s2 t2 k2 u r2 => ?_⟩
  have h := k2 g2 H2 s2 (GT.refl _ _)
  cases x with
  | obj r0 =>
    simp only at h
    obtain ⟨a, rfl, hr⟩ := RD.obj r2
    refine ⟨Z, Lt, g2, st2, s2, (GoS.of h).imp fun j g3 st3 H3 s3 t3 k3 w r3 => ?_⟩
    have h := k3 g3 H3 s3 (GT.refl _ _)
    split at h
    · rename_i kvs q ec eq
      obtain ⟨o, c3, c4, c5⟩ := s3.cellA (t3.at hr) ec
      obtain ⟨ws, rfl, rs⟩ := c4.dic
      split at h
      · rename_i hl
        refine ⟨a, _, rfl, .inl ⟨ws, q, c3, r3.key eq, by rw [← rs.length, sizeLine_eq]; exact hl, rfl⟩, ?_⟩
        exact h σ g3 _ (c5 (.dic (putD kvs q d)) (.dK (putK ws q v)) (rs.put ((r.up t2).up t3))) (GT.refl _ _)
      · exact h.elim
    · exact h.elim
  | _ => exact h.elim
@[simp] theorem sDPutC_s : sDPutC l k f st = SRes.of (f st) fun d s1 => SRes.of (l s1) fun x s2 => match x with
  | .obj r => SRes.of (k s2) fun j s3 => match s3.cell r, dKey j with
    | some (.dic kvs), some q => if kvs.length < 16777216 then .nx (s3.setC r (.dic (putD kvs q d))) else .bad
    | _, _ => .bad
  | _ => .bad := id rfl
/-- x[k] op= e, x a dict cell -/
def sDAugC (m : Sem2) (fr fi fe : E D) : S := fun st => SRes.of (fr st) fun x s1 => SRes.of (fi s1) fun j s2 => match x with
  | .obj r => match s2.cell r, dKey j with
    | some (.dic kvs), some q => match valD kvs q with
      | some u => SRes.of (fe s2) fun d s3 => SRes.of (m u d s3) fun z s4 => match s4.cell r with
        | some (.dic kvs) => if kvs.length < 16777216 then .nx (s4.setC r (.dic (putD kvs q z))) else .bad
        | _ => .bad
      | none => .bad
    | _, _ => .bad
  | _ => .bad
theorem st_daugC {er ei : Expr} {op : Operator} {r : R2} {m : Sem2} (hu : X.A.units + 64 < cLine) (ho : OpR X (inplaceOp op) r) (hm : Holds2 Γ W X r m) (x : PD Γ W X er l) (z : PD Γ W X ei k) (y : PV Γ W X e f)
    (ha : ∀ ov iv new, augStore ei ov iv new = (do holding [new, ov, iv] (setItem ov iv new); release [new, ov, iv] []; pure .next) := by intros; rfl) :
    PSt Γ W X (.AugAssign (.Subscript er ei apos) op e pos) (sDAugC m l k f) := by
  refine ⟨(ps_daug (rd := r) (by omega) x.pe z.pe y.pe (fun pins s σ H x y u v Q I rx ry h => ho pins s σ H x y u v Q I rx ry h) ha).csq fun D σ H ⟨Z, Lt, g, st, s, h⟩ => ⟨Z, Lt, g, st, s, (GoS.of h).imp fun x g1 st1 H1 s1 t1 k1 v r1 => ?_⟩⟩
  have h := k1 g1 H1 s1 (GT.refl _ _)
  refine ⟨Z, Lt, g1, st1, s1, (GoS.of h).imp fun j g2 st2 H2 s2 t2 k2 u r2 => ?_⟩
  have h := k2 g2 H2 s2 (GT.refl _ _)
  cases x with
  | obj r0 =>
    simp only at h
    obtain ⟨a, rfl, hr⟩ := RD.obj r1
    split at h
    · rename_i kvs q ec eq
      obtain ⟨o, c3, c4, _⟩ := s2.cellA (t2.at hr) ec
      obtain ⟨ws, rfl, rk⟩ := c4.dic
      split at h
      · rename_i du edu
        rcases rk.val (k := q) with ⟨d', v', q1, q2, q3⟩ | ⟨q1, _⟩
        · rw [edu] at q1; cases q1
          refine ⟨a, v', rfl, .inl ⟨ws, q, .inl c3, r2.key eq, q2.symm⟩, Z, Lt, g2, st2, s2, (GoS.of h).imp fun d g3 st3 H3 s3 t3 k3 w r3 => ?_⟩
          have h := k3 g3 H3 s3 (GT.refl _ _)
          refine hm Z Lt g3 st3 σ H3 du d v' w _ s3 ((RD.up q3 t3 |> .inl)) (r3.cv s3) ((GoS.of h).imp fun z g4 st4 H4 s4 t4 k4 n r4 => ?_)
          have h := k4 g4 H4 s4 (GT.refl _ _)
          split at h
          · rename_i kvs' ec'
            obtain ⟨o', c3', c4', c5⟩ := s4.cellA (t4.at (t3.at (t2.at hr))) ec'
            obtain ⟨ws', rfl, rs'⟩ := c4'.dic
            split at h
            · rename_i hl
              refine ⟨_, .inl ⟨ws', q, c3', r2.key eq, by rw [← rs'.length, sizeLine_eq]; exact hl, rfl⟩, ?_⟩
              exact h σ g4 _ (c5 (.dic (putD kvs' q z)) (.dK (putK ws' q n)) (rs'.put r4)) (GT.refl _ _)
            · exact h.elim
          · exact h.elim
        · rw [edu] at q1; cases q1
      · exact h.elim
    · exact h.elim
  | _ => exact h.elim
@[simp] theorem sDAugC_s {m : Sem2} : sDAugC m l k f st = SRes.of (l st) fun x s1 => SRes.of (k s1) fun j s2 => match x with
  | .obj r => match s2.cell r, dKey j with
    | some (.dic kvs), some q => match valD kvs q with
      | some u => SRes.of (f s2) fun d s3 => SRes.of (m u d s3) fun z s4 => match s4.cell r with
        | some (.dic kvs) => if kvs.length < 16777216 then .nx (s4.setC r (.dic (putD kvs q z))) else .bad
        | _ => .bad
      | none => .bad
    | _, _ => .bad
  | _ => .bad := id rfl
end
end PL

/-! PyLite, part zc: loops over lists that several know. -/
namespace PL
open PySem PySem.Spec PyProof.Rows L2
section
variable {Γ : Tab} {W : WX} {Z Z' : Hp} {Lt Lt' : Lend} {g g' g0 g1 : GM} {st st' st1 : LS} {σ σ' : L2.St} {H H' H1 : Hp} {h h' : List LO} {a p : Addr} {o : HO} {d : D} {v : V} {X : Cx} {e1 e2 e3 e4 : Expr} {es : List Expr} {f k l j : E D} {pos pos2 ppos apos tpos mpos : Pos} {stm : Stmt} {sts : List Stmt} {f1 f2 : S} {D0 : Ends}
/-- the turns of a comprehension over the cell rc, as it stands at each turn -/
def lcTC (rc : Nat) (vs : List Nat) (tg : D → LS → Option LS) (t : E Bool) (e : E D) : List D → Nat → List D → LS → Res (List D)
  | [], i, acc, st => match st.cell rc with
    | some (.lst cs) => if cs.length ≤ i then .ok acc st else .bad
    | _ => .bad
  | _ :: ds, i, acc, st => match st.cell rc with
    | some (.lst cs) => match cs[i]? with
      | some d => match tg d st with
        | none => .bad
        | some s1 => (t s1).nox.bind fun b s2 => if b then (e s2).nox.bind fun y s3 => if acc.length < 16777216 then lcTC rc vs tg t e ds (i + 1) (acc ++ [y]) (wipeS vs s3) else .bad
          else lcTC rc vs tg t e ds (i + 1) acc (wipeS vs s2)
      | none => .bad
    | _ => .bad
theorem lc_coreC {rc : Nat} {vs : List Nat} {ds : List D} {tg : D → LS → Option LS} {t : E Bool} {e : E D} {gg : TG} {is : List Nat} {Q : VK} (hv : ∀ i ∈ is, i ∈ vs) (hg : TarOk Γ is tg gg) (s1' : SR Γ Z Lt g1 st1 σ H1) (hr : g1.M[rc]? = some a)
    (k2 : Go Γ W Z Lt σ ((lcTC rc vs tg t e ds 0 [] (wipeS vs st1)).bind fun ys s2 => .ok (.lst ys) s2) g1 fun d g' _ H' => ∀ a, OA Γ Z g' H' .tmp a d → Q (.ref a) H') :
    tLc (fun _ H R => R (Itl Γ.K a) H) gg (TB Γ WN t) (T Γ WN e) vs σ H1 Q := by
  intro D nD
  obtain ⟨sD, tD, d1, d2, d3, d4, _⟩ := s1'.newT (d := .lst []) (o := .lst []) nD (RDs.nil (Γ := Γ) (g := g1))
  have lz := s1'.sh.lz
  refine ⟨fun i m H => m = ds.length - i ∧ i ≤ ds.length ∧ ∃ g st acc ws, SR Γ Z Lt g st (L2.wipe σ vs) H ∧ Clean vs st ∧ GT Z g1 g ∧ (g.G D = none ∧ g.O D = some .tmp ∧ D ∉ g.M) ∧ H D = some (.lst ws) ∧ RDs Γ g acc ws ∧
    Go Γ W Z Lt σ ((lcTC rc vs tg t e (ds.drop i) i acc st).bind fun ys s2 => .ok (.lst ys) s2) g fun d g' _ H' => ∀ a, OA Γ Z g' H' .tmp a d → Q (.ref a) H',
    ⟨ds.length, by simp, Nat.zero_le _, g1.tmp D .tmp, wipeS vs st1, [], [], sD.wipe vs, clean_wipe st1 vs, tD, ⟨d1, d3, d4⟩, upd_same, RDs.nil (Γ := Γ) (g := g1.tmp D .tmp), ?_⟩, ?_⟩
  · rw [List.drop_zero]
    revert k2
    cases lcTC rc vs tg t e ds 0 [] (wipeS vs st1) with
    | ok ys s2 => exact fun k2 g' H' s' t' => k2 g' H' s' (tD.trans t')
    | exc x s2 => exact fun k2 cls dd g' H' s' t' => k2 cls dd g' H' s' (tD.trans t')
    | bad => exact fun k2 => k2
  · rintro i m H ⟨rfl, hi', g, st, acc, ws, S, cl, tt, ⟨q1, q2, q3⟩, eD, ra, k3⟩
    by_cases hlt : i < ds.length
    · have ec : ds.drop i = ds[i] :: ds.drop (i + 1) := List.drop_eq_getElem_cons hlt
      rw [ec] at k3
      simp only [lcTC] at k3
      obtain ⟨cs, d, ecell, ei⟩ : ∃ cs d, st.cell rc = some (.lst cs) ∧ cs[i]? = some d := by
        cases ecell : st.cell rc with
        | none => rw [ecell] at k3; exact k3.elim
        | some cd =>
          rw [ecell] at k3
          cases cd with
          | lst cs =>
            cases ei : cs[i]? with
            | none => simp only [ei] at k3; exact k3.elim
            | some d => exact ⟨cs, d, rfl, ei⟩
          | _ => exact k3.elim
      simp only [ecell, ei] at k3
      obtain ⟨oc, hc1, hc2, _⟩ := S.cellA (tt.at hr) ecell
      obtain ⟨wsc, rfl, rsc⟩ := hc2.lst
      obtain ⟨wd, ewd, rwd⟩ := rsc.get ei
      have go : (Itl Γ.K a).go i H := ⟨wsc, wd, .inl (.inl hc1), ewd⟩
      refine .inr ⟨go, fun H => i + 1 ≤ ds.length ∧ ∃ g st acc ws, SR Γ Z Lt g st (L2.wipe σ vs) H ∧ Clean vs st ∧ GT Z g1 g ∧ (g.G D = none ∧ g.O D = some .tmp ∧ D ∉ g.M) ∧ H D = some (.lst ws) ∧ RDs Γ g acc ws ∧
        Go Γ W Z Lt σ ((lcTC rc vs tg t e (ds.drop (i + 1)) (i + 1) acc st).bind fun ys s2 => .ok (.lst ys) s2) g fun d g' _ H' => ∀ a, OA Γ Z g' H' .tmp a d → Q (.ref a) H', fun H' ⟨z1, z2⟩ => ⟨ds.length - (i + 1), by omega, rfl, z1, z2⟩, fun x H' y => ?_⟩
      obtain ⟨g', s', t', r, qt⟩ : ∃ g', SR Γ Z Lt g' st (L2.wipe σ vs) H' ∧ GT Z g g' ∧ RD Γ g' d x ∧ Quiet g H g' H' := by
        obtain ⟨e1, e2⟩ := y
        subst e1
        have := e2 wsc (.inl (.inl hc1))
        rw [ewd] at this; cases this
        exact ⟨g, S, GT.refl _ _, rwd, Quiet.refl _ _⟩
      obtain ⟨u1, u2, u3⟩ := qt.st D _ eD
      have u4 : D ∉ g'.M := fun m => q3 (qt.m D _ eD m)
      have oa : OA Γ Z g' H' .tmp D (.lst acc) := ⟨u2.trans q1, d2, u3.trans q2, u4, _, u1, ra.up t'⟩
      cases et : tg d st with
      | none => rw [et] at k3; exact k3.elim
      | some st2 =>
        rw [et] at k3
        refine hg d x _ H' _ (upd Z D (.lst ws)) Lt g' st st2 (s'.prot oa u1) (.inl r) et (fun σ2 hw s2 => ⟨(hw vs hv).trans wipe_wipe, upd Z D (.lst ws), Lt, g', st2, s2, ?_⟩) r
        have hw2 : L2.wipe σ2 vs = L2.wipe σ vs := (hw vs hv).trans wipe_wipe
        -- what follows a turn
        have next : ∀ {g5 : GM} {st5 : LS} {H5 : Hp}, SR Γ (upd Z D (.lst ws)) Lt g5 st5 σ2 H5 → GT (upd Z D (.lst ws)) g' g5 → SR Γ Z Lt g5 (wipeS vs st5) (L2.wipe σ vs) H5 ∧ GT Z g' g5 ∧ (g5.G D = none ∧ g5.O D = some .tmp ∧ D ∉ g5.M) ∧ H5 D = some (.lst ws) := fun {g5 st5 H5} s5 t5 => by
          obtain ⟨w1, w2, w3, w4⟩ := s5.unprot d2 lz
          obtain ⟨x1, x2⟩ := t5.unprot d2
          have w1' := w1.wipe vs
          rw [hw2] at w1'
          exact ⟨w1', x1, ⟨w3, x2.trans (u3.trans q2), w4⟩, w2⟩
        simp only at k3
        cases e1 : t st2 with
        | ok b st3 =>
          rw [e1] at k3
          simp only [nox_ok, bind_ok] at k3
          intro g3 H3 s3 t3
          cases b with
          | false =>
            obtain ⟨n1, n2, n3, n4⟩ := next s3 t3
            show if (false : Bool) = true then _ else _
            rw [if_neg Bool.false_ne_true]
            refine ⟨hlt, g3, _, acc, ws, n1, clean_wipe _ _, (tt.trans t').trans n2, n3, n4, (ra.up t').up n2, ?_⟩
            simp only [Bool.false_eq_true, if_false] at k3
            revert k3
            cases lcTC rc vs tg t e (ds.drop (i + 1)) (i + 1) acc (wipeS vs st3) with
            | ok ys s2 => exact fun k3 g6 H6 s6 t6 => k3 g6 H6 s6 ((t'.trans n2).trans t6)
            | exc x s2 => exact fun k3 cls dd g6 H6 s6 t6 => k3 cls dd g6 H6 s6 ((t'.trans n2).trans t6)
            | bad => exact fun k3 => k3
          | true =>
            show if (true : Bool) = true then _ else _
            rw [if_pos rfl]
            simp only [if_true] at k3
            refine ⟨upd Z D (.lst ws), Lt, g3, st3, s3, ?_⟩
            cases e2 : e st3 with
            | ok y st4 =>
              rw [e2] at k3
              simp only [nox_ok, bind_ok] at k3
              intro g4 H4 s4 t4 v rv
              obtain ⟨n1, n2, n3, n4⟩ := next s4 (t3.trans t4)
              split at k3
              · rename_i hl
                refine ⟨ws, n4, by rw [← ra.length, sizeLine_eq]; exact hl, hlt, g4, _, acc ++ [y], ws ++ [v], n1.updT n3.1 d2 n3.2.1 n3.2.2 _, clean_wipe _ _, (tt.trans t').trans n2, n3, upd_same, ((ra.up t').up n2).append (RDs.cons rv RDs.nil), ?_⟩
                revert k3
                cases lcTC rc vs tg t e (ds.drop (i + 1)) (i + 1) (acc ++ [y]) (wipeS vs st4) with
                | ok ys s2 => exact fun k3 g6 H6 s6 t6 => k3 g6 H6 s6 ((t'.trans n2).trans t6)
                | exc x s2 => exact fun k3 cls dd g6 H6 s6 t6 => k3 cls dd g6 H6 s6 ((t'.trans n2).trans t6)
                | bad => exact fun k3 => k3
              · exact k3.elim
            | exc x st4 => rw [e2] at k3; exact k3.elim
            | bad => rw [e2] at k3; exact k3.elim
        | exc x st3 => rw [e1] at k3; exact k3.elim
        | bad => rw [e1] at k3; exact k3.elim
    · have ei : i = ds.length := by omega
      subst ei
      rw [List.drop_length] at k3
      simp only [lcTC] at k3
      obtain ⟨cs, ecell, hle⟩ : ∃ cs, st.cell rc = some (.lst cs) ∧ cs.length ≤ ds.length := by
        cases ecell : st.cell rc with
        | none => rw [ecell] at k3; exact k3.elim
        | some cd =>
          rw [ecell] at k3
          cases cd with
          | lst cs =>
            by_cases hle : cs.length ≤ ds.length
            · exact ⟨cs, rfl, hle⟩
            · simp only [if_neg hle] at k3; exact k3.elim
          | _ => exact k3.elim
      simp only [ecell, if_pos hle] at k3
      obtain ⟨oc, hc1, hc2, _⟩ := S.cellA (tt.at hr) ecell
      obtain ⟨wsc, rfl, rsc⟩ := hc2.lst
      refine .inl ⟨⟨wsc, .inl (.inl hc1), by rw [← rsc.length]; exact hle⟩, ?_⟩
      exact k3 g H (S.unwipe cl) (GT.refl _ _) D ⟨q1, d2, q2, q3, _, eD, ra⟩
/-- the turns over the cell rc, as it stands at each turn -/
def turnsC (rc : Nat) (tg : D → LS → Option LS) (b : S) : List D → Nat → S
  | [], i, st => match st.cell rc with
    | some (.lst cs) => if cs.length ≤ i then .nx st else .bad
    | _ => .bad
  | _ :: ds, i, st => match st.cell rc with
    | some (.lst cs) => match cs[i]? with
      | some d => match tg d st with
        | none => .bad
        | some s1 => match b s1 with
          | .nx s2 => turnsC rc tg b ds (i + 1) s2
          | .ct s2 => turnsC rc tg b ds (i + 1) s2
          | .bk s2 => .nx s2
          | r => r
      | none => .bad
    | _ => .bad
theorem turnsC_run {rc : Nat} {tg : D → LS → Option LS} {b : S} {gg : TG} {is : List Nat} (hg : TarOk Γ is tg gg) {ds : List D} (s : SR Γ Z Lt g0 st σ H) (hr : g0.M[rc]? = some a) (h : GoS Γ W Z Lt D0 (turnsC rc tg b ds 0 st) g0) :
    ∃ Wi : Nat → Nat → L2.St → Hp → Prop, (∃ m, Wi 0 m σ H) ∧ ∀ i m σ H, Wi i m σ H →
      ((Itl Γ.K a).stop i H ∧ D0.nx σ H) ∨ ((Itl Γ.K a).go i H ∧ ∃ N : L2.St → Hp → Prop, (∀ σ' H', N σ' H' → ∃ m', m' < m ∧ Wi (i + 1) m' σ' H') ∧ ∀ x H', (Itl Γ.K a).yld i H x H' → gg x σ H' fun σ2 H2 => TSt Γ W b { D0 with nx := N, ct := N, bk := D0.nx } σ2 H2) := by
  refine ⟨fun i m σ H => m = ds.length - i ∧ i ≤ ds.length ∧ ∃ g st, SR Γ Z Lt g st σ H ∧ GT Z g0 g ∧ GoS Γ W Z Lt D0 (turnsC rc tg b (ds.drop i) i st) g, ⟨ds.length, by simp, Nat.zero_le _, g0, st, s, GT.refl _ _, by simpa using h⟩, ?_⟩
  rintro i m σ H ⟨rfl, hi, g, st, s, t, h⟩
  by_cases hlt : i < ds.length
  · have ec : ds.drop i = ds[i] :: ds.drop (i + 1) := List.drop_eq_getElem_cons hlt
    rw [ec] at h
    simp only [turnsC] at h
    obtain ⟨cs, d, ecell, ei⟩ : ∃ cs d, st.cell rc = some (.lst cs) ∧ cs[i]? = some d := by
      cases ecell : st.cell rc with
      | none => rw [ecell] at h; exact h.elim
      | some cd =>
        rw [ecell] at h
        cases cd with
        | lst cs =>
          cases ei : cs[i]? with
          | none => simp only [ei] at h; exact h.elim
          | some d => exact ⟨cs, d, rfl, ei⟩
        | _ => exact h.elim
    simp only [ecell, ei] at h
    obtain ⟨oc, hc1, hc2, _⟩ := s.cellA (t.at hr) ecell
    obtain ⟨wsc, rfl, rsc⟩ := hc2.lst
    obtain ⟨wd, ewd, rwd⟩ := rsc.get ei
    refine .inr ⟨⟨wsc, wd, .inl (.inl hc1), ewd⟩, fun σ' H' => i + 1 ≤ ds.length ∧ ∃ g st, SR Γ Z Lt g st σ' H' ∧ GT Z g0 g ∧ GoS Γ W Z Lt D0 (turnsC rc tg b (ds.drop (i + 1)) (i + 1) st) g, fun σ' H' ⟨q1, q2⟩ => ⟨ds.length - (i + 1), by omega, rfl, q1, q2⟩, fun x H' y => ?_⟩
    obtain ⟨e1, e2⟩ := y
    subst e1
    have := e2 wsc (.inl (.inl hc1))
    rw [ewd] at this; cases this
    cases et : tg d st with
    | none => rw [et] at h; exact h.elim
    | some s1 =>
      rw [et] at h
      refine hg d wd σ _ _ Z Lt g st s1 s (.inl rwd) et (fun σ2 _ s2 => ⟨Z, Lt, g, s1, s2, ?_⟩) rwd
      revert h
      simp only
      cases b s1 with
      | nx s3 => exact fun h σ' g2 H2 s2 t2 => ⟨hlt, g2, s3, s2, t.trans t2, h.up t2⟩
      | ct s3 => exact fun h σ' g2 H2 s2 t2 => ⟨hlt, g2, s3, s2, t.trans t2, h.up t2⟩
      | bk s3 => exact fun h => h
      | ret x s3 => exact fun h => h
      | exc x s3 => exact fun h => h
      | bad => exact fun h => h
  · have e : i = ds.length := by omega
    subst e
    rw [List.drop_length] at h
    simp only [turnsC] at h
    obtain ⟨cs, ecell, hle⟩ : ∃ cs, st.cell rc = some (.lst cs) ∧ cs.length ≤ ds.length := by
      cases ecell : st.cell rc with
      | none => rw [ecell] at h; exact h.elim
      | some cd =>
        rw [ecell] at h
        cases cd with
        | lst cs =>
          by_cases hle : cs.length ≤ ds.length
          · exact ⟨cs, rfl, hle⟩
          · simp only [if_neg hle] at h; exact h.elim
        | _ => exact h.elim
    simp only [ecell, if_pos hle] at h
    obtain ⟨oc, hc1, hc2, _⟩ := s.cellA (t.at hr) ecell
    obtain ⟨wsc, rfl, rsc⟩ := hc2.lst
    exact .inl ⟨⟨wsc, .inl (.inl hc1), by rw [← rsc.length]; exact hle⟩, h σ g H s (GT.refl _ _)⟩
/-- for x in f: a cell or a list -/
def sForX (f : E D) (tg : D → LS → Option LS) (b : S) : S := fun st => SRes.of (f st) fun x s1 => match x with
  | .lst ds => turns tg b ds s1
  | .obj r => match s1.cell r with
    | some (.lst ds) => turnsC r tg b ds 0 s1
    | _ => .bad
  | _ => .bad
theorem st_forX {iter target : Expr} {tg : D → LS → Option LS} (hp : PassesOwn (model X.prog X.w) X.A X.env X.xe) (hc : X.calm = true) (hK : X.K = Γ.K) {is : List Nat} (x : PD Γ W X iter f) (y : PTar Γ X target is tg) (z : PSts Γ W X sts f1)
    (hs : ∀ x, foldedSetIterable iter X.env x = pure x := by intro _; rfl) : PSt Γ W X (.For target iter sts [] pos) (sForX f tg f1) := by
  obtain ⟨gg, g1, g2⟩ := y.pg
  refine ⟨(ps_for hp hc (pi_list x.pe) g1 z.ps hs).csq fun D σ H ⟨Z, Lt, g, st, s, h⟩ => ⟨Z, Lt, g, st, s, (GoS.of h).imp fun d g1 st1 H1 s1 t1 k1 v r => ?_⟩⟩
  have h := k1 g1 H1 s1 (GT.refl _ _)
  cases d with
  | lst ds =>
    obtain ⟨a, vs, rfl, rs, sq⟩ := SV.seqL (Z := Z) (.inl r)
    refine ⟨a, rfl, ⟨vs, by rw [hK]; exact sq Lt g1 st1 σ H1 s1 (GT.refl _ _)⟩, ?_⟩
    refine turns_run g2 (ds := ds) (g0 := g1) (fun i H g st σ hi s t => ?_) (fun H g st σ s t => ⟨vs, by rw [hK]; exact sq Lt g st σ H s t, by rw [rs.length]; exact Nat.le_refl _⟩) s1 h
    obtain ⟨d, ed⟩ : ∃ d, ds[i]? = some d := ⟨ds[i], List.getElem?_eq_getElem hi⟩
    obtain ⟨w, ew, rw'⟩ := rs.get ed
    have sq' : SqL X.K H a vs := by rw [hK]; exact sq Lt g st σ H s t
    refine ⟨⟨vs, w, sq', ew⟩, fun x H' ⟨e1, e2⟩ => ?_⟩
    subst e1
    have := e2 vs sq'
    rw [ew] at this; cases this
    exact ⟨g, d, ed, s, GT.refl _ _, rw'.up t, Quiet.refl _ _⟩
  | obj r0 =>
    simp only at h
    obtain ⟨a, rfl, hr⟩ := RD.obj r
    split at h
    · rename_i ds ec
      obtain ⟨o, c1, c2, _⟩ := s1.cellA hr ec
      obtain ⟨vs, rfl, _⟩ := c2.lst
      refine ⟨a, rfl, ⟨vs, .inl (.inl c1)⟩, ?_⟩
      rw [hK]
      exact turnsC_run g2 s1 hr h
    · exact h.elim
  | _ => exact h.elim
@[simp] theorem sForX_s {tg : D → LS → Option LS} {b : S} : sForX f tg b st = SRes.of (f st) fun x s1 => match x with
  | .lst ds => turns tg b ds s1
  | .obj r => match s1.cell r with
    | some (.lst ds) => turnsC r tg b ds 0 s1
    | _ => .bad
  | _ => .bad := id rfl
/-- [e for x in f if t]: a cell or a list -/
def eLcX (vs : List Nat) (f : E D) (tg : D → LS → Option LS) (t : E Bool) (e : E D) : E D := fun st => (f st).bind fun x s1 => match x with
  | .lst ds => (lcT vs tg t e ds [] (wipeS vs s1)).bind fun ys s2 => .ok (.lst ys) s2
  | .obj r => match s1.cell r with
    | some (.lst ds) => (lcTC r vs tg t e ds 0 [] (wipeS vs s1)).bind fun ys s2 => .ok (.lst ys) s2
    | _ => .bad
  | _ => .bad
theorem lcX_T {vs : List Nat} {tg : D → LS → Option LS} {t : E Bool} {e : E D} {gg : TG} {is : List Nat} {Q : VK} (hK : X.K = Γ.K) (hv : ∀ i ∈ is, i ∈ vs) (hg : TarOk Γ is tg gg) (h : TF Γ W (eLcX vs f tg t e) σ H Q) : tLc (iList X.K (T Γ W f)) gg (TB Γ WN t) (T Γ WN e) vs σ H Q := by
  obtain ⟨Z, Lt, g, st, s, h⟩ := h
  refine ⟨Z, Lt, g, st, s, (Go.bind h).imp fun d g1 st1 H1 s1 t1 k1 v r => ?_⟩
  have h := k1 g1 H1 s1 (GT.refl _ _)
  cases d with
  | lst ds =>
    obtain ⟨a, vs', rfl, rs, sq⟩ := SV.seqL (Z := Z) (.inl r)
    refine ⟨a, rfl, ⟨vs', by rw [hK]; exact sq Lt g1 st1 σ H1 s1 (GT.refl _ _)⟩, ?_⟩
    refine lc_core hv hg s1 h (Itl X.K a) (fun i H g st σ hi s t => ?_) (fun H g st σ s t => ⟨vs', by rw [hK]; exact sq Lt g st σ H s t, by rw [rs.length]; exact Nat.le_refl _⟩)
    obtain ⟨d, ed⟩ : ∃ d, ds[i]? = some d := ⟨ds[i], List.getElem?_eq_getElem hi⟩
    obtain ⟨w, ew, rw'⟩ := rs.get ed
    have sq' : SqL X.K H a vs' := by rw [hK]; exact sq Lt g st σ H s t
    refine ⟨⟨vs', w, sq', ew⟩, fun x H' ⟨e1, e2⟩ => ?_⟩
    subst e1
    have := e2 vs' sq'
    rw [ew] at this; cases this
    exact ⟨g, d, ed, s, GT.refl _ _, rw'.up t, Quiet.refl _ _⟩
  | obj r0 =>
    simp only at h
    obtain ⟨a, rfl, hr⟩ := RD.obj r
    split at h
    · rename_i ds ec
      obtain ⟨o, c1, c2, _⟩ := s1.cellA hr ec
      obtain ⟨vs', rfl, _⟩ := c2.lst
      refine ⟨a, rfl, ⟨vs', .inl (.inl c1)⟩, ?_⟩
      rw [hK]
      exact lc_coreC hv hg s1 hr h
    · exact h.elim
  | _ => exact h.elim
theorem pf_lcX {elt tg iter : Expr} {ifs : List Expr} {scope : Scope} {is : List Nat} {tgf : D → LS → Option LS} {t : E Bool} (own : List (Str × Nat)) (hc : X.calm = true) (hN : X.N.Nodup) (hK : X.K = Γ.K) (hi : PD Γ W X iter k) (ok : BlkOk X.N X.env.scope scope own)
    (hv : ∀ i ∈ is, i ∈ own.map (·.2))
    (hg : ∀ (s : Shared) (H : Hp) (C : Addr) (cl : List (Str × Addr)) (fp : List Addr), PTar Γ (X.blk s H scope (compEnvC scope cl C X.env) fp) tg is tgf) (ht : ∀ (s : Shared) (H : Hp) (C : Addr) (cl : List (Str × Addr)) (fp : List Addr), PTs Γ (X.blk s H scope (compEnvC scope cl C X.env) fp) ifs t)
    (he : ∀ (s : Shared) (H : Hp) (C : Addr) (cl : List (Str × Addr)) (fp : List Addr), PD Γ WN (X.blk s H scope (compEnvC scope cl C X.env) fp) elt f) (hs : ∀ x, foldedSetIterable iter X.env x = pure x := by intro _; rfl) :
    PF Γ W X (.ListComp elt [⟨tg, iter, ifs, 0⟩] scope pos) (eLcX (own.map (·.2)) k tgf t f) :=
  ⟨(pe_lc (pos := pos) hc hN (pi_list (tg := tg) hi.pe) ok (fun s H C cl fp => (hg s H C cl fp).can) (fun s H C cl fp => (ht s H C cl fp).pt) (fun s H C cl fp => (he s H C cl fp).pe) hs).csq fun σ H Q h => lcX_T hK hv gCan_ok h⟩
theorem st_setLcFX {i : Nat} {y : Str} {py : Pos} {spos : Pos} {elt tg iter : Expr} {ifs : List Expr} {scope : Scope} {is : List Nat} {tgf : D → LS → Option LS} {t : E Bool} (own : List (Str × Nat)) (hc : X.calm = true) (hN : X.N.Nodup) (hy : X.N[i]? = some y) (hyl : X.env.scope.names.lookup y = some .local)
    (hsw : swapsWith (.ListComp elt [⟨tg, iter, ifs, 0⟩] scope pos) (some (.Name y py)) spos.line X.env = pure true) (hK : X.K = Γ.K) (hi : PD Γ W X iter k) (ok : BlkOk X.N X.env.scope scope own)
    (hv : ∀ i ∈ is, i ∈ own.map (·.2))
    (hg : ∀ (s : Shared) (H : Hp) (C : Addr) (cl : List (Str × Addr)) (fp : List Addr), PTar Γ (X.blk s H scope (compEnvC scope cl C X.env) fp) tg is tgf) (ht : ∀ (s : Shared) (H : Hp) (C : Addr) (cl : List (Str × Addr)) (fp : List Addr), PTs Γ (X.blk s H scope (compEnvC scope cl C X.env) fp) ifs t)
    (he : ∀ (s : Shared) (H : Hp) (C : Addr) (cl : List (Str × Addr)) (fp : List Addr), PD Γ WN (X.blk s H scope (compEnvC scope cl C X.env) fp) elt f) (hs : ∀ x, foldedSetIterable iter X.env x = pure x := by intro _; rfl) :
    PSt Γ W X (.Assign [.Name y py] (.ListComp elt [⟨tg, iter, ifs, 0⟩] scope pos) spos) (sSetF i (eLcX (own.map (·.2)) k tgf t f)) :=
  ⟨(ps_setLc (pos := pos) hc hN hy hyl hsw (pi_list (tg := tg) hi.pe) ok (fun s H C cl fp => (hg s H C cl fp).can) (fun s H C cl fp => (ht s H C cl fp).pt) (fun s H C cl fp => (he s H C cl fp).pe) hs).csq fun D σ H h => lcX_T hK hv gCan_ok (setF_T h)⟩
theorem st_setLcX {i : Nat} {y : Str} {py : Pos} {spos : Pos} {elt tg iter : Expr} {ifs : List Expr} {scope : Scope} {is : List Nat} {tgf : D → LS → Option LS} {t : E Bool} (own : List (Str × Nat)) (hc : X.calm = true) (hN : X.N.Nodup) (hy : X.N[i]? = some y) (hyl : X.env.scope.names.lookup y = some .local)
    (hsw : swapsWith (.ListComp elt [⟨tg, iter, ifs, 0⟩] scope pos) (some (.Name y py)) spos.line X.env = pure true) (hK : X.K = Γ.K) (hi : PD Γ W X iter k) (ok : BlkOk X.N X.env.scope scope own)
    (hv : ∀ i ∈ is, i ∈ own.map (·.2))
    (hg : ∀ (s : Shared) (H : Hp) (C : Addr) (cl : List (Str × Addr)) (fp : List Addr), PTar Γ (X.blk s H scope (compEnvC scope cl C X.env) fp) tg is tgf) (ht : ∀ (s : Shared) (H : Hp) (C : Addr) (cl : List (Str × Addr)) (fp : List Addr), PTs Γ (X.blk s H scope (compEnvC scope cl C X.env) fp) ifs t)
    (he : ∀ (s : Shared) (H : Hp) (C : Addr) (cl : List (Str × Addr)) (fp : List Addr), PD Γ WN (X.blk s H scope (compEnvC scope cl C X.env) fp) elt f) (hs : ∀ x, foldedSetIterable iter X.env x = pure x := by intro _; rfl) :
    PSt Γ W X (.Assign [.Name y py] (.ListComp elt [⟨tg, iter, ifs, 0⟩] scope pos) spos) (sSet i (eLcX (own.map (·.2)) k tgf t f)) :=
  ⟨(ps_setLc (pos := pos) hc hN hy hyl hsw (pi_list (tg := tg) hi.pe) ok (fun s H C cl fp => (hg s H C cl fp).can) (fun s H C cl fp => (ht s H C cl fp).pt) (fun s H C cl fp => (he s H C cl fp).pe) hs).csq fun D σ H h => lcX_T hK hv gCan_ok (T.of_TF (setV_T h))⟩
theorem newC_TF {i : Nat} (h : TSt Γ W (sSet i (eNewC f)) D0 σ H) : tAsg (TF Γ W f) (gName i) D0 σ H := by
  obtain ⟨Z, Lt, g, st, s, h⟩ := h
  refine ⟨Z, Lt, g, st, s, (Go.bind (GoS.of h)).imp fun d g1 st1 H1 s1 t1 k1 a r => ?_⟩
  obtain ⟨g2, s2, t2, m⟩ := s1.newC r
  have k2 := k1 g1 H1 s1 (GT.refl _ _) g2 H1 s2 t2
  exact k2 _ g2 H1 (s2.setV i (by simp only [RD]; exact ⟨a, rfl, m⟩)) (GT.refl _ _)
/-- name = [..], to be a cell -/
theorem st_setLcC {i : Nat} {y : Str} {py : Pos} {spos : Pos} {elt tg iter : Expr} {ifs : List Expr} {scope : Scope} {is : List Nat} {fi : E (List D)} {tgf : D → LS → Option LS} {t : E Bool} (own : List (Str × Nat)) (hc : X.calm = true) (hN : X.N.Nodup) (hy : X.N[i]? = some y) (hyl : X.env.scope.names.lookup y = some .local)
    (hsw : swapsWith (.ListComp elt [⟨tg, iter, ifs, 0⟩] scope pos) (some (.Name y py)) spos.line X.env = pure true) (hi : PIt Γ W X tg iter fi) (ok : BlkOk X.N X.env.scope scope own)
    (hv : ∀ i ∈ is, i ∈ own.map (·.2))
    (hg : ∀ (s : Shared) (H : Hp) (C : Addr) (cl : List (Str × Addr)) (fp : List Addr), PTar Γ (X.blk s H scope (compEnvC scope cl C X.env) fp) tg is tgf) (ht : ∀ (s : Shared) (H : Hp) (C : Addr) (cl : List (Str × Addr)) (fp : List Addr), PTs Γ (X.blk s H scope (compEnvC scope cl C X.env) fp) ifs t)
    (he : ∀ (s : Shared) (H : Hp) (C : Addr) (cl : List (Str × Addr)) (fp : List Addr), PD Γ WN (X.blk s H scope (compEnvC scope cl C X.env) fp) elt f) (hs : ∀ x, foldedSetIterable iter X.env x = pure x := by intro _; rfl) :
    PSt Γ W X (.Assign [.Name y py] (.ListComp elt [⟨tg, iter, ifs, 0⟩] scope pos) spos) (sSet i (eNewC (eLc (own.map (·.2)) fi tgf t f))) := by
  obtain ⟨wi, h1, h2⟩ := lc_ok (t := t) (f := f) (ifs := ifs) (elt := elt) (scope := scope) (tgf := tgf) hi hv
  exact ⟨(ps_setLc hc hN hy hyl hsw h1 ok (fun s H C cl fp => (hg s H C cl fp).can) (fun s H C cl fp => (ht s H C cl fp).pt) (fun s H C cl fp => (he s H C cl fp).pe) hs).csq fun D σ H h => h2 σ H _ (newC_TF h)⟩
@[simp] theorem eLcX_s {vs : List Nat} {tg : D → LS → Option LS} {t : E Bool} {e : E D} : eLcX vs f tg t e st = (f st).bind fun x s1 => match x with
  | .lst ds => (lcT vs tg t e ds [] (wipeS vs s1)).bind fun ys s2 => .ok (.lst ys) s2
  | .obj r => match s1.cell r with
    | some (.lst ds) => (lcTC r vs tg t e ds 0 [] (wipeS vs s1)).bind fun ys s2 => .ok (.lst ys) s2
    | _ => .bad
  | _ => .bad := id rfl
end
end PL

/-! PyLite, part zd: loops over dicts that several know; pops. -/
namespace PL
open PySem PySem.Spec PyProof.Rows L2
section
variable {Γ : Tab} {W : WX} {Z Z' : Hp} {Lt Lt' : Lend} {g g' g0 g1 : GM} {st st' st1 : LS} {σ σ' : L2.St} {H H' H1 : Hp} {h h' : List LO} {a p : Addr} {o : HO} {d : D} {v : V} {X : Cx} {e e1 e2 e3 e4 : Expr} {es : List Expr} {f k l j : E D} {pos pos2 ppos apos tpos mpos : Pos} {stm : Stmt} {sts : List Stmt} {f1 f2 : S} {D0 : Ends}
def LS.lockC (st : LS) (r : Nat) (d : D) : LS := { st with h := st.h.set r (.lck d) }
theorem M_ne {r i : Nat} {b : Addr} (s : SH Γ Z Lt g h H) (hr : g.M[r]? = some a) (c : i ≠ r) (e2 : g.M[i]? = some b) : b ≠ a := fun q => by
  subst q
  obtain ⟨i1, i2⟩ := List.getElem?_eq_some_iff.mp e2
  obtain ⟨r1, r2⟩ := List.getElem?_eq_some_iff.mp hr
  exact c ((List.getElem_inj s.mn).mp (i2.trans r2.symm))
theorem SR.lockC {r : Nat} {ob : Obj} (s : SR Γ Z Lt g st σ H) (hr : g.M[r]? = some a) (e : st.cell r = some d) (ha : H a = some o) (hc : CR Γ g d o) :
    SR Γ (upd Z a (.frz ob o)) (ltP Lt (.lck a) a) g (st.lockC r d) σ (upd H a (.frz ob o)) := by
  have am := List.mem_of_getElem? hr
  obtain ⟨m1, _, m3⟩ := s.sh.mf a am
  have nz := s.sh.zn am ha hc.nolk
  have fv : ∀ (q : Path) (x : FV) (v : V), (∀ b, q ≠ .lck b) → FVR Γ Z Lt g H q x v → FVR Γ (upd Z a (.frz ob o)) (ltP Lt (.lck a) a) g (upd H a (.frz ob o)) q x v := by
    intro q x v hq f
    cases x with
    | val d => exact f
    | own d =>
      obtain ⟨b, eb, k1, k2, k3, k4, o, k5, k6⟩ := f
      have ne : b ≠ a := fun q => k4 (q ▸ am)
      exact ⟨b, eb, k1, by rw [upd_ne ne]; exact k2, k3, k4, o, by rw [upd_ne ne]; exact k5, k6⟩
    | lent d =>
      obtain ⟨b, u, eb, k1, k2, k3⟩ := f
      have ne : b ≠ a := ne_of_none k2 nz
      exact ⟨b, u, eb, by rw [ltP_ne (hq a)]; exact k1, by rw [upd_ne ne]; exact k2, k3⟩
  have el := (List.getElem?_eq_some_iff.mp (cell_eq e)).1
  refine ⟨⟨fun b u z => ?_, fun b u z => ?_, fun b u z => ?_, by simpa [LS.lockC] using s.sh.ml, s.sh.mn, fun b m => ?_, fun i lo b e1 e2 => ?_, s.sh.nd, fun q b z => ?_⟩, s.sl, fun i x ei => ?_⟩
  · rw [upd_ne (ne_of_none z m1)]; exact s.sh.gh b u z
  · by_cases c : b = a
    · subst c; rw [upd_same] at z ⊢; exact z
    · rw [upd_ne c] at z ⊢; exact s.sh.zh b u z
  · by_cases c : b = a
    · subst c; exact m1
    · rw [upd_ne c] at z; exact s.sh.gz b u z
  · obtain ⟨q1, q2, q3⟩ := s.sh.mf b m
    refine ⟨q1, fun u z => ?_, q3⟩
    by_cases c : b = a
    · subst c; exact ltP_same
    · rw [upd_ne c] at z
      rw [ltP_ne (by simp [c])]; exact q2 u z
  · by_cases c : i = r
    · subst c
      rw [hr] at e2; cases e2
      have e1 : (st.h.set i (.lck d))[i]? = some lo := e1
      rw [List.getElem?_set_self el] at e1
      cases e1
      exact ⟨ltP_same, ob, o, upd_same, upd_same, hc⟩
    · have e1 : (st.h.set r (.lck d))[i]? = some lo := e1
      rw [List.getElem?_set_ne (Ne.symm c)] at e1
      have ne := M_ne s.sh hr c e2
      have := s.sh.ob i lo b e1 e2
      cases lo with
      | ins c fs =>
        obtain ⟨C, dx, ws, q1, q2, q3, q4⟩ := this
        exact ⟨C, dx, ws, q1, q2, by rw [upd_ne ne]; exact q3, FR.mapg (fun i y v => fv _ y v (by simp)) q4⟩
      | cell d => obtain ⟨o, q1, q2⟩ := this; exact ⟨o, by rw [upd_ne ne]; exact q1, q2⟩
      | lck d =>
        obtain ⟨l, ob, u, q1, q2, q3⟩ := this
        exact ⟨by rw [ltP_ne (by simp [ne])]; exact l, ob, u, by rw [upd_ne ne]; exact q1, by rw [upd_ne ne]; exact q2, q3⟩
  · by_cases c : q = .lck a
    · subst c; rw [ltP_same] at z; cases z; exact ⟨_, upd_same, rfl⟩
    · rw [ltP_ne c] at z
      obtain ⟨u, z', kq⟩ := s.sh.lz q b z
      exact ⟨u, by rw [upd_ne (ne_of_none z' nz)]; exact z', kq⟩
  · obtain ⟨w, e1, f⟩ := s.sv i x ei
    exact ⟨w, e1, fv _ _ _ (by simp) f⟩
theorem fv_unlC {ob : Obj} (nz : Z a = none) (lz : LzOk Lt Z) (q : Path) (x : FV) (v : V) (hq : ∀ b, q ≠ .lck b) (f : FVR Γ (upd Z a (.frz ob o)) (ltP Lt (.lck a) a) g H q x v) : FVR Γ Z Lt g (upd H a o) q x v := by
  cases x with
  | val d => exact f
  | own d =>
    obtain ⟨b, eb, k1, k2, k3, k4, u, k5, k6⟩ := f
    have ne : b ≠ a := fun q => by subst q; rw [upd_same] at k2; cases k2
    rw [upd_ne ne] at k2
    exact ⟨b, eb, k1, k2, k3, k4, u, by rw [upd_ne ne]; exact k5, k6⟩
  | lent d =>
    obtain ⟨b, u, eb, k1, k2, k3⟩ := f
    rw [ltP_ne (hq a)] at k1
    obtain ⟨u', z, _⟩ := lz _ _ k1
    have ne : b ≠ a := ne_of_none z nz
    rw [upd_ne ne] at k2
    exact ⟨b, u, eb, k1, k2, k3⟩
theorem SR.unlC {r : Nat} {ob : Obj} (s : SR Γ (upd Z a (.frz ob o)) (ltP Lt (.lck a) a) g st σ H) (nz : Z a = none) (lz : LzOk Lt Z) (hr : g.M[r]? = some a) (e : st.h[r]? = some (.lck d)) : SR Γ Z Lt g (st.setC r d) σ (upd H a o) := by
  have am := List.mem_of_getElem? hr
  obtain ⟨m1, _, m3⟩ := s.sh.mf a am
  have fv := fv_unlC (Γ := Γ) (g := g) (H := H) (o := o) (ob := ob) nz lz
  have zz : ∀ {b u}, Z b = some u → upd Z a (.frz ob o) b = some u := fun {b u} z => by rw [upd_ne (ne_of_none z nz)]; exact z
  have el := (List.getElem?_eq_some_iff.mp e).1
  refine ⟨⟨fun b u z => ?_, fun b u z => ?_, fun b u z => s.sh.gz b u (zz z), by simpa [LS.setC] using s.sh.ml, s.sh.mn, fun b m => ?_, fun i lo b e1 e2 => ?_, s.sh.nd, lz⟩, s.sl, fun i x ei => ?_⟩
  · rw [upd_ne (ne_of_none z m1)]; exact s.sh.gh b u z
  · rw [upd_ne (ne_of_none z nz)]; exact s.sh.zh b u (zz z)
  · obtain ⟨q1, q2, q3⟩ := s.sh.mf b m
    refine ⟨q1, fun u z => ?_, q3⟩
    have ne := ne_of_none z nz
    have := q2 u (zz z)
    rw [ltP_ne (by simp [ne])] at this; exact this
  · by_cases c : i = r
    · subst c
      rw [hr] at e2; cases e2
      obtain ⟨l, ob', u, h1, h2, h3⟩ := s.sh.ob i _ a e hr
      rw [upd_same] at h2; cases h2
      have e1 : (st.h.set i (.cell d))[i]? = some lo := e1
      rw [List.getElem?_set_self el] at e1
      cases e1
      exact ⟨_, upd_same, h3⟩
    · have e1 : (st.h.set r (.cell d))[i]? = some lo := e1
      rw [List.getElem?_set_ne (Ne.symm c)] at e1
      have ne := M_ne s.sh hr c e2
      have := s.sh.ob i lo b e1 e2
      cases lo with
      | ins c fs =>
        obtain ⟨C, dx, ws, q1, q2, q3, q4⟩ := this
        exact ⟨C, dx, ws, q1, q2, by rw [upd_ne ne]; exact q3, FR.mapg (fun i y v => fv _ y v (by simp)) q4⟩
      | cell d => obtain ⟨o, q1, q2⟩ := this; exact ⟨o, by rw [upd_ne ne]; exact q1, q2⟩
      | lck d =>
        obtain ⟨l, ob, u, q1, q2, q3⟩ := this
        rw [ltP_ne (by simp [ne])] at l
        rw [upd_ne ne] at q2
        exact ⟨l, ob, u, by rw [upd_ne ne]; exact q1, q2, q3⟩
  · obtain ⟨w, e1, f⟩ := s.sv i x ei
    exact ⟨w, e1, fv _ _ _ (by simp) f⟩
theorem GT.unlC {u : HO} (t : GT (upd Z a u) g g') (nz : Z a = none) : GT Z g g' := ⟨t.le, t.mp, fun b o e => t.oz b o (by rw [upd_ne (ne_of_none e nz)]; exact e), t.lo⟩
def LS.unC (st : LS) (r : Nat) : Option LS := match st.h[r]? with
  | some (.lck d) => some (st.setC r d)
  | _ => none
theorem LS.unC_eq {r : Nat} (e : st.unC r = some st') : ∃ d, st.h[r]? = some (.lck d) ∧ st' = st.setC r d := by
  unfold LS.unC at e
  split at e
  · cases e; exact ⟨_, ‹_›, rfl⟩
  · cases e
def SRes.unC (r : Nat) : SRes → SRes
  | .nx st => match st.unC r with | some s => .nx s | none => .bad
  | .bk st => match st.unC r with | some s => .bk s | none => .bad
  | .ct st => match st.unC r with | some s => .ct s | none => .bad
  | .ret x st => match st.unC r with | some s => .ret x s | none => .bad
  | _ => .bad
theorem GoS.lockC {r : Nat} {q : SRes} {ob : Obj} (nz : Z a = none) (lz : LzOk Lt Z) (hr : g.M[r]? = some a) (h : GoS Γ W Z Lt D0 (q.unC r) g) :
    GoS Γ W (upd Z a (.frz ob o)) (ltP Lt (.lck a) a) ⟨fun σ' H' => H' a = some (.frz ob o) ∧ D0.nx σ' (upd H' a o), fun v H' => H' a = some (.frz ob o) ∧ D0.rt v (upd H' a o), fun σ' H' => H' a = some (.frz ob o) ∧ D0.bk σ' (upd H' a o), fun σ' H' => H' a = some (.frz ob o) ∧ D0.ct σ' (upd H' a o)⟩ q g := by
  cases q with
  | nx st' =>
    simp only [SRes.unC] at h
    split at h
    · rename_i s2 es
      obtain ⟨d', e1, rfl⟩ := LS.unC_eq es
      exact fun σ' g' H' s t => ⟨s.sh.zh a _ upd_same, h σ' g' _ (s.unlC nz lz (t.at hr) e1) (t.unlC nz)⟩
    · exact h.elim
  | bk st' =>
    simp only [SRes.unC] at h
    split at h
    · rename_i s2 es
      obtain ⟨d', e1, rfl⟩ := LS.unC_eq es
      exact fun σ' g' H' s t => ⟨s.sh.zh a _ upd_same, h σ' g' _ (s.unlC nz lz (t.at hr) e1) (t.unlC nz)⟩
    · exact h.elim
  | ct st' =>
    simp only [SRes.unC] at h
    split at h
    · rename_i s2 es
      obtain ⟨d', e1, rfl⟩ := LS.unC_eq es
      exact fun σ' g' H' s t => ⟨s.sh.zh a _ upd_same, h σ' g' _ (s.unlC nz lz (t.at hr) e1) (t.unlC nz)⟩
    · exact h.elim
  | ret x st' =>
    simp only [SRes.unC] at h
    split at h
    · rename_i s2 es
      obtain ⟨d', e1, rfl⟩ := LS.unC_eq es
      intro v g' H' s t fv
      have s0 : SR Γ (upd Z a (.frz ob o)) (ltP Lt (.lck a) a) g' ⟨[], st'.h⟩ [] H' := ⟨s, rfl, fun i x e => by simp at e⟩
      refine ⟨s.zh a _ upd_same, h v g' _ (s0.unlC nz lz (t.at hr) e1).sh (t.unlC nz) ?_⟩
      cases x with
      | val d => exact fv
      | own d =>
        obtain ⟨b, eb, k1, k2, k3, k4, o', k5, k6⟩ := fv
        have ne : b ≠ a := fun q => by subst q; rw [upd_same] at k2; cases k2
        rw [upd_ne ne] at k2
        exact ⟨b, eb, k1, k2, k3, k4, o', by rw [upd_ne ne]; exact k5, k6⟩
      | lent d => obtain ⟨b, o, eb, k1, _⟩ := fv; cases k1
    · exact h.elim
  | exc x st' => exact h.elim
  | bad => exact h.elim
/-- for x in d / d.items(), d a name's dict cell -/
def sForD (it : List (Key × D) → List D) (i : Nat) (tg : D → LS → Option LS) (b : S) : S := fun st => match st.s[i]? with
  | some (some (.val (.obj r))) => match st.h[r]? with
    | some (.cell (.dic kvs)) => (turns tg b (it kvs) (st.lockC r (.dic kvs))).unC r
    | some (.lck (.dic kvs)) => noE (turns tg b (it kvs) st)
    | _ => .bad
  | _ => .bad
def itK (kvs : List (Key × D)) : List D := kvs.map fun p => kD p.1
theorem lockC_run {i : Nat} {te : TE} {tb : LS → List (Key × D) → SRes} {t : TS} {D : Ends} (s : SR Γ Z Lt g st σ H)
    (h : GoS Γ W Z Lt D (match st.s[i]? with
      | some (some (.val (.obj r))) => match st.h[r]? with
        | some (.cell (.dic kvs)) => (tb (st.lockC r (.dic kvs)) kvs).unC r
        | some (.lck (.dic kvs)) => noE (tb st kvs)
        | _ => .bad
      | _ => .bad) g)
    (hq : ∀ a r Z' Lt' g' st' H' kvs, st'.s[i]? = some (some (.val (.obj r))) → g'.M[r]? = some a → SR Γ Z' Lt' g' st' σ H' → ∀ (D' : Ends) (ob : Obj) (ws : List (Key × V)), σ[i]? = some (some (.ref a)) → H' a = some (.frz ob (.dK ws)) → RDk Γ g' kvs ws → (∀ g2 st2 σ2 H2, SR Γ Z' Lt' g2 st2 σ2 H2 → GT Z' g' g2 → H2 a = some (.frz ob (.dK ws))) → GoS Γ W Z' Lt' D' (tb st' kvs) g' → t D' σ H') :
    t D σ H ∨ tLock t D σ H := by
  split at h
  · rename_i r es
    obtain ⟨v, e1, rv⟩ := s.sv i _ es
    obtain ⟨a, rfl, hr⟩ := RD.obj (show RD Γ g (.obj r) v from rv)
    split at h
    · rename_i kvs ec
      obtain ⟨o, h1, h2⟩ := s.sh.ob r _ a ec hr
      obtain ⟨ws, rfl, rk⟩ := h2.dic
      have nz := s.sh.zn (List.mem_of_getElem? hr) h1 rfl
      refine .inr ⟨a, .dK ws, h1, trivial, fun od => ?_⟩
      have ce : st.cell r = some (.dic kvs) := by unfold LS.cell; rw [ec]
      have s1 := s.lockC (ob := od) hr ce h1 h2
      exact hq a r _ _ g (st.lockC r (.dic kvs)) _ kvs es hr s1 _ od ws e1 upd_same rk (fun g2 st2 σ2 H2 s2 _ => s2.sh.zh a _ upd_same) (GoS.lockC nz s.sh.lz hr h)
    · rename_i kvs ec
      obtain ⟨l, ob, u, h1, h2, h3⟩ := s.sh.ob r _ a ec hr
      obtain ⟨ws, rfl, rk⟩ := h3.dic
      exact .inl (hq a r _ _ g st H kvs es hr s _ ob ws e1 h1 rk (fun g2 st2 σ2 H2 s2 _ => s2.sh.zh a _ h2) (GoS.noE' h))
    · exact h.elim
  · exact h.elim
theorem st_forKD {target : Expr} {x : Str} {xpos : Pos} {tg : D → LS → Option LS} {is : List Nat} (i : Nat) (hp : PassesOwn (model X.prog X.w) X.A X.env X.xe) (hc : X.calm = true) (y : PTar Γ X target is tg) (z : PSts Γ W X sts f1)
    (hN : X.N[i]? = some x := by rfl) (hv : Vis X.env.scope x := by first | exact Or.inl rfl | exact Or.inr (Or.inl rfl) | exact Or.inr (Or.inr rfl)) (hd : (x == ("__debug__" : Str)) = false := by decide) (hcd : (x == ("__classdict__" : Str)) = false := by decide)
    (hs : ∀ y, foldedSetIterable (.Name x xpos) X.env y = pure y := by intro _; rfl) : PSt Γ W X (.For target (.Name x xpos) sts [] pos) (sForD itK i tg f1) := by
  obtain ⟨gg, g1, g2⟩ := y.pg
  have base := ps_for (pos := pos) hp hc (pi_keys (pe_var (pos := xpos) hN hv hd hcd)) g1 z.ps hs
  refine ⟨(base.or (ps_lock base)).csq fun D σ H ⟨Z, Lt, g, st, s, h⟩ => ?_⟩
  refine lockC_run (te := tC .non) (tb := fun st kvs => turns tg f1 (itK kvs) st) s h fun a r Z' Lt' g' st' H' kvs es hr s' D' ob ws ea ha rk hst hgo => ?_
  refine ⟨_, ea, a, ob, rfl, .inl ⟨ws, ha, ?_⟩⟩
  obtain ⟨j1, j2⟩ := keys_J (Lt := Lt') (Z := Z') (g0 := g') hst rk
  exact turns_run g2 j1 j2 s' hgo
theorem st_forID {elts : List Expr} {kk : Nat} {x : Str} {xpos : Pos} {tg : D → LS → Option LS} {is : List Nat} (i : Nat) (hp : PassesOwn (model X.prog X.w) X.A X.env X.xe) (hc : X.calm = true) (y : PTar Γ X (.Tuple elts kk tpos) is tg) (z : PSts Γ W X sts f1)
    (hN : X.N[i]? = some x := by rfl) (hv : Vis X.env.scope x := by first | exact Or.inl rfl | exact Or.inr (Or.inl rfl) | exact Or.inr (Or.inr rfl)) (hd : (x == ("__debug__" : Str)) = false := by decide) (hcd : (x == ("__classdict__" : Str)) = false := by decide)
    (hbase : attributeBase (.Name x xpos) "items" X.env (eval (.Name x xpos) X.env) = eval (.Name x xpos) X.env := by rfl) (hline : (apos.endLine == mpos.line) = true := by rfl)
    (hs : ∀ y, foldedSetIterable (.Call (.Attribute (.Name x xpos) "items" apos) [] [] mpos) X.env y = pure y := by intro _; rfl) : PSt Γ W X (.For (.Tuple elts kk tpos) (.Call (.Attribute (.Name x xpos) "items" apos) [] [] mpos) sts [] pos) (sForD itemsD i tg f1) := by
  obtain ⟨gg, g1, g2⟩ := y.pg
  have base := ps_for (pos := pos) hp hc (pi_items (tpos := tpos) (kk := kk) (elts := elts) (pe_var (pos := xpos) hN hv hd hcd) hbase hline) g1 z.ps hs
  refine ⟨(base.or (ps_lock base)).csq fun D σ H ⟨Z, Lt, g, st, s, h⟩ => ?_⟩
  refine lockC_run (te := tC .non) (tb := fun st kvs => turns tg f1 (itemsD kvs) st) s h fun a r Z' Lt' g' st' H' kvs es hr s' D' ob ws ea ha rk hst hgo => ?_
  refine ⟨_, ea, a, ob, ws, rfl, ha, ?_⟩
  obtain ⟨j1, j2⟩ := items_J (Lt := Lt') (Z := Z') (g0 := g') hst rk
  exact turns_run g2 j1 j2 s' hgo
@[simp] theorem sForD_s {it : List (Key × D) → List D} {i : Nat} {tg : D → LS → Option LS} {b : S} {s : List (Option FV)} {h : List LO} : sForD it i tg b ⟨s, h⟩ = match s[i]? with
  | some (some (.val (.obj r))) => match h[r]? with
    | some (.cell (.dic kvs)) => (turns tg b (it kvs) ⟨s, h.set r (.lck (.dic kvs))⟩).unC r
    | some (.lck (.dic kvs)) => noE (turns tg b (it kvs) ⟨s, h⟩)
    | _ => .bad
  | _ => .bad := id rfl
/-! ### comprehensions -/
def Res.unC {α : Type} (r : Nat) : Res α → Res α
  | .ok x st => match st.unC r with | some s => .ok x s | none => .bad
  | _ => .bad
theorem Go.lockC {r : Nat} {q : Res D} {ob : Obj} {Q : VK} (nz : Z a = none) (lz : LzOk Lt Z) (hr : g.M[r]? = some a) (h : Go Γ W Z Lt σ (q.unC r) g fun d g' _ H' => ∀ b, OA Γ Z g' H' .tmp b d → Q (.ref b) H') :
    Go Γ W (upd Z a (.frz ob o)) (ltP Lt (.lck a) a) σ q g fun d g' _ H' => ∀ b, OA Γ (upd Z a (.frz ob o)) g' H' .tmp b d → H' a = some (.frz ob o) ∧ Q (.ref b) (upd H' a o) := by
  cases q with
  | ok d st' =>
    simp only [Res.unC] at h
    split at h
    · rename_i s2 es
      obtain ⟨d', e1, rfl⟩ := LS.unC_eq es
      intro g' H' s t b x
      obtain ⟨k1, k2, k3, k4, o', k5, k6⟩ := x
      have ne : b ≠ a := fun q => by subst q; rw [upd_same] at k2; cases k2
      rw [upd_ne ne] at k2
      exact ⟨s.sh.zh a _ upd_same, h g' _ (s.unlC nz lz (t.at hr) e1) (t.unlC nz) b ⟨k1, k2, k3, k4, o', by rw [upd_ne ne]; exact k5, k6⟩⟩
    · exact h.elim
  | exc x st' => exact h.elim
  | bad => exact h.elim
/-- [e for x in d if t], d a name's dict cell -/
def eLcD (vs : List Nat) (i : Nat) (tg : D → LS → Option LS) (t : E Bool) (e : E D) : E D := fun st => match st.s[i]? with
  | some (some (.val (.obj r))) => match st.h[r]? with
    | some (.cell (.dic kvs)) => ((lcT vs tg t e (itK kvs) [] (wipeS vs (st.lockC r (.dic kvs)))).bind fun ys s2 => .ok (.lst ys) s2).unC r
    | some (.lck (.dic kvs)) => ((lcT vs tg t e (itK kvs) [] (wipeS vs st)).bind fun ys s2 => .ok (.lst ys) s2).nox
    | _ => .bad
  | _ => .bad
theorem lcD_T {i : Nat} {x : Str} {vs : List Nat} {tg : D → LS → Option LS} {t : E Bool} {e : E D} {gg : TG} {is : List Nat} {Q : VK} (hv : ∀ i ∈ is, i ∈ vs) (hg : TarOk Γ is tg gg)
    (h : TF Γ W (eLcD vs i tg t e) σ H Q) : tLc (iKeys (tVar i)) gg (TB Γ WN t) (T Γ WN e) vs σ H Q ∨ tLockE (tLc (iKeys (tVar i)) gg (TB Γ WN t) (T Γ WN e) vs) σ H Q := by
  obtain ⟨Z, Lt, g, st, s, h⟩ := h
  unfold eLcD at h
  have go : ∀ (a : Addr) (r : Nat) (Z' : Hp) (Lt' : Lend) (g' : GM) (st' : LS) (H' : Hp) (kvs : List (Key × D)), g'.M[r]? = some a → σ[i]? = some (some (.ref a)) → SR Γ Z' Lt' g' st' σ H' → ∀ (Q' : VK) (ob : Obj) (ws : List (Key × V)), H' a = some (.frz ob (.dK ws)) → RDk Γ g' kvs ws → (∀ g2 st2 σ2 H2, SR Γ Z' Lt' g2 st2 σ2 H2 → GT Z' g' g2 → H2 a = some (.frz ob (.dK ws))) →
      (Go Γ W Z' Lt' σ ((lcT vs tg t e (itK kvs) [] (wipeS vs st')).bind fun ys s2 => .ok (.lst ys) s2) g' fun d g' _ H' => ∀ a, OA Γ Z' g' H' .tmp a d → Q' (.ref a) H') → tLc (iKeys (tVar i)) gg (TB Γ WN t) (T Γ WN e) vs σ H' Q' := by
    intro a r Z' Lt' g' st' H' kvs hr ea s' Q' ob ws hl rk hst k
    refine ⟨_, ea, a, ob, rfl, .inl ⟨ws, hl, ?_⟩⟩
    obtain ⟨j1, j2⟩ := keys_J (Lt := Lt') (Z := Z') (g0 := g') hst rk
    exact lc_core (W := W) hv hg s' k (Itk a ob ws) j1 j2
  split at h
  · rename_i r es
    obtain ⟨v, e1, rv⟩ := s.sv i _ es
    obtain ⟨a, rfl, hr⟩ := RD.obj (show RD Γ g (.obj r) v from rv)
    split at h
    · rename_i kvs ec
      obtain ⟨o, h1, h2⟩ := s.sh.ob r _ a ec hr
      obtain ⟨ws, rfl, rk⟩ := h2.dic
      have nz := s.sh.zn (List.mem_of_getElem? hr) h1 rfl
      refine .inr ⟨a, .dK ws, h1, trivial, fun od => ?_⟩
      have ce : st.cell r = some (.dic kvs) := by unfold LS.cell; rw [ec]
      have s1 := s.lockC (ob := od) hr ce h1 h2
      exact go a r _ _ g (st.lockC r (.dic kvs)) _ kvs hr e1 s1 _ od ws upd_same rk (fun g2 st2 σ2 H2 s2 _ => s2.sh.zh a _ upd_same) (Go.lockC nz s.sh.lz hr h)
    · rename_i kvs ec
      obtain ⟨l, ob, u, h1, h2, h3⟩ := s.sh.ob r _ a ec hr
      obtain ⟨ws, rfl, rk⟩ := h3.dic
      exact .inl (go a r _ _ g st H kvs hr e1 s _ ob ws h1 rk (fun g2 st2 σ2 H2 s2 _ => s2.sh.zh a _ h2) (Go.noX h))
    · exact h.elim
  · exact h.elim
theorem pf_lcD {elt tg : Expr} {x : Str} {xpos : Pos} {ifs : List Expr} {scope : Scope} {is : List Nat} {tgf : D → LS → Option LS} {t : E Bool} (own : List (Str × Nat)) (hc : X.calm = true) (hN : X.N.Nodup) (i : Nat) (hx : X.N[i]? = some x) (hvis : Vis X.env.scope x) (ok : BlkOk X.N X.env.scope scope own)
    (hv : ∀ i ∈ is, i ∈ own.map (·.2))
    (hg : ∀ (s : Shared) (H : Hp) (C : Addr) (cl : List (Str × Addr)) (fp : List Addr), PTar Γ (X.blk s H scope (compEnvC scope cl C X.env) fp) tg is tgf) (ht : ∀ (s : Shared) (H : Hp) (C : Addr) (cl : List (Str × Addr)) (fp : List Addr), PTs Γ (X.blk s H scope (compEnvC scope cl C X.env) fp) ifs t)
    (he : ∀ (s : Shared) (H : Hp) (C : Addr) (cl : List (Str × Addr)) (fp : List Addr), PD Γ WN (X.blk s H scope (compEnvC scope cl C X.env) fp) elt f) (hd : (x == ("__debug__" : Str)) = false := by decide) (hcd : (x == ("__classdict__" : Str)) = false := by decide) (hs : ∀ y, foldedSetIterable (.Name x xpos) X.env y = pure y := by intro _; rfl) :
    PF Γ W X (.ListComp elt [⟨tg, .Name x xpos, ifs, 0⟩] scope pos) (eLcD (own.map (·.2)) i tgf t f) := by
  have base := pe_lc (pos := pos) hc hN (pi_keys (tg := tg) (pe_var (pos := xpos) hx hvis hd hcd)) ok (fun s H C cl fp => (hg s H C cl fp).can) (fun s H C cl fp => (ht s H C cl fp).pt) (fun s H C cl fp => (he s H C cl fp).pe) hs
  exact ⟨(base.or (pe_lock base)).csq fun σ H Q h => lcD_T (x := x) hv gCan_ok h⟩
@[simp] theorem eLcD_s {vs : List Nat} {i : Nat} {tg : D → LS → Option LS} {t : E Bool} {e : E D} {s : List (Option FV)} {h : List LO} : eLcD vs i tg t e ⟨s, h⟩ = match s[i]? with
  | some (some (.val (.obj r))) => match h[r]? with
    | some (.cell (.dic kvs)) => ((lcT vs tg t e (itK kvs) [] (wipeS vs ⟨s, h.set r (.lck (.dic kvs))⟩)).bind fun ys s2 => .ok (.lst ys) s2).unC r
    | some (.lck (.dic kvs)) => ((lcT vs tg t e (itK kvs) [] (wipeS vs ⟨s, h⟩)).bind fun ys s2 => .ok (.lst ys) s2).nox
    | _ => .bad
  | _ => .bad := id rfl
end
end PL

/-! PyLite, part ze: pops, extensions, op= on cells; stored comprehensions; dict displays; list(range). -/
namespace PL
open PySem PySem.Spec PyProof.Rows L2
section
variable {Γ : Tab} {W : WX} {Z Z' : Hp} {Lt Lt' : Lend} {g g' g0 g1 : GM} {st st' st1 : LS} {σ σ' : L2.St} {H H' H1 : Hp} {h h' : List LO} {a p : Addr} {o : HO} {d : D} {v : V} {X : Cx} {e e1 e2 e3 e4 : Expr} {es : List Expr} {f k l j : E D} {pos pos2 ppos apos tpos mpos : Pos} {stm : Stmt} {sts : List Stmt} {f1 f2 : S} {D0 : Ends}
def ePop0C (f : E D) : E D := fun st => (f st).bind fun x s1 => match x with
  | .obj r => match s1.cell r with
    | some (.lst ds) => match ds[ds.length - 1]? with
      | some y => .ok y (s1.setC r (.lst ds.dropLast))
      | none => .bad
    | _ => .bad
  | _ => .bad
theorem pd_pop0C {er : Expr} (hK : X.K = Γ.K) (x : PD Γ W X er f)
    (hbase : attributeBase er "pop" X.env (eval er X.env) = eval er X.env := by rfl) (hline : (apos.endLine == ppos.line) = true := by rfl) :
    PD Γ W X (.Call (.Attribute er "pop" apos) [] [] ppos) (ePop0C f) := by
  refine ⟨(pe_bm0 PySem.F.plainAttrs_list PySem.F.slot_list_pop PySem.F.type_list_pop mt_pop x.pe hbase hline).csq fun σ H Q ⟨Z, Lt, g, st, s, h⟩ => ⟨Z, Lt, g, st, s, (Go.bind h).imp fun d g1 st1 H1 s1 t1 k1 v r => ?_⟩⟩
  have h := k1 g1 H1 s1 (GT.refl _ _)
  cases d with
  | obj r0 =>
    simp only at h
    obtain ⟨a, rfl, hr⟩ := RD.obj r
    split at h
    · rename_i ds ec
      obtain ⟨o, c1, c2, c5⟩ := s1.cellA hr ec
      obtain ⟨vs, rfl, rs⟩ := c2.lst
      split at h
      · rename_i y ey
        obtain ⟨w, ew, rw'⟩ := rs.get ey
        exact ⟨.inl ⟨rfl, vs, SqL.of c1⟩, a, vs, w, rfl, rfl, c1, by rw [← rs.length]; exact ew, h g1 _ (c5 (.lst ds.dropLast) (.lst vs.dropLast) rs.dropLast) (GT.refl _ _) w rw'⟩
      · exact h.elim
    · exact h.elim
  | _ => exact h.elim
@[simp] theorem ePop0C_s : ePop0C f st = (f st).bind fun x s1 => match x with
  | .obj r => match s1.cell r with
    | some (.lst ds) => match ds[ds.length - 1]? with
      | some y => .ok y (s1.setC r (.lst ds.dropLast))
      | none => .bad
    | _ => .bad
  | _ => .bad := id rfl
def ePopC (f k : E D) : E D := fun st => (f st).bind fun x s1 => match x with
  | .obj r => match s1.cell r with
    | some (.lst _) => (k s1).bind fun j s2 => match s2.cell r, j with
      | some (.lst ds), .int q => if -(2 ^ 63) ≤ q ∧ q < 2 ^ 63 then match ixD ds.length q with
        | some n => match ds[n]? with
          | some y => .ok y (s2.setC r (.lst (ds.eraseIdx n)))
          | none => .bad
        | none => .bad else .bad
      | _, _ => .bad
    | _ => .bad
  | _ => .bad
theorem pd_popC {er : Expr} (hK : X.K = Γ.K) (x : PD Γ W X er f) (y : PD Γ W X e k)
    (hbase : attributeBase er "pop" X.env (eval er X.env) = eval er X.env := by rfl)
    (hfew : ((backTo ppos (starEach [e] X.env)).all (fun x => !x.1) && (backToKw ppos (keywordEach [] X.env)).all (fun x => x.1.isSome)
      && decide ([e].length + ([] : List Keyword).length + (if ([] : List Keyword).isEmpty then 0 else 1) < 30)) = true := by rfl)
    (hline : (apos.endLine == ppos.line) = true := by rfl) (hs : starEach [e] X.env = (false, eval e X.env) :: starEach [] X.env := by rfl) (hplain : (backTo ppos (starEach [] X.env)).any (·.1) = false := by rfl) :
    PD Γ W X (.Call (.Attribute er "pop" apos) [e] [] ppos) (ePopC f k) := by
  refine ⟨(pe_bm PySem.F.plainAttrs_list PySem.F.slot_list_pop PySem.F.type_list_pop mt_popAt x.pe (pa_cons y.pe pa_nil hs) hbase hfew hline hs hplain).csq fun σ H Q ⟨Z, Lt, g, st, s, h⟩ => ⟨Z, Lt, g, st, s, (Go.bind h).imp fun d g1 st1 H1 s1 t1 k1 v r => ?_⟩⟩
  have h := k1 g1 H1 s1 (GT.refl _ _)
  cases d with
  | obj r0 =>
    simp only at h
    obtain ⟨a, rfl, hr⟩ := RD.obj r
    split at h
    · rename_i ds0 ec
      obtain ⟨o, c1, c2, _⟩ := s1.cellA hr ec
      obtain ⟨vs, rfl, _⟩ := c2.lst
      refine ⟨.inl ⟨rfl, vs, SqL.of c1⟩, Z, Lt, g1, st1, s1, (Go.bind h).imp fun d g2 st2 H2 s2 t2 k2 w r2 => ?_⟩
      have h := k2 g2 H2 s2 (GT.refl _ _)
      split at h
      · rename_i ds q ec2
        simp only [RD] at r2; subst r2
        obtain ⟨o2, c3, c4, c5⟩ := s2.cellA (t2.at hr) ec2
        obtain ⟨ws, rfl, rs⟩ := c4.lst
        split at h
        · rename_i hq
          split at h
          · rename_i n en
            split at h
            · rename_i y ey
              obtain ⟨w, ew, rw'⟩ := rs.get ey
              exact ⟨a, ws, q, n, w, rfl, rfl, c3, hq.1, hq.2, by rw [seq_ix, ← rs.length]; exact en, ew, h g2 _ (c5 (.lst (ds.eraseIdx n)) (.lst (ws.eraseIdx n)) (rs.eraseIdx n)) (GT.refl _ _) w rw'⟩
            · exact h.elim
          · exact h.elim
        · exact h.elim
      · exact h.elim
    · exact h.elim
  | _ => exact h.elim
@[simp] theorem ePopC_s : ePopC f k st = (f st).bind fun x s1 => match x with
  | .obj r => match s1.cell r with
    | some (.lst _) => (k s1).bind fun j s2 => match s2.cell r, j with
      | some (.lst ds), .int q => if -(2 ^ 63) ≤ q ∧ q < 2 ^ 63 then match ixD ds.length q with
        | some n => match ds[n]? with
          | some y => .ok y (s2.setC r (.lst (ds.eraseIdx n)))
          | none => .bad
        | none => .bad else .bad
      | _, _ => .bad
    | _ => .bad
  | _ => .bad := id rfl
/-- x.extend(e), x a cell -/
def sExtC (f k : E D) : S := fun st => SRes.of (f st) fun x s1 => match x with
  | .obj r => match s1.cell r with
    | some (.lst _) => SRes.of (k s1) fun d s2 => match s2.cell r, d with
      | some (.lst ds), .lst es => if ds.length + es.length ≤ 16777216 then .nx (s2.setC r (.lst (ds ++ es))) else .bad
      | _, _ => .bad
    | _ => .bad
  | _ => .bad
theorem st_extC {er : Expr} (hK : X.K = Γ.K) (x : PD Γ W X er f) (y : PF Γ W X e k)
    (hbase : attributeBase er "extend" X.env (eval er X.env) = eval er X.env := by rfl)
    (hfew : ((backTo ppos (starEach [e] X.env)).all (fun x => !x.1) && (backToKw ppos (keywordEach [] X.env)).all (fun x => x.1.isSome)
      && decide ([e].length + ([] : List Keyword).length + (if ([] : List Keyword).isEmpty then 0 else 1) < 30)) = true := by rfl)
    (hline : (apos.endLine == ppos.line) = true := by rfl) (hs : starEach [e] X.env = (false, eval e X.env) :: starEach [] X.env := by rfl) (hplain : (backTo ppos (starEach [] X.env)).any (·.1) = false := by rfl)
    (hsw : swapsWith (.Call (.Attribute er "extend" apos) [e] [] ppos) none pos.line X.env = pure false := by rfl) :
    PSt Γ W X (.Expr (.Call (.Attribute er "extend" apos) [e] [] ppos) pos) (sExtC f k) := by
  refine ⟨(ps_expr (pe_bm PySem.F.plainAttrs_list PySem.F.slot_list_extend PySem.F.type_list_extend mt_extend x.pe (pa_cons y.pe pa_nil hs) hbase hfew hline hs hplain) hsw).csq fun D σ H ⟨Z, Lt, g, st, s, h⟩ => ⟨Z, Lt, g, st, s, (GoS.of h).imp fun d g1 st1 H1 s1 t1 k1 v r => ?_⟩⟩
  have h := k1 g1 H1 s1 (GT.refl _ _)
  cases d with
  | obj r0 =>
    simp only at h
    obtain ⟨a, rfl, hr⟩ := RD.obj r
    split at h
    · rename_i ds0 ec
      obtain ⟨o, c1, c2, _⟩ := s1.cellA hr ec
      obtain ⟨vs, rfl, _⟩ := c2.lst
      refine ⟨.inl ⟨rfl, vs, SqL.of c1⟩, Z, Lt, g1, st1, s1, (GoS.of h).imp fun d g2 st2 H2 s2 t2 k2 b r2 => ?_⟩
      have h := k2 g2 H2 s2 (GT.refl _ _)
      split at h
      · rename_i ds es ec2
        obtain ⟨o2, c3, c4, c5⟩ := s2.cellA (t2.at hr) ec2
        obtain ⟨ws, rfl, rs⟩ := c4.lst
        obtain ⟨r1, r2, r3, r4, o', r5, r6⟩ := r2
        obtain ⟨zs, rfl, rz⟩ := r6.lst
        split at h
        · rename_i hl
          exact ⟨a, b, ws, zs, rfl, rfl, c3, r5, by rw [← rs.length, ← rz.length, sizeLine_eq]; exact hl, h σ g2 _ (c5 (.lst (ds ++ es)) (.lst (ws ++ zs)) (rs.append rz)) (GT.refl _ _)⟩
        · exact h.elim
      · exact h.elim
    · exact h.elim
  | _ => exact h.elim
@[simp] theorem sExtC_s : sExtC f k st = SRes.of (f st) fun x s1 => match x with
  | .obj r => match s1.cell r with
    | some (.lst _) => SRes.of (k s1) fun d s2 => match s2.cell r, d with
      | some (.lst ds), .lst es => if ds.length + es.length ≤ 16777216 then .nx (s2.setC r (.lst (ds ++ es))) else .bad
      | _, _ => .bad
    | _ => .bad
  | _ => .bad := id rfl
/-! ### x[i] op= e -/
theorem pget_list {X : Cx} : PGet X (rIxL X.K) := by
  intro pins s σ H x y v u Q I rx ry h
  obtain ⟨p, xs, i, z, rfl, rfl, hq, he, q⟩ := h
  cases rx
  obtain ⟨t, rfl⟩ := ry
  obtain ⟨its, r, pl, hz⟩ := I.list hq
  obtain ⟨j, h1, h2, h3, h4, h5⟩ := atI_get he
  obtain ⟨w, ew, rw'⟩ := r.get h2
  have hl := r.length
  have hn := line63
  have fin : EP X pins σ Q w s := ⟨z, H, I, rw', q⟩
  by_cases h0 : 0 ≤ i
  · have hj : i.toNat = j := by
      rw [seqIndex_of h0 h5] at h1
      exact Option.some.inj h1
    exact wpAny_getItem_list pl.isList h0 (by omega) (by rw [hj]; simpa using ew) fin
  · have hj : (i + (its.toArray.size : Int)).toNat = j := by
      rw [seqIndex_neg (by omega) h4] at h1
      rw [List.size_toArray, ← hl]
      exact Option.some.inj h1
    exact wpAny_getItem_list_neg pl.isList (by omega) (by rw [List.size_toArray] <;> omega) (by omega) (by rw [hj]; simpa using ew) fin
def sAugC (m : Sem2) (fr fi fe : E D) : S := fun st => SRes.of (fr st) fun x s1 => SRes.of (fi s1) fun j s2 => match x with
  | .obj r => match s2.cell r, j with
    | some (.lst ds), .int q => match atD ds q with
      | some u => SRes.of (fe s2) fun d s3 => SRes.of (m u d s3) fun z s4 => match s4.cell r with
        | some (.lst ds') => match ixD ds'.length q with
          | some n => .nx (s4.setC r (.lst (ds'.set n z)))
          | none => .bad
        | _ => .bad
      | none => .bad
    | _, _ => .bad
  | _ => .bad
theorem st_augC {er ei : Expr} {op : Operator} {r : R2} {m : Sem2} (hK : X.K = Γ.K) (ho : OpR X (inplaceOp op) r) (hm : Holds2 Γ W X r m) (x : PD Γ W X er l) (z : PD Γ W X ei k) (y : PV Γ W X e f)
    (ha : ∀ ov iv new, augStore ei ov iv new = (do holding [new, ov, iv] (setItem ov iv new); release [new, ov, iv] []; pure .next) := by intros; rfl) :
    PSt Γ W X (.AugAssign (.Subscript er ei apos) op e pos) (sAugC m l k f) := by
  refine ⟨(ps_augS x.pe z.pe pget_list y.pe (fun pins s σ H x y u v Q I rx ry h => ho pins s σ H x y u v Q I rx ry h) set_list ha).csq fun D σ H ⟨Z, Lt, g, st, s, h⟩ => ⟨Z, Lt, g, st, s, (GoS.of h).imp fun x g1 st1 H1 s1 t1 k1 v r1 => ?_⟩⟩
  have h := k1 g1 H1 s1 (GT.refl _ _)
  refine ⟨Z, Lt, g1, st1, s1, (GoS.of h).imp fun j g2 st2 H2 s2 t2 k2 u r2 => ?_⟩
  have h := k2 g2 H2 s2 (GT.refl _ _)
  cases x with
  | obj r0 =>
    simp only at h
    obtain ⟨a, rfl, hr⟩ := RD.obj r1
    split at h
    · rename_i ds q ec
      simp only [RD] at r2; subst r2
      obtain ⟨o, c3, c4, _⟩ := s2.cellA (t2.at hr) ec
      obtain ⟨ws, rfl, rs⟩ := c4.lst
      split at h
      · rename_i du edu
        obtain ⟨v', ev', rv'⟩ := rs.at edu
        refine ⟨a, ws, q, v', rfl, rfl, .inl (.inl c3), ev', Z, Lt, g2, st2, s2, (GoS.of h).imp fun d g3 st3 H3 s3 t3 k3 w r3 => ?_⟩
        have h := k3 g3 H3 s3 (GT.refl _ _)
        refine hm Z Lt g3 st3 σ H3 du d v' w _ s3 (.inl (rv'.up t3)) (r3.cv s3) ((GoS.of h).imp fun z g4 st4 H4 s4 t4 k4 n r4 => ?_)
        have h := k4 g4 H4 s4 (GT.refl _ _)
        split at h
        · rename_i ds' ec'
          obtain ⟨o', c3', c4', c5⟩ := s4.cellA (t4.at (t3.at (t2.at hr))) ec'
          obtain ⟨ws', rfl, rs'⟩ := c4'.lst
          split at h
          · rename_i n' en'
            exact ⟨a, ws', q, n', rfl, rfl, c3', by rw [ixN_ixD, ← rs'.length]; exact en', h σ g4 _ (c5 (.lst (ds'.set n' z)) (.lst (ws'.set n' n)) (rs'.set r4)) (GT.refl _ _)⟩
          · exact h.elim
        · exact h.elim
      · exact h.elim
    · exact h.elim
  | _ => exact h.elim
@[simp] theorem sAugC_s {m : Sem2} : sAugC m l k f st = SRes.of (l st) fun x s1 => SRes.of (k s1) fun j s2 => match x with
  | .obj r => match s2.cell r, j with
    | some (.lst ds), .int q => match atD ds q with
      | some u => SRes.of (f s2) fun d s3 => SRes.of (m u d s3) fun z s4 => match s4.cell r with
        | some (.lst ds') => match ixD ds'.length q with
          | some n => .nx (s4.setC r (.lst (ds'.set n z)))
          | none => .bad
        | _ => .bad
      | none => .bad
    | _, _ => .bad
  | _ => .bad := id rfl
end
end PL

/-! PyLite, part zf: stored comprehensions over cells and of cells; dict displays; list(range); range of three. -/
namespace PL
open PySem PySem.Spec PyProof.Rows L2
section
variable {Γ : Tab} {W : WX} {Z Z' : Hp} {Lt Lt' : Lend} {g g' g0 g1 : GM} {st st' st1 : LS} {σ σ' : L2.St} {H H' H1 : Hp} {h h' : List LO} {a p : Addr} {o : HO} {d : D} {v : V} {X : Cx} {e e1 e2 e3 e4 : Expr} {es : List Expr} {f k l j : E D} {pos pos2 ppos apos tpos mpos : Pos} {stm : Stmt} {sts : List Stmt} {f1 f2 : S} {D0 : Ends}
theorem st_setLcXC {i : Nat} {y : Str} {py : Pos} {spos : Pos} {elt tg iter : Expr} {ifs : List Expr} {scope : Scope} {is : List Nat} {tgf : D → LS → Option LS} {t : E Bool} (own : List (Str × Nat)) (hc : X.calm = true) (hN : X.N.Nodup) (hy : X.N[i]? = some y) (hyl : X.env.scope.names.lookup y = some .local)
    (hsw : swapsWith (.ListComp elt [⟨tg, iter, ifs, 0⟩] scope pos) (some (.Name y py)) spos.line X.env = pure true) (hK : X.K = Γ.K) (hi : PD Γ W X iter k) (ok : BlkOk X.N X.env.scope scope own)
    (hv : ∀ i ∈ is, i ∈ own.map (·.2))
    (hg : ∀ (s : Shared) (H : Hp) (C : Addr) (cl : List (Str × Addr)) (fp : List Addr), PTar Γ (X.blk s H scope (compEnvC scope cl C X.env) fp) tg is tgf) (ht : ∀ (s : Shared) (H : Hp) (C : Addr) (cl : List (Str × Addr)) (fp : List Addr), PTs Γ (X.blk s H scope (compEnvC scope cl C X.env) fp) ifs t)
    (he : ∀ (s : Shared) (H : Hp) (C : Addr) (cl : List (Str × Addr)) (fp : List Addr), PD Γ WN (X.blk s H scope (compEnvC scope cl C X.env) fp) elt f) (hs : ∀ x, foldedSetIterable iter X.env x = pure x := by intro _; rfl) :
    PSt Γ W X (.Assign [.Name y py] (.ListComp elt [⟨tg, iter, ifs, 0⟩] scope pos) spos) (sSet i (eNewC (eLcX (own.map (·.2)) k tgf t f))) :=
  ⟨(ps_setLc (pos := pos) hc hN hy hyl hsw (pi_list (tg := tg) hi.pe) ok (fun s H C cl fp => (hg s H C cl fp).can) (fun s H C cl fp => (ht s H C cl fp).pt) (fun s H C cl fp => (he s H C cl fp).pe) hs).csq fun D σ H h => lcX_T hK hv gCan_ok (newC_TF h)⟩
theorem st_setLcKC {i : Nat} {y : Str} {py : Pos} {spos : Pos} {elt tg iter : Expr} {ifs : List Expr} {scope : Scope} {is : List Nat} {π : LS → Option (List (Key × D))} {tgf : D → LS → Option LS} {t : E Bool} (own : List (Str × Nat)) (hc : X.calm = true) (hN : X.N.Nodup) (hy : X.N[i]? = some y) (hyl : X.env.scope.names.lookup y = some .local)
    (hsw : swapsWith (.ListComp elt [⟨tg, iter, ifs, 0⟩] scope pos) (some (.Name y py)) spos.line X.env = pure true) (hi : PLt2 Γ X iter π) (ok : BlkOk X.N X.env.scope scope own)
    (hv : ∀ i ∈ is, i ∈ own.map (·.2))
    (hg : ∀ (s : Shared) (H : Hp) (C : Addr) (cl : List (Str × Addr)) (fp : List Addr), PTar Γ (X.blk s H scope (compEnvC scope cl C X.env) fp) tg is tgf) (ht : ∀ (s : Shared) (H : Hp) (C : Addr) (cl : List (Str × Addr)) (fp : List Addr), PTs Γ (X.blk s H scope (compEnvC scope cl C X.env) fp) ifs t)
    (he : ∀ (s : Shared) (H : Hp) (C : Addr) (cl : List (Str × Addr)) (fp : List Addr), PD Γ WN (X.blk s H scope (compEnvC scope cl C X.env) fp) elt f) (hs : ∀ x, foldedSetIterable iter X.env x = pure x := by intro _; rfl) :
    PSt Γ W X (.Assign [.Name y py] (.ListComp elt [⟨tg, iter, ifs, 0⟩] scope pos) spos) (sSet i (eNewC (eLcK (own.map (·.2)) π tgf t f))) := by
  obtain ⟨te, h1, h2⟩ := hi.pl
  have base := ps_setLc (pos := pos) hc hN hy hyl hsw (pi_keys (tg := tg) h1) ok (fun s H C cl fp => (hg s H C cl fp).can) (fun s H C cl fp => (ht s H C cl fp).pt) (fun s H C cl fp => (he s H C cl fp).pe) hs
  exact ⟨(base.or (ps_lock base)).csq fun D σ H h => lcK_T hv gCan_ok h2 (newC_TF h)⟩
section
variable {i : Nat} {y : Str} {py : Pos} {spos : Pos} {elt tg : Expr} {x : Str} {xpos : Pos} {ifs : List Expr} {scope : Scope} {is : List Nat} {tgf : D → LS → Option LS} {t : E Bool}
theorem st_setLcDx (mk : E D → S) (hmk : ∀ (D1 : Ends) (σ : L2.St) (H : Hp) (f : E D), TSt Γ W (mk f) D1 σ H → tAsg (TF Γ W f) (gName i) D1 σ H) (own : List (Str × Nat)) (hc : X.calm = true) (hN : X.N.Nodup) (hy : X.N[i]? = some y) (hyl : X.env.scope.names.lookup y = some .local)
    (hsw : swapsWith (.ListComp elt [⟨tg, .Name x xpos, ifs, 0⟩] scope pos) (some (.Name y py)) spos.line X.env = pure true) (n : Nat) (hx : X.N[n]? = some x) (hvis : Vis X.env.scope x) (ok : BlkOk X.N X.env.scope scope own)
    (hv : ∀ i ∈ is, i ∈ own.map (·.2))
    (hg : ∀ (s : Shared) (H : Hp) (C : Addr) (cl : List (Str × Addr)) (fp : List Addr), PTar Γ (X.blk s H scope (compEnvC scope cl C X.env) fp) tg is tgf) (ht : ∀ (s : Shared) (H : Hp) (C : Addr) (cl : List (Str × Addr)) (fp : List Addr), PTs Γ (X.blk s H scope (compEnvC scope cl C X.env) fp) ifs t)
    (he : ∀ (s : Shared) (H : Hp) (C : Addr) (cl : List (Str × Addr)) (fp : List Addr), PD Γ WN (X.blk s H scope (compEnvC scope cl C X.env) fp) elt f) (hd : (x == ("__debug__" : Str)) = false) (hcd : (x == ("__classdict__" : Str)) = false) (hs : ∀ y, foldedSetIterable (.Name x xpos) X.env y = pure y) :
    PSt Γ W X (.Assign [.Name y py] (.ListComp elt [⟨tg, .Name x xpos, ifs, 0⟩] scope pos) spos) (mk (eLcD (own.map (·.2)) n tgf t f)) := by
  have base := ps_setLc (pos := pos) hc hN hy hyl hsw (pi_keys (tg := tg) (pe_var (pos := xpos) hx hvis hd hcd)) ok (fun s H C cl fp => (hg s H C cl fp).can) (fun s H C cl fp => (ht s H C cl fp).pt) (fun s H C cl fp => (he s H C cl fp).pe) hs
  exact ⟨(base.or (ps_lock base)).csq fun D σ H h => lcD_T (x := x) hv gCan_ok (hmk D σ H _ h)⟩
end
section
variable {i n : Nat} {y x : Str} {py spos xpos : Pos} {elt tg : Expr} {ifs : List Expr} {scope : Scope} {is : List Nat} {tgf : D → LS → Option LS} {t : E Bool}
theorem st_setLcFD (own : List (Str × Nat)) (hc : X.calm = true) (hN : X.N.Nodup) (hy : X.N[i]? = some y) (hyl : X.env.scope.names.lookup y = some .local)
    (hsw : swapsWith (.ListComp elt [⟨tg, .Name x xpos, ifs, 0⟩] scope pos) (some (.Name y py)) spos.line X.env = pure true) (n : Nat) (hx : X.N[n]? = some x) (hvis : Vis X.env.scope x) (ok : BlkOk X.N X.env.scope scope own)
    (hv : ∀ i ∈ is, i ∈ own.map (·.2))
    (hg : ∀ (s : Shared) (H : Hp) (C : Addr) (cl : List (Str × Addr)) (fp : List Addr), PTar Γ (X.blk s H scope (compEnvC scope cl C X.env) fp) tg is tgf) (ht : ∀ (s : Shared) (H : Hp) (C : Addr) (cl : List (Str × Addr)) (fp : List Addr), PTs Γ (X.blk s H scope (compEnvC scope cl C X.env) fp) ifs t)
    (he : ∀ (s : Shared) (H : Hp) (C : Addr) (cl : List (Str × Addr)) (fp : List Addr), PD Γ WN (X.blk s H scope (compEnvC scope cl C X.env) fp) elt f) (hd : (x == ("__debug__" : Str)) = false := by decide) (hcd : (x == ("__classdict__" : Str)) = false := by decide) (hs : ∀ y, foldedSetIterable (.Name x xpos) X.env y = pure y := by intro _; rfl) :
    PSt Γ W X (.Assign [.Name y py] (.ListComp elt [⟨tg, .Name x xpos, ifs, 0⟩] scope pos) spos) (sSetF i (eLcD (own.map (·.2)) n tgf t f)) :=
  st_setLcDx (fun q => sSetF i q) (fun D1 σ H f h => setF_T h) own hc hN hy hyl hsw n hx hvis ok hv hg ht he hd hcd hs
theorem st_setLcD (own : List (Str × Nat)) (hc : X.calm = true) (hN : X.N.Nodup) (hy : X.N[i]? = some y) (hyl : X.env.scope.names.lookup y = some .local)
    (hsw : swapsWith (.ListComp elt [⟨tg, .Name x xpos, ifs, 0⟩] scope pos) (some (.Name y py)) spos.line X.env = pure true) (n : Nat) (hx : X.N[n]? = some x) (hvis : Vis X.env.scope x) (ok : BlkOk X.N X.env.scope scope own)
    (hv : ∀ i ∈ is, i ∈ own.map (·.2))
    (hg : ∀ (s : Shared) (H : Hp) (C : Addr) (cl : List (Str × Addr)) (fp : List Addr), PTar Γ (X.blk s H scope (compEnvC scope cl C X.env) fp) tg is tgf) (ht : ∀ (s : Shared) (H : Hp) (C : Addr) (cl : List (Str × Addr)) (fp : List Addr), PTs Γ (X.blk s H scope (compEnvC scope cl C X.env) fp) ifs t)
    (he : ∀ (s : Shared) (H : Hp) (C : Addr) (cl : List (Str × Addr)) (fp : List Addr), PD Γ WN (X.blk s H scope (compEnvC scope cl C X.env) fp) elt f) (hd : (x == ("__debug__" : Str)) = false := by decide) (hcd : (x == ("__classdict__" : Str)) = false := by decide) (hs : ∀ y, foldedSetIterable (.Name x xpos) X.env y = pure y := by intro _; rfl) :
    PSt Γ W X (.Assign [.Name y py] (.ListComp elt [⟨tg, .Name x xpos, ifs, 0⟩] scope pos) spos) (sSet i (eLcD (own.map (·.2)) n tgf t f)) :=
  st_setLcDx (fun q => sSet i q) (fun D1 σ H f h => T.of_TF (setV_T h)) own hc hN hy hyl hsw n hx hvis ok hv hg ht he hd hcd hs
theorem st_setLcDC (own : List (Str × Nat)) (hc : X.calm = true) (hN : X.N.Nodup) (hy : X.N[i]? = some y) (hyl : X.env.scope.names.lookup y = some .local)
    (hsw : swapsWith (.ListComp elt [⟨tg, .Name x xpos, ifs, 0⟩] scope pos) (some (.Name y py)) spos.line X.env = pure true) (n : Nat) (hx : X.N[n]? = some x) (hvis : Vis X.env.scope x) (ok : BlkOk X.N X.env.scope scope own)
    (hv : ∀ i ∈ is, i ∈ own.map (·.2))
    (hg : ∀ (s : Shared) (H : Hp) (C : Addr) (cl : List (Str × Addr)) (fp : List Addr), PTar Γ (X.blk s H scope (compEnvC scope cl C X.env) fp) tg is tgf) (ht : ∀ (s : Shared) (H : Hp) (C : Addr) (cl : List (Str × Addr)) (fp : List Addr), PTs Γ (X.blk s H scope (compEnvC scope cl C X.env) fp) ifs t)
    (he : ∀ (s : Shared) (H : Hp) (C : Addr) (cl : List (Str × Addr)) (fp : List Addr), PD Γ WN (X.blk s H scope (compEnvC scope cl C X.env) fp) elt f) (hd : (x == ("__debug__" : Str)) = false := by decide) (hcd : (x == ("__classdict__" : Str)) = false := by decide) (hs : ∀ y, foldedSetIterable (.Name x xpos) X.env y = pure y := by intro _; rfl) :
    PSt Γ W X (.Assign [.Name y py] (.ListComp elt [⟨tg, .Name x xpos, ifs, 0⟩] scope pos) spos) (sSet i (eNewC (eLcD (own.map (·.2)) n tgf t f))) :=
  st_setLcDx (fun q => sSet i (eNewC q)) (fun D1 σ H f h => newC_TF h) own hc hN hy hyl hsw n hx hvis ok hv hg ht he hd hcd hs
end
/-! ### list(range(..)) -/
theorem rgV_rel {i j : Int} : RDs Γ g (rangeD i (j - i).toNat) (rgV i j) := by
  unfold rangeD rgV
  have : ∀ xs : List Nat, RDs Γ g (xs.map fun (q : Nat) => D.int (i + (q : Int))) (xs.map fun (q : Nat) => V.int (i + (q : Int))) := by
    intro xs
    induction xs with
    | nil => exact RDs.nil
    | cons x xs ih => exact RDs.cons RD.int ih
  exact this _
def eLsRg1 (f : E D) : E D := fun st => (f st).bind fun d s1 => match d with
  | .int j => if -(2 ^ 62) ≤ j ∧ j ≤ 16777216 then .ok (.lst (rangeD 0 j.toNat)) s1 else .bad
  | _ => .bad
theorem pf_lsRg1 {ppos2 rpos : Pos} (hc : X.calm = true) (hl : Gl X "list") (hml : X.mg "list" = none) (hg : Gl X "range") (hm : X.mg "range" = none) (x : PD Γ W X e f) (na : starEach [e] X.env = (false, eval e X.env) :: starEach [] X.env := by rfl)
    (nb : starEach [.Call (.Name "range" ppos2) [e] [] rpos] X.env = (false, eval (.Call (.Name "range" ppos2) [e] [] rpos) X.env) :: starEach [] X.env := by rfl) :
    PF Γ W X (.Call (.Name "list" ppos) [.Call (.Name "range" ppos2) [e] [] rpos] [] pos) (eLsRg1 f) := by
  refine ⟨(pe_listRg hc hl hml (prg_1 hg hm x.pe na) nb).csq fun σ H Q ⟨Z, Lt, g, st, s, h⟩ => ⟨Z, Lt, g, st, s, (Go.bind h).imp fun d g1 st1 H1 s1 t1 k1 v r => ?_⟩⟩
  have h := k1 g1 H1 s1 (GT.refl _ _)
  cases d with
  | int q =>
    simp only [RD] at r; subst r
    simp only at h
    split at h
    · rename_i hq
      refine ⟨q, rfl, ⟨by omega, by omega, by omega, by omega, by omega⟩, fun p n => ?_⟩
      have rr : RDs Γ g1 (rangeD 0 q.toNat) (rgV 0 q) := by
        have := rgV_rel (Γ := Γ) (g := g1) (i := 0) (j := q)
        rwa [Int.sub_zero] at this
      obtain ⟨s', t, x⟩ := s1.newT (d := .lst (rangeD 0 q.toNat)) (o := .lst (rgV 0 q)) n rr
      exact h _ _ s' t p x
    · exact h.elim
  | _ => exact h.elim
@[simp] theorem eLsRg1_s : eLsRg1 f st = (f st).bind fun d s1 => match d with
  | .int j => if -(2 ^ 62) ≤ j ∧ j ≤ 16777216 then .ok (.lst (rangeD 0 j.toNat)) s1 else .bad
  | _ => .bad := id rfl
end
end PL

/-! PyLite, part zg: dict displays. -/
namespace PL
open PySem PySem.Spec PyProof.Rows L2
section
variable {Γ : Tab} {W : WX} {Z Z' : Hp} {Lt Lt' : Lend} {g g' g0 g1 : GM} {st st' st1 : LS} {σ σ' : L2.St} {H H' H1 : Hp} {h h' : List LO} {a p : Addr} {o : HO} {d : D} {v : V} {X : Cx} {e e1 e2 e3 e4 : Expr} {es : List Expr} {f k l j : E D} {pos pos2 ppos apos tpos mpos : Pos} {stm : Stmt} {sts : List Stmt} {f1 f2 : S} {D0 : Ends}
def RDps (Γ : Tab) (g : GM) : List (D × D) → List (V × V) → Prop
  | [], xs => xs = []
  | p :: ps, xs => ∃ x y q, xs = (x, y) :: q ∧ RD Γ g p.1 x ∧ RD Γ g p.2 y ∧ RDps Γ g ps q
theorem RDps.up : ∀ {ps : List (D × D)} {xs : List (V × V)}, RDps Γ g ps xs → GT Z g g' → RDps Γ g' ps xs
  | [], _, r, _ => r
  | p :: ps, _, r, t => by
    obtain ⟨x, y, q, rfl, r1, r2, r3⟩ := r
    exact ⟨x, y, q, rfl, r1.up t, r2.up t, RDps.up r3 t⟩
def ePNil : E (List (D × D)) := fun st => .ok [] st
def ePCons (k v : E D) (r : E (List (D × D))) : E (List (D × D)) := fun st => (k st).bind fun x s1 => (v s1).bind fun y s2 => (r s2).bind fun ps s3 => .ok ((x, y) :: ps) s3
structure PPD (Γ : Tab) (W : WX) (X : Cx) (pos : Pos) (keys : List (Option Expr)) (values : List Expr) (F : E (List (D × D))) : Prop where
  pp : ∃ trs, PPs X pos keys values trs ∧ ∀ (σ : L2.St) (H : Hp) (Q : List (V × V) → Hp → Prop) (Z : Hp) (Lt : Lend) (g : GM) (st : LS), SR Γ Z Lt g st σ H → Go Γ W Z Lt σ (F st) g (fun ps g' _ H' => ∀ xs, RDps Γ g' ps xs → Q xs H') → tPairs trs σ H Q
theorem ppd_nil : PPD Γ W X pos [] [] ePNil := ⟨[], pps_nil, fun σ H Q Z Lt g st s h => h g H s (GT.refl _ _) [] rfl⟩
theorem ppd_cons {ks : List (Option Expr)} {vs : List Expr} {F : E (List (D × D))} (x : PD Γ W X e1 f) (y : PD Γ W X e2 k) (z : PPD Γ W X pos ks vs F) : PPD Γ W X pos (some e1 :: ks) (e2 :: vs) (ePCons f k F) := by
  obtain ⟨trs, h1, h2⟩ := z.pp
  refine ⟨_, pps_cons x.pe y.pe h1, fun σ H Q Z Lt g st s h => ?_⟩
  refine ⟨Z, Lt, g, st, s, (Go.bind h).imp fun d g1 st1 H1 s1 t1 k1 v r => ?_⟩
  refine ⟨Z, Lt, g1, st1, s1, (Go.bind (k1 g1 H1 s1 (GT.refl _ _))).imp fun c g2 st2 H2 s2 t2 k2 w r2 => ?_⟩
  refine h2 σ H2 _ Z Lt g2 st2 s2 ((Go.bind (k2 g2 H2 s2 (GT.refl _ _))).imp fun ps g3 st3 H3 s3 t3 k3 xs r3 => ?_)
  have k4 := k3 g3 H3 s3 (GT.refl _ _)
  exact k4 g3 H3 s3 (GT.refl _ _) _ ⟨v, w, xs, rfl, (r.up t2).up t3, r2.up t3, r3⟩
def pairsK : List (D × D) → Option (List (Key × D))
  | [] => some []
  | p :: ps => match dKey p.1, pairsK ps with
    | some k, some r => some ((k, p.2) :: r)
    | _, _ => none
def mergeD (kvs more : List (Key × D)) : List (Key × D) := more.foldl (fun acc kv => putD acc kv.1 kv.2) kvs
theorem pairsK_rel : ∀ {ps : List (D × D)} {xs : List (V × V)} {kvs : List (Key × D)}, RDps Γ g ps xs → pairsK ps = some kvs → ∃ ws : List (Key × V), xs = ws.map (fun kv => (kV kv.1, kv.2)) ∧ ws.length = kvs.length ∧ RDk Γ g kvs ws
  | [], _, _, r, e => by cases e; exact ⟨[], r, rfl, RDk.nil⟩
  | p :: ps, _, kvs, r, e => by
    obtain ⟨x, y, q, rfl, r1, r2, r3⟩ := r
    simp only [pairsK] at e
    split at e
    · rename_i k' r' ek er
      cases e
      obtain ⟨ws, rfl, hl, rk⟩ := pairsK_rel r3 er
      refine ⟨(k', y) :: ws, ?_, by simp [hl], ?_⟩
      · rw [r1.key ek]; rfl
      · simp only [RDk]
        exact ⟨y, ws, rfl, r2, rk⟩
    · cases e
theorem mergeD_rel : ∀ {more : List (Key × D)} {ms : List (Key × V)} {kvs : List (Key × D)} {ws : List (Key × V)}, RDk Γ g more ms → RDk Γ g kvs ws → RDk Γ g (mergeD kvs more) (mergeK ws ms)
  | [], ms, kvs, ws, r, q => by
    simp only [RDk] at r; subst r; exact q
  | m :: more, ms, kvs, ws, r, q => by
    simp only [RDk] at r
    obtain ⟨v, q', rfl, r1, r2⟩ := r
    show RDk Γ g (mergeD (putD kvs m.1 m.2) more) (mergeK (putK ws m.1 v) q')
    exact mergeD_rel r2 (q.put r1)
def eDisp (F : E (List (D × D))) : E D := fun st => ((F st).bind fun ps s1 => match pairsK ps with
  | some kvs => if kvs.length ≤ 15 then .ok (.dic (mergeD [] kvs)) s1 else .bad
  | none => .bad).nox
theorem pf_disp {keys : List (Option Expr)} {values : List Expr} {F : E (List (D × D))} (x : PPD Γ W X pos keys values F) (hall : keys.all (·.isSome) = true) (hl : keys.length = values.length) (h0 : keys ≠ []) (h15 : keys.length ≤ 15) :
    PF Γ W X (.Dict keys values pos) (eDisp F) := by
  obtain ⟨trs, h1, h2⟩ := x.pp
  refine ⟨(pe_disp h1 hall hl h0 h15).csq fun σ H Q ⟨Z, Lt, g, st, s, h⟩ p n => ?_⟩
  obtain ⟨g', s', t, x⟩ := s.newTD n RDk.nil
  have x2 := x
  obtain ⟨x1, xz, xo, xm, _⟩ := x2
  have s2 := s'.prot x upd_same
  unfold eDisp at h
  refine h2 σ _ _ _ Lt g' st s2 ?_
  cases eF : F st with
  | ok ps st1 =>
    rw [eF] at h
    simp only [bind_ok] at h
    intro g1 H1 s3 t3 xs rp
    obtain ⟨u1, u2, u3, u4⟩ := s3.unprot xz s.sh.lz
    obtain ⟨v1, v2⟩ := t3.unprot xz
    split at h
    · rename_i kvs ek
      split at h
      · rename_i hk
        obtain ⟨ws, e1, e2, rk⟩ := pairsK_rel rp ek
        refine ⟨u2, ws, e1, by rw [e2]; exact hk, ?_⟩
        have s5 := u1.updT u3 xz (v2.trans xo) u4 (.dK (mergeK [] ws))
        exact h g1 _ s5 (t.trans v1) p ⟨u3, xz, v2.trans xo, u4, _, upd_same, mergeD_rel rk RDk.nil⟩
      · exact h.elim
    · exact h.elim
  | exc x st1 => rw [eF] at h; exact h.elim
  | bad => rw [eF] at h; exact h.elim
@[simp] theorem ePNil_s : ePNil st = .ok [] st := id rfl
@[simp] theorem ePCons_s {r : E (List (D × D))} : ePCons f k r st = (f st).bind fun x s1 => (k s1).bind fun y s2 => (r s2).bind fun ps s3 => .ok ((x, y) :: ps) s3 := id rfl
@[simp] theorem eDisp_s {F : E (List (D × D))} : eDisp F st = ((F st).bind fun ps s1 => match pairsK ps with
  | some kvs => if kvs.length ≤ 15 then .ok (.dic (mergeD [] kvs)) s1 else .bad
  | none => .bad).nox := id rfl
end
end PL

/-! Loops and comprehensions over cells, as plain Lean. -/
namespace PX
open PySem PySem.Spec PyProof.Rows L2 PL
theorem turnsS {tg : D → LS → Option LS} {b : S} {d : D} {ds : List D} {st s1 s2 : LS} {r : SRes} (h1 : tg d st = some s1) (h2 : b s1 = .nx s2 ∨ b s1 = .ct s2) (h3 : turns tg b ds s2 = r) : turns tg b (d :: ds) st = r := by
  rw [turns, h1]
  rcases h2 with h2 | h2 <;> simp only [h2, h3]
theorem cell_h {st : LS} {r : Nat} {d : D} (e : st.h[r]? = some (.cell d)) : st.cell r = some d := by unfold LS.cell; rw [e]
theorem turnsC_inv {rc : Nat} {full : List D} {tg : D → LS → Option LS} {b : S} (I : List D → LS → Prop) (hc : ∀ ds st, I ds st → st.h[rc]? = some (.cell (.lst full)))
    (step : ∀ d r st, I (d :: r) st → ∃ s1, tg d st = some s1 ∧ ∃ s2, (b s1 = .nx s2 ∨ b s1 = .ct s2) ∧ I r s2) :
    ∀ (ds : List D) (i : Nat) (st : LS), full.drop i = ds → I ds st → ∃ st', turnsC rc tg b ds i st = .nx st' ∧ I [] st'
  | [], i, st, hd, h => by
    have := cell_h (hc _ _ h)
    have hl : full.length ≤ i := by simpa using hd
    exact ⟨st, by rw [turnsC, this]; simp [hl], h⟩
  | d :: r, i, st, hd, h => by
    have hcell := cell_h (hc _ _ h)
    have hl : i < full.length := by
      have : (full.drop i).length = (d :: r).length := by rw [hd]
      simp at this; omega
    have hi : full[i]? = some d := by
      have : (full.drop i)[0]? = some d := by rw [hd]; rfl
      simpa using this
    have hr : full.drop (i + 1) = r := by
      have := List.drop_eq_getElem_cons hl
      rw [hd] at this
      exact (List.cons.inj this).2.symm
    obtain ⟨s1, e1, s2, e2, i2⟩ := step d r st h
    obtain ⟨st', e3, i3⟩ := turnsC_inv I hc step r (i + 1) s2 hr i2
    refine ⟨st', ?_, i3⟩
    rw [turnsC, hcell]
    simp only [hi, e1]
    rcases e2 with e2 | e2 <;> simp only [e2, e3]
/-- a list by value, or a cell that stands -/
def Lv (X : D) (full : List D) (h : List LO) : Prop := X = .lst full ∨ ∃ r, X = .obj r ∧ h[r]? = some (.cell (.lst full))
theorem Lv.app {X : D} {full : List D} {h : List LO} (x : Lv X full h) (t : List LO) : Lv X full (h ++ t) := by
  rcases x with x | ⟨r, x, e⟩
  · exact .inl x
  · exact .inr ⟨r, x, by rw [List.getElem?_append_left (List.getElem?_eq_some_iff.mp e).1]; exact e⟩
theorem Lv.dr {X : D} {full : List D} {s : List (Option FV)} {h : List LO} (x : Lv X full h) : LS.dr ⟨s, h⟩ X = .lst full := by
  rcases x with rfl | ⟨r, rfl, e⟩
  · rfl
  · simp [e]
/-- for x in X, X a list or a cell, the heap stands -/
theorem forX_inv {f : E D} {tg : D → LS → Option LS} {b : S} {st s1 : LS} {X : D} {full : List D} (I : List D → LS → Prop) (e : f st = .ok X s1) (hx : Lv X full s1.h) (hh : ∀ ds st, I ds st → st.h = s1.h)
    (step : ∀ d r st, I (d :: r) st → ∃ s1, tg d st = some s1 ∧ ∃ s2, (b s1 = .nx s2 ∨ b s1 = .ct s2) ∧ I r s2) (h0 : I full s1) : ∃ st', sForX f tg b st = .nx st' ∧ I [] st' := by
  rcases hx with rfl | ⟨r, rfl, ec⟩
  · obtain ⟨st', e1, e2⟩ := turns_inv I step full s1 h0
    refine ⟨st', ?_, e2⟩
    rw [sForX, e]; exact e1
  · obtain ⟨st', e1, e2⟩ := turnsC_inv (rc := r) I (fun ds st h => by rw [hh ds st h]; exact ec) step full 0 s1 rfl h0
    refine ⟨st', ?_, e2⟩
    rw [sForX, e]
    show (match s1.cell r with | some (.lst ds) => turnsC r tg b ds 0 s1 | _ => .bad) = _
    rw [cell_h ec]; exact e1
theorem lcTC_map {rc : Nat} {full : List D} {vs : List Nat} {tg : D → LS → Option LS} {t : E Bool} {e : E D} (st : LS) (hc : st.h[rc]? = some (.cell (.lst full))) (q : D → Bool) (y : D → D) : ∀ (ds : List D) (i : Nat) (acc : List D), full.drop i = ds → (∀ d ∈ ds, ∃ s1, tg d st = some s1 ∧ ∃ s2, t s1 = .ok (q d) s2 ∧ (q d = true → ∃ s3, e s2 = .ok (y d) s3 ∧ wipeS vs s3 = st) ∧ (q d = false → wipeS vs s2 = st)) →
    acc.length + ds.length ≤ 16777216 → lcTC rc vs tg t e ds i acc st = .ok (acc ++ (ds.filter q).map y) st
  | [], i, acc, hd, _, _ => by
    have hl : full.length ≤ i := by simpa using hd
    simp [lcTC, cell_h hc, hl]
  | d :: r, i, acc, hd, h, hl => by
    have hlt : i < full.length := by
      have : (full.drop i).length = (d :: r).length := by rw [hd]
      simp at this; omega
    have hi : full[i]? = some d := by
      have : (full.drop i)[0]? = some d := by rw [hd]; rfl
      simpa using this
    have hrr : full.drop (i + 1) = r := by
      have := List.drop_eq_getElem_cons hlt
      rw [hd] at this
      exact (List.cons.inj this).2.symm
    obtain ⟨s1, e1, s2, e2, h3, h4⟩ := h d List.mem_cons_self
    have hr := fun d m => h d (List.mem_cons_of_mem _ m)
    rw [List.length_cons] at hl
    rw [lcTC, cell_h hc]
    simp only [hi, e1, e2, nox_ok, bind_ok]
    cases hq : q d with
    | false =>
      rw [h4 hq]
      simp only [Bool.false_eq_true, if_false]
      rw [lcTC_map st hc q y r (i + 1) acc hrr hr (by omega), List.filter_cons, hq]
      simp
    | true =>
      obtain ⟨s3, e3, e4⟩ := h3 hq
      simp only [if_true, e3, nox_ok, bind_ok]
      rw [if_pos (by omega), e4, lcTC_map st hc q y r (i + 1) (acc ++ [y d]) hrr hr (by simp; omega), List.filter_cons, hq]
      simp
theorem lcX_map {vs : List Nat} {f : E D} {tg : D → LS → Option LS} {t : E Bool} {e : E D} {st s1 : LS} {X : D} {full : List D} (q : D → Bool) (y : D → D) (ef : f st = .ok X s1) (hx : Lv X full s1.h) (hw : (wipeS vs s1).h = s1.h)
    (h : ∀ d ∈ full, ∃ s2, tg d (wipeS vs s1) = some s2 ∧ ∃ s3, t s2 = .ok (q d) s3 ∧ (q d = true → ∃ s4, e s3 = .ok (y d) s4 ∧ wipeS vs s4 = wipeS vs s1) ∧ (q d = false → wipeS vs s3 = wipeS vs s1)) (hl : full.length ≤ 16777216) :
    eLcX vs f tg t e st = .ok (.lst ((full.filter q).map y)) (wipeS vs s1) := by
  rcases hx with rfl | ⟨r, rfl, ec⟩
  · rw [eLcX, ef]
    show (lcT vs tg t e full [] (wipeS vs s1)).bind _ = _
    rw [lcT_map (wipeS vs s1) q y full [] h (by simpa using hl)]
    rfl
  · rw [eLcX, ef]
    show (match s1.cell r with | some (.lst ds) => (lcTC r vs tg t e ds 0 [] (wipeS vs s1)).bind fun ys s2 => .ok (PL.D.lst ys) s2 | _ => .bad) = _
    rw [cell_h ec]
    show (lcTC r vs tg t e full 0 [] (wipeS vs s1)).bind _ = _
    rw [lcTC_map (wipeS vs s1) (by rw [hw]; exact ec) q y full 0 [] rfl h (by simpa using hl)]
    rfl
end PX

/-! PyLite, part zh: calls of no arguments; sorted(set(xs)); ranges with a step. -/
namespace PLS
open PySem PySem.Spec PyProof.Rows L2
abbrev sob (w : World) : Obj := { cls := .type "set", dict := none, data := .set #[] 0 (.fresh 0 0 (!w.params.followText "set-order")) }
section
variable {prog : Program} {w : World} {A : Around} {E : Value → Shared → Prop} {s : Shared}
set_option maxHeartbeats 3200000 in
/-- set(xs), xs a list of ints -/
theorem set_list {l : Addr} {xs : Array Value} (ms : List Int) {Q : Value → Shared → Prop} (un : A.handled = none) (il : s.heap.IsList l xs) (ia : IntsAre xs.toList ms) (sb : ms.length + 1 < scanBound)
    (kq : ∀ (h2 : Heap) (t2 m : Nat), SetR w h2 s.heap.objs.size (fun j => decide (j ∈ ms)) m → m ≤ ms.length → (∀ b u, s.heap.get? b = some u → h2.get? b = some u) → Q (.ref s.heap.objs.size) { s with heap := h2, toks := t2 }) :
    wpAny (model prog w) A (call (.type "set") [.ref l]) Q E s := by
  have xl : xs.size = ms.length := by have z := IntsAre.length ia; rwa [Array.length_toList] at z
  obtain ⟨c0, r0, m0⟩ := F.called_set.mro
  have f1 := F.called_set.made; have f2 := F.called_set.sub; have f3 := F.called_set.notType; have f4 := F.called_set.canCreate; have f5 := F.typeCall_set_1 (.ref l)
  refine wpAny_call (codeAny_of_tree (wpAny_pure ⟨Code.quiet_builtin _ (by decide +kernel), codeAny_builtin F.entry_type_call ?_⟩))
  rw [Around.under_plain (weight_type_call_type "set" [.ref l] []) rfl]
  repeat (any_goals (first | assumption | wp_step))
  refine codeAny_mono (code_set_led1 (.ref l) (E := E) (Q₁ := fun x u => x = .ref s.heap.objs.size ∧ u = { s with heap := s.heap.push (sob w) }) ⟨rfl, rfl⟩) fun z u hz => ?_
  match z, hz with
  | .error _, hz => exact hz
  | .ok (.ret y), hz =>
    obtain ⟨e1, e2⟩ := hz
    subst e1 e2
    have g1 : (s.heap.push (sob w)).get? s.heap.objs.size = some (sob w) := Heap.get?_push_size _ rfl
    have ty : Shared.TypeIs { s with heap := s.heap.push (sob w) } (.ref s.heap.objs.size) "set" := ⟨_, g1, rfl⟩
    have b1 := F.called_set.init.lookup; have b2 := F.called_set.init.bind (.ref s.heap.objs.size)
    repeat (any_goals (first | assumption | wp_step))
    refine codeAny_mono (codeAny_call_builtin (R := wants (fun y u => y = .none ∧ ∃ h2 t2 m, u = { s with heap := h2, toks := t2 } ∧ SetR w h2 s.heap.objs.size (fun j => decide (j ∈ ms)) m ∧ m ≤ ms.length ∧ ∀ b x, s.heap.get? b = some x → h2.get? b = some x) E) F.called_set.init.plain F.entry_set_init (check_set_init_1 ty ?_)) fun y2 u2 h2 => ?_
    · obtain ⟨⟨oc, od, odt, osl⟩, go, q1, q2, q3⟩ := il
      simp only at q1 q3; subst q1 q3
      have go1 := Heap.get?_push_of_some (sob w) go
      have s1 := F.sub_list_set; have s2 := F.sub_list_frozenset; have s3 : (Value.type "list" == Value.type "dict") = false := by decide
      have il1 : (s.heap.push (sob w)).IsList l xs := ⟨_, go1, rfl, q2, rfl⟩
      have sz1 : (s.heap.push (sob w)).objs.size = s.heap.objs.size + 1 := Heap.size_push ..
      have ll := Heap.lt_size go
      unfold Builtin.«set.__init__» noKeywords Builtin.Frozenset.updateFrom
      generalize hp : pyIter = PP
      wp_walk
      subst hp
      refine wpAny_pyIter_list il1 (wpAny_bind (wpAny_runValue ?_))
      have gv : ∀ (i : Nat) (v : Value), xs[i]? = some v → ∃ k t, ms[i]? = some k ∧ v = .int k t := fun i v e => by
        have il : i < ms.length := by rw [← xl]; exact (Array.getElem?_eq_some_iff.mp e).1
        obtain ⟨t, et⟩ := PyProof.Rows.IntsAre.int_at ia i v (by rw [Array.getElem?_toList]; exact e)
        exact ⟨ms[i], t, List.getElem?_eq_getElem il, by rw [et, List.getD_eq_getElem?_getD, List.getElem?_eq_getElem il] <;> rfl⟩
      refine set_update_ints ((Walks.list (by simp [un]) (s.heap.push (sob w)).objs.size l (by rw [sz1]; exact Nat.ne_of_lt (Nat.lt_succ_of_lt ll)) xs).toS) s.heap.objs.size (by rw [sz1]; simp only [List.mem_cons, List.not_mem_nil, or_false, not_or]; exact ⟨Nat.ne_of_lt (Nat.lt_succ_self _), Nat.ne_of_gt ll⟩) ms xl sb gv (xs.size - 0) 0 _ (by omega) (Nat.zero_le _)
        ⟨⟨_, Heap.get?_push_size _ rfl, rfl, rfl⟩, il1.push _⟩ ⟨0, Nat.le_refl 0, setR_new_at (Heap.get?_push_of_some _ g1)⟩ fun u3 m3 mv c3 R3 => ?_
      obtain ⟨h3, gn, dr, t3, o3⟩ := u3
      obtain rfl : gn = s.gens := mv.gens; obtain rfl : dr = s.drawn := mv.drawn; obtain rfl : o3 = s.os := mv.os
      rw [xl] at c3
      refine wpAny_pure (show wpAny _ _ (ret Value.none) _ _ _ from wpAny_pure ⟨rfl, h3, t3, m3, rfl, R3, c3, fun b x e => ?_⟩)
      have bl := Heap.lt_size e
      exact mv.heap b x (by rw [sz1]; simp only [List.mem_cons, List.not_mem_nil, or_false, not_or]; exact ⟨Nat.ne_of_lt bl, Nat.ne_of_lt (Nat.lt_succ_of_lt bl)⟩) (Heap.get?_push_of_some _ (Heap.get?_push_of_some _ e))
    · match y2, h2 with
      | .error _, h2 => exact h2
      | .ok (.ret _), h2 =>
        obtain ⟨e1, h3, t3, m3, e2, R3, c3, kk⟩ := h2
        subst e1 e2
        repeat (any_goals (first | assumption | wp_step))
        exact kq _ _ _ R3 c3 kk
/-- sorted of a set of ints -/
theorem sorted_of_set {a : Addr} {S : Int → Bool} {m : Nat} {Q : Value → Shared → Prop} (R : SetR w s.heap a S m) (un : A.handled = none)
    (kq : ∀ u p (out : Array Value) (c : Nat) (ms : List Int), (∀ b x, s.heap.get? b = some x → u.heap.get? b = some x) → u.gens = s.gens → u.os = s.os → s.heap.objs.size ≤ p →
      u.heap.get? p = some (seqObj "list" out c) → IntsAre out.toList ms → ms.Pairwise (· < ·) → (∀ k, k ∈ ms ↔ S k = true) → ms.length = m → Q (.ref p) u) :
    wpAny (model prog w) A (call (.builtin "sorted") [.ref a]) Q E s := by
  obtain ⟨o, es, ep, t, go, ex, dt, gd, nd, mm, sb, ft, el, ri, ld⟩ := R
  refine Calls.call_function_entry kind_sorted plain_sorted entry_sorted (args_sorted1 _) ?_
  unfold Builtin.«sorted»
  refine wpAny_bind (m := checkCount "sorted" 1 1 _) (wpAny_pure (wpAny_bind (collect_set (A := A.in1) un ⟨o, go, ex.1, dt⟩ ft sb ri ld fun u vs k1 k2 k3 k4 pm => ?_)))
  have vl : vs.length = m := by rw [pm.length_eq, List.length_map, Array.length_toList]; exact el
  have vi : IntsAre vs (vs.map Builtin.Re.reRawOf) := ints_of vs fun v mv => by
    obtain ⟨e, me, q⟩ := List.mem_map.mp (pm.mem_iff.mp mv)
    obtain ⟨k, tk, z, _⟩ := gd e me
    exact ⟨k, tk, by rw [← q]; exact z⟩
  have pk := pm.map Builtin.Re.reRawOf
  rw [List.map_map] at pk
  have pk : (vs.map Builtin.Re.reRawOf).Perm (es.toList.map keyOf) := pk
  have lz : vs.length ≤ sizeLine := by rw [vl, ← el, sizeLine_eq]; unfold scanBound at sb; omega
  refine wpAny_bind (wpAny_newList ?_ lz)
  have gl : (u.heap.push (seqObj "list" vs.toArray 0)).get? u.heap.objs.size = some (seqObj "list" vs.toArray 0) := Heap.get?_push_size _ rfl
  refine wpAny_bind (wpAny_holding (wpAny_call_entry_kw slot_list_sort ⟨_, gl, rfl⟩ entry_list_sort ?_ (PySem.F.args_list_sort_1 _)))
  rw [PLR.sort_nokw]
  refine SrtR.list_sort_ordR SrtO.swo_int gl lz (fun h2 => SrtO.ints_sortable vi h2) fun out hs hb => ⟨_, rfl, ?_⟩
  obtain ⟨ms, q1, q2, q3⟩ := SrtR.ints_outR vi hs hb
  obtain ⟨c, gc⟩ := sortedHeap_at (out := if (false : Bool) = true then out.toArray.reverse else out.toArray) gl
  have pn := q2.trans pk
  have od : ms.Pairwise (· ≤ ·) := by simpa [Ordered] using q3
  refine wpAny_pure ⟨_, rfl, kq _ u.heap.objs.size _ c ms (fun b x e => ?_) k3 k4 k2 gc q1 (lt_of_le_nodup ms od (pn.nodup_iff.mpr nd)) (fun k => by rw [pn.mem_iff, ← mm k]) (by rw [pn.length_eq, List.length_map, Array.length_toList]; exact el)⟩
  have e2 := k1 b x e
  have lt := Heap.lt_size e2
  rw [sortedHeap_old (Nat.ne_of_lt lt) (Nat.lt_of_lt_of_le lt (by rw [Heap.size_push]; exact Nat.le_succ _))]
  exact Heap.get?_push_of_some _ e2
end
end PLS
namespace PLS
open PySem PySem.Spec PyProof.Rows L2
/-- an object that is the set of the ints ms -/
def setO (w : World) (a : Addr) (ms : List Int) (m : Nat) : HO := .ext fun h => SetR w h a (fun j => decide (j ∈ ms)) m
section
variable {X : Cx}
theorem cr_setL (hc : X.calm = true) : CallR X (.type "set") (fun vs H Q => ∃ (a : Addr) (ms : List Int), vs = [V.ref a] ∧ SqL X.K H a (ms.map V.int) ∧ ms.length ≤ 4000 ∧ ∀ (p : Addr) (m : Nat), m ≤ ms.length → H p = none → Q (.ref p) (upd H p (setO X.w p ms m))) := by
  intro pins s σ H vs us Q I r h
  obtain ⟨a, ms, rfl, hs, hl, q⟩ := h
  obtain ⟨its, rv, il, hz⟩ := I.list hs
  rw [Vals.ref1 r]
  refine set_list ms (I.ok.hd hc) il.isList (by simpa using rv.ints) (by unfold scanBound; omega) fun h2 t2 m R lm kk => ?_
  refine ⟨.ref s.heap.objs.size, upd H s.heap.objs.size (setO X.w s.heap.objs.size ms m), I.laid (t' := t2) kk (Nat.le_refl _) ⟨R, ?_, fun h1 h3 x k => SetR.at x k⟩, rfl, q _ m lm (I.hok.fresh (Nat.le_refl _))⟩
  obtain ⟨o, es, ep, t, go, _⟩ := R
  exact ⟨o, go⟩
theorem cr_sortedSet (hc : X.calm = true) : CallR X (.builtin "sorted") (fun vs H Q => ∃ (a : Addr) (ms : List Int) (m : Nat), vs = [V.ref a] ∧ H a = some (setO X.w a ms m) ∧ m ≤ 4000 ∧ ∀ (ns : List Int) (p : Addr), ns.Pairwise (· < ·) → (∀ k, k ∈ ns ↔ k ∈ ms) → H p = none → Q (.ref p) (upd H p (.lst (ns.map V.int)))) := by
  intro pins s σ H vs us Q I r h
  obtain ⟨a, ms, m, rfl, ha, hm, q⟩ := h
  obtain rfl := Vals.ref1 r
  have R : SetR X.w s.heap a (fun j => decide (j ∈ ms)) m := (show ObjOk X.prog X.w H s.heap a (setO X.w a ms m) from I.hok a _ ha).1
  refine sorted_of_set R (I.ok.hd hc) fun u p out c ns k1 k2 k3 k4 k5 k6 k7 k8 k9 => ?_
  have new : ObjOk X.prog X.w (upd H p (.lst (ns.map V.int))) u.heap p (.lst (ns.map V.int)) := ⟨by rw [List.length_map, k9, sizeLine_eq]; omega, out.toList, c, vals_of_ints k6, by rw [Array.toArray_toList]; exact k5⟩
  exact ⟨.ref p, upd H p (.lst (ns.map V.int)), I.call' (ch := []) k3 (Un.laid k1 k4 (I.hok.fresh k4)) (I.hok.laid k1 k4 new) (by rw [k2]; exact I.bare) (fun _ z => nomatch z), rfl, q ns p k7 (fun k => by rw [k8, decide_eq_true_eq]) (I.hok.fresh k4)⟩
end
end PLS
namespace PL
open PySem PySem.Spec PyProof.Rows L2
section
variable {Γ : Tab} {W : WX} {Z : Hp} {Lt : Lend} {g g' : GM} {st st' : LS} {σ σ' : L2.St} {H H' : Hp} {h h' : List LO} {a p : Addr} {o : HO} {d : D} {v : V} {X : Cx} {e e1 e2 e3 : Expr} {es : List Expr} {f k l : E D} {pos pos2 ppos apos : Pos}
/-! ### calls of no arguments -/
theorem dcall0 {F : Fn} {n kk : Nat} {x : Str} (Df : DefF Γ X.prog X.w X.mg X.base kk x n F) (hK : X.K = Γ.K) (tk : Takes X W) (hr : Room kk X.A) (hn : n = 0) (hg : Gl X x := by rfl) (hdb : (x == ("__debug__" : Str)) = false := by decide) :
    PD Γ W X (.Call (.Name x ppos) [] [] pos) (eCall F aNil) := by
  obtain ⟨fa, fd, ps, Fo, hm, hk, hb⟩ := Df.ex
  rw [← hK] at Fo hk hb
  have key : PE X (.Call (.Name x ppos) [] [] pos) (tCallS (spF Γ n F) (WE W) tNil) := ⟨fun pins s σ H Q I h => wpAny_Call_Name_kw (ld_glob I hg hm (PySem.W.callWith_K0 I.kIn hk (run_fnS (us := []) Fo hr hb (passAt tk σ) I .nil h)) hdb)⟩
  refine ⟨key.csq fun σ H Q ⟨Z, Lt, g, st, s, h⟩ => ?_⟩
  have h2 := Go.bind h
  unfold aNil at h2
  exact call_sp (fs := []) (vs := []) s rfl (by rw [hn]; rfl) (h2 g H s (GT.refl _ _))
/-! ### sorted(set(xs)) -/
def uniq : List Int → List Int
  | [] => []
  | x :: r => x :: (uniq r).filter fun y => decide (y ≠ x)
theorem uniq_mem : ∀ {ns : List Int} {x : Int}, x ∈ uniq ns ↔ x ∈ ns
  | [], x => by simp [uniq]
  | y :: r, x => by
    have ih := uniq_mem (ns := r) (x := x)
    rw [uniq, List.mem_cons, List.mem_cons, List.mem_filter, ih]
    by_cases c : x = y <;> simp [c]
theorem uniq_nodup : ∀ ns : List Int, (uniq ns).Nodup
  | [] => List.nodup_nil
  | y :: r => by
    rw [uniq, List.nodup_cons]
    exact ⟨by simp, (uniq_nodup r).filter _⟩
theorem uniq_len : ∀ ns : List Int, (uniq ns).length ≤ ns.length
  | [] => Nat.le_refl _
  | y :: r => by
    have := uniq_len r
    have := List.length_filter_le (fun z => decide (z ≠ y)) (uniq r)
    rw [uniq, List.length_cons, List.length_cons]
    omega
/-- sorted, each once -/
def srtU (ns : List Int) : List Int := srt (uniq ns)
theorem srtU_mem {ns : List Int} {x : Int} : x ∈ srtU ns ↔ x ∈ ns := by unfold srtU; rw [mem_srt, uniq_mem]
theorem srtU_up (ns : List Int) : (srtU ns).Pairwise (· < ·) := by
  have h1 : (srtU ns).Pairwise (· ≤ ·) := srt_sorted _
  have h2 : (srtU ns).Nodup := (srt_perm _).nodup_iff.mpr (uniq_nodup ns)
  exact (h1.and h2).imp fun {a b} h => by have := h.1; have := h.2; omega
theorem srtU_len (ns : List Int) : (srtU ns).length ≤ ns.length := by unfold srtU; rw [srt_length]; exact uniq_len ns
theorem up_unique : ∀ {a b : List Int}, a.Pairwise (· < ·) → b.Pairwise (· < ·) → (∀ x, x ∈ a ↔ x ∈ b) → a = b
  | [], [], _, _, _ => rfl
  | [], y :: b, _, _, h => absurd ((h y).mpr (by simp)) (by simp)
  | x :: a, [], _, _, h => absurd ((h x).mp (by simp)) (by simp)
  | x :: a, y :: b, ha, hb, h => by
    rw [List.pairwise_cons] at ha hb
    have e : x = y := by
      rcases List.mem_cons.mp ((h x).mp (by simp)) with c | c
      · exact c
      · rcases List.mem_cons.mp ((h y).mpr (by simp)) with c2 | c2
        · exact c2.symm
        · have := hb.1 x c; have := ha.1 y c2; omega
    subst e
    rw [up_unique ha.2 hb.2 fun z => ?_]
    have hz := h z
    rw [List.mem_cons, List.mem_cons] at hz
    constructor
    · intro m
      have := ha.1 z m
      rcases hz.mp (.inr m) with c | c
      · omega
      · exact c
    · intro m
      have := hb.1 z m
      rcases hz.mpr (.inr m) with c | c
      · omega
      · exact c
def mSortSet : Sem1 := fun x st => match x with
  | .lst ds => match intsD ds with
    | some ns => if ns.length ≤ 4000 then .ok (.lst ((srtU ns).map D.int)) st else .bad
    | none => .bad
  | _ => .bad
@[simp] theorem mSortSet_l (ds : List D) : mSortSet (.lst ds) st = match intsD ds with
    | some ns => if ns.length ≤ 4000 then .ok (.lst ((srtU ns).map D.int)) st else .bad
    | none => .bad := id rfl
theorem pf_sortSet (hK : X.K = Γ.K) (hc : X.calm = true) (hg : Gl X "sorted") (hn : X.mg "sorted" = none) (hg2 : Gl X "set") (hn2 : X.mg "set" = none) (y : PC Γ W X e f) {spos cpos : Pos}
    (hs : starEach [e] X.env = (false, eval e X.env) :: starEach [] X.env := by rfl) (hpl : (backTo cpos (starEach [] X.env)).any (·.1) = false := by rfl)
    (hs2 : starEach [.Call (.Name "set" spos) [e] [] cpos] X.env = (false, eval (.Call (.Name "set" spos) [e] [] cpos) X.env) :: starEach [] X.env := by rfl) (hpl2 : (backTo pos (starEach [] X.env)).any (·.1) = false := by rfl) :
    PF Γ W X (.Call (.Name "sorted" ppos) [.Call (.Name "set" spos) [e] [] cpos] [] pos) (eUn mSortSet f) := by
  refine ⟨(pe_callB (PLS.cr_sortedSet hc) hg hn (by decide +kernel) (pa_cons (pe_callTy (PLS.cr_setL hc) hg2 hn2 PyProof.Rows.boot_set (pa_cons y.pe pa_nil hs) (by decide) (by decide) hs hpl) pa_nil hs2) (by decide) (by decide) hs2 hpl2).csq fun σ H Q ⟨Z, Lt, g, st, s, h⟩ => ⟨Z, Lt, g, st, s, (Go.bind h).imp fun d g1 st1 H1 s1 t1 k1 v r => ?_⟩⟩
  have h := k1 g1 H1 s1 (GT.refl _ _)
  unfold mSortSet at h
  split at h
  · split at h
    · rename_i ds ns en
      split at h
      · rename_i hl
        rw [intsD_eq en] at r
        obtain ⟨b, rfl, q⟩ := r.ints s1
        refine ⟨b, ns, rfl, by rw [hK]; exact q, hl, fun p m hm n => ⟨p, ns, m, rfl, upd_same, by omega, fun ms q2 m1 m2 n2 => ?_⟩⟩
        obtain ⟨s2, t2⟩ := s1.view n (PLS.setO X.w p ns m)
        rw [up_unique m1 (srtU_up ns) fun k => by rw [m2, srtU_mem]]
        exact retF (W := W) s2 (RDs.ofInts _) (fun g3 H3 s3 t3 => h g3 H3 s3 (t2.trans t3)) q2 n2
      · exact h.elim
    · exact h.elim
  · exact h.elim
/-! ### ranges with a step -/
def rangeS (lo c : Int) (n : Nat) : List D := (List.range n).map fun (i : Nat) => D.int (lo + (i : Int) * c)
theorem rangeS_len (lo c : Int) (n : Nat) : (rangeS lo c n).length = n := by simp [rangeS]
theorem rangeS_get {lo c : Int} {n i : Nat} (h : i < n) : (rangeS lo c n)[i]? = some (.int (lo + (i : Int) * c)) := by simp [rangeS, h]
def rgN (i j c : Int) : Nat := (Builtin.Range.rangeSize i j c).toNat
instance (i j c : Int) (n : Nat) : Decidable (RgC i j c n) := by unfold RgC; exact inferInstance
def iRg3 (f k l : E D) : E (List D) := fun st => (f st).bind fun d s1 => (k s1).bind fun c s2 => (l s2).bind fun b s3 => match d, c, b with
  | .int i, .int j, .int m => if RgC i j m (rgN i j m) then .ok (rangeS i m (rgN i j m)) s3 else .bad
  | _, _, _ => .bad
@[simp] theorem iRg3_s : iRg3 f k l st = (f st).bind fun d s1 => (k s1).bind fun c s2 => (l s2).bind fun b s3 => match d, c, b with
  | .int i, .int j, .int m => if RgC i j m (rgN i j m) then .ok (rangeS i m (rgN i j m)) s3 else .bad
  | _, _, _ => .bad := id rfl
theorem it_range3 {target : Expr} (hg : Gl X "range") (hm : X.mg "range" = none) (x : PD Γ W X e1 f) (y : PD Γ W X e2 k) (z : PD Γ W X e3 l)
    (hs : starEach [e1, e2, e3] X.env = (false, eval e1 X.env) :: starEach [e2, e3] X.env := by rfl) (hs2 : starEach [e2, e3] X.env = (false, eval e2 X.env) :: starEach [e3] X.env := by rfl)
    (hs3 : starEach [e3] X.env = (false, eval e3 X.env) :: starEach [] X.env := by rfl) (hpl : (backTo pos (starEach [e2, e3] X.env)).any (·.1) = false := by rfl) :
    PIt Γ W X target (.Call (.Name "range" ppos) [e1, e2, e3] [] pos) (iRg3 f k l) := by
  refine ⟨_, pi_range3 hg hm (pa_cons x.pe (pa_cons y.pe (pa_cons z.pe pa_nil hs3) hs2) hs) hs hpl, fun σ H R ⟨Z, Lt, g, st, s, h⟩ => ⟨Z, Lt, g, st, s, (Go.bind h).imp fun d g1 st1 H1 s1 t1 k1 v r => ?_⟩⟩
  refine ⟨Z, Lt, g1, st1, s1, (Go.bind (k1 g1 H1 s1 (GT.refl _ _))).imp fun c g2 st2 H2 s2 t2 k2 w r2 => ?_⟩
  refine ⟨Z, Lt, g2, st2, s2, (Go.bind (k2 g2 H2 s2 (GT.refl _ _))).imp fun b g3 st3 H3 s3 t3 k3 u r3 => ?_⟩
  have k4 := k3 g3 H3 s3 (GT.refl _ _)
  split at k4
  · rename_i i j m
    simp only [RD] at r r2 r3; subst r r2 r3
    split at k4
    · rename_i c
      refine ⟨i, j, m, rgN i j m, rfl, c, ?_⟩
      refine k4 g3 H3 s3 (GT.refl _ _) s3 _ (fun q H g st σ hi s t => ?_) fun H g st σ s t => by rw [rangeS_len]; exact Nat.le_refl _
      rw [rangeS_len] at hi
      refine ⟨hi, fun x H' ⟨h1, h2⟩ => ?_⟩
      subst h1 h2
      exact ⟨g, _, rangeS_get hi, s, GT.refl _ _, RD.int, Quiet.refl _ _⟩
    · exact k4.elim
  · exact k4.elim
end
theorem rgc_down {i j : Int} (ha : -(2 ^ 62) ≤ i) (ha' : i < 2 ^ 62) (hb : -(2 ^ 62) ≤ j) (hb' : j < 2 ^ 62) : RgC i j (-1) (i - j).toNat := RgC.neg ha ha' hb hb'
theorem rgn_down (i j : Int) : rgN i j (-1) = (i - j).toNat := by unfold rgN; rw [PySem.W.rangeSize_downNat]; omega
theorem rgn_up {i j c : Int} (hc : 0 < c) (h : i < j) : rgN i j c = ((j - i - 1) / c + 1).toNat := by
  unfold rgN Builtin.Range.rangeSize
  rw [if_pos hc, if_pos h]
theorem rgn_nil {i j c : Int} (hc : 0 < c) (h : j ≤ i) : rgN i j c = 0 := by
  unfold rgN Builtin.Range.rangeSize
  rw [if_pos hc, if_neg (by omega)]; rfl
theorem rgc_up {i j c : Int} (hc : 0 < c) (hc2 : c ≤ 1000) (hi : 0 ≤ i) (hi2 : i ≤ 1000000000) (hj : 0 ≤ j) (hj2 : j ≤ 1000000000) : RgC i j c (rgN i j c) := by
  have hs : 0 ≤ Builtin.Range.rangeSize i j c ∧ Builtin.Range.rangeSize i j c ≤ 1000000001 := by
    unfold Builtin.Range.rangeSize
    rw [if_pos hc]
    split
    · have h1 : 0 ≤ (j - i - 1) / c := Int.ediv_nonneg (by omega) (by omega)
      have h2 : (j - i - 1) / c ≤ j - i - 1 := Int.ediv_le_self _ (by omega)
      omega
    · omega
  refine ⟨by omega, by omega, ?_, by unfold rgN; omega⟩
  unfold Builtin.Range.small
  generalize Builtin.Range.rangeSize i j c = N at *
  simp only [Builtin.Range.rangeFitsLong, Bool.and_eq_true, Bool.or_eq_true, decide_eq_true_eq, beq_iff_eq, show c > 0 from hc, if_true]
  omega
end PL
namespace PL
open PySem PySem.Spec PyProof.Rows L2
section
variable {Γ : Tab} {W : WX} {X : Cx} {pos ppos : Pos}
theorem fcall0 {F : Fn} {n kk : Nat} {x : Str} (Df : DefF Γ X.prog X.w X.mg X.base kk x n F) (hK : X.K = Γ.K) (tk : Takes X W) (hr : Room kk X.A) (hn : n = 0) (hg : Gl X x := by rfl) (hdb : (x == ("__debug__" : Str)) = false := by decide) :
    PF Γ W X (.Call (.Name x ppos) [] [] pos) (eCallF F aNil) := by
  obtain ⟨fa, fd, ps, Fo, hm, hk, hb⟩ := Df.ex
  rw [← hK] at Fo hk hb
  have key : PE X (.Call (.Name x ppos) [] [] pos) (tCallS (spF Γ n F) (WE W) tNil) := ⟨fun pins s σ H Q I h => wpAny_Call_Name_kw (ld_glob I hg hm (PySem.W.callWith_K0 I.kIn hk (run_fnS (us := []) Fo hr hb (passAt tk σ) I .nil h)) hdb)⟩
  refine ⟨key.csq fun σ H Q ⟨Z, Lt, g, st, s, h⟩ => ?_⟩
  have h2 := Go.bind h
  unfold aNil at h2
  exact callF_sp (fs := []) (vs := []) s rfl (by rw [hn]; rfl) (h2 g H s (GT.refl _ _))
end
end PL

/-! PyLite, part zi: except clauses with a name and a suite of any kind. -/
namespace PLR
open PySem PySem.Spec PyProof.Rows L2
section
variable {X : Cx} {pins : List (Addr × Obj)} {σ : L2.St} {H : Hp} {s : Shared}
theorem _root_.L2.Inv.suit (I : Inv X pins σ H s) (a : Addr) : Inv (X.suite a (X.pn ++ pins)) [] σ H s :=
  ⟨I.ok.suite _ _, I.os, I.bare, I.base, I.loc, I.cell, I.free, I.freeC, fun p hp => I.pin p (by rw [List.append_nil] at hp; exact hp), I.hok, I.len⟩
theorem _root_.L2.Inv.unsuit {a : Addr} {pn' : List (Addr × Obj)} (I : Inv (X.suite a (X.pn ++ pins)) pn' σ H s) (ok : X.Ok) : Inv X pins σ H s :=
  ⟨ok, I.os, I.bare, I.base, I.loc, I.cell, I.free, I.freeC, fun p hp => I.pin p (List.mem_append_left _ hp), I.hok, I.len⟩
end
/-- what the clause wishes: the exception is known in the suite, under its name -/
def wSuite (K : PySem.W.Frag) (c : Value) (i : Nat) (ts : Addr → Value → Option Addr → TS) (Wout : WX) (D : Ends) : WX := fun cls d σ H =>
  ∃ b, PySem.W.exmOne K cls c = some b ∧ (b = true → ∃ C : Addr, cls = .ref C ∧ d = none ∧ ∀ a, H a = none →
      ts a cls d { nx := fun σ' H' => D.nx (σ'.set i none) H', rt := D.rt, bk := fun σ' H' => D.bk (σ'.set i none) H', ct := fun σ' H' => D.ct (σ'.set i none) H' } (σ.set i (some (.ref a))) (upd H a (erX a C))) ∧
    (b = false → Wout cls d σ H)
section
variable {X : Cx} {x n : Str} {c : Value} {i : Nat} {body suite : List Stmt} {b₀ : Stmt} {np pos pos' : Pos} {tb : WX → TS} {ts : Addr → Value → Option Addr → TS} {Wout : WX}
theorem try_suite (hx0 : X.ex = []) (hs : X.stack = X.env :: X.outer) (hf : X.env.frame = some X.env.locals) (hN : X.N.Nodup) (hi : X.N[i]? = some n) (hln : X.env.kindOf n = some .local) (hc : Names X x c) (tk : Takes X Wout)
    (hb : ∀ (W : WX) (pn : List (Addr × Obj)) (xe : Value → Shared → Prop), Takes (X.tr pn xe) W → PassesOwn (model X.prog X.w) X.A X.env xe → PSs (X.tr pn xe) body (tb W))
    (hsu : ∀ (a : Addr) (oe : Obj) (cls : Value) (d : Option Addr) (pn : List (Addr × Obj)), Zc cls d oe → (∃ vs, oe.data = .fields vs) → PSs (X.suite a pn) (b₀ :: suite) (ts a cls d)) :
    PS X (.Try body [.ExceptHandler (some (.Name x np)) (some n) (b₀ :: suite) pos'] [] [] pos) (fun D σ H => tb (wSuite X.K c i ts Wout D) D σ H) := by
  refine ⟨fun pins s σ H D I hyp => wpAny_Try_except ?_⟩
  have ok := I.ok
  have hframes : X.A.frames = some (X.env :: X.outer) := by rw [ok.frames, hs]
  have hlocal : Loc X.env.scope n := .inl hln
  let after : Value → Shared → Prop := fun e s₁ => wpAny (model X.prog X.w) X.A (noteFrame e X.env) (fun _ s₂ => wpAny (model X.prog X.w) X.A (setFlight e none)
    (fun _ s₃ => wpAny (model X.prog X.w) X.A (handleBy e X.env [.ExceptHandler (some (.Name x np)) (some n) (b₀ :: suite) pos']) (SP X pins D) X.xe s₃) X.xe s₂) X.xe s₁
  have bodyRun := (hb (wSuite X.K c i ts Wout D) (X.pn ++ pins) after (fun u s' air => ?caught) PassesOwn.looking).run [] s σ H D (I.toTry _) hyp
  case caught =>
    obtain ⟨a, B, sI, pins', σ', H', cls, d, rfl, J', nb, up, sky, na, os, ag, b, hb1, hyes, hno⟩ := air
    have J : Inv X pins σ' H' sI := J'.ofTry ok
    have sky' : Sky B (X.env :: X.outer) a (Zc cls d) X.env.locals s'.heap := hs ▸ sky
    show wpAny (model X.prog X.w) X.A (noteFrame (.ref a) X.env) _ _ _
    refine Sky.land Zc.steady hframes hf sky' fun h3 fl3 up3 => ?_
    have J3 : Inv X pins σ' H' { s' with heap := h3 } := J.landed nb fl3.1 (up.trans up3) os ag
    obtain ⟨oe3, vs3, he3, hz3, hd3⟩ := fl3.there
    have nfr : a ∉ frs (X.env :: X.outer) := fun hm => by
      obtain ⟨_, o', e', hnf⟩ := fl3.2.2.1.mem hm
      rw [he3] at e'
      cases e'
      exact hnf _ hd3
    have nL : a ≠ X.env.locals := fun z => nfr (List.mem_filterMap.mpr ⟨X.env, List.mem_cons_self, by rw [hf, z]⟩)
    have nF : a ∉ X.fs := fun hm => by
      obtain ⟨e, he, q⟩ := List.mem_filterMap.mp hm
      exact nfr (List.mem_filterMap.mpr ⟨e, List.mem_cons_of_mem _ he, q⟩)
    have nI : sI.heap.get? a = none := by
      cases q : sI.heap.get? a with
      | none => rfl
      | some o =>
        have z := nb a o q (by rw [hs]; exact nfr)
        rw [fl3.2.1] at z
        cases z
    have n0 : X.s_0.heap.get? a = none := by
      cases q : X.s_0.heap.get? a with
      | none => rfl
      | some o =>
        obtain ⟨o', z⟩ := J.base.there a o q (by rw [hx0]; exact List.not_mem_nil)
        rw [nI] at z
        cases z
    have npin : ∀ p ∈ X.pn ++ pins, p.1 ≠ a := fun p hp z => by
      have q := (J.pin p hp).1
      rw [z, nI] at q
      cases q
    have S3 := J3.suite he3 hd3 na nL nF
    refine wpAny_handleBy_cons (codeAny_handlers_test ?_) (by intro q; cases q)
    have LT : PySem.W.Looks (model X.prog X.w) h3 (typeOf (.ref a)) cls := fun A Q E s k q => wpAny_typeOf_ref (k _ _ he3) (by rw [hz3.1]; exact q)
    have named : ∀ {Q : Value → Shared → Prop} {E : Value → Shared → Prop}, Q c { s' with heap := h3 } → wpAny (model X.prog X.w) (X.A.mark (some (.ref a))) (eval (.Name x np) X.env) Q E { s' with heap := h3 } := fun {Q E} q => by
      obtain ⟨hg, hdbg, hm | ⟨hm, hv, hnn⟩⟩ := hc
      · exact ld_glob (X := X.suite a ((a, oe3) :: (X.pn ++ pins))) S3 hg hm q hdbg
      · exact ld_blt (X := X.suite a ((a, oe3) :: (X.pn ++ pins))) S3 hg hm hv q hnn hdbg
    refine named ((PySem.W.exm_one (M := model X.prog X.w) J3.kIn LT hb1).here ?_)
    cases b with
    | true =>
      obtain ⟨C, eC, eD, hyes⟩ := hyes rfl
      refine codeAny_handlers_suite_as (HandSPX.lands_againZ fl3 fun h4 fl4 up4 => ?_)
      have J4 : Inv X pins σ' H' { s' with heap := h4 } := J.landed nb fl4.1 ((up.trans up3).trans up4) os ag
      obtain ⟨oe4, vs4, he4, hz4, hd4⟩ := fl4.there
      have T4 : Inv X pins σ' (upd H' a (erX a C)) { s' with heap := h4 } := keepErr J4 he4 hd4 (by rw [hz4.1, eC]) (by rw [hz4.2, eD]) na n0 nL npin
      have S4 := T4.suit a
      refine store_ok (X := X.suite a (X.pn ++ pins)) (v := .ref a) S4 hN hi hlocal rfl (fun s5 S5 => ?_) (.inr hln)
      refine wpAny_mono ((hsu a oe4 cls d (X.pn ++ pins) hz4 ⟨_, hd4⟩).run [] s5 _ (upd H' a (erX a C)) _ S5 (hyes a na)) (fun f s6 hsp => ?_) (fun _ _ z => False.elim z)
      cases f with
      | next =>
        obtain ⟨σ6, H6, S6, q6⟩ := hsp
        exact gone_ok (S6.unsuit ok) hN hi hln fun s7 J7 => ⟨_, _, J7, q6⟩
      | brk =>
        obtain ⟨σ6, H6, S6, q6⟩ := hsp
        exact gone_ok (S6.unsuit ok) hN hi hln fun s7 J7 => ⟨_, _, J7, q6⟩
      | cont =>
        obtain ⟨σ6, H6, S6, q6⟩ := hsp
        exact gone_ok (S6.unsuit ok) hN hi hln fun s7 J7 => ⟨_, _, J7, q6⟩
      | ret u =>
        obtain ⟨v6, σ6, H6, S6, r6, q6⟩ := hsp
        exact gone_ok (S6.unsuit ok) hN hi hln fun s7 J7 => ⟨_, _, _, J7, r6, q6⟩
    | false =>
      show wpAny _ X.A (handleBy (.ref a) X.env []) _ _ _
      refine wpAny_handleBy_nil ?_
      obtain ⟨_, _, _, oe, vs, T, oT, ts', he, _, _, h1, _⟩ := id fl3
      unfold PySem.passOn
      refine wpAny_bind (wpAny_field he (by assumption) h1 ?_)
      rw [if_neg (by simp : ¬ ((Value.ref T == Value.none) = true))]
      have goOn : wpAny (model X.prog X.w) X.A (setFlight (.ref a) X.env.frame) (fun _ s4 => wpAny (model X.prog X.w) X.A (throw (.ref a) : Sem Flow) (SP X pins D) X.xe s4) X.xe { s' with heap := h3 } := by
        rw [hf]
        exact HandSPX.setFlight_upZ fl3 fun h4 hh4 up4 => wpAny_throw (tk _ _ ⟨a, B, sI, pins, σ', H', cls, d, rfl, J, nb, (up.trans up3).trans up4, .inr (.inr (by rw [hs]; exact hh4)), na, os, ag, hno rfl⟩)
      first
      | exact wpAny_bind (wpAny_pure (wpAny_bind goOn))
      | exact wpAny_bind goOn
  refine wpAny_mono bodyRun (fun f s1 hsp => ?_) fun e s1 he => he
  cases f with
  | next =>
    obtain ⟨σ', H', J', q⟩ := hsp
    exact wpAny_execs_nil ⟨σ', H', J'.ofTry ok, q⟩
  | brk => obtain ⟨σ', H', J', q⟩ := hsp; exact ⟨σ', H', J'.ofTry ok, q⟩
  | cont => obtain ⟨σ', H', J', q⟩ := hsp; exact ⟨σ', H', J'.ofTry ok, q⟩
  | ret u => obtain ⟨v, σ', H', J', r, q⟩ := hsp; exact ⟨v, σ', H', J'.ofTry ok, r, q⟩
end
end PLR
namespace PL
open PySem PySem.Spec PyProof.Rows L2
section
variable {Γ : Tab} {W : WX} {Z : Hp} {Lt : Lend} {g g' : GM} {st st' : LS} {σ σ' : L2.St} {H H' : Hp} {X : Cx} {pos pos2 : Pos} {sts body : List Stmt} {f1 f2 : S} {D0 : Ends}
/-- behind the suite the name goes -/
def SRes.gone (i : Nat) : SRes → SRes
  | .nx st => .nx (st.clr i)
  | .bk st => .bk (st.clr i)
  | .ct st => .ct (st.clr i)
  | .ret x st => .ret x st
  | _ => .bad
def sTryN (i : Nat) (sub : Nat → Option Bool) (body suite : S) : S := fun st => match body st with
  | .exc x st' => match sub x.c, x.l with
    | some true, none => if i < st'.s.length then (suite (st'.set i (.val (.err x.c)))).gone i else .bad
    | some false, _ => .exc x st'
    | _, _ => .bad
  | r => r
@[simp] theorem gone_nx (i : Nat) : (SRes.nx st).gone i = .nx (st.clr i) := id rfl
@[simp] theorem gone_ret (i : Nat) {x : FV} : (SRes.ret x st).gone i = .ret x st := id rfl
@[simp] theorem sTryN_s (i : Nat) (sub : Nat → Option Bool) : sTryN i sub f1 f2 st = match f1 st with
  | .exc x st' => match sub x.c, x.l with
    | some true, none => if i < st'.s.length then (f2 (st'.set i (.val (.err x.c)))).gone i else .bad
    | some false, _ => .exc x st'
    | _, _ => .bad
  | r => r := id rfl
theorem st_tryN {i : Nat} {x n : Str} {c : Value} {sub : Nat → Option Bool} {b₀ : Stmt} {ypos : Pos} (hT : Tk Γ c sub) (hK : X.K = Γ.K) (hx0 : X.ex = []) (hs : X.stack = X.env :: X.outer) (hf : X.env.frame = some X.env.locals) (hN : X.N.Nodup) (hi : X.N[i]? = some n) (hln : X.env.kindOf n = some .local) (hc : Names X x c) (tk : Takes X W)
    (hb : ∀ (W' : WX) (pn : List (Addr × Obj)) (xe : Value → Shared → Prop), Takes (X.tr pn xe) W' → PassesOwn (model X.prog X.w) X.A X.env xe → PSts Γ W' (X.tr pn xe) body f1)
    (hsu : ∀ (a : Addr) (pn : List (Addr × Obj)), PSts Γ WN (X.suite a pn) (b₀ :: sts) f2) :
    PSt Γ W X (.Try body [.ExceptHandler (some (.Name x ypos)) (some n) (b₀ :: sts) pos2] [] [] pos) (sTryN i sub f1 f2) := by
  refine ⟨(PLR.try_suite (tb := fun W' => TSt Γ W' f1) (ts := fun _ _ _ => TSt Γ WN f2) hx0 hs hf hN hi hln hc tk (fun W' pn xe tk' ps => (hb W' pn xe tk' ps).ps) (fun a oe cls dd pn _ _ => (hsu a pn).ps)).csq fun D σ H ⟨Z, Lt, g, st, s, h⟩ => ⟨Z, Lt, g, st, s, ?_⟩⟩
  unfold sTryN at h
  revert h
  cases f1 st with
  | exc z st' =>
    intro h cls dd σ' g' H' s' t xr
    obtain ⟨C, hC, rfl, hl⟩ := xr
    simp only at h
    rw [hK]
    split at h
    · rename_i es el
      split at h
      · rename_i hlen
        rw [el] at hl
        refine ⟨true, hT.tk _ _ _ es hC, fun _ => ⟨C, rfl, hl, fun a na => ?_⟩, fun q => nomatch q⟩
        have nn := (s'.sh.new na).2.1
        have s2 := s'.new na (erO a C)
        have rd : RD Γ (g'.put a (erO a C)) (.err z.c) (.ref a) := by
          simp only [RD]
          exact ⟨a, C, rfl, hC, .inl put_same⟩
        have t2 : GT Z g (g'.put a (erO a C)) := t.trans (GT.put nn)
        refine ⟨Z, Lt, g'.put a (erO a C), _, s2.setV i rd, ?_⟩
        revert h
        cases f2 (st'.set i (.val (.err z.c))) with
        | nx s3 => exact fun h σ5 g5 H5 s5 t5 => h _ _ _ (s5.clr i) (t2.trans t5)
        | bk s3 => exact fun h σ5 g5 H5 s5 t5 => h _ _ _ (s5.clr i) (t2.trans t5)
        | ct s3 => exact fun h σ5 g5 H5 s5 t5 => h _ _ _ (s5.clr i) (t2.trans t5)
        | ret x s3 => exact fun h v g5 H5 s5 t5 fv => h v g5 H5 s5 (t2.trans t5) fv
        | exc x s3 => exact fun h => h.elim
        | bad => exact fun h => h.elim
      · exact h.elim
    · rename_i es
      exact ⟨false, hT.tk _ _ _ es hC, fun q => (nomatch q), fun _ => h (.ref C) dd σ' g' H' s' t ⟨C, hC, rfl, hl⟩⟩
    · exact h.elim
  | nx st' => exact fun h => h
  | ret x st' => exact fun h => h
  | bk st' => exact fun h => h
  | ct st' => exact fun h => h
  | bad => exact fun h => h
end
end PL

/-! PyLite, part zj: a list taken apart; of which own class a thing is. -/
namespace PLR
open PySem PySem.Spec PyProof.Rows L2
section
variable {X : Cx} {pos : Pos}
def gEit (a b : TG) : TG := fun v σ H Q => a v σ H Q ∨ b v σ H Q
theorem pg_eit {e : Expr} {a b : TG} (h1 : PG X e a) (h2 : PG X e b) : PG X e (gEit a b) :=
  ⟨fun pins s σ H v u Q I r hw => hw.elim (h1.run pins s σ H v u Q I r) (h2.run pins s σ H v u Q I r)⟩
end
/-- isinstance of an instance of an own class and an own class, one of which may be the other's -/
theorem call_isD {X : Cx} {C : Addr} : CallR X (.builtin "isinstance") (fun xs H Q => ∃ a dx fs C' b, xs = [.ref a, .ref C] ∧ H a = some (.ins C' dx fs) ∧ C8.InsC X.K C' ∧ PySem.W.kitOne X.K (.ref C') (.ref C) = some b ∧ Q (.bl b) H) := by
  intro pins s σ H xs us Q I r h
  obtain ⟨a, dx, fs, C', b, rfl, ha, c, me, q⟩ := h
  obtain ⟨u, w', rfl, ru, rw'⟩ := vals2 r
  cases rw'
  exact isinst_ok I ru (TyOf.ins ha c.cl c.ha c.hn c.htk c.hm) me fun tk => ⟨.bl b, H, I.tok _, rfl, q⟩
end PLR
namespace PL
open PySem PySem.Spec PyProof.Rows L2 PLR
section
variable {Γ : Tab} {W : WX} {X : Cx} {pos pos2 ppos : Pos} {e : Expr} {f : E D} {st : LS}
/-- the names take the parts of a pair, a list .. -/
def sUnX (is : List Nat) (f : E D) : S := fun st => SRes.of (f st) fun d s1 => match d with
  | .tup ds => if ds.length = is.length then .nx (setAll is ds s1) else .bad
  | .lst ds => if ds.length = is.length then .nx (setAll is ds s1) else .bad
  | _ => .bad
theorem unX_G {ts : List Expr} {is : List Nat} {kt : Nat} {pt : Pos} (hc : X.calm = true) (hK : X.K = Γ.K) (y : PTg X ts is) (hn : (assignEach ts X.env).length = is.length := by rfl) (hst : (assignEach ts X.env).findIdx? (·.1) = none := by rfl) :
    ∃ gg : TG, PG X (.Tuple ts kt pt) gg ∧ ∀ d ds v σ H Q Z Lt g st, SR Γ Z Lt g st σ H → CV Γ g H d v → (d = .tup ds ∨ d = .lst ds) → ds.length = is.length → (∀ σ', (∀ ws : List Nat, (∀ i ∈ is, i ∈ ws) → wipe σ' ws = wipe σ ws) → SR Γ Z Lt g (setAll is ds st) σ' H → Q σ' H) → gg v σ H Q := by
  obtain ⟨t, h1, h2⟩ := y.pg
  refine ⟨_, pg_eit (pg_tup hc h1 hn hst) (pg_lst hc h1 hn hst), fun d ds v σ H Q Z Lt g st s c hd hl h => ?_⟩
  rcases hd with rfl | rfl
  · obtain ⟨a, vs, rfl, q, r⟩ := c.tup s
    exact .inl ⟨a, vs, rfl, by rw [hK]; exact q, by rw [← r.length]; exact hl, h2 vs σ H Q (by rw [← r.length]; exact hl) fun σ' kw k => h σ' kw (k Γ Z Lt g st ds s r)⟩
  · obtain ⟨a, vs, rfl, q, r⟩ := c.lst s
    exact .inr ⟨a, vs, rfl, by rw [hK]; exact q, by rw [← r.length]; exact hl, h2 vs σ H Q (by rw [← r.length]; exact hl) fun σ' kw k => h σ' kw (k Γ Z Lt g st ds s r)⟩
theorem st_unX {ts : List Expr} {is : List Nat} {kt : Nat} {pt : Pos} (hc : X.calm = true) (hK : X.K = Γ.K) (y : PTg X ts is) (x : PC Γ W X e f) (hn : (assignEach ts X.env).length = is.length := by rfl) (hst : (assignEach ts X.env).findIdx? (·.1) = none := by rfl)
    (hs : swapsWithSole [.Tuple ts kt pt] e pos.line X.env = pure false := by rfl) (hw : swappedStores [.Tuple ts kt pt] e X.env = pure none := by rfl) (h1 : (assignEach [.Tuple ts kt pt] X.env).map (·.2) = [assign (.Tuple ts kt pt) X.env] := by rfl) :
    PSt Γ W X (.Assign [.Tuple ts kt pt] e pos) (sUnX is f) := by
  obtain ⟨gg, g1, g2⟩ := unX_G (Γ := Γ) hc hK y hn hst
  refine ⟨(ps_asg x.pe g1 hs hw h1).csq fun D σ H ⟨Z, Lt, g, st, s, h⟩ => ⟨Z, Lt, g, st, s, (GoS.of h).imp fun d g1 st1 H1 s1 t1 k1 v r => ?_⟩⟩
  have k2 := k1 g1 H1 s1 (GT.refl _ _)
  cases d with
  | tup ds =>
    simp only at k2
    split at k2
    · exact g2 (.tup ds) ds v σ H1 _ Z Lt g1 st1 s1 r (.inl rfl) ‹_› fun σ' _ s' => k2 σ' g1 H1 s' (GT.refl _ _)
    · exact k2.elim
  | lst ds =>
    simp only at k2
    split at k2
    · exact g2 (.lst ds) ds v σ H1 _ Z Lt g1 st1 s1 r (.inr rfl) ‹_› fun σ' _ s' => k2 σ' g1 H1 s' (GT.refl _ _)
    · exact k2.elim
  | _ => exact k2.elim
@[simp] theorem sUnX_s (is : List Nat) : sUnX is f st = SRes.of (f st) fun d s1 => match d with
  | .tup ds => if ds.length = is.length then .nx (setAll is ds s1) else .bad
  | .lst ds => if ds.length = is.length then .nx (setAll is ds s1) else .bad
  | _ => .bad := id rfl
/-- isinstance(x, an own class), x of one of some own classes -/
structure IsA (Γ : Tab) (C : Addr) (c : Nat) (cs : List Nat) : Prop where
  al : ∀ c' ∈ cs, ∃ C', Γ.cls c' = some C' ∧ C8.InsC Γ.K C' ∧ PySem.W.kitOne Γ.K (.ref C') (.ref C) = some (decide (c' = c))
theorem isA_nil (C : Addr) (c : Nat) : IsA Γ C c [] := ⟨by simp⟩
theorem isA_cons {C C' : Addr} {c c' : Nat} {cs : List Nat} {b : Bool} (h1 : Γ.cls c' = some C') (h2 : C8.InsC Γ.K C') (h3 : PySem.W.kitOne Γ.K (.ref C') (.ref C) = some b) (hb : b = decide (c' = c)) (h : IsA Γ C c cs) : IsA Γ C c (c' :: cs) :=
  ⟨fun d m => by
    rcases List.mem_cons.mp m with rfl | m
    · exact ⟨C', h1, h2, by rw [h3, hb]⟩
    · exact h.al d m⟩
def mIsA (cs : List Nat) (c : Nat) : Sem1 := fun x st => match x with
  | .obj r => match st.h[r]? with
    | some (.ins c' _) => if c' ∈ cs then .ok (.bl (decide (c' = c))) st else .bad
    | _ => .bad
  | _ => .bad
theorem pd_isA {x : Str} {C : Addr} {c : Nat} {cs : List Nat} (is : IsA Γ C c cs) (hm : X.mg x = some (.ref C)) (hK : X.K = Γ.K) (hn : X.mg "isinstance" = none) (y : PC Γ W X e f) (hg : Gl X "isinstance" := by rfl) (hgx : Gl X x := by rfl) (hd : (x == ("__debug__" : Str)) = false := by decide)
    (he : starEach [e, .Name x pos2] X.env = (false, eval e X.env) :: starEach [.Name x pos2] X.env := by rfl) (he2 : starEach [.Name x pos2] X.env = (false, eval (.Name x pos2) X.env) :: starEach [] X.env := by rfl)
    (hpl : (backTo pos (starEach [.Name x pos2] X.env)).any (·.1) = false := by rfl) : PD Γ W X (.Call (.Name "isinstance" ppos) [e, .Name x pos2] [] pos) (eUn (mIsA cs c) f) := by
  refine ⟨(pe_callB (call_isD (C := C)) hg hn (by decide +kernel) (pa_cons y.pe (pa_cons (pe_glob (v := .ref C) hgx hm rfl hd) pa_nil he2) he) (by decide) (by decide) he hpl).csq fun σ H Q hh =>
    one (X := X) (r := fun v H Q => ∃ a dx fs C' b, [v, V.ref C] = [V.ref a, V.ref C] ∧ H a = some (.ins C' dx fs) ∧ C8.InsC X.K C' ∧ PySem.W.kitOne X.K (.ref C') (.ref C) = some b ∧ Q (.bl b) H) (fun Z Lt g st σ H x v Q s rx h => ?_) hh⟩
  unfold mIsA at h
  split at h
  · rename_i r
    split at h
    · rename_i c' fs e1
      split at h
      · rename_i ec
        obtain ⟨C', q1, ic, kt⟩ := is.al c' ec
        obtain ⟨a, rfl, hr⟩ := rx.obj
        obtain ⟨C2, dx, ws, z1, z2, z3, z4⟩ := s.insAt hr e1
        rw [q1] at z1; cases z1
        exact ⟨a, dx, ws, C', _, rfl, z3, by rw [hK]; exact ic, by rw [hK]; exact kt, ret_bl s h⟩
      · exact h.elim
    · exact h.elim
  · exact h.elim
@[simp] theorem mIsA_s (cs : List Nat) (c r : Nat) : mIsA cs c (.obj r) st = match st.h[r]? with
    | some (.ins c' _) => if c' ∈ cs then .ok (.bl (decide (c' = c))) st else .bad
    | _ => .bad := id rfl
end
end PL
namespace PL
open PySem PySem.Spec PyProof.Rows L2 PLR
section
variable {Γ : Tab} {W : WX} {X : Cx} {Z : Hp} {Lt : Lend} {g : GM} {st : LS} {σ : L2.St} {H : Hp}
mutual
/-- the content, of what lies within too -/
def drN (st : LS) : Nat → D → D
  | 0, d => d
  | n + 1, .obj r => match st.cellR r with
    | some d => drN st n d
    | none => .obj r
  | n + 1, .tup ds => .tup (drNs st n ds)
  | n + 1, .lst ds => .lst (drNs st n ds)
  | _ + 1, d => d
def drNs (st : LS) : Nat → List D → List D
  | _, [] => []
  | n, d :: ds => drN st n d :: drNs st n ds
end
mutual
theorem CV.dpN (s : SR Γ Z Lt g st σ H) : ∀ (n m : Nat) (d : D) (v : V), CV Γ g H d v → pln m (drN st n d) = true → Dp Γ.K H v (toP (drN st n d))
  | 0, m, d, v, c, hp => by rw [show drN st 0 d = d by simp [drN]] at hp ⊢; exact c.dp s hp
  | n + 1, m, .obj r, v, c, hp => by
    cases e : st.cellR r with
    | none => rw [show drN st (n + 1) (.obj r) = .obj r by simp [drN, e]] at hp; cases m <;> simp [pln] at hp
    | some d' =>
      rw [show drN st (n + 1) (.obj r) = drN st n d' by simp [drN, e]] at hp ⊢
      have c2 := CV.dr s c
      rw [show st.dr (.obj r) = d' by simp [LS.dr, e]] at c2
      exact CV.dpN s n m d' v c2 hp
  | n + 1, m, .tup ds, v, c, hp => by
    obtain ⟨a, vs, rfl, q, r⟩ := c.tup s
    rw [show drN st (n + 1) (.tup ds) = .tup (drNs st n ds) by simp [drN]] at hp ⊢
    cases m with
    | zero => simp [pln] at hp
    | succ m => simp only [toP]; exact .tup q (RDs.dpN s n m ds vs r (by simpa [pln] using hp))
  | n + 1, m, .lst ds, v, c, hp => by
    obtain ⟨a, vs, rfl, q, r⟩ := c.lst s
    rw [show drN st (n + 1) (.lst ds) = .lst (drNs st n ds) by simp [drN]] at hp ⊢
    cases m with
    | zero => simp [pln] at hp
    | succ m => simp only [toP]; exact .lst q (RDs.dpN s n m ds vs r (by simpa [pln] using hp))
  | n + 1, m, .non, v, c, hp => by rw [show drN st (n + 1) (.non) = .non by simp [drN]] at hp ⊢; exact c.dp s hp
  | n + 1, m, .bl b, v, c, hp => by rw [show drN st (n + 1) (.bl b) = .bl b by simp [drN]] at hp ⊢; exact c.dp s hp
  | n + 1, m, .int b, v, c, hp => by rw [show drN st (n + 1) (.int b) = .int b by simp [drN]] at hp ⊢; exact c.dp s hp
  | n + 1, m, .str b, v, c, hp => by rw [show drN st (n + 1) (.str b) = .str b by simp [drN]] at hp ⊢; exact c.dp s hp
  | n + 1, m, .dic b, v, c, hp => by rw [show drN st (n + 1) (.dic b) = .dic b by simp [drN]] at hp; cases m <;> simp [pln] at hp
  | n + 1, m, .err b, v, c, hp => by rw [show drN st (n + 1) (.err b) = .err b by simp [drN]] at hp; cases m <;> simp [pln] at hp
theorem RDs.dpN (s : SR Γ Z Lt g st σ H) : ∀ (n m : Nat) (ds : List D) (vs : List V), RDs Γ g ds vs → plns m (drNs st n ds) = true → DpAll Γ.K H vs (toPs (drNs st n ds))
  | n, m, [], vs, r, _ => by simp only [RDs] at r; subst r; simp only [drNs, toPs]; exact .nil
  | n, m, d :: ds, vs, r, h => by
    simp only [RDs] at r
    obtain ⟨v, q, rfl, r1, r2⟩ := r
    simp only [drNs, plns, Bool.and_eq_true] at h
    simp only [drNs, toPs]
    exact .cons (CV.dpN s n m d v (.inl r1) h.1) (RDs.dpN s n m ds q r2 h.2)
end
def mEqX : Sem2 := fun x y st => mEq (drN st 4 x) (drN st 4 y) st
def mNeX : Sem2 := fun x y st => mNe (drN st 4 x) (drN st 4 y) st
theorem holds_eqX (hK : X.K = Γ.K) : Holds2 Γ W X (rEqD X.K) mEqX := by
  intro Z Lt g st σ H x y v w Q s rx ry h
  unfold mEqX mEq at h
  split at h
  · rename_i c
    rw [Bool.and_eq_true] at c
    rw [hK]
    refine ⟨_, _, rx.dpN s 4 20 x v c.1, ry.dpN s 4 20 y w c.2, shaped_of (by decide) c.1, shaped_of (by decide) c.2, ?_⟩
    rw [deq_p 20 20 _ _ c.1 c.2]
    exact ret_bl s h
  · exact h.elim
theorem holds_neX (hK : X.K = Γ.K) : Holds2 Γ W X (rNeD X.K) mNeX := by
  intro Z Lt g st σ H x y v w Q s rx ry h
  unfold mNeX mNe at h
  split at h
  · rename_i c
    rw [Bool.and_eq_true] at c
    rw [hK]
    refine ⟨_, _, rx.dpN s 4 20 x v c.1, ry.dpN s 4 20 y w c.2, shaped_of (by decide) c.1, shaped_of (by decide) c.2, ?_⟩
    rw [deq_p 20 20 _ _ c.1 c.2]
    exact ret_bl s h
  · exact h.elim
@[simp] theorem mEqX_s {x y : D} : mEqX x y st = mEq (drN st 4 x) (drN st 4 y) st := id rfl
@[simp] theorem mNeX_s {x y : D} : mNeX x y st = mNe (drN st 4 x) (drN st 4 y) st := id rfl
end
end PL
namespace PL
mutual
theorem drN_pln (st : LS) : ∀ (n m : Nat) (d : D), pln m d = true → drN st n d = d
  | 0, _, d, _ => by simp [drN]
  | n + 1, m, .obj r, h => by cases m <;> simp [pln] at h
  | n + 1, 0, .tup ds, h => by simp [pln] at h
  | n + 1, m + 1, .tup ds, h => by simp only [drN]; rw [drNs_plns st n m ds (by simpa [pln] using h)]
  | n + 1, 0, .lst ds, h => by simp [pln] at h
  | n + 1, m + 1, .lst ds, h => by simp only [drN]; rw [drNs_plns st n m ds (by simpa [pln] using h)]
  | n + 1, m, .non, _ => by simp [drN]
  | n + 1, m, .bl b, _ => by simp [drN]
  | n + 1, m, .int b, _ => by simp [drN]
  | n + 1, m, .str b, _ => by simp [drN]
  | n + 1, m, .dic b, _ => by simp [drN]
  | n + 1, m, .err b, _ => by simp [drN]
theorem drNs_plns (st : LS) : ∀ (n m : Nat) (ds : List D), plns m ds = true → drNs st n ds = ds
  | n, m, [], _ => by simp [drNs]
  | n, m, d :: ds, h => by
    simp only [plns, Bool.and_eq_true] at h
    simp only [drNs]
    rw [drN_pln st n m d h.1, drNs_plns st n m ds h.2]
end
end PL
namespace PL
open PySem PySem.Spec PyProof.Rows L2 PLR
/-! ### x in a list or pair of data of any depth -/
def rInX (K : PySem.W.Frag) (neg : Bool) : R2 := fun x y H Q => ∃ d c ds, Dp K H x d ∧ Dp K H y c ∧ (c = .list ds ∨ c = .tuple ds) ∧ d.canLay0 = true ∧ d.depth ≤ 60 ∧ PyData.canLayAll0 ds = true ∧ Q (.bl (if neg then !(ds.any fun z => PyData.eqv z d) else ds.any fun z => PyData.eqv z d)) H
section
variable {Γ : Tab} {W : WX} {X : Cx}
theorem op_inX (hu : X.A.units + 64 < cLine) : OpR X (compareOp .In) (rInX X.K false) := by
  intro pins s σ H x y v u Q I rx ry h
  obtain ⟨d, c, ds, hd, he, hc, sd, sl, se, q⟩ := h
  obtain ⟨as, r1⟩ := Dp.reads I d x v hd rx
  obtain ⟨bs, r2⟩ := Dp.reads I c y u he ry
  have hm : min (PyData.depthAll ds) d.depth ≤ 60 := Nat.le_trans (Nat.min_le_right _ _) sl
  rcases hc with rfl | rfl
  · exact SeqAt.in_list_reads r2 r1 se sd (by omega) ⟨.bl _, H, I, rfl, q⟩
  · exact SeqAt.in_tuple_reads r2 r1 se sd (by omega) ⟨.bl _, H, I, rfl, q⟩
theorem op_notInX (hu : X.A.units + 64 < cLine) : OpR X (compareOp .NotIn) (rInX X.K true) := by
  intro pins s σ H x y v u Q I rx ry h
  obtain ⟨d, c, ds, hd, he, hc, sd, sl, se, q⟩ := h
  obtain ⟨as, r1⟩ := Dp.reads I d x v hd rx
  obtain ⟨bs, r2⟩ := Dp.reads I c y u he ry
  have hm : min (PyData.depthAll ds) d.depth ≤ 60 := Nat.le_trans (Nat.min_le_right _ _) sl
  rcases hc with rfl | rfl
  · exact SeqAt.notIn_list_reads r2 r1 se sd (by omega) ⟨.bl _, H, I, rfl, q⟩
  · exact SeqAt.notIn_tuple_reads r2 r1 se sd (by omega) ⟨.bl _, H, I, rfl, q⟩
def mInX (neg : Bool) : Sem2 := fun x y st => match y with
  | .lst ds => if pln 20 x && plns 19 ds then .ok (.bl (if neg then !(ds.any fun z => deq z x) else ds.any fun z => deq z x)) st else .bad
  | .tup ds => if pln 20 x && plns 19 ds then .ok (.bl (if neg then !(ds.any fun z => deq z x) else ds.any fun z => deq z x)) st else .bad
  | _ => .bad
theorem any_p (x : D) (hx : pln 20 x = true) : ∀ ds : List D, plns 19 ds = true → ((toPs ds).any fun z => PyData.eqv z (toP x)) = ds.any fun z => deq z x
  | [], _ => by simp [toPs]
  | d :: ds, h => by
    simp only [plns, Bool.and_eq_true] at h
    simp only [toPs, List.any_cons]
    rw [deq_p 19 20 d x h.1 hx, any_p x hx ds h.2]
theorem holds_inX {neg : Bool} (hK : X.K = Γ.K) : Holds2 Γ W X (rInX X.K neg) (mInX neg) := by
  intro Z Lt g st σ H x y v w Q s rx ry h
  unfold mInX at h
  split at h
  · split at h
    · rename_i ds c
      rw [Bool.and_eq_true] at c
      have p1 := pln_p 20 x c.1
      have p2 := plns_p 19 ds c.2
      rw [hK]
      refine ⟨_, _, toPs ds, rx.dp s c.1, ry.dp s (n := 20) (by simpa [pln] using c.2), .inl (by simp [toP]), p1.1, by omega, p2.1, ?_⟩
      rw [any_p x c.1 ds c.2]
      exact ret_bl s h
    · exact h.elim
  · split at h
    · rename_i ds c
      rw [Bool.and_eq_true] at c
      have p1 := pln_p 20 x c.1
      have p2 := plns_p 19 ds c.2
      rw [hK]
      refine ⟨_, _, toPs ds, rx.dp s c.1, ry.dp s (n := 20) (by simpa [pln] using c.2), .inr (by simp [toP]), p1.1, by omega, p2.1, ?_⟩
      rw [any_p x c.1 ds c.2]
      exact ret_bl s h
    · exact h.elim
  · exact h.elim
@[simp] theorem mInX_l (neg : Bool) {x : D} {st : LS} (ds : List D) : mInX neg x (.lst ds) st = if pln 20 x && plns 19 ds then .ok (.bl (if neg then !(ds.any fun z => deq z x) else ds.any fun z => deq z x)) st else .bad := id rfl
@[simp] theorem mInX_t (neg : Bool) {x : D} {st : LS} (ds : List D) : mInX neg x (.tup ds) st = if pln 20 x && plns 19 ds then .ok (.bl (if neg then !(ds.any fun z => deq z x) else ds.any fun z => deq z x)) st else .bad := id rfl
end
end PL

namespace PX
open PySem PySem.Spec PyProof.Rows L2 PL
@[irreducible] noncomputable def F_rw_is : Fn := fn 2 <|
  sRet (eAnd (eCall PX.F_whole (aCons (aL 0) (aNil))) (eBin mEq (vVar 0) (vVar 1)))
@[irreducible] noncomputable def B_rw_lists_1 : S :=
  sIf (bNot (tst (eCall PX.F_rw_is (aCons (aV (eBin mIx (eBin mIx (vVar 0) (vVar 2)) (vVar 3))) (aCons (aV (eBin (Sem2.dr mIx) (eBin (Sem2.dr mIx) (vVar 1) (vVar 2)) (vVar 3))) (aNil)))))) (sRet (eC (.bl false))) (sNx)
@[irreducible] noncomputable def B_rw_lists_0 : S :=
  sSeq (sIf (bOr (bNot (tst (eUn (mIsi .list) (eBin mIx (vVar 0) (vVar 2))))) (tst (eBin mNe (eUn mLen (eBin mIx (vVar 0) (vVar 2))) (eUn mLen (eDr (eBin (Sem2.dr mIx) (vVar 1) (vVar 2))))))) (sRet (eC (.bl false))) (sNx)) <|
  sFor (iRg1 (eUn mLen (eDr (eBin (Sem2.dr mIx) (vVar 1) (vVar 2))))) (tgN 3) (PX.B_rw_lists_1)
@[irreducible] noncomputable def F_rw_lists : Fn := fn 4 <|
  sSeq (sIf (bOr (bNot (tst (eUn (mIsi .list) (cVar 0)))) (tst (eBin mNe (eUn mLen (cVar 0)) (eUn mLen (eDr (cVar 1)))))) (sRet (eC (.bl false))) (sNx)) <|
  sSeq (sFor (iRg1 (eUn mLen (eDr (cVar 1)))) (tgN 2) (PX.B_rw_lists_0)) <|
  sRet (eC (.bl true))
@[irreducible] noncomputable def F_rw_maybe : Fn := fn 2 <|
  sSeq (sIf (tst (eUn mIsN (cVar 1))) (sRet (eUn mIsN (cVar 0))) (sNx)) <|
  sRet (eCall PX.F_rw_is (aCons (aL 0) (aCons (aL 1) (aNil))))
@[irreducible] noncomputable def F_rw_world : Fn := fn 1 <|
  sRetF (eDisp (ePCons (eC (.str "room")) (eVar 0) (ePCons (eC (.str "total")) (eC (.int 0)) (ePCons (eC (.str "sides")) (eNewC (eLst (eCons (eC (.int 0)) (eCons (eC (.int 0)) (eNil))))) (ePCons (eC (.str "turns")) (eC (.int 0)) (ePCons (eC (.str "least")) (eC .non) (ePCons (eC (.str "most")) (eC .non) (ePCons (eC (.str "rungs")) (eNewC (eLst (eNil))) (ePNil)))))))))
@[irreducible] noncomputable def B_rw_settled_1 : S :=
  sAppC (eBin (Sem2.dr mIx) (eBin (Sem2.dr mDGet) (vVar 0) (eC (.str "rungs"))) (eBin mAdd (vVar 1) (eC (.int 1)))) (eBin (Sem2.dr mIx) (vVar 2) (eBin mAdd (vVar 5) (vVar 3)))
@[irreducible] noncomputable def B_rw_settled_0 : S :=
  sSeq (sSet 2 (eBin (Sem2.dr mIx) (eBin (Sem2.dr mDGet) (vVar 0) (eC (.str "rungs"))) (vVar 1))) <|
  sSeq (sIf (tst (eBin mGt (eUn mLen (eDr (cVar 2))) (eBin (Sem2.dr mDGet) (vVar 0) (eC (.str "room"))))) (sSeq (sSet 3 (eBin mMod (eBin (Sem2.dr mDGet) (vVar 0) (eC (.str "turns"))) (eC (.int 2)))) <|
  sSeq (sSet 4 (eBin mSub (eUn mLen (eDr (cVar 2))) (eBin mMod (eUn mLen (eDr (cVar 2))) (eC (.int 2))))) <|
  sSeq (sIf (tst (eBin mEq (eBin mAdd (vVar 1) (eC (.int 1))) (eUn mLen (eDr (eBin (Sem2.dr mDGet) (vVar 0) (eC (.str "rungs"))))))) (sAppC (eBin (Sem2.dr mDGet) (vVar 0) (eC (.str "rungs"))) (eNewC (eLst (eNil)))) (sNx)) <|
  sSeq (sFor (iRg3 (eC (.int 0)) (eVar 4) (eC (.int 2))) (tgN 5) (PX.B_rw_settled_1)) <|
  sSeq (sPutC (eBin (Sem2.dr mDGet) (vVar 0) (eC (.str "rungs"))) (eBin mAdd (vVar 1) (eC (.int 1))) (eNewC (eUn mSortedX (eDr (eBin (Sem2.dr mIx) (eBin (Sem2.dr mDGet) (vVar 0) (eC (.str "rungs"))) (eBin mAdd (vVar 1) (eC (.int 1)))))))) <|
  sSeq (sPutC (eBin (Sem2.dr mDGet) (vVar 0) (eC (.str "rungs"))) (eVar 1) (eNewC (eSlcC (vVar 2) (oSome (eVar 4)) (oNone)))) <|
  sSeq (sPutC (eBin (Sem2.dr mDGet) (vVar 0) (eC (.str "sides"))) (eVar 3) (eBin mAdd (eBin (Sem2.dr mIx) (eBin (Sem2.dr mDGet) (vVar 0) (eC (.str "sides"))) (vVar 3)) (eBin mShl (eC (.int 1)) (vVar 1)))) <|
  sDPutC (eVar 0) (eC (.str "turns")) (eBin mAdd (eBin (Sem2.dr mDGet) (vVar 0) (eC (.str "turns"))) (eC (.int 1)))) (sNx)) <|
  sSet 1 (eBin mAdd (vVar 1) (eC (.int 1)))
@[irreducible] noncomputable def C_rw_settled_0 : E Bool :=
  tst (eBin mLt (vVar 1) (eUn mLen (eDr (eBin (Sem2.dr mDGet) (vVar 0) (eC (.str "rungs"))))))
@[irreducible] noncomputable def F_rw_settled : Fn := fn 6 <|
  sSeq (sSet 1 (eC (.int 0))) <|
  sWhile (PX.C_rw_settled_0) (PX.B_rw_settled_0)
@[irreducible] noncomputable def B_rw_added_1 : S :=
  sAppC (eBin (Sem2.dr mDGet) (vVar 0) (eC (.str "rungs"))) (eNewC (eLst (eNil)))
@[irreducible] noncomputable def C_rw_added_1 : E Bool :=
  tst (eBin mLe (eUn mLen (eDr (eBin (Sem2.dr mDGet) (vVar 0) (eC (.str "rungs"))))) (vVar 4))
@[irreducible] noncomputable def B_rw_added_0 : S :=
  sIf (tst (eBin mEq (eBin mMod (eBin mDiv (vVar 2) (eBin mShl (eC (.int 1)) (vVar 4))) (eC (.int 2))) (eC (.int 1)))) (sSeq (sWhile (PX.C_rw_added_1) (PX.B_rw_added_1)) <|
  sPutC (eBin (Sem2.dr mDGet) (vVar 0) (eC (.str "rungs"))) (eVar 4) (eNewC (eUn mSortedX (eBin (Sem2.dr mAdd) (eBin (Sem2.dr mIx) (eBin (Sem2.dr mDGet) (vVar 0) (eC (.str "rungs"))) (vVar 4)) (eLst (eCons (eVar 1) (eNil))))))) (sNx)
@[irreducible] noncomputable def F_rw_added : Fn := fn 5 <|
  sSeq (sDPutC (eVar 0) (eC (.str "total")) (eBin mAdd (eBin (Sem2.dr mDGet) (vVar 0) (eC (.str "total"))) (vVar 2))) <|
  sSeq (sSet 3 (eLst (eCons (eVar 1) (eNil)))) <|
  sSeq (sIf (tst (eUn mNotN (eBin (Sem2.dr mDGet) (vVar 0) (eC (.str "least"))))) (sSet 3 (eLst (eCons (eBin (Sem2.dr mDGet) (vVar 0) (eC (.str "least"))) (eCons (eVar 1) (eCons (eBin (Sem2.dr mDGet) (vVar 0) (eC (.str "most"))) (eNil)))))) (sNx)) <|
  sSeq (sDPutC (eVar 0) (eC (.str "least")) (eUn mMinL (cVar 3))) <|
  sSeq (sDPutC (eVar 0) (eC (.str "most")) (eUn mMaxL (cVar 3))) <|
  sSeq (sFor (iRg1 (eC (.int 40))) (tgN 4) (PX.B_rw_added_0)) <|
  sEx (eCall PX.F_rw_settled (aCons (aL 0) (aNil)))
@[irreducible] noncomputable def F_rw_same : Fn := fn 2 <|
  sSeq (sIf (bOr (bNot (tst (eCall PX.F_rw_is (aCons (aF 0 (eVar 0)) (aCons (aV (eBin (Sem2.dr mDGet) (vVar 1) (eC (.str "room")))) (aNil)))))) (bNot (tst (eCall PX.F_rw_is (aCons (aF 6 (eVar 0)) (aCons (aV (eBin (Sem2.dr mDGet) (vVar 1) (eC (.str "total")))) (aNil))))))) (sRet (eC (.bl false))) (sNx)) <|
  sSeq (sIf (bOr (bNot (tst (eCall PX.F_rw_is (aCons (aF 9 (eVar 0)) (aCons (aV (eBin (Sem2.dr mIx) (eBin (Sem2.dr mDGet) (vVar 1) (eC (.str "sides"))) (eC (.int 0)))) (aNil)))))) (bNot (tst (eCall PX.F_rw_is (aCons (aF 10 (eVar 0)) (aCons (aV (eBin (Sem2.dr mIx) (eBin (Sem2.dr mDGet) (vVar 1) (eC (.str "sides"))) (eC (.int 1)))) (aNil))))))) (sRet (eC (.bl false))) (sNx)) <|
  sSeq (sIf (eLendF 0 14 (bOr (bNot (tst (eCall PX.F_rw_is (aCons (aF 11 (eVar 0)) (aCons (aV (eBin (Sem2.dr mDGet) (vVar 1) (eC (.str "turns")))) (aNil)))))) (bNot (tst (eCall PX.F_rw_lists (aCons (aF 14 (eVar 0)) (aCons (aV (eBin (Sem2.dr mDGet) (vVar 1) (eC (.str "rungs")))) (aNil)))))))) (sRet (eC (.bl false))) (sNx)) <|
  sRet (eAnd (eCall PX.F_rw_maybe (aCons (aF 12 (eVar 0)) (aCons (aV (eBin (Sem2.dr mDGet) (vVar 1) (eC (.str "least")))) (aNil)))) (eCall PX.F_rw_maybe (aCons (aF 13 (eVar 0)) (aCons (aV (eBin (Sem2.dr mDGet) (vVar 1) (eC (.str "most")))) (aNil)))))
@[irreducible] noncomputable def F_rw_row_added : Fn := fn 4 <|
  sSeq (sEx (eMeth 3 [(9, PX.F_Rungs_add)] (eVar 0) (aCons (aL 2) (aCons (aL 3) (aNil))))) <|
  sSeq (sEx (eCall PX.F_rw_added (aCons (aL 1) (aCons (aL 2) (aCons (aL 3) (aNil)))))) <|
  sRet (eCall PX.F_rw_same (aCons (aL 0) (aCons (aL 1) (aNil))))
end PX

/-! The laws' own rungs: a dict of cells. -/
namespace PX
open PySem PySem.Spec PyProof.Rows L2 PL
def wdL (room : Nat) (s g : Nat) (total tu : Int) (l m : Option Int) : List (Key × D) :=
  [(.inr (Str.ofString "room"), .int (room : Nat)), (.inr (Str.ofString "total"), .int total), (.inr (Str.ofString "sides"), .obj s), (.inr (Str.ofString "turns"), .int tu), (.inr (Str.ofString "least"), oD l), (.inr (Str.ofString "most"), oD m), (.inr (Str.ofString "rungs"), .obj g)]
theorem wd_ne : ∀ a ∈ ["room", "total", "sides", "turns", "least", "most", "rungs"], ∀ b ∈ ["room", "total", "sides", "turns", "least", "most", "rungs"], a ≠ b → Str.ofString a ≠ Str.ofString b := by decide +kernel
theorem wd_v (room : Nat) (s g : Nat) (total tu : Int) (l m : Option Int) : valD (wdL room s g total tu l m) (.inr (Str.ofString "room")) = some (.int (room : Nat)) ∧ valD (wdL room s g total tu l m) (.inr (Str.ofString "total")) = some (.int total) ∧
    valD (wdL room s g total tu l m) (.inr (Str.ofString "sides")) = some (.obj s) ∧ valD (wdL room s g total tu l m) (.inr (Str.ofString "turns")) = some (.int tu) ∧ valD (wdL room s g total tu l m) (.inr (Str.ofString "least")) = some (oD l) ∧
    valD (wdL room s g total tu l m) (.inr (Str.ofString "most")) = some (oD m) ∧ valD (wdL room s g total tu l m) (.inr (Str.ofString "rungs")) = some (.obj g) := by
  have n := wd_ne
  unfold wdL valD
  simp [n]
theorem wd_p (room : Nat) (s g : Nat) (total tu : Int) (l m : Option Int) : (∀ x, putD (wdL room s g total tu l m) (.inr (Str.ofString "total")) (.int x) = wdL room s g x tu l m) ∧ (∀ x, putD (wdL room s g total tu l m) (.inr (Str.ofString "turns")) (.int x) = wdL room s g total x l m) ∧
    (∀ x, putD (wdL room s g total tu l m) (.inr (Str.ofString "least")) (.int x) = wdL room s g total tu (some x) m) ∧ (∀ x, putD (wdL room s g total tu l m) (.inr (Str.ofString "most")) (.int x) = wdL room s g total tu l (some x)) ∧
    (∀ x, putD (wdL room s g total tu l m) (.inr (Str.ofString "sides")) (.obj x) = wdL room x g total tu l m) := by
  have n := wd_ne
  unfold wdL putD
  simp [n, oD]
theorem wd_len (room : Nat) (s g : Nat) (total tu : Int) (l m : Option Int) : (wdL room s g total tu l m).length = 7 := rfl
structure Wd (room : Nat) (S : Rg) (total : Int) (l m : Option Int) (w s g : Nat) (rs : List Nat) (h : List LO) : Prop where
  ow : h[w]? = some (LO.cell (.dic (wdL room s g total S.tu l m)))
  os : h[s]? = some (LO.cell (.lst [.int S.ov, .int S.un]))
  og : h[g]? = some (LO.cell (.lst (rs.map D.obj)))
  len : rs.length = S.R.length
  rw : ∀ i a, rs[i]? = some a → h[a]? = some (LO.cell (encL (rowAt S.R i)))
  nd : (w :: s :: g :: rs).Nodup
/-- what a deed at a world may change -/
structure Fw (own own' : List Nat) (h h' : List LO) : Prop where
  le : h.length ≤ h'.length
  st : ∀ j, j < h.length → j ∉ own → h'[j]? = h[j]?
  nw : ∀ j ∈ own', j ∈ own ∨ h.length ≤ j
theorem Fw.refl (own : List Nat) (h : List LO) : Fw own own h h := ⟨Nat.le_refl _, fun _ _ _ => rfl, fun _ m => .inl m⟩
theorem Fw.trans {o1 o2 o3 : List Nat} {h1 h2 h3 : List LO} (a : Fw o1 o2 h1 h2) (b : Fw o2 o3 h2 h3) : Fw o1 o3 h1 h3 :=
  ⟨Nat.le_trans a.le b.le, fun j l m => by
    rw [b.st j (Nat.lt_of_lt_of_le l a.le) fun m2 => by
      rcases a.nw j m2 with q | q
      · exact m q
      · omega]
    exact a.st j l m, fun j m => by
    rcases b.nw j m with q | q
    · exact a.nw j q
    · have := a.le; exact .inr (by omega)⟩
theorem lt_some {h : List LO} {i : Nat} {x : LO} (e : h[i]? = some x) : i < h.length := (List.getElem?_eq_some_iff.mp e).1
section
variable {room : Nat} {S : Rg} {total : Int} {l m : Option Int} {w s g : Nat} {rs : List Nat} {h : List LO}
theorem Wd.lt (W : Wd room S total l m w s g rs h) : ∀ j ∈ w :: s :: g :: rs, j < h.length := by
  intro j mj
  simp only [List.mem_cons] at mj
  rcases mj with rfl | rfl | rfl | mj
  · exact lt_some W.ow
  · exact lt_some W.os
  · exact lt_some W.og
  · obtain ⟨i, hi⟩ := List.getElem?_of_mem mj
    exact lt_some (W.rw i j hi)
theorem Wd.at (W : Wd room S total l m w s g rs h) {i : Nat} (hi : i < S.R.length) : ∃ a, rs[i]? = some a ∧ h[a]? = some (LO.cell (encL (rowAt S.R i))) := by
  have : i < rs.length := by rw [W.len]; exact hi
  exact ⟨rs[i], List.getElem?_eq_getElem this, W.rw i _ (List.getElem?_eq_getElem this)⟩
theorem Wd.nes (W : Wd room S total l m w s g rs h) : w ≠ s ∧ w ≠ g ∧ s ≠ g ∧ w ∉ rs ∧ s ∉ rs ∧ g ∉ rs ∧ rs.Nodup := by
  have n := W.nd
  simp only [List.nodup_cons, List.mem_cons, not_or] at n
  exact ⟨n.1.1, n.1.2.1, n.2.1.1, n.1.2.2, n.2.1.2, n.2.2.1, n.2.2.2⟩
theorem nodup_inj {rs : List Nat} (n : rs.Nodup) {i j a : Nat} (hi : rs[i]? = some a) (hj : rs[j]? = some a) : i = j := by
  obtain ⟨li, ei⟩ := List.getElem?_eq_some_iff.mp hi
  obtain ⟨lj, ej⟩ := List.getElem?_eq_some_iff.mp hj
  exact (List.getElem_inj n).mp (ei.trans ej.symm)
/-- a world that is carried along -/
theorem Wd.other {own own' : List Nat} {h' : List LO} (W : Wd room S total l m w s g rs h) (f : Fw own own' h h') (dj : ∀ j ∈ w :: s :: g :: rs, j ∉ own) : Wd room S total l m w s g rs h' := by
  have q := fun j (mj : j ∈ w :: s :: g :: rs) => f.st j (W.lt j mj) (dj j mj)
  refine ⟨by rw [q w (by simp)]; exact W.ow, by rw [q s (by simp)]; exact W.os, by rw [q g (by simp)]; exact W.og, W.len, fun i a e => ?_, W.nd⟩
  rw [q a (by simp [List.mem_of_getElem? e])]
  exact W.rw i a e
theorem Fw.set (own : List Nat) (h : List LO) {i : Nat} (x : LO) (mi : i ∈ own) : Fw own own h (h.set i x) :=
  ⟨by simp, fun j _ mj => List.getElem?_set_ne fun e => mj (by rw [← e]; exact mi), fun _ m => .inl m⟩
theorem Fw.app (own : List Nat) (h xs : List LO) : Fw own own h (h ++ xs) :=
  ⟨by simp, fun j lj _ => List.getElem?_append_left lj, fun _ m => .inl m⟩
theorem Fw.mk2 {own own' : List Nat} {h : List LO} (x y : LO) {i : Nat} (mi : i ∈ own) (li : i < h.length) (hn : ∀ j ∈ own', j ∈ own ∨ j = h.length) : Fw own own' h ((h ++ [x]).set i y) :=
  ⟨by simp, fun j lj mj => by rw [List.getElem?_set_ne fun e => mj (by rw [← e]; exact mi)]; exact List.getElem?_append_left lj, fun j mj => by
    rcases hn j mj with q | q
    · exact .inl q
    · exact .inr (by omega)⟩
theorem own_set {w s g : Nat} {rs : List Nat} (i n : Nat) : ∀ j ∈ w :: s :: g :: rs.set i n, j ∈ w :: s :: g :: rs ∨ j = n := by
  intro j mj
  simp only [List.mem_cons] at mj ⊢
  rcases mj with q | q | q | q
  · exact .inl (.inl q)
  · exact .inl (.inr (.inl q))
  · exact .inl (.inr (.inr (.inl q)))
  · rcases List.mem_or_eq_of_mem_set q with q | q
    · exact .inl (.inr (.inr (.inr q)))
    · exact .inr q
theorem own_app {w s g : Nat} {rs : List Nat} (n : Nat) : ∀ j ∈ w :: s :: g :: (rs ++ [n]), j ∈ w :: s :: g :: rs ∨ j = n := by
  intro j mj
  simp only [List.mem_cons, List.mem_append, List.not_mem_nil, or_false] at mj ⊢
  rcases mj with q | q | q | q | q
  · exact .inl (.inl q)
  · exact .inl (.inr (.inl q))
  · exact .inl (.inr (.inr (.inl q)))
  · exact .inl (.inr (.inr (.inr q)))
  · exact .inr q
theorem Wd.app (W : Wd room S total l m w s g rs h) (xs : List LO) : Wd room S total l m w s g rs (h ++ xs) := W.other (Fw.app [] h xs) (by simp)
theorem Wd.setD (W : Wd room S total l m w s g rs h) (total' tu' : Int) (l' m' : Option Int) : Wd room ⟨S.R, S.ov, S.un, tu'⟩ total' l' m' w s g rs (h.set w (.cell (.dic (wdL room s g total' tu' l' m')))) := by
  obtain ⟨n1, n2, n3, n4, n5, n6, n7⟩ := W.nes
  refine ⟨hset W.ow _, by rw [List.getElem?_set_ne n1]; exact W.os, by rw [List.getElem?_set_ne n2]; exact W.og, W.len, fun i a e => ?_, W.nd⟩
  rw [List.getElem?_set_ne fun q => n4 (by rw [q]; exact List.mem_of_getElem? e)]
  exact W.rw i a e
theorem Wd.setS (W : Wd room S total l m w s g rs h) (ov un : Int) : Wd room ⟨S.R, ov, un, S.tu⟩ total l m w s g rs (h.set s (.cell (.lst [.int ov, .int un]))) := by
  obtain ⟨n1, n2, n3, n4, n5, n6, n7⟩ := W.nes
  refine ⟨by rw [List.getElem?_set_ne (Ne.symm n1)]; exact W.ow, hset W.os _, by rw [List.getElem?_set_ne n3]; exact W.og, W.len, fun i a e => ?_, W.nd⟩
  rw [List.getElem?_set_ne fun q => n5 (by rw [q]; exact List.mem_of_getElem? e)]
  exact W.rw i a e
/-- a row changed in its place -/
theorem Wd.upR (W : Wd room S total l m w s g rs h) {i a : Nat} (ei : rs[i]? = some a) (x : List Int) : Wd room ⟨S.R.set i x, S.ov, S.un, S.tu⟩ total l m w s g rs (h.set a (.cell (encL x))) := by
  obtain ⟨n1, n2, n3, n4, n5, n6, n7⟩ := W.nes
  have ma := List.mem_of_getElem? ei
  have il : i < S.R.length := by rw [← W.len]; exact (List.getElem?_eq_some_iff.mp ei).1
  refine ⟨by rw [List.getElem?_set_ne fun q => n4 (by rw [← q]; exact ma)]; exact W.ow, by rw [List.getElem?_set_ne fun q => n5 (by rw [← q]; exact ma)]; exact W.os, by rw [List.getElem?_set_ne fun q => n6 (by rw [← q]; exact ma)]; exact W.og, by rw [List.length_set]; exact W.len, fun j b e => ?_, W.nd⟩
  rw [rowAt_set]
  by_cases c : j = i
  · subst c
    rw [ei] at e
    cases e
    rw [if_pos ⟨rfl, il⟩]
    exact hset (W.rw j a ei) _
  · rw [if_neg (by omega), List.getElem?_set_ne fun q => c (nodup_inj n7 e (by rw [q] at ei; exact ei))]
    exact W.rw j b e
/-- a new cell in a row's place -/
theorem Wd.newR (W : Wd room S total l m w s g rs h) {i : Nat} (il : i < S.R.length) (x : List Int) : Wd room ⟨S.R.set i x, S.ov, S.un, S.tu⟩ total l m w s g (rs.set i h.length) ((h ++ [LO.cell (encL x)]).set g (LO.cell (.lst ((rs.set i h.length).map D.obj)))) := by
  obtain ⟨n1, n2, n3, n4, n5, n6, n7⟩ := W.nes
  have lt := W.lt
  have lw := lt w (by simp)
  have ls := lt s (by simp)
  have lg := lt g (by simp)
  have g1 : (h ++ [LO.cell (encL x)])[g]? = some (LO.cell (.lst (rs.map D.obj))) := happ_lt W.og _
  have irl : i < rs.length := by rw [W.len]; exact il
  refine ⟨by rw [List.getElem?_set_ne (Ne.symm n2)]; exact happ_lt W.ow _, by rw [List.getElem?_set_ne (Ne.symm n3)]; exact happ_lt W.os _, hset g1 _, by rw [List.length_set, List.length_set]; exact W.len, fun j b e => ?_, ?_⟩
  · rw [rowAt_set]
    rw [List.getElem?_set] at e
    by_cases c : i = j
    · subst c
      rw [if_pos rfl, if_pos irl] at e
      cases e
      rw [if_pos ⟨rfl, il⟩, List.getElem?_set_ne (by omega)]
      simp
    · rw [if_neg c] at e
      have mb := List.mem_of_getElem? e
      have lb := lt b (by simp [mb])
      rw [if_neg (by omega), List.getElem?_set_ne fun q => n6 (by rw [q]; exact mb)]
      exact happ_lt (W.rw j b e) _
  · have hm : ∀ y ∈ rs.set i h.length, y ∈ rs ∨ y = h.length := fun y my => List.mem_or_eq_of_mem_set my
    have nn : (rs.set i h.length).Nodup := by
      rw [List.nodup_iff_pairwise_ne, List.pairwise_iff_getElem]
      intro a b la lb hab
      rw [List.length_set] at la lb
      rw [List.getElem_set, List.getElem_set]
      have q1 := lt rs[a] (by simp)
      have q2 := lt rs[b] (by simp)
      by_cases c1 : i = a
      · rw [if_pos c1, if_neg (by omega)]; omega
      · rw [if_neg c1]
        by_cases c2 : i = b
        · rw [if_pos c2]; omega
        · rw [if_neg c2]
          intro e
          have := (List.getElem_inj n7).mp e
          omega
    simp only [List.nodup_cons, List.mem_cons, not_or]
    refine ⟨⟨n1, n2, fun q => ?_⟩, ⟨n3, fun q => ?_⟩, fun q => ?_, nn⟩
    · rcases hm _ q with q | q
      · exact n4 q
      · omega
    · rcases hm _ q with q | q
      · exact n5 q
      · omega
    · rcases hm _ q with q | q
      · exact n6 q
      · omega
theorem Wd.addR (W : Wd room S total l m w s g rs h) : Wd room ⟨S.R ++ [[]], S.ov, S.un, S.tu⟩ total l m w s g (rs ++ [h.length]) ((h ++ [LO.cell (.lst [])]).set g (LO.cell (.lst ((rs ++ [h.length]).map D.obj)))) := by
  obtain ⟨n1, n2, n3, n4, n5, n6, n7⟩ := W.nes
  have lt := W.lt
  have lw := lt w (by simp)
  have ls := lt s (by simp)
  have lg := lt g (by simp)
  have g1 : (h ++ [LO.cell (.lst [])])[g]? = some (LO.cell (.lst (rs.map D.obj))) := happ_lt W.og _
  refine ⟨by rw [List.getElem?_set_ne (Ne.symm n2)]; exact happ_lt W.ow _, by rw [List.getElem?_set_ne (Ne.symm n3)]; exact happ_lt W.os _, hset g1 _, by simp [W.len], fun j b e => ?_, ?_⟩
  · by_cases c : j < rs.length
    · rw [List.getElem?_append_left c] at e
      have mb := List.mem_of_getElem? e
      have lb := lt b (by simp [mb])
      rw [List.getElem?_set_ne fun q => n6 (by rw [q]; exact mb)]
      show _ = some (LO.cell (encL (rowAt (S.R ++ [[]]) j)))
      rw [rowAt_app (by rw [← W.len]; exact c)]
      exact happ_lt (W.rw j b e) _
    · rw [List.getElem?_append_right (by omega)] at e
      have hj : j - rs.length = 0 := by
        have := (List.getElem?_eq_some_iff.mp e).1
        simp at this; omega
      rw [hj] at e
      simp only [List.getElem?_cons_zero, Option.some.injEq] at e
      subst e
      have hj2 : j = S.R.length := by have := W.len; omega
      rw [List.getElem?_set_ne (by omega)]
      show _ = some (LO.cell (encL (rowAt (S.R ++ [[]]) j)))
      have : rowAt (S.R ++ [[]]) j = [] := by unfold rowAt; rw [hj2]; simp
      rw [this]
      simp [encL]
  · have nn : (rs ++ [h.length]).Nodup := by
      rw [List.nodup_append]
      refine ⟨n7, by simp, fun a ma b mb => ?_⟩
      simp only [List.mem_singleton] at mb
      have := lt a (by simp [ma])
      omega
    simp only [List.nodup_cons, List.mem_cons, not_or, List.mem_append, List.mem_singleton, List.not_mem_nil, or_false]
    exact ⟨⟨n1, n2, n4, by omega⟩, ⟨n3, n5, by omega⟩, ⟨n6, by omega⟩, nn⟩
end
end PX

/-! The laws' own settling of rungs. -/
namespace PX
open PySem PySem.Spec PyProof.Rows L2 PL
theorem seq_nx {a b : S} {st s1 : LS} {r : SRes} (h1 : a st = .nx s1) (h2 : b s1 = r) : sSeq a b st = r := by
  rw [sSeq_s, h1]; exact h2
theorem if_tt {c : E Bool} {a b : S} {st s1 : LS} {r : SRes} (h1 : c st = .ok true s1) (h2 : a s1 = r) : sIf c a b st = r := by
  rw [sIf_s, h1]; exact h2
theorem if_ff {c : E Bool} {a b : S} {st s1 : LS} {r : SRes} (h1 : c st = .ok false s1) (h2 : b s1 = r) : sIf c a b st = r := by
  rw [sIf_s, h1]; exact h2
theorem rg_two (p : Nat) (hp : p ≤ 1000000) : RgC 0 (2 * (p : Int)) 2 (rgN 0 (2 * (p : Int)) 2) ∧ rgN 0 (2 * (p : Int)) 2 = p := by
  have e : Builtin.Range.rangeSize 0 (2 * (p : Int)) 2 = (p : Int) := by
    unfold Builtin.Range.rangeSize
    rw [if_pos (by decide)]
    split <;> omega
  have n : rgN 0 (2 * (p : Int)) 2 = p := by unfold rgN; rw [e]; simp
  have f : ∀ z : Int, -1000 ≤ z → z ≤ 3000000 → Builtin.Range.rangeFitsLong z = true := fun z a b => by
    unfold Builtin.Range.rangeFitsLong
    rw [decide_eq_true (by omega), decide_eq_true (by omega)]; rfl
  refine ⟨⟨by decide, by decide, ?_, by rw [n, e]⟩, n⟩
  unfold Builtin.Range.small
  rw [e]
  have f0 := f 0 (by decide) (by decide)
  have f2 := f 2 (by decide) (by decide)
  have fp := f (p : Int) (by omega) (by omega)
  have fq := f (2 * (p : Int)) (by omega) (by omega)
  rw [f0, f2, fp, fq]
  rw [if_pos (show (2 : Int) > 0 by decide), f (2 * (p : Int) + (2 - 1)) (by omega) (by omega), Bool.or_true]
  rfl
theorem rangeS_inv {tg : D → LS → Option LS} {b : S} (lo c : Int) (I : Nat → LS → Prop) (n : Nat) (step : ∀ i st, i < n → I i st → ∃ s1, tg (.int (lo + (i : Int) * c)) st = some s1 ∧ ∃ s2, (b s1 = .nx s2 ∨ b s1 = .ct s2) ∧ I (i + 1) s2) (st : LS) (h0 : I 0 st) :
    ∃ st', turns tg b (rangeS lo c n) st = .nx st' ∧ I n st' := by
  have key : ∀ (k i : Nat) (st : LS), i + k = n → I i st → ∃ st', turns tg b ((List.range' i k).map fun (j : Nat) => D.int (lo + (j : Int) * c)) st = .nx st' ∧ I n st' := by
    intro k
    induction k with
    | zero => intro i st e hI; exact ⟨st, rfl, by rw [← e]; exact hI⟩
    | succ k ih =>
      intro i st e hI
      obtain ⟨s1, e1, s2, e2, h2⟩ := step i st (by omega) hI
      obtain ⟨st', e3, h3⟩ := ih (i + 1) s2 (by omega) h2
      refine ⟨st', ?_, h3⟩
      rw [List.range'_succ, List.map_cons, turns, e1]
      rcases e2 with e2 | e2 <;> simp only [e2, e3]
  obtain ⟨st', e, h1⟩ := key n 0 st (by omega) h0
  exact ⟨st', by unfold rangeS; rw [List.range_eq_range']; exact e, h1⟩
section
variable {room : Nat} {S : Rg} {total : Int} {l m : Option Int} {w s g : Nat} {rs : List Nat} {H : List LO}
theorem objs_at {rs : List Nat} {i a : Nat} (e : rs[i]? = some a) : PL.atD (rs.map D.obj) (i : Int) = some (.obj a) := by
  rw [atD_nat, List.getElem?_map, e]; rfl
theorem Wd.dw (W : Wd room S total l m w s g rs H) (st : List (Option FV)) : LS.dr ⟨st, H⟩ (.obj w) = .dic (wdL room s g total S.tu l m) := by simp [W.ow]
theorem Wd.ds (W : Wd room S total l m w s g rs H) (st : List (Option FV)) : LS.dr ⟨st, H⟩ (.obj s) = .lst [.int S.ov, .int S.un] := by simp [W.os]
theorem Wd.dg (W : Wd room S total l m w s g rs H) (st : List (Option FV)) : LS.dr ⟨st, H⟩ (.obj g) = .lst (rs.map D.obj) := by simp [W.og]
/-- what goes up is put behind the next row -/
theorem rw_loop (W : Wd room S total l m w s g rs H) {h a b : Nat} (ea : rs[h]? = some a) (eb : rs[h + 1]? = some b) (gr : Bool) (hl : (rowAt S.R h).length ≤ 1000000) (hl2 : (rowAt S.R (h + 1)).length ≤ 1000000) (hb : h ≤ 1000000) (x4 x5 : Option FV) :
    ∃ y5, turns (tgN 5) B_rw_settled_1 (rangeS 0 2 ((rowAt S.R h).length / 2)) ⟨[some (.val (.obj w)), some (.val (.int (h : Nat))), some (.val (.obj a)), some (.val (.int (if gr then 1 else 0))), x4, x5], H⟩ =
      .nx ⟨[some (.val (.obj w)), some (.val (.int (h : Nat))), some (.val (.obj a)), some (.val (.int (if gr then 1 else 0))), x4, y5], H.set b (.cell (encL (rowAt S.R (h + 1) ++ goesOf gr (rowAt S.R h))))⟩ := by
  have hg := goes_len gr (rowAt S.R h)
  have hbb := W.rw (h + 1) b eb
  have il : h + 1 < S.R.length := by rw [← W.len]; exact (List.getElem?_eq_some_iff.mp eb).1
  obtain ⟨st', e, y5, rfl⟩ := rangeS_inv (tg := tgN 5) (b := B_rw_settled_1) 0 2 (fun i st => ∃ y5, st = ⟨[some (.val (.obj w)), some (.val (.int (h : Nat))), some (.val (.obj a)), some (.val (.int (if gr then 1 else 0))), x4, y5], H.set b (.cell (encL (rowAt S.R (h + 1) ++ (goesOf gr (rowAt S.R h)).take i)))⟩) ((rowAt S.R h).length / 2)
    (fun i st hi ⟨y5, e⟩ => by
      subst e
      refine ⟨_, rfl, ⟨[some (.val (.obj w)), some (.val (.int (h : Nat))), some (.val (.obj a)), some (.val (.int (if gr then 1 else 0))), x4, some (.val (.int (0 + (i : Int) * 2)))], H.set b (.cell (encL (rowAt S.R (h + 1) ++ (goesOf gr (rowAt S.R h)).take (i + 1))))⟩, .inl ?_, _, rfl⟩
      have hx := goes_get gr (rowAt S.R h) i hi
      obtain ⟨x, ex⟩ : ∃ x, (goesOf gr (rowAt S.R h))[i]? = some x := ⟨_, List.getElem?_eq_getElem (by rw [hg]; exact hi)⟩
      have tk : (goesOf gr (rowAt S.R h)).take (i + 1) = (goesOf gr (rowAt S.R h)).take i ++ [x] := by rw [List.take_add_one, ex]; rfl
      rw [ex] at hx
      have tl : (rowAt S.R (h + 1) ++ (goesOf gr (rowAt S.R h)).take i).length < 16777216 := by rw [List.length_append, List.length_take]; omega
      obtain ⟨q, hq⟩ : ∃ q, q = rowAt S.R (h + 1) ++ (goesOf gr (rowAt S.R h)).take i := ⟨_, rfl⟩
      rw [tk, ← List.append_assoc, ← hq]
      rw [← hq] at tl
      have V := W.upR eb q
      obtain ⟨K, hK⟩ : ∃ K, K = H.set b (.cell (encL q)) := ⟨_, rfl⟩
      have fin : ∀ z, H.set b z = K.set b z := fun z => by rw [hK, List.set_set]
      rw [← hK] at V ⊢
      rw [fin]
      have va := V.rw h a ea
      have vb := V.rw (h + 1) b eb
      simp only at va vb
      rw [rowAt_set, if_neg (by omega)] at va
      rw [rowAt_set, if_pos ⟨rfl, il⟩] at vb
      have vw := V.ow
      have vg := V.og
      have v := wd_v room s g total S.tu l m
      have oa := objs_at eb
      rw [show ((h + 1 : Nat) : Int) = (h : Int) + 1 by omega] at oa
      have at0 : PL.atD ((rowAt S.R h).map D.int) ((i : Int) * 2 + (if gr then 1 else 0)) = some (.int x) := by
        have e2 : (i : Int) * 2 + (if gr then 1 else 0) = ((2 * i + (if gr then 1 else 0) : Nat) : Int) := by cases gr <;> simp <;> omega
        rw [e2, atD_nat, List.getElem?_map, ← hx]; rfl
      unfold B_rw_settled_1
      unfold encL at *
      simp only [Int.zero_add]
      cases gr
      · simp at at0 tl
        simp [vw, vg, va, vb, v, oa, at0, tl, dKey]
      · simp at at0 tl
        simp [vw, vg, va, vb, v, oa, at0, tl, dKey])
    ⟨[some (.val (.obj w)), some (.val (.int (h : Nat))), some (.val (.obj a)), some (.val (.int (if gr then 1 else 0))), x4, x5], H⟩ ⟨x5, by
      have : rowAt S.R (h + 1) ++ (goesOf gr (rowAt S.R h)).take 0 = rowAt S.R (h + 1) := by simp
      rw [this, set_self hbb]⟩
  rw [List.take_of_length_le (by omega)] at e
  exact ⟨y5, e⟩
theorem rw_step (W : Wd room S total l m w s g rs H) {h : Nat} (hl : h < S.R.length) (hb : h ≤ 100000) (he : elems S.R ≤ 1000000) (hlen : S.R.length ≤ 100000) (x2 x3 x4 x5 : Option FV) :
    ∃ y2 y3 y4 y5 H' rs', B_rw_settled_0 ⟨[some (.val (.obj w)), some (.val (.int (h : Nat))), x2, x3, x4, x5], H⟩ = .nx ⟨[some (.val (.obj w)), some (.val (.int ((h + 1 : Nat) : Int))), y2, y3, y4, y5], H'⟩ ∧
      Wd room (stepR room h S) total l m w s g rs' H' ∧ Fw (w :: s :: g :: rs) (w :: s :: g :: rs') H H' := by
  obtain ⟨a, ea, ra⟩ := W.at hl
  have oa := objs_at ea
  have v := wd_v room s g total S.tu l m
  have rlen : (rowAt S.R h).length ≤ 1000000 := by
    have := elems_ge (rowAt_mem hl)
    omega
  have ww := W.ow
  have wg := W.og
  have ws := W.os
  unfold B_rw_settled_0
  by_cases q : room < (rowAt S.R h).length
  case neg =>
    refine ⟨some (.val (.obj a)), x3, x4, x5, H, rs, ?_, ?_, Fw.refl _ _⟩
    · simp [ww, wg, ra, v, oa, dKey, q, encL]
    · unfold stepR; rw [if_neg q]; exact W
  case pos =>
  obtain ⟨gr, hgr⟩ : ∃ gr : Bool, gr = decide (S.tu % 2 = 1) := ⟨_, rfl⟩
  have hside : S.tu % 2 = if gr then 1 else 0 := by
    rw [hgr]
    by_cases c : S.tu % 2 = 1
    · simp [c]
    · simp [c]; omega
  obtain ⟨p, hp⟩ : ∃ p, p = (rowAt S.R h).length / 2 := ⟨_, rfl⟩
  have heven : ((rowAt S.R h).length : Int) - ((rowAt S.R h).length : Int) % 2 = 2 * (p : Int) := by omega
  have gl := growR_len S.R h hl
  -- a row more where there is none
  have grow : ∃ H1 rs1, (sIf (tst (eBin mEq (eBin mAdd (vVar 1) (eC (.int 1))) (eUn mLen (eDr (eBin (Sem2.dr mDGet) (vVar 0) (eC (.str "rungs"))))))) (sAppC (eBin (Sem2.dr mDGet) (vVar 0) (eC (.str "rungs"))) (eNewC (eLst (eNil)))) (sNx) : LS → SRes)
      ⟨[some (.val (.obj w)), some (.val (.int (h : Nat))), some (.val (.obj a)), some (.val (.int (if gr then 1 else 0))), some (.val (.int (2 * (p : Int)))), x5], H⟩ = .nx ⟨[some (.val (.obj w)), some (.val (.int (h : Nat))), some (.val (.obj a)), some (.val (.int (if gr then 1 else 0))), some (.val (.int (2 * (p : Int)))), x5], H1⟩ ∧
      Wd room ⟨growR S.R h, S.ov, S.un, S.tu⟩ total l m w s g rs1 H1 ∧ rs1[h]? = some a ∧ Fw (w :: s :: g :: rs) (w :: s :: g :: rs1) H H1 := by
    have hwl := W.len
    by_cases c : h + 1 = S.R.length
    · have V := W.addR
      refine ⟨(H ++ [LO.cell (.lst [])]).set g (LO.cell (.lst ((rs ++ [H.length]).map D.obj))), rs ++ [H.length], ?_, ?_, ?_, ?_⟩
      rotate_left
      · have : growR S.R h = S.R ++ [[]] := by unfold growR; rw [if_pos c]
        rw [this]; exact V
      · rw [List.getElem?_append_left (by omega)]; exact ea
      · exact Fw.mk2 _ _ (by simp) (W.lt g (by simp)) (own_app _)
      · have c' : (h : Int) + 1 = (rs.length : Int) := by omega
        have lg := W.lt g (by simp)
        have lw := W.lt w (by simp)
        have e1 : (H ++ [LO.cell (.lst [])])[w]? = some (LO.cell (.dic (wdL room s g total S.tu l m))) := happ_lt ww _
        have e2 : (H ++ [LO.cell (.lst [])])[g]? = some (LO.cell (.lst (rs.map D.obj))) := happ_lt wg _
        simp [ww, wg, v, dKey, c', e1, e2, show rs.length < 16777216 by omega]
    · refine ⟨H, rs, ?_, ?_, ea, Fw.refl _ _⟩
      · have c' : ¬ (h : Int) + 1 = (rs.length : Int) := by omega
        simp [ww, wg, v, dKey, c']
      · have : growR S.R h = S.R := by unfold growR; rw [if_neg c]
        rw [this]; exact W
  obtain ⟨H1, rs1, eg, W1, ea1, F1⟩ := grow
  have l1 : h + 1 < rs1.length := by rw [W1.len]; exact gl.1
  obtain ⟨b, eb⟩ : ∃ b, rs1[h + 1]? = some b := ⟨_, List.getElem?_eq_getElem l1⟩
  have r1l : (rowAt (growR S.R h) (h + 1)).length ≤ 1000000 := by
    rcases mem_grow (rowAt_mem gl.1) with mm | mm
    · have := elems_ge mm; omega
    · rw [mm]; simp
  have r0 : rowAt (growR S.R h) h = rowAt S.R h := rowAt_grow hl
  obtain ⟨y5, el⟩ := rw_loop W1 ea1 eb gr (by simp only; rw [r0]; exact rlen) r1l (by omega) (some (.val (.int (2 * (p : Int))))) x5
  simp only at el
  rw [r0, ← hp] at el
  obtain ⟨go, hgo⟩ : ∃ go, go = rowAt (growR S.R h) (h + 1) ++ goesOf gr (rowAt S.R h) := ⟨_, rfl⟩
  have gol : go.length ≤ 16777216 := by rw [hgo, List.length_append, goes_len]; omega
  have W2 := W1.upR eb go
  dsimp only at W2
  rw [← hgo] at el
  have F2 : Fw (w :: s :: g :: rs1) (w :: s :: g :: rs1) H1 (H1.set b (.cell (encL go))) := Fw.set _ _ _ (by simp [List.mem_of_getElem? eb])
  obtain ⟨H2, hH2⟩ : ∃ K, K = H1.set b (.cell (encL go)) := ⟨_, rfl⟩
  rw [← hH2] at W2 el F2
  have W3 := W2.newR (i := h + 1) (by simp only [List.length_set]; exact gl.1) (srt go)
  dsimp only at W3
  obtain ⟨rs3, hrs3⟩ : ∃ r, r = rs1.set (h + 1) H2.length := ⟨_, rfl⟩
  obtain ⟨H3, hH3⟩ : ∃ K, K = (H2 ++ [LO.cell (encL (srt go))]).set g (.cell (.lst (rs3.map D.obj))) := ⟨_, rfl⟩
  rw [← hrs3, ← hH3] at W3
  have ea3 : rs3[h]? = some a := by rw [hrs3, List.getElem?_set_ne (by omega)]; exact ea1
  have W4 := W3.newR (i := h) (by simp only [List.length_set]; omega) (staysOf (rowAt S.R h))
  dsimp only at W4
  obtain ⟨rs4, hrs4⟩ : ∃ r, r = rs3.set h H3.length := ⟨_, rfl⟩
  obtain ⟨H4, hH4⟩ : ∃ K, K = (H3 ++ [LO.cell (encL (staysOf (rowAt S.R h)))]).set g (.cell (.lst (rs4.map D.obj))) := ⟨_, rfl⟩
  rw [← hrs4, ← hH4] at W4
  have W5 := W4.setS (if gr then S.ov else S.ov + 2 ^ h) (if gr then S.un + 2 ^ h else S.un)
  dsimp only at W5
  obtain ⟨H5, hH5⟩ : ∃ K, K = H4.set s (.cell (.lst [.int (if gr then S.ov else S.ov + 2 ^ h), .int (if gr then S.un + 2 ^ h else S.un)])) := ⟨_, rfl⟩
  rw [← hH5] at W5
  have W6 := W5.setD total (S.tu + 1) l m
  dsimp only at W6
  refine ⟨some (.val (.obj a)), some (.val (.int (if gr then 1 else 0))), some (.val (.int (2 * (p : Int)))), y5, H5.set w (LO.cell (.dic (wdL room s g total (S.tu + 1) l m))), rs4, ?_, ?_, ?_⟩
  rotate_left
  · have e : stepR room h S = ⟨(((growR S.R h).set (h + 1) go).set (h + 1) (srt go)).set h (staysOf (rowAt S.R h)), if gr then S.ov else S.ov + 2 ^ h, if gr then S.un + 2 ^ h else S.un, S.tu + 1⟩ := by
      unfold stepR; rw [if_pos q, List.set_set, List.set_comm _ _ (by omega), hgo, hgr]
      simp
    rw [e]
    exact W6
  · have F3 : Fw (w :: s :: g :: rs1) (w :: s :: g :: rs3) H2 H3 := by rw [hH3, hrs3]; exact Fw.mk2 _ _ (by simp) (W2.lt g (by simp)) (own_set _ _)
    have F4 : Fw (w :: s :: g :: rs3) (w :: s :: g :: rs4) H3 H4 := by rw [hH4, hrs4]; exact Fw.mk2 _ _ (by simp) (W3.lt g (by simp)) (own_set _ _)
    have F5 : Fw (w :: s :: g :: rs4) (w :: s :: g :: rs4) H4 H5 := by rw [hH5]; exact Fw.set _ _ _ (by simp)
    exact ((((F1.trans F2).trans F3).trans F4).trans F5).trans (Fw.set _ _ _ (by simp))
  · refine seq_nx (s1 := ⟨[some (.val (.obj w)), some (.val (.int (h : Nat))), some (.val (.obj a)), x3, x4, x5], H⟩) (by simp [ww, wg, v, oa, dKey]) ?_
    refine seq_nx (s1 := ⟨[some (.val (.obj w)), some (.val (.int (h : Nat))), some (.val (.obj a)), some (.val (.int (if gr then 1 else 0))), some (.val (.int (2 * (p : Int)))), y5], H5.set w (.cell (.dic (wdL room s g total (S.tu + 1) l m)))⟩) ?_ (by simp)
    refine if_tt (s1 := ⟨[some (.val (.obj w)), some (.val (.int (h : Nat))), some (.val (.obj a)), x3, x4, x5], H⟩) (by simp [ww, ra, v, dKey, q, encL]) ?_
    refine seq_nx (s1 := ⟨[some (.val (.obj w)), some (.val (.int (h : Nat))), some (.val (.obj a)), some (.val (.int (if gr then 1 else 0))), x4, x5], H⟩) (by simp [ww, v, dKey, hside]) ?_
    refine seq_nx (s1 := ⟨[some (.val (.obj w)), some (.val (.int (h : Nat))), some (.val (.obj a)), some (.val (.int (if gr then 1 else 0))), some (.val (.int (2 * (p : Int)))), x5], H⟩) (by simp [ra, encL, heven]) ?_
    refine seq_nx eg ?_
    refine seq_nx (s1 := ⟨[some (.val (.obj w)), some (.val (.int (h : Nat))), some (.val (.obj a)), some (.val (.int (if gr then 1 else 0))), some (.val (.int (2 * (p : Int)))), y5], H2⟩) ?_ ?_
    · obtain ⟨c1, c2⟩ := rg_two p (by omega)
      rw [c2] at c1
      simp [c1, c2, el]
    have w2w := W2.ow
    have w2g := W2.og
    have w2b := W2.rw (h + 1) b eb
    simp only at w2w w2b
    rw [rowAt_set, if_pos ⟨rfl, gl.1⟩] at w2b
    have ob := objs_at eb
    rw [show ((h + 1 : Nat) : Int) = (h : Int) + 1 by omega] at ob
    have ic := intsD_map go
    refine seq_nx (s1 := ⟨[some (.val (.obj w)), some (.val (.int (h : Nat))), some (.val (.obj a)), some (.val (.int (if gr then 1 else 0))), some (.val (.int (2 * (p : Int)))), y5], H3⟩) ?_ ?_
    · have e1 : (H2 ++ [LO.cell (.lst ((srt go).map D.int))])[w]? = some (LO.cell (.dic (wdL room s g total S.tu l m))) := happ_lt w2w _
      have e2 : (H2 ++ [LO.cell (.lst ((srt go).map D.int))])[g]? = some (LO.cell (.lst (rs1.map D.obj))) := happ_lt w2g _
      have ix : ixD rs1.length ((h : Int) + 1) = some (h + 1) := by unfold ixD; rw [if_pos (by omega), if_pos (by omega)]; simp
      have ms : (rs1.map D.obj).set (h + 1) (.obj H2.length) = rs3.map D.obj := by rw [hrs3, List.map_set]
      rw [hH3]
      unfold encL at *
      simp [w2w, w2g, w2b, v, ob, dKey, ic, e1, e2, ix, ms, gol, -List.map_set]
    have w3w := W3.ow
    have w3g := W3.og
    have w3a := W3.rw h a ea3
    simp only at w3w w3a
    rw [rowAt_set, if_neg (by omega), rowAt_set, if_neg (by omega), r0] at w3a
    refine seq_nx (s1 := ⟨[some (.val (.obj w)), some (.val (.int (h : Nat))), some (.val (.obj a)), some (.val (.int (if gr then 1 else 0))), some (.val (.int (2 * (p : Int)))), y5], H4⟩) ?_ ?_
    · have e1 : (H3 ++ [LO.cell (.lst ((staysOf (rowAt S.R h)).map D.int))])[w]? = some (LO.cell (.dic (wdL room s g total S.tu l m))) := happ_lt w3w _
      have e2 : (H3 ++ [LO.cell (.lst ((staysOf (rowAt S.R h)).map D.int))])[g]? = some (LO.cell (.lst (rs3.map D.obj))) := happ_lt w3g _
      have l3 : rs3.length = rs1.length := by rw [hrs3, List.length_set]
      have ix : ixD rs3.length (h : Int) = some h := by unfold ixD; rw [if_pos (by omega), if_pos (by omega)]; simp
      have ms : (rs3.map D.obj).set h (.obj H3.length) = rs4.map D.obj := by rw [hrs4, List.map_set]
      have cut : PL.cutD ((rowAt S.R h).map D.int) (some (2 * (p : Int))) none = (staysOf (rowAt S.R h)).map D.int := by
        rw [cut_hi _ _ (2 * p) (by omega)]
        unfold staysOf; rw [List.map_drop, hp]
      rw [hH4]
      unfold encL at *
      simp [w3w, w3g, w3a, v, dKey, cut, e1, e2, ix, ms, -List.map_set]
    have w4w := W4.ow
    have w4s := W4.os
    simp only at w4w w4s
    have c1 := shl1 h (by omega)
    refine seq_nx (s1 := ⟨[some (.val (.obj w)), some (.val (.int (h : Nat))), some (.val (.obj a)), some (.val (.int (if gr then 1 else 0))), some (.val (.int (2 * (p : Int)))), y5], H5⟩) ?_ ?_
    · rw [hH5]
      have a2 := at2 (.int S.ov) (.int S.un)
      have i0 : ixD 2 0 = some 0 := rfl
      have i1 : ixD 2 1 = some 1 := rfl
      cases gr
      · simp [w4w, w4s, v, dKey, c1, a2, i0, i1]
      · simp [w4w, w4s, v, dKey, c1, a2, i0, i1]
    have w5w := W5.ow
    simp only at w5w
    have pp := (wd_p room s g total S.tu l m).2.1
    have wl := wd_len room s g total S.tu l m
    simp [w5w, v, dKey, pp, wl]
end
end PX

/-! The laws' own rungs: rows put in. -/
namespace PX
open PySem PySem.Spec PyProof.Rows L2 PL
section
variable {room : Nat} {total : Int} {l m : Option Int} {w s g : Nat}
theorem rw_settle_loop (hm : 1 ≤ room) : ∀ (n h : Nat) (S : Rg) (rs : List Nat) (H : List LO) (x2 x3 x4 x5 : Option FV), Wd room S total l m w s g rs H → mu h S.R ≤ n → h + n ≤ 100000 → elems S.R ≤ 100000 → S.R.length + n ≤ 100000 →
    ∃ k y2 y3 y4 y5 H' rs', sWhile C_rw_settled_0 B_rw_settled_0 ⟨[some (.val (.obj w)), some (.val (.int (h : Nat))), x2, x3, x4, x5], H⟩ = .nx ⟨[some (.val (.obj w)), some (.val (.int k)), y2, y3, y4, y5], H'⟩ ∧ Wd room (loopR room n h S) total l m w s g rs' H' ∧ Fw (w :: s :: g :: rs) (w :: s :: g :: rs') H H' := by
  intro n
  induction n with
  | zero =>
    intro h S rs H x2 x3 x4 x5 W hmu hb he hlen
    have hl : ¬ h < rs.length := by rw [W.len]; unfold mu at hmu; omega
    refine ⟨h, x2, x3, x4, x5, H, rs, ?_, W, Fw.refl _ _⟩
    have v := wd_v room s g total S.tu l m
    have ww := W.ow
    have wg := W.og
    rw [sWhile_eq]
    unfold C_rw_settled_0
    simp [ww, wg, v, dKey, hl]
  | succ n ih =>
    intro h S rs H x2 x3 x4 x5 W hmu hb he hlen
    have v := wd_v room s g total S.tu l m
    have ww := W.ow
    have wg := W.og
    by_cases hl : h < S.R.length
    · obtain ⟨y2, y3, y4, y5, H1, rs1, e1, W1, F1⟩ := rw_step W hl (by omega) (by omega) (by omega) x2 x3 x4 x5
      have mm := mu_step hm hl
      have el : elems (stepR room h S).R ≤ elems S.R := step_elems room h S hl
      have ll : (stepR room h S).R.length ≤ S.R.length + 1 := by
        unfold stepR
        split
        · simp only [List.length_set]; unfold growR; split <;> simp
        · omega
      obtain ⟨k, z2, z3, z4, z5, H2, rs2, e2, W2, F2⟩ := ih (h + 1) (stepR room h S) rs1 H1 y2 y3 y4 y5 W1 (by omega) (by omega) (by omega) (by omega)
      refine ⟨k, z2, z3, z4, z5, H2, rs2, ?_, by rw [loopR, if_pos hl]; exact W2, F1.trans F2⟩
      have hl2 : h < rs.length := by rw [W.len]; exact hl
      have hc : C_rw_settled_0 ⟨[some (.val (.obj w)), some (.val (.int (h : Nat))), x2, x3, x4, x5], H⟩ = .ok true ⟨[some (.val (.obj w)), some (.val (.int (h : Nat))), x2, x3, x4, x5], H⟩ := by
        unfold C_rw_settled_0
        simp [ww, wg, v, dKey, hl2]
      rw [← e2, sWhile_eq, hc]
      simp only [of_ok, if_true, e1]
    · have hl2 : ¬ h < rs.length := by rw [W.len]; exact hl
      refine ⟨h, x2, x3, x4, x5, H, rs, ?_, by rw [loopR, if_neg hl]; exact W, Fw.refl _ _⟩
      rw [sWhile_eq]
      unfold C_rw_settled_0
      simp [ww, wg, v, dKey, hl2]
theorem rw_settle_v (hm : 1 ≤ room) {S : Rg} {rs : List Nat} {H : List LO} (W : Wd room S total l m w s g rs H) (he : elems S.R ≤ 10000) (hlen : S.R.length ≤ 10000) :
    ∃ H' rs', F_rw_settled [.val (.obj w)] H = .ret (.val .non) H' ∧ Wd room (settleR room S) total l m w s g rs' H' ∧ Fw (w :: s :: g :: rs) (w :: s :: g :: rs') H H' := by
  have hmu : mu 0 S.R ≤ 20000 := by unfold mu; simp; omega
  obtain ⟨k, y2, y3, y4, y5, H', rs', e, W', F⟩ := rw_settle_loop hm (mu 0 S.R) 0 S rs H none none none none W (Nat.le_refl _) (by omega) (by omega) (by omega)
  refine ⟨H', rs', ?_, W', F⟩
  unfold F_rw_settled
  simp at e
  simp [fn_s, e]
/-! ### a weight put in -/
theorem padR_padR (R : List (List Int)) {a b : Nat} (h : a ≤ b) : padR (padR R a) b = padR R b := by
  unfold padR
  rw [List.append_assoc, List.length_append, List.length_replicate, List.replicate_append_replicate]
  congr 2
  omega
theorem putB_pad (wt x : Int) (R : List (List Int)) (b : Nat) : ∀ n : Nat, (∀ k, k < n → wt / 2 ^ k % 2 = 1 → k < R.length) → putB wt x n (padR R b) = padR (putB wt x n R) b
  | 0, _ => rfl
  | n + 1, h => by
    have ih := putB_pad wt x R b n fun k hk => h k (by omega)
    rw [putB, putB, ih]
    split
    · rename_i c
      have hn := h n (by omega) c
      have hl : n < (putB wt x n R).length := by rw [putB_len]; exact hn
      unfold padR
      rw [List.length_set, rowAt_app hl, List.set_append_left _ _ hl]
    · rfl
def lput (wt x : Int) : Nat → List (List Int) → List (List Int)
  | 0, R => R
  | n + 1, R => if wt / 2 ^ n % 2 = 1 then (padR (lput wt x n R) (n + 1)).set n (srt (rowAt (padR (lput wt x n R) (n + 1)) n ++ [x])) else lput wt x n R
def topB (wt : Int) : Nat → Nat
  | 0 => 0
  | n + 1 => if wt / 2 ^ n % 2 = 1 then n + 1 else topB wt n
theorem topB_lt (wt : Int) : ∀ n k : Nat, k < n → wt / 2 ^ k % 2 = 1 → k < topB wt n
  | 0, k, h, _ => by omega
  | n + 1, k, h, c => by
    rw [topB]
    split
    · exact h
    · rename_i c2
      by_cases e : k = n
      · subst e; exact absurd c c2
      · exact topB_lt wt n k (by omega) c
theorem topB_le (wt : Int) : ∀ n : Nat, topB wt n ≤ n
  | 0 => Nat.le_refl _
  | n + 1 => by
    rw [topB]
    split
    · omega
    · have := topB_le wt n; omega
theorem lput_eq (wt x : Int) (R : List (List Int)) : ∀ n : Nat, lput wt x n R = putB wt x n (padR R (topB wt n))
  | 0 => by simp [lput, putB, topB, padR]
  | n + 1 => by
    have ih := lput_eq wt x R n
    rw [lput, topB]
    split
    · rename_i c
      have tl := topB_le wt n
      rw [ih, ← putB_pad wt x (padR R (topB wt n)) (n + 1) n (fun k hk hc => by
        have := topB_lt wt n k hk hc
        rw [padR_len]; omega), padR_padR R (by omega), putB, if_pos c]
    · rename_i c
      rw [ih, putB, if_neg c]
theorem high_bits {wt : Int} (hw : 1 ≤ wt) {n : Nat} (hn : Builtin.Int.intBits wt ≤ n) : ¬ wt / 2 ^ n % 2 = 1 := by
  have h1 := lt_bits hn
  have e : ((2 ^ n : Nat) : Int) = 2 ^ n := by push_cast; rfl
  have : wt / 2 ^ n = 0 := Int.ediv_eq_zero_of_lt (by omega) (by omega)
  rw [this]; decide
theorem topB_bits {wt : Int} (hw : 1 ≤ wt) : ∀ n : Nat, Builtin.Int.intBits wt ≤ n → topB wt n = Builtin.Int.intBits wt := by
  obtain ⟨b, hb⟩ : ∃ b, Builtin.Int.intBits wt = b + 1 := ⟨Builtin.Int.intBits wt - 1, by have := bits_pos hw; omega⟩
  intro n
  induction n with
  | zero => intro h; omega
  | succ n ih =>
    intro h
    rw [topB]
    by_cases c : Builtin.Int.intBits wt ≤ n
    · rw [if_neg (high_bits hw c)]; exact ih c
    · have : n = b := by omega
      subst this
      rw [if_pos (bits_top hb hw)]; omega
theorem putB_high {wt x : Int} (hw : 1 ≤ wt) (R : List (List Int)) : ∀ n : Nat, Builtin.Int.intBits wt ≤ n → putB wt x n R = putB wt x (Builtin.Int.intBits wt) R
  | 0, h => by rw [show Builtin.Int.intBits wt = 0 by omega]
  | n + 1, h => by
    by_cases c : Builtin.Int.intBits wt ≤ n
    · rw [putB, if_neg (high_bits hw c)]; exact putB_high hw R n c
    · rw [show Builtin.Int.intBits wt = n + 1 by omega]
theorem lput_all {wt x : Int} (hw : 1 ≤ wt) (R : List (List Int)) (n : Nat) (h : Builtin.Int.intBits wt ≤ n) : lput wt x n R = putB wt x (Builtin.Int.intBits wt) (padR R (Builtin.Int.intBits wt)) := by
  rw [lput_eq, topB_bits hw n h, putB_high hw _ n h]
theorem lput_len (wt x : Int) (R : List (List Int)) (n : Nat) : (lput wt x n R).length ≤ max R.length n := by
  rw [lput_eq, putB_len, padR_len]
  have := topB_le wt n
  omega
theorem lput_elems (wt x : Int) (R : List (List Int)) (n : Nat) : elems (lput wt x n R) ≤ elems R + n := by
  rw [lput_eq]
  have := putB_elems wt x (padR R (topB wt n)) n
  rw [elems_pad] at this
  exact this
/-- the lists that are lacking -/
theorem rw_pad {S : Rg} (x wt : Int) (x3 : Option FV) (k : Nat) (hk : k ≤ 1000) : ∀ (n : Nat) (R : List (List Int)) (rs : List Nat) (H : List LO), Wd room ⟨R, S.ov, S.un, S.tu⟩ total l m w s g rs H → R.length + n = k + 1 →
    ∃ H' rs', sWhile C_rw_added_1 B_rw_added_1 ⟨[some (.val (.obj w)), some (.val (.int x)), some (.val (.int wt)), x3, some (.val (.int (k : Nat)))], H⟩ = .nx ⟨[some (.val (.obj w)), some (.val (.int x)), some (.val (.int wt)), x3, some (.val (.int (k : Nat)))], H'⟩ ∧
      Wd room ⟨R ++ List.replicate n [], S.ov, S.un, S.tu⟩ total l m w s g rs' H' ∧ Fw (w :: s :: g :: rs) (w :: s :: g :: rs') H H' := by
  intro n
  induction n with
  | zero =>
    intro R rs H W e
    refine ⟨H, rs, ?_, by simpa using W, Fw.refl _ _⟩
    have v := wd_v room s g total S.tu l m
    have ww := W.ow
    have wg := W.og
    have wl := W.len
    simp only at ww wl
    rw [sWhile_eq]
    unfold C_rw_added_1
    simp [ww, wg, v, dKey, show ¬ (rs.length : Int) ≤ (k : Int) by omega]
  | succ n ih =>
    intro R rs H W e
    have V := W.addR
    obtain ⟨H1, hH1⟩ : ∃ K, K = (H ++ [LO.cell (.lst [])]).set g (.cell (.lst ((rs ++ [H.length]).map D.obj))) := ⟨_, rfl⟩
    rw [← hH1] at V
    have F1 : Fw (w :: s :: g :: rs) (w :: s :: g :: (rs ++ [H.length])) H H1 := by rw [hH1]; exact Fw.mk2 _ _ (by simp) (W.lt g (by simp)) (own_app _)
    obtain ⟨H', rs', e2, W2, F2⟩ := ih (R ++ [[]]) _ H1 V (by simp; omega)
    refine ⟨H', rs', ?_, ?_, F1.trans F2⟩
    · have v := wd_v room s g total S.tu l m
      have ww := W.ow
      have wg := W.og
      have wl := W.len
      simp only at ww wl
      have e3 : (H ++ [LO.cell (.lst [])])[w]? = some (LO.cell (.dic (wdL room s g total S.tu l m))) := happ_lt ww _
      have e4 : (H ++ [LO.cell (.lst [])])[g]? = some (LO.cell (.lst (rs.map D.obj))) := happ_lt wg _
      have hc : C_rw_added_1 ⟨[some (.val (.obj w)), some (.val (.int x)), some (.val (.int wt)), x3, some (.val (.int (k : Nat)))], H⟩ = .ok true ⟨[some (.val (.obj w)), some (.val (.int x)), some (.val (.int wt)), x3, some (.val (.int (k : Nat)))], H⟩ := by
        unfold C_rw_added_1
        simp [ww, wg, v, dKey, show (rs.length : Int) ≤ (k : Int) by omega]
      have hb : B_rw_added_1 ⟨[some (.val (.obj w)), some (.val (.int x)), some (.val (.int wt)), x3, some (.val (.int (k : Nat)))], H⟩ = .nx ⟨[some (.val (.obj w)), some (.val (.int x)), some (.val (.int wt)), x3, some (.val (.int (k : Nat)))], H1⟩ := by
        unfold B_rw_added_1
        rw [hH1]
        simp [ww, wg, v, dKey, e3, e4, show rs.length < 16777216 by omega]
      rw [← e2, sWhile_eq, hc]
      simp only [of_ok, if_true, hb]
    · rw [show R ++ List.replicate (n + 1) [] = R ++ [[]] ++ List.replicate n [] by rw [List.replicate_succ]; simp]
      exact W2
theorem rw_pad2 {S : Rg} (x wt : Int) (x3 : Option FV) (k : Nat) (hk : k ≤ 1000) (R : List (List Int)) (rs : List Nat) (H : List LO) (W : Wd room ⟨R, S.ov, S.un, S.tu⟩ total l m w s g rs H) :
    ∃ H' rs', sWhile C_rw_added_1 B_rw_added_1 ⟨[some (.val (.obj w)), some (.val (.int x)), some (.val (.int wt)), x3, some (.val (.int (k : Nat)))], H⟩ = .nx ⟨[some (.val (.obj w)), some (.val (.int x)), some (.val (.int wt)), x3, some (.val (.int (k : Nat)))], H'⟩ ∧
      Wd room ⟨padR R (k + 1), S.ov, S.un, S.tu⟩ total l m w s g rs' H' ∧ Fw (w :: s :: g :: rs) (w :: s :: g :: rs') H H' := by
  by_cases c : R.length ≤ k + 1
  · exact rw_pad x wt x3 k hk (k + 1 - R.length) R rs H W (by omega)
  · refine ⟨H, rs, ?_, ?_, Fw.refl _ _⟩
    · have v := wd_v room s g total S.tu l m
      have ww := W.ow
      have wg := W.og
      have wl := W.len
      simp only at ww wl
      rw [sWhile_eq]
      unfold C_rw_added_1
      simp [ww, wg, v, dKey, show ¬ (rs.length : Int) ≤ (k : Int) by omega]
    · have : padR R (k + 1) = R := by unfold padR; rw [show k + 1 - R.length = 0 by omega]; simp
      rw [this]; exact W
theorem rw_put {S : Rg} (x wt : Int) (hw : 1 ≤ wt) (x3 : Option FV) (rs : List Nat) (H : List LO) (W : Wd room S total l m w s g rs H) (he : elems S.R ≤ 9000) (hl : S.R.length ≤ 9000) :
    ∃ y4 H' rs', turns (tgN 4) B_rw_added_0 (rangeD 0 40) ⟨[some (.val (.obj w)), some (.val (.int x)), some (.val (.int wt)), x3, none], H⟩ = .nx ⟨[some (.val (.obj w)), some (.val (.int x)), some (.val (.int wt)), x3, y4], H'⟩ ∧
      Wd room ⟨lput wt x 40 S.R, S.ov, S.un, S.tu⟩ total l m w s g rs' H' ∧ Fw (w :: s :: g :: rs) (w :: s :: g :: rs') H H' := by
  obtain ⟨st', e, y4, H', rs', rfl, W', F'⟩ := range_inv (tg := tgN 4) (b := B_rw_added_0) (fun i st => ∃ y4 H' rs', st = ⟨[some (.val (.obj w)), some (.val (.int x)), some (.val (.int wt)), x3, y4], H'⟩ ∧ Wd room ⟨lput wt x i S.R, S.ov, S.un, S.tu⟩ total l m w s g rs' H' ∧ Fw (w :: s :: g :: rs) (w :: s :: g :: rs') H H') 40
    (fun i st hi ⟨y4, H1, rs1, e, W1, F1⟩ => by
      subst e
      have ll := lput_len wt x S.R i
      have le := lput_elems wt x S.R i
      have c1 := shl1 i (by omega)
      have c0 : CDivW wt (2 ^ i) := cdiv_small (p2p i) (by
        have h1 := Nat.pow_le_pow_right (show 0 < 2 by decide) (show i ≤ 40 by omega)
        have h2 : ((2 ^ i : Nat) : Int) = 2 ^ i := by push_cast; rfl
        omega)
      by_cases c : wt / 2 ^ i % 2 = 1
      · obtain ⟨H2, rs2, e2, W2, F2⟩ := rw_pad2 x wt x3 i (by omega) _ rs1 H1 W1
        have il : i < (padR (lput wt x i S.R) (i + 1)).length := by rw [padR_len]; omega
        obtain ⟨a, ea, ra⟩ := W2.at (i := i) il
        obtain ⟨row, hrow⟩ : ∃ row, row = rowAt (padR (lput wt x i S.R) (i + 1)) i := ⟨_, rfl⟩
        simp only at ra
        rw [← hrow] at ra
        have rl : row.length ≤ 16000000 := by
          have := elems_ge (rowAt_mem il)
          rw [elems_pad, ← hrow] at this
          omega
        have W3 := W2.newR (i := i) il (srt (row ++ [x]))
        obtain ⟨rs3, hrs3⟩ : ∃ r, r = rs2.set i H2.length := ⟨_, rfl⟩
        obtain ⟨H3, hH3⟩ : ∃ K, K = (H2 ++ [LO.cell (encL (srt (row ++ [x])))]).set g (.cell (.lst (rs3.map D.obj))) := ⟨_, rfl⟩
        rw [← hrs3, ← hH3] at W3
        have F3 : Fw (w :: s :: g :: rs2) (w :: s :: g :: rs3) H2 H3 := by rw [hH3, hrs3]; exact Fw.mk2 _ _ (by simp) (W2.lt g (by simp)) (own_set _ _)
        refine ⟨_, rfl, ⟨[some (.val (.obj w)), some (.val (.int x)), some (.val (.int wt)), x3, some (.val (.int (i : Nat)))], H3⟩, .inl ?_, _, H3, rs3, rfl, ?_, (F1.trans F2).trans F3⟩
        · have w2w := W2.ow
          have w2g := W2.og
          have w2l := W2.len
          simp only at w2w w2l
          have v := wd_v room s g total S.tu l m
          have oa := objs_at ea
          have ic := ints_app row [x]
          simp only [List.map_cons, List.map_nil] at ic
          have ix : ixD rs2.length (i : Int) = some i := by unfold ixD; rw [if_pos (by omega), if_pos (by omega)]; simp
          have ms : (rs2.map D.obj).set i (.obj H2.length) = rs3.map D.obj := by rw [hrs3, List.map_set]
          have e3 : (H2 ++ [LO.cell (.lst ((srt (row ++ [x])).map D.int))])[w]? = some (LO.cell (.dic (wdL room s g total S.tu l m))) := happ_lt w2w _
          have e4 : (H2 ++ [LO.cell (.lst ((srt (row ++ [x])).map D.int))])[g]? = some (LO.cell (.lst (rs2.map D.obj))) := happ_lt w2g _
          unfold B_rw_added_0
          refine if_tt (s1 := ⟨[some (.val (.obj w)), some (.val (.int x)), some (.val (.int wt)), x3, some (.val (.int (i : Nat)))], H1⟩) (by simp [c1, c0, c]) ?_
          refine seq_nx e2 ?_
          rw [hH3]
          unfold encL at *
          simp [w2w, w2g, v, dKey, oa, ra, ic, ix, ms, e3, e4, show row.length + 1 ≤ 16777216 by omega, -List.map_set]
        · rw [lput, if_pos c, ← hrow]
          exact W3
      · refine ⟨_, rfl, ⟨[some (.val (.obj w)), some (.val (.int x)), some (.val (.int wt)), x3, some (.val (.int (i : Nat)))], H1⟩, .inl ?_, _, H1, rs1, rfl, by rw [lput, if_neg c]; exact W1, F1⟩
        have q1 : (wt / 2 ^ i % 2 == 1) = false := by simpa using c
        unfold B_rw_added_0
        simp [c1, c0, c, q1])
    ⟨[some (.val (.obj w)), some (.val (.int x)), some (.val (.int wt)), x3, none], H⟩ ⟨none, H, rs, rfl, W, Fw.refl _ _⟩
  exact ⟨y4, H', rs', e, W', F'⟩
/-- least and most go together -/
def LmOk (l m : Option Int) : Prop := (l = none ∧ m = none) ∨ ∃ a b, l = some a ∧ m = some b ∧ a ≤ b
theorem LmOk.add {l m : Option Int} (h : LmOk l m) (x : Int) : LmOk (loO l x) (hiO m x) := by
  rcases h with ⟨rfl, rfl⟩ | ⟨a, b, rfl, rfl, h⟩
  · exact .inr ⟨x, x, rfl, rfl, Int.le_refl _⟩
  · refine .inr ⟨_, _, rfl, rfl, ?_⟩
    simp only
    split <;> split <;> omega
theorem rw_add_v (hm : 1 ≤ room) {S : Rg} (x wt : Int) (hw : 1 ≤ wt) (hw2 : wt < 2 ^ 40) {rs : List Nat} {H : List LO} (W : Wd room S total l m w s g rs H) (lm : LmOk l m) (he : elems S.R ≤ 9000) (hl : S.R.length ≤ 9000) :
    ∃ H' rs', F_rw_added [.val (.obj w), .val (.int x), .val (.int wt)] H = .ret (.val .non) H' ∧ Wd room (addRg room S x wt) (total + wt) (loO l x) (hiO m x) w s g rs' H' ∧ Fw (w :: s :: g :: rs) (w :: s :: g :: rs') H H' := by
  have b40 : Builtin.Int.intBits wt ≤ 40 := bits_lt (by omega)
  have W1 := W.setD (total + wt) S.tu l m
  obtain ⟨H1, hH1⟩ : ∃ K, K = H.set w (.cell (.dic (wdL room s g (total + wt) S.tu l m))) := ⟨_, rfl⟩
  rw [← hH1] at W1
  have W2 := W1.setD (total + wt) S.tu (loO l x) m
  obtain ⟨H2, hH2⟩ : ∃ K, K = H1.set w (.cell (.dic (wdL room s g (total + wt) S.tu (loO l x) m))) := ⟨_, rfl⟩
  simp only at W2
  rw [← hH2] at W2
  have W3 := W2.setD (total + wt) S.tu (loO l x) (hiO m x)
  obtain ⟨H3, hH3⟩ : ∃ K, K = H2.set w (.cell (.dic (wdL room s g (total + wt) S.tu (loO l x) (hiO m x)))) := ⟨_, rfl⟩
  simp only at W3
  rw [← hH3] at W3
  obtain ⟨sn, hsn⟩ : ∃ sn : List Int, sn = (match l, m with | some a, some b => [a, x, b] | _, _ => [x]) := ⟨_, rfl⟩
  have smin : sn.min? = loO l x := by
    rcases lm with ⟨rfl, rfl⟩ | ⟨a, b, rfl, rfl, h⟩
    · rw [hsn]; rfl
    · rw [hsn]
      show some (min (min a x) b) = some (if x < a then x else a)
      congr 1
      split <;> omega
  have smax : sn.max? = hiO m x := by
    rcases lm with ⟨rfl, rfl⟩ | ⟨a, b, rfl, rfl, h⟩
    · rw [hsn]; rfl
    · rw [hsn]
      show some (max (max a x) b) = some (if b < x then x else b)
      congr 1
      split <;> omega
  have sl : sn.length ≤ 3 := by
    rw [hsn]
    split <;> simp
  obtain ⟨y4, H4, rs4, e4, W4, F4⟩ := rw_put x wt hw (some (.val (.lst (sn.map D.int)))) rs H3 W3 (by simpa using he) (by simpa using hl)
  simp only at W4
  rw [lput_all hw S.R 40 b40] at W4
  have pe : elems (preR S x wt).R ≤ 9000 + 40 := by
    unfold preR
    simp only
    have := putB_elems wt x (padR S.R (Builtin.Int.intBits wt)) (Builtin.Int.intBits wt)
    rw [elems_pad] at this
    omega
  have pl : (preR S x wt).R.length ≤ 9000 := by
    unfold preR
    simp only
    rw [putB_len, padR_len]; omega
  obtain ⟨H5, rs5, e5, W5, F5⟩ := rw_settle_v hm (S := preR S x wt) W4 (by omega) (by omega)
  have F1 : Fw (w :: s :: g :: rs) (w :: s :: g :: rs) H H1 := by rw [hH1]; exact Fw.set _ _ _ (by simp)
  have F2 : Fw (w :: s :: g :: rs) (w :: s :: g :: rs) H1 H2 := by rw [hH2]; exact Fw.set _ _ _ (by simp)
  have F3 : Fw (w :: s :: g :: rs) (w :: s :: g :: rs) H2 H3 := by rw [hH3]; exact Fw.set _ _ _ (by simp)
  refine ⟨H5, rs5, ?_, W5, (((F1.trans F2).trans F3).trans F4).trans F5⟩
  have w0 := W.ow
  have w1 := W1.ow
  have w2 := W2.ow
  simp only at w1 w2
  have v0 := wd_v room s g total S.tu l m
  have v1 := wd_v room s g (total + wt) S.tu l m
  have p0 := (wd_p room s g total S.tu l m).1
  have p1 := (wd_p room s g (total + wt) S.tu l m).2.2.1
  have p2 := (wd_p room s g (total + wt) S.tu (loO l x) m).2.2.2.1
  have wl := wd_len room s g
  have ic := intsD_map sn
  obtain ⟨mn, hmn⟩ : ∃ mn, loO l x = some mn := ⟨_, rfl⟩
  obtain ⟨mx, hmx⟩ : ∃ mx, hiO m x = some mx := ⟨_, rfl⟩
  rw [hmn] at smin
  rw [hmx] at smax
  unfold F_rw_added
  rw [fn_s]
  have key : (sSeq (sDPutC (eVar 0) (eC (.str "total")) (eBin mAdd (eBin (Sem2.dr mDGet) (vVar 0) (eC (.str "total"))) (vVar 2))) <|
      sSeq (sSet 3 (eLst (eCons (eVar 1) (eNil)))) <|
      sSeq (sIf (tst (eUn mNotN (eBin (Sem2.dr mDGet) (vVar 0) (eC (.str "least"))))) (sSet 3 (eLst (eCons (eBin (Sem2.dr mDGet) (vVar 0) (eC (.str "least"))) (eCons (eVar 1) (eCons (eBin (Sem2.dr mDGet) (vVar 0) (eC (.str "most"))) (eNil)))))) (sNx)) <|
      sSeq (sDPutC (eVar 0) (eC (.str "least")) (eUn mMinL (cVar 3))) <|
      sSeq (sDPutC (eVar 0) (eC (.str "most")) (eUn mMaxL (cVar 3))) <|
      sSeq (sFor (iRg1 (eC (.int 40))) (tgN 4) (B_rw_added_0)) <|
      sEx (eCall F_rw_settled (aCons (aL 0) (aNil)))) ⟨[some (.val (.obj w)), some (.val (.int x)), some (.val (.int wt)), none, none], H⟩ =
      .nx ⟨[some (.val (.obj w)), some (.val (.int x)), some (.val (.int wt)), some (.val (.lst (sn.map D.int))), y4], H5⟩ := by
    refine seq_nx (s1 := ⟨[some (.val (.obj w)), some (.val (.int x)), some (.val (.int wt)), none, none], H1⟩) (by rw [hH1]; simp [w0, v0, dKey, p0, wl]) ?_
    refine seq_nx (s1 := ⟨[some (.val (.obj w)), some (.val (.int x)), some (.val (.int wt)), some (.val (.lst [.int x])), none], H1⟩) (by simp) ?_
    refine seq_nx (s1 := ⟨[some (.val (.obj w)), some (.val (.int x)), some (.val (.int wt)), some (.val (.lst (sn.map D.int))), none], H1⟩) ?_ ?_
    · rcases lm with ⟨rfl, rfl⟩ | ⟨a, b, rfl, rfl, h⟩
      · rw [hsn]; simp [w1, v1, dKey, oD]
      · rw [hsn]; simp [w1, v1, dKey, oD]
    refine seq_nx (s1 := ⟨[some (.val (.obj w)), some (.val (.int x)), some (.val (.int wt)), some (.val (.lst (sn.map D.int))), none], H2⟩) (by rw [hH2, hmn]; simp [w1, dKey, p1, wl, ic, smin]) ?_
    refine seq_nx (s1 := ⟨[some (.val (.obj w)), some (.val (.int x)), some (.val (.int wt)), some (.val (.lst (sn.map D.int))), none], H3⟩) (by rw [hH3, hmx]; simp [w2, dKey, p2, wl, ic, smax]) ?_
    refine seq_nx (s1 := ⟨[some (.val (.obj w)), some (.val (.int x)), some (.val (.int wt)), some (.val (.lst (sn.map D.int))), y4], H4⟩) (by simp [e4]) ?_
    simp [e5]
  have st : startS 5 [.val (.obj w), .val (.int x), .val (.int wt)] = [some (.val (.obj w)), some (.val (.int x)), some (.val (.int wt)), none, none] := rfl
  rw [st]
  exact (congrArg fin key).trans rfl
end
end PX

/-! The laws' own rungs: compared. -/
namespace PX
open PySem PySem.Spec PyProof.Rows L2 PL
theorem rw_is_v (i : Int) (h : List LO) : F_rw_is [.val (.int i), .val (.int i)] h = .ret (.val (.bl true)) h := by
  have e := fun h => whole_int i h
  unfold F_rw_is
  simp [fn_s, e]
theorem rw_maybe_v (a : Option Int) (h : List LO) : F_rw_maybe [.val (oD a), .val (oD a)] h = .ret (.val (.bl true)) h := by
  unfold F_rw_maybe
  cases a with
  | none => simp [fn_s, oD]
  | some i =>
    have e := fun h => rw_is_v i h
    simp [fn_s, oD, e]
theorem rw_new_v (room : Nat) (h : List LO) : ∃ (g : Nat), F_rw_world [.val (.int (room : Nat))] h = .ret (.own (.dic (wdL room h.length g 0 0 none none))) (h ++ [.cell (.lst [.int 0, .int 0]), .cell (.lst [])]) ∧ g = h.length + 1 := by
  refine ⟨h.length + 1, ?_, rfl⟩
  have n := wd_ne
  unfold F_rw_world wdL oD
  simp [fn_s, pairsK, dKey, mergeD, putD, n]
theorem wd_new (room : Nat) (h : List LO) : Wd room rgZ 0 none none (h.length + 2) h.length (h.length + 1) [] (h ++ [.cell (.lst [.int 0, .int 0]), .cell (.lst []), .cell (.dic (wdL room h.length (h.length + 1) 0 0 none none))]) := by
  refine ⟨by simp [rgZ], by simp [rgZ], by simp, rfl, fun i a e => by simp at e, by simp⟩
section
variable {room : Nat} {S : Rg} {total : Int} {l m : Option Int} {w s g : Nat} {rs : List Nat} {H : List LO}
theorem rw_lists_v (W : Wd room S total l m w s g rs H) (hl : S.R.length ≤ 100000) (he : elems S.R ≤ 100000) : F_rw_lists [.lent (.lst (S.R.map encL)), .val (.obj g)] H = .ret (.val (.bl true)) H := by
  have wg := W.og
  have wl := W.len
  have row : ∀ k, k < S.R.length → ∀ (x3 : Option FV), ∃ y3, turns (tgN 3) B_rw_lists_1 (rangeD 0 (rowAt S.R k).length) ⟨[some (.lent (.lst (S.R.map encL))), some (.val (.obj g)), some (.val (.int (k : Nat))), x3], H⟩ = .nx ⟨[some (.lent (.lst (S.R.map encL))), some (.val (.obj g)), some (.val (.int (k : Nat))), y3], H⟩ := by
    intro k hk x3
    obtain ⟨a, ea, ra⟩ := W.at hk
    have oa := objs_at ea
    obtain ⟨st', e, y3, rfl⟩ := range_inv (tg := tgN 3) (b := B_rw_lists_1) (fun i st => ∃ y3, st = ⟨[some (.lent (.lst (S.R.map encL))), some (.val (.obj g)), some (.val (.int (k : Nat))), y3], H⟩) (rowAt S.R k).length
      (fun i st hi ⟨y3, e⟩ => by
        subst e
        refine ⟨_, rfl, ⟨[some (.lent (.lst (S.R.map encL))), some (.val (.obj g)), some (.val (.int (k : Nat))), some (.val (.int (i : Nat)))], H⟩, .inl ?_, _, rfl⟩
        have r1 : PL.atD (S.R.map encL) (k : Int) = some (encL (rowAt S.R k)) := by rw [atD_nat, row_at hk]
        obtain ⟨z, ez⟩ : ∃ z, (rowAt S.R k)[i]? = some z := ⟨_, List.getElem?_eq_getElem hi⟩
        have r2 : PL.atD ((rowAt S.R k).map D.int) (i : Int) = some (.int z) := by rw [atD_nat, List.getElem?_map, ez]; rfl
        have is := fun h => rw_is_v z h
        unfold B_rw_lists_1
        unfold encL at *
        simp [r1, r2, wg, oa, ra, is])
      ⟨[some (.lent (.lst (S.R.map encL))), some (.val (.obj g)), some (.val (.int (k : Nat))), x3], H⟩ ⟨x3, rfl⟩
    exact ⟨y3, e⟩
  obtain ⟨st', e, y2, y3, rfl⟩ := range_inv (tg := tgN 2) (b := B_rw_lists_0) (fun i st => ∃ y2 y3, st = ⟨[some (.lent (.lst (S.R.map encL))), some (.val (.obj g)), y2, y3], H⟩) S.R.length
    (fun i st hi ⟨y2, y3, e⟩ => by
      subst e
      obtain ⟨z3, er⟩ := row i hi y3
      refine ⟨_, rfl, ⟨[some (.lent (.lst (S.R.map encL))), some (.val (.obj g)), some (.val (.int (i : Nat))), z3], H⟩, .inl ?_, _, _, rfl⟩
      have r1 : PL.atD (S.R.map encL) (i : Int) = some (encL (rowAt S.R i)) := by rw [atD_nat, row_at hi]
      obtain ⟨a, ea, ra⟩ := W.at hi
      have oa := objs_at ea
      have rl := elems_ge (rowAt_mem hi)
      unfold B_rw_lists_0
      unfold encL at *
      simp [r1, wg, oa, ra, er, show ((rowAt S.R i).length : Int) < 4611686018427387904 by omega])
    ⟨[some (.lent (.lst (S.R.map encL))), some (.val (.obj g)), none, none], H⟩ ⟨none, none, rfl⟩
  unfold F_rw_lists
  simp [fn_s, wg, wl, e, show (S.R.length : Int) < 4611686018427387904 by omega]
theorem rw_same_v (W : Wd room S total l m w s g rs H) {r : Nat} (hr : H[r]? = some (rgO room S total l m)) (hl : S.R.length ≤ 100000) (he : elems S.R ≤ 100000) : F_rw_same [.val (.obj r), .val (.obj w)] H = .ret (.val (.bl true)) H := by
  have hn : ∀ j ∈ w :: s :: g :: rs, j ≠ r := by
    intro j mj e
    subst e
    simp only [List.mem_cons] at mj
    rcases mj with rfl | rfl | rfl | mj
    · rw [W.ow] at hr; simp [rgO] at hr
    · rw [W.os] at hr; simp [rgO] at hr
    · rw [W.og] at hr; simp [rgO] at hr
    · obtain ⟨i, hi⟩ := List.getElem?_of_mem mj
      rw [W.rw i j hi] at hr; simp [rgO] at hr
  obtain ⟨K, hK⟩ : ∃ K, K = H.set r (.ins 9 [(0, .val (.int (room : Nat))), (6, .val (.int total)), (9, .val (.int S.ov)), (10, .val (.int S.un)), (11, .val (.int S.tu)), (12, .val (oD l)), (13, .val (oD m)), (14, .lent (.lst (S.R.map encL)))]) := ⟨_, rfl⟩
  have hKr : K[r]? = some (.ins 9 [(0, .val (.int (room : Nat))), (6, .val (.int total)), (9, .val (.int S.ov)), (10, .val (.int S.un)), (11, .val (.int S.tu)), (12, .val (oD l)), (13, .val (oD m)), (14, .lent (.lst (S.R.map encL)))]) := by rw [hK]; exact hset hr _
  have V : Wd room S total l m w s g rs K := by
    rw [hK]
    exact W.other (Fw.set [r] H _ (by simp)) fun j mj => by simp [hn j mj]
  have ww := W.ow
  have ws := W.os
  have vw := V.ow
  have v := wd_v room s g total S.tu l m
  have is := rw_is_v
  have may := rw_maybe_v
  have a2 := at2 (.int S.ov) (.int S.un)
  have li := rw_lists_v V hl he
  have lk := rg_lk
  have back : K.set r (rgO room S total l m) = H := by rw [hK, List.set_set]; exact set_self hr
  unfold rgO rgFs at hr back
  unfold F_rw_same
  simp [fn_s, hr, lk, ww, ws, v, dKey, is, may, a2, ← hK, hKr, vw, li, back]
theorem rw_row_v (hm : 1 ≤ room) (W : Wd room S total l m w s g rs H) {r : Nat} (hr : H[r]? = some (rgO room S total l m)) (lm : LmOk l m) (x wt : Int) (hw : 1 ≤ wt) (hw2 : wt ≤ 1000000000000) (hl : S.R.length ≤ 9000) (he : elems S.R ≤ 9000)
    (hl2 : (addRg room S x wt).R.length ≤ 10000) (he2 : elems (addRg room S x wt).R ≤ 10000) :
    ∃ H' rs', F_rw_row_added [.val (.obj r), .val (.obj w), .val (.int x), .val (.int wt)] H = .ret (.val (.bl true)) H' ∧ Wd room (addRg room S x wt) (total + wt) (loO l x) (hiO m x) w s g rs' H' ∧
      H'[r]? = some (rgO room (addRg room S x wt) (total + wt) (loO l x) (hiO m x)) ∧ Fw (r :: w :: s :: g :: rs) (r :: w :: s :: g :: rs') H H' := by
  have hn : ∀ j ∈ w :: s :: g :: rs, j ≠ r := by
    intro j mj e
    subst e
    simp only [List.mem_cons] at mj
    rcases mj with rfl | rfl | rfl | mj
    · rw [W.ow] at hr; simp [rgO] at hr
    · rw [W.os] at hr; simp [rgO] at hr
    · rw [W.og] at hr; simp [rgO] at hr
    · obtain ⟨i, hi⟩ := List.getElem?_of_mem mj
      rw [W.rw i j hi] at hr; simp [rgO] at hr
  have ea := rg_add_v r room hm S total l m x wt H hr hw (by omega) he hl
  obtain ⟨H1, hH1⟩ : ∃ K, K = H.set r (rgO room (addRg room S x wt) (total + wt) (loO l x) (hiO m x)) := ⟨_, rfl⟩
  rw [← hH1] at ea
  have F1 : Fw [r] [r] H H1 := by rw [hH1]; exact Fw.set _ _ _ (by simp)
  have W1 : Wd room S total l m w s g rs H1 := W.other F1 fun j mj => by simp [hn j mj]
  have r1 : H1[r]? = some (rgO room (addRg room S x wt) (total + wt) (loO l x) (hiO m x)) := by rw [hH1]; exact hset hr _
  obtain ⟨H2, rs2, e2, W2, F2⟩ := rw_add_v hm x wt hw (by omega) W1 lm he hl
  have hrm : r ∉ w :: s :: g :: rs := fun mr => hn r mr rfl
  have r2 : H2[r]? = some (rgO room (addRg room S x wt) (total + wt) (loO l x) (hiO m x)) := by
    rw [F2.st r (lt_some r1) hrm]; exact r1
  have e3 := rw_same_v W2 r2 (by omega) (by omega)
  refine ⟨H2, rs2, ?_, W2, r2, ?_⟩
  · obtain ⟨fs, hf⟩ : ∃ fs, H[r]? = some (.ins 9 fs) := ⟨_, hr⟩
    unfold F_rw_row_added
    simp [fn_s, hf, List.lookup, ea, e2, e3]
  · refine ⟨Nat.le_trans F1.le F2.le, fun j lj mj => ?_, fun j mj => ?_⟩
    · simp only [List.mem_cons, not_or] at mj
      rw [F2.st j (Nat.lt_of_lt_of_le lj F1.le) (by simp only [List.mem_cons, not_or]; exact mj.2), F1.st j lj (by simp [mj.1])]
    · rcases List.mem_cons.mp mj with q | q
      · exact .inl (by simp [q])
      · rcases F2.nw j q with q | q
        · exact .inl (List.mem_cons_of_mem _ q)
        · have := F1.le; exact .inr (by omega)
end
end PX

/-! Rungs and the laws' own ones, row by row. -/
namespace PX
open PySem PySem.Spec PyProof.Rows L2 PL
structure RwI (room : Nat) (S : Rg) (total : Int) (l m : Option Int) (k : Nat) : Prop where
  ok : ∃ tr, OkS room S total tr (fun _ => True)
  rows : ∀ r ∈ S.R, r.length ≤ room
  t0 : 0 ≤ total
  t1 : total ≤ 1000000000000 * k
  len : S.R.length ≤ 60
  lm : LmOk l m
theorem rw_elems_le (R : List (List Int)) (m : Nat) (h : ∀ r ∈ R, r.length ≤ m) : elems R ≤ R.length * m := by
  induction R with
  | nil => simp [elems]
  | cons r R ih =>
    have h1 := h r (by simp)
    have h2 := ih fun q m => h q (by simp [m])
    rw [elems_cons, List.length_cons, Nat.add_mul]; omega
theorem len60 {room : Nat} {S : Rg} {total : Int} {tr : Int → Int} {P : Int → Prop} (so : OkS room S total tr P) (tb : total < 2 ^ 60) : S.R.length ≤ 60 := by
  rcases so.la with e | lne
  · rw [e]; simp
  · have ne : S.R ≠ [] := fun e => by rw [e] at lne; simp [rowAt] at lne
    have ll := lists_le lne ne
    rw [so.we] at ll
    by_cases q : S.R.length ≤ 60
    · exact q
    · have h1 := Nat.pow_le_pow_right (show 0 < 2 by decide) (show 60 ≤ S.R.length - 1 by omega)
      have h2 : ((2 ^ (S.R.length - 1) : Nat) : Int) = 2 ^ (S.R.length - 1) := by push_cast; rfl
      omega
theorem RwI.el {room : Nat} {S : Rg} {total : Int} {l m : Option Int} {k : Nat} (I : RwI room S total l m k) (r3 : room ≤ 64) : elems S.R ≤ 3840 := by
  have := rw_elems_le S.R room I.rows
  have : S.R.length * room ≤ 60 * 64 := Nat.mul_le_mul I.len r3
  omega
theorem RwI.add {room : Nat} {S : Rg} {total : Int} {l m : Option Int} {k : Nat} (I : RwI room S total l m k) (r1 : room % 2 = 0) (r2 : 2 ≤ room) (hk : k ≤ 100000) (x w : Int) (w0 : 1 ≤ w) (w1 : w ≤ 1000000000000) : RwI room (addRg room S x w) (total + w) (loO l x) (hiO m x) (k + 1) := by
  obtain ⟨tr, ok⟩ := I.ok
  have po := pre_ok (P' := fun _ => True) ok (x := x) w0 (fun a m => trivial) trivial
  obtain ⟨so, sr, s1, s2, s3⟩ := settle_ok r1 r2 po
  have hS' : addRg room S x w = settleR room (preR S x w) := rfl
  rw [← hS'] at so sr
  have t0 := I.t0
  have t1 := I.t1
  exact ⟨⟨_, so⟩, sr, by omega, by push_cast; omega, len60 so (by omega), I.lm.add x⟩
theorem RwI.zero (room : Nat) : RwI room rgZ 0 none none 0 :=
  ⟨⟨fun _ => 0, ⟨by simp [rgZ], by decide, by decide, by decide, by simp [rgZ, nearR, wsum], by simp [rgZ, weightR, wsum], by simp [rgZ, phiR, wsum], by simp [rgZ], .inl rfl⟩⟩, by simp [rgZ], by decide, by decide, by simp [rgZ], .inl ⟨rfl, rfl⟩⟩
/-- a Rungs and the law's own one side by side -/
structure Pot (room : Nat) (S : Rg) (total : Int) (l m : Option Int) (k r w s g : Nat) (rs : List Nat) (h : List LO) : Prop where
  i : RwI room S total l m k
  w : Wd room S total l m w s g rs h
  r : h[r]? = some (rgO room S total l m)
theorem Pot.row {room : Nat} {S : Rg} {total : Int} {l m : Option Int} {k r w s g : Nat} {rs : List Nat} {h : List LO} (P : Pot room S total l m k r w s g rs h) (r1 : room % 2 = 0) (r2 : 2 ≤ room) (r3 : room ≤ 64) (hk : k ≤ 100000) (x wt : Int) (w0 : 1 ≤ wt) (w1 : wt ≤ 1000000000000) :
    ∃ h' rs', F_rw_row_added [.val (.obj r), .val (.obj w), .val (.int x), .val (.int wt)] h = .ret (.val (.bl true)) h' ∧ Pot room (addRg room S x wt) (total + wt) (loO l x) (hiO m x) (k + 1) r w s g rs' h' ∧ Fw (r :: w :: s :: g :: rs) (r :: w :: s :: g :: rs') h h' := by
  have I' := P.i.add r1 r2 hk x wt w0 w1
  have e1 := P.i.el r3
  have e2 := I'.el r3
  have l1 := P.i.len
  have l2 := I'.len
  obtain ⟨H', rs', e, W', r', F⟩ := rw_row_v (by omega) P.w P.r P.i.lm x wt w0 w1 (by omega) (by omega) (by omega) (by omega)
  exact ⟨H', rs', e, ⟨I', W', r'⟩, F⟩
theorem Pot.same {room : Nat} {S : Rg} {total : Int} {l m : Option Int} {k r w s g : Nat} {rs : List Nat} {h : List LO} (P : Pot room S total l m k r w s g rs h) (r3 : room ≤ 64) : F_rw_same [.val (.obj r), .val (.obj w)] h = .ret (.val (.bl true)) h := by
  have e1 := P.i.el r3
  have l1 := P.i.len
  exact rw_same_v P.w P.r (by omega) (by omega)
end PX

namespace PX
open PySem PySem.Spec PyProof.Rows L2 PL
@[irreducible] noncomputable def F_lesser_of : Fn := fn 2 <|
  sSeq (sIf (bOr (tst (eUn mIsN (cVar 0))) (bAnd (tst (eUn mNotN (cVar 1))) (tst (eBin mLt (vVar 1) (vVar 0))))) (sRet (eVar 1)) (sNx)) <|
  sRet (eVar 0)
@[irreducible] noncomputable def F_greater_of : Fn := fn 2 <|
  sSeq (sIf (bOr (tst (eUn mIsN (cVar 0))) (bAnd (tst (eUn mNotN (cVar 1))) (tst (eBin mGt (vVar 1) (vVar 0))))) (sRet (eVar 1)) (sNx)) <|
  sRet (eVar 0)
@[irreducible] noncomputable def B_poured_rungs_0 : S :=
  sAppF 2 14 (eUn mList (cVar 3))
@[irreducible] noncomputable def B_poured_rungs_1 : S :=
  sSeq (sIf (tst (eBin mEq (vVar 4) (eUn mLen (cFld 14 (eVar 2))))) (sAppF 2 14 (eLst (eNil))) (sNx)) <|
  sPutF 2 14 (eVar 4) (eLendF 2 14 (eUn mSortedX (eBin mAdd (eBin mIx (vFld 14 (eVar 2)) (vVar 4)) (vVar 3))))
@[irreducible] noncomputable def F_poured_rungs : Fn := fn 5 <|
  sSeq (sIf (tst (eBin mNe (vFld 0 (eVar 0)) (vFld 0 (eVar 1)))) (sRaise 1) (sNx)) <|
  sSeq (sSet 2 (eMake 2 9 PX.F_Rungs_init (aCons (aF 0 (eVar 0)) (aNil)))) <|
  sSeq (sFld 6 [8, 9] (eVar 2) (eBin mAdd (vFld 6 (eVar 0)) (vFld 6 (eVar 1)))) <|
  sSeq (sFld 9 [9] (eVar 2) (eBin mAdd (vFld 9 (eVar 0)) (vFld 9 (eVar 1)))) <|
  sSeq (sFld 10 [9] (eVar 2) (eBin mAdd (vFld 10 (eVar 0)) (vFld 10 (eVar 1)))) <|
  sSeq (sFld 11 [9] (eVar 2) (eBin mAdd (vFld 11 (eVar 0)) (vFld 11 (eVar 1)))) <|
  sSeq (sFld 12 [9] (eVar 2) (eCall PX.F_lesser_of (aCons (aF 12 (eVar 0)) (aCons (aF 12 (eVar 1)) (aNil))))) <|
  sSeq (sFld 13 [9] (eVar 2) (eCall PX.F_greater_of (aCons (aF 13 (eVar 0)) (aCons (aF 13 (eVar 1)) (aNil))))) <|
  sSeq (sLendF 0 14 (sFor (iVal (vFld 14 (eVar 0))) (tgN 3) (PX.B_poured_rungs_0))) <|
  sSeq (sLendF 1 14 (sFor (iEnm (vFld 14 (eVar 1))) (tgT [4, 3]) (PX.B_poured_rungs_1))) <|
  sSeq (sEx (eCall PX.F_settle_rungs (aCons (aL 2) (aNil)))) <|
  sRet (eVar 2)
end PX

/-! Rungs poured together. -/
namespace PX
open PySem PySem.Spec PyProof.Rows L2 PL
def joinL (R : List (List Int)) : List (List Int) → Nat → List (List Int)
  | [], _ => R
  | q :: Q, h => if h = R.length then joinL (R ++ [srt ([] ++ q)]) Q (h + 1) else joinL (R.set h (srt (rowAt R h ++ q))) Q (h + 1)
def minO : Option Int → Option Int → Option Int
  | none, b => b
  | a, none => a
  | some a, some b => some (if b < a then b else a)
def maxO : Option Int → Option Int → Option Int
  | none, b => b
  | a, none => a
  | some a, some b => some (if a < b then b else a)
def joinR (S T : Rg) : Rg := ⟨joinL S.R T.R 0, S.ov + T.ov, S.un + T.un, S.tu + T.tu⟩
def pourR (room : Nat) (S T : Rg) : Rg := settleR room (joinR S T)
theorem joinL_elems : ∀ (Q R : List (List Int)) (h : Nat), h ≤ R.length → elems (joinL R Q h) = elems R + elems Q
  | [], R, h, _ => by simp [joinL, elems]
  | q :: Q, R, h, hl => by
    rw [joinL, elems_cons]
    split
    · rename_i c
      rw [joinL_elems Q _ _ (by simp; omega)]
      have : elems (R ++ [srt ([] ++ q)]) = elems R + q.length := by unfold elems; simp
      omega
    · rename_i c
      rw [joinL_elems Q _ _ (by simp; omega)]
      have := elems_set R h (srt (rowAt R h ++ q)) (by omega)
      rw [srt_length, List.length_append] at this
      omega
theorem joinL_len : ∀ (Q R : List (List Int)) (h : Nat), h ≤ R.length → (joinL R Q h).length = max R.length (h + Q.length)
  | [], R, h, hl => by simp [joinL]; omega
  | q :: Q, R, h, hl => by
    rw [joinL]
    split
    · rename_i c
      rw [joinL_len Q _ _ (by simp; omega)]
      simp; omega
    · rename_i c
      rw [joinL_len Q _ _ (by simp; omega)]
      simp; omega
theorem joinL_wsum (g : Nat → List Int → Int) (hg : ∀ k a b, g k (srt (a ++ b)) = g k a + g k b) (h0 : ∀ k, g k [] = 0) : ∀ (Q R : List (List Int)) (h : Nat), h ≤ R.length → wsum g 0 (joinL R Q h) = wsum g 0 R + wsum g h Q
  | [], R, h, _ => by simp [joinL, wsum]
  | q :: Q, R, h, hl => by
    rw [joinL]
    split
    · rename_i c
      rw [joinL_wsum g hg h0 Q _ _ (by simp; omega), wsum_app, wsum, wsum, wsum, hg, h0, c]
      simp; omega
    · rename_i c
      rw [joinL_wsum g hg h0 Q _ _ (by simp; omega), wsum_set g R 0 h _ (by omega), wsum, hg]
      simp; omega
theorem cntG_add (t : Int) (k : Nat) (a b : List Int) : cntG t k (srt (a ++ b)) = cntG t k a + cntG t k b := by
  unfold cntG
  rw [cnt_perm (srt_perm _), cnt_app, Int.add_mul]
theorem lenG_add (k : Nat) (a b : List Int) : lenG k (srt (a ++ b)) = lenG k a + lenG k b := by
  unfold lenG
  rw [srt_length, List.length_append]
  push_cast
  rw [Int.add_mul]
theorem phiG_add (k : Nat) (a b : List Int) : phiG k (srt (a ++ b)) = phiG k a + phiG k b := by
  unfold phiG
  rw [srt_length, List.length_append]
  push_cast
  rw [Int.add_mul, Int.mul_add]
theorem joinL_mem : ∀ (Q R : List (List Int)) (h : Nat) (r : List Int), r ∈ joinL R Q h → (∀ a ∈ r, (∃ s ∈ R, a ∈ s) ∨ ∃ s ∈ Q, a ∈ s) ∧ ((∀ s ∈ R, s.Pairwise (· ≤ ·)) → r.Pairwise (· ≤ ·))
  | [], R, h, r, m => ⟨fun a ma => .inl ⟨r, m, ma⟩, fun hs => hs r m⟩
  | q :: Q, R, h, r, m => by
    rw [joinL] at m
    split at m
    · obtain ⟨h1, h2⟩ := joinL_mem Q _ _ r m
      refine ⟨fun a ma => ?_, fun hs => h2 fun s ms => ?_⟩
      · rcases h1 a ma with ⟨s, ms, as⟩ | ⟨s, ms, as⟩
        · rcases List.mem_append.mp ms with ms | ms
          · exact .inl ⟨s, ms, as⟩
          · simp only [List.mem_singleton] at ms
            subst ms
            rw [mem_srt, List.nil_append] at as
            exact .inr ⟨q, by simp, as⟩
        · exact .inr ⟨s, by simp [ms], as⟩
      · rcases List.mem_append.mp ms with ms | ms
        · exact hs s ms
        · simp only [List.mem_singleton] at ms
          subst ms; exact srt_sorted _
    · obtain ⟨h1, h2⟩ := joinL_mem Q _ _ r m
      refine ⟨fun a ma => ?_, fun hs => h2 fun s ms => ?_⟩
      · rcases h1 a ma with ⟨s, ms, as⟩ | ⟨s, ms, as⟩
        · rcases List.mem_or_eq_of_mem_set ms with ms | ms
          · exact .inl ⟨s, ms, as⟩
          · subst ms
            rw [mem_srt, List.mem_append] at as
            rcases as with as | as
            · by_cases c : h < R.length
              · exact .inl ⟨_, rowAt_mem c, as⟩
              · unfold rowAt at as; rw [List.getElem?_eq_none (by omega)] at as; simp at as
            · exact .inr ⟨q, by simp, as⟩
        · exact .inr ⟨s, by simp [ms], as⟩
      · rcases List.mem_or_eq_of_mem_set ms with ms | ms
        · exact hs s ms
        · subst ms; exact srt_sorted _
theorem srt_ne2 {a : List Int} (h : a ≠ []) : srt a ≠ [] := fun e => by
  have := srt_length a
  rw [e] at this
  exact h (List.length_eq_zero_iff.mp this.symm)
theorem joinL_ne : ∀ (Q R : List (List Int)) (h j : Nat), h ≤ R.length → (rowAt R j ≠ [] ∨ (h ≤ j ∧ rowAt Q (j - h) ≠ [])) → rowAt (joinL R Q h) j ≠ []
  | [], R, h, j, _, c => by
    rcases c with c | ⟨_, c⟩
    · exact c
    · simp [rowAt] at c
  | q :: Q, R, h, j, hl, c => by
    rw [joinL]
    split
    · rename_i e
      refine joinL_ne Q _ _ j (by simp; omega) ?_
      rcases c with c | ⟨c1, c2⟩
      · left
        by_cases hj : j < R.length
        · rw [rowAt_app hj]; exact c
        · unfold rowAt at c; rw [List.getElem?_eq_none (by omega)] at c; simp at c
      · by_cases e2 : j = h
        · left
          subst e2
          rw [Nat.sub_self] at c2
          have : rowAt (R ++ [srt ([] ++ q)]) j = srt ([] ++ q) := by unfold rowAt; rw [e]; simp
          rw [this]
          exact srt_ne2 (by simpa [rowAt] using c2)
        · right
          refine ⟨by omega, ?_⟩
          have : j - h = (j - (h + 1)) + 1 := by omega
          rw [this] at c2
          simpa [rowAt] using c2
    · rename_i e
      refine joinL_ne Q _ _ j (by simp; omega) ?_
      rcases c with c | ⟨c1, c2⟩
      · left
        rw [rowAt_set]
        split
        · rename_i c3
          rw [c3.1] at c
          exact srt_ne2 (by simp [c])
        · exact c
      · by_cases e2 : j = h
        · left
          subst e2
          rw [Nat.sub_self] at c2
          rw [rowAt_set, if_pos ⟨rfl, by omega⟩]
          refine srt_ne2 ?_
          have : q ≠ [] := by simpa [rowAt] using c2
          simp [this]
        · right
          refine ⟨by omega, ?_⟩
          have : j - h = (j - (h + 1)) + 1 := by omega
          rw [this] at c2
          simpa [rowAt] using c2
theorem join_ok {room : Nat} {S T : Rg} {t1 t2 : Int} {f1 f2 : Int → Int} {P1 P2 P : Int → Prop} (a : OkS room S t1 f1 P1) (b : OkS room T t2 f2 P2) (h1 : ∀ x, P1 x → P x) (h2 : ∀ x, P2 x → P x) :
    OkS room (joinR S T) (t1 + t2) (fun t => f1 t + f2 t) P := by
  have n := fun t => joinL_wsum (cntG t) (cntG_add t) (cntG_nil t) T.R S.R 0 (by omega)
  have w := joinL_wsum lenG lenG_add lenG_nil T.R S.R 0 (by omega)
  have p := joinL_wsum phiG phiG_add phiG_nil T.R S.R 0 (by omega)
  refine ⟨fun r m => (joinL_mem T.R S.R 0 r m).2 a.so, ?_, ?_, ?_, fun t => ?_, ?_, ?_, fun r m x mx => ?_, ?_⟩
  · have := a.ov; have := b.ov; show 0 ≤ S.ov + T.ov; omega
  · have := a.un; have := b.un; show 0 ≤ S.un + T.un; omega
  · have := a.tu; have := b.tu; show 0 ≤ S.tu + T.tu; omega
  · have := a.bd t
    have := b.bd t
    have := n t
    show nearR t (joinL S.R T.R 0) - (S.ov + T.ov) ≤ f1 t + f2 t ∧ f1 t + f2 t ≤ nearR t (joinL S.R T.R 0) + (S.un + T.un)
    unfold nearR at *
    omega
  · have := a.we
    have := b.we
    show weightR (joinL S.R T.R 0) = _
    unfold weightR at *
    omega
  · have := a.sl
    have := b.sl
    show (S.ov + T.ov + (S.un + T.un)) * (room : Int) ≤ phiR (joinL S.R T.R 0)
    have e : (S.ov + T.ov + (S.un + T.un)) * (room : Int) = (S.ov + S.un) * (room : Int) + (T.ov + T.un) * (room : Int) := by rw [← Int.add_mul]; congr 1; omega
    rw [e]
    unfold phiR at *
    omega
  · rcases (joinL_mem T.R S.R 0 r m).1 x mx with ⟨s, ms, xs⟩ | ⟨s, ms, xs⟩
    · exact h1 x (a.me s ms x xs)
    · exact h2 x (b.me s ms x xs)
  · by_cases e : joinL S.R T.R 0 = []
    · exact .inl e
    · right
      show rowAt (joinL S.R T.R 0) ((joinL S.R T.R 0).length - 1) ≠ []
      have hl := joinL_len T.R S.R 0 (by omega)
      have hpos : 0 < (joinL S.R T.R 0).length := List.length_pos_iff.mpr e
      refine joinL_ne T.R S.R 0 _ (by omega) ?_
      rw [hl]
      rw [hl] at hpos
      by_cases c : T.R.length ≤ S.R.length
      · left
        have : max S.R.length (0 + T.R.length) = S.R.length := by omega
        rw [this]
        rw [this] at hpos
        rcases a.la with q | q
        · rw [q] at hpos; simp at hpos
        · exact q
      · right
        have : max S.R.length (0 + T.R.length) = T.R.length := by omega
        rw [this]
        rw [this] at hpos
        refine ⟨by omega, ?_⟩
        rcases b.la with q | q
        · rw [q] at hpos; simp at hpos
        · exact q
theorem lesser_v (a b : Option Int) (h : List LO) : F_lesser_of [.val (oD a), .val (oD b)] h = .ret (.val (oD (minO a b))) h := by
  unfold F_lesser_of
  cases a <;> cases b <;> simp [fn_s, oD, minO]
  split <;> rfl
theorem greater_v (a b : Option Int) (h : List LO) : F_greater_of [.val (oD a), .val (oD b)] h = .ret (.val (oD (maxO a b))) h := by
  unfold F_greater_of
  cases a <;> cases b <;> simp [fn_s, oD, maxO]
  split <;> rfl
theorem pour_loop0 (r1 r2 n room : Nat) (H : List LO) (hn : H.length = n) (T : Rg) (total : Int) (l m : Option Int) (x4 : Option FV) : ∀ (Q acc : List (List Int)) (x3 : Option FV), (∀ q ∈ Q, q.length ≤ 1000000) → acc.length + Q.length ≤ 100000 → ∃ y3, turns (tgN 3) B_poured_rungs_0 (Q.map encL) ⟨[some (.val (.obj r1)), some (.val (.obj r2)), some (.val (.obj n)), x3, x4], H ++ [rgO room ⟨acc, T.ov, T.un, T.tu⟩ total l m]⟩ =
    .nx ⟨[some (.val (.obj r1)), some (.val (.obj r2)), some (.val (.obj n)), y3, x4], H ++ [rgO room ⟨acc ++ Q, T.ov, T.un, T.tu⟩ total l m]⟩
  | [], acc, x3, _, _ => ⟨x3, by simp [turns]⟩
  | q :: Q, acc, x3, hq, hl => by
    simp only [List.length_cons] at hl
    obtain ⟨y3, ih⟩ := pour_loop0 r1 r2 n room H hn T total l m x4 Q (acc ++ [q]) (some (.val (encL q))) (fun z mz => hq z (by simp [mz])) (by simp; omega)
    refine ⟨y3, ?_⟩
    rw [show acc ++ q :: Q = acc ++ [q] ++ Q by simp, ← ih, List.map_cons]
    have hm : ∀ x : LO, (H ++ [x])[n]? = some x := fun x => by rw [← hn]; simp
    have he : ∀ x y : LO, (H ++ [x]).set n y = H ++ [y] := fun x y => by rw [← hn]; simp
    refine turns_step rfl (.inl ?_) rfl
    have q1 := hq q (by simp)
    unfold B_poured_rungs_0
    unfold rgO rgFs
    unfold encL
    simp [hm, he, rg_lk, show acc.length < 16777216 by omega]
theorem pour_loop1 (r1 r2 n room : Nat) (H : List LO) (hn : H.length = n) (T : Rg) (total : Int) (l m : Option Int) : ∀ (Q R : List (List Int)) (k : Nat) (x3 x4 : Option FV), k ≤ R.length → elems R + elems Q ≤ 1000000 → R.length + Q.length ≤ 100000 → ∃ y3 y4, turns (tgT [4, 3]) B_poured_rungs_1 (enumD k (Q.map encL)) ⟨[some (.val (.obj r1)), some (.val (.obj r2)), some (.val (.obj n)), x3, x4], H ++ [rgO room ⟨R, T.ov, T.un, T.tu⟩ total l m]⟩ =
    .nx ⟨[some (.val (.obj r1)), some (.val (.obj r2)), some (.val (.obj n)), y3, y4], H ++ [rgO room ⟨joinL R Q k, T.ov, T.un, T.tu⟩ total l m]⟩
  | [], R, k, x3, x4, _, _, _ => ⟨x3, x4, rfl⟩
  | q :: Q, R, k, x3, x4, hk, he0, hl0 => by
    rw [elems_cons] at he0
    simp only [List.length_cons] at hl0
    have hm : ∀ x : LO, (H ++ [x])[n]? = some x := fun x => by rw [← hn]; simp
    have he : ∀ x y : LO, (H ++ [x]).set n y = H ++ [y] := fun x y => by rw [← hn]; simp
    rw [joinL, List.map_cons, enumD]
    by_cases c : k = R.length
    · rw [if_pos c]
      have el : elems (R ++ [srt ([] ++ q)]) = elems R + q.length := by unfold elems; simp
      obtain ⟨y3, y4, ih⟩ := pour_loop1 r1 r2 n room H hn T total l m Q (R ++ [srt ([] ++ q)]) (k + 1) (some (.val (encL q))) (some (.val (.int (k : Nat)))) (by simp; omega) (by omega) (by simp; omega)
      refine ⟨y3, y4, ?_⟩
      rw [← ih]
      refine turns_step rfl (.inl ?_) rfl
      have ra : PL.atD (R.map encL ++ [.lst []]) (k : Int) = some (.lst []) := atD_mid _ _ _ _ (by simp [c])
      have ix : ixD (k + 1) (k : Int) = some k := by unfold ixD; rw [if_pos (by omega), if_pos (by omega)]; simp
      have ms : ∀ y, (R.map encL ++ [PL.D.lst []]).set k y = R.map encL ++ [y] := fun y => by
        have : k = (R.map encL).length := by simp [c]
        rw [this]; simp
      have ic := intsD_map q
      unfold B_poured_rungs_1
      unfold rgO rgFs
      simp only [List.nil_append]
      have en : ∀ z, encL z = .lst (z.map D.int) := fun z => rfl
      simp [hm, he, rg_lk, ← c, show k < 16777216 by omega, ra, ix, ms, ic, en, show q.length ≤ 16777216 by omega]
    · rw [if_neg c]
      have hlt : k < R.length := by omega
      have el := elems_set R k (srt (rowAt R k ++ q)) hlt
      rw [srt_length, List.length_append] at el
      have rl := elems_ge (rowAt_mem hlt)
      obtain ⟨y3, y4, ih⟩ := pour_loop1 r1 r2 n room H hn T total l m Q (R.set k (srt (rowAt R k ++ q))) (k + 1) (some (.val (encL q))) (some (.val (.int (k : Nat)))) (by simp; omega) (by omega) (by simp; omega)
      refine ⟨y3, y4, ?_⟩
      rw [← ih]
      refine turns_step rfl (.inl ?_) rfl
      have ra : PL.atD (R.map encL) (k : Int) = some (encL (rowAt R k)) := by rw [atD_nat, row_at hlt]
      have ix : ixD R.length (k : Int) = some k := by unfold ixD; rw [if_pos (by omega), if_pos (by omega)]; simp
      have ic := ints_app (rowAt R k) q
      have ms : ∀ y, (List.map encL R).set k (encL y) = List.map encL (R.set k y) := fun y => List.map_set.symm
      have ne : ¬ (k : Int) = (R.length : Int) := by omega
      unfold B_poured_rungs_1
      unfold rgO rgFs
      unfold encL at *
      simp [hm, he, rg_lk, ne, ra, ix, ms, ic, show (rowAt R k).length + q.length ≤ 16777216 by omega, -List.map_set]
theorem rg_pour_v (r1 r2 room : Nat) (hm : 1 ≤ room) (S T : Rg) (t1 t2 : Int) (l1 m1 l2 m2 : Option Int) (h : List LO) (h1 : h[r1]? = some (rgO room S t1 l1 m1)) (h2 : h[r2]? = some (rgO room T t2 l2 m2)) (e1 : elems S.R ≤ 4000) (e2 : elems T.R ≤ 4000) (n1 : S.R.length ≤ 4000) (n2 : T.R.length ≤ 4000) :
    F_poured_rungs [.val (.obj r1), .val (.obj r2)] h = .ret (.val (.obj h.length)) (h ++ [rgO room (pourR room S T) (t1 + t2) (minO l1 l2) (maxO m1 m2)]) := by
  have ei := rg_init_v h.length room (h ++ [.ins 9 []]) (happ _ _)
  rw [hset_end] at ei
  have el := lesser_v l1 l2
  have eg := greater_v m1 m2
  have rl1 := (List.getElem?_eq_some_iff.mp h1).1
  have rl2 := (List.getElem?_eq_some_iff.mp h2).1
  have c1 : ∀ x, (h ++ [x])[r1]? = some (rgO room S t1 l1 m1) := fun x => happ_lt h1 [x]
  have c2 : ∀ x, (h ++ [x])[r2]? = some (rgO room T t2 l2 m2) := fun x => happ_lt h2 [x]
  have s1 : ∀ x y, (h ++ [x]).set r1 y = h.set r1 y ++ [x] := fun x y => hset_lt h1 [x] y
  have s2 : ∀ x y, (h ++ [x]).set r2 y = h.set r2 y ++ [x] := fun x y => hset_lt h2 [x] y
  have d1 : ∀ x y, (h.set r1 y ++ [x])[r1]? = some y := fun x y => happ_lt (hset h1 y) [x]
  have d2 : ∀ x y, (h.set r2 y ++ [x])[r2]? = some y := fun x y => happ_lt (hset h2 y) [x]
  have b1 : ∀ x y, (h.set r1 y ++ [x]).set r1 (rgO room S t1 l1 m1) = h ++ [x] := fun x y => by rw [hset_lt (hset h1 y), List.set_set, set_self h1]
  have b2 : ∀ x y, (h.set r2 y ++ [x]).set r2 (rgO room T t2 l2 m2) = h ++ [x] := fun x y => by rw [hset_lt (hset h2 y), List.set_set, set_self h2]
  have he := fun (x y : LO) => hset_end h x
  have q1 : ∀ q ∈ S.R, q.length ≤ 1000000 := fun q mq => by have := elems_ge mq; omega
  obtain ⟨y3, k0⟩ := pour_loop0 r1 r2 h.length room (h.set r1 (.ins 9 [(0, .val (.int (room : Nat))), (6, .val (.int t1)), (9, .val (.int S.ov)), (10, .val (.int S.un)), (11, .val (.int S.tu)), (12, .val (oD l1)), (13, .val (oD m1)), (14, .lent (.lst (S.R.map encL)))])) (by simp) ⟨[], S.ov + T.ov, S.un + T.un, S.tu + T.tu⟩ (t1 + t2) (minO l1 l2) (maxO m1 m2) none S.R [] none q1 (by simp; omega)
  rw [List.nil_append] at k0
  obtain ⟨z3, z4, k1⟩ := pour_loop1 r1 r2 h.length room (h.set r2 (.ins 9 [(0, .val (.int (room : Nat))), (6, .val (.int t2)), (9, .val (.int T.ov)), (10, .val (.int T.un)), (11, .val (.int T.tu)), (12, .val (oD l2)), (13, .val (oD m2)), (14, .lent (.lst (T.R.map encL)))])) (by simp) ⟨[], S.ov + T.ov, S.un + T.un, S.tu + T.tu⟩ (t1 + t2) (minO l1 l2) (maxO m1 m2) T.R S.R 0 y3 none (by omega) (by omega) (by omega)
  have je := joinL_elems T.R S.R 0 (by omega)
  have jl := joinL_len T.R S.R 0 (by omega)
  have es := settle_v h.length room hm (joinR S T) (t1 + t2) (minO l1 l2) (maxO m1 m2) (h ++ [rgO room (joinR S T) (t1 + t2) (minO l1 l2) (maxO m1 m2)]) (happ _ _) (by show elems (joinL S.R T.R 0) ≤ _; omega) (by show (joinL S.R T.R 0).length ≤ _; omega)
  rw [hset_end] at es
  unfold pourR
  have z : rgZ.R = [] := rfl
  unfold joinR at es ⊢
  unfold F_poured_rungs
  unfold rgO rgFs rgZ at *
  dsimp only at k0 k1 es ei ⊢
  simp only [List.map_nil] at k0 k1
  simp [fn_s, h1, h2, rg_lk, ei, c1, c2, he, el, eg, s1, d1, k0, b1, s2, d2, k1, b2, es]
end PX

/-! PyLite, part zk: texts; what is never reached. -/
namespace PL
open PySem PySem.Spec PyProof.Rows L2
section
variable {Γ : Tab} {W : WX} {Z : Hp} {Lt : Lend} {g g' : GM} {st st' : LS} {σ σ' : L2.St} {H H' : Hp} {h h' : List LO} {a p : Addr} {o : HO} {d : D} {v : V} {X : Cx} {e e1 e2 e3 : Expr} {es : List Expr} {f k l : E D} {pos pos2 ppos apos : Pos} {stm : Stmt} {sts : List Stmt} {f1 f2 : S} {D0 : Ends}
/-! ### a statement that is never reached -/
def sNv : S := fun _ => .bad
theorem st_nv : PSt Γ W X stm sNv := ⟨⟨fun pins s σ H D I ⟨Z, Lt, g, st, s1, h⟩ => h.elim⟩⟩
@[simp] theorem sNv_s : sNv st = .bad := id rfl
/-! ### lists of texts -/
def strsD : List D → Option (List Str)
  | [] => some []
  | .str x :: ds => (strsD ds).map (x :: ·)
  | _ :: _ => none
theorem strsD_map : ∀ xs : List Str, strsD (xs.map D.str) = some xs
  | [] => rfl
  | x :: xs => by simp [strsD, strsD_map xs]
theorem strsD_eq : ∀ {ds : List D} {xs : List Str}, strsD ds = some xs → ds = xs.map D.str
  | [], xs, h => by simp [strsD] at h; subst h; rfl
  | .str x :: ds, xs, h => by
    simp only [strsD, Option.map_eq_some_iff] at h
    obtain ⟨ys, e, rfl⟩ := h
    rw [strsD_eq e]; rfl
  | .non :: _, _, h => nomatch h
  | .bl _ :: _, _, h => nomatch h
  | .int _ :: _, _, h => nomatch h
  | .tup _ :: _, _, h => nomatch h
  | .lst _ :: _, _, h => nomatch h
  | .dic _ :: _, _, h => nomatch h
  | .obj _ :: _, _, h => nomatch h
  | .err _ :: _, _, h => nomatch h
theorem RDs.strs : ∀ {xs : List Str} {vs : List V}, RDs Γ g (xs.map D.str) vs → vs = xs.map V.str
  | [], vs, r => by simpa [RDs] using r
  | x :: xs, vs, r => by
    simp only [List.map_cons, RDs] at r
    obtain ⟨v, q, rfl, r1, r2⟩ := r
    simp only [RD] at r1
    rw [r1, RDs.strs r2]; rfl
theorem RDs.ofStrs : ∀ (xs : List Str), RDs Γ g (xs.map D.str) (xs.map V.str)
  | [] => by simp [RDs]
  | x :: xs => RDs.cons RD.str (RDs.ofStrs xs)
/-! ### methods of texts -/
def eM1 (m : Str → D → E D) (f k : E D) : E D := fun st => (f st).bind fun x s1 => match x with
  | .str a => (k s1).bind fun y s2 => m a y s2
  | _ => .bad
def eM0 (m : Str → E D) (f : E D) : E D := fun st => (f st).bind fun x s1 => match x with
  | .str a => m a s1
  | _ => .bad
@[simp] theorem eM1_s {m : Str → D → E D} : eM1 m f k st = (f st).bind fun x s1 => match x with
  | .str a => (k s1).bind fun y s2 => m a y s2
  | _ => .bad := id rfl
@[simp] theorem eM0_s {m : Str → E D} : eM0 m f st = (f st).bind fun x s1 => match x with
  | .str a => m a s1
  | _ => .bad := id rfl
abbrev RM := V → List V → Hp → VK → Prop
def HM1 (Γ : Tab) (W : WX) (r : RM) (m : Str → D → E D) : Prop := ∀ Z Lt g st σ H a y w Q, SR Γ Z Lt g st σ H → CV Γ g H y w →
  (Go Γ W Z Lt σ (m a y st) g fun d g' _ H' => ∀ u, RD Γ g' d u → Q u H') → r (.str a) [w] H Q
def HM1F (Γ : Tab) (W : WX) (r : RM) (m : Str → D → E D) : Prop := ∀ Z Lt g st σ H a y w Q, SR Γ Z Lt g st σ H → CV Γ g H y w →
  (Go Γ W Z Lt σ (m a y st) g fun d g' _ H' => ∀ b, OA Γ Z g' H' .tmp b d → Q (.ref b) H') → r (.str a) [w] H Q
def HM0 (Γ : Tab) (W : WX) (r : RM) (m : Str → E D) : Prop := ∀ Z Lt g st σ H a Q, SR Γ Z Lt g st σ H →
  (Go Γ W Z Lt σ (m a st) g fun d g' _ H' => ∀ u, RD Γ g' d u → Q u H') → r (.str a) [] H Q
def HM0F (Γ : Tab) (W : WX) (r : RM) (m : Str → E D) : Prop := ∀ Z Lt g st σ H a Q, SR Γ Z Lt g st σ H →
  (Go Γ W Z Lt σ (m a st) g fun d g' _ H' => ∀ b, OA Γ Z g' H' .tmp b d → Q (.ref b) H') → r (.str a) [] H Q
theorem pd_m1 {r : RM} {m : Str → D → E D} (hm : HM1 Γ W r m) (pe : PE X e (tM1 r (T Γ W f) (TC Γ W k))) : PD Γ W X e (eM1 m f k) :=
  ⟨pe.csq fun σ H Q ⟨Z, Lt, g, st, s, h⟩ => ⟨Z, Lt, g, st, s, (Go.bind h).imp fun d g1 st1 H1 s1 t1 k1 v rv => by
    have h := k1 g1 H1 s1 (GT.refl _ _)
    cases d with
    | str a =>
      simp only [RD] at rv; subst rv
      refine ⟨⟨a, rfl⟩, Z, Lt, g1, st1, s1, (Go.bind h).imp fun y g2 st2 H2 s2 t2 k2 w rw' => ?_⟩
      exact hm Z Lt g2 st2 σ H2 a y w Q s2 rw' (k2 g2 H2 s2 (GT.refl _ _))
    | _ => exact h.elim⟩⟩
theorem pf_m1 {r : RM} {m : Str → D → E D} (hm : HM1F Γ W r m) (pe : PE X e (tM1 r (T Γ W f) (TC Γ W k))) : PF Γ W X e (eM1 m f k) :=
  ⟨pe.csq fun σ H Q ⟨Z, Lt, g, st, s, h⟩ => ⟨Z, Lt, g, st, s, (Go.bind h).imp fun d g1 st1 H1 s1 t1 k1 v rv => by
    have h := k1 g1 H1 s1 (GT.refl _ _)
    cases d with
    | str a =>
      simp only [RD] at rv; subst rv
      refine ⟨⟨a, rfl⟩, Z, Lt, g1, st1, s1, (Go.bind h).imp fun y g2 st2 H2 s2 t2 k2 w rw' => ?_⟩
      exact hm Z Lt g2 st2 σ H2 a y w Q s2 rw' (k2 g2 H2 s2 (GT.refl _ _))
    | _ => exact h.elim⟩⟩
theorem pd_m0 {r : RM} {m : Str → E D} (hm : HM0 Γ W r m) (pe : PE X e (tM0 r (T Γ W f))) : PD Γ W X e (eM0 m f) :=
  ⟨pe.csq fun σ H Q ⟨Z, Lt, g, st, s, h⟩ => ⟨Z, Lt, g, st, s, (Go.bind h).imp fun d g1 st1 H1 s1 t1 k1 v rv => by
    have h := k1 g1 H1 s1 (GT.refl _ _)
    cases d with
    | str a =>
      simp only [RD] at rv; subst rv
      exact ⟨⟨a, rfl⟩, hm Z Lt g1 st1 σ H1 a Q s1 h⟩
    | _ => exact h.elim⟩⟩
theorem pf_m0 {r : RM} {m : Str → E D} (hm : HM0F Γ W r m) (pe : PE X e (tM0 r (T Γ W f))) : PF Γ W X e (eM0 m f) :=
  ⟨pe.csq fun σ H Q ⟨Z, Lt, g, st, s, h⟩ => ⟨Z, Lt, g, st, s, (Go.bind h).imp fun d g1 st1 H1 s1 t1 k1 v rv => by
    have h := k1 g1 H1 s1 (GT.refl _ _)
    cases d with
    | str a =>
      simp only [RD] at rv; subst rv
      exact ⟨⟨a, rfl⟩, hm Z Lt g1 st1 σ H1 a Q s1 h⟩
    | _ => exact h.elim⟩⟩
def mJoin : Str → D → E D := fun a y st => match y with
  | .lst ds => match strsD ds with
    | some ys => if (ys.map (·.length)).sum + ys.length * a.length ≤ 16777216 then .ok (.str (Txt.join a ys)) st else .bad
    | none => .bad
  | _ => .bad
theorem pd_join (hK : X.K = Γ.K) (x : PD Γ W X e1 f) (y : PC Γ W X e2 k) (hs : starEach [e2] X.env = [(false, eval e2 X.env)] := by rfl) (hbase : attributeBase e1 "join" X.env (eval e1 X.env) = eval e1 X.env := by rfl) (hline : (apos.endLine == pos.line) = true := by rfl) :
    PD Γ W X (.Call (.Attribute e1 "join" apos) [e2] [] pos) (eM1 mJoin f k) :=
  pd_m1 (fun Z Lt g st σ H a y w Q s ry h => by
    unfold mJoin at h
    split at h
    · split at h
      · rename_i ys ey
        split at h
        · rename_i hl
          obtain ⟨b, vs, rfl, q, r⟩ := ry.lst s
          rw [strsD_eq ey] at r
          rw [r.strs] at q
          exact ⟨a, b, ys, rfl, rfl, .inl (by rw [hK]; exact q), hl, ret_str s h⟩
        · exact h.elim
      · exact h.elim
    · exact h.elim) (pe_join x.pe y.pe hs hbase hline)
def mSplit : Str → D → E D := fun a y st => match y with
  | .str b => if (b.length == 0) = false ∧ a.length + 2 ≤ 16777216 then .ok (.lst ((Txt.split a b).map D.str)) st else .bad
  | _ => .bad
theorem pf_split (x : PD Γ W X e1 f) (y : PC Γ W X e2 k) (hs : starEach [e2] X.env = [(false, eval e2 X.env)] := by rfl) (hbase : attributeBase e1 "split" X.env (eval e1 X.env) = eval e1 X.env := by rfl) (hline : (apos.endLine == pos.line) = true := by rfl) :
    PF Γ W X (.Call (.Attribute e1 "split" apos) [e2] [] pos) (eM1 mSplit f k) :=
  pf_m1 (fun Z Lt g st σ H a y w Q s ry h => by
    unfold mSplit at h
    split at h
    · split at h
      · rename_i b hl
        rw [ry.str]
        exact ⟨a, b, rfl, rfl, hl.1, by rw [sizeLine_eq]; exact hl.2, retF s (RDs.ofStrs _) h⟩
      · exact h.elim
    · exact h.elim) (pe_split x.pe y.pe hs hbase hline)
def mWords : Str → E D := fun a st => if a.length + 2 ≤ 16777216 then .ok (.lst ((Txt.words a).map D.str)) st else .bad
theorem pf_words (x : PD Γ W X e1 f) (hbase : attributeBase e1 "split" X.env (eval e1 X.env) = eval e1 X.env := by rfl) (hline : (apos.endLine == pos.line) = true := by rfl) :
    PF Γ W X (.Call (.Attribute e1 "split" apos) [] [] pos) (eM0 mWords f) :=
  pf_m0 (fun Z Lt g st σ H a Q s h => by
    unfold mWords at h
    split at h
    · rename_i hl
      exact ⟨a, rfl, rfl, by rw [sizeLine_eq]; exact hl, retF s (RDs.ofStrs _) h⟩
    · exact h.elim) (pe_words x.pe hbase hline)
def mStrip : Str → E D := fun a st => if a.length ≤ 16777216 then .ok (.str (Txt.strip a)) st else .bad
theorem pd_strip (x : PD Γ W X e1 f) (hbase : attributeBase e1 "strip" X.env (eval e1 X.env) = eval e1 X.env := by rfl) (hline : (apos.endLine == pos.line) = true := by rfl) :
    PD Γ W X (.Call (.Attribute e1 "strip" apos) [] [] pos) (eM0 mStrip f) :=
  pd_m0 (fun Z Lt g st σ H a Q s h => by
    unfold mStrip at h
    split at h
    · rename_i hl
      exact ⟨a, rfl, rfl, by rw [sizeLine_eq]; exact hl, ret_str s h⟩
    · exact h.elim) (pe_strip x.pe hbase hline)
def mStripC : Str → D → E D := fun a y st => match y with
  | .str b => if a.length ≤ 16777216 then .ok (.str (Txt.stripChars a b)) st else .bad
  | _ => .bad
theorem pd_stripC (x : PD Γ W X e1 f) (y : PC Γ W X e2 k) (hs : starEach [e2] X.env = [(false, eval e2 X.env)] := by rfl) (hbase : attributeBase e1 "strip" X.env (eval e1 X.env) = eval e1 X.env := by rfl) (hline : (apos.endLine == pos.line) = true := by rfl) :
    PD Γ W X (.Call (.Attribute e1 "strip" apos) [e2] [] pos) (eM1 mStripC f k) :=
  pd_m1 (fun Z Lt g st σ H a y w Q s ry h => by
    unfold mStripC at h
    split at h
    · split at h
      · rename_i b hl
        rw [ry.str]
        exact ⟨a, b, rfl, rfl, by rw [sizeLine_eq]; exact hl, ret_str s h⟩
      · exact h.elim
    · exact h.elim) (pe_m1 F.slot_str_strip F.type_str_strip mt_stripChars x.pe y.pe hs hbase hline)
/-! ### str(n), int(text) -/
def mStrI : Sem1 := fun x st => match x with
  | .int i => if i.natAbs.log2 < 1920 then .ok (.str (Str.ofString (toString i))) st else .bad
  | _ => .bad
theorem pd_strI (hg : Gl X "str") (hn : X.mg "str" = none) (y : PC Γ W X e f) (he : starEach [e] X.env = (false, eval e X.env) :: starEach [] X.env := by rfl) (hpl : (backTo pos (starEach [] X.env)).any (·.1) = false := by rfl) :
    PD Γ W X (.Call (.Name "str" ppos) [e] [] pos) (eUn mStrI f) := by
  refine ⟨(pe_callTy call_str_int hg hn (by decide +kernel) (pa_cons y.pe pa_nil he) (by decide) (by decide) he hpl).csq fun σ H Q h => one (X := X) (r := fun v H Q => ∃ i : Int, [v] = [V.int i] ∧ i.natAbs.log2 < 1920 ∧ Q (.str (Str.ofString (toString i))) H) (fun Z Lt g st σ H x v Q s rx h => ?_) h⟩
  unfold mStrI at h
  split at h
  · split at h
    · rename_i hl
      rw [rx.int]; exact ⟨_, rfl, hl, ret_str s h⟩
    · exact h.elim
  · exact h.elim
@[simp] theorem mStrI_s (i : Int) : mStrI (.int i) st = if i.natAbs.log2 < 1920 then .ok (.str (Str.ofString (toString i))) st else .bad := id rfl
def mIntT : Sem1 := fun x st => match x with
  | .str a => match PySem.intText? a with
    | some n => if a.length ≤ 640 then .ok (.int n) st else .bad
    | none => .bad
  | _ => .bad
theorem pd_intT (hg : Gl X "int") (hn : X.mg "int" = none) (y : PC Γ W X e f) (he : starEach [e] X.env = (false, eval e X.env) :: starEach [] X.env := by rfl) (hpl : (backTo pos (starEach [] X.env)).any (·.1) = false := by rfl) :
    PD Γ W X (.Call (.Name "int" ppos) [e] [] pos) (eUn mIntT f) := by
  refine ⟨(pe_callTy call_int_str hg hn (by decide +kernel) (pa_cons y.pe pa_nil he) (by decide) (by decide) he hpl).csq fun σ H Q h => one (X := X) (r := fun v H Q => ∃ a n, [v] = [V.str a] ∧ PySem.intText? a = some n ∧ a.length ≤ 640 ∧ Q (.int n) H) (fun Z Lt g st σ H x v Q s rx h => ?_) h⟩
  unfold mIntT at h
  split at h
  · split at h
    · rename_i n en
      split at h
      · rename_i hl
        rw [rx.str]; exact ⟨_, n, rfl, en, hl, ret_int s h⟩
      · exact h.elim
    · exact h.elim
  · exact h.elim
@[simp] theorem mIntT_s (a : Str) : mIntT (.str a) st = match PySem.intText? a with
    | some n => if a.length ≤ 640 then .ok (.int n) st else .bad
    | none => .bad := id rfl
/-! ### a part of a text -/
def eSlcS (f : E D) (lo hi : E (Option Int)) : E D := fun st => (f st).bind fun x s1 => (lo s1).bind fun i s2 => (hi s2).bind fun j s3 => match x with
  | .str z => if z.length ≤ 16777216 then .ok (.str (cutS z i j)) s3 else .bad
  | _ => .bad
theorem pd_slcS {lo hi : Option Expr} {tl th : E (Option Int)} {p2 : Pos} (x : PV Γ W X e f) (y : PO Γ W X lo tl) (z : PO Γ W X hi th) : PD Γ W X (.Subscript e (.Slice lo hi none p2) pos) (eSlcS f tl th) :=
  ⟨(pe_slice sl_str x.pe y.po z.po).csq fun σ H Q ⟨Z, Lt, g, st, s, h⟩ => ⟨Z, Lt, g, st, s, h.bind.imp fun d g1 st1 H1 s1 t1 k1 v r =>
    ⟨Z, Lt, g1, st1, s1, (k1 g1 H1 s1 (GT.refl _ _)).bind.imp fun i g2 st2 H2 s2 t2 k2 =>
      ⟨Z, Lt, g2, st2, s2, (k2 g2 H2 s2 (GT.refl _ _)).bind.imp fun j g3 st3 H3 s3 t3 k3 => by
        have k4 := k3 g3 H3 s3 (GT.refl _ _)
        cases d with
        | str z =>
          simp only at k4
          split at k4
          · rename_i hl
            rw [(((r.up t2).up t3).cv s3).str]
            exact ⟨z, rfl, by rw [sizeLine_eq]; exact hl, ret_str s3 k4⟩
          · exact k4.elim
        | _ => exact k4.elim⟩⟩⟩⟩
@[simp] theorem eSlcS_s {lo hi : E (Option Int)} : eSlcS f lo hi st = (f st).bind fun x s1 => (lo s1).bind fun i s2 => (hi s2).bind fun j s3 => match x with
  | .str z => if z.length ≤ 16777216 then .ok (.str (cutS z i j)) s3 else .bad
  | _ => .bad := id rfl
/-! ### a sign in a text -/
def mInS (neg : Bool) : Sem2 := fun x y st => match x, y with
  | .str a, .str z => match a.cps.toList with
    | [c] => .ok (.bl (neg != decide (c ∈ z.cps.toList))) st
    | _ => .bad
  | _, _ => .bad
theorem one_sign {a : Str} {c : Nat} (h : a.cps.toList = [c]) : a = ⟨#[c]⟩ := by
  cases a with
  | mk cps => 
    simp only at h
    congr 1
    exact Array.toList_inj.mp h
theorem holds_inS : Holds2 Γ W X (fun x y H Q => ∃ (c : Nat) (z : Str), x = .str ⟨#[c]⟩ ∧ y = .str z ∧ Q (.bl (decide (c ∈ z.cps.toList))) H) (mInS false) := by
  intro Z Lt g st σ H x y v w Q s rx ry h
  unfold mInS at h
  split at h
  · rename_i a z
    split at h
    · rename_i c ec
      rw [rx.str, ry.str, one_sign ec]
      exact ⟨c, z, rfl, rfl, by simpa using ret_bl s h⟩
    · exact h.elim
  · exact h.elim
theorem holds_ninS : Holds2 Γ W X (fun x y H Q => ∃ (c : Nat) (z : Str), x = .str ⟨#[c]⟩ ∧ y = .str z ∧ Q (.bl (!decide (c ∈ z.cps.toList))) H) (mInS true) := by
  intro Z Lt g st σ H x y v w Q s rx ry h
  unfold mInS at h
  split at h
  · rename_i a z
    split at h
    · rename_i c ec
      rw [rx.str, ry.str, one_sign ec]
      exact ⟨c, z, rfl, rfl, by simpa using ret_bl s h⟩
    · exact h.elim
  · exact h.elim
/-! ### for c in text -/
def signD (c : Nat) : D := .str ⟨#[c]⟩
def iStrD (f : E D) : E (List D) := fun st => (f st).bind fun d s1 => match d with
  | .str x => .ok (x.cps.toList.map signD) s1
  | _ => .bad
@[simp] theorem iStrD_s : iStrD f st = (f st).bind fun d s1 => match d with
  | .str x => .ok (x.cps.toList.map signD) s1
  | _ => .bad := id rfl
theorem it_str {target : Expr} (x : PD Γ W X e f) : PIt Γ W X target e (iStrD f) := by
  refine ⟨_, pi_str x.pe, fun σ H R ⟨Z, Lt, g, st, s, h⟩ => ⟨Z, Lt, g, st, s, (Go.bind h).imp fun d g1 st1 H1 s1 t1 k1 v r => ?_⟩⟩
  have k2 := k1 g1 H1 s1 (GT.refl _ _)
  cases d with
  | str z =>
    simp only [RD] at r; subst r
    refine ⟨z, rfl, ?_⟩
    refine k2 g1 H1 s1 (GT.refl _ _) s1 _ (fun i H g st σ hi s t => ?_) (fun H g st σ s t => ?_)
    · simp only [List.length_map, Array.length_toList] at hi
      refine ⟨hi, fun x H' ⟨e1, c, ec, e2⟩ => ?_⟩
      subst e1 e2
      refine ⟨g, signD c, ?_, s, GT.refl _ _, RD.str, Quiet.refl _ _⟩
      rw [List.getElem?_map, Array.getElem?_toList, ec]; rfl
    · show z.cps.size ≤ (z.cps.toList.map signD).length
      simp
  | _ => exact k2.elim
/-! ### a part of a tuple, not the whole -/
def eSlcT (f : E D) (lo hi : E (Option Int)) : E D := fun st => (f st).bind fun x s1 => (lo s1).bind fun i s2 => (hi s2).bind fun j s3 => match x with
  | .tup ds => if ¬ (HT.sIx ds.length 0 i = 0 ∧ HT.sIx ds.length ds.length j = ds.length) then .ok (.tup (cutD ds i j)) s3 else .bad
  | _ => .bad
theorem pd_slcT {lo hi : Option Expr} {tl th : E (Option Int)} {p2 : Pos} (hK : X.K = Γ.K) (x : PD Γ W X e f) (y : PO Γ W X lo tl) (z : PO Γ W X hi th) : PD Γ W X (.Subscript e (.Slice lo hi none p2) pos) (eSlcT f tl th) :=
  ⟨(pe_slice sl_tup x.pe y.po z.po).csq fun σ H Q ⟨Z, Lt, g, st, s, h⟩ => ⟨Z, Lt, g, st, s, h.bind.imp fun d g1 st1 H1 s1 t1 k1 v r =>
    ⟨Z, Lt, g1, st1, s1, (k1 g1 H1 s1 (GT.refl _ _)).bind.imp fun i g2 st2 H2 s2 t2 k2 =>
      ⟨Z, Lt, g2, st2, s2, (k2 g2 H2 s2 (GT.refl _ _)).bind.imp fun j g3 st3 H3 s3 t3 k3 => by
        have k4 := k3 g3 H3 s3 (GT.refl _ _)
        cases d with
        | tup ds =>
          simp only at k4
          split at k4
          · rename_i hl
            have r3 := (r.up t2).up t3
            simp only [RD] at r3
            obtain ⟨a, vs, rfl, q, rs⟩ := r3
            refine ⟨a, vs, rfl, by rw [hK]; exact sqT_le (GLe.sub s3.sh.gh) q, by rw [← rs.length]; exact hl, fun p n => ?_⟩
            have nn := (s3.sh.new n).2.1
            refine k4 _ _ (s3.new n (.tup (cutV vs i j))) (GT.put nn) _ ?_
            simp only [RD]
            exact ⟨p, cutV vs i j, rfl, .inl (.inl put_same), RDs.mono (GLe.put nn) ⟨[], by simp⟩ _ _ (rs.cut i j)⟩
          · exact k4.elim
        | _ => exact k4.elim⟩⟩⟩⟩
@[simp] theorem eSlcT_s {lo hi : E (Option Int)} : eSlcT f lo hi st = (f st).bind fun x s1 => (lo s1).bind fun i s2 => (hi s2).bind fun j s3 => match x with
  | .tup ds => if ¬ (HT.sIx ds.length 0 i = 0 ∧ HT.sIx ds.length ds.length j = ds.length) then .ok (.tup (cutD ds i j)) s3 else .bad
  | _ => .bad := id rfl
@[simp] theorem mStr_s (i j : Str) : mStr (.str i) (.str j) st = if i.length + j.length ≤ 16777216 then .ok (.str (i ++ j)) st else .bad := id rfl
@[simp] theorem mJoin_s (a : Str) (ds : List D) : mJoin a (.lst ds) st = match strsD ds with
  | some ys => if (ys.map (·.length)).sum + ys.length * a.length ≤ 16777216 then .ok (.str (Txt.join a ys)) st else .bad
  | none => .bad := id rfl
@[simp] theorem mSplit_s (a b : Str) : mSplit a (.str b) st = if (b.length == 0) = false ∧ a.length + 2 ≤ 16777216 then .ok (.lst ((Txt.split a b).map D.str)) st else .bad := id rfl
@[simp] theorem mWords_s (a : Str) : mWords a st = if a.length + 2 ≤ 16777216 then .ok (.lst ((Txt.words a).map D.str)) st else .bad := id rfl
@[simp] theorem mStrip_s (a : Str) : mStrip a st = if a.length ≤ 16777216 then .ok (.str (Txt.strip a)) st else .bad := id rfl
@[simp] theorem mStripC_s (a b : Str) : mStripC a (.str b) st = if a.length ≤ 16777216 then .ok (.str (Txt.stripChars a b)) st else .bad := id rfl
@[simp] theorem mInS_s (neg : Bool) (a z : Str) : mInS neg (.str a) (.str z) st = match a.cps.toList with
    | [c] => .ok (.bl (neg != decide (c ∈ z.cps.toList))) st
    | _ => .bad := id rfl
end
end PL

namespace Gk11
open PySem PySem.Spec PyProof.Rows L2 PL
/-! ### the text by places, each def as a function of data -/
abbrev Gm (K : PySem.W.Frag) (C0 C1 C2 C3 C4 C5 C9 : Addr) : Tab := ⟨K, fun i => ([some C0, some C1, some C2, some C3, some C4, some C5, none, none, none, some C9, none, none, none, none] : List (Option Addr)).getD i none, ["room", "reach", "clock", "boxes", "span", "sums", "total", "lost", "counts", "over", "under", "turns", "least", "most", "rungs", "arrivals", "level", "kept", "came", "went", "up", "down", "window", "seen", "balance", "many", "stacks", "puts", "takes", "line"]⟩
def top (i : Nat) : Stmt := PySem.Challenge.pw_sketchbounds_k11_rungs_poured.main.body.getD i (.Pass ⟨0, 0, 0, 0⟩)
abbrev s_settled_list : Stmt := top 9
abbrev s_settle_rungs : Stmt := top 10
abbrev s_Rungs_init : Stmt := inClass (top 11) 0
abbrev s_Rungs_add : Stmt := inClass (top 11) 1
abbrev s_lesser_of : Stmt := top 12
abbrev s_greater_of : Stmt := top 13
abbrev s_poured_rungs : Stmt := top 14
abbrev s_mixed : Stmt := top 16
abbrev s_whole : Stmt := top 17
abbrev s_is : Stmt := top 18
abbrev s_thing : Stmt := top 19
abbrev s_weight : Stmt := top 20
abbrev s_room : Stmt := top 21
abbrev s_lists : Stmt := top 22
abbrev s_maybe : Stmt := top 23
abbrev s_world : Stmt := top 24
abbrev s_settled : Stmt := top 26
abbrev s_added : Stmt := top 25
abbrev s_same : Stmt := top 27
abbrev s_joined : Stmt := top 28
abbrev s_refused : Stmt := top 29
abbrev s_poured : Stmt := top 30
abbrev s_law : Stmt := top 31
abbrev N_settled_list : List Str := ["things", "greater", "pairs", "goes", "k"]
abbrev N_settle_rungs : List Str := ["kept", "h", "greater", "stays", "goes"]
abbrev N_Rungs_init : List Str := ["self", "room"]
abbrev N_Rungs_add : List Str := ["self", "thing", "weight", "h"]
abbrev N_lesser_of : List Str := ["one", "other"]
abbrev N_greater_of : List Str := ["one", "other"]
abbrev N_poured_rungs : List Str := ["one", "other", "made", "things", "h"]
abbrev N_mixed : List Str := ["_law_cell", "_law_k", "_law_mixed_here"]
abbrev N_whole : List Str := ["_law_found"]
abbrev N_is : List Str := ["_law_found", "_law_due"]
abbrev N_thing : List Str := ["_law_cell", "_law_how"]
abbrev N_weight : List Str := ["_law_cell", "_law_mixed_here"]
abbrev N_room : List Str := ["_law_cell"]
abbrev N_lists : List Str := ["_law_found", "_law_due", "_law_k", "_law_j"]
abbrev N_maybe : List Str := ["_law_found", "_law_due"]
abbrev N_world : List Str := ["_law_room_here"]
abbrev N_settled : List Str := ["_law_world_here", "_law_h", "_law_row", "_law_side", "_law_even", "_law_k"]
abbrev N_added : List Str := ["_law_world_here", "_law_thing_here", "_law_weight_here", "_law_seen", "_law_h"]
abbrev N_same : List Str := ["_law_rungs", "_law_world_here"]
abbrev N_joined : List Str := ["_law_one", "_law_other", "_law_world_here", "_law_seen", "_law_two", "_law_h", "_law_row"]
@[irreducible] noncomputable def B_joined_1 : S :=
  sIf (tst (eBin mLt (vVar 5) (eUn mLen (eDr (eBin (Sem2.dr mDGet) (vVar 4) (eC (.str "rungs"))))))) (sSet 6 (eBin (Sem2.dr mAdd) (vVar 6) (eBin (Sem2.dr mIx) (eBin (Sem2.dr mDGet) (vVar 4) (eC (.str "rungs"))) (vVar 5)))) (sNx)
@[irreducible] noncomputable def B_joined_0 : S :=
  sSeq (sSet 6 (eLst (eNil))) <|
  sSeq (sFor (iTup (eTup (eCons (eVar 0) (eCons (eVar 1) (eNil))))) (tgN 4) (B_joined_1)) <|
  sAppC (eBin (Sem2.dr mDGet) (vVar 2) (eC (.str "rungs"))) (eNewC (eUn mSortedX (cVar 6)))
@[irreducible] noncomputable def F_joined : Fn := fn 7 <|
  sSeq (sSet 2 (eNewC (eCallF PX.F_rw_world (aCons (aV (eBin (Sem2.dr mDGet) (vVar 0) (eC (.str "room")))) (aNil))))) <|
  sSeq (sDPutC (eVar 2) (eC (.str "total")) (eBin mAdd (eBin (Sem2.dr mDGet) (vVar 0) (eC (.str "total"))) (eBin (Sem2.dr mDGet) (vVar 1) (eC (.str "total"))))) <|
  sSeq (sDPutC (eVar 2) (eC (.str "turns")) (eBin mAdd (eBin (Sem2.dr mDGet) (vVar 0) (eC (.str "turns"))) (eBin (Sem2.dr mDGet) (vVar 1) (eC (.str "turns"))))) <|
  sSeq (sDPutC (eVar 2) (eC (.str "sides")) (eNewC (eLst (eCons (eBin mAdd (eBin (Sem2.dr mIx) (eBin (Sem2.dr mDGet) (vVar 0) (eC (.str "sides"))) (eC (.int 0))) (eBin (Sem2.dr mIx) (eBin (Sem2.dr mDGet) (vVar 1) (eC (.str "sides"))) (eC (.int 0)))) (eCons (eBin mAdd (eBin (Sem2.dr mIx) (eBin (Sem2.dr mDGet) (vVar 0) (eC (.str "sides"))) (eC (.int 1))) (eBin (Sem2.dr mIx) (eBin (Sem2.dr mDGet) (vVar 1) (eC (.str "sides"))) (eC (.int 1)))) (eNil)))))) <|
  sSeq (sSet 3 (eLc [4] (iVal (eLst (eCons (eBin (Sem2.dr mDGet) (vVar 0) (eC (.str "least"))) (eCons (eBin (Sem2.dr mDGet) (vVar 0) (eC (.str "most"))) (eCons (eBin (Sem2.dr mDGet) (vVar 1) (eC (.str "least"))) (eCons (eBin (Sem2.dr mDGet) (vVar 1) (eC (.str "most"))) (eNil))))))) (tgN 4) (tst (eUn mNotN (cVar 4))) (eVar 4))) <|
  sSeq (sIf (tst (eBin mNe (vVar 3) (eLst (eNil)))) (sSeq (sDPutC (eVar 2) (eC (.str "least")) (eUn mMinL (cVar 3))) <|
  sDPutC (eVar 2) (eC (.str "most")) (eUn mMaxL (cVar 3))) (sNx)) <|
  sSeq (sFor (iRg1 (eBin mMax (eUn mLen (eDr (eBin (Sem2.dr mDGet) (vVar 0) (eC (.str "rungs"))))) (eUn mLen (eDr (eBin (Sem2.dr mDGet) (vVar 1) (eC (.str "rungs"))))))) (tgN 5) (B_joined_0)) <|
  sSeq (sEx (eCall PX.F_rw_settled (aCons (aL 2) (aNil)))) <|
  sRet (eVar 2)
abbrev N_refused : List Str := ["_law_one", "_law_other", "_law_caught", "refused"]
@[irreducible] noncomputable def F_refused : Fn := fn 4 <|
  sSeq (sSet 2 (eC .non)) <|
  sSeq (sTryK 3 2 (fun k => List.lookup k [(0, true), (1, true), (2, true), (3, true), (4, true), (5, true)]) (sEx (eCall PX.F_poured_rungs (aCons (aL 0) (aCons (aL 1) (aNil)))))) <|
  sSeq (sIf (bOr (tst (eUn (mIsE (subOr (fun k => List.lookup k [(0, false), (1, false), (2, true), (3, false), (4, false), (5, false)]) (subOr (fun k => List.lookup k [(0, false), (1, false), (2, false), (3, true), (4, false), (5, false)]) (subOr (fun k => List.lookup k [(0, false), (1, false), (2, false), (3, false), (4, true), (5, false)]) ((fun k => List.lookup k [(0, false), (1, false), (2, false), (3, false), (4, false), (5, true)])))))) (cVar 2))) (bNot (tst (eUn (mIsE (fun k => List.lookup k [(0, true), (1, true), (2, true), (3, true), (4, true), (5, true)])) (cVar 2))))) (sRet (eC (.bl false))) (sNx)) <|
  sRet (eUn (mIsE (fun k => List.lookup k [(0, false), (1, true), (2, false), (3, false), (4, false), (5, false)])) (cVar 2))
abbrev N_poured : List Str := ["_law_pots", "_law_worlds", "_law_cell", "_law_i", "_law_j", "_law_made", "_law_world_here", "_law_thing_here", "_law_weight_here"]
@[irreducible] noncomputable def F_poured : Fn := fn 9 <|
  sSeq (sUnT [3, 4] (eBin mIx (eLst (eCons (eTup (eCons (eC (.int 0)) (eCons (eC (.int 1)) (eNil)))) (eCons (eTup (eCons (eC (.int 1)) (eCons (eC (.int 0)) (eNil)))) (eCons (eTup (eCons (eC (.int 0)) (eCons (eC (.int 0)) (eNil)))) (eCons (eTup (eCons (eC (.int 1)) (eCons (eC (.int 1)) (eNil)))) (eNil)))))) (eBin mMod (eBin mDiv (vVar 2) (eC (.int 3))) (eC (.int 4))))) <|
  sSeq (sSet 5 (eCall PX.F_poured_rungs (aCons (aV (eBin mIx (vVar 0) (vVar 3))) (aCons (aV (eBin mIx (vVar 0) (vVar 4))) (aNil))))) <|
  sSeq (sSet 6 (eCall F_joined (aCons (aV (eBin mIx (vVar 1) (vVar 3))) (aCons (aV (eBin mIx (vVar 1) (vVar 4))) (aNil))))) <|
  sSeq (sIf (bNot (tst (eCall PX.F_rw_same (aCons (aL 5) (aCons (aL 6) (aNil)))))) (sRet (eC (.bl false))) (sNx)) <|
  sSeq (sSet 7 (eCall PX.F_thing (aCons (aV (eBin mDiv (vVar 2) (eC (.int 7)))) (aNil)))) <|
  sSeq (sSet 8 (eCall PX.F_weight (aCons (aV (eBin mDiv (vVar 2) (eC (.int 7)))) (aNil)))) <|
  sSeq (sEx (eMeth 3 [(9, PX.F_Rungs_add)] (eVar 5) (aCons (aL 7) (aCons (aL 8) (aNil))))) <|
  sSeq (sEx (eCall PX.F_rw_added (aCons (aL 6) (aCons (aL 7) (aCons (aL 8) (aNil)))))) <|
  sSeq (sIf (bNot (tst (eCall PX.F_rw_same (aCons (aL 5) (aCons (aL 6) (aNil)))))) (sRet (eC (.bl false))) (sNx)) <|
  sRet (eAnd (eCall PX.F_rw_same (aCons (aV (eBin mIx (vVar 0) (eC (.int 0)))) (aCons (aV (eBin mIx (vVar 1) (eC (.int 0)))) (aNil)))) (eCall PX.F_rw_same (aCons (aV (eBin mIx (vVar 0) (eC (.int 1)))) (aCons (aV (eBin mIx (vVar 1) (eC (.int 1)))) (aNil)))))
abbrev N_law : List Str := ["_law_script", "_law_first", "_law_room_here", "_law_pots", "_law_worlds", "_law_strange", "_law_cell", "_law_which", "_law_thing_here", "_law_weight_here"]
@[irreducible] noncomputable def B_law_0 : S :=
  sSeq (sSet 7 (eBin mMod (eCall PX.F_mixed (aCons (aL 6) (aCons (aV (eC (.int 3))) (aNil)))) (eC (.int 2)))) <|
  sSeq (sSet 8 (eCall PX.F_thing (aCons (aL 6) (aNil)))) <|
  sSeq (sSet 9 (eCall PX.F_weight (aCons (aL 6) (aNil)))) <|
  sSeq (sEx (eMeth 3 [(9, PX.F_Rungs_add)] (eBin mIx (vVar 3) (vVar 7)) (aCons (aL 8) (aCons (aL 9) (aNil))))) <|
  sSeq (sEx (eCall PX.F_rw_added (aCons (aV (eBin mIx (vVar 4) (vVar 7))) (aCons (aL 8) (aCons (aL 9) (aNil)))))) <|
  sIf (tst (eBin mEq (eBin mMod (eCall PX.F_mixed (aCons (aL 6) (aCons (aV (eC (.int 4))) (aNil)))) (eC (.int 5))) (eC (.int 0)))) (sSeq (sIf (bOr (bNot (tst (eCall F_refused (aCons (aV (eBin mIx (vVar 3) (vVar 7))) (aCons (aL 5) (aNil)))))) (bNot (tst (eCall F_refused (aCons (aL 5) (aCons (aV (eBin mIx (vVar 3) (eBin mSub (eC (.int 1)) (vVar 7)))) (aNil))))))) (sRet (eC (.bl false))) (sNx)) <|
  sSeq (sEx (eMeth 3 [(9, PX.F_Rungs_add)] (eVar 5) (aCons (aL 8) (aCons (aL 9) (aNil))))) <|
  sIf (bNot (tst (eCall F_poured (aCons (aL 3) (aCons (aL 4) (aCons (aL 6) (aNil))))))) (sRet (eC (.bl false))) (sNx)) (sNx)
@[irreducible] noncomputable def F_law : Fn := fn 10 <|
  sSeq (sSet 1 (eSlc (eBin mAdd (vVar 0) (eLst (eCons (eC (.int 0)) (eCons (eC (.int 0)) (eNil))))) (oNone) (oSome (eC (.int 2))))) <|
  sSeq (sSet 2 (eCall PX.F_room (aCons (aV (eBin mIx (vVar 1) (eC (.int 0)))) (aNil)))) <|
  sSeq (sSet 3 (eLst (eCons (eMake 2 9 PX.F_Rungs_init (aCons (aL 2) (aNil))) (eCons (eMake 2 9 PX.F_Rungs_init (aCons (aL 2) (aNil))) (eNil))))) <|
  sSeq (sSet 4 (eLst (eCons (eNewC (eCallF PX.F_rw_world (aCons (aL 2) (aNil)))) (eCons (eNewC (eCallF PX.F_rw_world (aCons (aL 2) (aNil)))) (eNil))))) <|
  sSeq (sIf (bNot (tst (eCall F_poured (aCons (aL 3) (aCons (aL 4) (aCons (aV (eBin mIx (vVar 1) (eC (.int 1)))) (aNil))))))) (sRet (eC (.bl false))) (sNx)) <|
  sSeq (sSet 5 (eMake 2 9 PX.F_Rungs_init (aCons (aV (eBin mIx (eLst (eCons (eBin mAdd (vVar 2) (eC (.int 2))) (eCons (eBin mSub (vVar 2) (eC (.int 2))) (eNil)))) (eUn mIntOf (eOr (eAnd (eBin mGt (vVar 2) (eC (.int 2))) (eBin mEq (eBin mMod (eBin mIx (vVar 1) (eC (.int 1))) (eC (.int 2))) (eC (.int 1)))) (eBin mEq (vVar 2) (eC (.int 64))))))) (aNil)))) <|
  sSeq (sFor (iVal (eSlc (vVar 0) (oSome (eC (.int 2))) (oSome (eC (.int 102))))) (tgN 6) (B_law_0)) <|
  sRet (eAnd (eCall F_poured (aCons (aL 3) (aCons (aL 4) (aCons (aV (eBin mAdd (eBin mIx (vVar 1) (eC (.int 1))) (eC (.int 6)))) (aNil))))) (eCall F_poured (aCons (aL 3) (aCons (aL 4) (aCons (aV (eBin mAdd (eBin mIx (vVar 1) (eC (.int 1))) (eC (.int 9)))) (aNil))))))
end Gk11

namespace Gk11
open PySem L2 PL PX
theorem srt_id {l : List Int} (h : l.Pairwise (· ≤ ·)) : srt l = l := (srt_unique (List.Perm.refl l) h).symm
section
variable {room : Nat} {S : Rg} {total : Int} {l m : Option Int} {w s g : Nat} {rs : List Nat} {h : List LO}
theorem addX (W : Wd room S total l m w s g rs h) (x : List Int) : Wd room ⟨S.R ++ [x], S.ov, S.un, S.tu⟩ total l m w s g (rs ++ [h.length]) ((h ++ [LO.cell (encL x)]).set g (LO.cell (.lst ((rs ++ [h.length]).map D.obj)))) := by
  obtain ⟨n1, n2, n3, n4, n5, n6, n7⟩ := W.nes
  have lt := W.lt
  have lw := lt w (by simp)
  have ls := lt s (by simp)
  have lg := lt g (by simp)
  have g1 : (h ++ [LO.cell (encL x)])[g]? = some (LO.cell (.lst (rs.map D.obj))) := happ_lt W.og _
  refine ⟨by rw [List.getElem?_set_ne (Ne.symm n2)]; exact happ_lt W.ow _, by rw [List.getElem?_set_ne (Ne.symm n3)]; exact happ_lt W.os _, hset g1 _, by simp [W.len], fun j b e => ?_, ?_⟩
  · by_cases c : j < rs.length
    · rw [List.getElem?_append_left c] at e
      have mb := List.mem_of_getElem? e
      have lb := lt b (by simp [mb])
      rw [List.getElem?_set_ne fun q => n6 (by rw [q]; exact mb)]
      show _ = some (LO.cell (encL (rowAt (S.R ++ [x]) j)))
      rw [rowAt_app (by rw [← W.len]; exact c)]
      exact happ_lt (W.rw j b e) _
    · rw [List.getElem?_append_right (by omega)] at e
      have hj : j - rs.length = 0 := by
        have := (List.getElem?_eq_some_iff.mp e).1
        simp at this; omega
      rw [hj] at e
      simp only [List.getElem?_cons_zero, Option.some.injEq] at e
      subst e
      have hj2 : j = S.R.length := by have := W.len; omega
      rw [List.getElem?_set_ne (by omega)]
      show _ = some (LO.cell (encL (rowAt (S.R ++ [x]) j)))
      have : rowAt (S.R ++ [x]) j = x := by unfold rowAt; rw [hj2]; simp
      rw [this]
      simp
  · have nn : (rs ++ [h.length]).Nodup := by
      rw [List.nodup_append]
      refine ⟨n7, by simp, fun a ma b mb => ?_⟩
      simp only [List.mem_singleton] at mb
      have := lt a (by simp [ma])
      omega
    simp only [List.nodup_cons, List.mem_cons, not_or, List.mem_append, List.mem_singleton, List.not_mem_nil, or_false]
    exact ⟨⟨n1, n2, n4, by omega⟩, ⟨n3, n5, by omega⟩, ⟨n6, by omega⟩, nn⟩
theorem newS (W : Wd room S total l m w s g rs h) (ov un : Int) : Wd room ⟨S.R, ov, un, S.tu⟩ total l m w h.length g rs ((h ++ [LO.cell (.lst [.int ov, .int un])]).set w (LO.cell (.dic (wdL room h.length g total S.tu l m)))) := by
  obtain ⟨n1, n2, n3, n4, n5, n6, n7⟩ := W.nes
  have lt := W.lt
  have lw := lt w (by simp)
  have lg := lt g (by simp)
  have w1 : (h ++ [LO.cell (.lst [.int ov, .int un])])[w]? = some (LO.cell (.dic (wdL room s g total S.tu l m))) := happ_lt W.ow _
  refine ⟨hset w1 _, by rw [List.getElem?_set_ne (by omega)]; simp, by rw [List.getElem?_set_ne n2]; exact happ_lt W.og _, W.len, fun j b e => ?_, ?_⟩
  · have mb := List.mem_of_getElem? e
    rw [List.getElem?_set_ne fun q => n4 (by rw [q]; exact mb)]
    exact happ_lt (W.rw j b e) _
  · simp only [List.nodup_cons, List.mem_cons, not_or]
    refine ⟨⟨by omega, n2, n4⟩, ⟨by omega, fun q => ?_⟩, n6, n7⟩
    have := lt _ (show h.length ∈ w :: s :: g :: rs by simp [q])
    omega
end
/-! ### rows side by side -/
def pairJ (R Q : List (List Int)) (n : Nat) : List (List Int) := (List.range n).map fun h => srt (rowAt R h ++ rowAt Q h)
theorem pairJ_succ (R Q : List (List Int)) (n : Nat) : pairJ R Q (n + 1) = pairJ R Q n ++ [srt (rowAt R n ++ rowAt Q n)] := by
  unfold pairJ; rw [List.range_succ]; simp
theorem rowAt_ge {R : List (List Int)} {j : Nat} (h : R.length ≤ j) : rowAt R j = [] := by unfold rowAt; rw [List.getElem?_eq_none h]; rfl
theorem joinL_row : ∀ (Q R : List (List Int)) (h j : Nat), h ≤ R.length → rowAt (joinL R Q h) j = if h ≤ j ∧ j < h + Q.length then srt (rowAt R j ++ rowAt Q (j - h)) else rowAt R j
  | [], R, h, j, _ => by rw [joinL, if_neg (by simp <;> omega)]
  | q :: Q, R, h, j, hl => by
    rw [joinL]
    have shift : ∀ j, h + 1 ≤ j → rowAt (q :: Q) (j - h) = rowAt Q (j - (h + 1)) := fun j hj => by
      unfold rowAt
      rw [show j - h = (j - (h + 1)) + 1 by omega]
      simp
    split
    · rename_i c
      rw [joinL_row Q _ _ j (by simp; omega)]
      by_cases c1 : h + 1 ≤ j ∧ j < h + 1 + Q.length
      · rw [if_pos c1, if_pos (by simp; omega), shift j c1.1, rowAt_ge (R := R) (by omega), rowAt_ge (by simp; omega)]
      · rw [if_neg c1]
        by_cases c2 : j = h
        · subst c2
          rw [if_pos (by simp), Nat.sub_self, rowAt_ge (R := R) (by omega)]
          unfold rowAt
          rw [c]; simp
        · rw [if_neg (by simp; omega)]
          by_cases c3 : j < R.length
          · exact rowAt_app c3
          · rw [rowAt_ge (R := R) (by omega), rowAt_ge (by simp; omega)]
    · rename_i c
      rw [joinL_row Q _ _ j (by simp; omega)]
      by_cases c1 : h + 1 ≤ j ∧ j < h + 1 + Q.length
      · have e : rowAt (R.set h (srt (rowAt R h ++ q))) j = rowAt R j := by rw [rowAt_set, if_neg (by omega)]
        rw [if_pos c1, if_pos (by simp; omega), shift j c1.1, e]
      · rw [if_neg c1]
        by_cases c2 : j = h
        · subst c2
          have e : rowAt (R.set j (srt (rowAt R j ++ q))) j = srt (rowAt R j ++ q) := by rw [rowAt_set, if_pos ⟨rfl, by omega⟩]
          rw [e, if_pos (by simp), Nat.sub_self]
          rfl
        · have e : rowAt (R.set h (srt (rowAt R h ++ q))) j = rowAt R j := by rw [rowAt_set, if_neg (by omega)]
          rw [e, if_neg (by simp; omega)]
theorem join_pair (R Q : List (List Int)) (hR : ∀ r ∈ R, r.Pairwise (· ≤ ·)) : joinL R Q 0 = pairJ R Q (max R.length Q.length) := by
  refine List.ext_getElem? fun j => ?_
  have l1 := joinL_len Q R 0 (by omega)
  have l2 : (pairJ R Q (max R.length Q.length)).length = max R.length Q.length := by simp [pairJ]
  by_cases c : j < max R.length Q.length
  · have e1 : (joinL R Q 0)[j]? = some (rowAt (joinL R Q 0) j) := by
      have : j < (joinL R Q 0).length := by omega
      unfold rowAt; rw [List.getElem?_eq_getElem this]; rfl
    rw [e1, joinL_row Q R 0 j (by omega)]
    have e2 : (pairJ R Q (max R.length Q.length))[j]? = some (srt (rowAt R j ++ rowAt Q j)) := by
      unfold pairJ; rw [List.getElem?_map, List.getElem?_range c]; rfl
    rw [e2]
    by_cases d : j < Q.length
    · rw [if_pos (by omega)]; rfl
    · rw [if_neg (by omega), rowAt_ge (R := Q) (by omega), List.append_nil, srt_id (hR _ (rowAt_mem (by omega)))]
  · rw [List.getElem?_eq_none (by omega), List.getElem?_eq_none (by omega)]
/-! ### the law's own joining -/
def keepO : Option Int → List Int
  | none => []
  | some i => [i]
theorem some_list (a b c d : Option Int) : ((([oD a, oD b, oD c, oD d] : List D).filter fun x => !x.isNon)) = (keepO a ++ (keepO b ++ (keepO c ++ keepO d))).map D.int := by
  cases a <;> cases b <;> cases c <;> cases d <;> rfl
theorem LmOk.mn {l1 m1 l2 m2 : Option Int} (a : LmOk l1 m1) (b : LmOk l2 m2) : (keepO l1 ++ (keepO m1 ++ (keepO l2 ++ keepO m2))).min? = minO l1 l2 ∧ (keepO l1 ++ (keepO m1 ++ (keepO l2 ++ keepO m2))).max? = maxO m1 m2 ∧
    ((keepO l1 ++ (keepO m1 ++ (keepO l2 ++ keepO m2))) = [] → minO l1 l2 = none ∧ maxO m1 m2 = none) := by
  rcases a with ⟨rfl, rfl⟩ | ⟨x, y, rfl, rfl, h⟩ <;> rcases b with ⟨rfl, rfl⟩ | ⟨z, t, rfl, rfl, h2⟩
  · exact ⟨rfl, rfl, fun _ => ⟨rfl, rfl⟩⟩
  · refine ⟨?_, ?_, fun e => by simp [keepO] at e⟩
    · show some (min z t) = some z
      congr 1; omega
    · show some (max z t) = some t
      congr 1; omega
  · refine ⟨?_, ?_, fun e => by simp [keepO] at e⟩
    · show some (min x y) = some x
      congr 1; omega
    · show some (max x y) = some y
      congr 1; omega
  · refine ⟨?_, ?_, fun e => by simp [keepO] at e⟩
    · show some (min (min (min x y) z) t) = some (if z < x then z else x)
      congr 1; split <;> omega
    · show some (max (max (max x y) z) t) = some (if y < t then t else y)
      congr 1; split <;> omega
theorem LmOk.pour {l1 m1 l2 m2 : Option Int} (a : LmOk l1 m1) (b : LmOk l2 m2) : LmOk (minO l1 l2) (maxO m1 m2) := by
  rcases a with ⟨rfl, rfl⟩ | ⟨x, y, rfl, rfl, h⟩ <;> rcases b with ⟨rfl, rfl⟩ | ⟨z, t, rfl, rfl, h2⟩
  · exact .inl ⟨rfl, rfl⟩
  · exact .inr ⟨_, _, rfl, rfl, h2⟩
  · exact .inr ⟨_, _, rfl, rfl, h⟩
  · refine .inr ⟨_, _, rfl, rfl, ?_⟩
    split <;> split <;> omega
section
variable {room : Nat} {S T : Rg} {t1 t2 : Int} {l1 m1 l2 m2 : Option Int} {w1 s1 g1 w2 s2 g2 : Nat} {rs1 rs2 : List Nat}
/-- a row's turn over one of both -/
theorem turn_v {U : Rg} {t : Int} {l m : Option Int} {wv s g : Nat} {rs : List Nat} {K : List LO} (V : Wd room U t l m wv s g rs K) (i : Nat) (acc : List Int) (hl : acc.length + (rowAt U.R i).length ≤ 16777216) (a b c d : Option FV) :
    B_joined_1 ⟨[a, b, c, d, some (.val (.obj wv)), some (.val (.int (i : Nat))), some (.val (.lst (acc.map D.int)))], K⟩ = .nx ⟨[a, b, c, d, some (.val (.obj wv)), some (.val (.int (i : Nat))), some (.val (.lst ((acc ++ rowAt U.R i).map D.int)))], K⟩ := by
  have vw := V.ow
  have vg := V.og
  have vl := V.len
  have v := wd_v room s g t U.tu l m
  unfold B_joined_1
  by_cases q : i < U.R.length
  · obtain ⟨z, ez, rz⟩ := V.at q
    have oz := objs_at ez
    unfold encL at rz
    simp [vw, vg, v, dKey, vl, q, oz, rz, hl]
  · simp [vw, vg, v, dKey, vl, q, rowAt_ge (R := U.R) (j := i) (by omega)]
theorem joined_v {H : List LO} (A : Wd room S t1 l1 m1 w1 s1 g1 rs1 H) (B : Wd room T t2 l2 m2 w2 s2 g2 rs2 H) (a : LmOk l1 m1) (b : LmOk l2 m2) (hm : 1 ≤ room) (so : ∀ r ∈ S.R, r.Pairwise (· ≤ ·)) (e1 : elems S.R ≤ 4000) (e2 : elems T.R ≤ 4000) (n1 : S.R.length ≤ 60) (n2 : T.R.length ≤ 60) :
    ∃ (w s g : Nat) (rs : List Nat) (H' : List LO), F_joined [.val (.obj w1), .val (.obj w2)] H = .ret (.val (.obj w)) H' ∧ Wd room (pourR room S T) (t1 + t2) (minO l1 l2) (maxO m1 m2) w s g rs H' ∧ Fw [] (w :: s :: g :: rs) H H' := by
  have v1 := wd_v room s1 g1 t1 S.tu l1 m1
  have v2 := wd_v room s2 g2 t2 T.tu l2 m2
  obtain ⟨g, en, hg⟩ := rw_new_v room H
  subst hg
  have W0 := wd_new room H
  obtain ⟨H0, hH0⟩ : ∃ K, K = H ++ [LO.cell (.lst [.int 0, .int 0]), LO.cell (.lst []), LO.cell (.dic (wdL room H.length (H.length + 1) 0 0 none none))] := ⟨_, rfl⟩
  rw [← hH0] at W0
  have F0 : Fw [] [H.length + 2, H.length, H.length + 1] H H0 := by
    rw [hH0]
    exact ⟨by simp, fun j lj _ => List.getElem?_append_left lj, fun j mj => .inr (by simp at mj; omega)⟩
  obtain ⟨w, hw⟩ : ∃ w, w = H.length + 2 := ⟨_, rfl⟩
  obtain ⟨g, hg⟩ : ∃ g, g = H.length + 1 := ⟨_, rfl⟩
  obtain ⟨s, hs⟩ : ∃ s, s = H.length := ⟨_, rfl⟩
  have F0 : Fw [] (w :: s :: g :: []) H H0 := by rw [hw, hs, hg]; exact F0
  have W0 : Wd room rgZ 0 none none w s g [] H0 := by rw [hw, hs, hg]; exact W0
  -- the others as they stand
  have mv : ∀ {own : List Nat} {K : List LO}, Fw [] own H K → Wd room S t1 l1 m1 w1 s1 g1 rs1 K ∧ Wd room T t2 l2 m2 w2 s2 g2 rs2 K := fun f => ⟨A.other f (by simp), B.other f (by simp)⟩
  -- total
  have W1 := W0.setD (t1 + t2) 0 none none
  obtain ⟨H1, hH1⟩ : ∃ K, K = H0.set w (LO.cell (.dic (wdL room s g (t1 + t2) 0 none none))) := ⟨_, rfl⟩
  dsimp only [rgZ] at W1
  rw [← hH1] at W1
  have F1 : Fw [] (w :: s :: g :: []) H H1 := F0.trans (by rw [hH1]; exact Fw.set _ _ _ (by simp))
  -- turns
  have W2 := W1.setD (t1 + t2) (S.tu + T.tu) none none
  obtain ⟨H2, hH2⟩ : ∃ K, K = H1.set w (LO.cell (.dic (wdL room s g (t1 + t2) (S.tu + T.tu) none none))) := ⟨_, rfl⟩
  dsimp only at W2
  rw [← hH2] at W2
  have F2 : Fw [] (w :: s :: g :: []) H H2 := F1.trans (by rw [hH2]; exact Fw.set _ _ _ (by simp))
  -- sides
  have W3 := newS W2 (S.ov + T.ov) (S.un + T.un)
  obtain ⟨s3, hs3⟩ : ∃ s, s = H2.length := ⟨_, rfl⟩
  obtain ⟨H3, hH3⟩ : ∃ K, K = (H2 ++ [LO.cell (.lst [.int (S.ov + T.ov), .int (S.un + T.un)])]).set w (LO.cell (.dic (wdL room s3 g (t1 + t2) (S.tu + T.tu) none none))) := ⟨_, rfl⟩
  dsimp only at W3
  rw [← hs3, ← hH3] at W3
  have F3 : Fw [] (w :: s3 :: g :: []) H H3 := F2.trans (by
    rw [hH3]
    refine Fw.mk2 _ _ (by simp) (W2.lt w (by simp)) fun j mj => ?_
    simp only [List.mem_cons, List.not_mem_nil, or_false] at mj ⊢
    rcases mj with q | q | q
    · exact .inl (.inl q)
    · exact .inr (by rw [q, hs3])
    · exact .inl (.inr (.inr q)))
  -- least and most
  obtain ⟨lo1, hi1, emp⟩ := LmOk.mn a b
  obtain ⟨sn, hsn⟩ : ∃ sn, sn = keepO l1 ++ (keepO m1 ++ (keepO l2 ++ keepO m2)) := ⟨_, rfl⟩
  rw [← hsn] at lo1 hi1 emp
  have lm : ∃ H5, (sIf (tst (eBin mNe (vVar 3) (eLst (eNil)))) (sSeq (sDPutC (eVar 2) (eC (.str "least")) (eUn mMinL (cVar 3))) <|
      sDPutC (eVar 2) (eC (.str "most")) (eUn mMaxL (cVar 3))) (sNx) : LS → SRes) ⟨[some (.val (.obj w1)), some (.val (.obj w2)), some (.val (.obj w)), some (.val (.lst (sn.map D.int))), none, none, none], H3⟩ =
      .nx ⟨[some (.val (.obj w1)), some (.val (.obj w2)), some (.val (.obj w)), some (.val (.lst (sn.map D.int))), none, none, none], H5⟩ ∧ Wd room ⟨[], S.ov + T.ov, S.un + T.un, S.tu + T.tu⟩ (t1 + t2) (minO l1 l2) (maxO m1 m2) w s3 g [] H5 ∧ Fw [] (w :: s3 :: g :: []) H H5 := by
    have pl1 : pln 20 (.lst (sn.map D.int)) = true := by simp only [pln]; exact plns_map (fun _ => rfl) _
    by_cases c : sn = []
    · obtain ⟨q1, q2⟩ := emp c
      refine ⟨H3, ?_, by rw [q1, q2]; exact W3, F3⟩
      rw [c]
      simp [deq, deqs]
    · have ne : deq (.lst (sn.map D.int)) (.lst []) = false := by
        cases sn with
        | nil => exact absurd rfl c
        | cons x xs => rfl
      obtain ⟨mn, hmn⟩ : ∃ mn, minO l1 l2 = some mn := by
        cases q : minO l1 l2 with
        | none => rw [q, List.min?_eq_none_iff] at lo1; exact absurd lo1 c
        | some x => exact ⟨x, rfl⟩
      obtain ⟨mx, hmx⟩ : ∃ mx, maxO m1 m2 = some mx := by
        cases q : maxO m1 m2 with
        | none => rw [q, List.max?_eq_none_iff] at hi1; exact absurd hi1 c
        | some x => exact ⟨x, rfl⟩
      have W4 := W3.setD (t1 + t2) (S.tu + T.tu) (some mn) none
      obtain ⟨H4, hH4⟩ : ∃ K, K = H3.set w (LO.cell (.dic (wdL room s3 g (t1 + t2) (S.tu + T.tu) (some mn) none))) := ⟨_, rfl⟩
      dsimp only at W4
      rw [← hH4] at W4
      have W5 := W4.setD (t1 + t2) (S.tu + T.tu) (some mn) (some mx)
      obtain ⟨H5, hH5⟩ : ∃ K, K = H4.set w (LO.cell (.dic (wdL room s3 g (t1 + t2) (S.tu + T.tu) (some mn) (some mx)))) := ⟨_, rfl⟩
      dsimp only at W5
      rw [← hH5] at W5
      have G4 : Fw (w :: s3 :: g :: []) (w :: s3 :: g :: []) H3 H4 := by rw [hH4]; exact Fw.set _ _ _ (by simp)
      have G5 : Fw (w :: s3 :: g :: []) (w :: s3 :: g :: []) H4 H5 := by rw [hH5]; exact Fw.set _ _ _ (by simp)
      refine ⟨H5, ?_, by rw [hmn, hmx]; exact W5, (F3.trans G4).trans G5⟩
      have w3 := W3.ow
      have w4 := W4.ow
      dsimp only at w3 w4
      have p3 := (wd_p room s3 g (t1 + t2) (S.tu + T.tu) none none).2.2.1
      have p4 := (wd_p room s3 g (t1 + t2) (S.tu + T.tu) (some mn) none).2.2.2.1
      have wl := wd_len room s3 g
      have ic := intsD_map sn
      rw [hmn] at lo1
      rw [hmx] at hi1
      refine if_tt (s1 := ⟨[some (.val (.obj w1)), some (.val (.obj w2)), some (.val (.obj w)), some (.val (.lst (sn.map D.int))), none, none, none], H3⟩) (by simp only [pln] at pl1; simp [pl1, ne]) ?_
      refine seq_nx (s1 := ⟨[some (.val (.obj w1)), some (.val (.obj w2)), some (.val (.obj w)), some (.val (.lst (sn.map D.int))), none, none, none], H4⟩) (by rw [hH4]; simp [w3, dKey, p3, wl, ic, lo1]) ?_
      rw [hH5]; simp [w4, dKey, p4, wl, ic, hi1]
  obtain ⟨H5, e5, W5, F5⟩ := lm
  -- the rows
  have nmax : max S.R.length T.R.length ≤ 60 := by omega
  have rl1 : ∀ i, (rowAt S.R i).length ≤ 4000 := fun i => by
    by_cases q : i < S.R.length
    · have := elems_ge (rowAt_mem q); omega
    · rw [rowAt_ge (by omega)]; simp
  have rl2 : ∀ i, (rowAt T.R i).length ≤ 4000 := fun i => by
    by_cases q : i < T.R.length
    · have := elems_ge (rowAt_mem q); omega
    · rw [rowAt_ge (by omega)]; simp
  obtain ⟨st', e6, y4, y5, y6, H6, rs6, rfl, W6, F6⟩ := range_inv (tg := tgN 5) (b := B_joined_0) (fun i st => ∃ y4 y5 y6 H6 rs6, st = ⟨[some (.val (.obj w1)), some (.val (.obj w2)), some (.val (.obj w)), some (.val (.lst (sn.map D.int))), y4, y5, y6], H6⟩ ∧
      Wd room ⟨pairJ S.R T.R i, S.ov + T.ov, S.un + T.un, S.tu + T.tu⟩ (t1 + t2) (minO l1 l2) (maxO m1 m2) w s3 g rs6 H6 ∧ Fw [] (w :: s3 :: g :: rs6) H H6) (max S.R.length T.R.length)
    (fun i st hi ⟨y4, y5, y6, H6, rs6, e, W6, F6⟩ => by
      subst e
      obtain ⟨A6, B6⟩ := mv F6
      have r1 := rl1 i
      have r2 := rl2 i
      have tA := turn_v A6 i [] (by simp; omega) (some (.val (.obj w1))) (some (.val (.obj w2))) (some (.val (.obj w))) (some (.val (.lst (sn.map D.int))))
      have tB := turn_v B6 i (rowAt S.R i) (by omega) (some (.val (.obj w1))) (some (.val (.obj w2))) (some (.val (.obj w))) (some (.val (.lst (sn.map D.int))))
      rw [List.nil_append] at tA
      have W7 := addX W6 (srt (rowAt S.R i ++ rowAt T.R i))
      dsimp only at W7
      rw [← pairJ_succ] at W7
      refine ⟨_, rfl, ⟨[some (.val (.obj w1)), some (.val (.obj w2)), some (.val (.obj w)), some (.val (.lst (sn.map D.int))), some (.val (.obj w2)), some (.val (.int (i : Nat))), some (.val (.lst ((rowAt S.R i ++ rowAt T.R i).map D.int)))], (H6 ++ [LO.cell (encL (srt (rowAt S.R i ++ rowAt T.R i)))]).set g (LO.cell (.lst ((rs6 ++ [H6.length]).map D.obj)))⟩, .inl ?_, _, _, _, _, _, rfl, W7, ?_⟩
      · have w6 := W6.ow
        have g6 := W6.og
        have l6 := W6.len
        have v6 := wd_v room s3 g (t1 + t2) (S.tu + T.tu) (minO l1 l2) (maxO m1 m2)
        dsimp only at w6 l6
        have pl : (pairJ S.R T.R i).length = i := by simp [pairJ]
        obtain ⟨row, hrow⟩ : ∃ row, row = rowAt S.R i ++ rowAt T.R i := ⟨_, rfl⟩
        rw [← hrow] at tB ⊢
        have rlen : row.length ≤ 16777216 := by rw [hrow, List.length_append]; omega
        have ic := intsD_map row
        have g7 : (H6 ++ [LO.cell (.lst ((srt row).map D.int))])[g]? = some (LO.cell (.lst (rs6.map D.obj))) := happ_lt g6 _
        unfold B_joined_0
        refine seq_nx (s1 := ⟨[some (.val (.obj w1)), some (.val (.obj w2)), some (.val (.obj w)), some (.val (.lst (sn.map D.int))), y4, some (.val (.int (i : Nat))), some (.val (.lst []))], H6⟩) (by simp) ?_
        refine seq_nx (s1 := ⟨[some (.val (.obj w1)), some (.val (.obj w2)), some (.val (.obj w)), some (.val (.lst (sn.map D.int))), some (.val (.obj w2)), some (.val (.int (i : Nat))), some (.val (.lst (row.map D.int)))], H6⟩) ?_ ?_
        · simp only [List.map_nil] at tA
          simp [turns, tA, tB]
        · unfold encL
          simp [w6, g6, v6, dKey, ic, rlen, g7, show rs6.length < 16777216 by omega]
      · exact F6.trans (Fw.mk2 _ _ (by simp) (W6.lt g (by simp)) (own_app _)))
    ⟨[some (.val (.obj w1)), some (.val (.obj w2)), some (.val (.obj w)), some (.val (.lst (sn.map D.int))), none, none, none], H5⟩ ⟨none, none, none, H5, [], rfl, W5, F5⟩
  rw [← join_pair S.R T.R so] at W6
  have je := joinL_elems T.R S.R 0 (by omega)
  have jl := joinL_len T.R S.R 0 (by omega)
  obtain ⟨H7, rs7, e7, W7, F7⟩ := rw_settle_v hm (S := joinR S T) W6 (by show elems (joinL S.R T.R 0) ≤ _; omega) (by show (joinL S.R T.R 0).length ≤ _; omega)
  refine ⟨w, s3, g, rs7, H7, ?_, W7, F6.trans F7⟩
  obtain ⟨A0, B0⟩ := mv F0
  obtain ⟨A1, B1⟩ := mv F1
  obtain ⟨A2, B2⟩ := mv F2
  obtain ⟨A3, B3⟩ := mv F3
  obtain ⟨A5, B5⟩ := mv F5
  have a00 := A.ow
  have a0 := A0.ow
  have b0 := B0.ow
  have a1 := A1.ow
  have b1 := B1.ow
  have a2 := A2.ow
  have b2 := B2.ow
  have a2s := A2.os
  have b2s := B2.os
  have a3 := A3.ow
  have b3 := B3.ow
  have a5 := A5.ow
  have b5 := B5.ow
  have a5g := A5.og
  have b5g := B5.og
  have al := A.len
  have bl := B.len
  have w0 := W0.ow
  have ww1 := W1.ow
  have ww2 := W2.ow
  dsimp only [rgZ] at w0 ww1 ww2
  have p0 := (wd_p room s g 0 0 none none).1
  have p1 := (wd_p room s g (t1 + t2) 0 none none).2.1
  have p2 := (wd_p room s g (t1 + t2) (S.tu + T.tu) none none).2.2.2.2
  have wl := wd_len room
  have at1 := at2 (.int S.ov) (.int S.un)
  have at2' := at2 (.int T.ov) (.int T.un)
  unfold F_joined
  rw [fn_s]
  have st0 : startS 7 [.val (.obj w1), .val (.obj w2)] = [some (.val (.obj w1)), some (.val (.obj w2)), none, none, none, none, none] := rfl
  rw [st0]
  refine (congrArg fin (?_ : _ = SRes.ret (.val (.obj w)) ⟨[some (.val (.obj w1)), some (.val (.obj w2)), some (.val (.obj w)), some (.val (.lst (sn.map D.int))), y4, y5, y6], H7⟩)).trans rfl
  refine seq_nx (s1 := ⟨[some (.val (.obj w1)), some (.val (.obj w2)), some (.val (.obj w)), none, none, none, none], H0⟩) (by rw [hH0, hw]; simp [a00, v1, dKey, en]) ?_
  refine seq_nx (s1 := ⟨[some (.val (.obj w1)), some (.val (.obj w2)), some (.val (.obj w)), none, none, none, none], H1⟩) (by rw [hH1]; simp [a0, b0, w0, v1, v2, dKey, p0, wl]) ?_
  refine seq_nx (s1 := ⟨[some (.val (.obj w1)), some (.val (.obj w2)), some (.val (.obj w)), none, none, none, none], H2⟩) (by rw [hH2]; simp [a1, b1, ww1, v1, v2, dKey, p1, wl]) ?_
  refine seq_nx (s1 := ⟨[some (.val (.obj w1)), some (.val (.obj w2)), some (.val (.obj w)), none, none, none, none], H3⟩) ?_ ?_
  · have w2' : (H2 ++ [LO.cell (.lst [.int (S.ov + T.ov), .int (S.un + T.un)])])[w]? = some (LO.cell (.dic (wdL room s g (t1 + t2) (S.tu + T.tu) none none))) := happ_lt ww2 _
    rw [hH3, hs3]
    simp [a2, b2, a2s, b2s, v1, v2, dKey, at1, at2', w2', p2, wl]
  refine seq_nx (s1 := ⟨[some (.val (.obj w1)), some (.val (.obj w2)), some (.val (.obj w)), some (.val (.lst (sn.map D.int))), none, none, none], H3⟩) ?_ ?_
  · have fl := some_list l1 m1 l2 m2
    rw [← hsn] at fl
    have lc : lcT [4] (tgN 4) (tst (eUn mNotN (cVar 4))) (eVar 4) [oD l1, oD m1, oD l2, oD m2] [] ⟨[some (.val (.obj w1)), some (.val (.obj w2)), some (.val (.obj w)), none, none, none, none], H3⟩ = .ok (sn.map D.int) ⟨[some (.val (.obj w1)), some (.val (.obj w2)), some (.val (.obj w)), none, none, none, none], H3⟩ := by
      rw [lcT_map _ (fun d => !d.isNon) id]
      · rw [fl]; simp
      · intro d _
        exact ⟨_, rfl, _, by simp; rfl, fun _ => ⟨_, by simp; rfl, rfl⟩, fun _ => rfl⟩
      · simp
    simp [a3, b3, v1, v2, dKey, lc]
  refine seq_nx e5 ?_
  refine seq_nx (s1 := ⟨[some (.val (.obj w1)), some (.val (.obj w2)), some (.val (.obj w)), some (.val (.lst (sn.map D.int))), y4, y5, y6], H6⟩) ?_ ?_
  · have mx : (if (S.R.length : Int) < (T.R.length : Int) then (T.R.length : Int) else (S.R.length : Int)) = ((max S.R.length T.R.length : Nat) : Int) := by split <;> omega
    have g9 : ((max S.R.length T.R.length : Nat) : Int) < 4611686018427387904 := by omega
    have mx2 : mMax (.int (S.R.length : Int)) (.int (T.R.length : Int)) ⟨[some (.val (.obj w1)), some (.val (.obj w2)), some (.val (.obj w)), some (.val (.lst (sn.map D.int))), none, none, none], H5⟩ = .ok (.int ((max S.R.length T.R.length : Nat) : Int)) ⟨[some (.val (.obj w1)), some (.val (.obj w2)), some (.val (.obj w)), some (.val (.lst (sn.map D.int))), none, none, none], H5⟩ := by
      rw [mMax_i, ← mx]
    generalize max S.R.length T.R.length = mxn at *
    simp [a5, b5, a5g, b5g, v1, v2, dKey, al, bl, mx2, e6, g9, -mMax_i]
  refine seq_nx (s1 := ⟨[some (.val (.obj w1)), some (.val (.obj w2)), some (.val (.obj w)), some (.val (.lst (sn.map D.int))), y4, y5, y6], H7⟩) (by simp [e7]) ?_
  simp
end
/-! ### a Rungs and the law's own -/
structure Pt where
  S : Rg
  t : Int
  l : Option Int
  m : Option Int
  k : Nat
  r : Nat
  w : Nat
  s : Nat
  g : Nat
  rs : List Nat
def Pt.own (p : Pt) : List Nat := p.r :: p.w :: p.s :: p.g :: p.rs
abbrev Pt.ok (room : Nat) (p : Pt) (h : List LO) : Prop := Pot room p.S p.t p.l p.m p.k p.r p.w p.s p.g p.rs h
section
variable {room : Nat} {p : Pt} {h h' : List LO} {own own' : List Nat}
theorem Pt.lt (P : p.ok room h) : ∀ j ∈ p.own, j < h.length := by
  intro j mj
  rcases List.mem_cons.mp mj with q | q
  · rw [q]; exact lt_some P.r
  · exact P.w.lt j q
theorem Pt.move (P : p.ok room h) (f : Fw own own' h h') (dj : ∀ j ∈ p.own, j ∉ own) : p.ok room h' :=
  ⟨P.i, P.w.other f fun j mj => dj j (List.mem_cons_of_mem _ mj), by rw [f.st p.r (lt_some P.r) (dj p.r (by simp [Pt.own]))]; exact P.r⟩
theorem Pt.add (P : p.ok room h) (r1 : room % 2 = 0) (r2 : 2 ≤ room) (r3 : room ≤ 64) (hk : p.k ≤ 100000) (x wt : Int) (w0 : 1 ≤ wt) (w1 : wt ≤ 1000000000000) :
    ∃ h1 h2 p', F_Rungs_add [.val (.obj p.r), .val (.int x), .val (.int wt)] h = .ret (.val .non) h1 ∧ F_rw_added [.val (.obj p.w), .val (.int x), .val (.int wt)] h1 = .ret (.val .non) h2 ∧ Pt.ok room p' h2 ∧ p'.r = p.r ∧ p'.w = p.w ∧ p'.k = p.k + 1 ∧ Fw p.own p'.own h h2 := by
  have I' := P.i.add r1 r2 hk x wt w0 w1
  have e1 := P.i.el r3
  have l1 := P.i.len
  have hn : ∀ j ∈ p.w :: p.s :: p.g :: p.rs, j ≠ p.r := by
    intro j mj e
    subst e
    have hr := P.r
    simp only [List.mem_cons] at mj
    rcases mj with q | q | q | mj
    · rw [q, P.w.ow] at hr; simp [rgO] at hr
    · rw [q, P.w.os] at hr; simp [rgO] at hr
    · rw [q, P.w.og] at hr; simp [rgO] at hr
    · obtain ⟨i, hi⟩ := List.getElem?_of_mem mj
      rw [P.w.rw i _ hi] at hr; simp [rgO] at hr
  have ea := rg_add_v p.r room (by omega) p.S p.t p.l p.m x wt h P.r w0 (by omega) (by omega) (by omega)
  obtain ⟨H1, hH1⟩ : ∃ K, K = h.set p.r (rgO room (addRg room p.S x wt) (p.t + wt) (loO p.l x) (hiO p.m x)) := ⟨_, rfl⟩
  rw [← hH1] at ea
  have F1 : Fw [p.r] [p.r] h H1 := by rw [hH1]; exact Fw.set _ _ _ (by simp)
  have W1 := P.w.other F1 fun j mj => by simp [hn j mj]
  have q1 : H1[p.r]? = some (rgO room (addRg room p.S x wt) (p.t + wt) (loO p.l x) (hiO p.m x)) := by rw [hH1]; exact hset P.r _
  obtain ⟨H2, rs2, e2, W2, F2⟩ := rw_add_v (by omega) x wt w0 (by omega) W1 P.i.lm (by omega) (by omega)
  have hrm : p.r ∉ p.w :: p.s :: p.g :: p.rs := fun mr => hn p.r mr rfl
  have q2 : H2[p.r]? = some (rgO room (addRg room p.S x wt) (p.t + wt) (loO p.l x) (hiO p.m x)) := by
    rw [F2.st p.r (lt_some q1) hrm]; exact q1
  refine ⟨H1, H2, ⟨addRg room p.S x wt, p.t + wt, loO p.l x, hiO p.m x, p.k + 1, p.r, p.w, p.s, p.g, rs2⟩, ea, e2, ⟨I', W2, q2⟩, rfl, rfl, rfl, ⟨Nat.le_trans F1.le F2.le, fun j lj mj => ?_, fun j mj => ?_⟩⟩
  · simp only [Pt.own, List.mem_cons, not_or] at mj
    rw [F2.st j (Nat.lt_of_lt_of_le lj F1.le) (by simp only [List.mem_cons, not_or]; exact mj.2), F1.st j lj (by simp [mj.1])]
  · rcases List.mem_cons.mp mj with q | q
    · exact .inl (by simp [Pt.own, q])
    · rcases F2.nw j q with q | q
      · exact .inl (List.mem_cons_of_mem _ q)
      · have := F1.le; exact .inr (by omega)
theorem core_v {A B : Pt} (hA : A.ok room h) (hB : B.ok room h) (r1 : room % 2 = 0) (r2 : 2 ≤ room) (r3 : room ≤ 64) (hk : A.k + B.k ≤ 100000) :
    ∃ h1 h2 M, F_poured_rungs [.val (.obj A.r), .val (.obj B.r)] h = .ret (.val (.obj M.r)) h1 ∧ F_joined [.val (.obj A.w), .val (.obj B.w)] h1 = .ret (.val (.obj M.w)) h2 ∧ Pt.ok room M h2 ∧ M.k = A.k + B.k ∧ Fw [] M.own h h2 := by
  have e1 := hA.i.el r3
  have e2 := hB.i.el r3
  have n1 := hA.i.len
  have n2 := hB.i.len
  obtain ⟨f1, o1⟩ := hA.i.ok
  obtain ⟨f2, o2⟩ := hB.i.ok
  have ep := rg_pour_v A.r B.r room (by omega) A.S B.S A.t B.t A.l A.m B.l B.m h hA.r hB.r (by omega) (by omega) (by omega) (by omega)
  obtain ⟨X, hX⟩ : ∃ X, X = rgO room (pourR room A.S B.S) (A.t + B.t) (minO A.l B.l) (maxO A.m B.m) := ⟨_, rfl⟩
  rw [← hX] at ep
  obtain ⟨w, s, g, rs, H2, ej, W, F⟩ := joined_v (hA.w.app [X]) (hB.w.app [X]) hA.i.lm hB.i.lm (by omega) o1.so (by omega) (by omega) n1 n2
  have jo := join_ok (P := fun _ => True) o1 o2 (fun _ _ => trivial) (fun _ _ => trivial)
  obtain ⟨so, sr, _⟩ := settle_ok r1 r2 jo
  have hS : pourR room A.S B.S = settleR room (joinR A.S B.S) := rfl
  rw [← hS] at so sr
  have ta0 := hA.i.t0
  have tb0 := hB.i.t0
  have ta1 := hA.i.t1
  have tb1 := hB.i.t1
  have hr2 : H2[h.length]? = some X := by
    rw [F.st h.length (by simp) (by simp)]; simp
  refine ⟨_, H2, ⟨pourR room A.S B.S, A.t + B.t, minO A.l B.l, maxO A.m B.m, A.k + B.k, h.length, w, s, g, rs⟩, ep, ej, ⟨⟨⟨_, so⟩, sr, by show 0 ≤ A.t + B.t; omega, by show A.t + B.t ≤ _; push_cast; omega, len60 so (by omega), LmOk.pour hA.i.lm hB.i.lm⟩, W, by rw [hr2, hX]⟩, rfl, ⟨?_, fun j lj mj => ?_, fun j mj => ?_⟩⟩
  · have := F.le; simp at this; omega
  · rw [F.st j (by simp; omega) (by simp)]
    exact List.getElem?_append_left lj
  · rcases List.mem_cons.mp mj with q | q
    · exact .inr (by rw [q]; exact Nat.le_refl _)
    · rcases F.nw j q with q | q
      · simp at q
      · simp at q; exact .inr (by omega)
theorem at2o (a b : Nat) : PL.atD [D.obj a, .obj b] 0 = some (.obj a) ∧ PL.atD [D.obj a, .obj b] 1 = some (.obj b) := ⟨rfl, rfl⟩
theorem poured_v {A B : Pt} (hA : A.ok room h) (hB : B.ok room h) (r1 : room % 2 = 0) (r2 : 2 ≤ room) (r3 : room ≤ 64) (ka : A.k ≤ 1000) (kb : B.k ≤ 1000) (c : Int) (hc : Builtin.Int.intBits (c / 7) ≤ 1048576) :
    ∃ h', F_poured [.val (.lst [.obj A.r, .obj B.r]), .val (.lst [.obj A.w, .obj B.w]), .val (.int c)] h = .ret (.val (.bl true)) h' ∧ Fw [] [] h h' := by
  have main : ∀ (C D : Pt) (i j : Int), C.ok room h → D.ok room h → C.k ≤ 1000 → D.k ≤ 1000 → PL.atD [PL.D.tup [.int 0, .int 1], .tup [.int 1, .int 0], .tup [.int 0, .int 0], .tup [.int 1, .int 1]] (c / 3 % 4) = some (.tup [.int i, .int j]) →
      PL.atD [PL.D.obj A.r, .obj B.r] i = some (.obj C.r) → PL.atD [PL.D.obj A.r, .obj B.r] j = some (.obj D.r) → PL.atD [PL.D.obj A.w, .obj B.w] i = some (.obj C.w) → PL.atD [PL.D.obj A.w, .obj B.w] j = some (.obj D.w) →
      ∃ h', F_poured [.val (.lst [.obj A.r, .obj B.r]), .val (.lst [.obj A.w, .obj B.w]), .val (.int c)] h = .ret (.val (.bl true)) h' ∧ Fw [] [] h h' := by
    intro C D i j hC hD kc kd e0 e1 e2 e3 e4
    obtain ⟨h1, h2, M, ep, ej, hM, mk, F⟩ := core_v hC hD r1 r2 r3 (by omega)
    have es1 := Pot.same hM r3
    obtain ⟨x, ex, x0, x1⟩ := rthing_v (c / 7) h2 hc
    obtain ⟨wt, ew, w0, w1⟩ := rweight_v (c / 7) h2
    obtain ⟨h3, h4, M', ea1, ea2, hM', er, ewq, _, F'⟩ := Pt.add hM r1 r2 r3 (by omega) x wt w0 w1
    have es2 := Pot.same hM' r3
    rw [er, ewq] at es2
    obtain ⟨fs, ho⟩ : ∃ fs, h2[M.r]? = some (.ins 9 fs) := ⟨_, hM.r⟩
    have G : Fw [] [] h h4 := ⟨Nat.le_trans F.le F'.le, fun q lq mq => by
      rw [F'.st q (Nat.lt_of_lt_of_le lq F.le) fun mm => by
        rcases F.nw q mm with z | z
        · simp at z
        · omega]
      exact F.st q lq mq, fun q mq => by simp at mq⟩
    have sA := Pot.same (Pt.move hA G (by simp)) r3
    have sB := Pot.same (Pt.move hB G (by simp)) r3
    have aA := at2o A.r B.r
    have aW := at2o A.w B.w
    refine ⟨h4, ?_, G⟩
    unfold F_poured
    simp [fn_s, e0, e1, e2, e3, e4, ep, ej, es1, ex, ew, ho, List.lookup, ea1, ea2, es2, aA, aW, sA, sB]
  have aA := at2o A.r B.r
  have aW := at2o A.w B.w
  have key : c / 3 % 4 = 0 ∨ c / 3 % 4 = 1 ∨ c / 3 % 4 = 2 ∨ c / 3 % 4 = 3 := by omega
  rcases key with q | q | q | q
  · exact main A B 0 1 hA hB ka kb (by rw [q]; rfl) aA.1 aA.2 aW.1 aW.2
  · exact main B A 1 0 hB hA kb ka (by rw [q]; rfl) aA.2 aA.1 aW.2 aW.1
  · exact main A A 0 0 hA hA ka ka (by rw [q]; rfl) aA.1 aA.1 aW.1 aW.1
  · exact main B B 1 1 hB hB kb kb (by rw [q]; rfl) aA.2 aA.2 aW.2 aW.2
end
theorem refused_v (a b room room2 : Nat) (S T : Rg) (t1 t2 : Int) (l1 m1 l2 m2 : Option Int) (h : List LO) (h1 : h[a]? = some (rgO room S t1 l1 m1)) (h2 : h[b]? = some (rgO room2 T t2 l2 m2)) (hn : room ≠ room2) : F_refused [.val (.obj a), .val (.obj b)] h = .ret (.val (.bl true)) h := by
  have lk := rg_lk
  have hn2 : deq (.int (room : Int)) (.int (room2 : Int)) = false := by simp [deq]; omega
  have e : F_poured_rungs [.val (.obj a), .val (.obj b)] h = .exc ⟨1, none⟩ h := by
    unfold rgO rgFs at h1 h2
    unfold F_poured_rungs
    simp [fn_s, h1, h2, lk, hn2]
  unfold F_refused
  simp [fn_s, e, List.lookup]
theorem firsts (ns : List Int) (hn : ∀ z ∈ ns, Builtin.Int.intBits z ≤ 1048576) : ∃ z0 z1 : Int, PL.cutD (ns.map D.int ++ [.int 0, .int 0]) none (some 2) = [.int z0, .int z1] ∧ Builtin.Int.intBits z1 ≤ 1048576 := by
  match ns, hn with
  | [], _ => exact ⟨0, 0, rfl, by decide⟩
  | [a], _ => exact ⟨a, 0, rfl, by decide⟩
  | a :: b :: r, hn =>
    refine ⟨a, b, ?_, hn b (by simp)⟩
    rw [cut_lo _ 2 2 rfl]; rfl
theorem bits_off {z d : Int} (h : Builtin.Int.intBits z ≤ 1048576) (d0 : 0 ≤ d) (d1 : d ≤ 9) : Builtin.Int.intBits ((z + d) / 7) ≤ 1048576 := by
  have h1 := lt_bits h
  refine bits_lt ?_
  have h3 : 100 ≤ (2 : Nat) ^ 1048576 := Nat.le_trans (show 100 ≤ 2 ^ 7 by decide) (Nat.pow_le_pow_right (by decide) (by decide))
  generalize (2 : Nat) ^ 1048576 = N at *
  omega
structure Iv (room room2 : Nat) (A B : Pt) (q : Nat) (h : List LO) (k kq : Nat) : Prop where
  a : A.ok room h
  b : B.ok room h
  dj : ∀ j ∈ A.own, j ∉ B.own
  ka : A.k ≤ k
  kb : B.k ≤ k
  st : ∃ S t l m, h[q]? = some (rgO room2 S t l m) ∧ RwI room2 S t l m kq
  qa : q ∉ A.own
  qb : q ∉ B.own
theorem law_true (ns : List Int) (hn : ns.length ≤ 63 ∧ ∀ z ∈ ns, Builtin.Int.intBits z ≤ 1048576) : ∃ h', F_law [.val (.lst (ns.map D.int))] [] = .ret (.val (.bl true)) h' := by
  obtain ⟨z0, z1, ef, hz1⟩ := firsts ns hn.2
  obtain ⟨room, er, r1, r2, r3⟩ := rroom_v z0 []
  have n1 := hn.1
  have az := at2 (.int z0) (.int z1)
  -- two of each
  have i0 := rg_init_v 0 room [.ins 9 []] rfl
  have i1 := rg_init_v 1 room [rgO room rgZ 0 none none, .ins 9 []] rfl
  simp only [List.set_cons_zero, List.set_cons_succ] at i0 i1
  obtain ⟨Ra, hRa⟩ : ∃ R, R = rgO room rgZ 0 none none := ⟨_, rfl⟩
  obtain ⟨g, en, hg⟩ := rw_new_v room [Ra, Ra]
  have hg : g = 3 := hg
  subst hg
  have W0 := wd_new room [Ra, Ra]
  obtain ⟨H1, hH1⟩ : ∃ H, H = [Ra, Ra, LO.cell (.lst [.int 0, .int 0]), LO.cell (.lst []), LO.cell (.dic (wdL room 2 3 0 0 none none))] := ⟨_, rfl⟩
  have W0 : Wd room rgZ 0 none none 4 2 3 [] H1 := by rw [hH1]; exact W0
  obtain ⟨g2, en2, hg2⟩ := rw_new_v room H1
  have hl1 : H1.length = 5 := by rw [hH1]; rfl
  rw [hl1] at en2 hg2
  subst hg2
  have W1 := wd_new room H1
  rw [hl1] at W1
  obtain ⟨H2, hH2⟩ : ∃ H, H = H1 ++ [LO.cell (.lst [.int 0, .int 0]), LO.cell (.lst []), LO.cell (.dic (wdL room 5 6 0 0 none none))] := ⟨_, rfl⟩
  have W1 : Wd room rgZ 0 none none 7 5 6 [] H2 := by rw [hH2]; exact W1
  have W0' : Wd room rgZ 0 none none 4 2 3 [] H2 := by rw [hH2]; exact W0.app _
  obtain ⟨A, hA⟩ : ∃ A : Pt, A = ⟨rgZ, 0, none, none, 0, 0, 4, 2, 3, []⟩ := ⟨_, rfl⟩
  obtain ⟨B, hB⟩ : ∃ B : Pt, B = ⟨rgZ, 0, none, none, 0, 1, 7, 5, 6, []⟩ := ⟨_, rfl⟩
  have oA : A.ok room H2 := by rw [hA]; exact ⟨RwI.zero room, W0', by rw [hH2, hH1, hRa]; rfl⟩
  have oB : B.ok room H2 := by rw [hB]; exact ⟨RwI.zero room, W1, by rw [hH2, hH1, hRa]; rfl⟩
  have hl2 : H2.length = 8 := by rw [hH2, hH1]; rfl
  obtain ⟨H3, ep, F3⟩ := poured_v oA oB r1 r2 r3 (by rw [hA]; decide) (by rw [hB]; decide) z1 (by have := bits_off hz1 (d := 0) (by decide) (by decide); rwa [Int.add_zero] at this)
  -- the strange one
  obtain ⟨room2, ix, c1, c2, c3, hne, hroom2⟩ : ∃ (room2 : Nat) (ix : Bool), room2 % 2 = 0 ∧ 2 ≤ room2 ∧ room2 ≤ 64 ∧ room ≠ room2 ∧ ix = ((decide ((2 : Int) < (room : Int)) && decide (z1 % 2 = 1)) || decide ((room : Int) = 64)) ∧ (if ix then ((room : Int) - 2) else ((room : Int) + 2)) = (room2 : Int) := by
    cases q : ((decide ((2 : Int) < (room : Int)) && decide (z1 % 2 = 1)) || decide ((room : Int) = 64)) with
    | true =>
      simp only [Bool.or_eq_true, Bool.and_eq_true, decide_eq_true_eq] at q
      exact ⟨room - 2, true, by omega, by omega, by omega, by omega, rfl, by simp; omega⟩
    | false =>
      simp only [Bool.or_eq_false_iff, Bool.and_eq_false_iff, decide_eq_false_iff_not] at q
      exact ⟨room + 2, false, by omega, by omega, by omega, by omega, rfl, by simp⟩
  obtain ⟨hix, hroom2⟩ := hroom2
  have i5 := rg_init_v H3.length room2 (H3 ++ [.ins 9 []]) (happ _ _)
  rw [hset_end] at i5
  obtain ⟨H4, hH4⟩ : ∃ H, H = H3 ++ [rgO room2 rgZ 0 none none] := ⟨_, rfl⟩
  rw [← hH4] at i5
  have F4 : Fw [] [] H2 H4 := F3.trans (by rw [hH4]; exact Fw.app _ _ _)
  obtain ⟨q, hq⟩ : ∃ q, q = H3.length := ⟨_, rfl⟩
  rw [← hq] at i5
  have q8 : 8 ≤ q := by have := F3.le; omega
  have I0 : Iv room room2 A B q H4 0 0 := by
    refine ⟨Pt.move oA F4 (by simp), Pt.move oB F4 (by simp), ?_, by rw [hA]; exact Nat.le_refl _, by rw [hB]; exact Nat.le_refl _, ⟨_, _, _, _, by rw [hH4, hq]; simp, RwI.zero room2⟩, ?_, ?_⟩
    · rw [hA, hB]; simp [Pt.own]
    · rw [hA]; simp [Pt.own]; omega
    · rw [hB]; simp [Pt.own]; omega
  have hAr : A.r = 0 ∧ A.w = 4 := by rw [hA]; exact ⟨rfl, rfl⟩
  have hBr : B.r = 1 ∧ B.w = 7 := by rw [hB]; exact ⟨rfl, rfl⟩
  obtain ⟨X0, hX0⟩ : ∃ X : Option FV, X = some (.val (.lst (ns.map D.int))) := ⟨_, rfl⟩
  obtain ⟨X1, hX1⟩ : ∃ X : Option FV, X = some (.val (.lst [.int z0, .int z1])) := ⟨_, rfl⟩
  have key : ∀ (cs : List Int) (k kq : Nat) (A B : Pt) (h : List LO) (x6 x7 x8 x9 : Option FV), (∀ z ∈ cs, Builtin.Int.intBits z ≤ 1048576) → k + cs.length ≤ 500 → kq ≤ k → Iv room room2 A B q h k kq →
      ∃ A' B' h' y6 y7 y8 y9 kq', turns (tgN 6) B_law_0 (cs.map D.int) ⟨[X0, X1, some (.val (.int (room : Nat))), some (.val (.lst [.obj A.r, .obj B.r])), some (.val (.lst [.obj A.w, .obj B.w])), some (.val (.obj q)), x6, x7, x8, x9], h⟩ =
        .nx ⟨[X0, X1, some (.val (.int (room : Nat))), some (.val (.lst [.obj A'.r, .obj B'.r])), some (.val (.lst [.obj A'.w, .obj B'.w])), some (.val (.obj q)), y6, y7, y8, y9], h'⟩ ∧ Iv room room2 A' B' q h' (k + cs.length) kq' := by
    intro cs
    induction cs with
    | nil => intro k kq A B h x6 x7 x8 x9 _ _ _ I; exact ⟨A, B, h, x6, x7, x8, x9, kq, rfl, I⟩
    | cons z cs ih =>
      intro k kq A B h x6 x7 x8 x9 hz hk hkq I
      rw [List.length_cons] at hk
      have m3 := fun h => mixed_v z 3 h (by decide) (by decide)
      have m4 := fun h => mixed_v z 4 h (by decide) (by decide)
      obtain ⟨x, ex, x0, x1⟩ := rthing_v z h (hz z (by simp))
      obtain ⟨wt, ew, w0, w1⟩ := rweight_v z h
      -- one of both goes on
      have go : ∃ (i : Int) (C D : Pt) (A' B' : Pt) (h1 h2 : List LO), mixV z 3 % 2 = i ∧ PL.atD [PL.D.obj A.r, .obj B.r] i = some (.obj C.r) ∧ PL.atD [PL.D.obj A.w, .obj B.w] i = some (.obj C.w) ∧ PL.atD [PL.D.obj A.r, .obj B.r] (1 - i) = some (.obj D.r) ∧
          F_Rungs_add [.val (.obj C.r), .val (.int x), .val (.int wt)] h = .ret (.val .non) h1 ∧ F_rw_added [.val (.obj C.w), .val (.int x), .val (.int wt)] h1 = .ret (.val .non) h2 ∧ Iv room room2 A' B' q h2 (k + 1) kq ∧
          A'.r = A.r ∧ A'.w = A.w ∧ B'.r = B.r ∧ B'.w = B.w ∧ (∃ fs, h[C.r]? = some (.ins 9 fs)) ∧ (∃ S t l m, h2[C.r]? = some (rgO room S t l m)) ∧ (∃ S t l m, h2[D.r]? = some (rgO room S t l m)) := by
        obtain ⟨S5, t5, l5, m5, q5, I5⟩ := I.st
        have key : mixV z 3 % 2 = 0 ∨ mixV z 3 % 2 = 1 := by omega
        rcases key with e | e
        · obtain ⟨h1, h2, A', e1, e2, oA', q1, q2, q3, F⟩ := Pt.add I.a r1 r2 r3 (by have := I.ka; omega) x wt w0 w1
          have oB' := Pt.move I.b F fun j mj mk => I.dj j mk mj
          refine ⟨0, A, B, A', B, h1, h2, e, rfl, rfl, rfl, e1, e2, ⟨oA', oB', fun j mj mk => ?_, by have := I.ka; omega, by have := I.kb; omega, ⟨S5, t5, l5, m5, ?_, I5⟩, fun mq => ?_, I.qb⟩, q1, q2, rfl, rfl, ⟨_, I.a.r⟩, ⟨_, _, _, _, by rw [← q1]; exact oA'.r⟩, ⟨_, _, _, _, oB'.r⟩⟩
          · rcases F.nw j mj with z | z
            · exact I.dj j z mk
            · have := Pt.lt I.b j mk; omega
          · rw [F.st q (lt_some q5) I.qa]; exact q5
          · rcases F.nw q mq with z | z
            · exact I.qa z
            · have := lt_some q5; omega
        · obtain ⟨h1, h2, B', e1, e2, oB', q1, q2, q3, F⟩ := Pt.add I.b r1 r2 r3 (by have := I.kb; omega) x wt w0 w1
          have oA' := Pt.move I.a F fun j mj mk => I.dj j mj mk
          refine ⟨1, B, A, A, B', h1, h2, e, rfl, rfl, rfl, e1, e2, ⟨oA', oB', fun j mj mk => ?_, by have := I.ka; omega, by have := I.kb; omega, ⟨S5, t5, l5, m5, ?_, I5⟩, I.qa, fun mq => ?_⟩, rfl, rfl, q1, q2, ⟨_, I.b.r⟩, ⟨_, _, _, _, by rw [← q1]; exact oB'.r⟩, ⟨_, _, _, _, oA'.r⟩⟩
          · rcases F.nw j mk with z | z
            · exact I.dj j mj z
            · have := Pt.lt I.a j mj; omega
          · rw [F.st q (lt_some q5) I.qb]; exact q5
          · rcases F.nw q mq with z | z
            · exact I.qb z
            · have := lt_some q5; omega
      obtain ⟨i, C, D, A', B', h1, h2, ei, c1', c2', c3', e1, e2, I', k1, k2, k3, k4, ⟨fs, ho⟩, ⟨Sc, tc, lc, mc, oc⟩, ⟨Sd, td, ld, md, od⟩⟩ := go
      by_cases c5 : mixV z 4 % 5 = 0
      · obtain ⟨S5, t5, l5, m5, q5, I5⟩ := I'.st
        have f1 := refused_v C.r q room room2 Sc S5 tc t5 lc mc l5 m5 h2 oc q5 hne
        have f2 := refused_v q D.r room2 room S5 Sd t5 td l5 m5 ld md h2 q5 od (Ne.symm hne)
        have el5 := I5.el c3
        have ln5 := I5.len
        have ea := rg_add_v q room2 (by omega) S5 t5 l5 m5 x wt h2 q5 w0 (by omega) (by omega) (by omega)
        obtain ⟨h3, hh3⟩ : ∃ K, K = h2.set q (rgO room2 (addRg room2 S5 x wt) (t5 + wt) (loO l5 x) (hiO m5 x)) := ⟨_, rfl⟩
        rw [← hh3] at ea
        have F5 : Fw [q] [q] h2 h3 := by rw [hh3]; exact Fw.set _ _ _ (by simp)
        have a3 := Pt.move I'.a F5 fun j mj mk => I'.qa (by rw [List.mem_singleton.mp mk] at mj; exact mj)
        have b3 := Pt.move I'.b F5 fun j mj mk => I'.qb (by rw [List.mem_singleton.mp mk] at mj; exact mj)
        obtain ⟨h4, ep4, F6⟩ := poured_v a3 b3 r1 r2 r3 (by have := I'.ka; omega) (by have := I'.kb; omega) z (by have := bits_off (hz z (by simp)) (d := 0) (by decide) (by decide); rwa [Int.add_zero] at this)
        have I5' := I5.add c1 c2 (by omega) x wt w0 w1
        have I6 : Iv room room2 A' B' q h4 (k + 1) (kq + 1) := by
          refine ⟨Pt.move a3 F6 (by simp), Pt.move b3 F6 (by simp), I'.dj, I'.ka, I'.kb, ?_, I'.qa, I'.qb⟩
          exact ⟨_, _, _, _, by rw [F6.st q (by rw [hh3]; simp; exact lt_some q5) (by simp), hh3]; exact hset q5 _, I5'⟩
        obtain ⟨A2, B2, h5, y6, y7, y8, y9, kq2, e5, I7⟩ := ih (k + 1) (kq + 1) A' B' h4 (some (.val (.int z))) (some (.val (.int i))) (some (.val (.int x))) (some (.val (.int wt))) (fun y m => hz y (by simp [m])) (by omega) (by omega) I6
        rw [k1, k2, k3, k4] at e5 ep4
        refine ⟨A2, B2, h5, y6, y7, y8, y9, kq2, turns_step rfl (.inl ?_) e5, by rw [List.length_cons, show k + (cs.length + 1) = k + 1 + cs.length by omega]; exact I7⟩
        obtain ⟨fs5, ho5⟩ : ∃ fs, h2[q]? = some (.ins 9 fs) := ⟨_, q5⟩
        unfold B_law_0
        simp [m3, ei, ex, ew, c1', c2', c3', ho, List.lookup, e1, e2, m4, c5, f1, f2, ho5, ea, ep4]
      · obtain ⟨A2, B2, h5, y6, y7, y8, y9, kq2, e5, I7⟩ := ih (k + 1) kq A' B' h2 (some (.val (.int z))) (some (.val (.int i))) (some (.val (.int x))) (some (.val (.int wt))) (fun y m => hz y (by simp [m])) (by omega) (by omega) I'
        rw [k1, k2, k3, k4] at e5
        refine ⟨A2, B2, h5, y6, y7, y8, y9, kq2, turns_step rfl (.inl ?_) e5, by rw [List.length_cons, show k + (cs.length + 1) = k + 1 + cs.length by omega]; exact I7⟩
        unfold B_law_0
        simp [m3, ei, ex, ew, c1', c2', ho, List.lookup, e1, e2, m4, c5]
  obtain ⟨A2, B2, H5, y6, y7, y8, y9, kq2, e5, I5⟩ := key (PL.cutD ns (some 2) (some 102)) 0 0 A B H4 none none none none (fun z m => hn.2 z (cutD_mem m)) (by have := cutD_len ns (some 2) (some 102); omega) (by omega) I0
  have cl := cutD_len ns (some 2) (some 102)
  obtain ⟨H6, ep6, F6⟩ := poured_v I5.a I5.b r1 r2 r3 (by have := I5.ka; omega) (by have := I5.kb; omega) (z1 + 6) (bits_off hz1 (by decide) (by decide))
  obtain ⟨H7, ep7, F7⟩ := poured_v (Pt.move I5.a F6 (by simp)) (Pt.move I5.b F6 (by simp)) r1 r2 r3 (by have := I5.ka; omega) (by have := I5.kb; omega) (z1 + 9) (bits_off hz1 (by decide) (by decide))
  refine ⟨H7, ?_⟩
  rw [hAr.1, hAr.2, hBr.1, hBr.2] at ep e5
  unfold F_law
  rw [fn_s]
  have st0 : startS 10 [.val (.lst (ns.map D.int))] = [some (.val (.lst (ns.map D.int))), none, none, none, none, none, none, none, none, none] := rfl
  rw [st0]
  refine (congrArg fin (?_ : _ = SRes.ret (.val (.bl true)) ⟨[some (.val (.lst (ns.map D.int))), some (.val (.lst [.int z0, .int z1])), some (.val (.int (room : Nat))), some (.val (.lst [.obj A2.r, .obj B2.r])), some (.val (.lst [.obj A2.w, .obj B2.w])), some (.val (.obj q)), y6, y7, y8, y9], H7⟩)).trans rfl
  rw [hX0, hX1] at e5
  refine seq_nx (s1 := ⟨[some (.val (.lst (ns.map D.int))), some (.val (.lst [.int z0, .int z1])), none, none, none, none, none, none, none, none], []⟩) (by simp [ef, show ns.length + 2 ≤ 16777216 by omega]) ?_
  refine seq_nx (s1 := ⟨[some (.val (.lst (ns.map D.int))), some (.val (.lst [.int z0, .int z1])), some (.val (.int (room : Nat))), none, none, none, none, none, none, none], []⟩) (by simp [az, er]) ?_
  refine seq_nx (s1 := ⟨[some (.val (.lst (ns.map D.int))), some (.val (.lst [.int z0, .int z1])), some (.val (.int (room : Nat))), some (.val (.lst [.obj 0, .obj 1])), none, none, none, none, none, none], [Ra, Ra]⟩) (by rw [hRa]; simp [i0, i1]) ?_
  refine seq_nx (s1 := ⟨[some (.val (.lst (ns.map D.int))), some (.val (.lst [.int z0, .int z1])), some (.val (.int (room : Nat))), some (.val (.lst [.obj 0, .obj 1])), some (.val (.lst [.obj 4, .obj 7])), none, none, none, none, none], H2⟩) ?_ ?_
  · have en' : F_rw_world [FV.val (D.int (room : Int))] [Ra, Ra] = .ret (.own (.dic (wdL room 2 3 0 0 none none))) [Ra, Ra, .cell (.lst [.int 0, .int 0]), .cell (.lst [])] := en
    simp [en', ← hH1, en2, hl1, ← hH2]
  refine seq_nx (s1 := ⟨[some (.val (.lst (ns.map D.int))), some (.val (.lst [.int z0, .int z1])), some (.val (.int (room : Nat))), some (.val (.lst [.obj 0, .obj 1])), some (.val (.lst [.obj 4, .obj 7])), none, none, none, none, none], H3⟩) (by simp [az, ep]) ?_
  refine seq_nx (s1 := ⟨[some (.val (.lst (ns.map D.int))), some (.val (.lst [.int z0, .int z1])), some (.val (.int (room : Nat))), some (.val (.lst [.obj 0, .obj 1])), some (.val (.lst [.obj 4, .obj 7])), some (.val (.obj q)), none, none, none, none], H4⟩) ?_ ?_
  · have ad := at2 (.int ((room : Int) + 2)) (.int ((room : Int) - 2))
    rw [hH4, hq]
    rw [hH4, hq] at i5
    by_cases a : (2 : Int) < (room : Int) <;> by_cases b : z1 % 2 = 1 <;> by_cases c : (room : Int) = 64
    all_goals
      simp only [a, b, c, decide_true, decide_false, Bool.and_true, Bool.and_false, Bool.true_and, Bool.false_and, Bool.or_true, Bool.or_false, Bool.true_or, Bool.false_or] at hix
      rw [hix] at hroom2
      simp only [if_true, Bool.false_eq_true, if_false] at hroom2
      rw [hroom2] at ad
      first
        | (simp [az, a, b, ad, hroom2, i5]; done)
        | (simp [az, a, b, c, ad, hroom2, i5]; done)
        | (rw [c] at hroom2 ad ⊢; have a66 := at2 (.int 66) (.int (room2 : Int)); simp [az, b, a66, hroom2, i5]; done)
  refine seq_nx (s1 := ⟨[some (.val (.lst (ns.map D.int))), some (.val (.lst [.int z0, .int z1])), some (.val (.int (room : Nat))), some (.val (.lst [.obj A2.r, .obj B2.r])), some (.val (.lst [.obj A2.w, .obj B2.w])), some (.val (.obj q)), y6, y7, y8, y9], H5⟩) (by simp [cutD_map, e5, show ns.length ≤ 16777215 by omega]) ?_
  simp [az, ep6, ep7]
end Gk11

namespace Gk11
open PySem PySem.Spec PyProof.Rows L2 PL
section
variable {K : PySem.W.Frag} {C0 C1 C2 C3 C4 C5 C9 : Addr} {P : Program} {w : World} {mg : Str → Option Value} {base : Heap}
theorem sc_settled_list : FnScope N_settled_list ["things", "greater"] (defScope s_settled_list) := ⟨rfl, rfl, rfl, by decide +kernel, rfl, by decide +kernel, by decide +kernel⟩
theorem ok_settled_list {f : Addr} {fd : FuncData} (Fu : Fun K "settled_list" "settled_list" s_settled_list f fd) (z_len : mg "len" = none) (z_range : mg "range" = none) : FnOk P w K mg base (L2.CX P w) 1 f fd ["things", "greater"] (spF (Gm K C0 C1 C2 C3 C4 C5 C9) 2 PX.F_settled_list) := by
  have nd := sc_settled_list.nd
  unfold PX.F_settled_list PX.B_settled_list_0
  refine def_ok Fu sc_settled_list rfl rfl fun cdv A outer s0 H X hr => ?_
  exact sts_cons (xset 2 nd (pd_div (PD.pv (pd_len rfl rfl z_len (cv 0))) (PD.pv (pd_int)))) <|
  sts_cons (xsetF 3 nd (pf_lst (pds_nil))) <|
  sts_cons (st_for (passes_of rfl) rfl (it_range1 rfl z_range (dv 2)) (tgn 4 nd) (sts_one (st_if (bval (cv 1)) (sts_one (xapp 3 rfl (dix rfl (vv 0) (PD.pv (pd_add rfl (PD.pv (pd_mul (PD.pv (pd_int)) (vv 4))) (PD.pv (pd_int))))))) (sts_one (xapp 3 rfl (dix rfl (vv 0) (PD.pv (pd_mul (PD.pv (pd_int)) (vv 4))))))))) <|
  sts_one (st_ret (pd_tup (pds_cons (PF.pd (pf_slc rfl (vv 0) (po_some' (pd_mul (PD.pv (pd_int)) (vv 2))) (po_none'))) (pds_cons (dv 3) (pds_nil)))))
theorem sc_settle_rungs : FnScope N_settle_rungs ["kept"] (defScope s_settle_rungs) := ⟨rfl, rfl, rfl, by decide +kernel, rfl, by decide +kernel, by decide +kernel⟩
theorem ok_settle_rungs {f : Addr} {fd : FuncData} (Fu : Fun K "settle_rungs" "settle_rungs" s_settle_rungs f fd) (z_len : mg "len" = none) (z_sorted : mg "sorted" = none) (fo_over : FldOk (Gm K C0 C1 C2 C3 C4 C5 C9) "over" [9]) (fo_turns : FldOk (Gm K C0 C1 C2 C3 C4 C5 C9) "turns" [9]) (fo_under : FldOk (Gm K C0 C1 C2 C3 C4 C5 C9) "under" [9]) (d_settled_list : DefF (Gm K C0 C1 C2 C3 C4 C5 C9) P w mg base 1 "settled_list" 2 PX.F_settled_list) : FnOk P w K mg base (L2.CX P w) 2 f fd ["kept"] (spF (Gm K C0 C1 C2 C3 C4 C5 C9) 1 PX.F_settle_rungs) := by
  have nd := sc_settle_rungs.nd
  unfold PX.F_settle_rungs PX.C_settle_rungs_0 PX.B_settle_rungs_0
  refine def_ok Fu sc_settle_rungs rfl rfl fun cdv A outer s0 H X hr => ?_
  exact sts_cons (xset 1 nd (pd_int)) <|
  sts_one (st_while (passes_of rfl) (bcmp op_lt holds_lt (vv 1) (PD.pv (pd_len rfl rfl z_len (pc_fld rfl (dv 0) rfl rfl)))) (sts_cons (st_if (pb_lendF 0 14 (bcmp op_gt holds_gt (PD.pv (pd_len rfl rfl z_len (PD.pc (dix rfl (pv_fld rfl (dv 0) rfl rfl) (vv 1))))) (pv_fld rfl (dv 0) rfl rfl))) (sts_cons (xset 2 nd (dcmp (op_eqD hr.units) (holds_eq rfl) (PD.pv (pd_mod (pv_fld rfl (dv 0) rfl rfl) (PD.pv (pd_int)))) (PD.pv (pd_int)))) <|
  sts_cons (st_unT rfl rfl (tgc 3 nd (tgc 4 nd (tg_nil))) (pd_lendF 0 14 (dcall d_settled_list rfl (takes_of rfl rfl rfl rfl) (hr.mono (by decide)) (args_cons (pa_val (dix rfl (pv_fld rfl (dv 0) rfl rfl) (vv 1))) (args_cons (lv 2) (args_nil))) (len_cons (len_cons (len_nil)))))) <|
  sts_cons (st_putF (i := 14) (j := 0) rfl rfl rfl (by first | exact Or.inl rfl | exact Or.inr (Or.inl rfl) | exact Or.inr (Or.inr rfl)) (dv 1) (dv 3)) <|
  sts_cons (st_if (bcmp (op_eqD hr.units) (holds_eq rfl) (PD.pv (pd_add rfl (vv 1) (PD.pv (pd_int)))) (PD.pv (pd_len rfl rfl z_len (pc_fld rfl (dv 0) rfl rfl)))) (sts_one (st_appF (i := 14) (j := 0) rfl rfl rfl (by first | exact Or.inl rfl | exact Or.inr (Or.inl rfl) | exact Or.inr (Or.inr rfl)) (PF.pd (pf_lst (pds_nil))))) (sts_nil)) <|
  sts_cons (st_putF (i := 14) (j := 0) rfl rfl rfl (by first | exact Or.inl rfl | exact Or.inr (Or.inl rfl) | exact Or.inr (Or.inr rfl)) (pd_add rfl (vv 1) (PD.pv (pd_int))) (pd_lendF 0 14 (PF.pd (pf_sortedX rfl rfl rfl z_sorted (PD.pc (pd_add rfl (PD.pv (dix rfl (pv_fld rfl (dv 0) rfl rfl) (PD.pv (pd_add rfl (vv 1) (PD.pv (pd_int)))))) (vv 4))))))) <|
  sts_cons (st_if (bval (cv 2)) (sts_one (st_fldAug rfl fo_under rfl (dv 0) iop_add holds_int0 (PD.pv (pd_shl (PD.pv (pd_int)) (vv 1))))) (sts_one (st_fldAug rfl fo_over rfl (dv 0) iop_add holds_int0 (PD.pv (pd_shl (PD.pv (pd_int)) (vv 1)))))) <|
  sts_one (st_fldAug rfl fo_turns rfl (dv 0) iop_add holds_int0 (PD.pv (pd_int)))) (sts_nil)) <|
  sts_one (xaug 1 nd iop_add holds_int0 (PD.pv (pd_int)))))
theorem sc_Rungs_init : FnScope N_Rungs_init ["self", "room"] (defScope s_Rungs_init) := ⟨rfl, rfl, rfl, by decide +kernel, rfl, by decide +kernel, by decide +kernel⟩
theorem ok_Rungs_init {f : Addr} {fd : FuncData} (Fu : Fun K "__init__" "Rungs.__init__" s_Rungs_init f fd) (fo_least : FldOk (Gm K C0 C1 C2 C3 C4 C5 C9) "least" [9]) (fo_most : FldOk (Gm K C0 C1 C2 C3 C4 C5 C9) "most" [9]) (fo_over : FldOk (Gm K C0 C1 C2 C3 C4 C5 C9) "over" [9]) (fo_room : FldOk (Gm K C0 C1 C2 C3 C4 C5 C9) "room" [6, 8, 9, 10, 12, 13]) (fo_rungs : FldOk (Gm K C0 C1 C2 C3 C4 C5 C9) "rungs" [9]) (fo_total : FldOk (Gm K C0 C1 C2 C3 C4 C5 C9) "total" [8, 9]) (fo_turns : FldOk (Gm K C0 C1 C2 C3 C4 C5 C9) "turns" [9]) (fo_under : FldOk (Gm K C0 C1 C2 C3 C4 C5 C9) "under" [9]) : FnOk P w K mg base (L2.CX P w) 1 f fd ["self", "room"] (spF (Gm K C0 C1 C2 C3 C4 C5 C9) 2 PX.F_Rungs_init) := by
  have nd := sc_Rungs_init.nd
  unfold PX.F_Rungs_init 
  refine def_ok Fu sc_Rungs_init rfl rfl fun cdv A outer s0 H X hr => ?_
  exact sts_cons (st_fld rfl fo_room rfl (dv 0) (dv 1)) <|
  sts_cons (st_fld rfl fo_total rfl (dv 0) (pd_int)) <|
  sts_cons (st_fld rfl fo_over rfl (dv 0) (pd_int)) <|
  sts_cons (st_fld rfl fo_under rfl (dv 0) (pd_int)) <|
  sts_cons (st_fld rfl fo_turns rfl (dv 0) (pd_int)) <|
  sts_cons (st_fld rfl fo_least rfl (dv 0) (pd_non)) <|
  sts_cons (st_fld rfl fo_most rfl (dv 0) (pd_non)) <|
  sts_one (st_fldF rfl fo_rungs rfl rfl (by first | exact Or.inl rfl | exact Or.inr (Or.inl rfl)) (pf_lst (pds_nil)))
theorem sc_Rungs_add : FnScope N_Rungs_add ["self", "thing", "weight"] (defScope s_Rungs_add) := ⟨rfl, rfl, rfl, by decide +kernel, rfl, by decide +kernel, by decide +kernel⟩
theorem ok_Rungs_add {f : Addr} {fd : FuncData} (Fu : Fun K "add" "Rungs.add" s_Rungs_add f fd) (z_len : mg "len" = none) (z_range : mg "range" = none) (z_sorted : mg "sorted" = none) (fo_least : FldOk (Gm K C0 C1 C2 C3 C4 C5 C9) "least" [9]) (fo_most : FldOk (Gm K C0 C1 C2 C3 C4 C5 C9) "most" [9]) (fo_total : FldOk (Gm K C0 C1 C2 C3 C4 C5 C9) "total" [8, 9]) (d_settle_rungs : DefF (Gm K C0 C1 C2 C3 C4 C5 C9) P w mg base 2 "settle_rungs" 1 PX.F_settle_rungs) : FnOk P w K mg base (L2.CX P w) 3 f fd ["self", "thing", "weight"] (spF (Gm K C0 C1 C2 C3 C4 C5 C9) 3 PX.F_Rungs_add) := by
  have nd := sc_Rungs_add.nd
  unfold PX.F_Rungs_add PX.B_Rungs_add_1 PX.C_Rungs_add_0 PX.B_Rungs_add_0
  refine def_ok Fu sc_Rungs_add rfl rfl fun cdv A outer s0 H X hr => ?_
  exact sts_cons (st_fldAug rfl fo_total rfl (dv 0) iop_add holds_int0 (PD.pv (dv 2))) <|
  sts_cons (st_if (PW.pb (pw_or' (pb_isN (pc_fld rfl (dv 0) rfl rfl)) (pw_or1' (bcmp op_lt holds_lt (vv 1) (pv_fld rfl (dv 0) rfl rfl))))) (sts_one (st_fld rfl fo_least rfl (dv 0) (dv 1))) (sts_nil)) <|
  sts_cons (st_if (PW.pb (pw_or' (pb_isN (pc_fld rfl (dv 0) rfl rfl)) (pw_or1' (bcmp op_gt holds_gt (vv 1) (pv_fld rfl (dv 0) rfl rfl))))) (sts_one (st_fld rfl fo_most rfl (dv 0) (dv 1))) (sts_nil)) <|
  sts_cons (st_while (passes_of rfl) (bcmp op_lt holds_lt (PD.pv (pd_len rfl rfl z_len (pc_fld rfl (dv 0) rfl rfl))) (PD.pv (pd_bits (cv 2)))) (sts_one (st_appF (i := 14) (j := 0) rfl rfl rfl (by first | exact Or.inl rfl | exact Or.inr (Or.inl rfl) | exact Or.inr (Or.inr rfl)) (PF.pd (pf_lst (pds_nil)))))) <|
  sts_cons (st_for (passes_of rfl) rfl (it_range1 rfl z_range (pd_bits (cv 2))) (tgn 3 nd) (sts_one (st_if (bcmp (op_eqD hr.units) (holds_eq rfl) (PD.pv (pd_bitand (PD.pv (pd_shr (vv 2) (vv 3))) (PD.pv (pd_int)))) (PD.pv (pd_int))) (sts_one (st_putF (i := 14) (j := 0) rfl rfl rfl (by first | exact Or.inl rfl | exact Or.inr (Or.inl rfl) | exact Or.inr (Or.inr rfl)) (dv 3) (pd_lendF 0 14 (PF.pd (pf_sortedX rfl rfl rfl z_sorted (PD.pc (pd_add rfl (PD.pv (dix rfl (pv_fld rfl (dv 0) rfl rfl) (vv 3))) (PD.pv (PF.pd (pf_lst (pds_cons (dv 1) (pds_nil)))))))))))) (sts_nil)))) <|
  sts_one (st_ex (dcall d_settle_rungs rfl (takes_of rfl rfl rfl rfl) (hr.mono (by decide)) (args_cons (lv 0) (args_nil)) (len_cons (len_nil))))
theorem sc_lesser_of : FnScope N_lesser_of ["one", "other"] (defScope s_lesser_of) := ⟨rfl, rfl, rfl, by decide +kernel, rfl, by decide +kernel, by decide +kernel⟩
theorem ok_lesser_of {f : Addr} {fd : FuncData} (Fu : Fun K "lesser_of" "lesser_of" s_lesser_of f fd) : FnOk P w K mg base (L2.CX P w) 1 f fd ["one", "other"] (spF (Gm K C0 C1 C2 C3 C4 C5 C9) 2 PX.F_lesser_of) := by
  have nd := sc_lesser_of.nd
  unfold PX.F_lesser_of 
  refine def_ok Fu sc_lesser_of rfl rfl fun cdv A outer s0 H X hr => ?_
  exact sts_cons (st_if (PW.pb (pw_or' (pb_isN (cv 0)) (pw_or1' (PW.pb (pw_and' (pb_notN (cv 1)) (pw_and1' (bcmp op_lt holds_lt (vv 1) (vv 0)))))))) (sts_one (st_ret (dv 1))) (sts_nil)) <|
  sts_one (st_ret (dv 0))
theorem sc_greater_of : FnScope N_greater_of ["one", "other"] (defScope s_greater_of) := ⟨rfl, rfl, rfl, by decide +kernel, rfl, by decide +kernel, by decide +kernel⟩
theorem ok_greater_of {f : Addr} {fd : FuncData} (Fu : Fun K "greater_of" "greater_of" s_greater_of f fd) : FnOk P w K mg base (L2.CX P w) 1 f fd ["one", "other"] (spF (Gm K C0 C1 C2 C3 C4 C5 C9) 2 PX.F_greater_of) := by
  have nd := sc_greater_of.nd
  unfold PX.F_greater_of 
  refine def_ok Fu sc_greater_of rfl rfl fun cdv A outer s0 H X hr => ?_
  exact sts_cons (st_if (PW.pb (pw_or' (pb_isN (cv 0)) (pw_or1' (PW.pb (pw_and' (pb_notN (cv 1)) (pw_and1' (bcmp op_gt holds_gt (vv 1) (vv 0)))))))) (sts_one (st_ret (dv 1))) (sts_nil)) <|
  sts_one (st_ret (dv 0))
theorem sc_poured_rungs : FnScope N_poured_rungs ["one", "other"] (defScope s_poured_rungs) := ⟨rfl, rfl, rfl, by decide +kernel, rfl, by decide +kernel, by decide +kernel⟩
theorem ok_poured_rungs {f : Addr} {fd : FuncData} (Fu : Fun K "poured_rungs" "poured_rungs" s_poured_rungs f fd) (z_enumerate : mg "enumerate" = none) (z_len : mg "len" = none) (z_list : mg "list" = none) (z_sorted : mg "sorted" = none) (fo_least : FldOk (Gm K C0 C1 C2 C3 C4 C5 C9) "least" [9]) (fo_most : FldOk (Gm K C0 C1 C2 C3 C4 C5 C9) "most" [9]) (fo_over : FldOk (Gm K C0 C1 C2 C3 C4 C5 C9) "over" [9]) (fo_total : FldOk (Gm K C0 C1 C2 C3 C4 C5 C9) "total" [8, 9]) (fo_turns : FldOk (Gm K C0 C1 C2 C3 C4 C5 C9) "turns" [9]) (fo_under : FldOk (Gm K C0 C1 C2 C3 C4 C5 C9) "under" [9]) (x_Unlike : EDef (Gm K C0 C1 C2 C3 C4 C5 C9) mg "Unlike" 1) (d_greater_of : DefF (Gm K C0 C1 C2 C3 C4 C5 C9) P w mg base 1 "greater_of" 2 PX.F_greater_of) (d_lesser_of : DefF (Gm K C0 C1 C2 C3 C4 C5 C9) P w mg base 1 "lesser_of" 2 PX.F_lesser_of) (d_settle_rungs : DefF (Gm K C0 C1 C2 C3 C4 C5 C9) P w mg base 2 "settle_rungs" 1 PX.F_settle_rungs) (y_Rungs : CDef (Gm K C0 C1 C2 C3 C4 C5 C9) P w mg base 1 "Rungs" 9 2 PX.F_Rungs_init) : FnOk P w K mg base (L2.CX P w) 3 f fd ["one", "other"] (spF (Gm K C0 C1 C2 C3 C4 C5 C9) 2 PX.F_poured_rungs) := by
  have nd := sc_poured_rungs.nd
  unfold PX.F_poured_rungs PX.B_poured_rungs_1 PX.B_poured_rungs_0
  refine def_ok Fu sc_poured_rungs rfl rfl fun cdv A outer s0 H X hr => ?_
  exact sts_cons (st_if (bcmp (op_neD hr.units) (holds_ne rfl) (pv_fld rfl (dv 0) rfl rfl) (pv_fld rfl (dv 1) rfl rfl)) (sts_one (st_raise x_Unlike rfl rfl (takes_of rfl rfl rfl rfl))) (sts_nil)) <|
  sts_cons (xset 2 nd (dmake y_Rungs rfl (takes_of rfl rfl rfl rfl) (hr.mono (by decide)) (args_cons (pa_fld rfl (dv 0) rfl rfl) (args_nil)))) <|
  sts_cons (st_fld rfl fo_total rfl (dv 2) (pd_add rfl (pv_fld rfl (dv 0) rfl rfl) (pv_fld rfl (dv 1) rfl rfl))) <|
  sts_cons (st_fld rfl fo_over rfl (dv 2) (pd_add rfl (pv_fld rfl (dv 0) rfl rfl) (pv_fld rfl (dv 1) rfl rfl))) <|
  sts_cons (st_fld rfl fo_under rfl (dv 2) (pd_add rfl (pv_fld rfl (dv 0) rfl rfl) (pv_fld rfl (dv 1) rfl rfl))) <|
  sts_cons (st_fld rfl fo_turns rfl (dv 2) (pd_add rfl (pv_fld rfl (dv 0) rfl rfl) (pv_fld rfl (dv 1) rfl rfl))) <|
  sts_cons (st_fld rfl fo_least rfl (dv 2) (dcall d_lesser_of rfl (takes_of rfl rfl rfl rfl) (hr.mono (by decide)) (args_cons (pa_fld rfl (dv 0) rfl rfl) (args_cons (pa_fld rfl (dv 1) rfl rfl) (args_nil))) (len_cons (len_cons (len_nil))))) <|
  sts_cons (st_fld rfl fo_most rfl (dv 2) (dcall d_greater_of rfl (takes_of rfl rfl rfl rfl) (hr.mono (by decide)) (args_cons (pa_fld rfl (dv 0) rfl rfl) (args_cons (pa_fld rfl (dv 1) rfl rfl) (args_nil))) (len_cons (len_cons (len_nil))))) <|
  sts_cons (st_lendF 0 14 (st_for (passes_of rfl) rfl (it_list rfl (pv_fld rfl (dv 0) rfl rfl)) (tgn 3 nd) (sts_one (st_appF (i := 14) (j := 2) rfl rfl rfl (by first | exact Or.inl rfl | exact Or.inr (Or.inl rfl) | exact Or.inr (Or.inr rfl)) (PF.pd (pf_list rfl rfl z_list (cv 3))))))) <|
  sts_cons (st_lendF 1 14 (st_for (passes_of rfl) rfl (it_enum rfl rfl z_enumerate (pv_fld rfl (dv 1) rfl rfl)) (tar_tup rfl rfl (tgc 4 nd (tgc 3 nd (tg_nil)))) (sts_cons (st_if (bcmp (op_eqD hr.units) (holds_eq rfl) (vv 4) (PD.pv (pd_len rfl rfl z_len (pc_fld rfl (dv 2) rfl rfl)))) (sts_one (st_appF (i := 14) (j := 2) rfl rfl rfl (by first | exact Or.inl rfl | exact Or.inr (Or.inl rfl) | exact Or.inr (Or.inr rfl)) (PF.pd (pf_lst (pds_nil))))) (sts_nil)) <|
  sts_one (st_putF (i := 14) (j := 2) rfl rfl rfl (by first | exact Or.inl rfl | exact Or.inr (Or.inl rfl) | exact Or.inr (Or.inr rfl)) (dv 4) (pd_lendF 2 14 (PF.pd (pf_sortedX rfl rfl rfl z_sorted (PD.pc (pd_add rfl (PD.pv (dix rfl (pv_fld rfl (dv 2) rfl rfl) (vv 4))) (vv 3)))))))))) <|
  sts_cons (st_ex (dcall d_settle_rungs rfl (takes_of rfl rfl rfl rfl) (hr.mono (by decide)) (args_cons (lv 2) (args_nil)) (len_cons (len_nil)))) <|
  sts_one (st_ret (dv 2))
theorem sc_mixed : FnScope N_mixed ["_law_cell", "_law_k"] (defScope s_mixed) := ⟨rfl, rfl, rfl, by decide +kernel, rfl, by decide +kernel, by decide +kernel⟩
theorem ok_mixed {f : Addr} {fd : FuncData} (Fu : Fun K "_law_mixed" "_law_mixed" s_mixed f fd) : FnOk P w K mg base (L2.CX P w) 1 f fd ["_law_cell", "_law_k"] (spF (Gm K C0 C1 C2 C3 C4 C5 C9) 2 PX.F_mixed) := by
  have nd := sc_mixed.nd
  unfold PX.F_mixed 
  refine def_ok Fu sc_mixed rfl rfl fun cdv A outer s0 H X hr => ?_
  exact sts_cons (xset 2 nd (pd_mod (PD.pv (pd_mul (PD.pv (pd_add rfl (PD.pv (pd_add rfl (PD.pv (pd_mod (vv 0) (PD.pv (pd_int)))) (PD.pv (pd_mul (PD.pv (pd_int)) (vv 1))))) (PD.pv (pd_int)))) (PD.pv (pd_int)))) (PD.pv (pd_int)))) <|
  sts_one (st_ret (pd_mod (PD.pv (pd_mul (vv 2) (vv 2))) (PD.pv (pd_int))))
theorem sc_whole : FnScope N_whole ["_law_found"] (defScope s_whole) := ⟨rfl, rfl, rfl, by decide +kernel, rfl, by decide +kernel, by decide +kernel⟩
theorem ok_whole {f : Addr} {fd : FuncData} (Fu : Fun K "_law_whole" "_law_whole" s_whole f fd) (z_bool : mg "bool" = none) (z_int : mg "int" = none) (z_isinstance : mg "isinstance" = none) : FnOk P w K mg base (L2.CX P w) 1 f fd ["_law_found"] (spF (Gm K C0 C1 C2 C3 C4 C5 C9) 1 PX.F_whole) := by
  have nd := sc_whole.nd
  unfold PX.F_whole 
  refine def_ok Fu sc_whole rfl rfl fun cdv A outer s0 H X hr => ?_
  exact sts_one (st_ret (pd_and (pd_isi (u := .int) rfl rfl z_isinstance rfl z_int (by decide +kernel) (cv 0)) (pd_one (pd_not (pd_isi (u := .bool) rfl rfl z_isinstance rfl z_bool (by decide +kernel) (cv 0))))))
theorem sc_is : FnScope N_is ["_law_found", "_law_due"] (defScope s_is) := ⟨rfl, rfl, rfl, by decide +kernel, rfl, by decide +kernel, by decide +kernel⟩
theorem ok_is {f : Addr} {fd : FuncData} (Fu : Fun K "_law_is" "_law_is" s_is f fd) (d_whole : DefF (Gm K C0 C1 C2 C3 C4 C5 C9) P w mg base 1 "_law_whole" 1 PX.F_whole) : FnOk P w K mg base (L2.CX P w) 2 f fd ["_law_found", "_law_due"] (spF (Gm K C0 C1 C2 C3 C4 C5 C9) 2 PX.F_rw_is) := by
  have nd := sc_is.nd
  unfold PX.F_rw_is 
  refine def_ok Fu sc_is rfl rfl fun cdv A outer s0 H X hr => ?_
  exact sts_one (st_ret (pd_and (dcall d_whole rfl (takes_of rfl rfl rfl rfl) (hr.mono (by decide)) (args_cons (lv 0) (args_nil)) (len_cons (len_nil))) (pd_one (dcmp (op_eqD hr.units) (holds_eq rfl) (vv 0) (vv 1)))))
theorem sc_thing : FnScope N_thing ["_law_cell"] (defScope s_thing) := ⟨rfl, rfl, rfl, by decide +kernel, rfl, by decide +kernel, by decide +kernel⟩
theorem ok_thing {f : Addr} {fd : FuncData} (Fu : Fun K "_law_thing" "_law_thing" s_thing f fd) : FnOk P w K mg base (L2.CX P w) 1 f fd ["_law_cell"] (spF (Gm K C0 C1 C2 C3 C4 C5 C9) 1 PX.F_thing) := by
  have nd := sc_thing.nd
  unfold PX.F_thing 
  refine def_ok Fu sc_thing rfl rfl fun cdv A outer s0 H X hr => ?_
  exact sts_cons (xset 1 nd (pd_mod (vv 0) (PD.pv (pd_int)))) <|
  sts_cons (st_if (PW.pb (pw_or' (bcmp (op_eqD hr.units) (holds_eq rfl) (vv 1) (PD.pv (pd_int))) (pw_or1' (bcmp (op_eqD hr.units) (holds_eq rfl) (vv 1) (PD.pv (pd_int)))))) (sts_one (st_ret (pd_mod (PD.pv (pd_div (vv 0) (PD.pv (pd_int)))) (PD.pv (pd_int))))) (sts_nil)) <|
  sts_cons (st_if (bcmp (op_eqD hr.units) (holds_eq rfl) (vv 1) (PD.pv (pd_int))) (sts_one (st_ret (pd_mod (PD.pv (pd_div (vv 0) (PD.pv (pd_int)))) (PD.pv (pd_int))))) (sts_nil)) <|
  sts_cons (st_if (bcmp (op_eqD hr.units) (holds_eq rfl) (vv 1) (PD.pv (pd_int))) (sts_one (st_ret (pd_sub (PD.pv (pd_int)) (PD.pv (pd_mod (PD.pv (pd_div (vv 0) (PD.pv (pd_int)))) (PD.pv (pd_int))))))) (sts_nil)) <|
  sts_one (st_ret (pd_mod (PD.pv (pd_mul (PD.pv (pd_div (vv 0) (PD.pv (pd_int)))) (PD.pv (pd_int)))) (PD.pv (pd_int))))
theorem sc_weight : FnScope N_weight ["_law_cell"] (defScope s_weight) := ⟨rfl, rfl, rfl, by decide +kernel, rfl, by decide +kernel, by decide +kernel⟩
theorem ok_weight {f : Addr} {fd : FuncData} (Fu : Fun K "_law_weight" "_law_weight" s_weight f fd) (d_mixed : DefF (Gm K C0 C1 C2 C3 C4 C5 C9) P w mg base 1 "_law_mixed" 2 PX.F_mixed) : FnOk P w K mg base (L2.CX P w) 2 f fd ["_law_cell"] (spF (Gm K C0 C1 C2 C3 C4 C5 C9) 1 PX.F_weight) := by
  have nd := sc_weight.nd
  unfold PX.F_weight 
  refine def_ok Fu sc_weight rfl rfl fun cdv A outer s0 H X hr => ?_
  exact sts_cons (xset 1 nd (dcall d_mixed rfl (takes_of rfl rfl rfl rfl) (hr.mono (by decide)) (args_cons (lv 0) (args_cons (pa_val (pd_int)) (args_nil))) (len_cons (len_cons (len_nil))))) <|
  sts_cons (st_if (bcmp (op_eqD hr.units) (holds_eq rfl) (PD.pv (pd_mod (vv 1) (PD.pv (pd_int)))) (PD.pv (pd_int))) (sts_one (st_ret (pd_int))) (sts_nil)) <|
  sts_cons (st_if (bcmp (op_eqD hr.units) (holds_eq rfl) (PD.pv (pd_mod (vv 1) (PD.pv (pd_int)))) (PD.pv (pd_int))) (sts_one (st_ret (pd_add rfl (PD.pv (pd_int)) (PD.pv (pd_mod (PD.pv (pd_div (vv 1) (PD.pv (pd_int)))) (PD.pv (pd_int))))))) (sts_nil)) <|
  sts_cons (st_if (bcmp (op_eqD hr.units) (holds_eq rfl) (PD.pv (pd_mod (vv 1) (PD.pv (pd_int)))) (PD.pv (pd_int))) (sts_one (st_ret (pd_shl (PD.pv (pd_int)) (PD.pv (pd_mod (PD.pv (pd_div (vv 1) (PD.pv (pd_int)))) (PD.pv (pd_int))))))) (sts_nil)) <|
  sts_one (st_ret (pd_add rfl (PD.pv (pd_int)) (PD.pv (pd_mod (PD.pv (pd_add rfl (PD.pv (pd_mod (vv 0) (PD.pv (pd_pow (PD.pv (pd_int)) (PD.pv (pd_int)))))) (PD.pv (pd_mul (vv 1) (PD.pv (pd_int)))))) (PD.pv (pd_pow (PD.pv (pd_int)) (PD.pv (pd_int))))))))
theorem sc_room : FnScope N_room ["_law_cell"] (defScope s_room) := ⟨rfl, rfl, rfl, by decide +kernel, rfl, by decide +kernel, by decide +kernel⟩
theorem ok_room {f : Addr} {fd : FuncData} (Fu : Fun K "_law_room" "_law_room" s_room f fd) : FnOk P w K mg base (L2.CX P w) 1 f fd ["_law_cell"] (spF (Gm K C0 C1 C2 C3 C4 C5 C9) 1 PX.F_room) := by
  have nd := sc_room.nd
  unfold PX.F_room 
  refine def_ok Fu sc_room rfl rfl fun cdv A outer s0 H X hr => ?_
  exact sts_cons (st_if (bcmp (op_eqD hr.units) (holds_eq rfl) (PD.pv (pd_mod (vv 0) (PD.pv (pd_int)))) (PD.pv (pd_int))) (sts_one (st_ret (pd_add rfl (PD.pv (pd_int)) (PD.pv (pd_mul (PD.pv (pd_int)) (PD.pv (pd_mod (PD.pv (pd_div (vv 0) (PD.pv (pd_int)))) (PD.pv (pd_int))))))))) (sts_nil)) <|
  sts_one (st_ret (dix rfl (PD.pv (PF.pd (pf_lst (pds_cons (pd_int) (pds_cons (pd_int) (pds_cons (pd_int) (pds_cons (pd_int) (pds_cons (pd_int) (pds_cons (pd_int) (pds_cons (pd_int) (pds_cons (pd_int) (pds_nil)))))))))))) (PD.pv (pd_mod (vv 0) (PD.pv (pd_int))))))
theorem sc_lists : FnScope N_lists ["_law_found", "_law_due"] (defScope s_lists) := ⟨rfl, rfl, rfl, by decide +kernel, rfl, by decide +kernel, by decide +kernel⟩
theorem ok_lists {f : Addr} {fd : FuncData} (Fu : Fun K "_law_lists" "_law_lists" s_lists f fd) (z_isinstance : mg "isinstance" = none) (z_len : mg "len" = none) (z_list : mg "list" = none) (z_range : mg "range" = none) (d_is : DefF (Gm K C0 C1 C2 C3 C4 C5 C9) P w mg base 2 "_law_is" 2 PX.F_rw_is) : FnOk P w K mg base (L2.CX P w) 3 f fd ["_law_found", "_law_due"] (spF (Gm K C0 C1 C2 C3 C4 C5 C9) 2 PX.F_rw_lists) := by
  have nd := sc_lists.nd
  unfold PX.F_rw_lists PX.B_rw_lists_0 PX.B_rw_lists_1
  refine def_ok Fu sc_lists rfl rfl fun cdv A outer s0 H X hr => ?_
  exact sts_cons (st_if (PW.pb (pw_or' (pb_not (bval (PD.pc (pd_isi (u := .list) rfl rfl z_isinstance rfl z_list (by decide +kernel) (cv 0))))) (pw_or1' (bcmp (op_neD hr.units) (holds_ne rfl) (PD.pv (pd_len rfl rfl z_len (cv 0))) (PD.pv (pd_len rfl rfl z_len (pc_dr (cv 1)))))))) (sts_one (st_ret (pd_bl))) (sts_nil)) <|
  sts_cons (st_for (passes_of rfl) rfl (it_range1 rfl z_range (pd_len rfl rfl z_len (pc_dr (cv 1)))) (tgn 2 nd) (sts_cons (st_if (PW.pb (pw_or' (pb_not (bval (PD.pc (pd_isi (u := .list) rfl rfl z_isinstance rfl z_list (by decide +kernel) (PD.pc (dix rfl (vv 0) (vv 2))))))) (pw_or1' (bcmp (op_neD hr.units) (holds_ne rfl) (PD.pv (pd_len rfl rfl z_len (PD.pc (dix rfl (vv 0) (vv 2))))) (PD.pv (pd_len rfl rfl z_len (pc_dr (PD.pc (pd_ixC rfl (vv 1) (vv 2)))))))))) (sts_one (st_ret (pd_bl))) (sts_nil)) <|
  sts_one (st_for (passes_of rfl) rfl (it_range1 rfl z_range (pd_len rfl rfl z_len (pc_dr (PD.pc (pd_ixC rfl (vv 1) (vv 2)))))) (tgn 3 nd) (sts_one (st_if (pb_not (bval (PD.pc (dcall d_is rfl (takes_of rfl rfl rfl rfl) (hr.mono (by decide)) (args_cons (pa_val (dix rfl (PD.pv (dix rfl (vv 0) (vv 2))) (vv 3))) (args_cons (pa_val (pd_ixC rfl (PD.pv (pd_ixC rfl (vv 1) (vv 2))) (vv 3))) (args_nil))) (len_cons (len_cons (len_nil))))))) (sts_one (st_ret (pd_bl))) (sts_nil)))))) <|
  sts_one (st_ret (pd_bl))
theorem sc_maybe : FnScope N_maybe ["_law_found", "_law_due"] (defScope s_maybe) := ⟨rfl, rfl, rfl, by decide +kernel, rfl, by decide +kernel, by decide +kernel⟩
theorem ok_maybe {f : Addr} {fd : FuncData} (Fu : Fun K "_law_maybe" "_law_maybe" s_maybe f fd) (d_is : DefF (Gm K C0 C1 C2 C3 C4 C5 C9) P w mg base 2 "_law_is" 2 PX.F_rw_is) : FnOk P w K mg base (L2.CX P w) 3 f fd ["_law_found", "_law_due"] (spF (Gm K C0 C1 C2 C3 C4 C5 C9) 2 PX.F_rw_maybe) := by
  have nd := sc_maybe.nd
  unfold PX.F_rw_maybe 
  refine def_ok Fu sc_maybe rfl rfl fun cdv A outer s0 H X hr => ?_
  exact sts_cons (st_if (pb_isN (cv 1)) (sts_one (st_ret (pd_isN (cv 0)))) (sts_nil)) <|
  sts_one (st_ret (dcall d_is rfl (takes_of rfl rfl rfl rfl) (hr.mono (by decide)) (args_cons (lv 0) (args_cons (lv 1) (args_nil))) (len_cons (len_cons (len_nil)))))
theorem sc_world : FnScope N_world ["_law_room_here"] (defScope s_world) := ⟨rfl, rfl, rfl, by decide +kernel, rfl, by decide +kernel, by decide +kernel⟩
theorem ok_world {f : Addr} {fd : FuncData} (Fu : Fun K "_law_world" "_law_world" s_world f fd) : FnOk P w K mg base (L2.CX P w) 1 f fd ["_law_room_here"] (spF (Gm K C0 C1 C2 C3 C4 C5 C9) 1 PX.F_rw_world) := by
  have nd := sc_world.nd
  unfold PX.F_rw_world 
  refine def_ok Fu sc_world rfl rfl fun cdv A outer s0 H X hr => ?_
  exact sts_one (st_retF (pf_disp (ppd_cons (pd_str) (dv 0) (ppd_cons (pd_str) (pd_int) (ppd_cons (pd_str) (pd_newC (pf_lst (pds_cons (pd_int) (pds_cons (pd_int) (pds_nil))))) (ppd_cons (pd_str) (pd_int) (ppd_cons (pd_str) (pd_non) (ppd_cons (pd_str) (pd_non) (ppd_cons (pd_str) (pd_newC (pf_lst (pds_nil))) (ppd_nil)))))))) rfl rfl (List.cons_ne_nil _ _) (by decide)))
theorem sc_settled : FnScope N_settled ["_law_world_here"] (defScope s_settled) := ⟨rfl, rfl, rfl, by decide +kernel, rfl, by decide +kernel, by decide +kernel⟩
theorem ok_settled {f : Addr} {fd : FuncData} (Fu : Fun K "_law_settled" "_law_settled" s_settled f fd) (z_len : mg "len" = none) (z_range : mg "range" = none) (z_sorted : mg "sorted" = none) : FnOk P w K mg base (L2.CX P w) 1 f fd ["_law_world_here"] (spF (Gm K C0 C1 C2 C3 C4 C5 C9) 1 PX.F_rw_settled) := by
  have nd := sc_settled.nd
  unfold PX.F_rw_settled PX.C_rw_settled_0 PX.B_rw_settled_0 PX.B_rw_settled_1
  refine def_ok Fu sc_settled rfl rfl fun cdv A outer s0 H X hr => ?_
  exact sts_cons (xset 1 nd (pd_int)) <|
  sts_one (st_while (passes_of rfl) (bcmp op_lt holds_lt (vv 1) (PD.pv (pd_len rfl rfl z_len (pc_dr (PD.pc (pd_dgetC hr.units (vv 0) (PD.pv (pd_str)))))))) (sts_cons (xset 2 nd (pd_ixC rfl (PD.pv (pd_dgetC hr.units (vv 0) (PD.pv (pd_str)))) (vv 1))) <|
  sts_cons (st_if (bcmp op_gt holds_gt (PD.pv (pd_len rfl rfl z_len (pc_dr (cv 2)))) (PD.pv (pd_dgetC hr.units (vv 0) (PD.pv (pd_str))))) (sts_cons (xset 3 nd (pd_mod (PD.pv (pd_dgetC hr.units (vv 0) (PD.pv (pd_str)))) (PD.pv (pd_int)))) <|
  sts_cons (xset 4 nd (pd_sub (PD.pv (pd_len rfl rfl z_len (pc_dr (cv 2)))) (PD.pv (pd_mod (PD.pv (pd_len rfl rfl z_len (pc_dr (cv 2)))) (PD.pv (pd_int)))))) <|
  sts_cons (st_if (bcmp (op_eqD hr.units) (holds_eq rfl) (PD.pv (pd_add rfl (vv 1) (PD.pv (pd_int)))) (PD.pv (pd_len rfl rfl z_len (pc_dr (PD.pc (pd_dgetC hr.units (vv 0) (PD.pv (pd_str)))))))) (sts_one (st_appC rfl (pd_dgetC hr.units (vv 0) (PD.pv (pd_str))) (pd_newC (pf_lst (pds_nil))))) (sts_nil)) <|
  sts_cons (st_for (passes_of rfl) rfl (it_range3 rfl z_range (pd_int) (dv 4) (pd_int)) (tgn 5 nd) (sts_one (st_appC rfl (pd_ixC rfl (PD.pv (pd_dgetC hr.units (vv 0) (PD.pv (pd_str)))) (PD.pv (pd_add rfl (vv 1) (PD.pv (pd_int))))) (pd_ixC rfl (vv 2) (PD.pv (pd_add rfl (vv 5) (vv 3))))))) <|
  sts_cons (st_putC (pd_dgetC hr.units (vv 0) (PD.pv (pd_str))) (pd_add rfl (vv 1) (PD.pv (pd_int))) (pd_newC (pf_sortedX rfl rfl rfl z_sorted (pc_dr (PD.pc (pd_ixC rfl (PD.pv (pd_dgetC hr.units (vv 0) (PD.pv (pd_str)))) (PD.pv (pd_add rfl (vv 1) (PD.pv (pd_int)))))))))) <|
  sts_cons (st_putC (pd_dgetC hr.units (vv 0) (PD.pv (pd_str))) (dv 1) (pd_newC (pf_slcC rfl (vv 2) (po_some' (dv 4)) (po_none')))) <|
  sts_cons (st_putC (pd_dgetC hr.units (vv 0) (PD.pv (pd_str))) (dv 3) (pd_add rfl (PD.pv (pd_ixC rfl (PD.pv (pd_dgetC hr.units (vv 0) (PD.pv (pd_str)))) (vv 3))) (PD.pv (pd_shl (PD.pv (pd_int)) (vv 1))))) <|
  sts_one (st_dputC hr.units (dv 0) (pd_str) (pd_add rfl (PD.pv (pd_dgetC hr.units (vv 0) (PD.pv (pd_str)))) (PD.pv (pd_int))))) (sts_nil)) <|
  sts_one (xset 1 nd (pd_add rfl (vv 1) (PD.pv (pd_int))))))
theorem sc_added : FnScope N_added ["_law_world_here", "_law_thing_here", "_law_weight_here"] (defScope s_added) := ⟨rfl, rfl, rfl, by decide +kernel, rfl, by decide +kernel, by decide +kernel⟩
theorem ok_added {f : Addr} {fd : FuncData} (Fu : Fun K "_law_added" "_law_added" s_added f fd) (z_len : mg "len" = none) (z_max : mg "max" = none) (z_min : mg "min" = none) (z_range : mg "range" = none) (z_sorted : mg "sorted" = none) (d_settled : DefF (Gm K C0 C1 C2 C3 C4 C5 C9) P w mg base 1 "_law_settled" 1 PX.F_rw_settled) : FnOk P w K mg base (L2.CX P w) 2 f fd ["_law_world_here", "_law_thing_here", "_law_weight_here"] (spF (Gm K C0 C1 C2 C3 C4 C5 C9) 3 PX.F_rw_added) := by
  have nd := sc_added.nd
  unfold PX.F_rw_added PX.B_rw_added_0 PX.C_rw_added_1 PX.B_rw_added_1
  refine def_ok Fu sc_added rfl rfl fun cdv A outer s0 H X hr => ?_
  exact sts_cons (st_dputC hr.units (dv 0) (pd_str) (pd_add rfl (PD.pv (pd_dgetC hr.units (vv 0) (PD.pv (pd_str)))) (vv 2))) <|
  sts_cons (xset 3 nd (PF.pd (pf_lst (pds_cons (dv 1) (pds_nil))))) <|
  sts_cons (st_if (pb_notN (PD.pc (pd_dgetC hr.units (vv 0) (PD.pv (pd_str))))) (sts_one (xset 3 nd (PF.pd (pf_lst (pds_cons (pd_dgetC hr.units (vv 0) (PD.pv (pd_str))) (pds_cons (dv 1) (pds_cons (pd_dgetC hr.units (vv 0) (PD.pv (pd_str))) (pds_nil)))))))) (sts_nil)) <|
  sts_cons (st_dputC hr.units (dv 0) (pd_str) (pd_minL rfl rfl rfl z_min (cv 3))) <|
  sts_cons (st_dputC hr.units (dv 0) (pd_str) (pd_maxL rfl rfl rfl z_max (cv 3))) <|
  sts_cons (st_for (passes_of rfl) rfl (it_range1 rfl z_range (pd_int)) (tgn 4 nd) (sts_one (st_if (bcmp (op_eqD hr.units) (holds_eq rfl) (PD.pv (pd_mod (PD.pv (pd_div (vv 2) (PD.pv (pd_shl (PD.pv (pd_int)) (vv 4))))) (PD.pv (pd_int)))) (PD.pv (pd_int))) (sts_cons (st_while (passes_of rfl) (bcmp op_le holds_le (PD.pv (pd_len rfl rfl z_len (pc_dr (PD.pc (pd_dgetC hr.units (vv 0) (PD.pv (pd_str))))))) (vv 4)) (sts_one (st_appC rfl (pd_dgetC hr.units (vv 0) (PD.pv (pd_str))) (pd_newC (pf_lst (pds_nil)))))) <|
  sts_one (st_putC (pd_dgetC hr.units (vv 0) (PD.pv (pd_str))) (dv 4) (pd_newC (pf_sortedX rfl rfl rfl z_sorted (PD.pc (pd_addC rfl (PD.pv (pd_ixC rfl (PD.pv (pd_dgetC hr.units (vv 0) (PD.pv (pd_str)))) (vv 4))) (PD.pv (PF.pd (pf_lst (pds_cons (dv 1) (pds_nil))))))))))) (sts_nil)))) <|
  sts_one (st_ex (dcall d_settled rfl (takes_of rfl rfl rfl rfl) (hr.mono (by decide)) (args_cons (lv 0) (args_nil)) (len_cons (len_nil))))
theorem sc_same : FnScope N_same ["_law_rungs", "_law_world_here"] (defScope s_same) := ⟨rfl, rfl, rfl, by decide +kernel, rfl, by decide +kernel, by decide +kernel⟩
theorem ok_same {f : Addr} {fd : FuncData} (Fu : Fun K "_law_same" "_law_same" s_same f fd) (d_is : DefF (Gm K C0 C1 C2 C3 C4 C5 C9) P w mg base 2 "_law_is" 2 PX.F_rw_is) (d_lists : DefF (Gm K C0 C1 C2 C3 C4 C5 C9) P w mg base 3 "_law_lists" 2 PX.F_rw_lists) (d_maybe : DefF (Gm K C0 C1 C2 C3 C4 C5 C9) P w mg base 3 "_law_maybe" 2 PX.F_rw_maybe) : FnOk P w K mg base (L2.CX P w) 4 f fd ["_law_rungs", "_law_world_here"] (spF (Gm K C0 C1 C2 C3 C4 C5 C9) 2 PX.F_rw_same) := by
  have nd := sc_same.nd
  unfold PX.F_rw_same 
  refine def_ok Fu sc_same rfl rfl fun cdv A outer s0 H X hr => ?_
  exact sts_cons (st_if (PW.pb (pw_or' (pb_not (bval (PD.pc (dcall d_is rfl (takes_of rfl rfl rfl rfl) (hr.mono (by decide)) (args_cons (pa_fld rfl (dv 0) rfl rfl) (args_cons (pa_val (pd_dgetC hr.units (vv 1) (PD.pv (pd_str)))) (args_nil))) (len_cons (len_cons (len_nil))))))) (pw_or1' (pb_not (bval (PD.pc (dcall d_is rfl (takes_of rfl rfl rfl rfl) (hr.mono (by decide)) (args_cons (pa_fld rfl (dv 0) rfl rfl) (args_cons (pa_val (pd_dgetC hr.units (vv 1) (PD.pv (pd_str)))) (args_nil))) (len_cons (len_cons (len_nil)))))))))) (sts_one (st_ret (pd_bl))) (sts_nil)) <|
  sts_cons (st_if (PW.pb (pw_or' (pb_not (bval (PD.pc (dcall d_is rfl (takes_of rfl rfl rfl rfl) (hr.mono (by decide)) (args_cons (pa_fld rfl (dv 0) rfl rfl) (args_cons (pa_val (pd_ixC rfl (PD.pv (pd_dgetC hr.units (vv 1) (PD.pv (pd_str)))) (PD.pv (pd_int)))) (args_nil))) (len_cons (len_cons (len_nil))))))) (pw_or1' (pb_not (bval (PD.pc (dcall d_is rfl (takes_of rfl rfl rfl rfl) (hr.mono (by decide)) (args_cons (pa_fld rfl (dv 0) rfl rfl) (args_cons (pa_val (pd_ixC rfl (PD.pv (pd_dgetC hr.units (vv 1) (PD.pv (pd_str)))) (PD.pv (pd_int)))) (args_nil))) (len_cons (len_cons (len_nil)))))))))) (sts_one (st_ret (pd_bl))) (sts_nil)) <|
  sts_cons (st_if (pb_lendF 0 14 (PW.pb (pw_or' (pb_not (bval (PD.pc (dcall d_is rfl (takes_of rfl rfl rfl rfl) (hr.mono (by decide)) (args_cons (pa_fld rfl (dv 0) rfl rfl) (args_cons (pa_val (pd_dgetC hr.units (vv 1) (PD.pv (pd_str)))) (args_nil))) (len_cons (len_cons (len_nil))))))) (pw_or1' (pb_not (bval (PD.pc (dcall d_lists rfl (takes_of rfl rfl rfl rfl) (hr.mono (by decide)) (args_cons (pa_fld rfl (dv 0) rfl rfl) (args_cons (pa_val (pd_dgetC hr.units (vv 1) (PD.pv (pd_str)))) (args_nil))) (len_cons (len_cons (len_nil))))))))))) (sts_one (st_ret (pd_bl))) (sts_nil)) <|
  sts_one (st_ret (pd_and (dcall d_maybe rfl (takes_of rfl rfl rfl rfl) (hr.mono (by decide)) (args_cons (pa_fld rfl (dv 0) rfl rfl) (args_cons (pa_val (pd_dgetC hr.units (vv 1) (PD.pv (pd_str)))) (args_nil))) (len_cons (len_cons (len_nil)))) (pd_one (dcall d_maybe rfl (takes_of rfl rfl rfl rfl) (hr.mono (by decide)) (args_cons (pa_fld rfl (dv 0) rfl rfl) (args_cons (pa_val (pd_dgetC hr.units (vv 1) (PD.pv (pd_str)))) (args_nil))) (len_cons (len_cons (len_nil)))))))
theorem sc_joined : FnScope N_joined ["_law_one", "_law_other"] (defScope s_joined) := ⟨rfl, rfl, rfl, by decide +kernel, rfl, by decide +kernel, by decide +kernel⟩
theorem ok_joined {f : Addr} {fd : FuncData} (Fu : Fun K "_law_joined" "_law_joined" s_joined f fd) (z_len : mg "len" = none) (z_max : mg "max" = none) (z_min : mg "min" = none) (z_range : mg "range" = none) (z_sorted : mg "sorted" = none) (d_settled : DefF (Gm K C0 C1 C2 C3 C4 C5 C9) P w mg base 1 "_law_settled" 1 PX.F_rw_settled) (d_world : DefF (Gm K C0 C1 C2 C3 C4 C5 C9) P w mg base 1 "_law_world" 1 PX.F_rw_world) : FnOk P w K mg base (L2.CX P w) 2 f fd ["_law_one", "_law_other"] (spF (Gm K C0 C1 C2 C3 C4 C5 C9) 2 F_joined) := by
  have nd := sc_joined.nd
  unfold F_joined B_joined_0 B_joined_1
  refine def_ok Fu sc_joined rfl rfl fun cdv A outer s0 H X hr => ?_
  exact sts_cons (xset 2 nd (pd_newC (fcall d_world rfl (takes_of rfl rfl rfl rfl) (hr.mono (by decide)) (args_cons (pa_val (pd_dgetC hr.units (vv 0) (PD.pv (pd_str)))) (args_nil)) (len_cons (len_nil))))) <|
  sts_cons (st_dputC hr.units (dv 2) (pd_str) (pd_add rfl (PD.pv (pd_dgetC hr.units (vv 0) (PD.pv (pd_str)))) (PD.pv (pd_dgetC hr.units (vv 1) (PD.pv (pd_str)))))) <|
  sts_cons (st_dputC hr.units (dv 2) (pd_str) (pd_add rfl (PD.pv (pd_dgetC hr.units (vv 0) (PD.pv (pd_str)))) (PD.pv (pd_dgetC hr.units (vv 1) (PD.pv (pd_str)))))) <|
  sts_cons (st_dputC hr.units (dv 2) (pd_str) (pd_newC (pf_lst (pds_cons (pd_add rfl (PD.pv (pd_ixC rfl (PD.pv (pd_dgetC hr.units (vv 0) (PD.pv (pd_str)))) (PD.pv (pd_int)))) (PD.pv (pd_ixC rfl (PD.pv (pd_dgetC hr.units (vv 1) (PD.pv (pd_str)))) (PD.pv (pd_int))))) (pds_cons (pd_add rfl (PD.pv (pd_ixC rfl (PD.pv (pd_dgetC hr.units (vv 0) (PD.pv (pd_str)))) (PD.pv (pd_int)))) (PD.pv (pd_ixC rfl (PD.pv (pd_dgetC hr.units (vv 1) (PD.pv (pd_str)))) (PD.pv (pd_int))))) (pds_nil)))))) <|
  sts_cons (st_setLc [("_law_two", 4)] rfl nd rfl rfl (sw_true rfl rfl rfl (by decide +kernel)) (it_list rfl (PD.pv (PF.pd (pf_lst (pds_cons (pd_dgetC hr.units (vv 0) (PD.pv (pd_str))) (pds_cons (pd_dgetC hr.units (vv 0) (PD.pv (pd_str))) (pds_cons (pd_dgetC hr.units (vv 1) (PD.pv (pd_str))) (pds_cons (pd_dgetC hr.units (vv 1) (PD.pv (pd_str))) (pds_nil))))))))) (blkOk_by (N := N_joined) (sc := defScope s_joined) (by decide +kernel)) (by decide) (fun _ _ _ _ _ => tgn 4 nd) (fun _ _ _ _ _ => ts_one (pb_notN (cv 4))) (fun _ _ _ _ _ => dv 4)) <|
  sts_cons (st_if (bcmp (op_neD hr.units) (holds_ne rfl) (vv 3) (PD.pv (PF.pd (pf_lst (pds_nil))))) (sts_cons (st_dputC hr.units (dv 2) (pd_str) (pd_minL rfl rfl rfl z_min (cv 3))) <|
  sts_one (st_dputC hr.units (dv 2) (pd_str) (pd_maxL rfl rfl rfl z_max (cv 3)))) (sts_nil)) <|
  sts_cons (st_for (passes_of rfl) rfl (it_range1 rfl z_range (pd_max2 rfl rfl z_max (PD.pv (pd_len rfl rfl z_len (pc_dr (PD.pc (pd_dgetC hr.units (vv 0) (PD.pv (pd_str))))))) (PD.pv (pd_len rfl rfl z_len (pc_dr (PD.pc (pd_dgetC hr.units (vv 1) (PD.pv (pd_str))))))))) (tgn 5 nd) (sts_cons (xset 6 nd (PF.pd (pf_lst (pds_nil)))) <|
  sts_cons (st_for (passes_of rfl) rfl (it_tup rfl (pd_tup (pds_cons (dv 0) (pds_cons (dv 1) (pds_nil))))) (tgn 4 nd) (sts_one (st_if (bcmp op_lt holds_lt (vv 5) (PD.pv (pd_len rfl rfl z_len (pc_dr (PD.pc (pd_dgetC hr.units (vv 4) (PD.pv (pd_str)))))))) (sts_one (xset 6 nd (pd_addC rfl (vv 6) (PD.pv (pd_ixC rfl (PD.pv (pd_dgetC hr.units (vv 4) (PD.pv (pd_str)))) (vv 5)))))) (sts_nil)))) <|
  sts_one (st_appC rfl (pd_dgetC hr.units (vv 2) (PD.pv (pd_str))) (pd_newC (pf_sortedX rfl rfl rfl z_sorted (cv 6)))))) <|
  sts_cons (st_ex (dcall d_settled rfl (takes_of rfl rfl rfl rfl) (hr.mono (by decide)) (args_cons (lv 2) (args_nil)) (len_cons (len_nil)))) <|
  sts_one (st_ret (dv 2))
theorem sc_refused : FnScope N_refused ["_law_one", "_law_other"] (defScope s_refused) := ⟨rfl, rfl, rfl, by decide +kernel, rfl, by decide +kernel, by decide +kernel⟩
theorem ok_refused {f : Addr} {fd : FuncData} (Fu : Fun K "_law_refused" "_law_refused" s_refused f fd) (z_ValueError : mg "ValueError" = none) (z_isinstance : mg "isinstance" = none) (e_BadText : mg "BadText" = some (.ref C5)) (e_KeepError : mg "KeepError" = some (.ref C0)) (e_OutOfReach : mg "OutOfReach" = some (.ref C3)) (e_TooFine : mg "TooFine" = some (.ref C2)) (e_TooManyOff : mg "TooManyOff" = some (.ref C4)) (e_Unlike : mg "Unlike" = some (.ref C1)) (tk_KeepError : Tk (Gm K C0 C1 C2 C3 C4 C5 C9) (.ref C0) (fun k => List.lookup k [(0, true), (1, true), (2, true), (3, true), (4, true), (5, true)])) (is_BadText : IsE (Gm K C0 C1 C2 C3 C4 C5 C9) (.ref C5) (fun k => List.lookup k [(0, false), (1, false), (2, false), (3, false), (4, false), (5, true)])) (is_OutOfReach : IsE (Gm K C0 C1 C2 C3 C4 C5 C9) (.ref C3) (fun k => List.lookup k [(0, false), (1, false), (2, false), (3, true), (4, false), (5, false)])) (is_TooFine : IsE (Gm K C0 C1 C2 C3 C4 C5 C9) (.ref C2) (fun k => List.lookup k [(0, false), (1, false), (2, true), (3, false), (4, false), (5, false)])) (is_TooManyOff : IsE (Gm K C0 C1 C2 C3 C4 C5 C9) (.ref C4) (fun k => List.lookup k [(0, false), (1, false), (2, false), (3, false), (4, true), (5, false)])) (is_Unlike : IsE (Gm K C0 C1 C2 C3 C4 C5 C9) (.ref C1) (fun k => List.lookup k [(0, false), (1, true), (2, false), (3, false), (4, false), (5, false)])) (is_ValueError : IsE (Gm K C0 C1 C2 C3 C4 C5 C9) (.type "ValueError") (fun k => List.lookup k [(0, true), (1, true), (2, true), (3, true), (4, true), (5, true)])) (d_poured_rungs : DefF (Gm K C0 C1 C2 C3 C4 C5 C9) P w mg base 3 "poured_rungs" 2 PX.F_poured_rungs) : FnOk P w K mg base (L2.CX P w) 4 f fd ["_law_one", "_law_other"] (spF (Gm K C0 C1 C2 C3 C4 C5 C9) 2 F_refused) := by
  have nd := sc_refused.nd
  unfold F_refused 
  refine def_ok Fu sc_refused rfl rfl fun cdv A outer s0 H X hr => ?_
  exact sts_cons (xset 2 nd (pd_non)) <|
  sts_cons (st_tryK (i := 3) (m := 2) tk_KeepError rfl rfl rfl rfl nd rfl rfl ⟨rfl, by decide, .inl e_KeepError⟩ (takes_of rfl rfl rfl rfl) rfl rfl rfl (fun W' pn xe tk ps => sts_one (st_ex (dcall d_poured_rungs rfl tk (hr.mono (by decide)) (args_cons (lv 0) (args_cons (lv 1) (args_nil))) (len_cons (len_cons (len_nil))))))) <|
  sts_cons (st_if (PW.pb (pw_or' (bval (PD.pc (pd_isT (IsT.cons is_TooFine (IsT.cons is_OutOfReach (IsT.cons is_TooManyOff (IsT.one is_BadText)))) rfl z_isinstance (cv 2) (pks_cons e_TooFine (pks_cons e_OutOfReach (pks_cons e_TooManyOff (pks_cons e_BadText pks_nil))))))) (pw_or1' (pb_not (bval (PD.pc (pd_isV is_ValueError z_ValueError rfl z_isinstance (cv 2)))))))) (sts_one (st_ret (pd_bl))) (sts_nil)) <|
  sts_one (st_ret (pd_isE is_Unlike e_Unlike rfl z_isinstance (cv 2)))
theorem sc_poured : FnScope N_poured ["_law_pots", "_law_worlds", "_law_cell"] (defScope s_poured) := ⟨rfl, rfl, rfl, by decide +kernel, rfl, by decide +kernel, by decide +kernel⟩
theorem ok_poured {f : Addr} {fd : FuncData} (Fu : Fun K "_law_poured" "_law_poured" s_poured f fd) (d_added : DefF (Gm K C0 C1 C2 C3 C4 C5 C9) P w mg base 2 "_law_added" 3 PX.F_rw_added) (d_joined : DefF (Gm K C0 C1 C2 C3 C4 C5 C9) P w mg base 2 "_law_joined" 2 F_joined) (d_same : DefF (Gm K C0 C1 C2 C3 C4 C5 C9) P w mg base 4 "_law_same" 2 PX.F_rw_same) (d_thing : DefF (Gm K C0 C1 C2 C3 C4 C5 C9) P w mg base 1 "_law_thing" 1 PX.F_thing) (d_weight : DefF (Gm K C0 C1 C2 C3 C4 C5 C9) P w mg base 2 "_law_weight" 1 PX.F_weight) (d_poured_rungs : DefF (Gm K C0 C1 C2 C3 C4 C5 C9) P w mg base 3 "poured_rungs" 2 PX.F_poured_rungs) (m_Rungs_add : MDef (Gm K C0 C1 C2 C3 C4 C5 C9) P w mg base 3 "add" 9 3 PX.F_Rungs_add) : FnOk P w K mg base (L2.CX P w) 5 f fd ["_law_pots", "_law_worlds", "_law_cell"] (spF (Gm K C0 C1 C2 C3 C4 C5 C9) 3 F_poured) := by
  have nd := sc_poured.nd
  unfold F_poured 
  refine def_ok Fu sc_poured rfl rfl fun cdv A outer s0 H X hr => ?_
  exact sts_cons (st_unT rfl rfl (tgc 3 nd (tgc 4 nd (tg_nil))) (dix rfl (PD.pv (PF.pd (pf_lst (pds_cons (pd_tup (pds_cons (pd_int) (pds_cons (pd_int) (pds_nil)))) (pds_cons (pd_tup (pds_cons (pd_int) (pds_cons (pd_int) (pds_nil)))) (pds_cons (pd_tup (pds_cons (pd_int) (pds_cons (pd_int) (pds_nil)))) (pds_cons (pd_tup (pds_cons (pd_int) (pds_cons (pd_int) (pds_nil)))) (pds_nil)))))))) (PD.pv (pd_mod (PD.pv (pd_div (vv 2) (PD.pv (pd_int)))) (PD.pv (pd_int)))))) <|
  sts_cons (xset 5 nd (dcall d_poured_rungs rfl (takes_of rfl rfl rfl rfl) (hr.mono (by decide)) (args_cons (pa_val (dix rfl (vv 0) (vv 3))) (args_cons (pa_val (dix rfl (vv 0) (vv 4))) (args_nil))) (len_cons (len_cons (len_nil))))) <|
  sts_cons (xset 6 nd (dcall d_joined rfl (takes_of rfl rfl rfl rfl) (hr.mono (by decide)) (args_cons (pa_val (dix rfl (vv 1) (vv 3))) (args_cons (pa_val (dix rfl (vv 1) (vv 4))) (args_nil))) (len_cons (len_cons (len_nil))))) <|
  sts_cons (st_if (pb_not (bval (PD.pc (dcall d_same rfl (takes_of rfl rfl rfl rfl) (hr.mono (by decide)) (args_cons (lv 5) (args_cons (lv 6) (args_nil))) (len_cons (len_cons (len_nil))))))) (sts_one (st_ret (pd_bl))) (sts_nil)) <|
  sts_cons (xset 7 nd (dcall d_thing rfl (takes_of rfl rfl rfl rfl) (hr.mono (by decide)) (args_cons (pa_val (pd_div (vv 2) (PD.pv (pd_int)))) (args_nil)) (len_cons (len_nil)))) <|
  sts_cons (xset 8 nd (dcall d_weight rfl (takes_of rfl rfl rfl rfl) (hr.mono (by decide)) (args_cons (pa_val (pd_div (vv 2) (PD.pv (pd_int)))) (args_nil)) (len_cons (len_nil)))) <|
  sts_cons (st_ex (dmeth (kk := 3) (allM_cons (m_Rungs_add.mono (by decide)) (allM_nil)) rfl (show ("add" : Str) ∉ (["room", "reach", "clock", "boxes", "span", "sums", "total", "lost", "counts", "over", "under", "turns", "least", "most", "rungs", "arrivals", "level", "kept", "came", "went", "up", "down", "window", "seen", "balance", "many", "stacks", "puts", "takes", "line"] : List Str) from by decide +kernel) (takes_of rfl rfl rfl rfl) (hr.mono (by decide)) (dv 5) (args_cons (lv 7) (args_cons (lv 8) (args_nil))))) <|
  sts_cons (st_ex (dcall d_added rfl (takes_of rfl rfl rfl rfl) (hr.mono (by decide)) (args_cons (lv 6) (args_cons (lv 7) (args_cons (lv 8) (args_nil)))) (len_cons (len_cons (len_cons (len_nil)))))) <|
  sts_cons (st_if (pb_not (bval (PD.pc (dcall d_same rfl (takes_of rfl rfl rfl rfl) (hr.mono (by decide)) (args_cons (lv 5) (args_cons (lv 6) (args_nil))) (len_cons (len_cons (len_nil))))))) (sts_one (st_ret (pd_bl))) (sts_nil)) <|
  sts_one (st_ret (pd_and (dcall d_same rfl (takes_of rfl rfl rfl rfl) (hr.mono (by decide)) (args_cons (pa_val (dix rfl (vv 0) (PD.pv (pd_int)))) (args_cons (pa_val (dix rfl (vv 1) (PD.pv (pd_int)))) (args_nil))) (len_cons (len_cons (len_nil)))) (pd_one (dcall d_same rfl (takes_of rfl rfl rfl rfl) (hr.mono (by decide)) (args_cons (pa_val (dix rfl (vv 0) (PD.pv (pd_int)))) (args_cons (pa_val (dix rfl (vv 1) (PD.pv (pd_int)))) (args_nil))) (len_cons (len_cons (len_nil)))))))
theorem sc_law : FnScope N_law ["_law_script"] (defScope s_law) := ⟨rfl, rfl, rfl, by decide +kernel, rfl, by decide +kernel, by decide +kernel⟩
theorem ok_law {f : Addr} {fd : FuncData} (Fu : Fun K "law" "law" s_law f fd) (z_int : mg "int" = none) (d_added : DefF (Gm K C0 C1 C2 C3 C4 C5 C9) P w mg base 2 "_law_added" 3 PX.F_rw_added) (d_mixed : DefF (Gm K C0 C1 C2 C3 C4 C5 C9) P w mg base 1 "_law_mixed" 2 PX.F_mixed) (d_poured : DefF (Gm K C0 C1 C2 C3 C4 C5 C9) P w mg base 5 "_law_poured" 3 F_poured) (d_refused : DefF (Gm K C0 C1 C2 C3 C4 C5 C9) P w mg base 4 "_law_refused" 2 F_refused) (d_room : DefF (Gm K C0 C1 C2 C3 C4 C5 C9) P w mg base 1 "_law_room" 1 PX.F_room) (d_thing : DefF (Gm K C0 C1 C2 C3 C4 C5 C9) P w mg base 1 "_law_thing" 1 PX.F_thing) (d_weight : DefF (Gm K C0 C1 C2 C3 C4 C5 C9) P w mg base 2 "_law_weight" 1 PX.F_weight) (d_world : DefF (Gm K C0 C1 C2 C3 C4 C5 C9) P w mg base 1 "_law_world" 1 PX.F_rw_world) (m_Rungs_add : MDef (Gm K C0 C1 C2 C3 C4 C5 C9) P w mg base 3 "add" 9 3 PX.F_Rungs_add) (y_Rungs : CDef (Gm K C0 C1 C2 C3 C4 C5 C9) P w mg base 1 "Rungs" 9 2 PX.F_Rungs_init) : FnOk P w K mg base (L2.CX P w) 6 f fd ["_law_script"] (spF (Gm K C0 C1 C2 C3 C4 C5 C9) 1 F_law) := by
  have nd := sc_law.nd
  unfold F_law B_law_0
  refine def_ok Fu sc_law rfl rfl fun cdv A outer s0 H X hr => ?_
  exact sts_cons (xset 1 nd (PF.pd (pf_slc rfl (PD.pv (pd_add rfl (vv 0) (PD.pv (PF.pd (pf_lst (pds_cons (pd_int) (pds_cons (pd_int) (pds_nil)))))))) (po_none') (po_some' (pd_int))))) <|
  sts_cons (xset 2 nd (dcall d_room rfl (takes_of rfl rfl rfl rfl) (hr.mono (by decide)) (args_cons (pa_val (dix rfl (vv 1) (PD.pv (pd_int)))) (args_nil)) (len_cons (len_nil)))) <|
  sts_cons (xset 3 nd (PF.pd (pf_lst (pds_cons (dmake y_Rungs rfl (takes_of rfl rfl rfl rfl) (hr.mono (by decide)) (args_cons (lv 2) (args_nil))) (pds_cons (dmake y_Rungs rfl (takes_of rfl rfl rfl rfl) (hr.mono (by decide)) (args_cons (lv 2) (args_nil))) (pds_nil)))))) <|
  sts_cons (xset 4 nd (PF.pd (pf_lst (pds_cons (pd_newC (fcall d_world rfl (takes_of rfl rfl rfl rfl) (hr.mono (by decide)) (args_cons (lv 2) (args_nil)) (len_cons (len_nil)))) (pds_cons (pd_newC (fcall d_world rfl (takes_of rfl rfl rfl rfl) (hr.mono (by decide)) (args_cons (lv 2) (args_nil)) (len_cons (len_nil)))) (pds_nil)))))) <|
  sts_cons (st_if (pb_not (bval (PD.pc (dcall d_poured rfl (takes_of rfl rfl rfl rfl) (hr.mono (by decide)) (args_cons (lv 3) (args_cons (lv 4) (args_cons (pa_val (dix rfl (vv 1) (PD.pv (pd_int)))) (args_nil)))) (len_cons (len_cons (len_cons (len_nil)))))))) (sts_one (st_ret (pd_bl))) (sts_nil)) <|
  sts_cons (xset 5 nd (dmake y_Rungs rfl (takes_of rfl rfl rfl rfl) (hr.mono (by decide)) (args_cons (pa_val (dix rfl (PD.pv (PF.pd (pf_lst (pds_cons (pd_add rfl (vv 2) (PD.pv (pd_int))) (pds_cons (pd_sub (vv 2) (PD.pv (pd_int))) (pds_nil)))))) (PD.pv (pd_int1 rfl z_int (PD.pc (pd_or (pd_and (dcmp op_gt holds_gt (vv 2) (PD.pv (pd_int))) (pd_one (dcmp (op_eqD hr.units) (holds_eq rfl) (PD.pv (pd_mod (PD.pv (dix rfl (vv 1) (PD.pv (pd_int)))) (PD.pv (pd_int)))) (PD.pv (pd_int))))) (pd_one (dcmp (op_eqD hr.units) (holds_eq rfl) (vv 2) (PD.pv (pd_int)))))))))) (args_nil)))) <|
  sts_cons (st_for (passes_of rfl) rfl (it_list rfl (PD.pv (PF.pd (pf_slc rfl (vv 0) (po_some' (pd_int)) (po_some' (pd_int)))))) (tgn 6 nd) (sts_cons (xset 7 nd (pd_mod (PD.pv (dcall d_mixed rfl (takes_of rfl rfl rfl rfl) (hr.mono (by decide)) (args_cons (lv 6) (args_cons (pa_val (pd_int)) (args_nil))) (len_cons (len_cons (len_nil))))) (PD.pv (pd_int)))) <|
  sts_cons (xset 8 nd (dcall d_thing rfl (takes_of rfl rfl rfl rfl) (hr.mono (by decide)) (args_cons (lv 6) (args_nil)) (len_cons (len_nil)))) <|
  sts_cons (xset 9 nd (dcall d_weight rfl (takes_of rfl rfl rfl rfl) (hr.mono (by decide)) (args_cons (lv 6) (args_nil)) (len_cons (len_nil)))) <|
  sts_cons (st_ex (dmeth (kk := 3) (allM_cons (m_Rungs_add.mono (by decide)) (allM_nil)) rfl (show ("add" : Str) ∉ (["room", "reach", "clock", "boxes", "span", "sums", "total", "lost", "counts", "over", "under", "turns", "least", "most", "rungs", "arrivals", "level", "kept", "came", "went", "up", "down", "window", "seen", "balance", "many", "stacks", "puts", "takes", "line"] : List Str) from by decide +kernel) (takes_of rfl rfl rfl rfl) (hr.mono (by decide)) (dix rfl (vv 3) (vv 7)) (args_cons (lv 8) (args_cons (lv 9) (args_nil))))) <|
  sts_cons (st_ex (dcall d_added rfl (takes_of rfl rfl rfl rfl) (hr.mono (by decide)) (args_cons (pa_val (dix rfl (vv 4) (vv 7))) (args_cons (lv 8) (args_cons (lv 9) (args_nil)))) (len_cons (len_cons (len_cons (len_nil)))))) <|
  sts_one (st_if (bcmp (op_eqD hr.units) (holds_eq rfl) (PD.pv (pd_mod (PD.pv (dcall d_mixed rfl (takes_of rfl rfl rfl rfl) (hr.mono (by decide)) (args_cons (lv 6) (args_cons (pa_val (pd_int)) (args_nil))) (len_cons (len_cons (len_nil))))) (PD.pv (pd_int)))) (PD.pv (pd_int))) (sts_cons (st_if (PW.pb (pw_or' (pb_not (bval (PD.pc (dcall d_refused rfl (takes_of rfl rfl rfl rfl) (hr.mono (by decide)) (args_cons (pa_val (dix rfl (vv 3) (vv 7))) (args_cons (lv 5) (args_nil))) (len_cons (len_cons (len_nil))))))) (pw_or1' (pb_not (bval (PD.pc (dcall d_refused rfl (takes_of rfl rfl rfl rfl) (hr.mono (by decide)) (args_cons (lv 5) (args_cons (pa_val (dix rfl (vv 3) (PD.pv (pd_sub (PD.pv (pd_int)) (vv 7))))) (args_nil))) (len_cons (len_cons (len_nil)))))))))) (sts_one (st_ret (pd_bl))) (sts_nil)) <|
  sts_cons (st_ex (dmeth (kk := 3) (allM_cons (m_Rungs_add.mono (by decide)) (allM_nil)) rfl (show ("add" : Str) ∉ (["room", "reach", "clock", "boxes", "span", "sums", "total", "lost", "counts", "over", "under", "turns", "least", "most", "rungs", "arrivals", "level", "kept", "came", "went", "up", "down", "window", "seen", "balance", "many", "stacks", "puts", "takes", "line"] : List Str) from by decide +kernel) (takes_of rfl rfl rfl rfl) (hr.mono (by decide)) (dv 5) (args_cons (lv 8) (args_cons (lv 9) (args_nil))))) <|
  sts_one (st_if (pb_not (bval (PD.pc (dcall d_poured rfl (takes_of rfl rfl rfl rfl) (hr.mono (by decide)) (args_cons (lv 3) (args_cons (lv 4) (args_cons (lv 6) (args_nil)))) (len_cons (len_cons (len_cons (len_nil)))))))) (sts_one (st_ret (pd_bl))) (sts_nil))) (sts_nil)))) <|
  sts_one (st_ret (pd_and (dcall d_poured rfl (takes_of rfl rfl rfl rfl) (hr.mono (by decide)) (args_cons (lv 3) (args_cons (lv 4) (args_cons (pa_val (pd_add rfl (PD.pv (dix rfl (vv 1) (PD.pv (pd_int)))) (PD.pv (pd_int)))) (args_nil)))) (len_cons (len_cons (len_cons (len_nil))))) (pd_one (dcall d_poured rfl (takes_of rfl rfl rfl rfl) (hr.mono (by decide)) (args_cons (lv 3) (args_cons (lv 4) (args_cons (pa_val (pd_add rfl (PD.pv (dix rfl (vv 1) (PD.pv (pd_int)))) (PD.pv (pd_int)))) (args_nil)))) (len_cons (len_cons (len_cons (len_nil))))))))
end
/-! ### the top -/
theorem all_mk {l : PySem.W.OpenLaw} {w : World} {K : PySem.W.Frag} {h : Heap} {mg : Str → Option Value} {fa : Addr} {f0 f1 f2 f3 f4 f5 f6 f7 f8 f9 f10 f11 f12 f13 f14 f15 f16 f17 f18 f19 f20 f21 f22 : Addr} {C0 C1 C2 C3 C4 C5 C9 : Addr} (X : K.In h) (G : h.Ns mainGlobals mg) (hfa : mg "law" = some (.ref fa))
    {od0 an0 od1 an1 od2 an2 od3 an3 od4 an4 od5 an5 od6 an6 od7 an7 od8 an8 od9 an9 od10 an10 od11 an11 od12 an12 od13 an13 od14 an14 od15 an15 od16 an16 od17 an17 od18 an18 od19 an19 od20 an20 od21 an21 od22 an22 : Option Addr} {sl0 sl1 sl2 sl3 sl4 sl5 sl6 sl7 sl8 sl9 sl10 sl11 sl12 sl13 sl14 sl15 sl16 sl17 sl18 sl19 sl20 sl21 sl22 : Array (Option Value)} {oc0 kV0 dc0 pm0 cd0 ct0 oc1 kV1 dc1 pm1 cd1 ct1 oc2 kV2 dc2 pm2 cd2 ct2 oc3 kV3 dc3 pm3 cd3 ct3 oc4 kV4 dc4 pm4 cd4 ct4 oc5 kV5 dc5 pm5 cd5 ct5 oc6 kV6 dc6 pm6 cd6 ct6 oc7 kV7 dc7 pm7 cd7 ct7 oc8 kV8 dc8 pm8 cd8 ct8 oc9 kV9 dc9 pm9 cd9 ct9 oc10 kV10 dc10 pm10 cd10 ct10 oc11 kV11 dc11 pm11 cd11 ct11 oc12 kV12 dc12 pm12 cd12 ct12 oc13 kV13 dc13 pm13 cd13 ct13 oc14 kV14 dc14 pm14 cd14 ct14 oc15 kV15 dc15 pm15 cd15 ct15 oc16 kV16 dc16 pm16 cd16 ct16 oc17 kV17 dc17 pm17 cd17 ct17 oc18 kV18 dc18 pm18 cd18 ct18 oc19 kV19 dc19 pm19 cd19 ct19 oc20 kV20 dc20 pm20 cd20 ct20 oc21 kV21 dc21 pm21 cd21 ct21 oc22 kV22 dc22 pm22 cd22 ct22 : Value}
    (aC0 : PySem.W.nsIn K mainGlobals "KeepError" = some (some (.ref C0)))
    (aC1 : PySem.W.nsIn K mainGlobals "Unlike" = some (some (.ref C1)))
    (aC2 : PySem.W.nsIn K mainGlobals "TooFine" = some (some (.ref C2)))
    (aC3 : PySem.W.nsIn K mainGlobals "OutOfReach" = some (some (.ref C3)))
    (aC4 : PySem.W.nsIn K mainGlobals "TooManyOff" = some (some (.ref C4)))
    (aC5 : PySem.W.nsIn K mainGlobals "BadText" = some (some (.ref C5)))
    (aC9 : PySem.W.nsIn K mainGlobals "Rungs" = some (some (.ref C9)))
    (a0 : PySem.W.nsIn K mainGlobals "settled_list" = some (some (.ref f0))) (l0 : K.lookup f0 = some ⟨oc0, od0, .func (PySem.W.fnOf "settled_list" "settled_list" (defArgs s_settled_list) (defBody s_settled_list) (defScope s_settled_list) .none kV0 dc0 pm0 an0 cd0 ct0), sl0⟩) (c0 : PySem.W.codeIn K cd0 "settled_list" = true) (k0 : PySem.W.keepIn K (.ref f0) = true)
    (a1 : PySem.W.nsIn K mainGlobals "settle_rungs" = some (some (.ref f1))) (l1 : K.lookup f1 = some ⟨oc1, od1, .func (PySem.W.fnOf "settle_rungs" "settle_rungs" (defArgs s_settle_rungs) (defBody s_settle_rungs) (defScope s_settle_rungs) .none kV1 dc1 pm1 an1 cd1 ct1), sl1⟩) (c1 : PySem.W.codeIn K cd1 "settle_rungs" = true) (k1 : PySem.W.keepIn K (.ref f1) = true)
    (a2 : PySem.W.findIn K (.ref C9) "__init__" = some (some (.ref f2))) (i2 : PySem.W.isFn K (.ref f2) = true) (l2 : K.lookup f2 = some ⟨oc2, od2, .func (PySem.W.fnOf "__init__" "Rungs.__init__" (defArgs s_Rungs_init) (defBody s_Rungs_init) (defScope s_Rungs_init) .none kV2 dc2 pm2 an2 cd2 ct2), sl2⟩) (c2 : PySem.W.codeIn K cd2 "Rungs.__init__" = true) (k2 : PySem.W.keepIn K (.ref f2) = true)
    (a3 : PySem.W.findIn K (.ref C9) "add" = some (some (.ref f3))) (i3 : PySem.W.isFn K (.ref f3) = true) (l3 : K.lookup f3 = some ⟨oc3, od3, .func (PySem.W.fnOf "add" "Rungs.add" (defArgs s_Rungs_add) (defBody s_Rungs_add) (defScope s_Rungs_add) .none kV3 dc3 pm3 an3 cd3 ct3), sl3⟩) (c3 : PySem.W.codeIn K cd3 "Rungs.add" = true) (k3 : PySem.W.keepIn K (.ref f3) = true)
    (a4 : PySem.W.nsIn K mainGlobals "lesser_of" = some (some (.ref f4))) (l4 : K.lookup f4 = some ⟨oc4, od4, .func (PySem.W.fnOf "lesser_of" "lesser_of" (defArgs s_lesser_of) (defBody s_lesser_of) (defScope s_lesser_of) .none kV4 dc4 pm4 an4 cd4 ct4), sl4⟩) (c4 : PySem.W.codeIn K cd4 "lesser_of" = true) (k4 : PySem.W.keepIn K (.ref f4) = true)
    (a5 : PySem.W.nsIn K mainGlobals "greater_of" = some (some (.ref f5))) (l5 : K.lookup f5 = some ⟨oc5, od5, .func (PySem.W.fnOf "greater_of" "greater_of" (defArgs s_greater_of) (defBody s_greater_of) (defScope s_greater_of) .none kV5 dc5 pm5 an5 cd5 ct5), sl5⟩) (c5 : PySem.W.codeIn K cd5 "greater_of" = true) (k5 : PySem.W.keepIn K (.ref f5) = true)
    (a6 : PySem.W.nsIn K mainGlobals "poured_rungs" = some (some (.ref f6))) (l6 : K.lookup f6 = some ⟨oc6, od6, .func (PySem.W.fnOf "poured_rungs" "poured_rungs" (defArgs s_poured_rungs) (defBody s_poured_rungs) (defScope s_poured_rungs) .none kV6 dc6 pm6 an6 cd6 ct6), sl6⟩) (c6 : PySem.W.codeIn K cd6 "poured_rungs" = true) (k6 : PySem.W.keepIn K (.ref f6) = true)
    (a7 : PySem.W.nsIn K mainGlobals "_law_mixed" = some (some (.ref f7))) (l7 : K.lookup f7 = some ⟨oc7, od7, .func (PySem.W.fnOf "_law_mixed" "_law_mixed" (defArgs s_mixed) (defBody s_mixed) (defScope s_mixed) .none kV7 dc7 pm7 an7 cd7 ct7), sl7⟩) (c7 : PySem.W.codeIn K cd7 "_law_mixed" = true) (k7 : PySem.W.keepIn K (.ref f7) = true)
    (a8 : PySem.W.nsIn K mainGlobals "_law_whole" = some (some (.ref f8))) (l8 : K.lookup f8 = some ⟨oc8, od8, .func (PySem.W.fnOf "_law_whole" "_law_whole" (defArgs s_whole) (defBody s_whole) (defScope s_whole) .none kV8 dc8 pm8 an8 cd8 ct8), sl8⟩) (c8 : PySem.W.codeIn K cd8 "_law_whole" = true) (k8 : PySem.W.keepIn K (.ref f8) = true)
    (a9 : PySem.W.nsIn K mainGlobals "_law_is" = some (some (.ref f9))) (l9 : K.lookup f9 = some ⟨oc9, od9, .func (PySem.W.fnOf "_law_is" "_law_is" (defArgs s_is) (defBody s_is) (defScope s_is) .none kV9 dc9 pm9 an9 cd9 ct9), sl9⟩) (c9 : PySem.W.codeIn K cd9 "_law_is" = true) (k9 : PySem.W.keepIn K (.ref f9) = true)
    (a10 : PySem.W.nsIn K mainGlobals "_law_thing" = some (some (.ref f10))) (l10 : K.lookup f10 = some ⟨oc10, od10, .func (PySem.W.fnOf "_law_thing" "_law_thing" (defArgs s_thing) (defBody s_thing) (defScope s_thing) .none kV10 dc10 pm10 an10 cd10 ct10), sl10⟩) (c10 : PySem.W.codeIn K cd10 "_law_thing" = true) (k10 : PySem.W.keepIn K (.ref f10) = true)
    (a11 : PySem.W.nsIn K mainGlobals "_law_weight" = some (some (.ref f11))) (l11 : K.lookup f11 = some ⟨oc11, od11, .func (PySem.W.fnOf "_law_weight" "_law_weight" (defArgs s_weight) (defBody s_weight) (defScope s_weight) .none kV11 dc11 pm11 an11 cd11 ct11), sl11⟩) (c11 : PySem.W.codeIn K cd11 "_law_weight" = true) (k11 : PySem.W.keepIn K (.ref f11) = true)
    (a12 : PySem.W.nsIn K mainGlobals "_law_room" = some (some (.ref f12))) (l12 : K.lookup f12 = some ⟨oc12, od12, .func (PySem.W.fnOf "_law_room" "_law_room" (defArgs s_room) (defBody s_room) (defScope s_room) .none kV12 dc12 pm12 an12 cd12 ct12), sl12⟩) (c12 : PySem.W.codeIn K cd12 "_law_room" = true) (k12 : PySem.W.keepIn K (.ref f12) = true)
    (a13 : PySem.W.nsIn K mainGlobals "_law_lists" = some (some (.ref f13))) (l13 : K.lookup f13 = some ⟨oc13, od13, .func (PySem.W.fnOf "_law_lists" "_law_lists" (defArgs s_lists) (defBody s_lists) (defScope s_lists) .none kV13 dc13 pm13 an13 cd13 ct13), sl13⟩) (c13 : PySem.W.codeIn K cd13 "_law_lists" = true) (k13 : PySem.W.keepIn K (.ref f13) = true)
    (a14 : PySem.W.nsIn K mainGlobals "_law_maybe" = some (some (.ref f14))) (l14 : K.lookup f14 = some ⟨oc14, od14, .func (PySem.W.fnOf "_law_maybe" "_law_maybe" (defArgs s_maybe) (defBody s_maybe) (defScope s_maybe) .none kV14 dc14 pm14 an14 cd14 ct14), sl14⟩) (c14 : PySem.W.codeIn K cd14 "_law_maybe" = true) (k14 : PySem.W.keepIn K (.ref f14) = true)
    (a15 : PySem.W.nsIn K mainGlobals "_law_world" = some (some (.ref f15))) (l15 : K.lookup f15 = some ⟨oc15, od15, .func (PySem.W.fnOf "_law_world" "_law_world" (defArgs s_world) (defBody s_world) (defScope s_world) .none kV15 dc15 pm15 an15 cd15 ct15), sl15⟩) (c15 : PySem.W.codeIn K cd15 "_law_world" = true) (k15 : PySem.W.keepIn K (.ref f15) = true)
    (a16 : PySem.W.nsIn K mainGlobals "_law_settled" = some (some (.ref f16))) (l16 : K.lookup f16 = some ⟨oc16, od16, .func (PySem.W.fnOf "_law_settled" "_law_settled" (defArgs s_settled) (defBody s_settled) (defScope s_settled) .none kV16 dc16 pm16 an16 cd16 ct16), sl16⟩) (c16 : PySem.W.codeIn K cd16 "_law_settled" = true) (k16 : PySem.W.keepIn K (.ref f16) = true)
    (a17 : PySem.W.nsIn K mainGlobals "_law_added" = some (some (.ref f17))) (l17 : K.lookup f17 = some ⟨oc17, od17, .func (PySem.W.fnOf "_law_added" "_law_added" (defArgs s_added) (defBody s_added) (defScope s_added) .none kV17 dc17 pm17 an17 cd17 ct17), sl17⟩) (c17 : PySem.W.codeIn K cd17 "_law_added" = true) (k17 : PySem.W.keepIn K (.ref f17) = true)
    (a18 : PySem.W.nsIn K mainGlobals "_law_same" = some (some (.ref f18))) (l18 : K.lookup f18 = some ⟨oc18, od18, .func (PySem.W.fnOf "_law_same" "_law_same" (defArgs s_same) (defBody s_same) (defScope s_same) .none kV18 dc18 pm18 an18 cd18 ct18), sl18⟩) (c18 : PySem.W.codeIn K cd18 "_law_same" = true) (k18 : PySem.W.keepIn K (.ref f18) = true)
    (a19 : PySem.W.nsIn K mainGlobals "_law_joined" = some (some (.ref f19))) (l19 : K.lookup f19 = some ⟨oc19, od19, .func (PySem.W.fnOf "_law_joined" "_law_joined" (defArgs s_joined) (defBody s_joined) (defScope s_joined) .none kV19 dc19 pm19 an19 cd19 ct19), sl19⟩) (c19 : PySem.W.codeIn K cd19 "_law_joined" = true) (k19 : PySem.W.keepIn K (.ref f19) = true)
    (a20 : PySem.W.nsIn K mainGlobals "_law_refused" = some (some (.ref f20))) (l20 : K.lookup f20 = some ⟨oc20, od20, .func (PySem.W.fnOf "_law_refused" "_law_refused" (defArgs s_refused) (defBody s_refused) (defScope s_refused) .none kV20 dc20 pm20 an20 cd20 ct20), sl20⟩) (c20 : PySem.W.codeIn K cd20 "_law_refused" = true) (k20 : PySem.W.keepIn K (.ref f20) = true)
    (a21 : PySem.W.nsIn K mainGlobals "_law_poured" = some (some (.ref f21))) (l21 : K.lookup f21 = some ⟨oc21, od21, .func (PySem.W.fnOf "_law_poured" "_law_poured" (defArgs s_poured) (defBody s_poured) (defScope s_poured) .none kV21 dc21 pm21 an21 cd21 ct21), sl21⟩) (c21 : PySem.W.codeIn K cd21 "_law_poured" = true) (k21 : PySem.W.keepIn K (.ref f21) = true)
    (a22 : PySem.W.nsIn K mainGlobals "law" = some (some (.ref f22))) (l22 : K.lookup f22 = some ⟨oc22, od22, .func (PySem.W.fnOf "law" "law" (defArgs s_law) (defBody s_law) (defScope s_law) .none kV22 dc22 pm22 an22 cd22 ct22), sl22⟩) (c22 : PySem.W.codeIn K cd22 "law" = true) (k22 : PySem.W.keepIn K (.ref f22) = true)
    (pg9 : PySem.W.plainGet K C9 Str.empty = true) (hd9 : PySem.W.hasDictIn K C9 = true) (po9 : PySem.W.plainOver K C9 = true) (sa9 : PySem.W.findIn K (.ref C9) "__setattr__" = some (some (.builtin "object.__setattr__"))) (mk9 : PySem.W.makesIn K C9 = true) (kc9 : PySem.W.keepIn K (.ref C9) = true)
    (n_least_9 : PySem.W.findIn K (.ref C9) "least" = some none)
    (n_most_9 : PySem.W.findIn K (.ref C9) "most" = some none)
    (n_over_9 : PySem.W.findIn K (.ref C9) "over" = some none)
    (n_room_9 : PySem.W.findIn K (.ref C9) "room" = some none)
    (n_rungs_9 : PySem.W.findIn K (.ref C9) "rungs" = some none)
    (n_total_9 : PySem.W.findIn K (.ref C9) "total" = some none)
    (n_turns_9 : PySem.W.findIn K (.ref C9) "turns" = some none)
    (n_under_9 : PySem.W.findIn K (.ref C9) "under" = some none)
    (ke1 : PySem.W.keepIn K (.ref C1) = true)
    (be1 : PySem.W.subIn K (.ref C1) (.type "BaseException") = some true)
    (te1 : PySem.W.typeIn K (.ref C1) = some (.type "type"))
    (xe1 : PySem.W.excIn K C1 [.type "ValueError", .type "Exception", .type "BaseException", .type "object"] "ValueError.__new__" = true)
    (be0 : PySem.W.subIn K (.ref C0) (.type "BaseException") = some true)
    (te0 : PySem.W.typeIn K (.ref C0) = some (.type "type"))
    (gd0 : PySem.W.hasDictIn K C0 = true)
    (qt_0_KeepError : PySem.W.subIn K (.ref C0) (.ref C0) = some true)
    (qt_1_KeepError : PySem.W.subIn K (.ref C1) (.ref C0) = some true)
    (qt_2_KeepError : PySem.W.subIn K (.ref C2) (.ref C0) = some true)
    (qt_3_KeepError : PySem.W.subIn K (.ref C3) (.ref C0) = some true)
    (qt_4_KeepError : PySem.W.subIn K (.ref C4) (.ref C0) = some true)
    (qt_5_KeepError : PySem.W.subIn K (.ref C5) (.ref C0) = some true)
    (ga0 : PySem.W.findIn K (.ref C0) "__getattribute__" = some (some (.builtin "BaseException.__getattribute__")))
    (gb0 : PySem.W.findIn K (.ref C0) "__getattr__" = some none)
    (ge0 : PySem.W.findIn K (.ref C0) "__class__" = some (some (.builtin "object.__class__")))
    (gh0 : PySem.W.mroIn K C0 (.type "object") = some true)
    (ga1 : PySem.W.findIn K (.ref C1) "__getattribute__" = some (some (.builtin "BaseException.__getattribute__")))
    (gb1 : PySem.W.findIn K (.ref C1) "__getattr__" = some none)
    (gd1 : PySem.W.hasDictIn K C1 = true)
    (ge1 : PySem.W.findIn K (.ref C1) "__class__" = some (some (.builtin "object.__class__")))
    (gh1 : PySem.W.mroIn K C1 (.type "object") = some true)
    (ga2 : PySem.W.findIn K (.ref C2) "__getattribute__" = some (some (.builtin "BaseException.__getattribute__")))
    (gb2 : PySem.W.findIn K (.ref C2) "__getattr__" = some none)
    (be2 : PySem.W.subIn K (.ref C2) (.type "BaseException") = some true)
    (gd2 : PySem.W.hasDictIn K C2 = true)
    (ge2 : PySem.W.findIn K (.ref C2) "__class__" = some (some (.builtin "object.__class__")))
    (gh2 : PySem.W.mroIn K C2 (.type "object") = some true)
    (ga3 : PySem.W.findIn K (.ref C3) "__getattribute__" = some (some (.builtin "BaseException.__getattribute__")))
    (gb3 : PySem.W.findIn K (.ref C3) "__getattr__" = some none)
    (be3 : PySem.W.subIn K (.ref C3) (.type "BaseException") = some true)
    (gd3 : PySem.W.hasDictIn K C3 = true)
    (ge3 : PySem.W.findIn K (.ref C3) "__class__" = some (some (.builtin "object.__class__")))
    (gh3 : PySem.W.mroIn K C3 (.type "object") = some true)
    (ga4 : PySem.W.findIn K (.ref C4) "__getattribute__" = some (some (.builtin "BaseException.__getattribute__")))
    (gb4 : PySem.W.findIn K (.ref C4) "__getattr__" = some none)
    (be4 : PySem.W.subIn K (.ref C4) (.type "BaseException") = some true)
    (gd4 : PySem.W.hasDictIn K C4 = true)
    (ge4 : PySem.W.findIn K (.ref C4) "__class__" = some (some (.builtin "object.__class__")))
    (gh4 : PySem.W.mroIn K C4 (.type "object") = some true)
    (ga5 : PySem.W.findIn K (.ref C5) "__getattribute__" = some (some (.builtin "BaseException.__getattribute__")))
    (gb5 : PySem.W.findIn K (.ref C5) "__getattr__" = some none)
    (be5 : PySem.W.subIn K (.ref C5) (.type "BaseException") = some true)
    (gd5 : PySem.W.hasDictIn K C5 = true)
    (ge5 : PySem.W.findIn K (.ref C5) "__class__" = some (some (.builtin "object.__class__")))
    (gh5 : PySem.W.mroIn K C5 (.type "object") = some true)
    (gf : PySem.W.specialIn K (.builtin "object.__class__") "__get__" = some (some (.builtin "getset_descriptor.__get__")))
    (gg : PySem.W.takesIn K (.builtin "object.__class__") = some true)
    (qi_0_BadText : PySem.W.kitOne K (.ref C0) (.ref C5) = some false)
    (qi_1_BadText : PySem.W.kitOne K (.ref C1) (.ref C5) = some false)
    (qi_2_BadText : PySem.W.kitOne K (.ref C2) (.ref C5) = some false)
    (qi_3_BadText : PySem.W.kitOne K (.ref C3) (.ref C5) = some false)
    (qi_4_BadText : PySem.W.kitOne K (.ref C4) (.ref C5) = some false)
    (qi_5_BadText : PySem.W.kitOne K (.ref C5) (.ref C5) = some true)
    (qi_0_OutOfReach : PySem.W.kitOne K (.ref C0) (.ref C3) = some false)
    (qi_1_OutOfReach : PySem.W.kitOne K (.ref C1) (.ref C3) = some false)
    (qi_2_OutOfReach : PySem.W.kitOne K (.ref C2) (.ref C3) = some false)
    (qi_3_OutOfReach : PySem.W.kitOne K (.ref C3) (.ref C3) = some true)
    (qi_4_OutOfReach : PySem.W.kitOne K (.ref C4) (.ref C3) = some false)
    (qi_5_OutOfReach : PySem.W.kitOne K (.ref C5) (.ref C3) = some false)
    (qi_0_TooFine : PySem.W.kitOne K (.ref C0) (.ref C2) = some false)
    (qi_1_TooFine : PySem.W.kitOne K (.ref C1) (.ref C2) = some false)
    (qi_2_TooFine : PySem.W.kitOne K (.ref C2) (.ref C2) = some true)
    (qi_3_TooFine : PySem.W.kitOne K (.ref C3) (.ref C2) = some false)
    (qi_4_TooFine : PySem.W.kitOne K (.ref C4) (.ref C2) = some false)
    (qi_5_TooFine : PySem.W.kitOne K (.ref C5) (.ref C2) = some false)
    (qi_0_TooManyOff : PySem.W.kitOne K (.ref C0) (.ref C4) = some false)
    (qi_1_TooManyOff : PySem.W.kitOne K (.ref C1) (.ref C4) = some false)
    (qi_2_TooManyOff : PySem.W.kitOne K (.ref C2) (.ref C4) = some false)
    (qi_3_TooManyOff : PySem.W.kitOne K (.ref C3) (.ref C4) = some false)
    (qi_4_TooManyOff : PySem.W.kitOne K (.ref C4) (.ref C4) = some true)
    (qi_5_TooManyOff : PySem.W.kitOne K (.ref C5) (.ref C4) = some false)
    (qi_0_Unlike : PySem.W.kitOne K (.ref C0) (.ref C1) = some false)
    (qi_1_Unlike : PySem.W.kitOne K (.ref C1) (.ref C1) = some true)
    (qi_2_Unlike : PySem.W.kitOne K (.ref C2) (.ref C1) = some false)
    (qi_3_Unlike : PySem.W.kitOne K (.ref C3) (.ref C1) = some false)
    (qi_4_Unlike : PySem.W.kitOne K (.ref C4) (.ref C1) = some false)
    (qi_5_Unlike : PySem.W.kitOne K (.ref C5) (.ref C1) = some false)
    (qi_0_ValueError : PySem.W.kitOne K (.ref C0) (.type "ValueError") = some true)
    (qi_1_ValueError : PySem.W.kitOne K (.ref C1) (.type "ValueError") = some true)
    (qi_2_ValueError : PySem.W.kitOne K (.ref C2) (.type "ValueError") = some true)
    (qi_3_ValueError : PySem.W.kitOne K (.ref C3) (.type "ValueError") = some true)
    (qi_4_ValueError : PySem.W.kitOne K (.ref C4) (.type "ValueError") = some true)
    (qi_5_ValueError : PySem.W.kitOne K (.ref C5) (.type "ValueError") = some true)
    (z_ValueError : PySem.W.nsIn K mainGlobals "ValueError" = some none)
    (z_bool : PySem.W.nsIn K mainGlobals "bool" = some none)
    (z_enumerate : PySem.W.nsIn K mainGlobals "enumerate" = some none)
    (z_int : PySem.W.nsIn K mainGlobals "int" = some none)
    (z_isinstance : PySem.W.nsIn K mainGlobals "isinstance" = some none)
    (z_len : PySem.W.nsIn K mainGlobals "len" = some none)
    (z_list : PySem.W.nsIn K mainGlobals "list" = some none)
    (z_max : PySem.W.nsIn K mainGlobals "max" = some none)
    (z_min : PySem.W.nsIn K mainGlobals "min" = some none)
    (z_range : PySem.W.nsIn K mainGlobals "range" = some none)
    (z_sorted : PySem.W.nsIn K mainGlobals "sorted" = some none)
    (T : ∀ ns : List Int, (ns.length ≤ 63 ∧ ∀ z ∈ ns, Builtin.Int.intBits z ≤ 1048576) → ∃ h', F_law [.val (.lst (ns.map D.int))] [] = .ret (.val (.bl true)) h') :
    ∃ fd : FuncData, (∀ (s : Shared) (v : Value), BindsTo s fd ⟨[v], []⟩ [("_law_script", v)]) ∧ ∀ base : Heap, K.In base → base.Ns mainGlobals mg → FnOk l.prog w K mg base (L2.CX l.prog w) 6 fa fd ["_law_script"] (spL K) := by
  have e := hfa.symm.trans (PySem.W.mg_of X G a22)
  cases e
  have F0 := fun_mk (st := s_settled_list) l0 c0 k0
  have b0 := F0.binds (ps := ["things", "greater"]) fun _ _ _ _ _ _ us hl => match us, hl with | [_, _], _ => rfl
  have F1 := fun_mk (st := s_settle_rungs) l1 c1 k1
  have b1 := F1.binds (ps := ["kept"]) fun _ _ _ _ _ _ us hl => match us, hl with | [_], _ => rfl
  have F2 := fun_mk (st := s_Rungs_init) l2 c2 k2
  have b2 := F2.binds (ps := ["self", "room"]) fun _ _ _ _ _ _ us hl => match us, hl with | [_, _], _ => rfl
  have F3 := fun_mk (st := s_Rungs_add) l3 c3 k3
  have b3 := F3.binds (ps := ["self", "thing", "weight"]) fun _ _ _ _ _ _ us hl => match us, hl with | [_, _, _], _ => rfl
  have F4 := fun_mk (st := s_lesser_of) l4 c4 k4
  have b4 := F4.binds (ps := ["one", "other"]) fun _ _ _ _ _ _ us hl => match us, hl with | [_, _], _ => rfl
  have F5 := fun_mk (st := s_greater_of) l5 c5 k5
  have b5 := F5.binds (ps := ["one", "other"]) fun _ _ _ _ _ _ us hl => match us, hl with | [_, _], _ => rfl
  have F6 := fun_mk (st := s_poured_rungs) l6 c6 k6
  have b6 := F6.binds (ps := ["one", "other"]) fun _ _ _ _ _ _ us hl => match us, hl with | [_, _], _ => rfl
  have F7 := fun_mk (st := s_mixed) l7 c7 k7
  have b7 := F7.binds (ps := ["_law_cell", "_law_k"]) fun _ _ _ _ _ _ us hl => match us, hl with | [_, _], _ => rfl
  have F8 := fun_mk (st := s_whole) l8 c8 k8
  have b8 := F8.binds (ps := ["_law_found"]) fun _ _ _ _ _ _ us hl => match us, hl with | [_], _ => rfl
  have F9 := fun_mk (st := s_is) l9 c9 k9
  have b9 := F9.binds (ps := ["_law_found", "_law_due"]) fun _ _ _ _ _ _ us hl => match us, hl with | [_, _], _ => rfl
  have F10 := fun_mk (st := s_thing) l10 c10 k10
  have b10 := F10.binds (ps := ["_law_cell"]) fun _ _ _ _ _ _ us hl => match us, hl with | [_], _ => rfl
  have F11 := fun_mk (st := s_weight) l11 c11 k11
  have b11 := F11.binds (ps := ["_law_cell"]) fun _ _ _ _ _ _ us hl => match us, hl with | [_], _ => rfl
  have F12 := fun_mk (st := s_room) l12 c12 k12
  have b12 := F12.binds (ps := ["_law_cell"]) fun _ _ _ _ _ _ us hl => match us, hl with | [_], _ => rfl
  have F13 := fun_mk (st := s_lists) l13 c13 k13
  have b13 := F13.binds (ps := ["_law_found", "_law_due"]) fun _ _ _ _ _ _ us hl => match us, hl with | [_, _], _ => rfl
  have F14 := fun_mk (st := s_maybe) l14 c14 k14
  have b14 := F14.binds (ps := ["_law_found", "_law_due"]) fun _ _ _ _ _ _ us hl => match us, hl with | [_, _], _ => rfl
  have F15 := fun_mk (st := s_world) l15 c15 k15
  have b15 := F15.binds (ps := ["_law_room_here"]) fun _ _ _ _ _ _ us hl => match us, hl with | [_], _ => rfl
  have F16 := fun_mk (st := s_settled) l16 c16 k16
  have b16 := F16.binds (ps := ["_law_world_here"]) fun _ _ _ _ _ _ us hl => match us, hl with | [_], _ => rfl
  have F17 := fun_mk (st := s_added) l17 c17 k17
  have b17 := F17.binds (ps := ["_law_world_here", "_law_thing_here", "_law_weight_here"]) fun _ _ _ _ _ _ us hl => match us, hl with | [_, _, _], _ => rfl
  have F18 := fun_mk (st := s_same) l18 c18 k18
  have b18 := F18.binds (ps := ["_law_rungs", "_law_world_here"]) fun _ _ _ _ _ _ us hl => match us, hl with | [_, _], _ => rfl
  have F19 := fun_mk (st := s_joined) l19 c19 k19
  have b19 := F19.binds (ps := ["_law_one", "_law_other"]) fun _ _ _ _ _ _ us hl => match us, hl with | [_, _], _ => rfl
  have F20 := fun_mk (st := s_refused) l20 c20 k20
  have b20 := F20.binds (ps := ["_law_one", "_law_other"]) fun _ _ _ _ _ _ us hl => match us, hl with | [_, _], _ => rfl
  have F21 := fun_mk (st := s_poured) l21 c21 k21
  have b21 := F21.binds (ps := ["_law_pots", "_law_worlds", "_law_cell"]) fun _ _ _ _ _ _ us hl => match us, hl with | [_, _, _], _ => rfl
  have F22 := fun_mk (st := s_law) l22 c22 k22
  have cl9 : Cls K C9 := ⟨pg9, hd9, po9, sa9⟩
  have fo_least : FldOk (Gm K C0 C1 C2 C3 C4 C5 C9) "least" [9] := by
    intro c hc C e
    simp only [List.mem_cons, List.not_mem_nil, or_false] at hc
    subst hc; cases e; exact n_least_9
  have fo_most : FldOk (Gm K C0 C1 C2 C3 C4 C5 C9) "most" [9] := by
    intro c hc C e
    simp only [List.mem_cons, List.not_mem_nil, or_false] at hc
    subst hc; cases e; exact n_most_9
  have fo_over : FldOk (Gm K C0 C1 C2 C3 C4 C5 C9) "over" [9] := by
    intro c hc C e
    simp only [List.mem_cons, List.not_mem_nil, or_false] at hc
    subst hc; cases e; exact n_over_9
  have fo_room : FldOk (Gm K C0 C1 C2 C3 C4 C5 C9) "room" [6, 8, 9, 10, 12, 13] := by
    intro c hc C e
    simp only [List.mem_cons, List.not_mem_nil, or_false] at hc
    rcases hc with rfl | rfl | rfl | rfl | rfl | rfl
    · cases e
    · cases e
    · cases e; exact n_room_9
    · cases e
    · cases e
    · cases e
  have fo_rungs : FldOk (Gm K C0 C1 C2 C3 C4 C5 C9) "rungs" [9] := by
    intro c hc C e
    simp only [List.mem_cons, List.not_mem_nil, or_false] at hc
    subst hc; cases e; exact n_rungs_9
  have fo_total : FldOk (Gm K C0 C1 C2 C3 C4 C5 C9) "total" [8, 9] := by
    intro c hc C e
    simp only [List.mem_cons, List.not_mem_nil, or_false] at hc
    rcases hc with rfl | rfl
    · cases e
    · cases e; exact n_total_9
  have fo_turns : FldOk (Gm K C0 C1 C2 C3 C4 C5 C9) "turns" [9] := by
    intro c hc C e
    simp only [List.mem_cons, List.not_mem_nil, or_false] at hc
    subst hc; cases e; exact n_turns_9
  have fo_under : FldOk (Gm K C0 C1 C2 C3 C4 C5 C9) "under" [9] := by
    intro c hc C e
    simp only [List.mem_cons, List.not_mem_nil, or_false] at hc
    subst hc; cases e; exact n_under_9
  have x_Unlike : EDef (Gm K C0 C1 C2 C3 C4 C5 C9) mg "Unlike" 1 := ⟨C1, rfl, PySem.W.mg_of X G aC1, ke1, xe1, be1, te1⟩
  have tk_KeepError : Tk (Gm K C0 C1 C2 C3 C4 C5 C9) (.ref C0) (fun k => List.lookup k [(0, true), (1, true), (2, true), (3, true), (4, true), (5, true)]) := by
    refine ⟨fun k b C e1 e2 => ?_⟩
    rcases k with _ | _ | _ | _ | _ | _ | k
    · have e1 : some true = some b := e1
      have e2 : some C0 = some C := e2
      cases e1; cases e2; exact PySem.W.exm_ref be0 gd0 te0 qt_0_KeepError
    · have e1 : some true = some b := e1
      have e2 : some C1 = some C := e2
      cases e1; cases e2; exact PySem.W.exm_ref be0 gd0 te0 qt_1_KeepError
    · have e1 : some true = some b := e1
      have e2 : some C2 = some C := e2
      cases e1; cases e2; exact PySem.W.exm_ref be0 gd0 te0 qt_2_KeepError
    · have e1 : some true = some b := e1
      have e2 : some C3 = some C := e2
      cases e1; cases e2; exact PySem.W.exm_ref be0 gd0 te0 qt_3_KeepError
    · have e1 : some true = some b := e1
      have e2 : some C4 = some C := e2
      cases e1; cases e2; exact PySem.W.exm_ref be0 gd0 te0 qt_4_KeepError
    · have e1 : some true = some b := e1
      have e2 : some C5 = some C := e2
      cases e1; cases e2; exact PySem.W.exm_ref be0 gd0 te0 qt_5_KeepError
    · simp [List.lookup] at e1
  have is_BadText : IsE (Gm K C0 C1 C2 C3 C4 C5 C9) (.ref C5) (fun k => List.lookup k [(0, false), (1, false), (2, false), (3, false), (4, false), (5, true)]) := by
    refine ⟨fun k b C e1 e2 => ?_⟩
    rcases k with _ | _ | _ | _ | _ | _ | k
    · have e1 : some false = some b := e1
      have e2 : some C0 = some C := e2
      cases e1; cases e2; exact ⟨⟨ga0, gb0, be0, gd0, ge0, gf, gg, gh0⟩, qi_0_BadText⟩
    · have e1 : some false = some b := e1
      have e2 : some C1 = some C := e2
      cases e1; cases e2; exact ⟨⟨ga1, gb1, be1, gd1, ge1, gf, gg, gh1⟩, qi_1_BadText⟩
    · have e1 : some false = some b := e1
      have e2 : some C2 = some C := e2
      cases e1; cases e2; exact ⟨⟨ga2, gb2, be2, gd2, ge2, gf, gg, gh2⟩, qi_2_BadText⟩
    · have e1 : some false = some b := e1
      have e2 : some C3 = some C := e2
      cases e1; cases e2; exact ⟨⟨ga3, gb3, be3, gd3, ge3, gf, gg, gh3⟩, qi_3_BadText⟩
    · have e1 : some false = some b := e1
      have e2 : some C4 = some C := e2
      cases e1; cases e2; exact ⟨⟨ga4, gb4, be4, gd4, ge4, gf, gg, gh4⟩, qi_4_BadText⟩
    · have e1 : some true = some b := e1
      have e2 : some C5 = some C := e2
      cases e1; cases e2; exact ⟨⟨ga5, gb5, be5, gd5, ge5, gf, gg, gh5⟩, qi_5_BadText⟩
    · simp [List.lookup] at e1
  have is_OutOfReach : IsE (Gm K C0 C1 C2 C3 C4 C5 C9) (.ref C3) (fun k => List.lookup k [(0, false), (1, false), (2, false), (3, true), (4, false), (5, false)]) := by
    refine ⟨fun k b C e1 e2 => ?_⟩
    rcases k with _ | _ | _ | _ | _ | _ | k
    · have e1 : some false = some b := e1
      have e2 : some C0 = some C := e2
      cases e1; cases e2; exact ⟨⟨ga0, gb0, be0, gd0, ge0, gf, gg, gh0⟩, qi_0_OutOfReach⟩
    · have e1 : some false = some b := e1
      have e2 : some C1 = some C := e2
      cases e1; cases e2; exact ⟨⟨ga1, gb1, be1, gd1, ge1, gf, gg, gh1⟩, qi_1_OutOfReach⟩
    · have e1 : some false = some b := e1
      have e2 : some C2 = some C := e2
      cases e1; cases e2; exact ⟨⟨ga2, gb2, be2, gd2, ge2, gf, gg, gh2⟩, qi_2_OutOfReach⟩
    · have e1 : some true = some b := e1
      have e2 : some C3 = some C := e2
      cases e1; cases e2; exact ⟨⟨ga3, gb3, be3, gd3, ge3, gf, gg, gh3⟩, qi_3_OutOfReach⟩
    · have e1 : some false = some b := e1
      have e2 : some C4 = some C := e2
      cases e1; cases e2; exact ⟨⟨ga4, gb4, be4, gd4, ge4, gf, gg, gh4⟩, qi_4_OutOfReach⟩
    · have e1 : some false = some b := e1
      have e2 : some C5 = some C := e2
      cases e1; cases e2; exact ⟨⟨ga5, gb5, be5, gd5, ge5, gf, gg, gh5⟩, qi_5_OutOfReach⟩
    · simp [List.lookup] at e1
  have is_TooFine : IsE (Gm K C0 C1 C2 C3 C4 C5 C9) (.ref C2) (fun k => List.lookup k [(0, false), (1, false), (2, true), (3, false), (4, false), (5, false)]) := by
    refine ⟨fun k b C e1 e2 => ?_⟩
    rcases k with _ | _ | _ | _ | _ | _ | k
    · have e1 : some false = some b := e1
      have e2 : some C0 = some C := e2
      cases e1; cases e2; exact ⟨⟨ga0, gb0, be0, gd0, ge0, gf, gg, gh0⟩, qi_0_TooFine⟩
    · have e1 : some false = some b := e1
      have e2 : some C1 = some C := e2
      cases e1; cases e2; exact ⟨⟨ga1, gb1, be1, gd1, ge1, gf, gg, gh1⟩, qi_1_TooFine⟩
    · have e1 : some true = some b := e1
      have e2 : some C2 = some C := e2
      cases e1; cases e2; exact ⟨⟨ga2, gb2, be2, gd2, ge2, gf, gg, gh2⟩, qi_2_TooFine⟩
    · have e1 : some false = some b := e1
      have e2 : some C3 = some C := e2
      cases e1; cases e2; exact ⟨⟨ga3, gb3, be3, gd3, ge3, gf, gg, gh3⟩, qi_3_TooFine⟩
    · have e1 : some false = some b := e1
      have e2 : some C4 = some C := e2
      cases e1; cases e2; exact ⟨⟨ga4, gb4, be4, gd4, ge4, gf, gg, gh4⟩, qi_4_TooFine⟩
    · have e1 : some false = some b := e1
      have e2 : some C5 = some C := e2
      cases e1; cases e2; exact ⟨⟨ga5, gb5, be5, gd5, ge5, gf, gg, gh5⟩, qi_5_TooFine⟩
    · simp [List.lookup] at e1
  have is_TooManyOff : IsE (Gm K C0 C1 C2 C3 C4 C5 C9) (.ref C4) (fun k => List.lookup k [(0, false), (1, false), (2, false), (3, false), (4, true), (5, false)]) := by
    refine ⟨fun k b C e1 e2 => ?_⟩
    rcases k with _ | _ | _ | _ | _ | _ | k
    · have e1 : some false = some b := e1
      have e2 : some C0 = some C := e2
      cases e1; cases e2; exact ⟨⟨ga0, gb0, be0, gd0, ge0, gf, gg, gh0⟩, qi_0_TooManyOff⟩
    · have e1 : some false = some b := e1
      have e2 : some C1 = some C := e2
      cases e1; cases e2; exact ⟨⟨ga1, gb1, be1, gd1, ge1, gf, gg, gh1⟩, qi_1_TooManyOff⟩
    · have e1 : some false = some b := e1
      have e2 : some C2 = some C := e2
      cases e1; cases e2; exact ⟨⟨ga2, gb2, be2, gd2, ge2, gf, gg, gh2⟩, qi_2_TooManyOff⟩
    · have e1 : some false = some b := e1
      have e2 : some C3 = some C := e2
      cases e1; cases e2; exact ⟨⟨ga3, gb3, be3, gd3, ge3, gf, gg, gh3⟩, qi_3_TooManyOff⟩
    · have e1 : some true = some b := e1
      have e2 : some C4 = some C := e2
      cases e1; cases e2; exact ⟨⟨ga4, gb4, be4, gd4, ge4, gf, gg, gh4⟩, qi_4_TooManyOff⟩
    · have e1 : some false = some b := e1
      have e2 : some C5 = some C := e2
      cases e1; cases e2; exact ⟨⟨ga5, gb5, be5, gd5, ge5, gf, gg, gh5⟩, qi_5_TooManyOff⟩
    · simp [List.lookup] at e1
  have is_Unlike : IsE (Gm K C0 C1 C2 C3 C4 C5 C9) (.ref C1) (fun k => List.lookup k [(0, false), (1, true), (2, false), (3, false), (4, false), (5, false)]) := by
    refine ⟨fun k b C e1 e2 => ?_⟩
    rcases k with _ | _ | _ | _ | _ | _ | k
    · have e1 : some false = some b := e1
      have e2 : some C0 = some C := e2
      cases e1; cases e2; exact ⟨⟨ga0, gb0, be0, gd0, ge0, gf, gg, gh0⟩, qi_0_Unlike⟩
    · have e1 : some true = some b := e1
      have e2 : some C1 = some C := e2
      cases e1; cases e2; exact ⟨⟨ga1, gb1, be1, gd1, ge1, gf, gg, gh1⟩, qi_1_Unlike⟩
    · have e1 : some false = some b := e1
      have e2 : some C2 = some C := e2
      cases e1; cases e2; exact ⟨⟨ga2, gb2, be2, gd2, ge2, gf, gg, gh2⟩, qi_2_Unlike⟩
    · have e1 : some false = some b := e1
      have e2 : some C3 = some C := e2
      cases e1; cases e2; exact ⟨⟨ga3, gb3, be3, gd3, ge3, gf, gg, gh3⟩, qi_3_Unlike⟩
    · have e1 : some false = some b := e1
      have e2 : some C4 = some C := e2
      cases e1; cases e2; exact ⟨⟨ga4, gb4, be4, gd4, ge4, gf, gg, gh4⟩, qi_4_Unlike⟩
    · have e1 : some false = some b := e1
      have e2 : some C5 = some C := e2
      cases e1; cases e2; exact ⟨⟨ga5, gb5, be5, gd5, ge5, gf, gg, gh5⟩, qi_5_Unlike⟩
    · simp [List.lookup] at e1
  have is_ValueError : IsE (Gm K C0 C1 C2 C3 C4 C5 C9) (.type "ValueError") (fun k => List.lookup k [(0, true), (1, true), (2, true), (3, true), (4, true), (5, true)]) := by
    refine ⟨fun k b C e1 e2 => ?_⟩
    rcases k with _ | _ | _ | _ | _ | _ | k
    · have e1 : some true = some b := e1
      have e2 : some C0 = some C := e2
      cases e1; cases e2; exact ⟨⟨ga0, gb0, be0, gd0, ge0, gf, gg, gh0⟩, qi_0_ValueError⟩
    · have e1 : some true = some b := e1
      have e2 : some C1 = some C := e2
      cases e1; cases e2; exact ⟨⟨ga1, gb1, be1, gd1, ge1, gf, gg, gh1⟩, qi_1_ValueError⟩
    · have e1 : some true = some b := e1
      have e2 : some C2 = some C := e2
      cases e1; cases e2; exact ⟨⟨ga2, gb2, be2, gd2, ge2, gf, gg, gh2⟩, qi_2_ValueError⟩
    · have e1 : some true = some b := e1
      have e2 : some C3 = some C := e2
      cases e1; cases e2; exact ⟨⟨ga3, gb3, be3, gd3, ge3, gf, gg, gh3⟩, qi_3_ValueError⟩
    · have e1 : some true = some b := e1
      have e2 : some C4 = some C := e2
      cases e1; cases e2; exact ⟨⟨ga4, gb4, be4, gd4, ge4, gf, gg, gh4⟩, qi_4_ValueError⟩
    · have e1 : some true = some b := e1
      have e2 : some C5 = some C := e2
      cases e1; cases e2; exact ⟨⟨ga5, gb5, be5, gd5, ge5, gf, gg, gh5⟩, qi_5_ValueError⟩
    · simp [List.lookup] at e1
  refine ⟨PySem.W.fnOf "law" "law" (defArgs s_law) (defBody s_law) (defScope s_law) .none kV22 dc22 pm22 an22 cd22 ct22, fun s v => .of_eq rfl, fun base _ _ => ?_⟩
  have D_settled_list : DefF (Gm K C0 C1 C2 C3 C4 C5 C9) l.prog w mg base 1 "settled_list" 2 PX.F_settled_list := ⟨_, _, _, ok_settled_list (C0 := C0) (C1 := C1) (C2 := C2) (C3 := C3) (C4 := C4) (C5 := C5) (C9 := C9) F0 (PySem.W.mg_none_of X G z_len) (PySem.W.mg_none_of X G z_range), PySem.W.mg_of X G a0, k0, b0⟩
  have D_settle_rungs : DefF (Gm K C0 C1 C2 C3 C4 C5 C9) l.prog w mg base 2 "settle_rungs" 1 PX.F_settle_rungs := ⟨_, _, _, ok_settle_rungs (C0 := C0) (C1 := C1) (C2 := C2) (C3 := C3) (C4 := C4) (C5 := C5) (C9 := C9) F1 (PySem.W.mg_none_of X G z_len) (PySem.W.mg_none_of X G z_sorted) fo_over fo_turns fo_under D_settled_list, PySem.W.mg_of X G a1, k1, b1⟩
  have O_Rungs_init := ok_Rungs_init (C0 := C0) (C1 := C1) (C2 := C2) (C3 := C3) (C4 := C4) (C5 := C5) (C9 := C9) (P := l.prog) (w := w) (mg := mg) (base := base) F2 fo_least fo_most fo_over fo_room fo_rungs fo_total fo_turns fo_under
  have M_Rungs_init : MDef (Gm K C0 C1 C2 C3 C4 C5 C9) l.prog w mg base 1 "__init__" 9 2 PX.F_Rungs_init := ⟨C9, _, _, _, rfl, ⟨a2, i2, k2⟩, O_Rungs_init, b2⟩
  have Y_Rungs : CDef (Gm K C0 C1 C2 C3 C4 C5 C9) l.prog w mg base 1 "Rungs" 9 2 PX.F_Rungs_init := ⟨C9, _, _, _, rfl, PySem.W.mg_of X G aC9, cl9, ⟨mk9, a2, i2, kc9⟩, O_Rungs_init, b2⟩
  have O_Rungs_add := ok_Rungs_add (C0 := C0) (C1 := C1) (C2 := C2) (C3 := C3) (C4 := C4) (C5 := C5) (C9 := C9) (P := l.prog) (w := w) (mg := mg) (base := base) F3 (PySem.W.mg_none_of X G z_len) (PySem.W.mg_none_of X G z_range) (PySem.W.mg_none_of X G z_sorted) fo_least fo_most fo_total D_settle_rungs
  have M_Rungs_add : MDef (Gm K C0 C1 C2 C3 C4 C5 C9) l.prog w mg base 3 "add" 9 3 PX.F_Rungs_add := ⟨C9, _, _, _, rfl, ⟨a3, i3, k3⟩, O_Rungs_add, b3⟩
  have D_lesser_of : DefF (Gm K C0 C1 C2 C3 C4 C5 C9) l.prog w mg base 1 "lesser_of" 2 PX.F_lesser_of := ⟨_, _, _, ok_lesser_of (C0 := C0) (C1 := C1) (C2 := C2) (C3 := C3) (C4 := C4) (C5 := C5) (C9 := C9) F4, PySem.W.mg_of X G a4, k4, b4⟩
  have D_greater_of : DefF (Gm K C0 C1 C2 C3 C4 C5 C9) l.prog w mg base 1 "greater_of" 2 PX.F_greater_of := ⟨_, _, _, ok_greater_of (C0 := C0) (C1 := C1) (C2 := C2) (C3 := C3) (C4 := C4) (C5 := C5) (C9 := C9) F5, PySem.W.mg_of X G a5, k5, b5⟩
  have D_poured_rungs : DefF (Gm K C0 C1 C2 C3 C4 C5 C9) l.prog w mg base 3 "poured_rungs" 2 PX.F_poured_rungs := ⟨_, _, _, ok_poured_rungs (C0 := C0) (C1 := C1) (C2 := C2) (C3 := C3) (C4 := C4) (C5 := C5) (C9 := C9) F6 (PySem.W.mg_none_of X G z_enumerate) (PySem.W.mg_none_of X G z_len) (PySem.W.mg_none_of X G z_list) (PySem.W.mg_none_of X G z_sorted) fo_least fo_most fo_over fo_total fo_turns fo_under x_Unlike D_greater_of D_lesser_of D_settle_rungs Y_Rungs, PySem.W.mg_of X G a6, k6, b6⟩
  have D_mixed : DefF (Gm K C0 C1 C2 C3 C4 C5 C9) l.prog w mg base 1 "_law_mixed" 2 PX.F_mixed := ⟨_, _, _, ok_mixed (C0 := C0) (C1 := C1) (C2 := C2) (C3 := C3) (C4 := C4) (C5 := C5) (C9 := C9) F7, PySem.W.mg_of X G a7, k7, b7⟩
  have D_whole : DefF (Gm K C0 C1 C2 C3 C4 C5 C9) l.prog w mg base 1 "_law_whole" 1 PX.F_whole := ⟨_, _, _, ok_whole (C0 := C0) (C1 := C1) (C2 := C2) (C3 := C3) (C4 := C4) (C5 := C5) (C9 := C9) F8 (PySem.W.mg_none_of X G z_bool) (PySem.W.mg_none_of X G z_int) (PySem.W.mg_none_of X G z_isinstance), PySem.W.mg_of X G a8, k8, b8⟩
  have D_is : DefF (Gm K C0 C1 C2 C3 C4 C5 C9) l.prog w mg base 2 "_law_is" 2 PX.F_rw_is := ⟨_, _, _, ok_is (C0 := C0) (C1 := C1) (C2 := C2) (C3 := C3) (C4 := C4) (C5 := C5) (C9 := C9) F9 D_whole, PySem.W.mg_of X G a9, k9, b9⟩
  have D_thing : DefF (Gm K C0 C1 C2 C3 C4 C5 C9) l.prog w mg base 1 "_law_thing" 1 PX.F_thing := ⟨_, _, _, ok_thing (C0 := C0) (C1 := C1) (C2 := C2) (C3 := C3) (C4 := C4) (C5 := C5) (C9 := C9) F10, PySem.W.mg_of X G a10, k10, b10⟩
  have D_weight : DefF (Gm K C0 C1 C2 C3 C4 C5 C9) l.prog w mg base 2 "_law_weight" 1 PX.F_weight := ⟨_, _, _, ok_weight (C0 := C0) (C1 := C1) (C2 := C2) (C3 := C3) (C4 := C4) (C5 := C5) (C9 := C9) F11 D_mixed, PySem.W.mg_of X G a11, k11, b11⟩
  have D_room : DefF (Gm K C0 C1 C2 C3 C4 C5 C9) l.prog w mg base 1 "_law_room" 1 PX.F_room := ⟨_, _, _, ok_room (C0 := C0) (C1 := C1) (C2 := C2) (C3 := C3) (C4 := C4) (C5 := C5) (C9 := C9) F12, PySem.W.mg_of X G a12, k12, b12⟩
  have D_lists : DefF (Gm K C0 C1 C2 C3 C4 C5 C9) l.prog w mg base 3 "_law_lists" 2 PX.F_rw_lists := ⟨_, _, _, ok_lists (C0 := C0) (C1 := C1) (C2 := C2) (C3 := C3) (C4 := C4) (C5 := C5) (C9 := C9) F13 (PySem.W.mg_none_of X G z_isinstance) (PySem.W.mg_none_of X G z_len) (PySem.W.mg_none_of X G z_list) (PySem.W.mg_none_of X G z_range) D_is, PySem.W.mg_of X G a13, k13, b13⟩
  have D_maybe : DefF (Gm K C0 C1 C2 C3 C4 C5 C9) l.prog w mg base 3 "_law_maybe" 2 PX.F_rw_maybe := ⟨_, _, _, ok_maybe (C0 := C0) (C1 := C1) (C2 := C2) (C3 := C3) (C4 := C4) (C5 := C5) (C9 := C9) F14 D_is, PySem.W.mg_of X G a14, k14, b14⟩
  have D_world : DefF (Gm K C0 C1 C2 C3 C4 C5 C9) l.prog w mg base 1 "_law_world" 1 PX.F_rw_world := ⟨_, _, _, ok_world (C0 := C0) (C1 := C1) (C2 := C2) (C3 := C3) (C4 := C4) (C5 := C5) (C9 := C9) F15, PySem.W.mg_of X G a15, k15, b15⟩
  have D_settled : DefF (Gm K C0 C1 C2 C3 C4 C5 C9) l.prog w mg base 1 "_law_settled" 1 PX.F_rw_settled := ⟨_, _, _, ok_settled (C0 := C0) (C1 := C1) (C2 := C2) (C3 := C3) (C4 := C4) (C5 := C5) (C9 := C9) F16 (PySem.W.mg_none_of X G z_len) (PySem.W.mg_none_of X G z_range) (PySem.W.mg_none_of X G z_sorted), PySem.W.mg_of X G a16, k16, b16⟩
  have D_added : DefF (Gm K C0 C1 C2 C3 C4 C5 C9) l.prog w mg base 2 "_law_added" 3 PX.F_rw_added := ⟨_, _, _, ok_added (C0 := C0) (C1 := C1) (C2 := C2) (C3 := C3) (C4 := C4) (C5 := C5) (C9 := C9) F17 (PySem.W.mg_none_of X G z_len) (PySem.W.mg_none_of X G z_max) (PySem.W.mg_none_of X G z_min) (PySem.W.mg_none_of X G z_range) (PySem.W.mg_none_of X G z_sorted) D_settled, PySem.W.mg_of X G a17, k17, b17⟩
  have D_same : DefF (Gm K C0 C1 C2 C3 C4 C5 C9) l.prog w mg base 4 "_law_same" 2 PX.F_rw_same := ⟨_, _, _, ok_same (C0 := C0) (C1 := C1) (C2 := C2) (C3 := C3) (C4 := C4) (C5 := C5) (C9 := C9) F18 D_is D_lists D_maybe, PySem.W.mg_of X G a18, k18, b18⟩
  have D_joined : DefF (Gm K C0 C1 C2 C3 C4 C5 C9) l.prog w mg base 2 "_law_joined" 2 F_joined := ⟨_, _, _, ok_joined (C0 := C0) (C1 := C1) (C2 := C2) (C3 := C3) (C4 := C4) (C5 := C5) (C9 := C9) F19 (PySem.W.mg_none_of X G z_len) (PySem.W.mg_none_of X G z_max) (PySem.W.mg_none_of X G z_min) (PySem.W.mg_none_of X G z_range) (PySem.W.mg_none_of X G z_sorted) D_settled D_world, PySem.W.mg_of X G a19, k19, b19⟩
  have D_refused : DefF (Gm K C0 C1 C2 C3 C4 C5 C9) l.prog w mg base 4 "_law_refused" 2 F_refused := ⟨_, _, _, ok_refused (C0 := C0) (C1 := C1) (C2 := C2) (C3 := C3) (C4 := C4) (C5 := C5) (C9 := C9) F20 (PySem.W.mg_none_of X G z_ValueError) (PySem.W.mg_none_of X G z_isinstance) (PySem.W.mg_of X G aC5) (PySem.W.mg_of X G aC0) (PySem.W.mg_of X G aC3) (PySem.W.mg_of X G aC2) (PySem.W.mg_of X G aC4) (PySem.W.mg_of X G aC1) tk_KeepError is_BadText is_OutOfReach is_TooFine is_TooManyOff is_Unlike is_ValueError D_poured_rungs, PySem.W.mg_of X G a20, k20, b20⟩
  have D_poured : DefF (Gm K C0 C1 C2 C3 C4 C5 C9) l.prog w mg base 5 "_law_poured" 3 F_poured := ⟨_, _, _, ok_poured (C0 := C0) (C1 := C1) (C2 := C2) (C3 := C3) (C4 := C4) (C5 := C5) (C9 := C9) F21 D_added D_joined D_same D_thing D_weight D_poured_rungs M_Rungs_add, PySem.W.mg_of X G a21, k21, b21⟩
  have L := ok_law (C0 := C0) (C1 := C1) (C2 := C2) (C3 := C3) (C4 := C4) (C5 := C5) (C9 := C9) (P := l.prog) (w := w) (base := base) F22 (PySem.W.mg_none_of X G z_int) D_added D_mixed D_poured D_refused D_room D_thing D_weight D_world M_Rungs_add Y_Rungs
  exact L.imp (law_imp (Γ := (Gm K C0 C1 C2 C3 C4 C5 C9)) (show List.Nodup (["room", "reach", "clock", "boxes", "span", "sums", "total", "lost", "counts", "over", "under", "turns", "least", "most", "rungs", "arrivals", "level", "kept", "came", "went", "up", "down", "window", "seen", "balance", "many", "stacks", "puts", "takes", "line"] : List Str) from by decide +kernel) T)
end Gk11

open PySem PySem.W PyProof.Rows in
set_option maxRecDepth 100000 in
set_option maxHeartbeats 0 in
theorem PySem.Challenge.cw_sketchbounds_k11_rungs_poured_holds : PySem.Challenge.rw_sketchbounds_k11_rungs_poured.Holds := by
  w_on; o_law; k_head; (case hw => w_witness2)
  k_fill
  refine PL.law_walk (k := 6) (x := "_law_script") (l := PySem.Challenge.rw_sketchbounds_k11_rungs_poured) rfl rfl ⟨rfl, by decide, by decide⟩ (fun w h Y => PySem.W.kIn_of Y) ?F
  case F =>
    intro w mg fa h KX G hmg
    refine' Gk11.all_mk KX G hmg ?aC0 ?aC1 ?aC2 ?aC3 ?aC4 ?aC5 ?aC9 ?a0 ?l0 ?c0 ?k0 ?a1 ?l1 ?c1 ?k1 ?a2 ?i2 ?l2 ?c2 ?k2 ?a3 ?i3 ?l3 ?c3 ?k3 ?a4 ?l4 ?c4 ?k4 ?a5 ?l5 ?c5 ?k5 ?a6 ?l6 ?c6 ?k6 ?a7 ?l7 ?c7 ?k7 ?a8 ?l8 ?c8 ?k8 ?a9 ?l9 ?c9 ?k9 ?a10 ?l10 ?c10 ?k10 ?a11 ?l11 ?c11 ?k11 ?a12 ?l12 ?c12 ?k12 ?a13 ?l13 ?c13 ?k13 ?a14 ?l14 ?c14 ?k14 ?a15 ?l15 ?c15 ?k15 ?a16 ?l16 ?c16 ?k16 ?a17 ?l17 ?c17 ?k17 ?a18 ?l18 ?c18 ?k18 ?a19 ?l19 ?c19 ?k19 ?a20 ?l20 ?c20 ?k20 ?a21 ?l21 ?c21 ?k21 ?a22 ?l22 ?c22 ?k22 ?pg9 ?hd9 ?po9 ?sa9 ?mk9 ?kc9 ?n_least_9 ?n_most_9 ?n_over_9 ?n_room_9 ?n_rungs_9 ?n_total_9 ?n_turns_9 ?n_under_9 ?ke1 ?be1 ?te1 ?xe1 ?be0 ?te0 ?gd0 ?qt_0_KeepError ?qt_1_KeepError ?qt_2_KeepError ?qt_3_KeepError ?qt_4_KeepError ?qt_5_KeepError ?ga0 ?gb0 ?ge0 ?gh0 ?ga1 ?gb1 ?gd1 ?ge1 ?gh1 ?ga2 ?gb2 ?be2 ?gd2 ?ge2 ?gh2 ?ga3 ?gb3 ?be3 ?gd3 ?ge3 ?gh3 ?ga4 ?gb4 ?be4 ?gd4 ?ge4 ?gh4 ?ga5 ?gb5 ?be5 ?gd5 ?ge5 ?gh5 ?gf ?gg ?qi_0_BadText ?qi_1_BadText ?qi_2_BadText ?qi_3_BadText ?qi_4_BadText ?qi_5_BadText ?qi_0_OutOfReach ?qi_1_OutOfReach ?qi_2_OutOfReach ?qi_3_OutOfReach ?qi_4_OutOfReach ?qi_5_OutOfReach ?qi_0_TooFine ?qi_1_TooFine ?qi_2_TooFine ?qi_3_TooFine ?qi_4_TooFine ?qi_5_TooFine ?qi_0_TooManyOff ?qi_1_TooManyOff ?qi_2_TooManyOff ?qi_3_TooManyOff ?qi_4_TooManyOff ?qi_5_TooManyOff ?qi_0_Unlike ?qi_1_Unlike ?qi_2_Unlike ?qi_3_Unlike ?qi_4_Unlike ?qi_5_Unlike ?qi_0_ValueError ?qi_1_ValueError ?qi_2_ValueError ?qi_3_ValueError ?qi_4_ValueError ?qi_5_ValueError ?z_ValueError ?z_bool ?z_enumerate ?z_int ?z_isinstance ?z_len ?z_list ?z_max ?z_min ?z_range ?z_sorted Gk11.law_true
    (case aC0 => k_is)
    (case aC1 => k_is)
    (case aC2 => k_is)
    (case aC3 => k_is)
    (case aC4 => k_is)
    (case aC5 => k_is)
    (case aC9 => k_is)
    (case a0 => k_is)
    (case l0 => k_is)
    (case c0 => k_is)
    (case k0 => k_is)
    (case a1 => k_is)
    (case l1 => k_is)
    (case c1 => k_is)
    (case k1 => k_is)
    (case a2 => k_is)
    (case i2 => k_is)
    (case l2 => k_is)
    (case c2 => k_is)
    (case k2 => k_is)
    (case a3 => k_is)
    (case i3 => k_is)
    (case l3 => k_is)
    (case c3 => k_is)
    (case k3 => k_is)
    (case a4 => k_is)
    (case l4 => k_is)
    (case c4 => k_is)
    (case k4 => k_is)
    (case a5 => k_is)
    (case l5 => k_is)
    (case c5 => k_is)
    (case k5 => k_is)
    (case a6 => k_is)
    (case l6 => k_is)
    (case c6 => k_is)
    (case k6 => k_is)
    (case a7 => k_is)
    (case l7 => k_is)
    (case c7 => k_is)
    (case k7 => k_is)
    (case a8 => k_is)
    (case l8 => k_is)
    (case c8 => k_is)
    (case k8 => k_is)
    (case a9 => k_is)
    (case l9 => k_is)
    (case c9 => k_is)
    (case k9 => k_is)
    (case a10 => k_is)
    (case l10 => k_is)
    (case c10 => k_is)
    (case k10 => k_is)
    (case a11 => k_is)
    (case l11 => k_is)
    (case c11 => k_is)
    (case k11 => k_is)
    (case a12 => k_is)
    (case l12 => k_is)
    (case c12 => k_is)
    (case k12 => k_is)
    (case a13 => k_is)
    (case l13 => k_is)
    (case c13 => k_is)
    (case k13 => k_is)
    (case a14 => k_is)
    (case l14 => k_is)
    (case c14 => k_is)
    (case k14 => k_is)
    (case a15 => k_is)
    (case l15 => k_is)
    (case c15 => k_is)
    (case k15 => k_is)
    (case a16 => k_is)
    (case l16 => k_is)
    (case c16 => k_is)
    (case k16 => k_is)
    (case a17 => k_is)
    (case l17 => k_is)
    (case c17 => k_is)
    (case k17 => k_is)
    (case a18 => k_is)
    (case l18 => k_is)
    (case c18 => k_is)
    (case k18 => k_is)
    (case a19 => k_is)
    (case l19 => k_is)
    (case c19 => k_is)
    (case k19 => k_is)
    (case a20 => k_is)
    (case l20 => k_is)
    (case c20 => k_is)
    (case k20 => k_is)
    (case a21 => k_is)
    (case l21 => k_is)
    (case c21 => k_is)
    (case k21 => k_is)
    (case a22 => k_is)
    (case l22 => k_is)
    (case c22 => k_is)
    (case k22 => k_is)
    (case pg9 => k_is)
    (case hd9 => k_is)
    (case po9 => k_is)
    (case sa9 => k_is)
    (case mk9 => k_is)
    (case kc9 => k_is)
    (case n_least_9 => k_is)
    (case n_most_9 => k_is)
    (case n_over_9 => k_is)
    (case n_room_9 => k_is)
    (case n_rungs_9 => k_is)
    (case n_total_9 => k_is)
    (case n_turns_9 => k_is)
    (case n_under_9 => k_is)
    (case ke1 => k_is)
    (case be1 => k_is)
    (case te1 => k_is)
    (case xe1 => k_exc)
    (case be0 => k_is)
    (case te0 => k_is)
    (case gd0 => k_is)
    (case qt_0_KeepError => k_is)
    (case qt_1_KeepError => k_is)
    (case qt_2_KeepError => k_is)
    (case qt_3_KeepError => k_is)
    (case qt_4_KeepError => k_is)
    (case qt_5_KeepError => k_is)
    (case ga0 => k_is)
    (case gb0 => k_is)
    (case ge0 => k_is)
    (case gh0 => k_is)
    (case ga1 => k_is)
    (case gb1 => k_is)
    (case gd1 => k_is)
    (case ge1 => k_is)
    (case gh1 => k_is)
    (case ga2 => k_is)
    (case gb2 => k_is)
    (case be2 => k_is)
    (case gd2 => k_is)
    (case ge2 => k_is)
    (case gh2 => k_is)
    (case ga3 => k_is)
    (case gb3 => k_is)
    (case be3 => k_is)
    (case gd3 => k_is)
    (case ge3 => k_is)
    (case gh3 => k_is)
    (case ga4 => k_is)
    (case gb4 => k_is)
    (case be4 => k_is)
    (case gd4 => k_is)
    (case ge4 => k_is)
    (case gh4 => k_is)
    (case ga5 => k_is)
    (case gb5 => k_is)
    (case be5 => k_is)
    (case gd5 => k_is)
    (case ge5 => k_is)
    (case gh5 => k_is)
    (case gf => k_is)
    (case gg => k_is)
    (case qi_0_BadText => kit_is)
    (case qi_1_BadText => kit_is)
    (case qi_2_BadText => kit_is)
    (case qi_3_BadText => kit_is)
    (case qi_4_BadText => kit_is)
    (case qi_5_BadText => kit_is)
    (case qi_0_OutOfReach => kit_is)
    (case qi_1_OutOfReach => kit_is)
    (case qi_2_OutOfReach => kit_is)
    (case qi_3_OutOfReach => kit_is)
    (case qi_4_OutOfReach => kit_is)
    (case qi_5_OutOfReach => kit_is)
    (case qi_0_TooFine => kit_is)
    (case qi_1_TooFine => kit_is)
    (case qi_2_TooFine => kit_is)
    (case qi_3_TooFine => kit_is)
    (case qi_4_TooFine => kit_is)
    (case qi_5_TooFine => kit_is)
    (case qi_0_TooManyOff => kit_is)
    (case qi_1_TooManyOff => kit_is)
    (case qi_2_TooManyOff => kit_is)
    (case qi_3_TooManyOff => kit_is)
    (case qi_4_TooManyOff => kit_is)
    (case qi_5_TooManyOff => kit_is)
    (case qi_0_Unlike => kit_is)
    (case qi_1_Unlike => kit_is)
    (case qi_2_Unlike => kit_is)
    (case qi_3_Unlike => kit_is)
    (case qi_4_Unlike => kit_is)
    (case qi_5_Unlike => kit_is)
    (case qi_0_ValueError => kit_is)
    (case qi_1_ValueError => kit_is)
    (case qi_2_ValueError => kit_is)
    (case qi_3_ValueError => kit_is)
    (case qi_4_ValueError => kit_is)
    (case qi_5_ValueError => kit_is)
    (case z_ValueError => k_is)
    (case z_bool => k_is)
    (case z_enumerate => k_is)
    (case z_int => k_is)
    (case z_isinstance => k_is)
    (case z_len => k_is)
    (case z_list => k_is)
    (case z_max => k_is)
    (case z_min => k_is)
    (case z_range => k_is)
    (case z_sorted => k_is)
