import PyProof.Rows.All
import Wide.All
import OpenK.AllK
import Wide.FinOn
import HandS.ForMost
import HandS.ForExc
import HandS.TryMany
import HandS.WideBits
import HandS.Wide
import HandS.SortInts
import HandS.IsInst
import HandS.CallSlots
import HandS.WordsDict
import HandS.EndBits
import HandS.ExcOwn
import HandS.Rev
import PyProof.ListNew
import HandS.ExcIs
import HandS.Codes
import HandS.SortKw
import KE.KDictSum
import HandS.Conv
import HandS.SetFor
import HandS.Iter
import HandS.Text
import HandS.StrMore
import KE.SortData
import PySem.Challenge.RW_sketchbounds_k43_whole_never_more_boxes
set_option Elab.async false
set_option linter.all false
set_option maxRecDepth 100000
set_option maxHeartbeats 4000000
set_option maxHeartbeats 1000000
/-! PyLite, part a: logical data, the ghost, the relation between logical and tracked state, what a reading asks. -/
namespace PL
open PySem PySem.Spec PyProof.Rows L2

/-- logical data: numbers, texts, tuples and lists by value; instances by their number -/
inductive D where
  | non | bl (b : Bool) | int (i : Int) | str (x : Str)
  | tup (ds : List D) | lst (ds : List D) | dic (kvs : List (Key × D))
  | obj (r : Nat) | err (c : Nat)

/-- what a name or a field holds: a value; a list or dict that nobody else knows; the same while it is walked -/
inductive FV where
  | val (d : D) | own (d : D) | lent (d : D)
inductive LO where
  | ins (c : Nat) (fs : List (Nat × FV)) | cell (d : D) | lck (d : D)
structure LS where
  s : List (Option FV)
  h : List LO
inductive Path where
  | loc (i : Nat) | fld (r f : Nat) | tmp | lck (a : Addr)
  deriving DecidableEq
/-- an exception: its class, its line -/
structure XV where
  c : Nat
  l : Option Int
inductive Res (α : Type) where
  | ok (a : α) (st : LS) | exc (x : XV) (st : LS) | bad
inductive SRes where
  | nx (st : LS) | ret (x : FV) (st : LS) | bk (st : LS) | ct (st : LS) | exc (x : XV) (st : LS) | bad
inductive FRes where
  | ret (x : FV) (h : List LO) | exc (x : XV) (h : List LO) | bad
noncomputable abbrev Fn := List FV → List LO → FRes
noncomputable abbrev E (α : Type) := LS → Res α
noncomputable abbrev S := LS → SRes
noncomputable def Res.bind {α β : Type} (r : Res α) (f : α → LS → Res β) : Res β := match r with
  | .ok a st => f a st
  | .exc x st => .exc x st
  | .bad => .bad
@[simp] theorem bind_ok {α β : Type} (a : α) (st : LS) (f : α → LS → Res β) : (Res.ok a st).bind f = f a st := id rfl
@[simp] theorem bind_exc {α β : Type} (x : XV) (st : LS) (f : α → LS → Res β) : (Res.exc x st : Res α).bind f = .exc x st := id rfl
@[simp] theorem bind_bad {α β : Type} (f : α → LS → Res β) : (Res.bad : Res α).bind f = .bad := id rfl
/-- the program's classes and field names -/
structure Tab where
  K : PySem.W.Frag
  cls : Nat → Option Addr
  nm : List Str

/-- the ghost: the heap of what stands still, the instances' places, who owns -/
structure GM where
  G : Hp
  M : List Addr
  O : Addr → Option Path

noncomputable def erO (a C : Addr) : HO := .ext fun h => ∃ oe vs, h.get? a = some oe ∧ oe.cls = .ref C ∧ oe.dict = none ∧ oe.data = .fields vs

mutual
/-- a value of the tracked state is a datum -/
noncomputable def RD (Γ : Tab) (g : GM) : D → V → Prop
  | .non, v => v = .non
  | .bl b, v => v = .bl b
  | .int i, v => v = .int i
  | .str x, v => v = .str x
  | .tup ds, v => ∃ a vs, v = .ref a ∧ SqT Γ.K g.G a vs ∧ RDs Γ g ds vs
  | .lst ds, v => ∃ a vs, v = .ref a ∧ SqL Γ.K g.G a vs ∧ RDs Γ g ds vs
  | .dic kvs, v => ∃ a ws, v = .ref a ∧ Rd g.G a (.dK ws) ∧ RDk Γ g kvs ws
  | .obj r, v => ∃ a, v = .ref a ∧ g.M[r]? = some a
  | .err c, v => ∃ a C, v = .ref a ∧ Γ.cls c = some C ∧ Rd g.G a (erO a C)
noncomputable def RDs (Γ : Tab) (g : GM) : List D → List V → Prop
  | [], vs => vs = []
  | d :: ds, vs => ∃ v r, vs = v :: r ∧ RD Γ g d v ∧ RDs Γ g ds r
noncomputable def RDk (Γ : Tab) (g : GM) : List (Key × D) → List (Key × V) → Prop
  | [], vs => vs = []
  | d :: ds, vs => ∃ v r, vs = (d.1, v) :: r ∧ RD Γ g d.2 v ∧ RDk Γ g ds r
end

/-- an object's content -/
noncomputable def CR (Γ : Tab) (g : GM) (d : D) (o : HO) : Prop := match d, o with
  | .lst ds, .lst vs => RDs Γ g ds vs
  | .dic kvs, .dK ws => RDk Γ g kvs ws
  | _, _ => False
/-- the same through a lock -/
noncomputable def CRz (Γ : Tab) (g : GM) (d : D) (o : HO) : Prop := CR Γ g d o ∨ ∃ ob u, o = .frz ob u ∧ CR Γ g d u
noncomputable def OA (Γ : Tab) (Z : Hp) (g : GM) (H : Hp) (p : Path) (a : Addr) (d : D) : Prop :=
  g.G a = none ∧ Z a = none ∧ g.O a = some p ∧ a ∉ g.M ∧ ∃ o, H a = some o ∧ CR Γ g d o
noncomputable abbrev Lend := Path → Option Addr
noncomputable def FVR (Γ : Tab) (Z : Hp) (Lt : Lend) (g : GM) (H : Hp) (p : Path) : FV → V → Prop
  | .val d, v => RD Γ g d v
  | .own d, v => ∃ a, v = .ref a ∧ OA Γ Z g H p a d
  | .lent d, v => ∃ a o, v = .ref a ∧ Lt p = some a ∧ Z a = some o ∧ CRz Γ g d o
noncomputable def FR (Γ : Tab) (Z : Hp) (Lt : Lend) (g : GM) (H : Hp) (r : Nat) (C : Addr) : List (Nat × FV) → List (Str × V) → Prop
  | [], ws => ws = []
  | x :: fs, ws => ∃ n v q, ws = (n, v) :: q ∧ Γ.nm[x.1]? = some n ∧ NoAttr Γ.K C n ∧ FVR Γ Z Lt g H (.fld r x.1) x.2 v ∧ (∀ z ∈ fs, z.1 ≠ x.1) ∧ FR Γ Z Lt g H r C fs q
noncomputable def OR (Γ : Tab) (Z : Hp) (Lt : Lend) (g : GM) (H : Hp) (r : Nat) (a : Addr) : LO → Prop
  | .ins c fs => ∃ C dx ws, Γ.cls c = some C ∧ Cls Γ.K C ∧ H a = some (.ins C dx ws) ∧ FR Γ Z Lt g H r C fs ws
  | .cell d => ∃ o, H a = some o ∧ CR Γ g d o
  | .lck d => Lt (.lck a) = some a ∧ ∃ ob u, H a = some (.frz ob u) ∧ Z a = some (.frz ob u) ∧ CR Γ g d u

noncomputable def lk : HO → Bool
  | .frz _ _ => true
  | _ => false
noncomputable def lkq : Path → HO → Prop
  | .lck _, o => lk o = true
  | _, _ => True
noncomputable def LzOk (Lt : Lend) (Z : Hp) : Prop := ∀ q a, Lt q = some a → ∃ o, Z a = some o ∧ lkq q o
/-- the logical heap stands in the tracked one -/
structure SH (Γ : Tab) (Z : Hp) (Lt : Lend) (g : GM) (h : List LO) (H : Hp) : Prop where
  gh : ∀ a o, g.G a = some o → H a = some o
  zh : ∀ a o, Z a = some o → H a = some o
  gz : ∀ a o, Z a = some o → g.G a = none
  ml : g.M.length = h.length
  mn : g.M.Nodup
  mf : ∀ a, a ∈ g.M → g.G a = none ∧ (∀ o, Z a = some o → Lt (.lck a) = some a) ∧ g.O a = none
  ob : ∀ r lo a, h[r]? = some lo → g.M[r]? = some a → OR Γ Z Lt g H r a lo
  nd : Γ.nm.Nodup
  lz : LzOk Lt Z
/-- .. and the names -/
structure SR (Γ : Tab) (Z : Hp) (Lt : Lend) (g : GM) (st : LS) (σ : L2.St) (H : Hp) : Prop where
  sh : SH Γ Z Lt g st.h H
  sl : σ.length = st.s.length
  sv : ∀ i x, st.s[i]? = some (some x) → ∃ v, σ[i]? = some (some v) ∧ FVR Γ Z Lt g H (.loc i) x v

/-- what stood still stands (a lock may come or go) -/
noncomputable def GLe (G G' : Hp) : Prop := ∀ a u, lk u = false → Rd G a u → Rd G' a u
structure GT (Z : Hp) (g g' : GM) : Prop where
  le : GLe g.G g'.G
  mp : ∃ t, g'.M = g.M ++ t
  oz : ∀ a o, Z a = some o → g'.O a = g.O a
  lo : ∀ a ob u, g.G a = some (.frz ob u) → g'.G a = some (.frz ob u)

theorem GLe.refl (G : Hp) : GLe G G := fun _ _ _ h => h
theorem GLe.trans {G1 G2 G3 : Hp} (a : GLe G1 G2) (b : GLe G2 G3) : GLe G1 G3 := fun c u l h => b c u l (a c u l h)
theorem GT.refl (Z : Hp) (g : GM) : GT Z g g := ⟨GLe.refl _, ⟨[], by simp⟩, fun _ _ _ => rfl, fun _ _ _ h => h⟩
theorem GT.trans {Z : Hp} {g1 g2 g3 : GM} (a : GT Z g1 g2) (b : GT Z g2 g3) : GT Z g1 g3 :=
  ⟨a.le.trans b.le, by obtain ⟨t, e⟩ := a.mp; obtain ⟨u, f⟩ := b.mp; exact ⟨t ++ u, by rw [f, e, List.append_assoc]⟩, fun c o h => (b.oz c o h).trans (a.oz c o h), fun c ob u h => b.lo _ _ _ (a.lo _ _ _ h)⟩
theorem GLe.sub {G G' : Hp} (h : ∀ a o, G a = some o → G' a = some o) : GLe G G' := fun a u _ r => by
  rcases r with r | ⟨o, r⟩
  · exact .inl (h _ _ r)
  · exact .inr ⟨o, h _ _ r⟩
theorem sqT_le {K : PySem.W.Frag} {G G' : Hp} {a : Addr} {vs : List V} (l : GLe G G') (h : SqT K G a vs) : SqT K G' a vs := by
  rcases h with h | h
  · exact .inl (l _ _ rfl h)
  · exact .inr h
theorem sqL_le {K : PySem.W.Frag} {G G' : Hp} {a : Addr} {vs : List V} (l : GLe G G') (h : SqL K G a vs) : SqL K G' a vs := by
  rcases h with h | h
  · exact .inl (l _ _ rfl h)
  · exact .inr h

/-! ### a datum stays -/
mutual
theorem RD.mono {Γ : Tab} {g g' : GM} (l : GLe g.G g'.G) (m : ∃ t, g'.M = g.M ++ t) : ∀ (d : D) (v : V), RD Γ g d v → RD Γ g' d v
  | .non, v, h => by simpa [RD] using h
  | .bl b, v, h => by simpa [RD] using h
  | .int i, v, h => by simpa [RD] using h
  | .str x, v, h => by simpa [RD] using h
  | .tup ds, v, h => by
    simp only [RD] at h ⊢
    obtain ⟨a, vs, e, h1, h2⟩ := h
    exact ⟨a, vs, e, sqT_le l h1, RDs.mono l m ds vs h2⟩
  | .lst ds, v, h => by
    simp only [RD] at h ⊢
    obtain ⟨a, vs, e, h1, h2⟩ := h
    exact ⟨a, vs, e, sqL_le l h1, RDs.mono l m ds vs h2⟩
  | .dic kvs, v, h => by
    simp only [RD] at h ⊢
    obtain ⟨a, vs, e, h1, h2⟩ := h
    exact ⟨a, vs, e, l _ _ rfl h1, RDk.mono l m kvs vs h2⟩
  | .obj r, v, h => by
    simp only [RD] at h ⊢
    obtain ⟨a, e, h1⟩ := h
    obtain ⟨t, et⟩ := m
    refine ⟨a, e, ?_⟩
    rw [et, List.getElem?_append_left (List.getElem?_eq_some_iff.mp h1).1]
    exact h1
  | .err c, v, h => by
    simp only [RD] at h ⊢
    obtain ⟨a, C, e, h1, h2⟩ := h
    exact ⟨a, C, e, h1, l _ _ rfl h2⟩
theorem RDs.mono {Γ : Tab} {g g' : GM} (l : GLe g.G g'.G) (m : ∃ t, g'.M = g.M ++ t) : ∀ (ds : List D) (vs : List V), RDs Γ g ds vs → RDs Γ g' ds vs
  | [], vs, h => by simpa [RDs] using h
  | d :: ds, vs, h => by
    simp only [RDs] at h ⊢
    obtain ⟨v, r, e, h1, h2⟩ := h
    exact ⟨v, r, e, RD.mono l m d v h1, RDs.mono l m ds r h2⟩
theorem RDk.mono {Γ : Tab} {g g' : GM} (l : GLe g.G g'.G) (m : ∃ t, g'.M = g.M ++ t) : ∀ (ds : List (Key × D)) (vs : List (Key × V)), RDk Γ g ds vs → RDk Γ g' ds vs
  | [], vs, h => by simpa [RDk] using h
  | d :: ds, vs, h => by
    simp only [RDk] at h ⊢
    obtain ⟨v, r, e, h1, h2⟩ := h
    exact ⟨v, r, e, RD.mono l m d.2 v h1, RDk.mono l m ds r h2⟩
end
theorem RD.up {Γ : Tab} {Z : Hp} {g g' : GM} {d : D} {v : V} (h : RD Γ g d v) (t : GT Z g g') : RD Γ g' d v := RD.mono t.le t.mp d v h
theorem RDs.up {Γ : Tab} {Z : Hp} {g g' : GM} {d : List D} {v : List V} (h : RDs Γ g d v) (t : GT Z g g') : RDs Γ g' d v := RDs.mono t.le t.mp d v h
theorem CR.mono {Γ : Tab} {g g' : GM} (l : GLe g.G g'.G) (m : ∃ t, g'.M = g.M ++ t) {d : D} {o : HO} (h : CR Γ g d o) : CR Γ g' d o := by
  unfold CR at h ⊢
  split at h
  · exact RDs.mono l m _ _ h
  · exact RDk.mono l m _ _ h
  · exact h.elim
theorem CRz.mono {Γ : Tab} {g g' : GM} (l : GLe g.G g'.G) (m : ∃ t, g'.M = g.M ++ t) {d : D} {o : HO} (h : CRz Γ g d o) : CRz Γ g' d o := by
  rcases h with h | ⟨ob, u, e, h⟩
  · exact .inl (h.mono l m)
  · exact .inr ⟨ob, u, e, h.mono l m⟩

theorem RDs.length {Γ : Tab} {g : GM} : ∀ {ds : List D} {vs : List V}, RDs Γ g ds vs → ds.length = vs.length
  | [], vs, h => by simp only [RDs] at h; subst h; rfl
  | d :: ds, vs, h => by
    simp only [RDs] at h
    obtain ⟨v, r, rfl, _, h2⟩ := h
    simp [RDs.length h2]
theorem RDs.nil {Γ : Tab} {g : GM} : RDs Γ g [] [] := by simp [RDs]
theorem RDs.cons {Γ : Tab} {g : GM} {d : D} {v : V} {ds : List D} {vs : List V} (h : RD Γ g d v) (r : RDs Γ g ds vs) : RDs Γ g (d :: ds) (v :: vs) := by
  simp only [RDs]; exact ⟨v, vs, rfl, h, r⟩
theorem RDs.get {Γ : Tab} {g : GM} : ∀ {ds : List D} {vs : List V} {i : Nat} {d : D}, RDs Γ g ds vs → ds[i]? = some d → ∃ v, vs[i]? = some v ∧ RD Γ g d v
  | [], _, _, _, _, e => by simp at e
  | d :: ds, vs, 0, x, h, e => by
    simp only [RDs] at h
    obtain ⟨v, r, rfl, h1, h2⟩ := h
    simp at e; subst e
    exact ⟨v, by simp, h1⟩
  | d :: ds, vs, i + 1, x, h, e => by
    simp only [RDs] at h
    obtain ⟨v, r, rfl, h1, h2⟩ := h
    obtain ⟨w, h3, h4⟩ := RDs.get (i := i) h2 (by simpa using e)
    exact ⟨w, by simpa using h3, h4⟩
theorem RDs.append {Γ : Tab} {g : GM} : ∀ {ds es : List D} {vs ws : List V}, RDs Γ g ds vs → RDs Γ g es ws → RDs Γ g (ds ++ es) (vs ++ ws)
  | [], _, _, _, h, h' => by simp only [RDs] at h; subst h; simpa using h'
  | d :: ds, es, vs, ws, h, h' => by
    simp only [RDs] at h
    obtain ⟨v, r, rfl, h1, h2⟩ := h
    exact RDs.cons h1 (RDs.append h2 h')

/-- what a rule asks of a call's way out -/
noncomputable def XR (Γ : Tab) (x : XV) (cls : Value) (dd : Option Addr) (H : Hp) : Prop :=
  ∃ C, Γ.cls x.c = some C ∧ cls = .ref C ∧ match x.l with
    | none => dd = none
    | some i => ∃ d, dd = some d ∧ H d = some (.xd [(Str.ofString "line", .int i)])

/-- f runs from st, and what follows is k -/
noncomputable def Go (Γ : Tab) (W : WX) (Z : Hp) (Lt : Lend) (σ : L2.St) {α : Type} (r : Res α) (g : GM) (k : α → GM → LS → Hp → Prop) : Prop :=
  match r with
  | .ok a st' => ∀ g' H', SR Γ Z Lt g' st' σ H' → GT Z g g' → k a g' st' H'
  | .exc x st' => ∀ cls dd g' H', SR Γ Z Lt g' st' σ H' → GT Z g g' → XR Γ x cls dd H' → W cls dd σ H'
  | .bad => False
theorem Go.imp {Γ : Tab} {W : WX} {Z : Hp} {Lt : Lend} {σ : L2.St} {α : Type} {r : Res α} {g : GM} {k k' : α → GM → LS → Hp → Prop} (h : Go Γ W Z Lt σ r g k)
    (i : ∀ a g' st' H', SR Γ Z Lt g' st' σ H' → GT Z g g' → (∀ g2 H2, SR Γ Z Lt g2 st' σ H2 → GT Z g' g2 → k a g2 st' H2) → k' a g' st' H') : Go Γ W Z Lt σ r g k' := by
  cases r with
  | ok a st' => exact fun g' H' s t => i _ _ _ _ s t fun g2 H2 s2 t2 => h g2 H2 s2 (t.trans t2)
  | exc x st' => exact h
  | bad => exact h
theorem Go.bind {Γ : Tab} {W : WX} {Z : Hp} {Lt : Lend} {σ : L2.St} {α β : Type} {r : Res α} {f : α → LS → Res β} {g : GM} {k : β → GM → LS → Hp → Prop} (h : Go Γ W Z Lt σ (r.bind f) g k) :
    Go Γ W Z Lt σ r g fun a g1 st1 H1 => Go Γ W Z Lt σ (f a st1) g1 k := by
  cases r with
  | ok a st' =>
    intro g1 H1 s1 t1
    have h : Go Γ W Z Lt σ (f a st') g k := h
    revert h
    cases f a st' with
    | ok b st2 => exact fun h g' H' s t => h g' H' s (t1.trans t)
    | exc x st2 => exact fun h cls dd g' H' s t => h cls dd g' H' s (t1.trans t)
    | bad => exact fun h => h
  | exc x st' => exact h
  | bad => exact h

/-- an expression's reading: its value is the datum -/
noncomputable def T (Γ : Tab) (W : WX) (f : E D) : TE := fun σ H Q => ∃ Z Lt g st, SR Γ Z Lt g st σ H ∧ Go Γ W Z Lt σ (f st) g fun d g' _ H' => ∀ v, RD Γ g' d v → Q v H'
/-- .. content: a list or dict that may be owned -/
noncomputable def CV (Γ : Tab) (g : GM) (H : Hp) (d : D) (v : V) : Prop := RD Γ g d v ∨ ∃ a o, v = .ref a ∧ H a = some o ∧ CRz Γ g d o
noncomputable def TC (Γ : Tab) (W : WX) (f : E D) : TE := fun σ H Q => ∃ Z Lt g st, SR Γ Z Lt g st σ H ∧ Go Γ W Z Lt σ (f st) g fun d g' _ H' => ∀ v, CV Γ g' H' d v → Q v H'
/-- .. fresh: nobody knows it -/
noncomputable def TF (Γ : Tab) (W : WX) (f : E D) : TE := fun σ H Q => ∃ Z Lt g st, SR Γ Z Lt g st σ H ∧ Go Γ W Z Lt σ (f st) g fun d g' _ H' => ∀ a, OA Γ Z g' H' .tmp a d → Q (.ref a) H'
/-- a test's -/
noncomputable def TB (Γ : Tab) (W : WX) (f : E Bool) : TT := fun σ H Q => ∃ Z Lt g st, SR Γ Z Lt g st σ H ∧ Go Γ W Z Lt σ (f st) g fun b _ _ H' => Q b H'
/-- arguments' -/
noncomputable def TAs (Γ : Tab) (W : WX) (f : E (List D)) : TA := fun σ H Q => ∃ Z Lt g st, SR Γ Z Lt g st σ H ∧ Go Γ W Z Lt σ (f st) g fun ds g' _ H' => ∀ vs, RDs Γ g' ds vs → Q vs H'
/-- a statement's -/
noncomputable def GoS (Γ : Tab) (W : WX) (Z : Hp) (Lt : Lend) (D : Ends) (r : SRes) (g : GM) : Prop :=
  match r with
  | .nx st' => ∀ σ' g' H', SR Γ Z Lt g' st' σ' H' → GT Z g g' → D.nx σ' H'
  | .ret x st' => ∀ v g' H', SH Γ Z Lt g' st'.h H' → GT Z g g' → FVR Γ Z (fun _ => none) g' H' .tmp x v → D.rt v H'
  | .bk st' => ∀ σ' g' H', SR Γ Z Lt g' st' σ' H' → GT Z g g' → D.bk σ' H'
  | .ct st' => ∀ σ' g' H', SR Γ Z Lt g' st' σ' H' → GT Z g g' → D.ct σ' H'
  | .exc x st' => ∀ cls dd σ' g' H', SR Γ Z Lt g' st' σ' H' → GT Z g g' → XR Γ x cls dd H' → W cls dd σ' H'
  | .bad => False
noncomputable def TSt (Γ : Tab) (W : WX) (f : S) : TS := fun D σ H => ∃ Z Lt g st, SR Γ Z Lt g st σ H ∧ GoS Γ W Z Lt D (f st) g

/-- an argument: a value, or a list that is lent -/
noncomputable def AR (Γ : Tab) (Z : Hp) (g : GM) : FV → V → Prop
  | .val d, v => RD Γ g d v
  | .own _, _ => False
  | .lent d, v => ∃ a o, v = .ref a ∧ Z a = some o ∧ CRz Γ g d o
noncomputable def ARs (Γ : Tab) (Z : Hp) (g : GM) : List FV → List V → Prop
  | [], vs => vs = []
  | d :: ds, vs => ∃ v r, vs = v :: r ∧ AR Γ Z g d v ∧ ARs Γ Z g ds r
/-- a value that is sure to stand: a datum, or a list that is lent -/
noncomputable def SV (Γ : Tab) (Z : Hp) (g : GM) (d : D) (v : V) : Prop := RD Γ g d v ∨ ∃ a o, v = .ref a ∧ Z a = some o ∧ CRz Γ g d o
noncomputable def TV (Γ : Tab) (W : WX) (f : E D) : TE := fun σ H Q => ∃ Z Lt g st, SR Γ Z Lt g st σ H ∧ Go Γ W Z Lt σ (f st) g fun d g' _ H' => ∀ v, SV Γ Z g' d v → Q v H'
noncomputable def TGs (Γ : Tab) (W : WX) (f : E (List FV)) : TA := fun σ H Q => ∃ Z Lt g st, SR Γ Z Lt g st σ H ∧ Go Γ W Z Lt σ (f st) g fun ds g' _ H' => ∀ vs, ARs Γ Z g' ds vs → Q vs H'
noncomputable def lentAt (ds : List FV) (vs : List V) (i : Nat) : Option Addr := match ds[i]?, vs[i]? with
  | some (.lent _), some (.ref a) => some a
  | _, _ => none
/-- a def's promise -/
noncomputable def spF (Γ : Tab) (n : Nat) (F : Fn) : Sp := fun vs H Q X => ∃ Z Lt g ds h, SH Γ Z Lt g h H ∧ ARs Γ Z g ds vs ∧ ds.length = n ∧ (∀ i, Lt (.loc i) = lentAt ds vs i) ∧
  match F ds h with
  | .ret x h' => ∀ v g' H', SH Γ Z Lt g' h' H' → GT Z g g' → FVR Γ Z (fun _ => none) g' H' .tmp x v → Q v H'
  | .exc x h' => ∀ cls dd g' H', SH Γ Z Lt g' h' H' → GT Z g g' → XR Γ x cls dd H' → X cls dd H'
  | .bad => False

/-! ### the judgements -/
structure PD (Γ : Tab) (W : WX) (X : Cx) (e : Expr) (f : E D) : Prop where
  pe : PE X e (T Γ W f)
structure PC (Γ : Tab) (W : WX) (X : Cx) (e : Expr) (f : E D) : Prop where
  pe : PE X e (TC Γ W f)
structure PF (Γ : Tab) (W : WX) (X : Cx) (e : Expr) (f : E D) : Prop where
  pe : PE X e (TF Γ W f)
structure PB (Γ : Tab) (W : WX) (X : Cx) (e : Expr) (f : E Bool) : Prop where
  pt : PT X e (TB Γ W f)
structure PAs (Γ : Tab) (W : WX) (X : Cx) (es : List Expr) (f : E (List D)) : Prop where
  pa : PA X es (TAs Γ W f)
structure PV (Γ : Tab) (W : WX) (X : Cx) (e : Expr) (f : E D) : Prop where
  pe : PE X e (TV Γ W f)
structure PArgs (Γ : Tab) (W : WX) (X : Cx) (es : List Expr) (f : E (List FV)) : Prop where
  pa : PA X es (TGs Γ W f)
structure PSt (Γ : Tab) (W : WX) (X : Cx) (st : Stmt) (f : S) : Prop where
  ps : PS X st (TSt Γ W f)
structure PSts (Γ : Tab) (W : WX) (X : Cx) (st : List Stmt) (f : S) : Prop where
  ps : PSs X st (TSt Γ W f)
theorem _root_.L2.PE.csq {X : Cx} {e : Expr} {t u : TE} (h : PE X e t) (i : ∀ σ H Q, u σ H Q → t σ H Q) : PE X e u := ⟨fun pins s σ H Q I w => h.run pins s σ H Q I (i _ _ _ w)⟩
theorem _root_.L2.PT.csq {X : Cx} {e : Expr} {t u : TT} (h : PT X e t) (i : ∀ σ H Q, u σ H Q → t σ H Q) : PT X e u := ⟨fun pins s σ H Q I w => h.run pins s σ H Q I (i _ _ _ w)⟩
theorem _root_.L2.PA.csq {X : Cx} {e : List Expr} {t u : TA} (h : PA X e t) (i : ∀ σ H Q, u σ H Q → t σ H Q) : PA X e u := ⟨fun pos pins s σ H Q I w => h.run pos pins s σ H Q I (i _ _ _ w)⟩
theorem _root_.L2.PS.csq {X : Cx} {e : Stmt} {t u : TS} (h : PS X e t) (i : ∀ D σ H, u D σ H → t D σ H) : PS X e u := ⟨fun pins s σ H D I w => h.run pins s σ H D I (i _ _ _ w)⟩
theorem _root_.L2.PSs.csq {X : Cx} {e : List Stmt} {t u : TS} (h : PSs X e t) (i : ∀ D σ H, u D σ H → t D σ H) : PSs X e u := ⟨fun pins s σ H D I w => h.run pins s σ H D I (i _ _ _ w)⟩
end PL

/-! PyLite, part b: how the relation goes on when the state changes. -/
namespace PL
open PySem PySem.Spec PyProof.Rows L2
section
variable {Γ : Tab} {W : WX} {Z : Hp} {Lt : Lend} {g g' : GM} {st st' : LS} {σ σ' : L2.St} {H H' : Hp} {h h' : List LO} {a p : Addr} {o : HO} {d : D} {v : V}

theorem OR.at {r : Nat} {lo : LO} (x : OR Γ Z Lt g H r a lo) : ∃ o, H a = some o := by
  cases lo with
  | ins c fs => obtain ⟨C, dx, ws, _, _, e, _⟩ := x; exact ⟨_, e⟩
  | cell d => obtain ⟨o, e, _⟩ := x; exact ⟨_, e⟩
  | lck d => obtain ⟨_, ob, u, e, _⟩ := x; exact ⟨_, e⟩
/-- nothing with a name is protected, but what is locked -/
theorem SH.zn (s : SH Γ Z Lt g h H) (m : a ∈ g.M) (e : H a = some o) (hl : lk o = false) : Z a = none := by
  cases c : Z a with
  | none => rfl
  | some u =>
    have h1 := s.zh a u c
    rw [e] at h1; cases h1
    have hr := (s.mf a m).2.1 o c
    obtain ⟨u, h2, h3⟩ := s.lz _ _ hr
    rw [c] at h2; cases h2
    simp only [lkq] at h3
    rw [hl] at h3; cases h3
theorem CR.nolk (c : CR Γ g d o) : lk o = false := by
  cases o <;> first | rfl | (exfalso; cases d <;> exact c)
theorem SH.at (s : SH Γ Z Lt g h H) (m : a ∈ g.M) : ∃ o, H a = some o := by
  obtain ⟨r, hr, e⟩ := List.mem_iff_getElem.mp m
  have h1 : g.M[r]? = some a := by rw [List.getElem?_eq_getElem hr, e]
  have h2 : r < h.length := by rw [← s.ml]; exact hr
  exact (s.ob r _ a (List.getElem?_eq_getElem h2) h1).at
theorem SH.new (s : SH Γ Z Lt g h H) (n : H p = none) : p ∉ g.M ∧ g.G p = none ∧ Z p = none := by
  refine ⟨fun m => ?_, ?_, ?_⟩
  · obtain ⟨o, e⟩ := s.at m; rw [n] at e; cases e
  · cases e : g.G p with
    | none => rfl
    | some o => have := s.gh p o e; rw [n] at this; cases this
  · cases e : Z p with
    | none => rfl
    | some o => have := s.zh p o e; rw [n] at this; cases this

/-- what the paths that q tells own stays -/
structure Kp (Z : Hp) (g g' : GM) (H H' : Hp) (q : Path → Prop) : Prop where
  gt : GT Z g g'
  own : ∀ a p o, q p → g.G a = none → Z a = none → g.O a = some p → a ∉ g.M → H a = some o → g'.G a = none ∧ g'.O a = some p ∧ a ∉ g'.M ∧ H' a = some o
theorem FVR.keep {q : Path → Prop} (k : Kp Z g g' H H' q) {p : Path} (hq : q p) {x : FV} (f : FVR Γ Z Lt g H p x v) : FVR Γ Z Lt g' H' p x v := by
  cases x with
  | val d => exact RD.up f k.gt
  | own d =>
    obtain ⟨a, e, h1, h2, h3, h4, o, h5, h6⟩ := f
    obtain ⟨k1, k2, k3, k4⟩ := k.own a p o hq h1 h2 h3 h4 h5
    exact ⟨a, e, k1, h2, k2, k3, o, k4, h6.mono k.gt.le k.gt.mp⟩
  | lent d =>
    obtain ⟨a, o, e, h1, h3, h4⟩ := f
    exact ⟨a, o, e, h1, h3, h4.mono k.gt.le k.gt.mp⟩
theorem FR.keep {q : Path → Prop} (k : Kp Z g g' H H' q) {r : Nat} {C : Addr} (hq : ∀ f, q (.fld r f)) : ∀ {fs : List (Nat × FV)} {ws : List (Str × V)}, FR Γ Z Lt g H r C fs ws → FR Γ Z Lt g' H' r C fs ws
  | [], _, f => f
  | x :: fs, _, f => by
    obtain ⟨n, v, q', e, h1, h2, h3, h5, h4⟩ := f
    exact ⟨n, v, q', e, h1, h2, h3.keep k (hq _), h5, FR.keep k hq h4⟩
theorem OR.keep {q : Path → Prop} (k : Kp Z g g' H H' q) {r : Nat} (hq : ∀ f, q (.fld r f)) (hH : ∀ o, H a = some o → H' a = some o) {lo : LO} (x : OR Γ Z Lt g H r a lo) : OR Γ Z Lt g' H' r a lo := by
  cases lo with
  | ins c fs => obtain ⟨C, dx, ws, e1, e2, e, f⟩ := x; exact ⟨C, dx, ws, e1, e2, hH _ e, FR.keep k hq f⟩
  | cell d => obtain ⟨o, e, f⟩ := x; exact ⟨o, hH _ e, f.mono k.gt.le k.gt.mp⟩
  | lck d => obtain ⟨l, ob, u, e, z, f⟩ := x; exact ⟨l, ob, u, hH _ e, z, f.mono k.gt.le k.gt.mp⟩
/-- the objects stay, the ghost grows -/
theorem SH.keep (s : SH Γ Z Lt g h H) {q : Path → Prop} (k : Kp Z g g' H H' q) (hq : ∀ r f, q (.fld r f)) (hM : g'.M = g.M) (hH : ∀ a o, a ∈ g.M → H a = some o → H' a = some o)
    (gh : ∀ a o, g'.G a = some o → H' a = some o) (zh : ∀ a o, Z a = some o → H' a = some o) (gz : ∀ a o, Z a = some o → g'.G a = none) (mf : ∀ a, a ∈ g.M → g'.G a = none ∧ g'.O a = none) : SH Γ Z Lt g' h H' :=
  ⟨gh, zh, gz, by rw [hM]; exact s.ml, by rw [hM]; exact s.mn, fun a m => by rw [hM] at m; exact ⟨(mf a m).1, (s.mf a m).2.1, (mf a m).2⟩, fun r lo a e1 e2 => by
    rw [hM] at e2
    exact (s.ob r lo a e1 e2).keep k (hq r) (fun o e => hH a o (List.mem_of_getElem? e2) e), s.nd, s.lz⟩
theorem SR.keep (s : SR Γ Z Lt g st σ H) {q : Path → Prop} (k : Kp Z g g' H H' q) (hq : ∀ p, q p) (hM : g'.M = g.M) (hH : ∀ a o, a ∈ g.M → H a = some o → H' a = some o)
    (gh : ∀ a o, g'.G a = some o → H' a = some o) (zh : ∀ a o, Z a = some o → H' a = some o) (gz : ∀ a o, Z a = some o → g'.G a = none) (mf : ∀ a, a ∈ g.M → g'.G a = none ∧ g'.O a = none) : SR Γ Z Lt g' st σ H' :=
  ⟨s.sh.keep k (fun r f => hq _) hM hH gh zh gz mf, s.sl, fun i x e => by
    obtain ⟨v, e1, f⟩ := s.sv i x e
    exact ⟨v, e1, f.keep k (hq _)⟩⟩

/-! ### a new object that stands still -/
noncomputable abbrev GM.put (g : GM) (p : Addr) (o : HO) : GM := { g with G := upd g.G p o }
theorem put_same {g : GM} {p : Addr} {o : HO} : (g.put p o).G p = some o := upd_same
theorem put_ne {g : GM} {p a : Addr} {o : HO} (h : a ≠ p) : (g.put p o).G a = g.G a := upd_ne h
theorem GLe.put {G : Hp} (n : G p = none) : GLe G (upd G p o) := GLe.sub fun a u e => by rw [upd_ne (ne_of_none e n)]; exact e
theorem GT.put (n : g.G p = none) : GT Z g (g.put p o) := ⟨GLe.put n, ⟨[], by simp⟩, fun _ _ _ => rfl, fun a ob u e => by show upd g.G p o a = _; rw [upd_ne (ne_of_none e n)]; exact e⟩
theorem Kp.new (s : SH Γ Z Lt g h H) (n : H p = none) : Kp Z g (g.put p o) H (upd H p o) fun _ => True :=
  ⟨GT.put (s.new n).2.1, fun a q u _ h1 h2 h3 h4 h5 => by
    have ne : a ≠ p := ne_of_none h5 n
    exact ⟨by show upd g.G p o a = none; rw [upd_ne ne]; exact h1, h3, h4, by rw [upd_ne ne]; exact h5⟩⟩
theorem SR.new (s : SR Γ Z Lt g st σ H) (n : H p = none) (o : HO) : SR Γ Z Lt (g.put p o) st σ (upd H p o) := by
  have nn := s.sh.new n
  refine s.keep (Kp.new s.sh n) (fun _ => trivial) rfl (fun a u m e => by rw [upd_ne (ne_of_none e n)]; exact e) (fun a u e => ?_) (fun a u e => ?_) (fun a u e => ?_) fun a m => ?_
  · by_cases q : a = p
    · subst q; rw [put_same] at e; rw [upd_same]; exact e
    · rw [put_ne q] at e; rw [upd_ne q]; exact s.sh.gh a u e
  · rw [upd_ne (ne_of_none e nn.2.2)]; exact s.sh.zh a u e
  · show upd g.G p o a = none
    rw [upd_ne (ne_of_none e nn.2.2)]; exact s.sh.gz a u e
  · have ne : a ≠ p := fun q => nn.1 (q ▸ m)
    exact ⟨by show upd g.G p o a = none; rw [upd_ne ne]; exact (s.sh.mf a m).1, (s.sh.mf a m).2.2⟩
/-- what nobody else knows is let stand -/
theorem Kp.frz (n : g.G a = none) {q : Path → Prop} (hq : ∀ p, g.O a = some p → ¬ q p) : Kp Z g (g.put a o) H H q :=
  ⟨GT.put n, fun b p u hp h1 h2 h3 h4 h5 => by
    have ne : b ≠ a := fun e => hq p (e ▸ h3) hp
    exact ⟨by show upd g.G a o b = none; rw [upd_ne ne]; exact h1, h3, h4, h5⟩⟩
theorem SH.frz (s : SH Γ Z Lt g h H) (n : g.G a = none) (zn : Z a = none) (nm : a ∉ g.M) (e : H a = some o) {q : Path → Prop} (hq : ∀ p, g.O a = some p → ¬ q p) (hf : ∀ r f, q (.fld r f)) : SH Γ Z Lt (g.put a o) h H := by
  refine s.keep (Kp.frz n hq) hf rfl (fun b u m e => e) (fun b u e' => ?_) s.zh (fun b u e' => ?_) fun b m => ?_
  · by_cases q : b = a
    · subst q; rw [put_same] at e'; cases e'; exact e
    · rw [put_ne q] at e'; exact s.gh b u e'
  · show upd g.G a o b = none
    rw [upd_ne (ne_of_none e' zn)]; exact s.gz b u e'
  · have ne : b ≠ a := fun q => nm (q ▸ m)
    exact ⟨by show upd g.G a o b = none; rw [upd_ne ne]; exact (s.mf b m).1, (s.mf b m).2.2⟩
theorem SR.frz (s : SR Γ Z Lt g st σ H) (x : OA Γ Z g H .tmp a d) : ∃ o, H a = some o ∧ CR Γ g d o ∧ SR Γ Z Lt (g.put a o) st σ H ∧ GT Z g (g.put a o) := by
  obtain ⟨h1, h2, h3, h4, o, h5, h6⟩ := x
  have hq : ∀ p : Path, g.O a = some p → ¬ (p ≠ .tmp) := fun p e => by rw [h3] at e; cases e; exact fun z => z rfl
  refine ⟨o, h5, h6, ⟨s.sh.frz h1 h2 h4 h5 hq (fun r f => by simp), s.sl, fun i x e => ?_⟩, GT.put h1⟩
  obtain ⟨v, e1, f⟩ := s.sv i x e
  exact ⟨v, e1, f.keep (Kp.frz h1 hq) (by simp)⟩
theorem CR.rd (h : CR Γ g d o) (e : g.G a = some o) : RD Γ g d (.ref a) := by
  unfold CR at h
  split at h
  · simp only [RD]; exact ⟨a, _, rfl, .inl (.inl e), h⟩
  · simp only [RD]; exact ⟨a, _, rfl, .inl e, h⟩
  · exact h.elim
theorem OA.rd (x : OA Γ Z g H .tmp a d) (s : SR Γ Z Lt g st σ H) : ∃ g', SR Γ Z Lt g' st σ H ∧ GT Z g g' ∧ RD Γ g' d (.ref a) := by
  obtain ⟨o, h1, h2, h3, h4⟩ := s.frz x
  exact ⟨_, h3, h4, CR.rd (h2.mono h4.le h4.mp) upd_same⟩
end
section
variable {Γ : Tab} {W : WX} {X : Cx} {e : Expr} {f : E D}
theorem T.of_TF {σ : L2.St} {H : Hp} {Q : VK} (h : T Γ W f σ H Q) : TF Γ W f σ H Q := by
  obtain ⟨Z, Lt, g, st, s, h⟩ := h
  refine ⟨Z, Lt, g, st, s, h.imp fun d g' st' H' s' t k a x => ?_⟩
  obtain ⟨g2, s2, t2, r⟩ := x.rd s'
  exact k g2 H' s2 t2 _ r
end
end PL

/-! PyLite, part c: names, constants, fields, operators. -/
namespace PL
open PySem PySem.Spec PyProof.Rows L2
section
variable {Γ : Tab} {W : WX} {Z : Hp} {Lt : Lend} {g g' : GM} {st st' : LS} {σ σ' : L2.St} {H H' : Hp} {h h' : List LO} {a p : Addr} {o : HO} {d : D} {v : V} {X : Cx} {e e1 e2 : Expr} {f k : E D}

/-! ### from the stronger to the weaker -/
theorem SV.up (x : SV Γ Z g d v) (t : GT Z g g') : SV Γ Z g' d v := by
  rcases x with x | ⟨a, o, e, z, c⟩
  · exact .inl (x.up t)
  · exact .inr ⟨a, o, e, z, c.mono t.le t.mp⟩
theorem SV.cv (x : SV Γ Z g d v) (s : SR Γ Z Lt g st σ H) : CV Γ g H d v := by
  rcases x with x | ⟨a, o, e, z, c⟩
  · exact .inl x
  · exact .inr ⟨a, o, e, s.sh.zh a o z, c⟩
theorem OA.cv (x : OA Γ Z g H .tmp a d) : CV Γ g H d (.ref a) := by
  obtain ⟨_, _, _, _, o, e, c⟩ := x
  exact .inr ⟨a, o, rfl, e, .inl c⟩
theorem PD.pv (x : PD Γ W X e f) : PV Γ W X e f := ⟨x.pe.csq fun σ H Q ⟨Z, Lt, g, st, s, h⟩ => ⟨Z, Lt, g, st, s, h.imp fun d g' st' H' s' t k v r => k g' H' s' (GT.refl _ _) v (.inl r)⟩⟩
theorem PV.pc (x : PV Γ W X e f) : PC Γ W X e f := ⟨x.pe.csq fun σ H Q ⟨Z, Lt, g, st, s, h⟩ => ⟨Z, Lt, g, st, s, h.imp fun d g' st' H' s' t k v r => k g' H' s' (GT.refl _ _) v (r.cv s')⟩⟩
theorem PD.pc (x : PD Γ W X e f) : PC Γ W X e f := x.pv.pc
theorem PF.pd (x : PF Γ W X e f) : PD Γ W X e f := ⟨x.pe.csq fun σ H Q h => T.of_TF h⟩
theorem PF.pc (x : PF Γ W X e f) : PC Γ W X e f := ⟨x.pe.csq fun σ H Q ⟨Z, Lt, g, st, s, h⟩ => ⟨Z, Lt, g, st, s, h.imp fun d g' st' H' s' t k a r => k g' H' s' (GT.refl _ _) _ r.cv⟩⟩

/-! ### constants -/
noncomputable def eC (d : D) : E D := fun st => .ok d st
theorem T.c (h : T Γ W (eC d) σ H Q) (r : ∀ g, RD Γ g d v) : Q v H := by
  obtain ⟨Z, Lt, g, st, s, h⟩ := h
  exact h g H s (GT.refl _ _) v (r g)
theorem pd_int {i j pos} : PD Γ W X (.Constant (.int i) j pos) (eC (.int i)) := ⟨pe_int.csq fun σ H Q h => h.c fun g => by simp [RD]⟩
theorem pd_bl {b j pos} : PD Γ W X (.Constant (.bool b) j pos) (eC (.bl b)) := ⟨pe_bl.csq fun σ H Q h => h.c fun g => by simp [RD]⟩
theorem pd_non {j pos} : PD Γ W X (.Constant .none j pos) (eC .non) := ⟨pe_non.csq fun σ H Q h => h.c fun g => by simp [RD]⟩
theorem pd_gint {x : Str} {i : Int} {t : Tok} {pos : Pos} (hg : Gl X x) (hm : X.mg x = some (.int i t)) (hd : (x == ("__debug__" : Str)) = false := by decide) : PD Γ W X (.Name x pos) (eC (.int i)) :=
  ⟨(pe_glob hg hm (v := .int i) ⟨t, rfl⟩ hd).csq fun σ H Q h => h.c fun g => by simp [RD]⟩
theorem pd_gstr {x : Str} {i : Str} {t : Tok} {pos : Pos} (hg : Gl X x) (hm : X.mg x = some (.str i t)) (hd : (x == ("__debug__" : Str)) = false := by decide) : PD Γ W X (.Name x pos) (eC (.str i)) :=
  ⟨(pe_glob hg hm (v := .str i) ⟨t, rfl⟩ hd).csq fun σ H Q h => h.c fun g => by simp [RD]⟩

/-! ### names -/
noncomputable def eVar (i : Nat) : E D := fun st => match st.s[i]? with
  | some (some (.val d)) => .ok d st
  | some (some (.own d)) => .ok d { st with s := st.s.set i (some (.val d)) }
  | _ => .bad
/-- read, but not taken -/
noncomputable def cVar (i : Nat) : E D := fun st => match st.s[i]? with
  | some (some (.val d)) => .ok d st
  | some (some (.own d)) => .ok d st
  | some (some (.lent d)) => .ok d st
  | _ => .bad
/-- a value, or lent -/
noncomputable def vVar (i : Nat) : E D := fun st => match st.s[i]? with
  | some (some (.val d)) => .ok d st
  | some (some (.lent d)) => .ok d st
  | _ => .bad
theorem SR.frzS {i : Nat} (s : SR Γ Z Lt g st σ H) (e : st.s[i]? = some (some (.own d))) :
    ∃ g' a, σ[i]? = some (some (.ref a)) ∧ SR Γ Z Lt g' { st with s := st.s.set i (some (.val d)) } σ H ∧ GT Z g g' ∧ RD Γ g' d (.ref a) := by
  obtain ⟨v, e1, a, rfl, h1, h2, h3, h4, o, h5, h6⟩ := s.sv i _ e
  have hq : ∀ p : Path, g.O a = some p → ¬ (p ≠ .loc i) := fun p e => by rw [h3] at e; cases e; exact fun z => z rfl
  have rd : RD Γ (g.put a o) d (.ref a) := CR.rd (h6.mono (GLe.put h1) ⟨[], by simp⟩) put_same
  have hi : i < st.s.length := (List.getElem?_eq_some_iff.mp e).1
  refine ⟨g.put a o, a, e1, ⟨s.sh.frz h1 h2 h4 h5 hq fun r f => by simp, by simpa using s.sl, fun j x ej => ?_⟩, GT.put h1, rd⟩
  by_cases hj : j = i
  · subst hj
    rw [List.getElem?_set_self hi] at ej
    cases ej
    exact ⟨_, e1, rd⟩
  · rw [List.getElem?_set_ne (Ne.symm hj)] at ej
    obtain ⟨w, e2, f⟩ := s.sv j x ej
    exact ⟨w, e2, f.keep (Kp.frz h1 hq) (fun z => hj (by cases z; rfl))⟩
theorem pd_var {i : Nat} {x : Str} {pos : Pos} (hN : X.N[i]? = some x) (hv : Vis X.env.scope x) (hd : (x == ("__debug__" : Str)) = false := by decide) (hcd : (x == ("__classdict__" : Str)) = false := by decide) :
    PD Γ W X (.Name x pos) (eVar i) := ⟨(pe_var hN hv hd hcd).csq fun σ H Q ⟨Z, Lt, g, st, s, h⟩ => by
  unfold eVar at h
  split at h
  · rename_i d e
    obtain ⟨v, e1, r⟩ := s.sv i _ e
    exact ⟨v, e1, h g H s (GT.refl _ _) v r⟩
  · rename_i d e
    obtain ⟨g', a, e1, s', t, r⟩ := s.frzS e
    exact ⟨_, e1, h g' H s' t _ r⟩
  · exact h.elim⟩
theorem SR.cvS {i : Nat} {x : FV} (s : SR Γ Z Lt g st σ H) (e : st.s[i]? = some (some x)) : ∃ v, σ[i]? = some (some v) ∧ CV Γ g H (match x with | .val d => d | .own d => d | .lent d => d) v := by
  obtain ⟨v, e1, r⟩ := s.sv i _ e
  refine ⟨v, e1, ?_⟩
  cases x with
  | val d => exact .inl r
  | own d => obtain ⟨a, rfl, _, _, _, _, o, h5, h6⟩ := r; exact .inr ⟨a, o, rfl, h5, .inl h6⟩
  | lent d => obtain ⟨a, o, rfl, _, h3, h4⟩ := r; exact .inr ⟨a, o, rfl, s.sh.zh a o h3, h4⟩
theorem pc_var {i : Nat} {x : Str} {pos : Pos} (hN : X.N[i]? = some x) (hv : Vis X.env.scope x) (hd : (x == ("__debug__" : Str)) = false := by decide) (hcd : (x == ("__classdict__" : Str)) = false := by decide) :
    PC Γ W X (.Name x pos) (cVar i) := ⟨(pe_var hN hv hd hcd).csq fun σ H Q ⟨Z, Lt, g, st, s, h⟩ => by
  unfold cVar at h
  split at h
  · rename_i d e
    obtain ⟨v, e1, r⟩ := s.cvS e
    exact ⟨v, e1, h g H s (GT.refl _ _) v r⟩
  · rename_i d e
    obtain ⟨v, e1, r⟩ := s.cvS e
    exact ⟨v, e1, h g H s (GT.refl _ _) v r⟩
  · rename_i d e
    obtain ⟨v, e1, r⟩ := s.cvS e
    exact ⟨v, e1, h g H s (GT.refl _ _) v r⟩
  · exact h.elim⟩
theorem pv_var {i : Nat} {x : Str} {pos : Pos} (hN : X.N[i]? = some x) (hv : Vis X.env.scope x) (hd : (x == ("__debug__" : Str)) = false := by decide) (hcd : (x == ("__classdict__" : Str)) = false := by decide) :
    PV Γ W X (.Name x pos) (vVar i) := ⟨(pe_var hN hv hd hcd).csq fun σ H Q ⟨Z, Lt, g, st, s, h⟩ => by
  unfold vVar at h
  split at h
  · rename_i d e
    obtain ⟨v, e1, r⟩ := s.sv i _ e
    exact ⟨v, e1, h g H s (GT.refl _ _) v (.inl r)⟩
  · rename_i d e
    obtain ⟨v, e1, a, o, rfl, _, h3, h4⟩ := s.sv i _ e
    exact ⟨_, e1, h g H s (GT.refl _ _) _ (.inr ⟨a, o, rfl, h3, h4⟩)⟩
  · exact h.elim⟩

/-! ### fields -/
noncomputable def putN (f : Nat) (x : FV) : List (Nat × FV) → List (Nat × FV)
  | [] => [(f, x)]
  | (g, y) :: r => if g = f then (f, x) :: r else (g, y) :: putN f x r
noncomputable def LS.fld (st : LS) (r f : Nat) : Option FV := match st.h[r]? with
  | some (.ins _ fs) => fs.lookup f
  | _ => none
noncomputable def LS.setF (st : LS) (r f : Nat) (x : FV) : LS := match st.h[r]? with
  | some (.ins c fs) => { st with h := st.h.set r (.ins c (putN f x fs)) }
  | _ => st
theorem FR.get {r : Nat} {C : Addr} {f : Nat} {x : FV} (nd : Γ.nm.Nodup) : ∀ {fs : List (Nat × FV)} {ws : List (Str × V)}, FR Γ Z Lt g H r C fs ws → fs.lookup f = some x →
    ∃ n v, Γ.nm[f]? = some n ∧ NoAttr Γ.K C n ∧ ws.lookup n = some v ∧ FVR Γ Z Lt g H (.fld r f) x v
  | [], _, _, e => by simp at e
  | y :: fs, _, F, e => by
    obtain ⟨n, v, q, rfl, h1, h2, h3, _, h4⟩ := F
    rw [List.lookup_cons] at e
    by_cases hf : f = y.1
    · subst hf
      rw [beq_self_eq_true] at e
      cases e
      exact ⟨n, v, h1, h2, by rw [List.lookup_cons, beq_self_eq_true], h3⟩
    · rw [beq_false_of_ne hf] at e
      obtain ⟨m, w, e1, e2, e3, e4⟩ := FR.get nd h4 e
      refine ⟨m, w, e1, e2, ?_, e4⟩
      have ne : m ≠ n := fun z => by
        subst z
        obtain ⟨b1, c1⟩ := List.getElem?_eq_some_iff.mp e1
        obtain ⟨b2, c2⟩ := List.getElem?_eq_some_iff.mp h1
        exact hf ((List.getElem_inj nd).mp (c1.trans c2.symm))
      rw [List.lookup_cons, beq_false_of_ne ne]
      exact e3
theorem SR.fld {r f : Nat} {x : FV} (s : SR Γ Z Lt g st σ H) (hr : g.M[r]? = some a) (e : st.fld r f = some x) :
    ∃ C dx ws n v, H a = some (.ins C dx ws) ∧ Cls Γ.K C ∧ Γ.nm[f]? = some n ∧ NoAttr Γ.K C n ∧ ws.lookup n = some v ∧ FVR Γ Z Lt g H (.fld r f) x v := by
  unfold LS.fld at e
  split at e
  · rename_i c fs e1
    obtain ⟨C, dx, ws, _, h2, h3, h4⟩ := s.sh.ob r _ a e1 hr
    obtain ⟨n, v, h5, h6, h7, h8⟩ := FR.get s.sh.nd h4 e
    exact ⟨C, dx, ws, n, v, h3, h2, h5, h6, h7, h8⟩
  · cases e
end
end PL

/-! PyLite, part d: fields read and stored, operators. -/
namespace PL
open PySem PySem.Spec PyProof.Rows L2
section
variable {Γ : Tab} {W : WX} {Z : Hp} {Lt : Lend} {g g' : GM} {st st' : LS} {σ σ' : L2.St} {H H' : Hp} {h h' : List LO} {a p : Addr} {o : HO} {d : D} {v : V} {X : Cx} {e e1 e2 : Expr} {f k : E D}

theorem putN_keys {f : Nat} {x : FV} : ∀ {fs : List (Nat × FV)} {z : Nat × FV}, z ∈ putN f x fs → z.1 = f ∨ z ∈ fs
  | [], z, m => by simp [putN] at m; exact .inl (by rw [m])
  | (j, y) :: r, z, m => by
    unfold putN at m
    split at m
    · rcases List.mem_cons.mp m with e | m
      · exact .inl (by rw [e])
      · exact .inr (List.mem_cons_of_mem _ m)
    · rcases List.mem_cons.mp m with e | m
      · exact .inr (by rw [e]; exact List.mem_cons_self)
      · rcases putN_keys m with e | m
        · exact .inl e
        · exact .inr (List.mem_cons_of_mem _ m)
theorem nm_ne (nd : Γ.nm.Nodup) {i j : Nat} {n m : Str} (hi : Γ.nm[i]? = some n) (hj : Γ.nm[j]? = some m) (h : i ≠ j) : n ≠ m := fun z => by
  subst z
  obtain ⟨b1, c1⟩ := List.getElem?_eq_some_iff.mp hi
  obtain ⟨b2, c2⟩ := List.getElem?_eq_some_iff.mp hj
  exact h ((List.getElem_inj nd).mp (c1.trans c2.symm))
/-- a field's word changes, its value doesn't -/
theorem FR.rep {r f : Nat} {C : Addr} {x : FV} (nd : Γ.nm.Nodup) (kp : Kp Z g g' H H' fun p => p ≠ .fld r f) : ∀ {fs : List (Nat × FV)} {ws : List (Str × V)} {x0 : FV}, FR Γ Z Lt g H r C fs ws → fs.lookup f = some x0 →
    (∀ n v, Γ.nm[f]? = some n → ws.lookup n = some v → FVR Γ Z Lt g H (.fld r f) x0 v → FVR Γ Z Lt g' H' (.fld r f) x v) → FR Γ Z Lt g' H' r C (putN f x fs) ws
  | [], _, _, _, e, _ => by simp at e
  | (j, y) :: fs, _, x0, F, e, hx => by
    obtain ⟨n, v, q, rfl, h1, h2, h3, h5, h4⟩ := F
    unfold putN
    by_cases hf : j = f
    · subst hf
      rw [if_pos rfl]
      rw [List.lookup_cons, beq_self_eq_true] at e
      cases e
      refine ⟨n, v, q, rfl, h1, h2, hx n v h1 (by rw [List.lookup_cons, beq_self_eq_true]) h3, h5, ?_⟩
      have : ∀ {fs : List (Nat × FV)} {q : List (Str × V)}, (∀ z ∈ fs, z.1 ≠ j) → FR Γ Z Lt g H r C fs q → FR Γ Z Lt g' H' r C fs q := by
        intro fs
        induction fs with
        | nil => intro q _ F; exact F
        | cons z fs ih =>
          intro q hz F
          obtain ⟨n, v, q, e, h1, h2, h3, h5, h4⟩ := F
          exact ⟨n, v, q, e, h1, h2, h3.keep kp (fun c => hz z List.mem_cons_self (by cases c; rfl)), h5, ih (fun w m => hz w (List.mem_cons_of_mem _ m)) h4⟩
      exact this h5 h4
    · rw [if_neg hf]
      rw [List.lookup_cons, beq_false_of_ne (Ne.symm hf)] at e
      refine ⟨n, v, q, rfl, h1, h2, h3.keep kp (fun c => hf (by cases c; rfl)), fun z m => ?_, FR.rep nd kp h4 e fun n' v' hn' l' fv => hx n' v' hn' (by rw [List.lookup_cons, beq_false_of_ne (nm_ne nd hn' h1 (Ne.symm hf))]; exact l') fv⟩
      rcases putN_keys m with e | m
      · rw [e]; exact Ne.symm hf
      · exact h5 z m
/-- a field is stored -/
theorem FR.put {r f : Nat} {C : Addr} {x : FV} {n : Str} (nd : Γ.nm.Nodup) (kp : Kp Z g g' H H' fun p => p ≠ .fld r f) (hn : Γ.nm[f]? = some n) (na : NoAttr Γ.K C n) (hx : FVR Γ Z Lt g' H' (.fld r f) x v) :
    ∀ {fs : List (Nat × FV)} {ws : List (Str × V)}, FR Γ Z Lt g H r C fs ws → FR Γ Z Lt g' H' r C (putN f x fs) (putF n v ws)
  | [], _, F => by
    cases (show _ = [] from F)
    exact ⟨n, v, [], rfl, hn, na, hx, fun z m => (nomatch m), rfl⟩
  | (j, y) :: fs, _, F => by
    obtain ⟨m, w, q, rfl, h1, h2, h3, h5, h4⟩ := F
    unfold putN putF
    by_cases hf : j = f
    · subst hf
      rw [if_pos rfl]
      have e : m = n := by rw [hn] at h1; cases h1; rfl
      subst e
      rw [if_pos rfl]
      refine ⟨m, v, q, rfl, h1, h2, hx, h5, ?_⟩
      have : ∀ {fs : List (Nat × FV)} {q : List (Str × V)}, (∀ z ∈ fs, z.1 ≠ j) → FR Γ Z Lt g H r C fs q → FR Γ Z Lt g' H' r C fs q := by
        intro fs
        induction fs with
        | nil => intro q _ F; exact F
        | cons z fs ih =>
          intro q hz F
          obtain ⟨n, v, q, e, h1, h2, h3, h5, h4⟩ := F
          exact ⟨n, v, q, e, h1, h2, h3.keep kp (fun c => hz z List.mem_cons_self (by cases c; rfl)), h5, ih (fun w m => hz w (List.mem_cons_of_mem _ m)) h4⟩
      exact this h5 h4
    · rw [if_neg hf, if_neg (nm_ne nd h1 hn hf)]
      refine ⟨m, w, _, rfl, h1, h2, h3.keep kp (fun c => hf (by cases c; rfl)), fun z mz => ?_, FR.put nd kp hn na hx h4⟩
      rcases putN_keys mz with e | mz
      · rw [e]; exact Ne.symm hf
      · exact h5 z mz
theorem FR.length {r : Nat} {C : Addr} : ∀ {fs : List (Nat × FV)} {ws : List (Str × V)}, FR Γ Z Lt g H r C fs ws → ws.length = fs.length
  | [], _, F => by cases (show _ = [] from F); rfl
  | y :: fs, _, F => by obtain ⟨m, w, q, rfl, _, _, _, _, h4⟩ := F; simp [FR.length h4]
/-- one object's fields change -/
theorem SH.updO {r c : Nat} {fs fs' : List (Nat × FV)} {q : Path → Prop} (s : SH Γ Z Lt g h H) (kp : Kp Z g g' H H' q) (hq : ∀ j i, j ≠ r → q (.fld j i)) (hM : g'.M = g.M) (hr : g.M[r]? = some a) (hl : h[r]? = some (.ins c fs))
    (hH : ∀ b o, b ∈ g.M → b ≠ a → H b = some o → H' b = some o) (gh : ∀ a o, g'.G a = some o → H' a = some o) (zh : ∀ a o, Z a = some o → H' a = some o) (gz : ∀ a o, Z a = some o → g'.G a = none)
    (mf : ∀ a, a ∈ g.M → g'.G a = none ∧ g'.O a = none) (new : OR Γ Z Lt g' H' r a (.ins c fs')) : SH Γ Z Lt g' (h.set r (.ins c fs')) H' :=
  ⟨gh, zh, gz, by rw [hM, List.length_set]; exact s.ml, by rw [hM]; exact s.mn, fun a m => by rw [hM] at m; exact ⟨(mf a m).1, (s.mf a m).2.1, (mf a m).2⟩, fun j lo b e1 e2 => by
    rw [hM] at e2
    by_cases hj : j = r
    · subst hj
      rw [hr] at e2; cases e2
      rw [List.getElem?_set_self (List.getElem?_eq_some_iff.mp hl).1] at e1
      cases e1
      exact new
    · rw [List.getElem?_set_ne (Ne.symm hj)] at e1
      have ne : b ≠ a := fun z => by
        subst z
        obtain ⟨b1, c1⟩ := List.getElem?_eq_some_iff.mp e2
        obtain ⟨b2, c2⟩ := List.getElem?_eq_some_iff.mp hr
        exact hj ((List.getElem_inj s.mn).mp (c1.trans c2.symm))
      exact (s.ob j lo b e1 e2).keep kp (fun i => hq j i hj) (fun o e => hH b o (List.mem_of_getElem? e2) ne e), s.nd, s.lz⟩
theorem LS.fld_ins {r f : Nat} {x : FV} (e : st.fld r f = some x) : ∃ c fs, st.h[r]? = some (.ins c fs) ∧ fs.lookup f = some x ∧ ∀ y, st.setF r f y = { st with h := st.h.set r (.ins c (putN f y fs)) } := by
  unfold LS.fld at e
  split at e
  · rename_i c fs e1
    exact ⟨c, fs, e1, e, fun y => by unfold LS.setF; rw [e1]⟩
  · cases e
theorem SR.frzF {r f : Nat} (s : SR Γ Z Lt g st σ H) (hr : g.M[r]? = some a) (e : st.fld r f = some (.own d)) :
    ∃ g' C dx ws n b, H a = some (.ins C dx ws) ∧ Cls Γ.K C ∧ Γ.nm[f]? = some n ∧ NoAttr Γ.K C n ∧ ws.lookup n = some (.ref b) ∧ SR Γ Z Lt g' (st.setF r f (.val d)) σ H ∧ GT Z g g' ∧ RD Γ g' d (.ref b) := by
  obtain ⟨C, dx, ws, n, v, h1, h2, h3, h4, h5, b, rfl, k1, k2, k3, k4, o, k5, k6⟩ := s.fld hr e
  obtain ⟨c, fs, l1, l2, l3⟩ := LS.fld_ins e
  have hq : ∀ p : Path, g.O b = some p → ¬ (p ≠ .fld r f) := fun p e => by rw [k3] at e; cases e; exact fun z => z rfl
  have kp : Kp Z g (g.put b o) H H fun p => p ≠ .fld r f := Kp.frz k1 hq
  have rd : RD Γ (g.put b o) d (.ref b) := CR.rd (k6.mono kp.gt.le kp.gt.mp) put_same
  refine ⟨g.put b o, C, dx, ws, n, b, h1, h2, h3, h4, h5, ?_, kp.gt, rd⟩
  rw [l3]
  obtain ⟨C', dx', ws', m1, m2, m3, m4⟩ := s.sh.ob r _ a l1 hr
  rw [h1] at m3; cases m3
  refine ⟨s.sh.updO kp (fun j i hj z => hj (by cases z; rfl)) rfl hr l1 (fun b o _ _ e => e) (fun b' u e' => ?_) s.sh.zh (fun b' u e' => ?_) (fun b' m => ?_) ⟨C, dx, ws, m1, m2, h1, FR.rep s.sh.nd kp m4 l2 fun n' v' hn l' _ => ?_⟩, s.sl, fun i x ei => ?_⟩
  · by_cases q : b' = b
    · subst q; rw [put_same] at e'; cases e'; exact k5
    · rw [put_ne q] at e'; exact s.sh.gh _ _ e'
  · rw [put_ne (ne_of_none e' k2)]; exact s.sh.gz _ _ e'
  · have ne : b' ≠ b := fun z => k4 (z ▸ m)
    exact ⟨by rw [put_ne ne]; exact (s.sh.mf b' m).1, (s.sh.mf b' m).2.2⟩
  · rw [h3] at hn; cases hn
    rw [h5] at l'; cases l'
    exact rd
  · obtain ⟨w, e2, fv⟩ := s.sv i x ei
    exact ⟨w, e2, fv.keep kp (by simp)⟩
end
end PL

/-! PyLite, part e: field reads, operators, tests. -/
namespace PL
open PySem PySem.Spec PyProof.Rows L2
section
variable {Γ : Tab} {W : WX} {Z : Hp} {Lt : Lend} {g g' : GM} {st st' : LS} {σ σ' : L2.St} {H H' : Hp} {h h' : List LO} {a p : Addr} {o : HO} {d : D} {v : V} {X : Cx} {e e1 e2 : Expr} {f k : E D}

noncomputable def D.ref : D → Option Nat
  | .obj r => some r
  | _ => none
noncomputable def eFld (i : Nat) (f : E D) : E D := fun st => (f st).bind fun d s1 => match d with
  | .obj r => match s1.fld r i with
    | some (.val x) => .ok x s1
    | some (.own x) => .ok x (s1.setF r i (.val x))
    | _ => .bad
  | _ => .bad
noncomputable def vFld (i : Nat) (f : E D) : E D := fun st => (f st).bind fun d s1 => match d with
  | .obj r => match s1.fld r i with
    | some (.val x) => .ok x s1
    | some (.lent x) => .ok x s1
    | _ => .bad
  | _ => .bad
noncomputable def cFld (i : Nat) (f : E D) : E D := fun st => (f st).bind fun d s1 => match d with
  | .obj r => match s1.fld r i with
    | some (.val x) => .ok x s1
    | some (.own x) => .ok x s1
    | some (.lent x) => .ok x s1
    | _ => .bad
  | _ => .bad
theorem RD.obj {r : Nat} (x : RD Γ g (.obj r) v) : ∃ a, v = .ref a ∧ g.M[r]? = some a := by simpa only [RD] using x
theorem pd_fld {i : Nat} {n : Str} {pos : Pos} (hn : Γ.nm[i]? = some n) (x : PD Γ W X e f) (hK : X.K = Γ.K) (hb : attributeBase e n X.env (eval e X.env) = eval e X.env) : PD Γ W X (.Attribute e n pos) (eFld i f) :=
  ⟨(pe_fld x.pe hb).csq fun σ H Q ⟨Z, Lt, g, st, s, h⟩ => ⟨Z, Lt, g, st, s, h.bind.imp fun d g1 st1 H1 s1 t1 k1 w r => by
    rw [hK]
    cases d with
    | obj r0 =>
      obtain ⟨a, rfl, hr⟩ := RD.obj r
      have k2 := k1 g1 H1 s1 (GT.refl _ _)
      simp only at k2
      split at k2
      · rename_i x' e'
        obtain ⟨C, dx, ws, n', v, h1, h2, h3, h4, h5, h6⟩ := s1.fld hr e'
        rw [hn] at h3; cases h3
        exact ⟨a, C, dx, ws, v, rfl, h1, h2, h4, h5, k2 g1 H1 s1 (GT.refl _ _) v h6⟩
      · rename_i x' e'
        obtain ⟨g2, C, dx, ws, n', b, h1, h2, h3, h4, h5, h6, h7, h8⟩ := s1.frzF hr e'
        rw [hn] at h3; cases h3
        exact ⟨a, C, dx, ws, _, rfl, h1, h2, h4, h5, k2 g2 H1 h6 h7 _ h8⟩
      · exact k2.elim
    | _ => exact (k1 g1 H1 s1 (GT.refl _ _)).elim⟩⟩
theorem SR.cvF {r i : Nat} {x : FV} (s : SR Γ Z Lt g st σ H) (hr : g.M[r]? = some a) (e : st.fld r i = some x) :
    ∃ C dx ws n v, H a = some (.ins C dx ws) ∧ Cls Γ.K C ∧ Γ.nm[i]? = some n ∧ NoAttr Γ.K C n ∧ ws.lookup n = some v ∧ CV Γ g H (match x with | .val d => d | .own d => d | .lent d => d) v := by
  obtain ⟨C, dx, ws, n', v, h1, h2, h3, h4, h5, r⟩ := s.fld hr e
  refine ⟨C, dx, ws, n', v, h1, h2, h3, h4, h5, ?_⟩
  cases x with
  | val d => exact .inl r
  | own d => obtain ⟨a, rfl, _, _, _, _, o, h5, h6⟩ := r; exact .inr ⟨a, o, rfl, h5, .inl h6⟩
  | lent d => obtain ⟨a, o, rfl, _, h3, h4⟩ := r; exact .inr ⟨a, o, rfl, s.sh.zh a o h3, h4⟩
theorem pc_fld {i : Nat} {n : Str} {pos : Pos} (hn : Γ.nm[i]? = some n) (x : PD Γ W X e f) (hK : X.K = Γ.K) (hb : attributeBase e n X.env (eval e X.env) = eval e X.env) : PC Γ W X (.Attribute e n pos) (cFld i f) :=
  ⟨(pe_fld x.pe hb).csq fun σ H Q ⟨Z, Lt, g, st, s, h⟩ => ⟨Z, Lt, g, st, s, h.bind.imp fun d g1 st1 H1 s1 t1 k1 w r => by
    rw [hK]
    cases d with
    | obj r0 =>
      obtain ⟨a, rfl, hr⟩ := RD.obj r
      have k2 := k1 g1 H1 s1 (GT.refl _ _)
      simp only at k2
      split at k2
      all_goals first
        | exact k2.elim
        | (rename_i x' e'
           obtain ⟨C, dx, ws, n', v, h1, h2, h3, h4, h5, h6⟩ := s1.cvF hr e'
           rw [hn] at h3; cases h3
           exact ⟨a, C, dx, ws, v, rfl, h1, h2, h4, h5, k2 g1 H1 s1 (GT.refl _ _) v h6⟩)
    | _ => exact (k1 g1 H1 s1 (GT.refl _ _)).elim⟩⟩
theorem pv_fld {i : Nat} {n : Str} {pos : Pos} (hn : Γ.nm[i]? = some n) (x : PD Γ W X e f) (hK : X.K = Γ.K) (hb : attributeBase e n X.env (eval e X.env) = eval e X.env) : PV Γ W X (.Attribute e n pos) (vFld i f) :=
  ⟨(pe_fld x.pe hb).csq fun σ H Q ⟨Z, Lt, g, st, s, h⟩ => ⟨Z, Lt, g, st, s, h.bind.imp fun d g1 st1 H1 s1 t1 k1 w r => by
    rw [hK]
    cases d with
    | obj r0 =>
      obtain ⟨a, rfl, hr⟩ := RD.obj r
      have k2 := k1 g1 H1 s1 (GT.refl _ _)
      simp only at k2
      split at k2
      · rename_i x' e'
        obtain ⟨C, dx, ws, n', v, h1, h2, h3, h4, h5, h6⟩ := s1.fld hr e'
        rw [hn] at h3; cases h3
        exact ⟨a, C, dx, ws, v, rfl, h1, h2, h4, h5, k2 g1 H1 s1 (GT.refl _ _) v (.inl h6)⟩
      · rename_i x' e'
        obtain ⟨C, dx, ws, n', v, h1, h2, h3, h4, h5, b, o, rfl, _, h6, h7⟩ := s1.fld hr e'
        rw [hn] at h3; cases h3
        exact ⟨a, C, dx, ws, _, rfl, h1, h2, h4, h5, k2 g1 H1 s1 (GT.refl _ _) _ (.inr ⟨b, o, rfl, h6, h7⟩)⟩
      · exact k2.elim
    | _ => exact (k1 g1 H1 s1 (GT.refl _ _)).elim⟩⟩

/-! ### operators: their meaning on data, and what a rule's reading asks -/
noncomputable abbrev Sem2 := D → D → E D
/-- a two-place operation's meaning is held by the rule's reading -/
noncomputable def Holds2 (Γ : Tab) (W : WX) (X : Cx) (r : R2) (m : Sem2) : Prop := ∀ Z Lt g st σ H x y v w Q, SR Γ Z Lt g st σ H → CV Γ g H x v → CV Γ g H y w →
  (Go Γ W Z Lt σ (m x y st) g fun d g' _ H' => ∀ u, RD Γ g' d u → Q u H') → r v w H Q
noncomputable abbrev Sem1 := D → E D
noncomputable def Holds1 (Γ : Tab) (W : WX) (X : Cx) (r : V → Hp → VK → Prop) (m : Sem1) : Prop := ∀ Z Lt g st σ H x v Q, SR Γ Z Lt g st σ H → CV Γ g H x v →
  (Go Γ W Z Lt σ (m x st) g fun d g' _ H' => ∀ u, RD Γ g' d u → Q u H') → r v H Q
/-- .. with a fresh object for its value -/
noncomputable def Holds2F (Γ : Tab) (W : WX) (X : Cx) (r : R2) (m : Sem2) : Prop := ∀ Z Lt g st σ H x y v w Q, SR Γ Z Lt g st σ H → CV Γ g H x v → CV Γ g H y w →
  (Go Γ W Z Lt σ (m x y st) g fun d g' _ H' => ∀ a, OA Γ Z g' H' .tmp a d → Q (.ref a) H') → r v w H Q
noncomputable def Holds1F (Γ : Tab) (W : WX) (X : Cx) (r : V → Hp → VK → Prop) (m : Sem1) : Prop := ∀ Z Lt g st σ H x v Q, SR Γ Z Lt g st σ H → CV Γ g H x v →
  (Go Γ W Z Lt σ (m x st) g fun d g' _ H' => ∀ a, OA Γ Z g' H' .tmp a d → Q (.ref a) H') → r v H Q
noncomputable def eBin (m : Sem2) (f k : E D) : E D := fun st => (f st).bind fun x s1 => (k s1).bind fun y s2 => m x y s2
noncomputable def eUn (m : Sem1) (f : E D) : E D := fun st => (f st).bind m
theorem two {r : R2} {m : Sem2} (hm : Holds2 Γ W X r m) {Q : VK} (h : T Γ W (eBin m f k) σ H Q) : tOp r (TV Γ W f) (TV Γ W k) σ H Q := by
  obtain ⟨Z, Lt, g, st, s, h⟩ := h
  refine ⟨Z, Lt, g, st, s, h.bind.imp fun x g1 st1 H1 s1 t1 k1 v rx => ?_⟩
  refine ⟨Z, Lt, g1, st1, s1, (k1 g1 H1 s1 (GT.refl _ _)).bind.imp fun y g2 st2 H2 s2 t2 k2 w ry => ?_⟩
  exact hm Z Lt g2 st2 σ H2 x y v w Q s2 ((rx.up t2).cv s2) (ry.cv s2) (k2 g2 H2 s2 (GT.refl _ _))
theorem one {r : V → Hp → VK → Prop} {m : Sem1} (hm : Holds1 Γ W X r m) {Q : VK} (h : T Γ W (eUn m f) σ H Q) : TC Γ W f σ H fun v H1 => r v H1 Q := by
  obtain ⟨Z, Lt, g, st, s, h⟩ := h
  refine ⟨Z, Lt, g, st, s, h.bind.imp fun x g1 st1 H1 s1 t1 k1 v rx => ?_⟩
  exact hm Z Lt g1 st1 σ H1 x v Q s1 rx (k1 g1 H1 s1 (GT.refl _ _))
theorem oneF {r : V → Hp → VK → Prop} {m : Sem1} (hm : Holds1F Γ W X r m) {Q : VK} (h : TF Γ W (eUn m f) σ H Q) : TC Γ W f σ H fun v H1 => r v H1 Q := by
  obtain ⟨Z, Lt, g, st, s, h⟩ := h
  refine ⟨Z, Lt, g, st, s, h.bind.imp fun x g1 st1 H1 s1 t1 k1 v rx => ?_⟩
  exact hm Z Lt g1 st1 σ H1 x v Q s1 rx (k1 g1 H1 s1 (GT.refl _ _))
theorem pd_bin {op : Operator} {r : R2} {m : Sem2} {pos : Pos} (ho : OpR X (binaryOp op) r) (hm : Holds2 Γ W X r m) (x : PV Γ W X e1 f) (y : PV Γ W X e2 k) : PD Γ W X (.BinOp e1 op e2 pos) (eBin m f k) :=
  ⟨(pe_op ho x.pe y.pe).csq fun σ H Q h => two hm h⟩
theorem pd_un {op : UnaryOp} {r : V → Hp → VK → Prop} {m : Sem1} {pos : Pos} (ho : UnR X (unaryOp op) r) (hm : Holds1 Γ W X r m) (x : PC Γ W X e f) : PD Γ W X (.UnaryOp op e pos) (eUn m f) :=
  ⟨(pe_un ho x.pe).csq fun σ H Q h => one hm h⟩

/-! ### data on ints and texts -/
theorem CV.int {i : Int} (c : CV Γ g H (.int i) v) : v = .int i := by
  rcases c with c | ⟨a, o, _, _, c | ⟨_, _, _, c⟩⟩
  · simpa only [RD] using c
  · cases o <;> exact c.elim
  · rename_i u _; cases u <;> exact c.elim
theorem CV.bl {i : Bool} (c : CV Γ g H (.bl i) v) : v = .bl i := by
  rcases c with c | ⟨a, o, _, _, c | ⟨_, _, _, c⟩⟩
  · simpa only [RD] using c
  · cases o <;> exact c.elim
  · rename_i u _; cases u <;> exact c.elim
theorem CV.str {i : Str} (c : CV Γ g H (.str i) v) : v = .str i := by
  rcases c with c | ⟨a, o, _, _, c | ⟨_, _, _, c⟩⟩
  · simpa only [RD] using c
  · cases o <;> exact c.elim
  · rename_i u _; cases u <;> exact c.elim
theorem CV.non (c : CV Γ g H .non v) : v = .non := by
  rcases c with c | ⟨a, o, _, _, c | ⟨_, _, _, c⟩⟩
  · simpa only [RD] using c
  · cases o <;> exact c.elim
  · rename_i u _; cases u <;> exact c.elim
theorem CV.obj {r : Nat} (c : CV Γ g H (.obj r) v) : ∃ a, v = .ref a ∧ g.M[r]? = some a := by
  rcases c with c | ⟨a, o, _, _, c | ⟨_, _, _, c⟩⟩
  · exact RD.obj c
  · cases o <;> exact c.elim
  · rename_i u _; cases u <;> exact c.elim
theorem CV.tup {ds : List D} (c : CV Γ g H (.tup ds) v) (s : SR Γ Z Lt g st σ H) : ∃ a vs, v = .ref a ∧ SqT Γ.K H a vs ∧ RDs Γ g ds vs := by
  rcases c with c | ⟨a, o, _, _, c | ⟨_, _, _, c⟩⟩
  · simp only [RD] at c
    obtain ⟨a, vs, e, q, r⟩ := c
    exact ⟨a, vs, e, sqT_le (GLe.sub s.sh.gh) q, r⟩
  · cases o <;> exact c.elim
  · rename_i u _; cases u <;> exact c.elim
theorem CV.lst {ds : List D} (c : CV Γ g H (.lst ds) v) (s : SR Γ Z Lt g st σ H) : ∃ a vs, v = .ref a ∧ SqL Γ.K H a vs ∧ RDs Γ g ds vs := by
  rcases c with c | ⟨a, o, e, eo, c | ⟨ob, u, e2, c⟩⟩
  · simp only [RD] at c
    obtain ⟨a, vs, e, q, r⟩ := c
    exact ⟨a, vs, e, sqL_le (GLe.sub s.sh.gh) q, r⟩
  · cases o <;> first | exact c.elim | exact ⟨a, _, e, .inl (.inl eo), c⟩
  · subst e2
    cases u <;> first | exact c.elim | exact ⟨a, _, e, .inl (.inr ⟨ob, eo⟩), c⟩
theorem CV.dic {ds : List (Key × D)} (c : CV Γ g H (.dic ds) v) (s : SR Γ Z Lt g st σ H) : ∃ a vs, v = .ref a ∧ Rd H a (.dK vs) ∧ RDk Γ g ds vs := by
  rcases c with c | ⟨a, o, e, eo, c | ⟨ob, u, e2, c⟩⟩
  · simp only [RD] at c
    obtain ⟨a, vs, e, q, r⟩ := c
    exact ⟨a, vs, e, GLe.sub s.sh.gh _ _ rfl q, r⟩
  · cases o <;> first | exact c.elim | exact ⟨a, _, e, .inl eo, c⟩
  · subst e2
    cases u <;> first | exact c.elim | exact ⟨a, _, e, .inr ⟨ob, eo⟩, c⟩
theorem RD.int {i : Int} : RD Γ g (.int i) (.int i) := by simp [RD]
theorem RD.bl {i : Bool} : RD Γ g (.bl i) (.bl i) := by simp [RD]
theorem RD.str {i : Str} : RD Γ g (.str i) (.str i) := by simp [RD]
theorem RD.non : RD Γ g .non .non := by simp [RD]
/-- an answer that changes nothing -/
theorem ret_int {i : Int} {Q : VK} (s : SR Γ Z Lt g st σ H) (h : Go Γ W Z Lt σ (.ok (.int i) st) g fun d g' _ H' => ∀ u, RD Γ g' d u → Q u H') : Q (.int i) H := h g H s (GT.refl _ _) _ .int
theorem ret_bl {i : Bool} {Q : VK} (s : SR Γ Z Lt g st σ H) (h : Go Γ W Z Lt σ (.ok (.bl i) st) g fun d g' _ H' => ∀ u, RD Γ g' d u → Q u H') : Q (.bl i) H := h g H s (GT.refl _ _) _ .bl
theorem ret_str {i : Str} {Q : VK} (s : SR Γ Z Lt g st σ H) (h : Go Γ W Z Lt σ (.ok (.str i) st) g fun d g' _ H' => ∀ u, RD Γ g' d u → Q u H') : Q (.str i) H := h g H s (GT.refl _ _) _ .str

/-- ints -/
noncomputable def mInt (C : Int → Int → Prop) [∀ i j, Decidable (C i j)] (o : Int → Int → D) : Sem2 := fun x y st => match x, y with
  | .int i, .int j => if C i j then .ok (o i j) st else .bad
  | _, _ => .bad
theorem holds_int {C : Int → Int → Prop} [∀ i j, Decidable (C i j)] {o : Int → Int → Int} : Holds2 Γ W X (rI C fun i j => .int (o i j)) (mInt C fun i j => .int (o i j)) := by
  intro Z Lt g st σ H x y v w Q s rx ry h
  unfold mInt at h
  split at h
  · rename_i i j
    rw [rx.int, ry.int]
    split at h
    · exact ⟨i, j, rfl, rfl, ‹_›, ret_int s h⟩
    · exact h.elim
  · exact h.elim
noncomputable def mInt0 (o : Int → Int → D) : Sem2 := fun x y st => match x, y with
  | .int i, .int j => .ok (o i j) st
  | _, _ => .bad
theorem holds_int0 {o : Int → Int → Int} : Holds2 Γ W X (rI0 fun i j => .int (o i j)) (mInt0 fun i j => .int (o i j)) := by
  intro Z Lt g st σ H x y v w Q s rx ry h
  unfold mInt0 at h
  split at h
  · rw [rx.int, ry.int]; exact ⟨_, _, rfl, rfl, ret_int s h⟩
  · exact h.elim
theorem holds_cmp0 {o : Int → Int → Bool} : Holds2 Γ W X (rI0 fun i j => .bl (o i j)) (mInt0 fun i j => .bl (o i j)) := by
  intro Z Lt g st σ H x y v w Q s rx ry h
  unfold mInt0 at h
  split at h
  · rw [rx.int, ry.int]; exact ⟨_, _, rfl, rfl, ret_bl s h⟩
  · exact h.elim
theorem Holds2.or {r r' : R2} {m m' mm : Sem2} (h : Holds2 Γ W X r m) (h' : Holds2 Γ W X r' m') (c : ∀ x y st, mm x y st = m x y st ∨ mm x y st = m' x y st) : Holds2 Γ W X (fun x y H Q => r x y H Q ∨ r' x y H Q) mm := by
  intro Z Lt g st σ H x y v w Q s rx ry hh
  rcases c x y st with e | e
  · exact .inl (h Z Lt g st σ H x y v w Q s rx ry (by rw [← e]; exact hh))
  · exact .inr (h' Z Lt g st σ H x y v w Q s rx ry (by rw [← e]; exact hh))
end
end PL

/-! PyLite, part f: the operators by name, tests, displays. -/
namespace PL
open PySem PySem.Spec PyProof.Rows L2
section
variable {Γ : Tab} {W : WX} {Z : Hp} {Lt : Lend} {g g' : GM} {st st' : LS} {σ σ' : L2.St} {H H' : Hp} {h h' : List LO} {a p : Addr} {o : HO} {d : D} {v : V} {X : Cx} {e e1 e2 e3 : Expr} {f k : E D} {pos : Pos}

/-! ### new objects -/
noncomputable abbrev GM.tmp (g : GM) (p : Addr) (q : Path) : GM := { g with O := fun b => if b = p then some q else g.O b }
theorem tmp_same {q : Path} : (g.tmp p q).O p = some q := if_pos rfl
theorem tmp_ne {q : Path} (h : a ≠ p) : (g.tmp p q).O a = g.O a := if_neg h
theorem Kp.newT (s : SH Γ Z Lt g h H) (n : H p = none) (q : Path) : Kp Z g (g.tmp p q) H (upd H p o) fun _ => True :=
  ⟨⟨GLe.refl _, ⟨[], by simp⟩, fun a u e => tmp_ne (ne_of_none e (s.new n).2.2), fun _ _ _ h => h⟩, fun a t _ _ h1 h2 h3 h4 h5 => by
    have ne : a ≠ p := ne_of_none h5 n
    exact ⟨h1, by rw [tmp_ne ne]; exact h3, h4, by rw [upd_ne ne]; exact h5⟩⟩
theorem SR.newT (s : SR Γ Z Lt g st σ H) (n : H p = none) (c : CR Γ g d o) : SR Γ Z Lt (g.tmp p .tmp) st σ (upd H p o) ∧ GT Z g (g.tmp p .tmp) ∧ OA Γ Z (g.tmp p .tmp) (upd H p o) .tmp p d := by
  have nn := s.sh.new n
  have kp := Kp.newT (o := o) s.sh n .tmp
  refine ⟨s.keep kp (fun _ => trivial) rfl (fun a u m e => by rw [upd_ne (ne_of_none e n)]; exact e) (fun a u e => by rw [upd_ne (ne_of_none e nn.2.1)]; exact s.sh.gh a u e)
    (fun a u e => by rw [upd_ne (ne_of_none e nn.2.2)]; exact s.sh.zh a u e) (fun a u e => s.sh.gz a u e) fun a m => ⟨(s.sh.mf a m).1, (tmp_ne (fun q => nn.1 (by rw [← q]; exact m))).trans (s.sh.mf a m).2.2⟩, kp.gt, nn.2.1, nn.2.2, tmp_same, nn.1, o, upd_same, c.mono kp.gt.le kp.gt.mp⟩
/-- a fresh list is given out -/
theorem retF {ds : List D} {vs : List V} {Q : VK} (s : SR Γ Z Lt g st σ H) (r : RDs Γ g ds vs) (h : Go Γ W Z Lt σ (.ok (.lst ds) st) g fun d g' _ H' => ∀ a, OA Γ Z g' H' .tmp a d → Q (.ref a) H') :
    ∀ p, H p = none → Q (.ref p) (upd H p (.lst vs)) := fun p n => by
  obtain ⟨s', t, x⟩ := s.newT (d := .lst ds) (o := .lst vs) n r
  exact h _ _ s' t _ x
theorem Holds2F.toV {r : R2} {m : Sem2} (x : Holds2F Γ W X r m) : Holds2 Γ W X r m := by
  intro Z Lt g st σ H x' y v w Q s rx ry h
  refine x Z Lt g st σ H x' y v w Q s rx ry (h.imp fun d g' st' H' s' t k a oa => ?_)
  obtain ⟨g2, s2, t2, rd⟩ := oa.rd s'
  exact k g2 H' s2 t2 _ rd
theorem Holds1F.toV {r : V → Hp → VK → Prop} {m : Sem1} (x : Holds1F Γ W X r m) : Holds1 Γ W X r m := by
  intro Z Lt g st σ H x' v Q s rx h
  refine x Z Lt g st σ H x' v Q s rx (h.imp fun d g' st' H' s' t k a oa => ?_)
  obtain ⟨g2, s2, t2, rd⟩ := oa.rd s'
  exact k g2 H' s2 t2 _ rd

/-! ### + -/
noncomputable def rCatL (K : PySem.W.Frag) : R2 := fun x y H Q => ∃ l b xs zs, x = .ref l ∧ y = .ref b ∧ SqL K H l xs ∧ SqL K H b zs ∧ xs.length + zs.length ≤ sizeLine ∧ ∀ p, H p = none → Q (.ref p) (upd H p (.lst (xs ++ zs)))
theorem op_catL : OpR X (binaryOp .Add) (rCatL X.K) := by
  intro pins s σ H x y v u Q I rx ry h
  obtain ⟨l, b, xs, zs, rfl, rfl, hL, hB, hz, q⟩ := h
  cases rx
  cases ry
  obtain ⟨its, r, ⟨o, n, e, c1, c2, c3⟩, _⟩ := I.list hL
  obtain ⟨its2, r2, ⟨o2, n2, e2, d1, d2, d3⟩, _⟩ := I.list hB
  obtain ⟨oc, od, odt, osl⟩ := o
  obtain ⟨oc2, od2, odt2, osl2⟩ := o2
  simp only at c1 c2 c3 d1 d2 d3
  subst c1 c2 c3 d1 d2 d3
  have hsz : its.toArray.size + its2.toArray.size ≤ sizeLine := by
    rw [List.size_toArray, List.size_toArray, ← r.length, ← r2.length]; exact hz
  have ea : its.toArray ++ its2.toArray = (its ++ its2).toArray := by simp
  refine concat_meets ⟨_, e, rfl⟩ ⟨_, e2, rfl⟩ noFill_list_add seq_list_add F.slot_list_add F.entry_list_add (F.args_list_add_2 _ _)
    (list_addW l b its.toArray its2.toArray n n2 none none osl osl2 hsz) ⟨e, e2, ?_⟩
  rw [ea]
  exact ⟨.ref _, _, I.lnew (t' := s.toks) (r.append r2) (by rw [List.length_append]; exact hz), rfl, q _ I.fresh⟩
noncomputable def mCat : Sem2 := fun x y st => match x, y with
  | .lst xs, .lst ys => if xs.length + ys.length ≤ 16777216 then .ok (.lst (xs ++ ys)) st else .bad
  | _, _ => .bad
theorem holds_cat (hK : X.K = Γ.K) : Holds2F Γ W X (rCatL X.K) mCat := by
  intro Z Lt g st σ H x y v w Q s rx ry h
  unfold mCat at h
  split at h
  · rename_i xs ys
    split at h
    · rename_i hl
      obtain ⟨a, vs, rfl, q1, r1⟩ := rx.lst s
      obtain ⟨b, ws, rfl, q2, r2⟩ := ry.lst s
      exact ⟨a, b, vs, ws, rfl, rfl, by rw [hK]; exact q1, by rw [hK]; exact q2, by rw [← r1.length, ← r2.length, sizeLine_eq]; exact hl, retF s (r1.append r2) h⟩
    · exact h.elim
  · exact h.elim
noncomputable def mStr : Sem2 := fun x y st => match x, y with
  | .str i, .str j => if i.length + j.length ≤ 16777216 then .ok (.str (i ++ j)) st else .bad
  | _, _ => .bad
theorem holds_str : Holds2 Γ W X (fun x y H Q => ∃ i j, x = .str i ∧ y = .str j ∧ i.length + j.length ≤ sizeLine ∧ Q (.str (i ++ j)) H) mStr := by
  intro Z Lt g st σ H x y v w Q s rx ry h
  unfold mStr at h
  split at h
  · rw [rx.str, ry.str]
    split at h
    · rename_i hl
      exact ⟨_, _, rfl, rfl, by rw [sizeLine_eq]; exact hl, ret_str s h⟩
    · exact h.elim
  · exact h.elim
noncomputable def mAdd : Sem2 := fun x y st => match x, y with
  | .int i, .int j => .ok (.int (i + j)) st
  | .str i, .str j => if i.length + j.length ≤ 16777216 then .ok (.str (i ++ j)) st else .bad
  | .lst xs, .lst ys => if xs.length + ys.length ≤ 16777216 then .ok (.lst (xs ++ ys)) st else .bad
  | _, _ => .bad
noncomputable def mAdd2 : Sem2 := fun x y st => match x, y with
  | .int i, .int j => .ok (.int (i + j)) st
  | .str i, .str j => if i.length + j.length ≤ 16777216 then .ok (.str (i ++ j)) st else .bad
  | _, _ => .bad
theorem pd_add (hK : X.K = Γ.K) (x : PV Γ W X e1 f) (y : PV Γ W X e2 k) : PD Γ W X (.BinOp e1 .Add e2 pos) (eBin mAdd f k) := by
  refine pd_bin ((op_add.or op_add_str).or op_catL) ?_ x y
  refine Holds2.or (m := mAdd2) (Holds2.or holds_int0 holds_str fun x y st => ?_) (holds_cat hK).toV fun x y st => ?_
  · unfold mAdd2 mInt0 mStr
    split <;> first | exact .inl rfl | exact .inr rfl | (left; split <;> simp_all)
  · unfold mAdd mAdd2 mCat
    split <;> first | exact .inl rfl | exact .inr rfl | (left; split <;> simp_all)
/-! ### the other operators on ints -/
instance : ∀ i j, Decidable (CDivW i j) := fun i j => by unfold CDivW; infer_instance
instance : ∀ i j, Decidable (CMulX i j) := fun i j => by unfold CMulX; infer_instance
instance : ∀ i j, Decidable (CShl i j) := fun i j => by unfold CShl; infer_instance
instance : ∀ i j, Decidable (CPow i j) := fun i j => by unfold CPow; infer_instance
noncomputable def mSub : Sem2 := mInt0 fun i j => .int (i - j)
noncomputable def mMul : Sem2 := mInt CMulX fun i j => .int (i * j)
noncomputable def mDiv : Sem2 := mInt CDivW fun i j => .int (i / j)
noncomputable def mMod : Sem2 := mInt (fun _ j => 0 < j) fun i j => .int (i % j)
noncomputable def mShl : Sem2 := mInt CShl fun i j => .int (i * 2 ^ j.toNat)
noncomputable def mShr : Sem2 := mInt (fun _ j => 0 ≤ j) fun i j => .int (i / 2 ^ j.toNat)
noncomputable def mAnd : Sem2 := mInt0 fun i j => .int (Builtin.bitAnd i j)
theorem pd_sub (x : PV Γ W X e1 f) (y : PV Γ W X e2 k) : PD Γ W X (.BinOp e1 .Sub e2 pos) (eBin mSub f k) := pd_bin op_sub holds_int0 x y
theorem pd_mul (x : PV Γ W X e1 f) (y : PV Γ W X e2 k) : PD Γ W X (.BinOp e1 .Mult e2 pos) (eBin mMul f k) := pd_bin op_mulX holds_int x y
theorem pd_div (x : PV Γ W X e1 f) (y : PV Γ W X e2 k) : PD Γ W X (.BinOp e1 .FloorDiv e2 pos) (eBin mDiv f k) := pd_bin op_fdivW holds_int x y
theorem pd_mod (x : PV Γ W X e1 f) (y : PV Γ W X e2 k) : PD Γ W X (.BinOp e1 .Mod e2 pos) (eBin mMod f k) := pd_bin op_mod holds_int x y
theorem pd_shl (x : PV Γ W X e1 f) (y : PV Γ W X e2 k) : PD Γ W X (.BinOp e1 .LShift e2 pos) (eBin mShl f k) := pd_bin op_shlW holds_int x y
theorem pd_shr (x : PV Γ W X e1 f) (y : PV Γ W X e2 k) : PD Γ W X (.BinOp e1 .RShift e2 pos) (eBin mShr f k) := pd_bin op_shr holds_int x y
theorem pd_bitand (x : PV Γ W X e1 f) (y : PV Γ W X e2 k) : PD Γ W X (.BinOp e1 .BitAnd e2 pos) (eBin mAnd f k) := pd_bin op_and holds_int0 x y
noncomputable def mNeg : Sem1 := fun x st => match x with
  | .int i => .ok (.int (-i)) st
  | _ => .bad
theorem pd_neg (x : PC Γ W X e f) : PD Γ W X (.UnaryOp .USub e pos) (eUn mNeg f) := by
  refine pd_un un_neg (fun Z Lt g st σ H x v Q s rx h => ?_) x
  unfold mNeg at h
  split at h
  · rw [rx.int]; exact ⟨_, rfl, ret_int s h⟩
  · exact h.elim

/-! ### comparisons -/
noncomputable def mLt : Sem2 := mInt0 fun i j => .bl (decide (i < j))
noncomputable def mLe : Sem2 := mInt0 fun i j => .bl (decide (i ≤ j))
noncomputable def mGt : Sem2 := mInt0 fun i j => .bl (decide (j < i))
noncomputable def mGe : Sem2 := mInt0 fun i j => .bl (decide (j ≤ i))
theorem holds_lt : Holds2 Γ W X (rI0 fun i j => .bl (decide (i < j))) mLt := holds_cmp0
theorem holds_le : Holds2 Γ W X (rI0 fun i j => .bl (decide (i ≤ j))) mLe := holds_cmp0
theorem holds_gt : Holds2 Γ W X (rI0 fun i j => .bl (decide (j < i))) mGt := holds_cmp0
theorem holds_ge : Holds2 Γ W X (rI0 fun i j => .bl (decide (j ≤ i))) mGe := holds_cmp0
mutual
noncomputable def pyd : D → Option PyData
  | .non => some .none
  | .bl b => some (.bool b)
  | .int i => some (.int i)
  | .str x => some (.str x)
  | .tup ds => (pyds ds).map .tuple
  | .lst ds => (pyds ds).map .list
  | _ => none
noncomputable def pyds : List D → Option (List PyData)
  | [] => some []
  | d :: ds => (pyd d).bind fun x => (pyds ds).map (x :: ·)
end
end
end PL

/-! PyLite, part g: equality, tests, displays, items. -/
namespace PL
open PySem PySem.Spec PyProof.Rows L2
mutual
noncomputable def deq : D → D → Bool
  | .non, .non => true
  | .bl a, .bl b => a == b
  | .bl a, .int j => (if a then 1 else 0) == j
  | .int i, .bl b => i == (if b then 1 else 0)
  | .int i, .int j => i == j
  | .str x, .str y => x == y
  | .tup xs, .tup ys => deqs xs ys
  | .lst xs, .lst ys => deqs xs ys
  | _, _ => false
noncomputable def deqs : List D → List D → Bool
  | [], [] => true
  | x :: xs, y :: ys => deq x y && deqs xs ys
  | _, _ => false
end
mutual
/-- data without objects, at most n deep -/
noncomputable def pln : Nat → D → Bool
  | _, .non => true
  | _, .bl _ => true
  | _, .int _ => true
  | _, .str x => PyData.strOk x
  | n + 1, .tup ds => plns n ds
  | n + 1, .lst ds => plns n ds
  | _, _ => false
noncomputable def plns : Nat → List D → Bool
  | _, [] => true
  | n, d :: ds => pln n d && plns n ds
end
mutual
noncomputable def toP : D → PyData
  | .bl b => .bool b
  | .int i => .int i
  | .str x => .str x
  | .tup ds => .tuple (toPs ds)
  | .lst ds => .list (toPs ds)
  | _ => .none
noncomputable def toPs : List D → List PyData
  | [] => []
  | d :: ds => toP d :: toPs ds
end
section
variable {Γ : Tab} {W : WX} {Z : Hp} {Lt : Lend} {g g' : GM} {st st' : LS} {σ σ' : L2.St} {H H' : Hp} {h h' : List LO} {a p : Addr} {o : HO} {d : D} {v : V} {X : Cx} {e e1 e2 e3 : Expr} {f k l : E D} {pos : Pos}
mutual
theorem pln_p : ∀ (n : Nat) (d : D), pln n d = true → (toP d).canLay0 = true ∧ (toP d).depth ≤ n
  | n, .non, _ => by cases n <;> simp [toP, PyData.canLay0, PyData.depth]
  | n, .bl b, _ => by cases n <;> simp [toP, PyData.canLay0, PyData.depth]
  | n, .int b, _ => by cases n <;> simp [toP, PyData.canLay0, PyData.depth]
  | n, .str b, h => by cases n <;> simpa [toP, PyData.canLay0, PyData.depth, pln] using h
  | n + 1, .tup ds, h => by
    have := plns_p n ds (by simpa [pln] using h)
    simp only [toP, PyData.canLay0, PyData.depth]
    exact ⟨this.1, Nat.succ_le_succ this.2⟩
  | n + 1, .lst ds, h => by
    have := plns_p n ds (by simpa [pln] using h)
    simp only [toP, PyData.canLay0, PyData.depth]
    exact ⟨this.1, Nat.succ_le_succ this.2⟩
  | 0, .tup ds, h => by simp [pln] at h
  | 0, .lst ds, h => by simp [pln] at h
  | n, .dic ds, h => by cases n <;> simp [pln] at h
  | n, .obj ds, h => by cases n <;> simp [pln] at h
  | n, .err ds, h => by cases n <;> simp [pln] at h
theorem plns_p : ∀ (n : Nat) (ds : List D), plns n ds = true → PyData.canLayAll0 (toPs ds) = true ∧ PyData.depthAll (toPs ds) ≤ n
  | n, [], _ => by cases n <;> simp [toPs, PyData.canLayAll0, PyData.depthAll]
  | n, d :: ds, h => by
    simp only [plns, Bool.and_eq_true] at h
    have h1 := pln_p n d h.1
    have h2 := plns_p n ds h.2
    simp only [toPs, PyData.canLayAll0, PyData.depthAll, Bool.and_eq_true]
    exact ⟨⟨h1.1, h2.1⟩, Nat.max_le.mpr ⟨h1.2, h2.2⟩⟩
end
mutual
theorem deq_p : ∀ (n m : Nat) (x y : D), pln n x = true → pln m y = true → PyData.eqv (toP x) (toP y) = deq x y
  | n, m, .non, y, _, h => by cases y <;> first | (simp [toP, PyData.eqv, deq]; done) | (cases m <;> simp [pln] at h)
  | n, m, .bl b, y, _, h => by cases y <;> first | (simp [toP, PyData.eqv, deq]; done) | (cases m <;> simp [pln] at h)
  | n, m, .int b, y, _, h => by cases y <;> first | (simp [toP, PyData.eqv, deq]; done) | (cases m <;> simp [pln] at h)
  | n, m, .str b, y, _, h => by cases y <;> first | (simp [toP, PyData.eqv, deq]; done) | (cases m <;> simp [pln] at h)
  | n + 1, m, .tup ds, y, h1, h => by
    cases y with
    | tup es =>
      cases m with
      | zero => simp [pln] at h
      | succ m => simp only [toP, PyData.eqv, deq]; exact deqs_p n m ds es (by simpa [pln] using h1) (by simpa [pln] using h)
    | _ => first | (simp [toP, PyData.eqv, deq]; done) | (cases m <;> simp [pln] at h)
  | n + 1, m, .lst ds, y, h1, h => by
    cases y with
    | lst es =>
      cases m with
      | zero => simp [pln] at h
      | succ m => simp only [toP, PyData.eqv, deq]; exact deqs_p n m ds es (by simpa [pln] using h1) (by simpa [pln] using h)
    | _ => first | (simp [toP, PyData.eqv, deq]; done) | (cases m <;> simp [pln] at h)
  | 0, _, .tup ds, _, h, _ => by simp [pln] at h
  | 0, _, .lst ds, _, h, _ => by simp [pln] at h
  | n, _, .dic ds, _, h, _ => by cases n <;> simp [pln] at h
  | n, _, .obj ds, _, h, _ => by cases n <;> simp [pln] at h
  | n, _, .err ds, _, h, _ => by cases n <;> simp [pln] at h
theorem deqs_p : ∀ (n m : Nat) (x y : List D), plns n x = true → plns m y = true → PyData.eqvAll (toPs x) (toPs y) = deqs x y
  | _, _, [], [], _, _ => by simp [toPs, PyData.eqvAll, deqs]
  | _, _, [], _ :: _, _, _ => by simp [toPs, PyData.eqvAll, deqs]
  | _, _, _ :: _, [], _, _ => by simp [toPs, PyData.eqvAll, deqs]
  | n, m, x :: xs, y :: ys, h1, h2 => by
    simp only [plns, Bool.and_eq_true] at h1 h2
    simp only [toPs, PyData.eqvAll, deqs]
    rw [deq_p n m x y h1.1 h2.1, deqs_p n m xs ys h1.2 h2.2]
end
mutual
theorem RD.dp (gh : ∀ a o, g.G a = some o → H a = some o) : ∀ (n : Nat) (d : D) (v : V), pln n d = true → RD Γ g d v → Dp Γ.K H v (toP d)
  | n, .non, v, _, r => by simp only [RD] at r; subst r; simp only [toP]; exact .non
  | n, .bl b, v, _, r => by simp only [RD] at r; subst r; simp only [toP]; exact .bl b
  | n, .int b, v, _, r => by simp only [RD] at r; subst r; simp only [toP]; exact .int b
  | n, .str b, v, _, r => by simp only [RD] at r; subst r; simp only [toP]; exact .str b
  | n + 1, .tup ds, v, h, r => by
    simp only [RD] at r
    obtain ⟨a, vs, rfl, q, r⟩ := r
    simp only [toP]
    exact .tup (sqT_le (GLe.sub gh) q) (RDs.dp gh n ds vs (by simpa [pln] using h) r)
  | n + 1, .lst ds, v, h, r => by
    simp only [RD] at r
    obtain ⟨a, vs, rfl, q, r⟩ := r
    simp only [toP]
    exact .lst (sqL_le (GLe.sub gh) q) (RDs.dp gh n ds vs (by simpa [pln] using h) r)
  | 0, .tup ds, _, h, _ => by simp [pln] at h
  | 0, .lst ds, _, h, _ => by simp [pln] at h
  | n, .dic ds, _, h, _ => by cases n <;> simp [pln] at h
  | n, .obj ds, _, h, _ => by cases n <;> simp [pln] at h
  | n, .err ds, _, h, _ => by cases n <;> simp [pln] at h
theorem RDs.dp (gh : ∀ a o, g.G a = some o → H a = some o) : ∀ (n : Nat) (d : List D) (v : List V), plns n d = true → RDs Γ g d v → DpAll Γ.K H v (toPs d)
  | n, [], v, _, r => by simp only [RDs] at r; subst r; simp only [toPs]; exact .nil
  | n, d :: ds, v, h, r => by
    simp only [RDs] at r
    obtain ⟨v, q, rfl, r1, r2⟩ := r
    simp only [plns, Bool.and_eq_true] at h
    simp only [toPs]
    exact .cons (RD.dp gh n d v h.1 r1) (RDs.dp gh n ds q h.2 r2)
end
theorem CV.dp (s : SR Γ Z Lt g st σ H) {n : Nat} (hp : pln n d = true) (c : CV Γ g H d v) : Dp Γ.K H v (toP d) := by
  cases d with
  | lst ds =>
    obtain ⟨a, vs, rfl, q, r⟩ := c.lst s
    cases n with
    | zero => simp [pln] at hp
    | succ n => simp only [toP]; exact .lst q (RDs.dp s.sh.gh n ds vs (by simpa [pln] using hp) r)
  | tup ds =>
    obtain ⟨a, vs, rfl, q, r⟩ := c.tup s
    cases n with
    | zero => simp [pln] at hp
    | succ n => simp only [toP]; exact .tup q (RDs.dp s.sh.gh n ds vs (by simpa [pln] using hp) r)
  | non => rw [c.non]; simp only [toP]; exact .non
  | bl b => rw [c.bl]; simp only [toP]; exact .bl b
  | int b => rw [c.int]; simp only [toP]; exact .int b
  | str b => rw [c.str]; simp only [toP]; exact .str b
  | _ => cases n <;> simp [pln] at hp
theorem shaped_of {n : Nat} (hn : n ≤ 64) (hp : pln n d = true) : SeqAt.shaped (toP d) = true := by
  have := pln_p n d hp
  unfold SeqAt.shaped
  rw [this.1, Bool.true_and, decide_eq_true_eq]
  omega
noncomputable def mEq : Sem2 := fun x y st => if pln 20 x && pln 20 y then .ok (.bl (deq x y)) st else .bad
noncomputable def mNe : Sem2 := fun x y st => if pln 20 x && pln 20 y then .ok (.bl (!deq x y)) st else .bad
theorem holds_eq (hK : X.K = Γ.K) : Holds2 Γ W X (rEqD X.K) mEq := by
  intro Z Lt g st σ H x y v w Q s rx ry h
  unfold mEq at h
  split at h
  · rename_i c
    rw [Bool.and_eq_true] at c
    rw [hK]
    refine ⟨_, _, rx.dp s c.1, ry.dp s c.2, shaped_of (by decide) c.1, shaped_of (by decide) c.2, ?_⟩
    rw [deq_p 20 20 x y c.1 c.2]
    exact ret_bl s h
  · exact h.elim
theorem holds_ne (hK : X.K = Γ.K) : Holds2 Γ W X (rNeD X.K) mNe := by
  intro Z Lt g st σ H x y v w Q s rx ry h
  unfold mNe at h
  split at h
  · rename_i c
    rw [Bool.and_eq_true] at c
    rw [hK]
    refine ⟨_, _, rx.dp s c.1, ry.dp s c.2, shaped_of (by decide) c.1, shaped_of (by decide) c.2, ?_⟩
    rw [deq_p 20 20 x y c.1 c.2]
    exact ret_bl s h
  · exact h.elim

/-! ### comparisons as values and as tests -/
theorem pd_cmp {op : CmpOp} {r : R2} {m : Sem2} (ho : OpR X (compareOp op) r) (hm : Holds2 Γ W X r m) (x : PV Γ W X e1 f) (y : PV Γ W X e2 k) (hb : behindInMarks op e2 = false) : PD Γ W X (.Compare e1 [op] [e2] pos) (eBin m f k) :=
  ⟨(pe_cmpR ho x.pe y.pe hb).csq fun σ H Q h => two hm h⟩
/-- an expression that tells True or False -/
noncomputable def tst (f : E D) : E Bool := fun st => (f st).bind fun d s1 => match d with
  | .bl b => .ok b s1
  | _ => .bad
theorem tst_T {Q : Bool → Hp → Prop} (h : TB Γ W (tst f) σ H Q) : T Γ W f σ H fun x H' => ∃ c, x = .bl c ∧ Q c H' := by
  obtain ⟨Z, Lt, g, st, s, h⟩ := h
  refine ⟨Z, Lt, g, st, s, h.bind.imp fun x g1 st1 H1 s1 t1 k1 v rx => ?_⟩
  have k2 := k1 g1 H1 s1 (GT.refl _ _)
  cases x with
  | bl b => simp only [RD] at rx; exact ⟨b, rx, k2 g1 H1 s1 (GT.refl _ _)⟩
  | _ => exact k2.elim
theorem tst_TC {Q : Bool → Hp → Prop} (h : TB Γ W (tst f) σ H Q) : TC Γ W f σ H fun x H' => ∃ c, x = .bl c ∧ Q c H' := by
  obtain ⟨Z, Lt, g, st, s, h⟩ := h
  refine ⟨Z, Lt, g, st, s, h.bind.imp fun x g1 st1 H1 s1 t1 k1 v rx => ?_⟩
  have k2 := k1 g1 H1 s1 (GT.refl _ _)
  cases x with
  | bl b => exact ⟨b, rx.bl, k2 g1 H1 s1 (GT.refl _ _)⟩
  | _ => exact k2.elim
theorem pb_cmp {op : CmpOp} {r : R2} {m : Sem2} (ho : OpR X (compareOp op) r) (hm : Holds2 Γ W X r m) (x : PV Γ W X e1 f) (y : PV Γ W X e2 k) (hb : behindInMarks op e2 = false) : PB Γ W X (.Compare e1 [op] [e2] pos) (tst (eBin m f k)) :=
  ⟨(pt_cmpR ho x.pe y.pe hb).csq fun σ H Q h => two hm (tst_T h)⟩
theorem pb_val (x : PC Γ W X e f) (he : ∀ whole, isTrue e X.env whole = (do let v ← whole; standAt e.pos; holding [v] (truthy v))) : PB Γ W X e (tst f) :=
  ⟨(pt_val x.pe he).csq fun σ H Q h => tst_TC h⟩

/-! ### and, or, not -/
section
variable {b1 b2 : E Bool} {es : List Expr}
noncomputable def bAnd (f k : E Bool) : E Bool := fun st => (f st).bind fun b s1 => if b then k s1 else .ok false s1
noncomputable def bOr (f k : E Bool) : E Bool := fun st => (f st).bind fun b s1 => if b then .ok true s1 else k s1
noncomputable def bNot (f : E Bool) : E Bool := fun st => (f st).bind fun b s1 => .ok (!b) s1
structure PW (Γ : Tab) (W : WX) (X : Cx) (e : Expr) (f : E Bool) : Prop where
  pw : L2.PW X e (TB Γ W f)
theorem _root_.L2.PW.csq {X : Cx} {e : Expr} {t u : TT} (h : L2.PW X e t) (i : ∀ σ H Q, u σ H Q → t σ H Q) : L2.PW X e u := ⟨fun wh pins s σ H Q I w => h.run wh pins s σ H Q I (i _ _ _ w)⟩
theorem PW.pb (x : PW Γ W X e b1) : PB Γ W X e b1 := ⟨x.pw.pt⟩
theorem pw_and1' (x : PB Γ W X e b1) : PW Γ W X (.BoolOp .And [e] pos) b1 := ⟨pw_and1 x.pt⟩
theorem pw_or1' (x : PB Γ W X e b1) : PW Γ W X (.BoolOp .Or [e] pos) b1 := ⟨pw_or1 x.pt⟩
theorem tb_and {Q : Bool → Hp → Prop} (h : TB Γ W (bAnd b1 b2) σ H Q) : tAnd (TB Γ W b1) (TB Γ W b2) σ H Q := by
  obtain ⟨Z, Lt, g, st, s, h⟩ := h
  refine ⟨Z, Lt, g, st, s, h.bind.imp fun x g1 st1 H1 s1 t1 k1 => ?_⟩
  have k2 := k1 g1 H1 s1 (GT.refl _ _)
  cases x with
  | true => exact ⟨Z, Lt, g1, st1, s1, k2⟩
  | false => exact k2 g1 H1 s1 (GT.refl _ _)
theorem tb_or {Q : Bool → Hp → Prop} (h : TB Γ W (bOr b1 b2) σ H Q) : tOr (TB Γ W b1) (TB Γ W b2) σ H Q := by
  obtain ⟨Z, Lt, g, st, s, h⟩ := h
  refine ⟨Z, Lt, g, st, s, h.bind.imp fun x g1 st1 H1 s1 t1 k1 => ?_⟩
  have k2 := k1 g1 H1 s1 (GT.refl _ _)
  cases x with
  | false => exact ⟨Z, Lt, g1, st1, s1, k2⟩
  | true => exact k2 g1 H1 s1 (GT.refl _ _)
theorem pw_and' (x : PB Γ W X e1 b1) (y : PW Γ W X (.BoolOp .And (e2 :: es) pos) b2) : PW Γ W X (.BoolOp .And (e1 :: e2 :: es) pos) (bAnd b1 b2) := ⟨(pw_and x.pt y.pw).csq fun σ H Q h => tb_and h⟩
theorem pw_or' (x : PB Γ W X e1 b1) (y : PW Γ W X (.BoolOp .Or (e2 :: es) pos) b2) : PW Γ W X (.BoolOp .Or (e1 :: e2 :: es) pos) (bOr b1 b2) := ⟨(pw_or x.pt y.pw).csq fun σ H Q h => tb_or h⟩
theorem pb_not (x : PB Γ W X e b1) : PB Γ W X (.UnaryOp .Not e pos) (bNot b1) := ⟨(pt_not x.pt).csq fun σ H Q ⟨Z, Lt, g, st, s, h⟩ =>
  ⟨Z, Lt, g, st, s, h.bind.imp fun x g1 st1 H1 s1 t1 k1 => k1 g1 H1 s1 (GT.refl _ _) g1 H1 s1 (GT.refl _ _)⟩⟩
/-- as values -/
noncomputable def eAnd (f k : E D) : E D := fun st => (tst f st).bind fun b s1 => if b then k s1 else .ok (.bl false) s1
noncomputable def eOr (f k : E D) : E D := fun st => (tst f st).bind fun b s1 => if b then .ok (.bl true) s1 else k s1
theorem Go.tst {α : Type} {Q : α → GM → LS → Hp → Prop} {K : Bool → LS → Res α} {r : Res D} {g : GM} (h : Go Γ W Z Lt σ ((PL.tst (fun _ => r) st).bind K) g Q) :
    Go Γ W Z Lt σ r g fun d g1 st1 H1 => ∃ b, d = .bl b ∧ Go Γ W Z Lt σ (K b st1) g1 Q := by
  have h1 := Go.bind h
  unfold PL.tst at h1
  refine (Go.bind h1).imp fun d g1 st1 H1 s1 t1 k1 => ?_
  have k2 := k1 g1 H1 s1 (GT.refl _ _)
  cases d with
  | bl b => exact ⟨b, rfl, k2 g1 H1 s1 (GT.refl _ _)⟩
  | _ => exact k2.elim
theorem pd_one {op} (x : PD Γ W X e f) : PD Γ W X (.BoolOp op [e] pos) f := ⟨pe_one x.pe⟩
theorem pd_and (x : PD Γ W X e1 f) (y : PD Γ W X (.BoolOp .And (e2 :: es) pos) k) : PD Γ W X (.BoolOp .And (e1 :: e2 :: es) pos) (eAnd f k) :=
  ⟨(pe_and x.pe y.pe).csq fun σ H Q ⟨Z, Lt, g, st, s, h⟩ => ⟨Z, Lt, g, st, s, (Go.tst (st := st) h).imp fun d g1 st1 H1 s1 t1 k1 v r => by
    obtain ⟨b, rfl, k2⟩ := k1 g1 H1 s1 (GT.refl _ _)
    simp only [RD] at r
    refine ⟨b, r, ?_⟩
    cases b with
    | true => exact ⟨Z, Lt, g1, st1, s1, k2⟩
    | false => exact k2 g1 H1 s1 (GT.refl _ _) _ .bl⟩⟩
theorem pd_or (x : PD Γ W X e1 f) (y : PD Γ W X (.BoolOp .Or (e2 :: es) pos) k) : PD Γ W X (.BoolOp .Or (e1 :: e2 :: es) pos) (eOr f k) :=
  ⟨(pe_or x.pe y.pe).csq fun σ H Q ⟨Z, Lt, g, st, s, h⟩ => ⟨Z, Lt, g, st, s, (Go.tst (st := st) h).imp fun d g1 st1 H1 s1 t1 k1 v r => by
    obtain ⟨b, rfl, k2⟩ := k1 g1 H1 s1 (GT.refl _ _)
    simp only [RD] at r
    refine ⟨b, r, ?_⟩
    cases b with
    | false => exact ⟨Z, Lt, g1, st1, s1, k2⟩
    | true => exact k2 g1 H1 s1 (GT.refl _ _) _ .bl⟩⟩
noncomputable def eIf (c : E Bool) (f k : E D) : E D := fun st => (c st).bind fun b s1 => if b then f s1 else k s1
theorem pd_ifExp (c : PB Γ W X e b1) (x : PD Γ W X e1 f) (y : PD Γ W X e2 k) : PD Γ W X (.IfExp e e1 e2 pos) (eIf b1 f k) :=
  ⟨(pe_ifExp c.pt x.pe y.pe).csq fun σ H Q ⟨Z, Lt, g, st, s, h⟩ => ⟨Z, Lt, g, st, s, h.bind.imp fun b g1 st1 H1 s1 t1 k1 => by
    have k2 := k1 g1 H1 s1 (GT.refl _ _)
    cases b with
    | true => exact ⟨Z, Lt, g1, st1, s1, k2⟩
    | false => exact ⟨Z, Lt, g1, st1, s1, k2⟩⟩⟩
end
end
end PL

/-! PyLite, part h: argument lists, displays, items, slices, in, the common built-ins. -/
namespace PL
open PySem PySem.Spec PyProof.Rows L2
/-- the item at a place of either sign -/
noncomputable def atD {α : Type} (xs : List α) (i : Int) : Option α := if 0 ≤ i then xs[i.toNat]? else if -(xs.length : Int) ≤ i then xs[(i + xs.length).toNat]? else none
theorem atI_atD {α : Type} (xs : List α) (i : Int) : atI xs i = atD xs i := by
  unfold atI ixN atD
  split
  · split
    · rfl
    · rename_i h1 h2
      have : xs.length ≤ i.toNat := by omega
      simp [List.getElem?_eq_none this]
  · split <;> rfl
/-- xs[lo:hi] -/
noncomputable def cutI (n d : Nat) : Option Int → Nat
  | none => d
  | some i => if i < 0 then (i + n).toNat else min i.toNat n
noncomputable def cutD {α : Type} (xs : List α) (lo hi : Option Int) : List α := (xs.drop (cutI xs.length 0 lo)).take (cutI xs.length xs.length hi - cutI xs.length 0 lo)
theorem cutI_eq (n d : Nat) (o : Option Int) : HT.sIx n d o = cutI n d o := by
  cases o with
  | none => rfl
  | some i =>
    have h := HT.clip_eq i n d
    unfold cutI
    by_cases c : i < 0
    · rw [if_pos c] at h
      show HT.sIx n d (some i) = if i < 0 then _ else _
      rw [if_pos c]; omega
    · rw [if_neg c] at h
      show HT.sIx n d (some i) = if i < 0 then _ else _
      rw [if_neg c]; omega
section
variable {Γ : Tab} {W : WX} {Z : Hp} {Lt : Lend} {g g' : GM} {st st' : LS} {σ σ' : L2.St} {H H' : Hp} {h h' : List LO} {a p : Addr} {o : HO} {d : D} {v : V} {X : Cx} {e e1 e2 e3 : Expr} {es : List Expr} {f k l : E D} {pos pos2 ppos : Pos}
theorem ints_rd : ∀ (ns : List Int), RDs Γ g (ns.map D.int) (ns.map V.int)
  | [] => RDs.nil
  | n :: ns => RDs.cons RD.int (ints_rd ns)

/-! ### lists of expressions -/
structure PDs (Γ : Tab) (W : WX) (X : Cx) (es : List Expr) (f : E (List D)) : Prop where
  pa : PA X es (TAs Γ W f)
noncomputable def eNil : E (List D) := fun st => .ok [] st
noncomputable def eCons (f : E D) (k : E (List D)) : E (List D) := fun st => (f st).bind fun d s1 => (k s1).bind fun ds s2 => .ok (d :: ds) s2
theorem pds_nil : PDs Γ W X [] eNil := ⟨pa_nil.csq fun σ H Q ⟨Z, Lt, g, st, s, h⟩ => h g H s (GT.refl _ _) [] RDs.nil⟩
theorem pds_cons {fs : E (List D)} (x : PD Γ W X e f) (y : PDs Γ W X es fs) (hs : starEach (e :: es) X.env = (false, eval e X.env) :: starEach es X.env := by rfl) : PDs Γ W X (e :: es) (eCons f fs) :=
  ⟨(pa_cons x.pe y.pa hs).csq fun σ H Q ⟨Z, Lt, g, st, s, h⟩ => ⟨Z, Lt, g, st, s, h.bind.imp fun d g1 st1 H1 s1 t1 k1 v r =>
    ⟨Z, Lt, g1, st1, s1, (k1 g1 H1 s1 (GT.refl _ _)).bind.imp fun ds g2 st2 H2 s2 t2 k2 vs rs => k2 g2 H2 s2 (GT.refl _ _) g2 H2 s2 (GT.refl _ _) _ (RDs.cons (r.up t2) rs)⟩⟩⟩
noncomputable def eTup (fs : E (List D)) : E D := fun st => (fs st).bind fun ds s1 => if ds.length ≤ 16777216 then .ok (.tup ds) s1 else .bad
noncomputable def eLst (fs : E (List D)) : E D := fun st => (fs st).bind fun ds s1 => if ds.length ≤ 16777216 then .ok (.lst ds) s1 else .bad
theorem pd_tup {x1} {fs : E (List D)} (x : PDs Γ W X es fs) : PD Γ W X (.Tuple es x1 pos) (eTup fs) :=
  ⟨(pe_tup x.pa).csq fun σ H Q ⟨Z, Lt, g, st, s, h⟩ => ⟨Z, Lt, g, st, s, h.bind.imp fun ds g1 st1 H1 s1 t1 k1 vs rs => by
    have k2 := k1 g1 H1 s1 (GT.refl _ _)
    split at k2
    · rename_i hl
      refine ⟨by rw [← rs.length, sizeLine_eq]; exact hl, fun p n => ?_⟩
      have nn := (s1.sh.new n).2.1
      refine k2 _ _ (s1.new n (.tup vs)) (GT.put nn) _ ?_
      simp only [RD]
      exact ⟨p, vs, rfl, .inl (.inl put_same), RDs.mono (GLe.put nn) ⟨[], by simp⟩ _ _ rs⟩
    · exact k2.elim⟩⟩
theorem pf_lst {fs : E (List D)} (x : PDs Γ W X es fs) : PF Γ W X (.List es pos) (eLst fs) :=
  ⟨(pe_lst x.pa).csq fun σ H Q ⟨Z, Lt, g, st, s, h⟩ => ⟨Z, Lt, g, st, s, h.bind.imp fun ds g1 st1 H1 s1 t1 k1 vs rs => by
    have k2 := k1 g1 H1 s1 (GT.refl _ _)
    split at k2
    · rename_i hl
      exact ⟨by rw [← rs.length, sizeLine_eq]; exact hl, retF s1 rs k2⟩
    · exact k2.elim⟩⟩

/-! ### items -/
theorem RDs.at {ds : List D} {vs : List V} {i : Int} (r : RDs Γ g ds vs) (e : atD ds i = some d) : ∃ v, atI vs i = some v ∧ RD Γ g d v := by
  rw [atI_atD]
  unfold atD at e ⊢
  rw [← r.length]
  split at e
  · rw [if_pos ‹_›]; exact r.get e
  · rw [if_neg ‹_›]
    split at e
    · rw [if_pos ‹_›]; exact r.get e
    · cases e
noncomputable def mIx : Sem2 := fun x y st => match x, y with
  | .lst ds, .int i => match atD ds i with
    | some d => .ok d st
    | none => .bad
  | .tup ds, .int i => match atD ds i with
    | some d => .ok d st
    | none => .bad
  | .str z, .int i => if z.length ≤ 16777216 then match atD z.cps.toList i with
    | some c => .ok (.str ⟨#[c]⟩) st
    | none => .bad else .bad
  | _, _ => .bad
theorem holds_ix (hK : X.K = Γ.K) : Holds2 Γ W X (rIx X.K) mIx := by
  intro Z Lt g st σ H x y v w Q s rx ry h
  unfold mIx at h
  split at h
  · rename_i ds i
    obtain ⟨a, vs, rfl, q, r⟩ := rx.lst s
    rw [ry.int]
    split at h
    · rename_i d e
      obtain ⟨u, e2, r2⟩ := r.at e
      exact .inl ⟨a, vs, i, u, rfl, rfl, by rw [hK]; exact q, e2, h g H s (GT.refl _ _) u r2⟩
    · exact h.elim
  · rename_i ds i
    obtain ⟨a, vs, rfl, q, r⟩ := rx.tup s
    rw [ry.int]
    split at h
    · rename_i d e
      obtain ⟨u, e2, r2⟩ := r.at e
      exact .inr (.inl ⟨a, vs, i, u, rfl, rfl, by rw [hK]; exact q, e2, h g H s (GT.refl _ _) u r2⟩)
    · exact h.elim
  · rename_i z i
    rw [rx.str, ry.int]
    split at h
    · rename_i hz
      split at h
      · rename_i c e
        exact .inr (.inr ⟨z, i, c, rfl, rfl, by rw [sizeLine_eq]; exact hz, by rw [atI_atD]; exact e, ret_str s h⟩)
      · exact h.elim
    · exact h.elim
  · exact h.elim
theorem pd_ix (hK : X.K = Γ.K) (x : PV Γ W X e1 f) (y : PV Γ W X e2 k) (hs : PlainIx e2) : PD Γ W X (.Subscript e1 e2 pos) (eBin mIx f k) :=
  ⟨(pe_ix ix_seq x.pe y.pe hs).csq fun σ H Q h => two (holds_ix hK) h⟩

/-! ### slices -/
structure PO (Γ : Tab) (W : WX) (X : Cx) (e : Option Expr) (f : E (Option Int)) : Prop where
  po : L2.PO X e fun σ H Q => ∃ Z Lt g st, SR Γ Z Lt g st σ H ∧ Go Γ W Z Lt σ (f st) g fun b _ _ H' => Q b H'
noncomputable def oNone : E (Option Int) := fun st => .ok none st
noncomputable def oSome (f : E D) : E (Option Int) := fun st => (f st).bind fun d s1 => match d with
  | .int i => .ok (some i) s1
  | _ => .bad
theorem _root_.L2.PO.csq {X : Cx} {e : Option Expr} {t u : TO} (h : L2.PO X e t) (i : ∀ σ H Q, u σ H Q → t σ H Q) : L2.PO X e u := ⟨fun pins s σ H Q I w => h.run pins s σ H Q I (i _ _ _ w)⟩
theorem po_none' : PO Γ W X none oNone := ⟨po_none.csq fun σ H Q ⟨Z, Lt, g, st, s, h⟩ => h g H s (GT.refl _ _)⟩
theorem po_some' (x : PD Γ W X e f) : PO Γ W X (some e) (oSome f) := ⟨(po_some x.pe).csq fun σ H Q ⟨Z, Lt, g, st, s, h⟩ => ⟨Z, Lt, g, st, s, h.bind.imp fun d g1 st1 H1 s1 t1 k1 v r => by
  have k2 := k1 g1 H1 s1 (GT.refl _ _)
  cases d with
  | int i => simp only [RD] at r; exact ⟨i, r, k2 g1 H1 s1 (GT.refl _ _)⟩
  | _ => exact k2.elim⟩⟩
theorem RDs.drop : ∀ {ds : List D} {vs : List V} (n : Nat), RDs Γ g ds vs → RDs Γ g (ds.drop n) (vs.drop n)
  | ds, vs, 0, r => by simpa using r
  | [], vs, n + 1, r => by simp only [RDs] at r; subst r; exact RDs.nil
  | d :: ds, vs, n + 1, r => by
    simp only [RDs] at r
    obtain ⟨v, q, rfl, _, r⟩ := r
    exact RDs.drop n r
theorem RDs.take : ∀ {ds : List D} {vs : List V} (n : Nat), RDs Γ g ds vs → RDs Γ g (ds.take n) (vs.take n)
  | ds, vs, 0, r => by simpa using RDs.nil
  | [], vs, n + 1, r => by simp only [RDs] at r; subst r; exact RDs.nil
  | d :: ds, vs, n + 1, r => by
    simp only [RDs] at r
    obtain ⟨v, q, rfl, r1, r⟩ := r
    exact RDs.cons r1 (RDs.take n r)
theorem RDs.cut {ds : List D} {vs : List V} (lo hi : Option Int) (r : RDs Γ g ds vs) : RDs Γ g (cutD ds lo hi) (cutV vs lo hi) := by
  unfold cutD cutV
  rw [cutI_eq, cutI_eq, ← r.length]
  exact (r.drop _).take _
noncomputable def eSlc (f : E D) (lo hi : E (Option Int)) : E D := fun st => (f st).bind fun x s1 => (lo s1).bind fun i s2 => (hi s2).bind fun j s3 => match x with
  | .lst ds => .ok (.lst (cutD ds i j)) s3
  | _ => .bad
theorem pf_slc {lo hi : Option Expr} {tl th : E (Option Int)} {p2 : Pos} (hK : X.K = Γ.K) (x : PV Γ W X e f) (y : PO Γ W X lo tl) (z : PO Γ W X hi th) : PF Γ W X (.Subscript e (.Slice lo hi none p2) pos) (eSlc f tl th) :=
  ⟨(pe_slice sl_list x.pe y.po z.po).csq fun σ H Q ⟨Z, Lt, g, st, s, h⟩ => ⟨Z, Lt, g, st, s, h.bind.imp fun d g1 st1 H1 s1 t1 k1 v r =>
    ⟨Z, Lt, g1, st1, s1, (k1 g1 H1 s1 (GT.refl _ _)).bind.imp fun i g2 st2 H2 s2 t2 k2 =>
      ⟨Z, Lt, g2, st2, s2, (k2 g2 H2 s2 (GT.refl _ _)).bind.imp fun j g3 st3 H3 s3 t3 k3 => by
        have k4 := k3 g3 H3 s3 (GT.refl _ _)
        cases d with
        | lst ds =>
          obtain ⟨a, vs, rfl, q, r⟩ := ((r.up t2).up t3).cv s3 |>.lst s3
          exact ⟨a, vs, rfl, by rw [hK]; exact q, retF s3 (r.cut i j) k4⟩
        | _ => exact k4.elim⟩⟩⟩⟩

/-! ### in, is None -/
noncomputable def flatD : D → Bool
  | .non => true
  | .bl _ => true
  | .int _ => true
  | .str _ => true
  | _ => false
theorem RD.flat (hf : flatD d = true) (r : RD Γ g d v) : flatV v = true := by
  cases d <;> first | (simp [flatD] at hf; done) | (simp only [RD] at r; subst r; rfl)
theorem RD.eqv {x y : D} {v w : V} (hx : flatD x = true) (hy : flatD y = true) (r : RD Γ g x v) (q : RD Γ g y w) : eqV v w = deq x y := by
  cases x <;> first | (simp [flatD] at hx; done) | (cases y <;> first | (simp [flatD] at hy; done) | (simp only [RD] at r q; subst r q; rfl))
noncomputable def inD (x : D) (ds : List D) : Bool := ds.any fun y => deq y x
theorem RDs.inv {x : D} {w : V} (hx : flatD x = true) (q : RD Γ g x w) : ∀ {ds : List D} {vs : List V}, ds.all flatD = true → RDs Γ g ds vs → inV w vs = inD x ds ∧ vs.all flatV = true
  | [], vs, _, r => by simp only [RDs] at r; subst r; exact ⟨rfl, rfl⟩
  | d :: ds, vs, hf, r => by
    simp only [RDs] at r
    obtain ⟨v, q', rfl, r1, r⟩ := r
    simp only [List.all_cons, Bool.and_eq_true] at hf
    have ih := RDs.inv hx q hf.2 r
    refine ⟨?_, by simp only [List.all_cons, Bool.and_eq_true]; exact ⟨r1.flat hf.1, ih.2⟩⟩
    have h1 := ih.1
    unfold inV inD at h1 ⊢
    rw [List.any_cons, List.any_cons, h1, r1.eqv hf.1 hx q]
noncomputable def mIn (neg : Bool) : Sem2 := fun x y st => match y with
  | .lst ds => if flatD x && ds.all flatD then .ok (.bl (if neg then !inD x ds else inD x ds)) st else .bad
  | .tup ds => if flatD x && ds.all flatD then .ok (.bl (if neg then !inD x ds else inD x ds)) st else .bad
  | _ => .bad
theorem CV.rd_flat (hf : flatD d = true) (c : CV Γ g H d v) : RD Γ g d v := by
  cases d <;> first | (simp [flatD] at hf; done) | (simp only [RD]; first | exact c.int | exact c.bl | exact c.str | exact c.non)
theorem holds_in {neg : Bool} (hK : X.K = Γ.K) : Holds2 Γ W X (rIn X.K neg) (mIn neg) := by
  intro Z Lt g st σ H x y v w Q s rx ry h
  unfold mIn at h
  split at h
  all_goals first
    | exact h.elim
    | (split at h
       · rename_i ds c
         rw [Bool.and_eq_true] at c
         have rx' := rx.rd_flat c.1
         first
           | (obtain ⟨a, vs, rfl, q, r⟩ := ry.lst s
              have z := r.inv c.1 rx' c.2
              refine ⟨a, vs, rfl, .inl (by rw [hK]; exact q), rx'.flat c.1, z.2, ?_⟩
              rw [z.1]; exact ret_bl s h)
           | (obtain ⟨a, vs, rfl, q, r⟩ := ry.tup s
              have z := r.inv c.1 rx' c.2
              refine ⟨a, vs, rfl, .inr (by rw [hK]; exact q), rx'.flat c.1, z.2, ?_⟩
              rw [z.1]; exact ret_bl s h)
       · exact h.elim)
noncomputable def D.isNon : D → Bool
  | .non => true
  | _ => false
theorem CV.isNon (s : SR Γ Z Lt g st σ H) (c : CV Γ g H d v) : decide (v = .non) = d.isNon := by
  cases d with
  | non => rw [c.non]; rfl
  | bl b => rw [c.bl]; rfl
  | int b => rw [c.int]; rfl
  | str b => rw [c.str]; rfl
  | tup ds => obtain ⟨a, vs, rfl, _⟩ := c.tup s; rfl
  | lst ds => obtain ⟨a, vs, rfl, _⟩ := c.lst s; rfl
  | dic ds => obtain ⟨a, vs, rfl, _⟩ := c.dic s; rfl
  | obj r => obtain ⟨a, rfl, _⟩ := c.obj; rfl
  | err r =>
    rcases c with c | ⟨a, o, _, _, c | ⟨_, _, _, c⟩⟩
    · simp only [RD] at c; obtain ⟨a, _, rfl, _⟩ := c; rfl
    · cases o <;> exact c.elim
    · rename_i u _; cases u <;> exact c.elim
noncomputable def mIsN : Sem1 := fun x st => .ok (.bl x.isNon) st
noncomputable def mNotN : Sem1 := fun x st => .ok (.bl (!x.isNon)) st
theorem PD.pb (x : PD Γ W X e f) (he : ∀ whole, isTrue e X.env whole = (do let v ← whole; standAt e.pos; holding [v] (truthy v))) : PB Γ W X e (tst f) := pb_val x.pc he

/-! ### a < b < c -/
end
end PL

/-! PyLite, part i: calls. -/
namespace PL
open PySem PySem.Spec PyProof.Rows L2
section
variable {Γ : Tab} {W : WX} {Z : Hp} {Lt : Lend} {g g' : GM} {st st' : LS} {σ σ' : L2.St} {H H' : Hp} {h h' : List LO} {a p : Addr} {o : HO} {d : D} {v : V} {X : Cx} {e e1 e2 e3 : Expr} {es : List Expr} {f k l : E D} {pos pos2 ppos : Pos}

/-! ### what a callee must not touch -/
theorem ARs.length {Z : Hp} {g : GM} : ∀ {ds : List FV} {vs : List V}, ARs Γ Z g ds vs → vs.length = ds.length
  | [], _, r => by cases (show _ = [] from r); rfl
  | d :: ds, _, r => by obtain ⟨v, q, rfl, _, r2⟩ := r; simp [ARs.length r2]
theorem ARs.get {Z : Hp} {g : GM} : ∀ {ds : List FV} {vs : List V} {i : Nat} {x : FV}, ARs Γ Z g ds vs → ds[i]? = some x → ∃ v, vs[i]? = some v ∧ AR Γ Z g x v
  | [], _, _, _, _, e => by simp at e
  | d :: ds, _, 0, x, r, e => by obtain ⟨v, q, rfl, r1, _⟩ := r; simp at e; subst e; exact ⟨v, by simp, r1⟩
  | d :: ds, _, i + 1, x, r, e => by
    obtain ⟨v, q, rfl, _, r2⟩ := r
    obtain ⟨u, e1, e2⟩ := ARs.get (i := i) r2 (by simpa using e)
    exact ⟨u, by simpa using e1, e2⟩
open Classical in
noncomputable def Zc (Z : Hp) (g : GM) (H : Hp) : Hp := fun a => match Z a with
  | some o => some o
  | none => if (∃ i, g.O a = some (.loc i)) ∧ g.G a = none then H a else none
noncomputable def Lc (Lt : Lend) (fs : List FV) (vs : List V) : Lend
  | .loc i => lentAt fs vs i
  | q => Lt q
theorem Zc_old {o : HO} (e : Z a = some o) : Zc Z g H a = some o := by unfold Zc; rw [e]
theorem Zc_own {i : Nat} (n : Z a = none) (e : g.O a = some (.loc i)) (hg : g.G a = none) : Zc Z g H a = H a := by
  unfold Zc; rw [n]; exact if_pos ⟨⟨i, e⟩, hg⟩
theorem Zc_none (n : Z a = none) (e : ∀ i, g.O a ≠ some (.loc i)) : Zc Z g H a = none := by
  unfold Zc; rw [n]; exact if_neg fun c => by obtain ⟨⟨i, q⟩, _⟩ := c; exact e i q
theorem Zc_some (e : Zc Z g H a = some o) : Z a = some o ∨ (Z a = none ∧ H a = some o ∧ g.G a = none ∧ ∃ i, g.O a = some (.loc i)) := by
  unfold Zc at e
  split at e
  · rename_i u hz; exact .inl (by rw [hz]; exact e)
  · rename_i hz
    split at e
    · rename_i c; exact .inr ⟨hz, e, c.2, c.1⟩
    · cases e
theorem Zc_z (e : Zc Z g H a = none) : Z a = none := by
  cases z : Z a with
  | none => rfl
  | some o => rw [Zc_old z] at e; cases e
theorem SR.callee (s : SR Γ Z Lt g st σ H) (fs : List FV) (vs : List V) (ar : ARs Γ Z g fs vs) : SH Γ (Zc Z g H) (Lc Lt fs vs) g st.h H := by
  have fv : ∀ {r i : Nat} {x : FV} {v : V}, FVR Γ Z Lt g H (.fld r i) x v → FVR Γ (Zc Z g H) (Lc Lt fs vs) g H (.fld r i) x v := by
    intro r i x v f
    cases x with
    | val d => exact f
    | own d =>
      obtain ⟨a, e, h1, h2, h3, h4⟩ := f
      exact ⟨a, e, h1, Zc_none h2 (fun i z => by rw [h3] at z; cases z), h3, h4⟩
    | lent d =>
      obtain ⟨a, o, e, h1, h2, h3⟩ := f
      exact ⟨a, o, e, h1, Zc_old h2, h3⟩
  have fr : ∀ {r : Nat} {C : Addr} {fs' : List (Nat × FV)} {ws : List (Str × V)}, FR Γ Z Lt g H r C fs' ws → FR Γ (Zc Z g H) (Lc Lt fs vs) g H r C fs' ws := by
    intro r C fs'
    induction fs' with
    | nil => intro ws f; exact f
    | cons y fs' ih =>
      intro ws f
      obtain ⟨n, v, q, e, h1, h2, h3, h4, h5⟩ := f
      exact ⟨n, v, q, e, h1, h2, fv h3, h4, ih h5⟩
  refine ⟨s.sh.gh, fun a o e => ?_, fun a o e => ?_, s.sh.ml, s.sh.mn, fun a m => ?_, fun r lo a e1 e2 => ?_, s.sh.nd, fun q a e => ?_⟩
  · rcases Zc_some e with e | ⟨_, e, _⟩
    · exact s.sh.zh a o e
    · exact e
  · rcases Zc_some e with e | ⟨_, _, e, _⟩
    · exact s.sh.gz a o e
    · exact e
  · obtain ⟨m1, m2, m3⟩ := s.sh.mf a m
    refine ⟨m1, fun o e => ?_, m3⟩
    rcases Zc_some e with e | e
    · exact m2 o e
    · obtain ⟨i, z⟩ := e.2.2.2; rw [m3] at z; cases z
  · have q := s.sh.ob r lo a e1 e2
    cases lo with
    | ins c fs' => obtain ⟨C, dx, ws, q1, q2, q3, q4⟩ := q; exact ⟨C, dx, ws, q1, q2, q3, fr q4⟩
    | cell d => exact q
    | lck d => obtain ⟨l, ob, u, h1, h2, h3⟩ := q; exact ⟨l, ob, u, h1, Zc_old h2, h3⟩
  · cases q with
    | loc i =>
      have e : lentAt fs vs i = some a := e
      unfold lentAt at e
      split at e
      · rename_i d b e1 e2
        cases e
        obtain ⟨w, ew, rw'⟩ := ARs.get ar e1
        rw [e2] at ew; cases ew
        obtain ⟨c, o, ec, z, _⟩ := rw'
        cases ec
        exact ⟨o, Zc_old z, trivial⟩
      · cases e
    | fld r f => obtain ⟨o, z, kq⟩ := s.sh.lz (.fld r f) a e; exact ⟨o, Zc_old z, trivial⟩
    | lck r => obtain ⟨o, z, kq⟩ := s.sh.lz (.lck r) a e; exact ⟨o, Zc_old z, kq⟩
    | tmp => obtain ⟨o, z, kq⟩ := s.sh.lz .tmp a e; exact ⟨o, Zc_old z, trivial⟩
theorem SH.back (s : SR Γ Z Lt g st σ H) {fs : List FV} {vs : List V} (s' : SH Γ (Zc Z g H) (Lc Lt fs vs) g' h' H') (t : GT (Zc Z g H) g g') : SR Γ Z Lt g' { st with h := h' } σ H' ∧ GT Z g g' := by
  have fv : ∀ {r i : Nat} {x : FV} {v : V}, FVR Γ (Zc Z g H) (Lc Lt fs vs) g' H' (.fld r i) x v → FVR Γ Z Lt g' H' (.fld r i) x v := by
    intro r i x v f
    cases x with
    | val d => exact f
    | own d =>
      obtain ⟨a, e, h1, h2, h3, h4⟩ := f
      exact ⟨a, e, h1, Zc_z h2, h3, h4⟩
    | lent d =>
      obtain ⟨a, o, e, h1, h2, h3⟩ := f
      obtain ⟨o', z, kq⟩ := s.sh.lz (.fld r i) a h1
      have := Zc_old (g := g) (H := H) z
      rw [h2] at this
      cases this
      exact ⟨a, o, e, h1, z, h3⟩
  have fr : ∀ {r : Nat} {C : Addr} {fs' : List (Nat × FV)} {ws : List (Str × V)}, FR Γ (Zc Z g H) (Lc Lt fs vs) g' H' r C fs' ws → FR Γ Z Lt g' H' r C fs' ws := by
    intro r C fs'
    induction fs' with
    | nil => intro ws f; exact f
    | cons y fs' ih =>
      intro ws f
      obtain ⟨n, v, q, e, h1, h2, h3, h4, h5⟩ := f
      exact ⟨n, v, q, e, h1, h2, fv h3, h4, ih h5⟩
  refine ⟨⟨⟨s'.gh, fun a o e => s'.zh a o (Zc_old e), fun a o e => s'.gz a o (Zc_old e), s'.ml, s'.mn, fun a m => ?_, fun r lo a e1 e2 => ?_, s'.nd, s.sh.lz⟩, s.sl, fun i x ei => ?_⟩, ⟨t.le, t.mp, fun a o e => t.oz a o (Zc_old e), t.lo⟩⟩
  · obtain ⟨m1, m2, m3⟩ := s'.mf a m
    exact ⟨m1, fun o e => m2 o (Zc_old e), m3⟩
  · have q := s'.ob r lo a e1 e2
    cases lo with
    | ins c fs' => obtain ⟨C, dx, ws, q1, q2, q3, q4⟩ := q; exact ⟨C, dx, ws, q1, q2, q3, fr q4⟩
    | cell d => exact q
    | lck d =>
      obtain ⟨l, ob, u, h1, h2, h3⟩ := q
      obtain ⟨o, z, _⟩ := s.sh.lz (.lck a) a l
      have z' := Zc_old (g := g) (H := H) z
      rw [h2] at z'; cases z'
      exact ⟨l, ob, u, h1, z, h3⟩
  · obtain ⟨v, e1, f⟩ := s.sv i x ei
    refine ⟨v, e1, ?_⟩
    cases x with
    | val d => exact RD.mono t.le t.mp d v f
    | own d =>
      obtain ⟨a, e, h1, h2, h3, h4, o, h5, h6⟩ := f
      have z : Zc Z g H a = some o := by rw [Zc_own h2 h3 h1]; exact h5
      refine ⟨a, e, s'.gz a o z, h2, by rw [t.oz a o z]; exact h3, fun m => ?_, o, s'.zh a o z, h6.mono t.le t.mp⟩
      have l := (s'.mf a m).2.1 o z
      obtain ⟨o', z', _⟩ := s.sh.lz (.lck a) a l
      rw [h2] at z'; cases z'
    | lent d =>
      obtain ⟨a, o, e, h1, h2, h3⟩ := f
      exact ⟨a, o, e, h1, h2, h3.mono t.le t.mp⟩
theorem AR.up {x : FV} (r : AR Γ Z g x v) (t : GT Z g g') : AR Γ Z g' x v := by
  cases x with
  | val d => exact RD.up r t
  | own d => exact r
  | lent d => obtain ⟨a, o, e, z, c⟩ := r; exact ⟨a, o, e, z, c.mono t.le t.mp⟩
theorem AR.z {x : FV} (r : AR Γ Z g x v) : AR Γ (Zc Z g' H) g x v := by
  cases x with
  | val d => exact r
  | own d => exact r
  | lent d => obtain ⟨a, o, e, z, c⟩ := r; exact ⟨a, o, e, Zc_old z, c⟩
theorem ARs.z : ∀ {xs : List FV} {vs : List V}, ARs Γ Z g xs vs → ARs Γ (Zc Z g' H) g xs vs
  | [], _, r => r
  | x :: xs, _, r => by obtain ⟨v, q, e, r1, r2⟩ := r; exact ⟨v, q, e, r1.z, ARs.z r2⟩
theorem ARs.cons {x : FV} {xs : List FV} {vs : List V} (r : AR Γ Z g x v) (q : ARs Γ Z g xs vs) : ARs Γ Z g (x :: xs) (v :: vs) := ⟨v, vs, rfl, r, q⟩

/-! ### arguments -/
noncomputable def aNil : E (List FV) := fun st => .ok [] st
noncomputable def aCons (f : E FV) (k : E (List FV)) : E (List FV) := fun st => (f st).bind fun d s1 => (k s1).bind fun ds s2 => .ok (d :: ds) s2
/-- a value handed over; a list lent -/
noncomputable def aV (f : E D) : E FV := fun st => (f st).bind fun d s1 => .ok (.val d) s1
noncomputable def aL (i : Nat) : E FV := fun st => match st.s[i]? with
  | some (some (.val d)) => .ok (.val d) st
  | some (some (.lent d)) => .ok (.lent d) st
  | _ => .bad
structure PArg (Γ : Tab) (W : WX) (X : Cx) (e : Expr) (f : E FV) : Prop where
  pe : PE X e fun σ H Q => ∃ Z Lt g st, SR Γ Z Lt g st σ H ∧ Go Γ W Z Lt σ (f st) g fun d g' _ H' => ∀ v, AR Γ Z g' d v → Q v H'
theorem pa_val (x : PD Γ W X e f) : PArg Γ W X e (aV f) := ⟨x.pe.csq fun σ H Q ⟨Z, Lt, g, st, s, h⟩ => ⟨Z, Lt, g, st, s, h.bind.imp fun d g1 st1 H1 s1 t1 k1 v r => k1 g1 H1 s1 (GT.refl _ _) g1 H1 s1 (GT.refl _ _) v r⟩⟩
theorem pa_lent {i : Nat} {x : Str} {pos : Pos} (hN : X.N[i]? = some x) (hv : Vis X.env.scope x) (hd : (x == ("__debug__" : Str)) = false := by decide) (hcd : (x == ("__classdict__" : Str)) = false := by decide) :
    PArg Γ W X (.Name x pos) (aL i) := ⟨(pe_var hN hv hd hcd).csq fun σ H Q ⟨Z, Lt, g, st, s, h⟩ => by
  unfold aL at h
  split at h
  · rename_i d e
    obtain ⟨v, e1, r⟩ := s.sv i _ e
    exact ⟨v, e1, h g H s (GT.refl _ _) v r⟩
  · rename_i d e
    obtain ⟨v, e1, a, o, rfl, _, h3, h4⟩ := s.sv i _ e
    exact ⟨_, e1, h g H s (GT.refl _ _) _ ⟨a, o, rfl, h3, h4⟩⟩
  · exact h.elim⟩
/-- a field that is lent -/
noncomputable def aF (i : Nat) (f : E D) : E FV := fun st => (f st).bind fun d s1 => match d with
  | .obj r => match s1.fld r i with
    | some (.val x) => .ok (.val x) s1
    | some (.lent x) => .ok (.lent x) s1
    | _ => .bad
  | _ => .bad
theorem pa_fld {i : Nat} {n : Str} {pos : Pos} (hn : Γ.nm[i]? = some n) (x : PD Γ W X e f) (hK : X.K = Γ.K) (hb : attributeBase e n X.env (eval e X.env) = eval e X.env) : PArg Γ W X (.Attribute e n pos) (aF i f) :=
  ⟨(pe_fld x.pe hb).csq fun σ H Q ⟨Z, Lt, g, st, s, h⟩ => ⟨Z, Lt, g, st, s, h.bind.imp fun d g1 st1 H1 s1 t1 k1 w r => by
    rw [hK]
    cases d with
    | obj r0 =>
      obtain ⟨a, rfl, hr⟩ := RD.obj r
      have k2 := k1 g1 H1 s1 (GT.refl _ _)
      simp only at k2
      split at k2
      · rename_i x' e'
        obtain ⟨C, dx, ws, n', v, h1, h2, h3, h4, h5, h6⟩ := s1.fld hr e'
        rw [hn] at h3; cases h3
        exact ⟨a, C, dx, ws, v, rfl, h1, h2, h4, h5, k2 g1 H1 s1 (GT.refl _ _) v h6⟩
      · rename_i x' e'
        obtain ⟨C, dx, ws, n', v, h1, h2, h3, h4, h5, b, o, rfl, _, h6, h7⟩ := s1.fld hr e'
        rw [hn] at h3; cases h3
        exact ⟨a, C, dx, ws, _, rfl, h1, h2, h4, h5, k2 g1 H1 s1 (GT.refl _ _) _ ⟨b, o, rfl, h6, h7⟩⟩
      · exact k2.elim
    | _ => exact (k1 g1 H1 s1 (GT.refl _ _)).elim⟩⟩
theorem args_nil : PArgs Γ W X [] aNil := ⟨pa_nil.csq fun σ H Q ⟨Z, Lt, g, st, s, h⟩ => h g H s (GT.refl _ _) [] rfl⟩
theorem args_cons {fa : E FV} {fs : E (List FV)} (x : PArg Γ W X e fa) (y : PArgs Γ W X es fs) (hs : starEach (e :: es) X.env = (false, eval e X.env) :: starEach es X.env := by rfl) : PArgs Γ W X (e :: es) (aCons fa fs) :=
  ⟨(pa_cons x.pe y.pa hs).csq fun σ H Q ⟨Z, Lt, g, st, s, h⟩ => ⟨Z, Lt, g, st, s, h.bind.imp fun d g1 st1 H1 s1 t1 k1 v r =>
    ⟨Z, Lt, g1, st1, s1, (k1 g1 H1 s1 (GT.refl _ _)).bind.imp fun ds g2 st2 H2 s2 t2 k2 vs rs => k2 g2 H2 s2 (GT.refl _ _) g2 H2 s2 (GT.refl _ _) _ (ARs.cons (r.up t2) rs)⟩⟩⟩

/-! ### a def of the text called -/
noncomputable def outD (st : LS) : FRes → Res D
  | .ret (.val d) h' => .ok d { st with h := h' }
  | .ret (.own d) h' => .ok d { st with h := h' }
  | .ret (.lent _) _ => .bad
  | .exc x h' => .exc x { st with h := h' }
  | .bad => .bad
/-- .. for its fresh list -/
noncomputable def outF (st : LS) : FRes → Res D
  | .ret (.own d) h' => .ok d { st with h := h' }
  | .exc x h' => .exc x { st with h := h' }
  | _ => .bad
noncomputable def eCall (F : Fn) (args : E (List FV)) : E D := fun st => (args st).bind fun fs s1 => outD s1 (F fs s1.h)
noncomputable def eCallF (F : Fn) (args : E (List FV)) : E D := fun st => (args st).bind fun fs s1 => outF s1 (F fs s1.h)
theorem call_sp {F : Fn} {n : Nat} {fs : List FV} {vs : List V} {Q : VK} (s : SR Γ Z Lt g st σ H) (r : ARs Γ Z g fs vs) (hn : fs.length = n) (h : Go Γ W Z Lt σ (outD st (F fs st.h)) g fun d g' _ H' => ∀ v, RD Γ g' d v → Q v H') :
    spF Γ n F vs H Q (WE W σ) := by
  refine ⟨Zc Z g H, Lc Lt fs vs, g, fs, st.h, s.callee fs vs r, r.z, hn, fun i => rfl, ?_⟩
  revert h
  cases F fs st.h with
  | ret x h' =>
    intro h v g' H' s' t f
    obtain ⟨s2, t2⟩ := SH.back s s' t
    cases x with
    | val d => exact h g' H' s2 t2 v f
    | own d =>
      obtain ⟨a, rfl, h1, h2, h3⟩ := f
      have oa : OA Γ Z g' H' .tmp a d := ⟨h1, Zc_z h2, h3⟩
      obtain ⟨g3, s3, t3, rd⟩ := oa.rd s2
      exact h g3 H' s3 (t2.trans t3) _ rd
    | lent d => exact h.elim
  | exc x h' =>
    intro h cls dd g' H' s' t xr
    obtain ⟨s2, t2⟩ := SH.back s s' t
    exact h cls dd g' H' s2 t2 xr
  | bad => exact fun h => h
theorem callF_sp {F : Fn} {n : Nat} {fs : List FV} {vs : List V} {Q : VK} (s : SR Γ Z Lt g st σ H) (r : ARs Γ Z g fs vs) (hn : fs.length = n) (h : Go Γ W Z Lt σ (outF st (F fs st.h)) g fun d g' _ H' => ∀ a, OA Γ Z g' H' .tmp a d → Q (.ref a) H') :
    spF Γ n F vs H Q (WE W σ) := by
  refine ⟨Zc Z g H, Lc Lt fs vs, g, fs, st.h, s.callee fs vs r, r.z, hn, fun i => rfl, ?_⟩
  revert h
  cases F fs st.h with
  | ret x h' =>
    intro h v g' H' s' t f
    obtain ⟨s2, t2⟩ := SH.back s s' t
    cases x with
    | val d => exact h.elim
    | own d =>
      obtain ⟨a, rfl, h1, h2, h3⟩ := f
      exact h g' H' s2 t2 a ⟨h1, Zc_z h2, h3⟩
    | lent d => exact h.elim
  | exc x h' =>
    intro h cls dd g' H' s' t xr
    obtain ⟨s2, t2⟩ := SH.back s s' t
    exact h cls dd g' H' s2 t2 xr
  | bad => exact fun h => h
/-- what a call asks of its def -/
structure Def (Γ : Tab) (X : Cx) (kk : Nat) (x : Str) (n : Nat) (F : Fn) : Prop where
  ex : ∃ (f : Addr) (fd : FuncData) (ps : List Str), FnOk X.prog X.w X.K X.mg X.base (L2.CX X.prog X.w) kk f fd ps (spF Γ n F) ∧ X.mg x = some (.ref f) ∧ PySem.W.keepIn X.K (.ref f) = true ∧ Binds X.K fd ps []
theorem pd_call {F : Fn} {n kk : Nat} {x : Str} {args : E (List FV)} (tk : Takes X W) (Df : Def Γ X kk x n F) (hr : Room kk X.A) (hg : Gl X x) (ha : PArgs Γ W X (e :: es) args) (hn : ∀ st fs s1, args st = .ok fs s1 → fs.length = n)
    (hdb : (x == ("__debug__" : Str)) = false := by decide) (he : starEach (e :: es) X.env = (false, eval e X.env) :: starEach es X.env := by rfl) (hpl : (backTo pos (starEach es X.env)).any (·.1) = false := by rfl) :
    PD Γ W X (.Call (.Name x ppos) (e :: es) [] pos) (eCall F args) := by
  obtain ⟨f, fd, ps, Fo, hm, hk, hb⟩ := Df.ex
  refine ⟨(pe_callS Fo hr hg hm hk hb (fun σ => passAt tk σ) ha.pa hdb he hpl).csq fun σ H Q ⟨Z, Lt, g, st, s, h⟩ => ⟨Z, Lt, g, st, s, ?_⟩⟩
  have h2 := Go.bind h
  cases ea : args st with
  | ok fs s1 =>
    rw [ea] at h2
    exact fun g1 H1 s1' t1 vs rs => call_sp s1' rs (hn st fs s1 ea) (h2 g1 H1 s1' t1)
  | exc x' s1 => rw [ea] at h2; exact h2
  | bad => rw [ea] at h2; exact h2
theorem pf_call {F : Fn} {n kk : Nat} {x : Str} {args : E (List FV)} (tk : Takes X W) (Df : Def Γ X kk x n F) (hr : Room kk X.A) (hg : Gl X x) (ha : PArgs Γ W X (e :: es) args) (hn : ∀ st fs s1, args st = .ok fs s1 → fs.length = n)
    (hdb : (x == ("__debug__" : Str)) = false := by decide) (he : starEach (e :: es) X.env = (false, eval e X.env) :: starEach es X.env := by rfl) (hpl : (backTo pos (starEach es X.env)).any (·.1) = false := by rfl) :
    PF Γ W X (.Call (.Name x ppos) (e :: es) [] pos) (eCallF F args) := by
  obtain ⟨f, fd, ps, Fo, hm, hk, hb⟩ := Df.ex
  refine ⟨(pe_callS Fo hr hg hm hk hb (fun σ => passAt tk σ) ha.pa hdb he hpl).csq fun σ H Q ⟨Z, Lt, g, st, s, h⟩ => ⟨Z, Lt, g, st, s, ?_⟩⟩
  have h2 := Go.bind h
  cases ea : args st with
  | ok fs s1 =>
    rw [ea] at h2
    exact fun g1 H1 s1' t1 vs rs => callF_sp s1' rs (hn st fs s1 ea) (h2 g1 H1 s1' t1)
  | exc x' s1 => rw [ea] at h2; exact h2
  | bad => rw [ea] at h2; exact h2
theorem len_nil : ∀ st fs s1, aNil st = .ok fs s1 → fs.length = 0 := fun st fs s1 e => by cases e; rfl
theorem len_cons {f : E FV} {k : E (List FV)} {n : Nat} (ih : ∀ st fs s1, k st = .ok fs s1 → fs.length = n) : ∀ st fs s1, aCons f k st = .ok fs s1 → fs.length = n + 1 := fun st fs s1 e => by
  unfold aCons at e
  cases e1 : f st with
  | ok d s2 =>
    rw [e1, bind_ok] at e
    cases e2 : k s2 with
    | ok ds s3 => rw [e2, bind_ok] at e; cases e; rw [List.length_cons, ih _ _ _ e2]
    | exc x s3 => rw [e2] at e; cases e
    | bad => rw [e2] at e; cases e
  | exc x s3 => rw [e1] at e; cases e
  | bad => rw [e1] at e; cases e
end
end PL

/-! PyLite, part j: statements. -/
namespace PL
open PySem PySem.Spec PyProof.Rows L2
section
variable {Γ : Tab} {W : WX} {Z : Hp} {Lt : Lend} {g g' : GM} {st st' : LS} {σ σ' : L2.St} {H H' : Hp} {h h' : List LO} {a p : Addr} {o : HO} {d : D} {v : V} {X : Cx} {e e1 e2 e3 : Expr} {es : List Expr} {f k l : E D} {pos pos2 ppos : Pos} {stm : Stmt} {sts : List Stmt} {f1 f2 : S} {D0 : Ends}

/-- a statement by an expression -/
noncomputable def SRes.of {α : Type} (r : Res α) (k : α → LS → SRes) : SRes := match r with
  | .ok a st => k a st
  | .exc x st => .exc x st
  | .bad => .bad
@[simp] theorem of_ok {α : Type} (a : α) (st : LS) (k : α → LS → SRes) : SRes.of (.ok a st) k = k a st := id rfl
@[simp] theorem of_exc {α : Type} (x : XV) (st : LS) (k : α → LS → SRes) : SRes.of (.exc x st : Res α) k = .exc x st := id rfl
@[simp] theorem of_bad {α : Type} (k : α → LS → SRes) : SRes.of (.bad : Res α) k = .bad := id rfl
theorem GoS.up {r : SRes} (h : GoS Γ W Z Lt D0 r g) (t : GT Z g g') : GoS Γ W Z Lt D0 r g' := by
  cases r with
  | nx st => exact fun σ' g2 H' s t2 => h σ' g2 H' s (t.trans t2)
  | ret x st => exact fun v g2 H' s t2 => h v g2 H' s (t.trans t2)
  | bk st => exact fun σ' g2 H' s t2 => h σ' g2 H' s (t.trans t2)
  | ct st => exact fun σ' g2 H' s t2 => h σ' g2 H' s (t.trans t2)
  | exc x st => exact fun cls dd σ' g2 H' s t2 => h cls dd σ' g2 H' s (t.trans t2)
  | bad => exact h
theorem GoS.of {α : Type} {r : Res α} {k : α → LS → SRes} (h : GoS Γ W Z Lt D0 (SRes.of r k) g) : Go Γ W Z Lt σ r g fun a g1 st1 H1 => GoS Γ W Z Lt D0 (k a st1) g1 := by
  cases r with
  | ok a st => exact fun g1 H1 s t => GoS.up h t
  | exc x st => exact fun cls dd g' H' s t xr => h cls dd σ g' H' s t xr
  | bad => exact h

/-! ### blocks -/
noncomputable def sNx : S := fun st => .nx st
noncomputable def sSeq (f1 f2 : S) : S := fun st => match f1 st with
  | .nx st' => f2 st'
  | r => r
theorem sts_nil : PSts Γ W X [] sNx := ⟨pss_nil.csq fun D σ H ⟨Z, Lt, g, st, s, h⟩ => h σ g H s (GT.refl _ _)⟩
theorem seq_T (h : TSt Γ W (sSeq f1 f2) D0 σ H) : tSeq (TSt Γ W f1) (TSt Γ W f2) D0 σ H := by
  obtain ⟨Z, Lt, g, st, s, h⟩ := h
  refine ⟨Z, Lt, g, st, s, ?_⟩
  unfold sSeq at h
  revert h
  cases f1 st with
  | nx st' => exact fun h σ' g' H' s' t => ⟨Z, Lt, g', st', s', h.up t⟩
  | ret x st' => exact fun h => h
  | bk st' => exact fun h => h
  | ct st' => exact fun h => h
  | exc x st' => exact fun h => h
  | bad => exact fun h => h
theorem sts_cons (x : PSt Γ W X stm f1) (y : PSts Γ W X sts f2) : PSts Γ W X (stm :: sts) (sSeq f1 f2) := ⟨(pss_cons x.ps y.ps).csq fun D σ H h => seq_T h⟩
theorem sts_one (x : PSt Γ W X stm f1) : PSts Γ W X [stm] f1 := ⟨pss_one x.ps⟩
noncomputable def sBk : S := fun st => .bk st
theorem st_break : PSt Γ W X (.Break pos) sBk := ⟨ps_break.csq fun D σ H ⟨Z, Lt, g, st, s, h⟩ => h σ g H s (GT.refl _ _)⟩
noncomputable def sEx (f : E D) : S := fun st => SRes.of (f st) fun _ s1 => .nx s1
theorem st_ex (x : PD Γ W X e f) (hs : swapsWith e none pos.line X.env = pure false := by rfl) : PSt Γ W X (.Expr e pos) (sEx f) :=
  ⟨(ps_expr x.pe hs).csq fun D σ H ⟨Z, Lt, g, st, s, h⟩ => ⟨Z, Lt, g, st, s, (GoS.of h).imp fun d g1 st1 H1 s1 t1 k1 v r => k1 g1 H1 s1 (GT.refl _ _) σ g1 H1 s1 (GT.refl _ _)⟩⟩
/-- return -/
noncomputable def sRet (f : E D) : S := fun st => SRes.of (f st) fun d s1 => .ret (.val d) s1
noncomputable def sRetF (f : E D) : S := fun st => SRes.of (f st) fun d s1 => .ret (.own d) s1
theorem st_ret (x : PD Γ W X e f) : PSt Γ W X (.Return (some e) pos) (sRet f) :=
  ⟨(ps_ret x.pe).csq fun D σ H ⟨Z, Lt, g, st, s, h⟩ => ⟨Z, Lt, g, st, s, (GoS.of h).imp fun d g1 st1 H1 s1 t1 k1 v r => k1 g1 H1 s1 (GT.refl _ _) v g1 H1 s1.sh (GT.refl _ _) r⟩⟩
theorem st_retF (x : PF Γ W X e f) : PSt Γ W X (.Return (some e) pos) (sRetF f) :=
  ⟨(ps_ret x.pe).csq fun D σ H ⟨Z, Lt, g, st, s, h⟩ => ⟨Z, Lt, g, st, s, (GoS.of h).imp fun d g1 st1 H1 s1 t1 k1 a r => k1 g1 H1 s1 (GT.refl _ _) (.ref a) g1 H1 s1.sh (GT.refl _ _) ⟨a, rfl, r⟩⟩⟩
/-- return name, the name holding a list of one's own -/
noncomputable def sRetO (i : Nat) : S := fun st => match st.s[i]? with
  | some (some (.own d)) => .ret (.own d) st
  | some (some (.val d)) => .ret (.val d) st
  | _ => .bad
theorem st_retO {i : Nat} {x : Str} (hN : X.N[i]? = some x) (hv : Vis X.env.scope x) (hd : (x == ("__debug__" : Str)) = false := by decide) (hcd : (x == ("__classdict__" : Str)) = false := by decide) :
    PSt Γ W X (.Return (some (.Name x pos2)) pos) (sRetO i) := ⟨(ps_ret (pe_var hN hv hd hcd)).csq fun D σ H ⟨Z, Lt, g, st, s, h⟩ => by
  unfold sRetO at h
  split at h
  · rename_i d e
    obtain ⟨v, e1, a, rfl, h1, h2, h3, h4, o, h5, h6⟩ := s.sv i _ e
    refine ⟨_, e1, ?_⟩
    -- from the name's hand to nobody's
    have nz : ∀ b u, Z b = some u → b ≠ a := fun b u z q => by rw [q, h2] at z; cases z
    have gt : GT Z g (g.tmp a .tmp) := ⟨GLe.refl _, ⟨[], by simp⟩, fun b u z => tmp_ne (nz b u z), fun _ _ _ h => h⟩
    have kp : Kp Z g (g.tmp a .tmp) H H fun p => p ≠ .loc i := ⟨gt, fun b p u hp k1 k2 k3 k4 k5 => by
      have ne : b ≠ a := fun q => by subst q; rw [h3] at k3; cases k3; exact hp rfl
      exact ⟨k1, by rw [tmp_ne ne]; exact k3, k4, k5⟩⟩
    refine h (.ref a) (g.tmp a .tmp) H (s.sh.keep kp (fun r f => by simp) rfl (fun _ _ _ e => e) s.sh.gh s.sh.zh s.sh.gz fun b m => ⟨(s.sh.mf b m).1, ?_⟩) gt ⟨a, rfl, h1, h2, tmp_same, h4, o, h5, h6.mono gt.le gt.mp⟩
    exact (tmp_ne (fun q => h4 (by rw [← q]; exact m))).trans (s.sh.mf b m).2.2
  · rename_i d e
    obtain ⟨v, e1, r⟩ := s.sv i _ e
    exact ⟨v, e1, h v g H s.sh (GT.refl _ _) r⟩
  · exact h.elim⟩
/-- if -/
noncomputable def sIf (c : E Bool) (f1 f2 : S) : S := fun st => SRes.of (c st) fun b s1 => if b then f1 s1 else f2 s1
theorem st_if {c : Expr} {b : E Bool} {s1 s2 : List Stmt} (x : PB Γ W X c b) (y : PSts Γ W X s1 f1) (z : PSts Γ W X s2 f2) : PSt Γ W X (.If c s1 s2 pos) (sIf b f1 f2) :=
  ⟨(ps_if x.pt y.ps z.ps).csq fun D σ H ⟨Z, Lt, g, st, s, h⟩ => ⟨Z, Lt, g, st, s, (GoS.of h).imp fun d g1 st1 H1 s1 t1 k1 => by
    have k2 := k1 g1 H1 s1 (GT.refl _ _)
    cases d with
    | true => exact ⟨Z, Lt, g1, st1, s1, k2⟩
    | false => exact ⟨Z, Lt, g1, st1, s1, k2⟩⟩⟩

/-! ### names stored -/
noncomputable def LS.set (st : LS) (i : Nat) (x : FV) : LS := { st with s := st.s.set i (some x) }
theorem SR.setV (s : SR Γ Z Lt g st σ H) (i : Nat) (r : RD Γ g d v) : SR Γ Z Lt g (st.set i (.val d)) (σ.set i (some v)) H :=
  ⟨s.sh, by simpa [LS.set] using s.sl, fun j x e => by
    have e : (st.s.set i (some (.val d)))[j]? = some (some x) := e
    by_cases hj : j = i
    · subst hj
      by_cases hl : j < st.s.length
      · rw [List.getElem?_set_self hl] at e
        cases e
        exact ⟨v, List.getElem?_set_self (by rw [s.sl]; exact hl), r⟩
      · rw [List.getElem?_eq_none (by simpa using hl)] at e; cases e
    · rw [List.getElem?_set_ne (Ne.symm hj)] at e
      obtain ⟨w, e1, f⟩ := s.sv j x e
      exact ⟨w, by rw [List.getElem?_set_ne (Ne.symm hj)]; exact e1, f⟩⟩
theorem SR.setO (s : SR Γ Z Lt g st σ H) (i : Nat) (x : OA Γ Z g H .tmp a d) : SR Γ Z Lt (g.tmp a (.loc i)) (st.set i (.own d)) (σ.set i (some (.ref a))) H ∧ GT Z g (g.tmp a (.loc i)) := by
  obtain ⟨h1, h2, h3, h4, o, h5, h6⟩ := x
  have nz : ∀ b u, Z b = some u → b ≠ a := fun b u z q => by rw [q, h2] at z; cases z
  have gt : GT Z g (g.tmp a (.loc i)) := ⟨GLe.refl _, ⟨[], by simp⟩, fun b u z => tmp_ne (nz b u z), fun _ _ _ h => h⟩
  have kp : Kp Z g (g.tmp a (.loc i)) H H fun p => p ≠ .tmp := ⟨gt, fun b p u hp k1 k2 k3 k4 k5 => by
    have ne : b ≠ a := fun q => by subst q; rw [h3] at k3; cases k3; exact hp rfl
    exact ⟨k1, by rw [tmp_ne ne]; exact k3, k4, k5⟩⟩
  refine ⟨⟨s.sh.keep kp (fun r f => by simp) rfl (fun _ _ _ e => e) s.sh.gh s.sh.zh s.sh.gz fun b m => ⟨(s.sh.mf b m).1, (tmp_ne (fun q => h4 (by rw [← q]; exact m))).trans (s.sh.mf b m).2.2⟩, by simpa [LS.set] using s.sl, fun j x e => ?_⟩, gt⟩
  have e : (st.s.set i (some (.own d)))[j]? = some (some x) := e
  by_cases hj : j = i
  · subst hj
    by_cases hl : j < st.s.length
    · rw [List.getElem?_set_self hl] at e
      cases e
      exact ⟨_, List.getElem?_set_self (by rw [s.sl]; exact hl), a, rfl, h1, h2, tmp_same, h4, o, h5, h6.mono gt.le gt.mp⟩
    · rw [List.getElem?_eq_none (by simpa using hl)] at e; cases e
  · rw [List.getElem?_set_ne (Ne.symm hj)] at e
    obtain ⟨w, e1, f⟩ := s.sv j x e
    exact ⟨w, by rw [List.getElem?_set_ne (Ne.symm hj)]; exact e1, f.keep kp (by simp)⟩
noncomputable def sSet (i : Nat) (f : E D) : S := fun st => SRes.of (f st) fun d s1 => .nx (s1.set i (.val d))
noncomputable def sSetF (i : Nat) (f : E D) : S := fun st => SRes.of (f st) fun d s1 => .nx (s1.set i (.own d))
theorem setV_T {i : Nat} (h : TSt Γ W (sSet i f) D0 σ H) : tAsg (T Γ W f) (gName i) D0 σ H := by
  obtain ⟨Z, Lt, g, st, s, h⟩ := h
  exact ⟨Z, Lt, g, st, s, (GoS.of h).imp fun d g1 st1 H1 s1 t1 k1 v r => k1 g1 H1 s1 (GT.refl _ _) _ g1 H1 (s1.setV i r) (GT.refl _ _)⟩
theorem setF_T {i : Nat} (h : TSt Γ W (sSetF i f) D0 σ H) : tAsg (TF Γ W f) (gName i) D0 σ H := by
  obtain ⟨Z, Lt, g, st, s, h⟩ := h
  exact ⟨Z, Lt, g, st, s, (GoS.of h).imp fun d g1 st1 H1 s1 t1 k1 a r => k1 g1 H1 s1 (GT.refl _ _) _ _ H1 (s1.setO i r).1 (s1.setO i r).2⟩
theorem st_set {i : Nat} {x : Str} {pos' : Pos} (hN : X.N.Nodup) (hi : X.N[i]? = some x) (hx : Loc X.env.scope x) (y : PD Γ W X e f) (hs : swapsWith e (some (.Name x pos')) pos.line X.env = pure false := by rfl)
    (hf : X.fn x = true ∨ X.env.scope.names.lookup x = some .local := by first | exact .inl rfl | exact .inr rfl | assumption) : PSt Γ W X (.Assign [.Name x pos'] e pos) (sSet i f) := ⟨(ps_set hN hi hx y.pe hs hf).csq fun D σ H h => setV_T h⟩
theorem st_setF {i : Nat} {x : Str} {pos' : Pos} (hN : X.N.Nodup) (hi : X.N[i]? = some x) (hx : Loc X.env.scope x) (y : PF Γ W X e f) (hs : swapsWith e (some (.Name x pos')) pos.line X.env = pure false := by rfl)
    (hf : X.fn x = true ∨ X.env.scope.names.lookup x = some .local := by first | exact .inl rfl | exact .inr rfl | assumption) : PSt Γ W X (.Assign [.Name x pos'] e pos) (sSetF i f) := ⟨(ps_set hN hi hx y.pe hs hf).csq fun D σ H h => setF_T h⟩

/-! ### several targets -/
theorem wipe_set {σ : L2.St} {i : Nat} {x : Option V} : ∀ {ws : List Nat}, i ∈ ws → wipe (σ.set i x) ws = wipe σ ws
  | j :: r, m => by
    show (wipe (σ.set i x) r).set j none = (wipe σ r).set j none
    by_cases c : i ∈ r
    · rw [wipe_set c]
    · have e : i = j := by
        rcases List.mem_cons.mp m with e | m
        · exact e
        · exact absurd m c
      subst e
      have : ∀ {r : List Nat}, i ∉ r → wipe (σ.set i x) r = (wipe σ r).set i x := by
        intro r
        induction r with
        | nil => intro _; rfl
        | cons k r ih =>
          intro hn
          have h1 : i ≠ k := fun z => hn (by rw [z]; exact List.mem_cons_self)
          have h2 : i ∉ r := fun z => hn (List.mem_cons_of_mem _ z)
          show (wipe (σ.set i x) r).set k none = ((wipe σ r).set k none).set i x
          rw [ih h2, List.set_comm _ _ h1]
      rw [this c, List.set_set]
/-- the values go to the names, from the left -/
noncomputable def setAll : List Nat → List D → LS → LS
  | i :: is, d :: ds, st => setAll is ds (st.set i (.val d))
  | _, _, st => st
structure PTg (X : Cx) (ts : List Expr) (is : List Nat) : Prop where
  pg : ∃ t, L2.PGs X ts t ∧ ∀ vs σ H Q, vs.length = is.length → (∀ σ', (∀ ws : List Nat, (∀ i ∈ is, i ∈ ws) → wipe σ' ws = wipe σ ws) → (∀ Γ Z Lt g st ds, SR Γ Z Lt g st σ H → RDs Γ g ds vs → SR Γ Z Lt g (setAll is ds st) σ' H) → Q σ' H) → t vs σ H Q
theorem tg_nil : PTg X [] [] := ⟨gNil, pgs_nil, fun vs σ H Q hl h => by
  have : vs = [] := List.length_eq_zero_iff.mp hl
  subst this
  exact ⟨rfl, h σ (fun ws _ => rfl) fun Γ Z Lt g st ds s r => by cases ds <;> exact s⟩⟩
theorem tg_cons {i : Nat} {is : List Nat} {x : Str} {ts : List Expr} (hN : X.N.Nodup) (hi : X.N[i]? = some x) (hx : Loc X.env.scope x) (y : PTg X ts is)
    (hf : X.fn x = true ∨ X.env.scope.names.lookup x = some .local := by first | exact .inl rfl | exact .inr rfl | assumption)
    (hs : (assignEach (.Name x pos :: ts) X.env).map (·.2) = assign (.Name x pos) X.env :: (assignEach ts X.env).map (·.2) := by rfl) : PTg X (.Name x pos :: ts) (i :: is) := by
  obtain ⟨t, h1, h2⟩ := y.pg
  refine ⟨_, pgs_cons (pg_name hN hi hx hf) h1 hs, fun vs σ H Q hl h => ?_⟩
  cases vs with
  | nil => cases hl
  | cons v r =>
    refine ⟨v, r, rfl, h2 r _ H Q (by simpa using hl) fun σ' kw k => h σ' (fun ws hw => (kw ws fun j hj => hw j (List.mem_cons_of_mem _ hj)).trans (wipe_set (hw i List.mem_cons_self))) fun Γ Z Lt g st ds s rs => ?_⟩
    cases ds with
    | nil => simp [RDs] at rs
    | cons d ds =>
      simp only [RDs] at rs
      obtain ⟨v', r', e, r1, r2⟩ := rs
      cases e
      exact k Γ Z Lt g _ ds (s.setV i r1) r2
noncomputable def D.items : D → Option (List D)
  | .tup ds => some ds
  | .lst ds => some ds
  | _ => none
noncomputable def sUnT (is : List Nat) (f : E D) : S := fun st => SRes.of (f st) fun d s1 => match d with
  | .tup ds => if ds.length = is.length then .nx (setAll is ds s1) else .bad
  | _ => .bad
theorem unT_G {ts : List Expr} {is : List Nat} {kt : Nat} {pt : Pos} (hc : X.calm = true) (hK : X.K = Γ.K) (y : PTg X ts is) (hn : (assignEach ts X.env).length = is.length := by rfl) (hst : (assignEach ts X.env).findIdx? (·.1) = none := by rfl) :
    ∃ gg : TG, PG X (.Tuple ts kt pt) gg ∧ ∀ ds v σ H Q Z Lt g st, SR Γ Z Lt g st σ H → CV Γ g H (.tup ds) v → ds.length = is.length → (∀ σ', (∀ ws : List Nat, (∀ i ∈ is, i ∈ ws) → wipe σ' ws = wipe σ ws) → SR Γ Z Lt g (setAll is ds st) σ' H → Q σ' H) → gg v σ H Q := by
  obtain ⟨t, h1, h2⟩ := y.pg
  refine ⟨_, pg_tup hc h1 hn hst, fun ds v σ H Q Z Lt g st s c hl h => ?_⟩
  obtain ⟨a, vs, rfl, q, r⟩ := c.tup s
  exact ⟨a, vs, rfl, by rw [hK]; exact q, by rw [← r.length]; exact hl, h2 vs σ H Q (by rw [← r.length]; exact hl) fun σ' kw k => h σ' kw (k Γ Z Lt g st ds s r)⟩
theorem st_unT {ts : List Expr} {is : List Nat} {kt : Nat} {pt : Pos} (hc : X.calm = true) (hK : X.K = Γ.K) (y : PTg X ts is) (x : PD Γ W X e f) (hn : (assignEach ts X.env).length = is.length := by rfl) (hst : (assignEach ts X.env).findIdx? (·.1) = none := by rfl)
    (hs : swapsWithSole [.Tuple ts kt pt] e pos.line X.env = pure false := by rfl) (hw : swappedStores [.Tuple ts kt pt] e X.env = pure none := by rfl) (h1 : (assignEach [.Tuple ts kt pt] X.env).map (·.2) = [assign (.Tuple ts kt pt) X.env] := by rfl) :
    PSt Γ W X (.Assign [.Tuple ts kt pt] e pos) (sUnT is f) := by
  obtain ⟨gg, g1, g2⟩ := unT_G (Γ := Γ) hc hK y hn hst
  refine ⟨(ps_asg x.pe g1 hs hw h1).csq fun D σ H ⟨Z, Lt, g, st, s, h⟩ => ⟨Z, Lt, g, st, s, (GoS.of h).imp fun d g1 st1 H1 s1 t1 k1 v r => ?_⟩⟩
  have k2 := k1 g1 H1 s1 (GT.refl _ _)
  cases d with
  | tup ds =>
    simp only at k2
    split at k2
    · exact g2 ds v σ H1 _ Z Lt g1 st1 s1 (.inl r) ‹_› fun σ' _ s' => k2 σ' g1 H1 s' (GT.refl _ _)
    · exact k2.elim
  | _ => exact k2.elim
end
end PL

/-! PyLite, part k: loops, functions, a law's end. -/
namespace PL
open PySem PySem.Spec PyProof.Rows L2
section
variable {Γ : Tab} {W : WX} {Z : Hp} {Lt : Lend} {g g' : GM} {st st' : LS} {σ σ' : L2.St} {H H' : Hp} {h h' : List LO} {a p : Addr} {o : HO} {d : D} {v : V} {X : Cx} {e e1 e2 e3 : Expr} {es : List Expr} {f k l : E D} {pos pos2 ppos : Pos} {stm : Stmt} {sts : List Stmt} {f1 f2 : S} {D0 : Ends}

/-! ### for -/
/-- the turns of a loop over known items: tg stores an item, b is the body -/
noncomputable def turns (tg : D → LS → Option LS) (b : S) : List D → LS → SRes
  | [], st => .nx st
  | d :: ds, st => match tg d st with
    | none => .bad
    | some s1 => match b s1 with
      | .nx s2 => turns tg b ds s2
      | .ct s2 => turns tg b ds s2
      | .bk s2 => .nx s2
      | r => r
/-- what a target's store is worth -/
noncomputable abbrev TarOk (Γ : Tab) (is : List Nat) (tg : D → LS → Option LS) (t : TG) : Prop := ∀ d v σ H Q Z Lt g st s1, SR Γ Z Lt g st σ H → CV Γ g H d v → tg d st = some s1 →
  (∀ σ', (∀ ws : List Nat, (∀ i ∈ is, i ∈ ws) → wipe σ' ws = wipe σ ws) → SR Γ Z Lt g s1 σ' H → Q σ' H) → RD Γ g d v → t v σ H Q
structure PTar (Γ : Tab) (X : Cx) (target : Expr) (is : List Nat) (tg : D → LS → Option LS) : Prop where
  pg : ∃ t, PG X target t ∧ TarOk Γ is tg t
noncomputable def tgN (i : Nat) : D → LS → Option LS := fun d st => some (st.set i (.val d))
theorem tar_name {i : Nat} {x : Str} (hN : X.N.Nodup) (hi : X.N[i]? = some x) (hx : Loc X.env.scope x)
    (hf : X.fn x = true ∨ X.env.scope.names.lookup x = some .local := by first | exact .inl rfl | exact .inr rfl | assumption) : PTar Γ X (.Name x pos) [i] (tgN i) :=
  ⟨_, pg_name hN hi hx hf, fun d v σ H Q Z Lt g st s1 s c e h r => by cases e; exact h _ (fun ws hw => wipe_set (hw i List.mem_cons_self)) (s.setV i r)⟩
noncomputable def tgT (is : List Nat) : D → LS → Option LS := fun d st => match d with
  | .tup ds => if ds.length = is.length then some (setAll is ds st) else none
  | _ => none
theorem tar_tup {ts : List Expr} {is : List Nat} {kt : Nat} (hc : X.calm = true) (hK : X.K = Γ.K) (y : PTg X ts is) (hn : (assignEach ts X.env).length = is.length := by rfl) (hst : (assignEach ts X.env).findIdx? (·.1) = none := by rfl) : PTar Γ X (.Tuple ts kt pos) is (tgT is) := by
  obtain ⟨gg, g1, g2⟩ := unT_G (Γ := Γ) (pt := pos) (kt := kt) hc hK y hn hst
  refine ⟨gg, g1, fun d v σ H Q Z Lt g st s1 s c e h r => ?_⟩
  cases d with
  | tup ds =>
    simp only [tgT] at e
    split at e
    · cases e; exact g2 ds v σ H Q Z Lt g st s c ‹_› h
    · cases e
  | _ => cases e
/-- nothing that stood is touched -/
structure Quiet (g : GM) (H : Hp) (g' : GM) (H' : Hp) : Prop where
  st : ∀ a o, H a = some o → H' a = some o ∧ g'.G a = g.G a ∧ g'.O a = g.O a
  m : ∀ a o, H a = some o → a ∈ g'.M → a ∈ g.M
theorem Quiet.refl (g : GM) (H : Hp) : Quiet g H g H := ⟨fun _ _ e => ⟨e, rfl, rfl⟩, fun _ _ _ m => m⟩
/-- the loop over an iterator whose turns give the items ds -/
theorem turns_run {tg : D → LS → Option LS} {b : S} {gg : TG} {is : List Nat} (hg : TarOk Γ is tg gg)
    {J : It} {ds : List D} {g0 : GM} (hgo : ∀ i H g st σ, i < ds.length → SR Γ Z Lt g st σ H → GT Z g0 g → J.go i H ∧ ∀ x H', J.yld i H x H' → ∃ g' d, ds[i]? = some d ∧ SR Γ Z Lt g' st σ H' ∧ GT Z g g' ∧ RD Γ g' d x ∧ Quiet g H g' H')
    (hst : ∀ H g st σ, SR Γ Z Lt g st σ H → GT Z g0 g → J.stop ds.length H) (s : SR Γ Z Lt g0 st σ H) (h : GoS Γ W Z Lt D0 (turns tg b ds st) g0) :
    ∃ Wi : Nat → Nat → L2.St → Hp → Prop, (∃ m, Wi 0 m σ H) ∧ ∀ i m σ H, Wi i m σ H →
      (J.stop i H ∧ D0.nx σ H) ∨ (J.go i H ∧ ∃ N : L2.St → Hp → Prop, (∀ σ' H', N σ' H' → ∃ m', m' < m ∧ Wi (i + 1) m' σ' H') ∧ ∀ x H', J.yld i H x H' → gg x σ H' fun σ2 H2 => TSt Γ W b { D0 with nx := N, ct := N, bk := D0.nx } σ2 H2) := by
  refine ⟨fun i m σ H => m = ds.length - i ∧ i ≤ ds.length ∧ ∃ g st, SR Γ Z Lt g st σ H ∧ GT Z g0 g ∧ GoS Γ W Z Lt D0 (turns tg b (ds.drop i) st) g, ⟨ds.length, by simp, Nat.zero_le _, g0, st, s, GT.refl _ _, by simpa using h⟩, ?_⟩
  rintro i m σ H ⟨rfl, hi, g, st, s, t, h⟩
  by_cases hlt : i < ds.length
  · obtain ⟨go, step⟩ := hgo i H g st σ hlt s t
    refine .inr ⟨go, fun σ' H' => i + 1 ≤ ds.length ∧ ∃ g st, SR Γ Z Lt g st σ' H' ∧ GT Z g0 g ∧ GoS Γ W Z Lt D0 (turns tg b (ds.drop (i + 1)) st) g, fun σ' H' ⟨q1, q2⟩ => ⟨ds.length - (i + 1), by omega, rfl, q1, q2⟩, fun x H' y => ?_⟩
    obtain ⟨g', d, ed, s', t', r, _⟩ := step x H' y
    have ec : ds.drop i = d :: ds.drop (i + 1) := by
      rw [List.drop_eq_getElem_cons hlt]
      rw [List.getElem?_eq_getElem hlt] at ed
      cases ed; rfl
    rw [ec] at h
    simp only [turns] at h
    cases et : tg d st with
    | none => rw [et] at h; exact h.elim
    | some s1 =>
      rw [et] at h
      refine hg d x σ H' _ Z Lt g' st s1 s' (.inl r) et (fun σ2 _ s2 => ⟨Z, Lt, g', s1, s2, ?_⟩) r
      have h := h.up t'
      revert h
      simp only
      cases b s1 with
      | nx s3 => exact fun h σ' g2 H2 s2 t2 => ⟨hlt, g2, s3, s2, (t.trans t').trans t2, h.up t2⟩
      | ct s3 => exact fun h σ' g2 H2 s2 t2 => ⟨hlt, g2, s3, s2, (t.trans t').trans t2, h.up t2⟩
      | bk s3 => exact fun h => h
      | ret x s3 => exact fun h => h
      | exc x s3 => exact fun h => h
      | bad => exact fun h => h
  · have e : i = ds.length := by omega
    subst e
    refine .inl ⟨hst H g st σ s t, ?_⟩
    rw [List.drop_length] at h
    exact h σ g H s (GT.refl _ _)
/-- an iterable: its reading gives turns -/
structure PIt (Γ : Tab) (W : WX) (X : Cx) (tg iter : Expr) (f : E (List D)) : Prop where
  pi : ∃ wi, PI X tg iter wi ∧ ∀ σ H R, (∃ Z Lt g st, SR Γ Z Lt g st σ H ∧ Go Γ W Z Lt σ (f st) g fun ds g1 st1 H1 => SR Γ Z Lt g1 st1 σ H1 → ∀ J : It,
    (∀ i H g st σ, i < ds.length → SR Γ Z Lt g st σ H → GT Z g1 g → J.go i H ∧ ∀ x H', J.yld i H x H' → ∃ g' d, ds[i]? = some d ∧ SR Γ Z Lt g' st σ H' ∧ GT Z g g' ∧ RD Γ g' d x ∧ Quiet g H g' H') →
    (∀ H g st σ, SR Γ Z Lt g st σ H → GT Z g1 g → J.stop ds.length H) → R J H1) → wi σ H R
noncomputable def sFor (f : E (List D)) (tg : D → LS → Option LS) (b : S) : S := fun st => SRes.of (f st) fun ds s1 => turns tg b ds s1
theorem st_for {iter target : Expr} {fi : E (List D)} {tg : D → LS → Option LS} (hp : PassesOwn (model X.prog X.w) X.A X.env X.xe) (hc : X.calm = true) {is : List Nat} (x : PIt Γ W X target iter fi) (y : PTar Γ X target is tg) (z : PSts Γ W X sts f1)
    (hs : ∀ x, foldedSetIterable iter X.env x = pure x := by intro _; rfl) : PSt Γ W X (.For target iter sts [] pos) (sFor fi tg f1) := by
  obtain ⟨wi, h1, h2⟩ := x.pi
  obtain ⟨gg, g1, g2⟩ := y.pg
  refine ⟨(ps_for hp hc h1 g1 z.ps hs).csq fun D σ H ⟨Z, Lt, g, st, s, h⟩ => h2 σ H _ ⟨Z, Lt, g, st, s, (GoS.of h).imp fun ds g1 st1 H1 s1 t1 k1 s1' J hgo hst => ?_⟩⟩
  exact turns_run g2 hgo hst s1 (k1 g1 H1 s1 (GT.refl _ _))
/-- over a value: a list or a tuple -/
noncomputable def iVal (f : E D) : E (List D) := fun st => (f st).bind fun d s1 => match d with
  | .lst ds => .ok ds s1
  | _ => .bad
theorem SV.seqL {Z : Hp} {g : GM} {ds : List D} {v : V} (r : SV Γ Z g (.lst ds) v) : ∃ a vs, v = .ref a ∧ RDs Γ g ds vs ∧ ∀ Lt g' st σ H, SR Γ Z Lt g' st σ H → GT Z g g' → SqL Γ.K H a vs := by
  rcases r with r | ⟨a, o, e, z, c | ⟨ob, u, e2, c⟩⟩
  · simp only [RD] at r
    obtain ⟨a, vs, e, q, r⟩ := r
    exact ⟨a, vs, e, r, fun Lt g' st σ H s t => sqL_le ((t.le).trans (GLe.sub s.sh.gh)) q⟩
  · cases o <;> first | exact c.elim | exact ⟨a, _, e, c, fun Lt g' st σ H s t => .inl (.inl (s.sh.zh a _ z))⟩
  · subst e2
    cases u <;> first | exact c.elim | exact ⟨a, _, e, c, fun Lt g' st σ H s t => .inl (.inr ⟨ob, s.sh.zh a _ z⟩)⟩
theorem it_list {target : Expr} (hK : X.K = Γ.K) (x : PV Γ W X e f) : PIt Γ W X target e (iVal f) := by
  refine ⟨_, pi_list x.pe, fun σ H R ⟨Z, Lt, g, st, s, h⟩ => ⟨Z, Lt, g, st, s, (Go.bind h).imp fun d g1 st1 H1 s1 t1 k1 v r => ?_⟩⟩
  have k2 := k1 g1 H1 s1 (GT.refl _ _)
  cases d with
  | lst ds =>
    obtain ⟨a, vs, rfl, rs, sq⟩ := r.seqL
    refine ⟨a, rfl, ⟨vs, by rw [hK]; exact sq Lt g1 st1 σ H1 s1 (GT.refl _ _)⟩, ?_⟩
    refine k2 g1 H1 s1 (GT.refl _ _) s1 _ (fun i H g st σ hi s t => ?_) (fun H g st σ s t => ⟨vs, by rw [hK]; exact sq Lt g st σ H s t, by rw [rs.length]; exact Nat.le_refl _⟩)
    obtain ⟨d, ed⟩ : ∃ d, ds[i]? = some d := ⟨ds[i], List.getElem?_eq_getElem hi⟩
    obtain ⟨w, ew, rw'⟩ := rs.get ed
    have sq' : SqL X.K H a vs := by rw [hK]; exact sq Lt g st σ H s t
    refine ⟨⟨vs, w, sq', ew⟩, fun x H' ⟨e1, e2⟩ => ?_⟩
    subst e1
    have := e2 vs sq'
    rw [ew] at this; cases this
    exact ⟨g, d, ed, s, GT.refl _ _, rw'.up t, Quiet.refl _ _⟩
  | _ => exact k2.elim

/-- a range -/
noncomputable def rangeD (lo : Int) (n : Nat) : List D := (List.range n).map fun (i : Nat) => D.int (lo + (i : Int))
noncomputable def iRg1 (f : E D) : E (List D) := fun st => (f st).bind fun d s1 => match d with
  | .int j => if -(2 ^ 62) ≤ j ∧ j < 2 ^ 62 then .ok (rangeD 0 j.toNat) s1 else .bad
  | _ => .bad
theorem rangeD_len (lo : Int) (n : Nat) : (rangeD lo n).length = n := by simp [rangeD]
theorem rangeD_get {lo : Int} {n i : Nat} (h : i < n) : (rangeD lo n)[i]? = some (.int (lo + (i : Int))) := by simp [rangeD, h]
theorem range_J {lo : Int} {n : Nat} {g1 : GM} {R : It → Hp → Prop} (k : ∀ J : It, (∀ i H g st σ, i < (rangeD lo n).length → SR Γ Z Lt g st σ H → GT Z g1 g → J.go i H ∧ ∀ x H', J.yld i H x H' → ∃ g' d, (rangeD lo n)[i]? = some d ∧ SR Γ Z Lt g' st σ H' ∧ GT Z g g' ∧ RD Γ g' d x ∧ Quiet g H g' H') →
    (∀ H g st σ, SR Γ Z Lt g st σ H → GT Z g1 g → J.stop (rangeD lo n).length H) → R J H) : R (Itr lo n) H := by
  refine k _ (fun i H g st σ hi s t => ?_) fun H g st σ s t => by rw [rangeD_len]; exact Nat.le_refl _
  rw [rangeD_len] at hi
  refine ⟨hi, fun x H' ⟨e1, e2⟩ => ?_⟩
  subst e1 e2
  exact ⟨g, _, rangeD_get hi, s, GT.refl _ _, RD.int, Quiet.refl _ _⟩
theorem it_range1 {target : Expr} (hg : Gl X "range") (hm : X.mg "range" = none) (x : PD Γ W X e f) (hs : starEach [e] X.env = [(false, eval e X.env)] := by rfl) (hs2 : starEach [e] X.env = (false, eval e X.env) :: starEach [] X.env := by rfl) :
    PIt Γ W X target (.Call (.Name "range" ppos) [e] [] pos) (iRg1 f) := by
  refine ⟨_, pi_range1 hg hm (pa_cons x.pe pa_nil hs2) hs, fun σ H R ⟨Z, Lt, g, st, s, h⟩ => ⟨Z, Lt, g, st, s, (Go.bind h).imp fun d g1 st1 H1 s1 t1 k1 v r => ?_⟩⟩
  have k2 := k1 g1 H1 s1 (GT.refl _ _)
  cases d with
  | int j =>
    simp only [RD] at r; subst r
    simp only at k2
    split at k2
    · rename_i c
      exact ⟨j, rfl, c.1, c.2, range_J (g1 := g1) (k2 g1 H1 s1 (GT.refl _ _) s1)⟩
    · exact k2.elim
  | _ => exact k2.elim
/-! ### while -/
noncomputable def wh (c : E Bool) (b : S) : Nat → LS → SRes
  | 0, _ => .bad
  | n + 1, st => SRes.of (c st) fun t s1 => if t then (match b s1 with
    | .nx s2 => wh c b n s2
    | .ct s2 => wh c b n s2
    | .bk s2 => .nx s2
    | r => r) else .nx s1
theorem wh_succ (c : E Bool) (b : S) : ∀ (n : Nat) (st : LS), wh c b n st ≠ .bad → wh c b (n + 1) st = wh c b n st
  | 0, st, h => absurd rfl h
  | n + 1, st, h => by
    rw [wh] at h
    rw [wh, wh]
    cases ec : c st with
    | ok t s1 =>
      rw [ec] at h
      simp only [of_ok] at h ⊢
      cases t with
      | false => rfl
      | true =>
        simp only [if_true] at h ⊢
        cases eb : b s1 with
        | nx s2 => rw [eb] at h; exact wh_succ c b n s2 h
        | ct s2 => rw [eb] at h; exact wh_succ c b n s2 h
        | _ => rfl
    | exc x s1 => rfl
    | bad => rfl
theorem wh_add (c : E Bool) (b : S) (n : Nat) (st : LS) (h : wh c b n st ≠ .bad) : ∀ m, wh c b (n + m) st = wh c b n st
  | 0 => rfl
  | m + 1 => by
    have ih := wh_add c b n st h m
    rw [← Nat.add_assoc, wh_succ c b (n + m) st (by rw [ih]; exact h), ih]
open Classical in
noncomputable def sWhile (c : E Bool) (b : S) : S := fun st => if h : ∃ n, wh c b n st ≠ .bad then wh c b (Classical.choose h) st else .bad
theorem sWhile_of {c : E Bool} {b : S} {n : Nat} {st : LS} (h : wh c b n st ≠ .bad) : sWhile c b st = wh c b n st := by
  unfold sWhile
  have hx : ∃ n, wh c b n st ≠ .bad := ⟨n, h⟩
  rw [dif_pos hx]
  have h2 := Classical.choose_spec hx
  have a1 := wh_add c b _ st h2 n
  have a2 := wh_add c b n st h (Classical.choose hx)
  rw [Nat.add_comm] at a1
  rw [← a1, a2]
theorem sWhile_ex {c : E Bool} {b : S} {st : LS} (h : sWhile c b st ≠ .bad) : ∃ n, wh c b n st = sWhile c b st ∧ wh c b n st ≠ .bad := by
  unfold sWhile at h
  split at h
  · rename_i hx
    exact ⟨Classical.choose hx, (sWhile_of h).symm, h⟩
  · exact absurd rfl h
theorem sWhile_none {c : E Bool} {b : S} {st : LS} (h : ∀ n, wh c b n st = .bad) : sWhile c b st = .bad := by
  unfold sWhile
  rw [dif_neg]
  rintro ⟨n, hn⟩
  exact hn (h n)
/-- one turn -/
theorem sWhile_eq (c : E Bool) (b : S) (st : LS) : sWhile c b st = SRes.of (c st) fun t s1 => if t then (match b s1 with
    | .nx s2 => sWhile c b s2
    | .ct s2 => sWhile c b s2
    | .bk s2 => .nx s2
    | r => r) else .nx s1 := by
  have key : ∀ s2, (∀ n, wh c b (n + 1) st = wh c b n s2) → sWhile c b st = sWhile c b s2 := by
    intro s2 e
    by_cases hx : ∃ n, wh c b n s2 ≠ .bad
    · obtain ⟨n, hn⟩ := hx
      rw [sWhile_of hn, sWhile_of (n := n + 1) (by rw [e]; exact hn), e]
    · have h2 : ∀ n, wh c b n s2 = .bad := fun n => Classical.byContradiction fun q => hx ⟨n, q⟩
      rw [sWhile_none h2, sWhile_none fun n => ?_]
      cases n with
      | zero => rfl
      | succ n => rw [e, h2]
  have key2 : ∀ r, (∀ n, wh c b (n + 1) st = r) → sWhile c b st = r := by
    intro r e
    by_cases hr : r = .bad
    · subst hr
      exact sWhile_none fun n => by cases n with
        | zero => rfl
        | succ n => exact e n
    · rw [sWhile_of (n := 1) (by rw [e 0]; exact hr), e 0]
  cases ec : c st with
  | ok t s1 =>
    simp only [of_ok]
    cases t with
    | false => exact key2 _ fun n => by rw [wh, ec]; rfl
    | true =>
      simp only [if_true]
      cases eb : b s1 with
      | nx s2 => exact key s2 fun n => by rw [wh, ec]; simp only [of_ok, if_true, eb]
      | ct s2 => exact key s2 fun n => by rw [wh, ec]; simp only [of_ok, if_true, eb]
      | _ => exact key2 _ fun n => by rw [wh, ec]; simp only [of_ok, if_true, eb]
  | exc x s1 => exact key2 _ fun n => by rw [wh, ec]; rfl
  | bad => exact key2 _ fun n => by rw [wh, ec]; rfl
theorem st_while {c : Expr} {b : E Bool} (hp : PassesOwn (model X.prog X.w) X.A X.env X.xe) (x : PB Γ W X c b) (y : PSts Γ W X sts f1) : PSt Γ W X (.While c sts [] pos) (sWhile b f1) := by
  refine ⟨(ps_while hp x.pt y.ps).csq fun D σ H ⟨Z, Lt, g0, st, s, h⟩ => ?_⟩
  by_cases hb : sWhile b f1 st = .bad
  · rw [hb] at h; exact h.elim
  obtain ⟨n, e, _⟩ := sWhile_ex hb
  rw [← e] at h
  refine ⟨fun m σ H => ∃ g st, SR Γ Z Lt g st σ H ∧ GoS Γ W Z Lt D (wh b f1 m st) g, ⟨n, g0, st, s, h⟩, ?_⟩
  rintro m σ H ⟨g, st, s, h⟩
  cases m with
  | zero => exact h.elim
  | succ m =>
    rw [wh] at h
    refine ⟨Z, Lt, g, st, s, (GoS.of h).imp fun t g1 st1 H1 s1 t1 k1 => ?_⟩
    have k2 := k1 g1 H1 s1 (GT.refl _ _)
    cases t with
    | false => exact k2 σ g1 H1 s1 (GT.refl _ _)
    | true =>
      show if (true : Bool) = true then _ else _
      rw [if_pos rfl]
      refine ⟨fun σ' H' => ∃ g st, SR Γ Z Lt g st σ' H' ∧ GoS Γ W Z Lt D (wh b f1 m st) g, fun σ' H' q => ⟨m, Nat.lt_succ_self m, q⟩, Z, Lt, g1, st1, s1, ?_⟩
      revert k2
      simp only [if_true]
      cases f1 st1 with
      | nx s3 => exact fun h σ' g2 H2 s2 t2 => ⟨g2, s3, s2, h.up t2⟩
      | ct s3 => exact fun h σ' g2 H2 s2 t2 => ⟨g2, s3, s2, h.up t2⟩
      | bk s3 => exact fun h => h
      | ret x s3 => exact fun h => h
      | exc x s3 => exact fun h => h
      | bad => exact fun h => h
end
end PL

/-! PyLite, part l: a def by its body; a law's end. -/
namespace PL
open PySem PySem.Spec PyProof.Rows L2
noncomputable def startS (m : Nat) (fs : List FV) : List (Option FV) := fs.map some ++ List.replicate (m - fs.length) none
/-- a def is its body over m names -/
noncomputable def fn (m : Nat) (s : S) : Fn := fun fs h => match s ⟨startS m fs, h⟩ with
  | .nx st => .ret (.val .non) st.h
  | .ret x st => .ret x st.h
  | .exc x st => .exc x st.h
  | _ => .bad
section
variable {Γ : Tab} {P : Program} {w : World} {K : PySem.W.Frag} {mg : Str → Option Value} {base : Heap}
noncomputable abbrev WXof (X : XK) : WX := fun cls d _ H => X cls d H
theorem def_ok {x qual : Str} {st : Stmt} {f : Addr} {fd : FuncData} {N ps : List Str} {k m n : Nat} {s : S} (Fu : Fun K x qual st f fd) (Sc : FnScope N ps (defScope st)) (hm : N.length = m) (hn : ps.length = n)
    (hb : ∀ (cdv : Value) (A : Around) (outer : List Env) (s0 : Shared) (H : Hp) (X : XK), Room k (A.deeper (envOfC qual (defScope st) s0.heap.objs.size f cdv)) →
      PSts Γ (WXof X) (cxOf (L2.CX P w) P w K mg base N qual (defScope st) f cdv A outer s0 H X) (defBody st) s) :
    FnOk P w K mg base (L2.CX P w) (k + 1) f fd ps (spF Γ n (fn m s)) := by
  refine Fu.okX Sc (fun vs H Q E h => ?_) (fun cdv A outer s0 H vs Q E hr h => ?_)
  · obtain ⟨Z, Lt, g, ds, hp, _, r, hl, _⟩ := h
    rw [hn, ← hl, r.length]
  · refine ⟨_, (hb cdv A outer s0 H E hr).ps, ?_⟩
    obtain ⟨Z, Lt, g, ds, hp, S, r, hl, ht, h⟩ := h
    have hmn : n ≤ m := by
      have := congrArg List.length Sc.pre
      rw [List.length_take] at this
      omega
    refine ⟨Z, Lt, g, ⟨startS m ds, hp⟩, ⟨S, ?_, fun i x e => ?_⟩, ?_⟩
    · unfold L2.start startS
      simp only [List.length_append, List.length_map, List.length_replicate, r.length]
      omega
    · have e : (startS m ds)[i]? = some (some x) := e
      unfold startS at e
      by_cases hi : i < ds.length
      · rw [List.getElem?_append_left (by simpa using hi), List.getElem?_map] at e
        obtain ⟨y, ey⟩ : ∃ y, ds[i]? = some y := ⟨ds[i], List.getElem?_eq_getElem hi⟩
        rw [ey] at e
        cases e
        obtain ⟨v, ev, rv⟩ := r.get ey
        refine ⟨v, ?_, ?_⟩
        · unfold L2.start
          rw [List.getElem?_append_left (by rw [List.length_map, r.length]; exact hi), List.getElem?_map, ev]
          rfl
        · cases x with
          | val d => exact rv
          | own d => exact rv.elim
          | lent d =>
            obtain ⟨a, o, rfl, z, c⟩ := rv
            refine ⟨a, o, rfl, ?_, z, c⟩
            rw [ht i]
            unfold lentAt
            rw [ey, ev]
      · rw [List.getElem?_append_right (by simpa using hi), List.getElem?_replicate] at e
        split at e <;> cases e
    · unfold fn at h
      revert h
      cases s ⟨startS m ds, hp⟩ with
      | nx st => exact fun h σ' g' H' s' t => h .non g' H' s'.sh t (RD.non (Γ := Γ) (g := g'))
      | ret x st => exact fun h v g' H' s' t fv => h v g' H' s' t fv
      | bk st => exact fun h => h.elim
      | ct st => exact fun h => h.elim
      | exc x st => exact fun h cls dd σ' g' H' s' t xr => h cls dd g' H' s'.sh t xr
      | bad => exact fun h => h.elim

/-! ### a law's end -/
noncomputable def spL (K : PySem.W.Frag) : Sp := fun vs H Q _ => ∃ (a : Addr) (ns : List Int), vs = [.ref a] ∧ SqL K H a (ns.map V.int) ∧ (ns.length ≤ 63 ∧ ∀ z ∈ ns, Builtin.Int.intBits z ≤ 1048576) ∧ ∀ H', Q (.bl true) H'
theorem law_imp {F : Fn} (nd : Γ.nm.Nodup) (hF : ∀ ns : List Int, (ns.length ≤ 63 ∧ ∀ z ∈ ns, Builtin.Int.intBits z ≤ 1048576) → ∃ h', F [.val (.lst (ns.map D.int))] [] = .ret (.val (.bl true)) h') (vs : List V) (H : Hp) (Q : VK) (E : XK) (h : spL Γ.K vs H Q E) : spF Γ 1 F vs H Q E := by
  obtain ⟨a, ns, rfl, sq, hl, q⟩ := h
  let g : GM := ⟨fun b => if b = a then H b else none, [], fun _ => none⟩
  have ga : g.G a = H a := if_pos rfl
  have sq' : SqL Γ.K g.G a (ns.map V.int) := by
    rcases sq with (sq | ⟨o, sq⟩) | sq
    · exact .inl (.inl (ga.trans sq))
    · exact .inl (.inr ⟨o, ga.trans sq⟩)
    · exact .inr sq
  refine ⟨fun _ => none, fun _ => none, g, _, [], ⟨fun b o e => ?_, (fun _ _ e => nomatch e), (fun _ _ e => nomatch e), rfl, List.nodup_nil, (fun _ m => nomatch m), (fun _ _ _ e _ => nomatch e), nd, (fun _ _ e => nomatch e)⟩, ARs.cons (x := .val (.lst (ns.map D.int))) (xs := []) (v := .ref a) ?_ rfl, rfl, fun i => ?_, ?_⟩
  · by_cases hb : b = a
    · exact (if_pos hb : g.G b = H b).symm.trans e
    · have : g.G b = none := if_neg hb
      rw [this] at e; cases e
  · show RD Γ g (.lst _) (.ref a)
    simp only [RD]
    exact ⟨a, _, rfl, sq', ints_rd ns⟩
  · unfold lentAt
    cases i with
    | zero => rfl
    | succ i => rfl
  · obtain ⟨h', e⟩ := hF ns hl
    rw [e]
    intro v g' H' s' t r
    have r : RD Γ g' (.bl true) v := r
    simp only [RD] at r
    subst r
    exact q H'
theorem law_walk {l : PySem.W.OpenLaw} {q : Program} {loose : List Str} {XP : (Str → Option Value) → Heap → Prop} {YP : World → Heap → Prop} {d : DefRec} {K : Params → PySem.W.Frag} {k : Nat} {x : Str}
    (hn : l.most = some 63) (hdf : d.params.defaults = []) (hr : Room k callerA) (hY : ∀ (w : World) (h : Heap), YP w h → (K w.params).In h)
    (F : ∀ (w : World) (mg : Str → Option Value) (fa : Addr) (h : Heap), (K w.params).In h → h.Ns mainGlobals mg → mg d.name = some (.ref fa) →
      ∃ fd : FuncData, (∀ (s : Shared) (u : Value), BindsTo s fd ⟨[u], []⟩ [(x, u)]) ∧
        ∀ base : Heap, (K w.params).In base → base.Ns mainGlobals mg → FnOk l.prog w (K w.params) mg base (L2.CX l.prog w) k fa fd [x] (spL (K w.params))) :
    PySem.W.WalkO q loose XP YP l.row.toRowW d [] (fun f vs => PySem.call f vs) :=
  L2.walk_ofB (n := 63) (k := k) (x := x) (CX := fun w => L2.CX l.prog w) (sp := fun w => spL (K w.params)) hn (by decide) hdf hr hY F
    (fun _ _ a ns hl hz _ hS => ⟨a, ns, rfl, hS, ⟨hl, hz⟩, fun _ => rfl⟩) fun w H s e s' h => by
      obtain ⟨_, _, _, _, _, _, _, _, _, _, _, _, z⟩ := h
      exact z
end
end PL

/-! PyLite, part m: what is protected for a while; comprehensions; lending. -/
namespace PL
open PySem PySem.Spec PyProof.Rows L2
section
variable {Γ : Tab} {W : WX} {Z : Hp} {Lt : Lend} {g g' : GM} {st st' : LS} {σ σ' : L2.St} {H H' : Hp} {h h' : List LO} {a p : Addr} {o : HO} {d : D} {v : V} {X : Cx} {e e1 e2 e3 : Expr} {es : List Expr} {f k l : E D} {pos pos2 ppos : Pos} {stm : Stmt} {sts : List Stmt} {f1 f2 : S} {D0 : Ends}

/-! ### an object of one's own is protected -/
theorem FVR.prot (n : Z p = none) (ho : g.O p = some q0) {q : Path} (hq : q ≠ q0) {x : FV} (f : FVR Γ Z Lt g H q x v) : FVR Γ (upd Z p o) Lt g H q x v := by
  cases x with
  | val d => exact f
  | own d =>
    obtain ⟨a, e, h1, h2, h3, h4⟩ := f
    have ne : a ≠ p := fun z => by subst z; rw [h3] at ho; cases ho; exact hq rfl
    exact ⟨a, e, h1, by rw [upd_ne ne]; exact h2, h3, h4⟩
  | lent d =>
    obtain ⟨a, u, e, h1, h2, h3⟩ := f
    exact ⟨a, u, e, h1, by rw [upd_ne (ne_of_none h2 n)]; exact h2, h3⟩
theorem FVR.unprot (n : Z p = none) (lz : LzOk Lt Z) {q : Path} {x : FV} (f : FVR Γ (upd Z p o) Lt g H q x v) : FVR Γ Z Lt g H q x v := by
  cases x with
  | val d => exact f
  | own d =>
    obtain ⟨a, e, h1, h2, h3, h4⟩ := f
    have ne : a ≠ p := fun z => by subst z; rw [upd_same] at h2; cases h2
    exact ⟨a, e, h1, by rw [upd_ne ne] at h2; exact h2, h3, h4⟩
  | lent d =>
    obtain ⟨a, u, e, h1, h2, h3⟩ := f
    obtain ⟨u', z, kq⟩ := lz q a h1
    have ne : a ≠ p := fun z' => by subst z'; rw [n] at z; cases z
    exact ⟨a, u, e, h1, by rw [upd_ne ne] at h2; exact h2, h3⟩
theorem FR.mapf {Z' : Hp} {Lt' : Lend} {r : Nat} {C : Addr} (m : ∀ (i : Nat) (x : FV) (v : V), FVR Γ Z Lt g H (.fld r i) x v → FVR Γ Z' Lt' g H (.fld r i) x v) : ∀ {fs : List (Nat × FV)} {ws : List (Str × V)}, FR Γ Z Lt g H r C fs ws → FR Γ Z' Lt' g H r C fs ws
  | [], _, f => f
  | y :: fs, _, f => by
    obtain ⟨n, v, q, e, h1, h2, h3, h4, h5⟩ := f
    exact ⟨n, v, q, e, h1, h2, m _ _ _ h3, h4, FR.mapf m h5⟩
theorem OR.mapf {Z' : Hp} {Lt' : Lend} {r : Nat} {lo : LO} (m : ∀ (i : Nat) (x : FV) (v : V), FVR Γ Z Lt g H (.fld r i) x v → FVR Γ Z' Lt' g H (.fld r i) x v) (l : ∀ o, Z a = some o → Lt (.lck a) = some a → Z' a = some o ∧ Lt' (.lck a) = some a) (f : OR Γ Z Lt g H r a lo) : OR Γ Z' Lt' g H r a lo := by
  cases lo with
  | ins c fs => obtain ⟨C, dx, ws, q1, q2, q3, q4⟩ := f; exact ⟨C, dx, ws, q1, q2, q3, FR.mapf m q4⟩
  | cell d => exact f
  | lck d => obtain ⟨q, ob, u, h1, h2, h3⟩ := f; exact ⟨(l _ h2 q).2, ob, u, h1, (l _ h2 q).1, h3⟩
/-- p, owned by nobody that is named, is protected -/
theorem SR.prot (s : SR Γ Z Lt g st σ H) (x : OA Γ Z g H .tmp p d) (e : H p = some o) : SR Γ (upd Z p o) Lt g st σ H := by
  obtain ⟨h1, h2, h3, h4, _⟩ := x
  refine ⟨⟨s.sh.gh, fun a u z => ?_, fun a u z => ?_, s.sh.ml, s.sh.mn, fun a m => ?_, fun r lo a e1 e2 => ?_, s.sh.nd, fun q a z => ?_⟩, s.sl, fun i x e => ?_⟩
  · by_cases c : a = p
    · subst c; rw [upd_same] at z; cases z; exact e
    · rw [upd_ne c] at z; exact s.sh.zh a u z
  · by_cases c : a = p
    · subst c; exact h1
    · rw [upd_ne c] at z; exact s.sh.gz a u z
  · have ne : a ≠ p := fun z => h4 (by rw [← z]; exact m)
    rw [upd_ne ne]; exact s.sh.mf a m
  · exact (s.sh.ob r lo a e1 e2).mapf (fun i x v f => f.prot h2 h3 (by simp)) fun u z l => ⟨by rw [upd_ne (ne_of_none z h2)]; exact z, l⟩
  · obtain ⟨u, z', kq⟩ := s.sh.lz q a z
    exact ⟨u, by rw [upd_ne (ne_of_none z' h2)]; exact z', kq⟩
  · obtain ⟨v, e1, f⟩ := s.sv i x e
    exact ⟨v, e1, f.prot h2 h3 (by simp)⟩
theorem unm {r : Addr} (n : Z p = none) (lz : LzOk Lt Z) (l : Lt (.lck r) = some a) : a ≠ p := fun e => by
  obtain ⟨o, z, _⟩ := lz _ _ l
  subst e; rw [n] at z; cases z
/-- .. and let go again -/
theorem SR.unprot (s : SR Γ (upd Z p o) Lt g st σ H) (n : Z p = none) (lz : LzOk Lt Z) : SR Γ Z Lt g st σ H ∧ H p = some o ∧ g.G p = none ∧ p ∉ g.M := by
  have zz : ∀ {a u}, Z a = some u → upd Z p o a = some u := fun {a u} z => by rw [upd_ne (ne_of_none z n)]; exact z
  refine ⟨⟨⟨s.sh.gh, fun a u z => s.sh.zh a u (zz z), fun a u z => s.sh.gz a u (zz z), s.sh.ml, s.sh.mn, fun a m => ?_, fun r lo a e1 e2 => (s.sh.ob r lo a e1 e2).mapf (fun i x v f => f.unprot n lz) fun u z l => ⟨by rw [upd_ne (unm n lz l)] at z; exact z, l⟩, s.sh.nd, lz⟩, s.sl, fun i x e => ?_⟩, s.sh.zh p o upd_same, s.sh.gz p o upd_same, fun m => ?_⟩
  · obtain ⟨m1, m2, m3⟩ := s.sh.mf a m
    exact ⟨m1, fun u z => m2 u (zz z), m3⟩
  · obtain ⟨v, e1, f⟩ := s.sv i x e
    exact ⟨v, e1, f.unprot n lz⟩
  · exact unm n lz ((s.sh.mf p m).2.1 _ upd_same) rfl
theorem GT.unprot (t : GT (upd Z p o) g g') (n : Z p = none) : GT Z g g' ∧ g'.O p = g.O p :=
  ⟨⟨t.le, t.mp, fun a u z => t.oz a u (by rw [upd_ne (ne_of_none z n)]; exact z), t.lo⟩, t.oz p o upd_same⟩

/-! ### comprehensions -/
theorem wipe_set2 {σ : L2.St} {i : Nat} : ∀ {ws : List Nat}, (L2.wipe (σ.set i none) ws) = (L2.wipe σ ws).set i none
  | [] => rfl
  | j :: r => by
    show (L2.wipe (σ.set i none) r).set j none = ((L2.wipe σ r).set j none).set i none
    rw [wipe_set2]
    by_cases c : i = j
    · subst c; rw [List.set_set]
    · rw [List.set_comm _ _ c]
theorem wipe_wipe {σ : L2.St} : ∀ {ws : List Nat}, L2.wipe (L2.wipe σ ws) ws = L2.wipe σ ws
  | [] => rfl
  | j :: r => by
    show (L2.wipe ((L2.wipe σ r).set j none) r).set j none = (L2.wipe σ r).set j none
    rw [wipe_set2, wipe_wipe, List.set_set]
noncomputable def LS.clr (st : LS) (i : Nat) : LS := { st with s := st.s.set i none }
noncomputable def wipeS : List Nat → LS → LS
  | [], st => st
  | i :: r, st => (wipeS r st).clr i
theorem SR.clr (s : SR Γ Z Lt g st σ H) (i : Nat) : SR Γ Z Lt g (st.clr i) (σ.set i none) H :=
  ⟨s.sh, by simpa [LS.clr] using s.sl, fun j x e => by
    have e : (st.s.set i none)[j]? = some (some x) := e
    by_cases hj : j = i
    · subst hj
      by_cases hl : j < st.s.length
      · rw [List.getElem?_set_self hl] at e; cases e
      · rw [List.getElem?_eq_none (by simpa using hl)] at e; cases e
    · rw [List.getElem?_set_ne (Ne.symm hj)] at e
      obtain ⟨v, e1, f⟩ := s.sv j x e
      exact ⟨v, by rw [List.getElem?_set_ne (Ne.symm hj)]; exact e1, f⟩⟩
theorem SR.wipe (s : SR Γ Z Lt g st σ H) : ∀ vs : List Nat, SR Γ Z Lt g (wipeS vs st) (L2.wipe σ vs) H
  | [] => s
  | i :: r => (SR.wipe s r).clr i
noncomputable def Clean (vs : List Nat) (st : LS) : Prop := ∀ i ∈ vs, ∀ x, st.s[i]? ≠ some (some x)
theorem clean_wipe (st : LS) : ∀ vs : List Nat, Clean vs (wipeS vs st)
  | [], _, m, _ => nomatch m
  | j :: r, i, m, x => by
    show ((wipeS r st).s.set j none)[i]? ≠ some (some x)
    by_cases c : i = j
    · subst c
      by_cases hl : i < (wipeS r st).s.length
      · rw [List.getElem?_set_self hl]; intro z; cases z
      · rw [List.getElem?_eq_none (by simpa using hl)]; intro z; cases z
    · rw [List.getElem?_set_ne (Ne.symm c)]
      exact clean_wipe st r i ((List.mem_cons.mp m).resolve_left c) x
theorem SR.unwipe {vs : List Nat} (s : SR Γ Z Lt g st (L2.wipe σ vs) H) (c : Clean vs st) : SR Γ Z Lt g st σ H :=
  ⟨s.sh, by rw [← wipe_length σ vs]; exact s.sl, fun i x e => by
    obtain ⟨v, e1, f⟩ := s.sv i x e
    have ni : i ∉ vs := fun m => c i m x e
    rw [wipe_out ni] at e1
    exact ⟨v, e1, f⟩⟩
/-- an object that nobody names is changed -/
theorem SR.updT (s : SR Γ Z Lt g st σ H) (h1 : g.G p = none) (h2 : Z p = none) (h3 : g.O p = some .tmp) (h4 : p ∉ g.M) (o : HO) : SR Γ Z Lt g st σ (upd H p o) := by
  have kp : Kp Z g g H (upd H p o) fun q => q ≠ .tmp := ⟨GT.refl _ _, fun a q u hq k1 k2 k3 k4 k5 => by
    have ne : a ≠ p := fun z => by subst z; rw [h3] at k3; cases k3; exact hq rfl
    exact ⟨k1, k3, k4, by rw [upd_ne ne]; exact k5⟩⟩
  refine ⟨s.sh.keep kp (fun r f => by simp) rfl (fun a u m e => ?_) (fun a u e => ?_) (fun a u e => ?_) s.sh.gz fun a m => ⟨(s.sh.mf a m).1, (s.sh.mf a m).2.2⟩, s.sl, fun i x e => ?_⟩
  · have ne : a ≠ p := fun z => h4 (by rw [← z]; exact m)
    rw [upd_ne ne]; exact e
  · rw [upd_ne (ne_of_none e h1)]; exact s.sh.gh a u e
  · rw [upd_ne (ne_of_none e h2)]; exact s.sh.zh a u e
  · obtain ⟨v, e1, f⟩ := s.sv i x e
    exact ⟨v, e1, f.keep kp (by simp)⟩
noncomputable def Res.nox {α : Type} : Res α → Res α
  | .exc _ _ => .bad
  | r => r
@[simp] theorem nox_ok {α : Type} (a : α) (st : LS) : (Res.ok a st).nox = .ok a st := id rfl
@[simp] theorem nox_exc {α : Type} (x : XV) (st : LS) : (Res.exc x st : Res α).nox = .bad := id rfl
@[simp] theorem nox_bad {α : Type} : (Res.bad : Res α).nox = .bad := id rfl
/-- the turns of a comprehension -/
noncomputable def lcT (vs : List Nat) (tg : D → LS → Option LS) (t : E Bool) (e : E D) : List D → List D → LS → Res (List D)
  | [], acc, st => .ok acc st
  | d :: ds, acc, st => match tg d st with
    | none => .bad
    | some s1 => (t s1).nox.bind fun b s2 => if b then (e s2).nox.bind fun y s3 => if acc.length < 16777216 then lcT vs tg t e ds (acc ++ [y]) (wipeS vs s3) else .bad
      else lcT vs tg t e ds acc (wipeS vs s2)
noncomputable def eLc (vs : List Nat) (fi : E (List D)) (tg : D → LS → Option LS) (t : E Bool) (e : E D) : E D := fun st => (fi st).bind fun ds s1 => (lcT vs tg t e ds [] (wipeS vs s1)).bind fun ys s2 => .ok (.lst ys) s2
noncomputable abbrev WN : WX := fun _ _ _ _ => False
structure PTs (Γ : Tab) (X : Cx) (ifs : List Expr) (t : E Bool) : Prop where
  pt : L2.PTs X ifs (TB Γ WN t)
noncomputable def tYes' : E Bool := fun st => .ok true st
theorem _root_.L2.PTs.csq {X : Cx} {e : List Expr} {t u : TT} (h : L2.PTs X e t) (i : ∀ σ H Q, u σ H Q → t σ H Q) : L2.PTs X e u := ⟨fun pins s σ H Q I w => h.run pins s σ H Q I (i _ _ _ w)⟩
theorem ts_nil : PTs Γ X [] tYes' := ⟨pts_nil.csq fun σ H Q ⟨Z, Lt, g, st, s, h⟩ => h g H s (GT.refl _ _)⟩
theorem ts_one {b : E Bool} (x : PB Γ WN X e b) : PTs Γ X [e] b := ⟨pts_one x.pt⟩
theorem lc_T {vs : List Nat} {fi : E (List D)} {tg : D → LS → Option LS} {t : E Bool} {e : E D} {gg : TG} {wi : TI} {is : List Nat} {Q : VK} (hv : ∀ i ∈ is, i ∈ vs) (hg : TarOk Γ is tg gg)
    (hi : ∀ σ H R, (∃ Z Lt g st, SR Γ Z Lt g st σ H ∧ Go Γ W Z Lt σ (fi st) g fun ds g1 st1 H1 => SR Γ Z Lt g1 st1 σ H1 → ∀ J : It,
      (∀ i H g st σ, i < ds.length → SR Γ Z Lt g st σ H → GT Z g1 g → J.go i H ∧ ∀ x H', J.yld i H x H' → ∃ g' d, ds[i]? = some d ∧ SR Γ Z Lt g' st σ H' ∧ GT Z g g' ∧ RD Γ g' d x ∧ Quiet g H g' H') →
      (∀ H g st σ, SR Γ Z Lt g st σ H → GT Z g1 g → J.stop ds.length H) → R J H1) → wi σ H R)
    (h : TF Γ W (eLc vs fi tg t e) σ H Q) : tLc wi gg (TB Γ WN t) (T Γ WN e) vs σ H Q := by
  obtain ⟨Z, Lt, g, st, s, h⟩ := h
  refine hi σ H _ ⟨Z, Lt, g, st, s, (Go.bind h).imp fun ds g1 st1 H1 s1 t1 k1 s1' J hgo hst D nD => ?_⟩
  have k2 := k1 g1 H1 s1 (GT.refl _ _)
  obtain ⟨sD, tD, d1, d2, d3, d4, _⟩ := s1'.newT (d := .lst []) (o := .lst []) nD (RDs.nil (Γ := Γ) (g := g1))
  have lz := s1'.sh.lz
  refine ⟨fun i m H => m = ds.length - i ∧ i ≤ ds.length ∧ ∃ g st acc ws, SR Γ Z Lt g st (L2.wipe σ vs) H ∧ Clean vs st ∧ GT Z g1 g ∧ (g.G D = none ∧ g.O D = some .tmp ∧ D ∉ g.M) ∧ H D = some (.lst ws) ∧ RDs Γ g acc ws ∧
    Go Γ W Z Lt σ ((lcT vs tg t e (ds.drop i) acc st).bind fun ys s2 => .ok (.lst ys) s2) g fun d g' _ H' => ∀ a, OA Γ Z g' H' .tmp a d → Q (.ref a) H',
    ⟨ds.length, by simp, Nat.zero_le _, g1.tmp D .tmp, wipeS vs st1, [], [], sD.wipe vs, clean_wipe st1 vs, tD, ⟨d1, d3, d4⟩, upd_same, RDs.nil (Γ := Γ) (g := g1.tmp D .tmp), ?_⟩, ?_⟩
  · rw [List.drop_zero]
    revert k2
    cases lcT vs tg t e ds [] (wipeS vs st1) with
    | ok ys s2 => exact fun k2 g' H' s' t' => k2 g' H' s' (tD.trans t')
    | exc x s2 => exact fun k2 cls dd g' H' s' t' => k2 cls dd g' H' s' (tD.trans t')
    | bad => exact fun k2 => k2
  · rintro i m H ⟨rfl, hi', g, st, acc, ws, S, cl, tt, ⟨q1, q2, q3⟩, eD, ra, k3⟩
    by_cases hlt : i < ds.length
    · obtain ⟨go, step⟩ := hgo i H g st _ hlt S tt
      refine .inr ⟨go, fun H => i + 1 ≤ ds.length ∧ ∃ g st acc ws, SR Γ Z Lt g st (L2.wipe σ vs) H ∧ Clean vs st ∧ GT Z g1 g ∧ (g.G D = none ∧ g.O D = some .tmp ∧ D ∉ g.M) ∧ H D = some (.lst ws) ∧ RDs Γ g acc ws ∧
        Go Γ W Z Lt σ ((lcT vs tg t e (ds.drop (i + 1)) acc st).bind fun ys s2 => .ok (.lst ys) s2) g fun d g' _ H' => ∀ a, OA Γ Z g' H' .tmp a d → Q (.ref a) H', fun H' ⟨z1, z2⟩ => ⟨ds.length - (i + 1), by omega, rfl, z1, z2⟩, fun x H' y => ?_⟩
      obtain ⟨g', d, ed, s', t', r, qt⟩ := step x H' y
      obtain ⟨u1, u2, u3⟩ := qt.st D _ eD
      have u4 : D ∉ g'.M := fun m => q3 (qt.m D _ eD m)
      have oa : OA Γ Z g' H' .tmp D (.lst acc) := ⟨u2.trans q1, d2, u3.trans q2, u4, _, u1, ra.up t'⟩
      have ec : ds.drop i = d :: ds.drop (i + 1) := by
        rw [List.drop_eq_getElem_cons hlt]
        rw [List.getElem?_eq_getElem hlt] at ed
        cases ed; rfl
      rw [ec] at k3
      simp only [lcT] at k3
      cases et : tg d st with
      | none => rw [et] at k3; exact k3.elim
      | some st2 =>
        rw [et] at k3
        refine hg d x _ H' _ (upd Z D (.lst ws)) Lt g' st st2 (s'.prot oa u1) (.inl r) et (fun σ2 hw s2 => ⟨(hw vs hv).trans wipe_wipe, upd Z D (.lst ws), Lt, g', st2, s2, ?_⟩) r
        have hw2 : L2.wipe σ2 vs = L2.wipe σ vs := (hw vs hv).trans wipe_wipe
        -- what follows a turn
        have next : ∀ {g5 : GM} {st5 : LS} {H5 : Hp}, SR Γ (upd Z D (.lst ws)) Lt g5 st5 σ2 H5 → GT (upd Z D (.lst ws)) g' g5 → SR Γ Z Lt g5 (wipeS vs st5) (L2.wipe σ vs) H5 ∧ GT Z g' g5 ∧ (g5.G D = none ∧ g5.O D = some .tmp ∧ D ∉ g5.M) ∧ H5 D = some (.lst ws) := fun {g5 st5 H5} s5 t5 => by
          obtain ⟨w1, w2, w3, w4⟩ := s5.unprot d2 lz
          obtain ⟨x1, x2⟩ := t5.unprot d2
          have w1' := w1.wipe vs
          rw [hw2] at w1'
          exact ⟨w1', x1, ⟨w3, x2.trans (u3.trans q2), w4⟩, w2⟩
        simp only at k3
        cases e1 : t st2 with
        | ok b st3 =>
          rw [e1] at k3
          simp only [nox_ok, bind_ok] at k3
          intro g3 H3 s3 t3
          cases b with
          | false =>
            obtain ⟨n1, n2, n3, n4⟩ := next s3 t3
            show if (false : Bool) = true then _ else _
            rw [if_neg Bool.false_ne_true]
            refine ⟨hlt, g3, _, acc, ws, n1, clean_wipe _ _, (tt.trans t').trans n2, n3, n4, (ra.up t').up n2, ?_⟩
            simp only [Bool.false_eq_true, if_false] at k3
            revert k3
            cases lcT vs tg t e (ds.drop (i + 1)) acc (wipeS vs st3) with
            | ok ys s2 => exact fun k3 g6 H6 s6 t6 => k3 g6 H6 s6 ((t'.trans n2).trans t6)
            | exc x s2 => exact fun k3 cls dd g6 H6 s6 t6 => k3 cls dd g6 H6 s6 ((t'.trans n2).trans t6)
            | bad => exact fun k3 => k3
          | true =>
            show if (true : Bool) = true then _ else _
            rw [if_pos rfl]
            simp only [if_true] at k3
            refine ⟨upd Z D (.lst ws), Lt, g3, st3, s3, ?_⟩
            cases e2 : e st3 with
            | ok y st4 =>
              rw [e2] at k3
              simp only [nox_ok, bind_ok] at k3
              intro g4 H4 s4 t4 v rv
              obtain ⟨n1, n2, n3, n4⟩ := next s4 (t3.trans t4)
              split at k3
              · rename_i hl
                refine ⟨ws, n4, by rw [← ra.length, sizeLine_eq]; exact hl, hlt, g4, _, acc ++ [y], ws ++ [v], n1.updT n3.1 d2 n3.2.1 n3.2.2 _, clean_wipe _ _, (tt.trans t').trans n2, n3, upd_same, ((ra.up t').up n2).append (RDs.cons rv RDs.nil), ?_⟩
                revert k3
                cases lcT vs tg t e (ds.drop (i + 1)) (acc ++ [y]) (wipeS vs st4) with
                | ok ys s2 => exact fun k3 g6 H6 s6 t6 => k3 g6 H6 s6 ((t'.trans n2).trans t6)
                | exc x s2 => exact fun k3 cls dd g6 H6 s6 t6 => k3 cls dd g6 H6 s6 ((t'.trans n2).trans t6)
                | bad => exact fun k3 => k3
              · exact k3.elim
            | exc x st4 => rw [e2] at k3; exact k3.elim
            | bad => rw [e2] at k3; exact k3.elim
        | exc x st3 => rw [e1] at k3; exact k3.elim
        | bad => rw [e1] at k3; exact k3.elim
    · have ei : i = ds.length := by omega
      subst ei
      refine .inl ⟨hst H g st _ S tt, ?_⟩
      rw [List.drop_length] at k3
      exact k3 g H (S.unwipe cl) (GT.refl _ _) D ⟨q1, d2, q2, q3, _, eD, ra⟩
end
end PL

/-! PyLite, part n: built-in calls, lists that change, comprehensions, lists lent. -/
namespace PL
open PySem PySem.Spec PyProof.Rows L2
section
variable {Γ : Tab} {W : WX} {Z : Hp} {Lt : Lend} {g g' : GM} {st st' : LS} {σ σ' : L2.St} {H H' : Hp} {h h' : List LO} {a p : Addr} {o : HO} {d : D} {v : V} {X : Cx} {e e1 e2 e3 : Expr} {es : List Expr} {f k l : E D} {pos pos2 ppos apos : Pos} {stm : Stmt} {sts : List Stmt} {f1 f2 : S} {D0 : Ends}

/-! ### built-in functions of one and of two -/
theorem pd_b1 {r : List V → Hp → VK → Prop} {m : Sem1} {x : Str} {id : String} (hc : CallR X (.builtin id) r) (hm : Holds1 Γ W X (fun v H Q => r [v] H Q) m) (hg : Gl X x) (hn : X.mg x = none) (hv : bootBuiltins x = some (.builtin id)) (y : PC Γ W X e f)
    (hd : x ≠ "__name__" := by decide) (hdb : (x == ("__debug__" : Str)) = false := by decide) (he : starEach [e] X.env = (false, eval e X.env) :: starEach [] X.env := by rfl) (hpl : (backTo pos (starEach [] X.env)).any (·.1) = false := by rfl) : PD Γ W X (.Call (.Name x ppos) [e] [] pos) (eUn m f) :=
  ⟨(pe_callB hc hg hn hv (pa_cons y.pe pa_nil he) hd hdb he hpl).csq fun σ H Q h => one hm h⟩
theorem pf_b1 {r : List V → Hp → VK → Prop} {m : Sem1} {x : Str} {id : String} (hc : CallR X (.builtin id) r) (hm : Holds1F Γ W X (fun v H Q => r [v] H Q) m) (hg : Gl X x) (hn : X.mg x = none) (hv : bootBuiltins x = some (.builtin id)) (y : PC Γ W X e f)
    (hd : x ≠ "__name__" := by decide) (hdb : (x == ("__debug__" : Str)) = false := by decide) (he : starEach [e] X.env = (false, eval e X.env) :: starEach [] X.env := by rfl) (hpl : (backTo pos (starEach [] X.env)).any (·.1) = false := by rfl) : PF Γ W X (.Call (.Name x ppos) [e] [] pos) (eUn m f) :=
  ⟨(pe_callB hc hg hn hv (pa_cons y.pe pa_nil he) hd hdb he hpl).csq fun σ H Q h => oneF hm h⟩
theorem pd_b2 {r : List V → Hp → VK → Prop} {m : Sem2} {x : Str} {id : String} (hc : CallR X (.builtin id) r) (hm : Holds2 Γ W X (fun v w H Q => r [v, w] H Q) m) (hg : Gl X x) (hn : X.mg x = none) (hv : bootBuiltins x = some (.builtin id)) (y : PV Γ W X e1 f) (z : PV Γ W X e2 k)
    (hd : x ≠ "__name__" := by decide) (hdb : (x == ("__debug__" : Str)) = false := by decide) (he : starEach [e1, e2] X.env = (false, eval e1 X.env) :: starEach [e2] X.env := by rfl) (he2 : starEach [e2] X.env = (false, eval e2 X.env) :: starEach [] X.env := by rfl)
    (hpl : (backTo pos (starEach [e2] X.env)).any (·.1) = false := by rfl) : PD Γ W X (.Call (.Name x ppos) [e1, e2] [] pos) (eBin m f k) :=
  ⟨(pe_callB hc hg hn hv (pa_cons y.pe (pa_cons z.pe pa_nil he2) he) hd hdb he hpl).csq fun σ H Q h => two hm h⟩

/-! ### isinstance -/
inductive Ty where
  | int | bool | str | list | tuple | dict
  deriving DecidableEq
noncomputable def Ty.name : Ty → String
  | .int => "int" | .bool => "bool" | .str => "str" | .list => "list" | .tuple => "tuple" | .dict => "dict"
noncomputable def tyD : D → Option (Option Ty)
  | .non => some none
  | .bl _ => some (some .bool)
  | .int _ => some (some .int)
  | .str _ => some (some .str)
  | .tup _ => some (some .tuple)
  | .lst _ => some (some .list)
  | .dic _ => some (some .dict)
  | _ => none
noncomputable def nameO : Option Ty → String
  | none => "NoneType"
  | some t => t.name
theorem CV.ty {t : Option Ty} (c : CV Γ g H d v) (s : SR Γ Z Lt g st σ H) (e : tyD d = some t) : TyX Γ.K H v (.type (nameO t)) := by
  cases d with
  | non => cases e; rw [c.non]; exact .base .non
  | bl b => cases e; rw [c.bl]; exact .base (.bl b)
  | int b => cases e; rw [c.int]; exact .base (.int b)
  | str b => cases e; rw [c.str]; exact .base (.str b)
  | tup ds =>
    cases e
    obtain ⟨a, vs, rfl, q, _⟩ := c.tup s
    rcases q with (q | ⟨ob, q⟩) | ⟨o, its, n, e1, e2, _⟩
    · exact .base (.tup q)
    · exact .fTuple q
    · exact .kTuple e1 e2
  | lst ds =>
    cases e
    obtain ⟨a, vs, rfl, q, _⟩ := c.lst s
    rcases q with (q | ⟨ob, q⟩) | ⟨o, its, n, e1, e2, _⟩
    · exact .base (.lst q)
    · exact .base (.frz q)
    · exact .kList e1 e2
  | dic ds =>
    cases e
    obtain ⟨a, vs, rfl, q | ⟨ob, q⟩, _⟩ := c.dic s
    · exact .base (.dK q)
    · exact .fDict q
  | obj r => cases e
  | err r => cases e
/-! ### len -/
theorem call_lenD' : CallR X (.builtin "len") (fun xs H Q => ∃ a kvs, xs = [V.ref a] ∧ Rd H a (.dK kvs) ∧ Q (.int kvs.length) H) := by
  intro pins s σ H xs us Q I r h
  obtain ⟨a, kvs, rfl, ha, q⟩ := h
  obtain ⟨u, rfl, ru⟩ := vals1 r
  cases ru
  refine d_len I ha fun t s' I' => ⟨.int kvs.length, H, I', ⟨t, rfl⟩, q⟩
theorem RDk.length {Γ : Tab} {g : GM} : ∀ {ds : List (Key × D)} {vs : List (Key × V)}, RDk Γ g ds vs → ds.length = vs.length
  | [], vs, h => by simp only [RDk] at h; subst h; rfl
  | d :: ds, vs, h => by
    simp only [RDk] at h
    obtain ⟨v, r, rfl, _, h2⟩ := h
    simp [RDk.length h2]
noncomputable def mLen : Sem1 := fun x st => match x with
  | .lst ds => .ok (.int ds.length) st
  | .tup ds => .ok (.int ds.length) st
  | .dic ds => .ok (.int ds.length) st
  | .str z => if z.length ≤ 16777216 then .ok (.int z.length) st else .bad
  | _ => .bad
theorem pd_len (hK : X.K = Γ.K) (hg : Gl X "len") (hn : X.mg "len" = none) (y : PC Γ W X e f)
    (he : starEach [e] X.env = (false, eval e X.env) :: starEach [] X.env := by rfl) (hpl : (backTo pos (starEach [] X.env)).any (·.1) = false := by rfl) : PD Γ W X (.Call (.Name "len" ppos) [e] [] pos) (eUn mLen f) := by
  refine pd_b1 ((call_len_seq.or call_lenD').or call_len_str) ?_ hg hn PySem.boot_len y (by decide) (by decide) he hpl
  intro Z Lt g st σ H x v Q s rx h
  unfold mLen at h
  split at h
  · obtain ⟨a, vs, rfl, q, r⟩ := rx.lst s
    rw [r.length] at h
    exact .inl (.inl ⟨a, vs, rfl, .inl (by rw [hK]; exact q), ret_int s h⟩)
  · obtain ⟨a, vs, rfl, q, r⟩ := rx.tup s
    rw [r.length] at h
    exact .inl (.inl ⟨a, vs, rfl, .inr (by rw [hK]; exact q), ret_int s h⟩)
  · obtain ⟨a, vs, rfl, q, r⟩ := rx.dic s
    rw [r.length] at h
    exact .inl (.inr ⟨a, vs, rfl, q, ret_int s h⟩)
  · split at h
    · rename_i hl
      rw [rx.str]
      exact .inr ⟨_, rfl, by rw [sizeLine_eq]; exact hl, ret_int s h⟩
    · exact h.elim
  · exact h.elim

/-! ### max, min of two -/
noncomputable def mMax : Sem2 := mInt0 fun i j => .int (if j > i then j else i)
theorem pd_max2 (hc : X.calm = true) (hg : Gl X "max") (hn : X.mg "max" = none) (y : PV Γ W X e1 f) (z : PV Γ W X e2 k)
    (he : starEach [e1, e2] X.env = (false, eval e1 X.env) :: starEach [e2] X.env := by rfl) (he2 : starEach [e2] X.env = (false, eval e2 X.env) :: starEach [] X.env := by rfl)
    (hpl : (backTo pos (starEach [e2] X.env)).any (·.1) = false := by rfl) : PD Γ W X (.Call (.Name "max" ppos) [e1, e2] [] pos) (eBin mMax f k) := by
  refine pd_b2 (call_max2 hc) (fun Z Lt g st σ H x y v w Q s rx ry h => ?_) hg hn PyProof.Rows.boot_max y z (by decide) (by decide) he he2 hpl
  unfold mMax mInt0 at h
  split at h
  · rw [rx.int, ry.int]; exact ⟨_, _, rfl, ret_int s h⟩
  · exact h.elim
/-! ### bit_length -/
noncomputable def mBits : Sem1 := fun x st => match x with
  | .int i => .ok (.int (Builtin.Int.intBits i : Nat)) st
  | _ => .bad
theorem pd_bits (y : PC Γ W X e f) (hbase : attributeBase e "bit_length" X.env (eval e X.env) = eval e X.env := by rfl) (hline : (apos.endLine == pos.line) = true := by rfl) : PD Γ W X (.Call (.Attribute e "bit_length" apos) [] [] pos) (eUn mBits f) := by
  refine ⟨(pe_bits y.pe hbase hline).csq fun σ H Q h => one (X := X) (r := fun v H Q => ∃ i, v = V.int i ∧ Q (.int (Builtin.Int.intBits i : Nat)) H) (fun Z Lt g st σ H x v Q s rx h => ?_) h⟩
  unfold mBits at h
  split at h
  · rw [rx.int]; exact ⟨_, rfl, ret_int s h⟩
  · exact h.elim

/-! ### for i, x in enumerate(xs) -/
noncomputable def enumD : Nat → List D → List D
  | _, [] => []
  | i, d :: ds => .tup [.int (i : Nat), d] :: enumD (i + 1) ds
theorem enumD_len : ∀ (i : Nat) (ds : List D), (enumD i ds).length = ds.length
  | _, [] => rfl
  | i, d :: ds => by simp [enumD, enumD_len]
theorem enumD_get : ∀ (i : Nat) (ds : List D) (j : Nat), (enumD i ds)[j]? = (ds[j]?).map fun d => D.tup [.int ((i + j : Nat) : Int), d]
  | _, [], j => by simp [enumD]
  | i, d :: ds, 0 => by simp [enumD]
  | i, d :: ds, j + 1 => by
    simp only [enumD, List.getElem?_cons_succ]
    rw [enumD_get (i + 1) ds j]
    congr 1
    funext d
    rw [show i + 1 + j = i + (j + 1) by omega]
noncomputable def iEnm (f : E D) : E (List D) := fun st => (f st).bind fun d s1 => match d with
  | .lst ds => .ok (enumD 0 ds) s1
  | _ => .bad
theorem Quiet.put {o : HO} (n : H p = none) : Quiet g H (g.put p o) (upd H p o) :=
  ⟨fun a u e => ⟨by rw [upd_ne (ne_of_none e n)]; exact e, put_ne (ne_of_none e n), rfl⟩, fun a u e m => m⟩
theorem it_enum {elts : List Expr} {kk : Nat} {tpos : Pos} (hK : X.K = Γ.K) (hg : Gl X "enumerate") (hn : X.mg "enumerate" = none) (y : PV Γ W X e f) (hs : starEach [e] X.env = [(false, eval e X.env)] := by rfl) (hs2 : starEach [e] X.env = (false, eval e X.env) :: starEach [] X.env := by rfl) :
    PIt Γ W X (.Tuple elts kk tpos) (.Call (.Name "enumerate" ppos) [e] [] pos) (iEnm f) := by
  refine ⟨_, pi_enum hg hn (pa_cons y.pe pa_nil hs2) hs, fun σ H R ⟨Z, Lt, g, st, s, h⟩ => ⟨Z, Lt, g, st, s, (Go.bind h).imp fun d g1 st1 H1 s1 t1 k1 v r => ?_⟩⟩
  have k2 := k1 g1 H1 s1 (GT.refl _ _)
  cases d with
  | lst ds =>
    obtain ⟨a, vs, rfl, rs, sq⟩ := r.seqL
    refine ⟨a, vs, rfl, by rw [hK]; exact sq Lt g1 st1 σ H1 s1 (GT.refl _ _), ?_⟩
    refine k2 g1 H1 s1 (GT.refl _ _) s1 _ (fun i H g st σ hi s t => ?_) (fun H g st σ s t => ⟨vs, by rw [hK]; exact sq Lt g st σ H s t, by rw [enumD_len, rs.length]; exact Nat.le_refl _⟩)
    rw [enumD_len] at hi
    obtain ⟨d, ed⟩ : ∃ d, ds[i]? = some d := ⟨ds[i], List.getElem?_eq_getElem hi⟩
    obtain ⟨w, ew, rw'⟩ := rs.get ed
    have sq' : SqL X.K H a vs := by rw [hK]; exact sq Lt g st σ H s t
    refine ⟨⟨vs, w, sq', ew⟩, fun x H' ⟨T, x', e1, e2, e3, e4⟩ => ?_⟩
    subst e1 e3
    have := e4 vs sq'
    rw [ew] at this; cases this
    have nn := (s.sh.new e2).2.1
    refine ⟨g.put T (.tup [.int (i : Nat), w]), .tup [.int (i : Nat), d], by rw [enumD_get, ed]; simp, s.new e2 _, GT.put nn, ?_, Quiet.put e2⟩
    simp only [RD]
    exact ⟨T, _, rfl, .inl (.inl put_same), RDs.cons RD.int (RDs.cons (RD.mono ((t.le).trans (GLe.put nn)) (by obtain ⟨u, hu⟩ := t.mp; exact ⟨u, hu⟩) _ _ rw') RDs.nil)⟩
  | _ => exact k2.elim

/-! ### a name's own list changes -/
theorem SR.own {i : Nat} (s : SR Γ Z Lt g st σ H) (e : st.s[i]? = some (some (.own d))) : ∃ a o, σ[i]? = some (some (.ref a)) ∧ H a = some o ∧ CR Γ g d o ∧ ∀ d' o', CR Γ g d' o' → SR Γ Z Lt g (st.set i (.own d')) σ (upd H a o') := by
  obtain ⟨v, e1, a, rfl, h1, h2, h3, h4, o, h5, h6⟩ := s.sv i _ e
  refine ⟨a, o, e1, h5, h6, fun d' o' c => ?_⟩
  have hi : i < st.s.length := (List.getElem?_eq_some_iff.mp e).1
  have kp : Kp Z g g H (upd H a o') fun q => q ≠ .loc i := ⟨GT.refl _ _, fun b q u hq k1 k2 k3 k4 k5 => by
    have ne : b ≠ a := fun z => by subst z; rw [h3] at k3; cases k3; exact hq rfl
    exact ⟨k1, k3, k4, by rw [upd_ne ne]; exact k5⟩⟩
  refine ⟨s.sh.keep kp (fun r f => by simp) rfl (fun b u m e => ?_) (fun b u e => ?_) (fun b u e => ?_) s.sh.gz fun b m => ⟨(s.sh.mf b m).1, (s.sh.mf b m).2.2⟩, by simpa [LS.set] using s.sl, fun j x ej => ?_⟩
  · have ne : b ≠ a := fun z => h4 (by rw [← z]; exact m)
    rw [upd_ne ne]; exact e
  · rw [upd_ne (ne_of_none e h1)]; exact s.sh.gh b u e
  · rw [upd_ne (ne_of_none e h2)]; exact s.sh.zh b u e
  · have ej : (st.s.set i (some (.own d')))[j]? = some (some x) := ej
    by_cases hj : j = i
    · subst hj
      rw [List.getElem?_set_self hi] at ej
      cases ej
      exact ⟨_, e1, a, rfl, h1, h2, h3, h4, o', upd_same, c⟩
    · rw [List.getElem?_set_ne (Ne.symm hj)] at ej
      obtain ⟨w, e2, f⟩ := s.sv j x ej
      exact ⟨w, e2, f.keep kp (fun z => hj (by cases z; rfl))⟩
theorem CR.lst {ds : List D} (c : CR Γ g (.lst ds) o) : ∃ vs, o = .lst vs ∧ RDs Γ g ds vs := by
  cases o <;> first | exact c.elim | exact ⟨_, rfl, c⟩
theorem CR.dic {ds : List (Key × D)} (c : CR Γ g (.dic ds) o) : ∃ vs, o = .dK vs ∧ RDk Γ g ds vs := by
  cases o <;> first | exact c.elim | exact ⟨_, rfl, c⟩
noncomputable def LS.ownL (st : LS) (i : Nat) : Option (List D) := match st.s[i]? with
  | some (some (.own (.lst ds))) => some ds
  | _ => none
theorem ownL_eq {i : Nat} {ds : List D} (e : st.ownL i = some ds) : st.s[i]? = some (some (.own (.lst ds))) := by
  unfold LS.ownL at e
  split at e
  · cases e; assumption
  · cases e
/-- x.append(e) -/
noncomputable def sApp (i : Nat) (f : E D) : S := fun st => match st.ownL i with
  | some _ => SRes.of (f st) fun d s1 => match s1.ownL i with
    | some ds => if ds.length < 16777216 then .nx (s1.set i (.own (.lst (ds ++ [d])))) else .bad
    | none => .bad
  | none => .bad
theorem st_app {i : Nat} {x : Str} (hK : X.K = Γ.K) (hN : X.N[i]? = some x) (hv : Vis X.env.scope x) (y : PD Γ W X e f) (hd : (x == ("__debug__" : Str)) = false := by decide) (hcd : (x == ("__classdict__" : Str)) = false := by decide)
    (hbase : attributeBase (.Name x pos2) "append" X.env (eval (.Name x pos2) X.env) = eval (.Name x pos2) X.env := by rfl)
    (hfew : ((backTo ppos (starEach [e] X.env)).all (fun x => !x.1) && (backToKw ppos (keywordEach [] X.env)).all (fun x => x.1.isSome)
      && decide ([e].length + ([] : List Keyword).length + (if ([] : List Keyword).isEmpty then 0 else 1) < 30)) = true := by rfl)
    (hline : (apos.endLine == ppos.line) = true := by rfl) (hs : starEach [e] X.env = (false, eval e X.env) :: starEach [] X.env := by rfl) (hplain : (backTo ppos (starEach [] X.env)).any (·.1) = false := by rfl)
    (hsw : swapsWith (.Call (.Attribute (.Name x pos2) "append" apos) [e] [] ppos) none pos.line X.env = pure false := by rfl) :
    PSt Γ W X (.Expr (.Call (.Attribute (.Name x pos2) "append" apos) [e] [] ppos) pos) (sApp i f) := by
  refine ⟨(ps_expr (pe_bm PySem.F.plainAttrs_list PySem.F.slot_list_append PySem.F.type_list_append mt_append (pe_var hN hv hd hcd) (pa_cons y.pe pa_nil hs) hbase hfew hline hs hplain) hsw).csq fun D σ H ⟨Z, Lt, g, st, s, h⟩ => ?_⟩
  unfold sApp at h
  cases e0 : st.ownL i with
  | none => rw [e0] at h; exact h.elim
  | some ds0 =>
    rw [e0] at h
    obtain ⟨a, o, e1, e2, c2, _⟩ := s.own (ownL_eq e0)
    obtain ⟨vs, rfl, _⟩ := c2.lst
    refine ⟨_, e1, .inl ⟨rfl, vs, SqL.of e2⟩, Z, Lt, g, st, s, (GoS.of h).imp fun d g1 st1 H1 s1 t1 k1 v r => ?_⟩
    have k2 := k1 g1 H1 s1 (GT.refl _ _)
    cases e3 : st1.ownL i with
    | none => rw [e3] at k2; exact k2.elim
    | some ds =>
      rw [e3] at k2
      obtain ⟨b, o, e4, e5, c5, k5⟩ := s1.own (ownL_eq e3)
      rw [e1] at e4; cases e4
      obtain ⟨ws, rfl, rs⟩ := c5.lst
      simp only at k2
      split at k2
      · rename_i hl
        exact ⟨a, ws, v, rfl, rfl, e5, by rw [← rs.length, sizeLine_eq]; exact hl, k2 σ g1 _ (k5 (.lst (ds ++ [d])) (.lst (ws ++ [v])) (rs.append (RDs.cons r RDs.nil))) (GT.refl _ _)⟩
      · exact k2.elim
/-- x[i] = e -/
noncomputable def ixD (n : Nat) (i : Int) : Option Nat := if 0 ≤ i then (if i < n then some i.toNat else none) else if -(n : Int) ≤ i then some (i + n).toNat else none
theorem ixN_ixD (n : Nat) (i : Int) : ixN n i = ixD n i := rfl
theorem RDs.set {ds : List D} {vs : List V} {j : Nat} (r : RDs Γ g ds vs) (x : RD Γ g d v) : RDs Γ g (ds.set j d) (vs.set j v) := by
  induction ds generalizing vs j with
  | nil => simp only [RDs] at r; subst r; simpa using RDs.nil
  | cons y ds ih =>
    simp only [RDs] at r
    obtain ⟨w, q, rfl, r1, r2⟩ := r
    cases j with
    | zero => exact RDs.cons x r2
    | succ j => exact RDs.cons r1 (ih r2)
noncomputable def sPut (i : Nat) (fi fe : E D) : S := fun st => SRes.of (fe st) fun d s1 => match s1.ownL i with
  | some _ => SRes.of (fi s1) fun j s2 => match s2.ownL i, j with
    | some ds, .int j => match ixD ds.length j with
      | some n => .nx (s2.set i (.own (.lst (ds.set n d))))
      | none => .bad
    | _, _ => .bad
  | none => .bad
theorem st_put {i : Nat} {x : Str} {ei : Expr} (hN : X.N[i]? = some x) (hv : Vis X.env.scope x) (z : PD Γ W X ei k) (y : PD Γ W X e f) (hd : (x == ("__debug__" : Str)) = false := by decide) (hcd : (x == ("__classdict__" : Str)) = false := by decide)
    (ha : ∀ v, assign (.Subscript (.Name x pos2) ei apos) X.env v = (do
      let ov ← holding [v] (eval (.Name x pos2) X.env)
      let iv ← holding [v, ov] (eval ei X.env)
      standAt apos
      holding [v, ov, iv] (setItem ov iv v)
      release [v, ov, iv] []) := by intro _; rfl)
    (hs : swapsWithSole [.Subscript (.Name x pos2) ei apos] e pos.line X.env = pure false := by rfl) (hw : swappedStores [.Subscript (.Name x pos2) ei apos] e X.env = pure none := by rfl)
    (h1 : (assignEach [.Subscript (.Name x pos2) ei apos] X.env).map (·.2) = [assign (.Subscript (.Name x pos2) ei apos) X.env] := by rfl) :
    PSt Γ W X (.Assign [.Subscript (.Name x pos2) ei apos] e pos) (sPut i k f) := by
  refine ⟨(ps_asg y.pe (pg_sub (pe_var hN hv hd hcd) z.pe set_list ha) hs hw h1).csq fun D σ H ⟨Z, Lt, g, st, s, h⟩ => ⟨Z, Lt, g, st, s, (GoS.of h).imp fun d g1 st1 H1 s1 t1 k1 v r => ?_⟩⟩
  have k2 := k1 g1 H1 s1 (GT.refl _ _)
  cases e0 : st1.ownL i with
  | none => rw [e0] at k2; exact k2.elim
  | some ds0 =>
    rw [e0] at k2
    obtain ⟨a, o, e1, e2, c2, _⟩ := s1.own (ownL_eq e0)
    refine ⟨_, e1, Z, Lt, g1, st1, s1, (GoS.of k2).imp fun j g2 st2 H2 s2 t2 k3 w r2 => ?_⟩
    have k4 := k3 g2 H2 s2 (GT.refl _ _)
    cases e3 : st2.ownL i with
    | none => rw [e3] at k4; exact k4.elim
    | some ds =>
      rw [e3] at k4
      cases j with
      | int j =>
        simp only at k4
        simp only [RD] at r2; subst r2
        obtain ⟨b, o, e4, e5, c5, k5⟩ := s2.own (ownL_eq e3)
        rw [e1] at e4; cases e4
        obtain ⟨ws, rfl, rs⟩ := c5.lst
        split at k4
        · rename_i n en
          refine ⟨a, ws, j, n, rfl, rfl, e5, by rw [ixN_ixD, ← rs.length]; exact en, ?_⟩
          exact k4 σ g2 _ (k5 (.lst (ds.set n d)) (.lst (ws.set n v)) (rs.set (r.up t2))) (GT.refl _ _)
        · exact k4.elim
      | _ => exact k4.elim

/-! ### x += e -/
noncomputable def sAug (i : Nat) (m : Sem2) (f : E D) : S := fun st => match st.s[i]? with
  | some (some (.val x)) => SRes.of (f st) fun y s1 => SRes.of (m x y s1) fun z s2 => .nx (s2.set i (.val z))
  | _ => .bad
theorem st_aug {i : Nat} {x : Str} {op : Operator} {r : R2} {m : Sem2} (hN : X.N.Nodup) (hi : X.N[i]? = some x) (hx : Loc X.env.scope x) (ho : OpR X (inplaceOp op) r) (hm : Holds2 Γ W X r m) (y : PV Γ W X e f)
    (hf : X.fn x = true ∨ X.env.scope.names.lookup x = some .local := by first | exact .inl rfl | exact .inr rfl | assumption) : PSt Γ W X (.AugAssign (.Name x pos2) op e pos) (sAug i m f) :=
  ⟨(ps_aug hN hi hx y.pe ho hf).csq fun D σ H ⟨Z, Lt, g, st, s, h⟩ => by
    unfold sAug at h
    split at h
    · rename_i d e0
      obtain ⟨v, e1, r1⟩ := s.sv i _ e0
      refine ⟨v, e1, Z, Lt, g, st, s, (GoS.of h).imp fun y g1 st1 H1 s1 t1 k1 w r2 => ?_⟩
      have k2 := k1 g1 H1 s1 (GT.refl _ _)
      exact hm Z Lt g1 st1 σ H1 d y v w _ s1 (.inl (RD.up r1 t1)) (r2.cv s1) ((GoS.of k2).imp fun z g2 st2 H2 s2 t2 k3 u r3 => k3 g2 H2 s2 (GT.refl _ _) _ g2 H2 (s2.setV i r3) (GT.refl _ _))
    · exact h.elim⟩
theorem iop_mulX : OpR X (inplaceOp .Mult) (rI CMulX fun i j => .int (i * j)) := opI fun _ _ _ _ _ _ _ hc q => imul_int q hc.ok
end
end PL

/-! PyLite, part o: comprehensions, lists lent. -/
namespace PL
open PySem PySem.Spec PyProof.Rows L2
section
variable {Γ : Tab} {W : WX} {Z : Hp} {Lt : Lend} {g g' : GM} {st st' : LS} {σ σ' : L2.St} {H H' : Hp} {h h' : List LO} {a p : Addr} {o : HO} {d : D} {v : V} {X : Cx} {e e1 e2 e3 : Expr} {es : List Expr} {f k l : E D} {pos pos2 ppos apos : Pos} {stm : Stmt} {sts : List Stmt} {f1 f2 : S} {D0 : Ends}

/-! ### comprehensions -/
noncomputable def gCan (Γ : Tab) (is : List Nat) (tg : D → LS → Option LS) : TG := fun v σ H Q => ∃ d Z Lt g st s1, SR Γ Z Lt g st σ H ∧ RD Γ g d v ∧ tg d st = some s1 ∧
  ∀ σ', (∀ ws : List Nat, (∀ i ∈ is, i ∈ ws) → L2.wipe σ' ws = L2.wipe σ ws) → SR Γ Z Lt g s1 σ' H → Q σ' H
theorem gCan_ok {is : List Nat} {tg : D → LS → Option LS} : TarOk Γ is tg (gCan Γ is tg) := fun d v σ H Q Z Lt g st s1 s _ e k r => ⟨d, Z, Lt, g, st, s1, s, r, e, k⟩
theorem _root_.L2.PG.csq {X : Cx} {e : Expr} {t u : TG} (h : L2.PG X e t) (i : ∀ v σ H Q, u v σ H Q → t v σ H Q) : L2.PG X e u := ⟨fun pins s σ H v w Q I r q => h.run pins s σ H v w Q I r (i _ _ _ _ q)⟩
theorem PTar.can {target : Expr} {is : List Nat} {tg : D → LS → Option LS} (x : PTar Γ X target is tg) : L2.PG X target (gCan Γ is tg) := by
  obtain ⟨t, h1, h2⟩ := x.pg
  exact h1.csq fun v σ H Q ⟨d, Z, Lt, g, st, s1, s, r, e, k⟩ => h2 d v σ H Q Z Lt g st s1 s (.inl r) e k r
theorem lc_ok {elt tg iter : Expr} {ifs : List Expr} {scope : Scope} {own : List (Str × Nat)} {is : List Nat} {fi : E (List D)} {tgf : D → LS → Option LS} {t : E Bool} (hi : PIt Γ W X tg iter fi) (hv : ∀ i ∈ is, i ∈ own.map (·.2)) :
    ∃ wi, PI X tg iter wi ∧ ∀ σ H Q, TF Γ W (eLc (own.map (·.2)) fi tgf t f) σ H Q → tLc wi (gCan Γ is tgf) (TB Γ WN t) (T Γ WN f) (own.map (·.2)) σ H Q := by
  obtain ⟨wi, h1, h2⟩ := hi.pi
  exact ⟨wi, h1, fun σ H Q h => lc_T hv gCan_ok h2 h⟩
/-- [e for x in xs if t] -/
theorem pf_lc {elt tg iter : Expr} {ifs : List Expr} {scope : Scope} {is : List Nat} {fi : E (List D)} {tgf : D → LS → Option LS} {t : E Bool} (own : List (Str × Nat)) (hc : X.calm = true) (hN : X.N.Nodup) (hi : PIt Γ W X tg iter fi) (ok : BlkOk X.N X.env.scope scope own)
    (hv : ∀ i ∈ is, i ∈ own.map (·.2))
    (hg : ∀ (s : Shared) (H : Hp) (C : Addr) (cl : List (Str × Addr)) (fp : List Addr), PTar Γ (X.blk s H scope (compEnvC scope cl C X.env) fp) tg is tgf) (ht : ∀ (s : Shared) (H : Hp) (C : Addr) (cl : List (Str × Addr)) (fp : List Addr), PTs Γ (X.blk s H scope (compEnvC scope cl C X.env) fp) ifs t)
    (he : ∀ (s : Shared) (H : Hp) (C : Addr) (cl : List (Str × Addr)) (fp : List Addr), PD Γ WN (X.blk s H scope (compEnvC scope cl C X.env) fp) elt f) (hs : ∀ x, foldedSetIterable iter X.env x = pure x := by intro _; rfl) :
    PF Γ W X (.ListComp elt [⟨tg, iter, ifs, 0⟩] scope pos) (eLc (own.map (·.2)) fi tgf t f) := by
  obtain ⟨wi, h1, h2⟩ := lc_ok (t := t) (f := f) (ifs := ifs) (elt := elt) (scope := scope) (tgf := tgf) hi hv
  exact ⟨(pe_lc hc hN h1 ok (fun s H C cl fp => (hg s H C cl fp).can) (fun s H C cl fp => (ht s H C cl fp).pt) (fun s H C cl fp => (he s H C cl fp).pe) hs).csq fun σ H Q h => h2 σ H Q h⟩
/-- name = [..], the name a local -/
theorem st_setLcF {i : Nat} {y : Str} {py : Pos} {spos : Pos} {elt tg iter : Expr} {ifs : List Expr} {scope : Scope} {is : List Nat} {fi : E (List D)} {tgf : D → LS → Option LS} {t : E Bool} (own : List (Str × Nat)) (hc : X.calm = true) (hN : X.N.Nodup) (hy : X.N[i]? = some y) (hyl : X.env.scope.names.lookup y = some .local)
    (hsw : swapsWith (.ListComp elt [⟨tg, iter, ifs, 0⟩] scope pos) (some (.Name y py)) spos.line X.env = pure true) (hi : PIt Γ W X tg iter fi) (ok : BlkOk X.N X.env.scope scope own)
    (hv : ∀ i ∈ is, i ∈ own.map (·.2))
    (hg : ∀ (s : Shared) (H : Hp) (C : Addr) (cl : List (Str × Addr)) (fp : List Addr), PTar Γ (X.blk s H scope (compEnvC scope cl C X.env) fp) tg is tgf) (ht : ∀ (s : Shared) (H : Hp) (C : Addr) (cl : List (Str × Addr)) (fp : List Addr), PTs Γ (X.blk s H scope (compEnvC scope cl C X.env) fp) ifs t)
    (he : ∀ (s : Shared) (H : Hp) (C : Addr) (cl : List (Str × Addr)) (fp : List Addr), PD Γ WN (X.blk s H scope (compEnvC scope cl C X.env) fp) elt f) (hs : ∀ x, foldedSetIterable iter X.env x = pure x := by intro _; rfl) :
    PSt Γ W X (.Assign [.Name y py] (.ListComp elt [⟨tg, iter, ifs, 0⟩] scope pos) spos) (sSetF i (eLc (own.map (·.2)) fi tgf t f)) := by
  obtain ⟨wi, h1, h2⟩ := lc_ok (t := t) (f := f) (ifs := ifs) (elt := elt) (scope := scope) (tgf := tgf) hi hv
  exact ⟨(ps_setLc hc hN hy hyl hsw h1 ok (fun s H C cl fp => (hg s H C cl fp).can) (fun s H C cl fp => (ht s H C cl fp).pt) (fun s H C cl fp => (he s H C cl fp).pe) hs).csq fun D σ H h => h2 σ H _ (setF_T h)⟩
theorem st_setLc {i : Nat} {y : Str} {py : Pos} {spos : Pos} {elt tg iter : Expr} {ifs : List Expr} {scope : Scope} {is : List Nat} {fi : E (List D)} {tgf : D → LS → Option LS} {t : E Bool} (own : List (Str × Nat)) (hc : X.calm = true) (hN : X.N.Nodup) (hy : X.N[i]? = some y) (hyl : X.env.scope.names.lookup y = some .local)
    (hsw : swapsWith (.ListComp elt [⟨tg, iter, ifs, 0⟩] scope pos) (some (.Name y py)) spos.line X.env = pure true) (hi : PIt Γ W X tg iter fi) (ok : BlkOk X.N X.env.scope scope own)
    (hv : ∀ i ∈ is, i ∈ own.map (·.2))
    (hg : ∀ (s : Shared) (H : Hp) (C : Addr) (cl : List (Str × Addr)) (fp : List Addr), PTar Γ (X.blk s H scope (compEnvC scope cl C X.env) fp) tg is tgf) (ht : ∀ (s : Shared) (H : Hp) (C : Addr) (cl : List (Str × Addr)) (fp : List Addr), PTs Γ (X.blk s H scope (compEnvC scope cl C X.env) fp) ifs t)
    (he : ∀ (s : Shared) (H : Hp) (C : Addr) (cl : List (Str × Addr)) (fp : List Addr), PD Γ WN (X.blk s H scope (compEnvC scope cl C X.env) fp) elt f) (hs : ∀ x, foldedSetIterable iter X.env x = pure x := by intro _; rfl) :
    PSt Γ W X (.Assign [.Name y py] (.ListComp elt [⟨tg, iter, ifs, 0⟩] scope pos) spos) (sSet i (eLc (own.map (·.2)) fi tgf t f)) := by
  obtain ⟨wi, h1, h2⟩ := lc_ok (t := t) (f := f) (ifs := ifs) (elt := elt) (scope := scope) (tgf := tgf) hi hv
  exact ⟨(ps_setLc hc hN hy hyl hsw h1 ok (fun s H C cl fp => (hg s H C cl fp).can) (fun s H C cl fp => (ht s H C cl fp).pt) (fun s H C cl fp => (he s H C cl fp).pe) hs).csq fun D σ H h => h2 σ H _ (T.of_TF (setV_T h))⟩

/-! ### a name's own list lent for a while -/
noncomputable def LS.lend (st : LS) (i : Nat) : LS := match st.s[i]? with
  | some (some (.own d)) => { st with s := st.s.set i (some (.lent d)) }
  | _ => st
noncomputable def LS.unl (st : LS) (i : Nat) : LS := match st.s[i]? with
  | some (some (.lent d)) => { st with s := st.s.set i (some (.own d)) }
  | _ => st
noncomputable def Res.mapS {α : Type} (t : LS → LS) : Res α → Res α
  | .ok a st => .ok a (t st)
  | .exc x st => .exc x (t st)
  | .bad => .bad
noncomputable def SRes.mapS (t : LS → LS) : SRes → SRes
  | .nx st => .nx (t st)
  | .ret x st => .ret x (t st)
  | .bk st => .bk (t st)
  | .ct st => .ct (t st)
  | .exc x st => .exc x (t st)
  | .bad => .bad
noncomputable def eLend {α : Type} (i : Nat) (f : E α) : E α := fun st => match st.s[i]? with
  | some (some (.own _)) => (f (st.lend i)).mapS fun s => s.unl i
  | _ => f st
noncomputable abbrev ltU (Lt : Lend) (i : Nat) (a : Addr) : Lend := fun q => if q = .loc i then some a else Lt q
theorem ltU_ne {i : Nat} {q : Path} (h : q ≠ .loc i) : ltU Lt i a q = Lt q := if_neg h
theorem ltU_same {i : Nat} : ltU Lt i a (.loc i) = some a := if_pos rfl
theorem SR.lend {i : Nat} (s : SR Γ Z Lt g st σ H) (e : st.s[i]? = some (some (.own d))) :
    ∃ a o, SR Γ (upd Z a o) (ltU Lt i a) g (st.lend i) σ H ∧ Z a = none ∧ g.O a = some (.loc i) ∧ lk o = false := by
  obtain ⟨v, e1, a, rfl, h1, h2, h3, h4, o, h5, h6⟩ := s.sv i _ e
  have hl : lk o = false := by
    cases o <;> first | rfl | (cases d <;> exact h6.elim)
  have hi : i < st.s.length := (List.getElem?_eq_some_iff.mp e).1
  have es : st.lend i = { st with s := st.s.set i (some (.lent d)) } := by unfold LS.lend; rw [e]
  have ne : ∀ {b : Addr} {q : Path}, g.O b = some q → q ≠ .loc i → b ≠ a := fun {b q} z hq w => by subst w; rw [h3] at z; cases z; exact hq rfl
  have fv : ∀ {q : Path} {x : FV} {v : V}, q ≠ .loc i → FVR Γ Z Lt g H q x v → FVR Γ (upd Z a o) (ltU Lt i a) g H q x v := by
    intro q x v hq f
    cases x with
    | val d => exact f
    | own d =>
      obtain ⟨b, eb, k1, k2, k3, k4⟩ := f
      exact ⟨b, eb, k1, by rw [upd_ne (ne k3 hq)]; exact k2, k3, k4⟩
    | lent d =>
      obtain ⟨b, u, eb, k1, k2, k3⟩ := f
      exact ⟨b, u, eb, by rw [ltU_ne hq]; exact k1, by rw [upd_ne (ne_of_none k2 h2)]; exact k2, k3⟩
  refine ⟨a, o, ?_, h2, h3, hl⟩
  rw [es]
  refine ⟨⟨s.sh.gh, fun b u z => ?_, fun b u z => ?_, s.sh.ml, s.sh.mn, fun b m => ?_, fun r lo b e1 e2 => ?_, s.sh.nd, fun q b z => ?_⟩, by simpa using s.sl, fun j x ej => ?_⟩
  · by_cases c : b = a
    · subst c; rw [upd_same] at z; cases z; exact h5
    · rw [upd_ne c] at z; exact s.sh.zh b u z
  · by_cases c : b = a
    · subst c; exact h1
    · rw [upd_ne c] at z; exact s.sh.gz b u z
  · have nb : b ≠ a := fun z => h4 (by rw [← z]; exact m)
    rw [upd_ne nb]; exact s.sh.mf b m
  · have := s.sh.ob r lo b e1 e2
    cases lo with
    | ins c fs =>
      obtain ⟨C, dx, ws, q1, q2, q3, q4⟩ := this
      refine ⟨C, dx, ws, q1, q2, q3, ?_⟩
      clear e1
      induction fs generalizing ws with
      | nil => exact q4
      | cons y fs ih =>
        have : ∀ {fs : List (Nat × FV)} {ws : List (Str × V)}, FR Γ Z Lt g H r C fs ws → FR Γ (upd Z a o) (ltU Lt i a) g H r C fs ws := by
          intro fs
          induction fs with
          | nil => intro ws f; exact f
          | cons y fs ih =>
            intro ws f
            obtain ⟨n, v, q, e, k1, k2, k3, k4, k5⟩ := f
            exact ⟨n, v, q, e, k1, k2, fv (by simp) k3, k4, ih k5⟩
        exact this q4
    | cell d => exact this
    | lck d => obtain ⟨l, ob, u, k1, k2, k3⟩ := this; exact ⟨l, ob, u, k1, by rw [upd_ne (ne_of_none k2 h2)]; exact k2, k3⟩
  · by_cases c : q = .loc i
    · subst c; rw [ltU_same] at z; cases z; exact ⟨o, upd_same, trivial⟩
    · rw [ltU_ne c] at z
      obtain ⟨u, z', kq⟩ := s.sh.lz q b z
      exact ⟨u, by rw [upd_ne (ne_of_none z' h2)]; exact z', kq⟩
  · have ej : (st.s.set i (some (.lent d)))[j]? = some (some x) := ej
    by_cases hj : j = i
    · subst hj
      rw [List.getElem?_set_self hi] at ej
      cases ej
      exact ⟨_, e1, a, o, rfl, ltU_same, upd_same, .inl h6⟩
    · rw [List.getElem?_set_ne (Ne.symm hj)] at ej
      obtain ⟨w, e2, f⟩ := s.sv j x ej
      exact ⟨w, e2, fv (fun z => hj (by cases z; rfl)) f⟩
theorem FVR.unl {i : Nat} (n : Z p = none) (lz : LzOk Lt Z) {q : Path} (hq : q ≠ .loc i) {x : FV} (f : FVR Γ (upd Z p o) (ltU Lt i p) g H q x v) : FVR Γ Z Lt g H q x v := by
  cases x with
  | val d => exact f
  | own d =>
    obtain ⟨a, e, h1, h2, h3, h4⟩ := f
    have ne : a ≠ p := fun z => by subst z; rw [upd_same] at h2; cases h2
    exact ⟨a, e, h1, by rw [upd_ne ne] at h2; exact h2, h3, h4⟩
  | lent d =>
    obtain ⟨a, u, e, h1, h2, h3⟩ := f
    rw [ltU_ne hq] at h1
    obtain ⟨u', z, kq⟩ := lz q a h1
    have ne : a ≠ p := fun z' => by subst z'; rw [n] at z; cases z
    exact ⟨a, u, e, h1, by rw [upd_ne ne] at h2; exact h2, h3⟩
theorem FR.mapf2 {Z' : Hp} {Lt' : Lend} {r : Nat} {C : Addr} (m : ∀ (i : Nat) (x : FV) (v : V), FVR Γ Z' Lt' g H (.fld r i) x v → FVR Γ Z Lt g H (.fld r i) x v) : ∀ {fs : List (Nat × FV)} {ws : List (Str × V)}, FR Γ Z' Lt' g H r C fs ws → FR Γ Z Lt g H r C fs ws
  | [], _, f => f
  | y :: fs, _, f => by
    obtain ⟨n, v, q, e, h1, h2, h3, h4, h5⟩ := f
    exact ⟨n, v, q, e, h1, h2, m _ _ _ h3, h4, FR.mapf2 m h5⟩
theorem SH.unl {i : Nat} (s : SH Γ (upd Z p o) (ltU Lt i p) g h H) (n : Z p = none) (lz : LzOk Lt Z) : SH Γ Z Lt g h H := by
  have zz : ∀ {a u}, Z a = some u → upd Z p o a = some u := fun {a u} z => by rw [upd_ne (ne_of_none z n)]; exact z
  refine ⟨s.gh, fun a u z => s.zh a u (zz z), fun a u z => s.gz a u (zz z), s.ml, s.mn, fun a m => ?_, fun r lo a e1 e2 => ?_, s.nd, lz⟩
  · obtain ⟨m1, m2, m3⟩ := s.mf a m
    exact ⟨m1, fun u z => m2 u (zz z), m3⟩
  · have := s.ob r lo a e1 e2
    cases lo with
    | ins c fs =>
      obtain ⟨C, dx, ws, q1, q2, q3, q4⟩ := this
      exact ⟨C, dx, ws, q1, q2, q3, FR.mapf2 (fun i x v f => f.unl n lz (by simp)) q4⟩
    | cell d => exact this
    | lck d => obtain ⟨l, ob, u, k1, k2, k3⟩ := this; exact ⟨l, ob, u, k1, by rw [upd_ne (unm n lz l)] at k2; exact k2, k3⟩
theorem CRz.nolk (hl : lk o = false) (c : CRz Γ g d o) : CR Γ g d o := by
  rcases c with c | ⟨ob, u, e, c⟩
  · exact c
  · subst e; cases hl
theorem SR.unl {i : Nat} (s : SR Γ (upd Z p o) (ltU Lt i p) g st σ H) (n : Z p = none) (hl : lk o = false) (ho : g.O p = some (.loc i)) (lz : LzOk Lt Z) : SR Γ Z Lt g (st.unl i) σ H := by
  have ex : (∃ d, st.s[i]? = some (some (.lent d)) ∧ st.unl i = { st with s := st.s.set i (some (.own d)) }) ∨ ((∀ d, st.s[i]? ≠ some (some (.lent d))) ∧ st.unl i = st) := by
    unfold LS.unl
    split
    · exact .inl ⟨_, ‹_›, rfl⟩
    · rename_i hx; exact .inr ⟨fun d z => hx d z, rfl⟩
  have sh := s.sh.unl n lz
  rcases ex with ⟨d, e, es⟩ | ⟨e, es⟩
  · rw [es]
    refine ⟨sh, by simpa using s.sl, fun j x ej => ?_⟩
    have ej : (st.s.set i (some (.own d)))[j]? = some (some x) := ej
    by_cases hj : j = i
    · subst hj
      rw [List.getElem?_set_self (List.getElem?_eq_some_iff.mp e).1] at ej
      cases ej
      obtain ⟨v, e1, a, u, rfl, h1, h2, h3⟩ := s.sv j _ e
      rw [ltU_same] at h1
      cases h1
      rw [upd_same] at h2; cases h2
      refine ⟨_, e1, p, rfl, s.sh.gz p o upd_same, n, ho, fun m => ?_, o, s.sh.zh p o upd_same, h3.nolk hl⟩
      exact unm n lz ((s.sh.mf p m).2.1 _ upd_same) rfl
    · rw [List.getElem?_set_ne (Ne.symm hj)] at ej
      obtain ⟨v, e1, f⟩ := s.sv j x ej
      exact ⟨v, e1, f.unl n lz (fun z => hj (by cases z; rfl))⟩
  · rw [es]
    refine ⟨sh, s.sl, fun j x ej => ?_⟩
    obtain ⟨v, e1, f⟩ := s.sv j x ej
    refine ⟨v, e1, ?_⟩
    by_cases hj : j = i
    · subst hj
      cases x with
      | val d => exact f
      | own d =>
        obtain ⟨a, ea, h1, h2, h3, h4⟩ := f
        have ne : a ≠ p := fun z => by subst z; rw [upd_same] at h2; cases h2
        exact ⟨a, ea, h1, by rw [upd_ne ne] at h2; exact h2, h3, h4⟩
      | lent d => exact absurd ej (e d)
    · exact f.unl n lz (fun z => hj (by cases z; rfl))
theorem GT.unl (t : GT (upd Z p o) g g') (n : Z p = none) (h : g.O p = some q0) : GT Z g g' ∧ g'.O p = some q0 := by
  obtain ⟨a, b⟩ := t.unprot n
  exact ⟨a, b.trans h⟩
/-- what is read while the list is lent -/
theorem lend_go {α : Type} {i : Nat} {f : E α} {k : α → GM → LS → Hp → Prop} (s : SR Γ Z Lt g st σ H) (h : Go Γ W Z Lt σ (eLend i f st) g k) :
    ∃ Z' Lt' st', SR Γ Z' Lt' g st' σ H ∧ (∀ a o, Z a = some o → Z' a = some o) ∧ Go Γ W Z' Lt' σ (f st') g fun a g1 st1 H1 => ∀ g2 H2, SR Γ Z' Lt' g2 st1 σ H2 → GT Z' g1 g2 → ∃ st2, SR Γ Z Lt g2 st2 σ H2 ∧ (∀ b, Z b ≠ none → Z' b ≠ none) ∧ k a g2 st2 H2 := by
  unfold eLend at h
  split at h
  · rename_i d e
    obtain ⟨a, o, s', n, ho, hl⟩ := s.lend e
    refine ⟨_, _, _, s', fun b u z => by rw [upd_ne (ne_of_none z n)]; exact z, ?_⟩
    revert h
    cases f (st.lend i) with
    | ok x st1 =>
      intro h g1 H1 s1 t1 g2 H2 s2 t2
      obtain ⟨t, o2⟩ := (t1.trans t2).unl n ho
      exact ⟨_, s2.unl n hl o2 s.sh.lz, fun b hb => by
        by_cases c : b = a
        · subst c; rw [upd_same]; simp
        · rw [upd_ne c]; exact hb, h g2 H2 (s2.unl n hl o2 s.sh.lz) t⟩
    | exc x st1 =>
      intro h cls dd g1 H1 s1 t1 xr
      obtain ⟨t, o2⟩ := t1.unl n ho
      exact h cls dd g1 H1 (s1.unl n hl o2 s.sh.lz) t xr
    | bad => exact fun h => h
  · refine ⟨Z, Lt, st, s, fun _ _ z => z, ?_⟩
    exact h.imp fun a g1 st1 H1 s1 t1 k1 g2 H2 s2 t2 => ⟨st1, s2, fun b hb => hb, k1 g2 H2 s2 t2⟩
theorem pd_lend (i : Nat) (x : PD Γ W X e f) : PD Γ W X e (eLend i f) := ⟨x.pe.csq fun σ H Q ⟨Z, Lt, g, st, s, h⟩ => by
  obtain ⟨Z', Lt', st', s', zz, h'⟩ := lend_go s h
  refine ⟨Z', Lt', g, st', s', h'.imp fun d g1 st1 H1 s1 t1 k1 v r => ?_⟩
  obtain ⟨st2, s2, _, q⟩ := k1 g1 H1 s1 (GT.refl _ _) g1 H1 s1 (GT.refl _ _)
  exact q v r⟩
theorem pb_lend (i : Nat) {b : E Bool} (x : PB Γ W X e b) : PB Γ W X e (eLend i b) := ⟨x.pt.csq fun σ H Q ⟨Z, Lt, g, st, s, h⟩ => by
  obtain ⟨Z', Lt', st', s', zz, h'⟩ := lend_go s h
  refine ⟨Z', Lt', g, st', s', h'.imp fun d g1 st1 H1 s1 t1 k1 => ?_⟩
  obtain ⟨st2, s2, _, q⟩ := k1 g1 H1 s1 (GT.refl _ _) g1 H1 s1 (GT.refl _ _)
  exact q⟩
theorem pf_lend (i : Nat) (x : PF Γ W X e f) : PF Γ W X e (eLend i f) := ⟨x.pe.csq fun σ H Q ⟨Z, Lt, g, st, s, h⟩ => by
  obtain ⟨Z', Lt', st', s', zz, h'⟩ := lend_go s h
  refine ⟨Z', Lt', g, st', s', h'.imp fun d g1 st1 H1 s1 t1 k1 a r => ?_⟩
  obtain ⟨st2, s2, nz, q⟩ := k1 g1 H1 s1 (GT.refl _ _) g1 H1 s1 (GT.refl _ _)
  obtain ⟨r1, r2, r3⟩ := r
  refine q a ⟨r1, ?_, r3⟩
  cases e : Z a with
  | none => rfl
  | some u => exact absurd r2 (nz a (by rw [e]; simp))⟩
end
end PL

/-! PyLite, part p: short words for what is printed. -/
namespace PL
open PySem PySem.Spec PyProof.Rows L2
section
variable {Γ : Tab} {W : WX} {X : Cx} {e e1 e2 e3 : Expr} {es : List Expr} {f k l : E D} {pos pos2 ppos apos : Pos} {stm : Stmt} {sts : List Stmt} {f1 f2 : S}
theorem dv (i : Nat) {x : Str} (hN : X.N[i]? = some x := by rfl) (hv : Vis X.env.scope x := by first | exact Or.inl rfl | exact Or.inr (Or.inl rfl) | exact Or.inr (Or.inr rfl)) (hd : (x == ("__debug__" : Str)) = false := by decide) (hcd : (x == ("__classdict__" : Str)) = false := by decide) :
    PD Γ W X (.Name x pos) (eVar i) := pd_var hN hv hd hcd
theorem vv (i : Nat) {x : Str} (hN : X.N[i]? = some x := by rfl) (hv : Vis X.env.scope x := by first | exact Or.inl rfl | exact Or.inr (Or.inl rfl) | exact Or.inr (Or.inr rfl)) (hd : (x == ("__debug__" : Str)) = false := by decide) (hcd : (x == ("__classdict__" : Str)) = false := by decide) :
    PV Γ W X (.Name x pos) (vVar i) := pv_var hN hv hd hcd
theorem cv (i : Nat) {x : Str} (hN : X.N[i]? = some x := by rfl) (hv : Vis X.env.scope x := by first | exact Or.inl rfl | exact Or.inr (Or.inl rfl) | exact Or.inr (Or.inr rfl)) (hd : (x == ("__debug__" : Str)) = false := by decide) (hcd : (x == ("__classdict__" : Str)) = false := by decide) :
    PC Γ W X (.Name x pos) (cVar i) := pc_var hN hv hd hcd
theorem lv (i : Nat) {x : Str} (hN : X.N[i]? = some x := by rfl) (hv : Vis X.env.scope x := by first | exact Or.inl rfl | exact Or.inr (Or.inl rfl) | exact Or.inr (Or.inr rfl)) (hd : (x == ("__debug__" : Str)) = false := by decide) (hcd : (x == ("__classdict__" : Str)) = false := by decide) :
    PArg Γ W X (.Name x pos) (aL i) := pa_lent hN hv hd hcd
theorem gI {x : Str} {i : Int} {t : Tok} (hm : X.mg x = some (.int i t)) (hg : Gl X x := by rfl) (hd : (x == ("__debug__" : Str)) = false := by decide) : PD Γ W X (.Name x pos) (eC (.int i)) := pd_gint hg hm hd
theorem gS {x : Str} {i : Str} {t : Tok} (hm : X.mg x = some (.str i t)) (hg : Gl X x := by rfl) (hd : (x == ("__debug__" : Str)) = false := by decide) : PD Γ W X (.Name x pos) (eC (.str i)) := pd_gstr hg hm hd
theorem bval (x : PC Γ W X e f) (he : ∀ whole, isTrue e X.env whole = (do let v ← whole; standAt e.pos; holding [v] (truthy v)) := by intro _; rfl) : PB Γ W X e (tst f) := pb_val x he
theorem dcmp {op : CmpOp} {r : R2} {m : Sem2} (ho : OpR X (compareOp op) r) (hm : Holds2 Γ W X r m) (x : PV Γ W X e1 f) (y : PV Γ W X e2 k) (hb : behindInMarks op e2 = false := by first | exact nobehind _ (by decide) (by decide) | rfl) : PD Γ W X (.Compare e1 [op] [e2] pos) (eBin m f k) := pd_cmp ho hm x y hb
theorem bcmp {op : CmpOp} {r : R2} {m : Sem2} (ho : OpR X (compareOp op) r) (hm : Holds2 Γ W X r m) (x : PV Γ W X e1 f) (y : PV Γ W X e2 k) (hb : behindInMarks op e2 = false := by first | exact nobehind _ (by decide) (by decide) | rfl) : PB Γ W X (.Compare e1 [op] [e2] pos) (tst (eBin m f k)) := pb_cmp ho hm x y hb
theorem xset (i : Nat) {x : Str} (hN : X.N.Nodup) (y : PD Γ W X e f) (hi : X.N[i]? = some x := by rfl) (hx : Loc X.env.scope x := by first | exact Or.inl rfl | exact Or.inr rfl) (hs : swapsWith e (some (.Name x pos2)) pos.line X.env = pure false := by rfl)
    (hf : X.fn x = true ∨ X.env.scope.names.lookup x = some .local := by first | exact .inl rfl | exact .inr rfl) : PSt Γ W X (.Assign [.Name x pos2] e pos) (sSet i f) := st_set hN hi hx y hs hf
theorem xsetF (i : Nat) {x : Str} (hN : X.N.Nodup) (y : PF Γ W X e f) (hi : X.N[i]? = some x := by rfl) (hx : Loc X.env.scope x := by first | exact Or.inl rfl | exact Or.inr rfl) (hs : swapsWith e (some (.Name x pos2)) pos.line X.env = pure false := by rfl)
    (hf : X.fn x = true ∨ X.env.scope.names.lookup x = some .local := by first | exact .inl rfl | exact .inr rfl) : PSt Γ W X (.Assign [.Name x pos2] e pos) (sSetF i f) := st_setF hN hi hx y hs hf
theorem xaug (i : Nat) {x : Str} {op : Operator} {r : R2} {m : Sem2} (hN : X.N.Nodup) (ho : OpR X (inplaceOp op) r) (hm : Holds2 Γ W X r m) (y : PV Γ W X e f) (hi : X.N[i]? = some x := by rfl) (hx : Loc X.env.scope x := by first | exact Or.inl rfl | exact Or.inr rfl)
    (hf : X.fn x = true ∨ X.env.scope.names.lookup x = some .local := by first | exact .inl rfl | exact .inr rfl) : PSt Γ W X (.AugAssign (.Name x pos2) op e pos) (sAug i m f) := st_aug hN hi hx ho hm y hf
theorem retO (i : Nat) {x : Str} (hN : X.N[i]? = some x := by rfl) (hv : Vis X.env.scope x := by first | exact Or.inl rfl | exact Or.inr (Or.inl rfl) | exact Or.inr (Or.inr rfl)) (hd : (x == ("__debug__" : Str)) = false := by decide) (hcd : (x == ("__classdict__" : Str)) = false := by decide) :
    PSt Γ W X (.Return (some (.Name x pos2)) pos) (sRetO i) := st_retO hN hv hd hcd
theorem tgn (i : Nat) {x : Str} (hN : X.N.Nodup) (hi : X.N[i]? = some x := by rfl) (hx : Loc X.env.scope x := by first | exact Or.inl rfl | exact Or.inr rfl)
    (hf : X.fn x = true ∨ X.env.scope.names.lookup x = some .local := by first | exact .inl rfl | exact .inr rfl) : PTar Γ X (.Name x pos) [i] (tgN i) := tar_name hN hi hx hf
theorem tgc (i : Nat) {is : List Nat} {x : Str} {ts : List Expr} (hN : X.N.Nodup) (y : PTg X ts is) (hi : X.N[i]? = some x := by rfl) (hx : Loc X.env.scope x := by first | exact Or.inl rfl | exact Or.inr rfl)
    (hf : X.fn x = true ∨ X.env.scope.names.lookup x = some .local := by first | exact .inl rfl | exact .inr rfl)
    (hs : (assignEach (.Name x pos :: ts) X.env).map (·.2) = assign (.Name x pos) X.env :: (assignEach ts X.env).map (·.2) := by rfl) : PTg X (.Name x pos :: ts) (i :: is) := tg_cons hN hi hx y hf hs
theorem xapp (i : Nat) {x : Str} (hK : X.K = Γ.K) (y : PD Γ W X e f) (hN : X.N[i]? = some x := by rfl) (hv : Vis X.env.scope x := by first | exact Or.inl rfl | exact Or.inr (Or.inl rfl) | exact Or.inr (Or.inr rfl)) (hd : (x == ("__debug__" : Str)) = false := by decide) (hcd : (x == ("__classdict__" : Str)) = false := by decide)
    (hbase : attributeBase (.Name x pos2) "append" X.env (eval (.Name x pos2) X.env) = eval (.Name x pos2) X.env := by rfl)
    (hfew : ((backTo ppos (starEach [e] X.env)).all (fun x => !x.1) && (backToKw ppos (keywordEach [] X.env)).all (fun x => x.1.isSome)
      && decide ([e].length + ([] : List Keyword).length + (if ([] : List Keyword).isEmpty then 0 else 1) < 30)) = true := by rfl)
    (hline : (apos.endLine == ppos.line) = true := by rfl) (hs : starEach [e] X.env = (false, eval e X.env) :: starEach [] X.env := by rfl) (hplain : (backTo ppos (starEach [] X.env)).any (·.1) = false := by rfl)
    (hsw : swapsWith (.Call (.Attribute (.Name x pos2) "append" apos) [e] [] ppos) none pos.line X.env = pure false := by rfl) :
    PSt Γ W X (.Expr (.Call (.Attribute (.Name x pos2) "append" apos) [e] [] ppos) pos) (sApp i f) := st_app hK hN hv y hd hcd hbase hfew hline hs hplain hsw
theorem xput (i : Nat) {x : Str} {ei : Expr} (z : PD Γ W X ei k) (y : PD Γ W X e f) (hN : X.N[i]? = some x := by rfl) (hv : Vis X.env.scope x := by first | exact Or.inl rfl | exact Or.inr (Or.inl rfl) | exact Or.inr (Or.inr rfl)) (hd : (x == ("__debug__" : Str)) = false := by decide) (hcd : (x == ("__classdict__" : Str)) = false := by decide)
    (ha : ∀ v, assign (.Subscript (.Name x pos2) ei apos) X.env v = (do
      let ov ← holding [v] (eval (.Name x pos2) X.env)
      let iv ← holding [v, ov] (eval ei X.env)
      standAt apos
      holding [v, ov, iv] (setItem ov iv v)
      release [v, ov, iv] []) := by intro _; rfl)
    (hs : swapsWithSole [.Subscript (.Name x pos2) ei apos] e pos.line X.env = pure false := by rfl) (hw : swappedStores [.Subscript (.Name x pos2) ei apos] e X.env = pure none := by rfl)
    (h1 : (assignEach [.Subscript (.Name x pos2) ei apos] X.env).map (·.2) = [assign (.Subscript (.Name x pos2) ei apos) X.env] := by rfl) :
    PSt Γ W X (.Assign [.Subscript (.Name x pos2) ei apos] e pos) (sPut i k f) := st_put hN hv z y hd hcd ha hs hw h1
theorem dix (hK : X.K = Γ.K) (x : PV Γ W X e1 f) (y : PV Γ W X e2 k) (hs : PlainIx e2 := by intro _ _; rfl) : PD Γ W X (.Subscript e1 e2 pos) (eBin mIx f k) := pd_ix hK x y hs
end
/-- x += e on ints -/
noncomputable def mAddI : Sem2 := mInt0 fun i j => .int (i + j)
/-- what is known of a def that others call -/
structure DefF (Γ : Tab) (P : Program) (w : World) (mg : Str → Option Value) (base : Heap) (kk : Nat) (x : Str) (n : Nat) (F : Fn) : Prop where
  ex : ∃ (f : Addr) (fd : FuncData) (ps : List Str), FnOk P w Γ.K mg base (L2.CX P w) kk f fd ps (spF Γ n F) ∧ mg x = some (.ref f) ∧ PySem.W.keepIn Γ.K (.ref f) = true ∧ Binds Γ.K fd ps []
section
variable {Γ : Tab} {W : WX} {X : Cx} {e e1 e2 e3 : Expr} {es : List Expr} {f k l : E D} {pos pos2 ppos apos : Pos}
theorem dcall {F : Fn} {n kk : Nat} {x : Str} {args : E (List FV)} (Df : DefF Γ X.prog X.w X.mg X.base kk x n F) (hK : X.K = Γ.K) (tk : Takes X W) (hr : Room kk X.A) (ha : PArgs Γ W X (e :: es) args) (hn : ∀ st fs s1, args st = .ok fs s1 → fs.length = n) (hg : Gl X x := by rfl)
    (hdb : (x == ("__debug__" : Str)) = false := by decide) (he : starEach (e :: es) X.env = (false, eval e X.env) :: starEach es X.env := by rfl) (hpl : (backTo pos (starEach es X.env)).any (·.1) = false := by rfl) :
    PD Γ W X (.Call (.Name x ppos) (e :: es) [] pos) (eCall F args) := pd_call tk ⟨by rw [hK]; exact Df.ex⟩ hr hg ha hn hdb he hpl
theorem fcall {F : Fn} {n kk : Nat} {x : Str} {args : E (List FV)} (Df : DefF Γ X.prog X.w X.mg X.base kk x n F) (hK : X.K = Γ.K) (tk : Takes X W) (hr : Room kk X.A) (ha : PArgs Γ W X (e :: es) args) (hn : ∀ st fs s1, args st = .ok fs s1 → fs.length = n) (hg : Gl X x := by rfl)
    (hdb : (x == ("__debug__" : Str)) = false := by decide) (he : starEach (e :: es) X.env = (false, eval e X.env) :: starEach es X.env := by rfl) (hpl : (backTo pos (starEach es X.env)).any (·.1) = false := by rfl) :
    PF Γ W X (.Call (.Name x ppos) (e :: es) [] pos) (eCallF F args) := pf_call tk ⟨by rw [hK]; exact Df.ex⟩ hr hg ha hn hdb he hpl
end
end PL

/-! PyLite, part q: reckoning with the functions of data. -/
namespace PL
open PySem PySem.Spec PyProof.Rows L2
section
variable {f k l : E D} {b c : E Bool} {st : LS} {f1 f2 : S} {x y d : D} {i j : Int} {h : List LO} {s : List (Option FV)}
@[simp] theorem startS_cons (m : Nat) (a : FV) (fs : List FV) : startS (m + 1) (a :: fs) = some a :: startS m fs := by
  unfold startS
  simp
@[simp] theorem startS_zero : startS 0 [] = [] := id rfl
@[simp] theorem startS_none (m : Nat) : startS (m + 1) [] = none :: startS m [] := by
  unfold startS
  simp [List.replicate_succ]
noncomputable def fin : SRes → FRes
  | .nx st => .ret (.val .non) st.h
  | .ret x st => .ret x st.h
  | .exc x st => .exc x st.h
  | _ => .bad
theorem fn_s (m : Nat) (f1 : S) (fs : List FV) (h : List LO) : fn m f1 fs h = fin (f1 ⟨startS m fs, h⟩) := by
  unfold fn fin
  cases f1 ⟨startS m fs, h⟩ <;> rfl
@[simp] theorem fin_nx : fin (.nx st) = .ret (.val .non) st.h := id rfl
@[simp] theorem fin_ret {z : FV} : fin (.ret z st) = .ret z st.h := id rfl
@[simp] theorem fin_exc {z : XV} : fin (.exc z st) = .exc z st.h := id rfl
@[simp] theorem fin_bad : fin .bad = .bad := id rfl
@[simp] theorem eC_s : eC d st = .ok d st := id rfl
@[simp] theorem eVar_s (n : Nat) : eVar n ⟨s, h⟩ = match s[n]? with
  | some (some (.val d)) => .ok d ⟨s, h⟩
  | some (some (.own d)) => .ok d ⟨s.set n (some (.val d)), h⟩
  | _ => .bad := id rfl
@[simp] theorem vVar_s (n : Nat) : vVar n ⟨s, h⟩ = match s[n]? with
  | some (some (.val d)) => .ok d ⟨s, h⟩
  | some (some (.lent d)) => .ok d ⟨s, h⟩
  | _ => .bad := id rfl
@[simp] theorem cVar_s (n : Nat) : cVar n ⟨s, h⟩ = match s[n]? with
  | some (some (.val d)) => .ok d ⟨s, h⟩
  | some (some (.own d)) => .ok d ⟨s, h⟩
  | some (some (.lent d)) => .ok d ⟨s, h⟩
  | _ => .bad := id rfl
@[simp] theorem eBin_s (m : Sem2) : eBin m f k st = (f st).bind fun x s1 => (k s1).bind fun y s2 => m x y s2 := id rfl
@[simp] theorem eUn_s (m : Sem1) : eUn m f st = (f st).bind m := id rfl
@[simp] theorem mAdd_i : mAdd (.int i) (.int j) st = .ok (.int (i + j)) st := id rfl
@[simp] theorem mAdd_l {xs ys : List D} : mAdd (.lst xs) (.lst ys) st = if xs.length + ys.length ≤ 16777216 then .ok (.lst (xs ++ ys)) st else .bad := id rfl
@[simp] theorem mAdd_s {xs ys : Str} : mAdd (.str xs) (.str ys) st = if xs.length + ys.length ≤ 16777216 then .ok (.str (xs ++ ys)) st else .bad := id rfl
@[simp] theorem mCat_l {xs ys : List D} : mCat (.lst xs) (.lst ys) st = if xs.length + ys.length ≤ 16777216 then .ok (.lst (xs ++ ys)) st else .bad := id rfl
@[simp] theorem mAddI_i : mAddI (.int i) (.int j) st = .ok (.int (i + j)) st := id rfl
@[simp] theorem mSub_i : mSub (.int i) (.int j) st = .ok (.int (i - j)) st := id rfl
@[simp] theorem mMul_i : mMul (.int i) (.int j) st = if CMulX i j then .ok (.int (i * j)) st else .bad := id rfl
@[simp] theorem mDiv_i : mDiv (.int i) (.int j) st = if CDivW i j then .ok (.int (i / j)) st else .bad := id rfl
@[simp] theorem mMod_i : mMod (.int i) (.int j) st = if 0 < j then .ok (.int (i % j)) st else .bad := id rfl
@[simp] theorem mShl_i : mShl (.int i) (.int j) st = if CShl i j then .ok (.int (i * 2 ^ j.toNat)) st else .bad := id rfl
@[simp] theorem mShr_i : mShr (.int i) (.int j) st = if 0 ≤ j then .ok (.int (i / 2 ^ j.toNat)) st else .bad := id rfl
@[simp] theorem mAnd_i : mAnd (.int i) (.int j) st = .ok (.int (Builtin.bitAnd i j)) st := id rfl
@[simp] theorem mNeg_i : mNeg (.int i) st = .ok (.int (-i)) st := id rfl
@[simp] theorem mLt_i : mLt (.int i) (.int j) st = .ok (.bl (decide (i < j))) st := id rfl
@[simp] theorem mLe_i : mLe (.int i) (.int j) st = .ok (.bl (decide (i ≤ j))) st := id rfl
@[simp] theorem mGt_i : mGt (.int i) (.int j) st = .ok (.bl (decide (j < i))) st := id rfl
@[simp] theorem mGe_i : mGe (.int i) (.int j) st = .ok (.bl (decide (j ≤ i))) st := id rfl
@[simp] theorem pln_int (n : Nat) : pln n (.int i) = true := by cases n <;> rfl
@[simp] theorem pln_bl (n : Nat) (z : Bool) : pln n (.bl z) = true := by cases n <;> rfl
@[simp] theorem pln_non (n : Nat) : pln n .non = true := by cases n <;> rfl
@[simp] theorem pln_lst (n : Nat) (ds : List D) : pln (n + 1) (.lst ds) = plns n ds := id rfl
@[simp] theorem pln_tup (n : Nat) (ds : List D) : pln (n + 1) (.tup ds) = plns n ds := id rfl
@[simp] theorem plns_nil (n : Nat) : plns n [] = true := by cases n <;> rfl
@[simp] theorem plns_cons (n : Nat) (d : D) (ds : List D) : plns n (d :: ds) = (pln n d && plns n ds) := by cases n <;> rfl
@[simp] theorem mEq_s : mEq x y st = if pln 20 x && pln 20 y then .ok (.bl (deq x y)) st else .bad := id rfl
@[simp] theorem mNe_s : mNe x y st = if pln 20 x && pln 20 y then .ok (.bl (!deq x y)) st else .bad := id rfl
@[simp] theorem deq_int : deq (.int i) (.int j) = (i == j) := by simp [deq]
@[simp] theorem deq_lst {xs ys : List D} : deq (.lst xs) (.lst ys) = deqs xs ys := by simp [deq]
@[simp] theorem deq_tup {xs ys : List D} : deq (.tup xs) (.tup ys) = deqs xs ys := by simp [deq]
@[simp] theorem deqs_nil : deqs [] [] = true := by simp [deqs]
@[simp] theorem deqs_cons {xs ys : List D} : deqs (x :: xs) (y :: ys) = (deq x y && deqs xs ys) := by simp [deqs]
@[simp] theorem tst_s : tst f st = (f st).bind fun d s1 => match d with
  | .bl b => .ok b s1
  | _ => .bad := id rfl
@[simp] theorem bAnd_s : bAnd b c st = (b st).bind fun z s1 => if z then c s1 else .ok false s1 := id rfl
@[simp] theorem bOr_s : bOr b c st = (b st).bind fun z s1 => if z then .ok true s1 else c s1 := id rfl
@[simp] theorem bNot_s : bNot b st = (b st).bind fun z s1 => .ok (!z) s1 := id rfl
@[simp] theorem eAnd_s : eAnd f k st = (tst f st).bind fun b s1 => if b then k s1 else .ok (.bl false) s1 := id rfl
@[simp] theorem eOr_s : eOr f k st = (tst f st).bind fun b s1 => if b then .ok (.bl true) s1 else k s1 := id rfl
@[simp] theorem eIf_s : eIf b f k st = (b st).bind fun b s1 => if b then f s1 else k s1 := id rfl
@[simp] theorem eNil_s : eNil st = .ok [] st := id rfl
@[simp] theorem eCons_s {k : E (List D)} : eCons f k st = (f st).bind fun d s1 => (k s1).bind fun ds s2 => .ok (d :: ds) s2 := id rfl
@[simp] theorem eTup_s {k : E (List D)} : eTup k st = (k st).bind fun ds s1 => if ds.length ≤ 16777216 then .ok (.tup ds) s1 else .bad := id rfl
@[simp] theorem eLst_s {k : E (List D)} : eLst k st = (k st).bind fun ds s1 => if ds.length ≤ 16777216 then .ok (.lst ds) s1 else .bad := id rfl
@[simp] theorem mIx_l {ds : List D} : mIx (.lst ds) (.int i) st = match atD ds i with
    | some d => .ok d st
    | none => .bad := id rfl
@[simp] theorem mIx_t {ds : List D} : mIx (.tup ds) (.int i) st = match atD ds i with
    | some d => .ok d st
    | none => .bad := id rfl
@[simp] theorem oNone_s : oNone st = .ok none st := id rfl
@[simp] theorem oSome_s : oSome f st = (f st).bind fun d s1 => match d with
  | .int i => .ok (some i) s1
  | _ => .bad := id rfl
@[simp] theorem eSlc_s {lo hi : E (Option Int)} : eSlc f lo hi st = (f st).bind fun x s1 => (lo s1).bind fun i s2 => (hi s2).bind fun j s3 => match x with
  | .lst ds => .ok (.lst (cutD ds i j)) s3
  | _ => .bad := id rfl
@[simp] theorem isNon_n : D.non.isNon = true := id rfl
@[simp] theorem isNon_i : (D.int i).isNon = false := id rfl
@[simp] theorem isNon_b {z : Bool} : (D.bl z).isNon = false := id rfl
@[simp] theorem isNon_s {z : Str} : (D.str z).isNon = false := id rfl
@[simp] theorem isNon_l {z : List D} : (D.lst z).isNon = false := id rfl
@[simp] theorem isNon_t {z : List D} : (D.tup z).isNon = false := id rfl
@[simp] theorem isNon_o {z : Nat} : (D.obj z).isNon = false := id rfl
@[simp] theorem mIsN_s : mIsN x st = .ok (.bl x.isNon) st := id rfl
@[simp] theorem mNotN_s : mNotN x st = .ok (.bl (!x.isNon)) st := id rfl
@[simp] theorem tyD_i : tyD (.int i) = some (some .int) := id rfl
@[simp] theorem tyD_b {z : Bool} : tyD (.bl z) = some (some .bool) := id rfl
@[simp] theorem tyD_s {z : Str} : tyD (.str z) = some (some .str) := id rfl
@[simp] theorem tyD_l {z : List D} : tyD (.lst z) = some (some .list) := id rfl
@[simp] theorem tyD_t {z : List D} : tyD (.tup z) = some (some .tuple) := id rfl
@[simp] theorem tyD_d {z : List (Key × D)} : tyD (.dic z) = some (some .dict) := id rfl
@[simp] theorem tyD_n : tyD .non = some none := id rfl
@[simp] theorem mLen_l {z : List D} : mLen (.lst z) st = .ok (.int z.length) st := id rfl
@[simp] theorem mLen_t {z : List D} : mLen (.tup z) st = .ok (.int z.length) st := id rfl
@[simp] theorem mLen_d {z : List (Key × D)} : mLen (.dic z) st = .ok (.int z.length) st := id rfl
@[simp] theorem mMax_i : mMax (.int i) (.int j) st = .ok (.int (if j > i then j else i)) st := id rfl
@[simp] theorem mBits_i : mBits (.int i) st = .ok (.int (Builtin.Int.intBits i : Nat)) st := id rfl
@[simp] theorem aNil_s : aNil st = .ok [] st := id rfl
@[simp] theorem aCons_s {g : E FV} {k : E (List FV)} : aCons g k st = (g st).bind fun d s1 => (k s1).bind fun ds s2 => .ok (d :: ds) s2 := id rfl
@[simp] theorem aV_s : aV f st = (f st).bind fun d s1 => .ok (.val d) s1 := id rfl
@[simp] theorem aL_s (n : Nat) : aL n ⟨s, h⟩ = match s[n]? with
  | some (some (.val d)) => .ok (.val d) ⟨s, h⟩
  | some (some (.lent d)) => .ok (.lent d) ⟨s, h⟩
  | _ => .bad := id rfl
@[simp] theorem outD_v : outD st (.ret (.val d) h) = .ok d { st with h := h } := id rfl
@[simp] theorem outD_o : outD st (.ret (.own d) h) = .ok d { st with h := h } := id rfl
@[simp] theorem outD_x {z : XV} : outD st (.exc z h) = .exc z { st with h := h } := id rfl
@[simp] theorem outF_o : outF st (.ret (.own d) h) = .ok d { st with h := h } := id rfl
@[simp] theorem outF_x {z : XV} : outF st (.exc z h) = .exc z { st with h := h } := id rfl
@[simp] theorem eCall_s {F : Fn} {k : E (List FV)} : eCall F k st = (k st).bind fun fs s1 => outD s1 (F fs s1.h) := id rfl
@[simp] theorem eCallF_s {F : Fn} {k : E (List FV)} : eCallF F k st = (k st).bind fun fs s1 => outF s1 (F fs s1.h) := id rfl
@[simp] theorem sNx_s : sNx st = .nx st := id rfl
@[simp] theorem sBk_s : sBk st = .bk st := id rfl
noncomputable def SRes.seq (r : SRes) (f2 : S) : SRes := match r with
  | .nx st' => f2 st'
  | r => r
@[simp] theorem seq_nx : (SRes.nx st).seq f2 = f2 st := id rfl
@[simp] theorem seq_ret {z : FV} : (SRes.ret z st).seq f2 = .ret z st := id rfl
@[simp] theorem seq_bk : (SRes.bk st).seq f2 = .bk st := id rfl
@[simp] theorem seq_ct : (SRes.ct st).seq f2 = .ct st := id rfl
@[simp] theorem seq_exc {z : XV} : (SRes.exc z st).seq f2 = .exc z st := id rfl
@[simp] theorem seq_bad : SRes.bad.seq f2 = .bad := id rfl
@[simp] theorem sSeq_s : sSeq f1 f2 st = (f1 st).seq f2 := id rfl
@[simp] theorem sEx_s : sEx f st = SRes.of (f st) fun _ s1 => .nx s1 := id rfl
@[simp] theorem sRet_s : sRet f st = SRes.of (f st) fun d s1 => .ret (.val d) s1 := id rfl
@[simp] theorem sRetF_s : sRetF f st = SRes.of (f st) fun d s1 => .ret (.own d) s1 := id rfl
@[simp] theorem sRetO_s (n : Nat) : sRetO n ⟨s, h⟩ = match s[n]? with
  | some (some (.own d)) => .ret (.own d) ⟨s, h⟩
  | some (some (.val d)) => .ret (.val d) ⟨s, h⟩
  | _ => .bad := id rfl
@[simp] theorem sIf_s : sIf b f1 f2 st = SRes.of (b st) fun b s1 => if b then f1 s1 else f2 s1 := id rfl
@[simp] theorem set_s (n : Nat) (z : FV) : LS.set ⟨s, h⟩ n z = ⟨s.set n (some z), h⟩ := id rfl
@[simp] theorem sSet_s (n : Nat) : sSet n f st = SRes.of (f st) fun d s1 => .nx (s1.set n (.val d)) := id rfl
@[simp] theorem sSetF_s (n : Nat) : sSetF n f st = SRes.of (f st) fun d s1 => .nx (s1.set n (.own d)) := id rfl
@[simp] theorem setAll_nil (ds : List D) : setAll [] ds st = st := by cases ds <;> rfl
@[simp] theorem setAll_cons (n : Nat) (is : List Nat) (d : D) (ds : List D) : setAll (n :: is) (d :: ds) st = setAll is ds (st.set n (.val d)) := id rfl
@[simp] theorem sUnT_s (is : List Nat) : sUnT is f st = SRes.of (f st) fun d s1 => match d with
  | .tup ds => if ds.length = is.length then .nx (setAll is ds s1) else .bad
  | _ => .bad := id rfl
@[simp] theorem sAug_s (n : Nat) (m : Sem2) : sAug n m f ⟨s, h⟩ = match s[n]? with
  | some (some (.val x)) => SRes.of (f ⟨s, h⟩) fun y s1 => SRes.of (m x y s1) fun z s2 => .nx (s2.set n (.val z))
  | _ => .bad := id rfl
@[simp] theorem ownL_s (n : Nat) : LS.ownL ⟨s, h⟩ n = match s[n]? with
  | some (some (.own (.lst ds))) => some ds
  | _ => none := id rfl
@[simp] theorem sApp_s (n : Nat) : sApp n f st = match st.ownL n with
  | some _ => SRes.of (f st) fun d s1 => match s1.ownL n with
    | some ds => if ds.length < 16777216 then .nx (s1.set n (.own (.lst (ds ++ [d])))) else .bad
    | none => .bad
  | none => .bad := id rfl
@[simp] theorem sPut_s (n : Nat) : sPut n k f st = SRes.of (f st) fun d s1 => match s1.ownL n with
  | some _ => SRes.of (k s1) fun j s2 => match s2.ownL n, j with
    | some ds, .int j => match ixD ds.length j with
      | some m => .nx (s2.set n (.own (.lst (ds.set m d))))
      | none => .bad
    | _, _ => .bad
  | none => .bad := id rfl
@[simp] theorem tgN_s (n : Nat) : tgN n d st = some (st.set n (.val d)) := id rfl
@[simp] theorem tgT_s (is : List Nat) (ds : List D) : tgT is (.tup ds) st = if ds.length = is.length then some (setAll is ds st) else none := id rfl
@[simp] theorem sFor_s {k : E (List D)} {tg : D → LS → Option LS} : sFor k tg f1 st = SRes.of (k st) fun ds s1 => turns tg f1 ds s1 := id rfl
@[simp] theorem iVal_s : iVal f st = (f st).bind fun d s1 => match d with
  | .lst ds => .ok ds s1
  | _ => .bad := id rfl
@[simp] theorem iEnm_s : iEnm f st = (f st).bind fun d s1 => match d with
  | .lst ds => .ok (enumD 0 ds) s1
  | _ => .bad := id rfl
@[simp] theorem iRg1_s : iRg1 f st = (f st).bind fun d s1 => match d with
  | .int j => if -(2 ^ 62) ≤ j ∧ j < 2 ^ 62 then .ok (rangeD 0 j.toNat) s1 else .bad
  | _ => .bad := id rfl
@[simp] theorem clr_s (n : Nat) : LS.clr ⟨s, h⟩ n = ⟨s.set n none, h⟩ := id rfl
@[simp] theorem wipeS_nil : wipeS [] st = st := id rfl
@[simp] theorem wipeS_cons (n : Nat) (r : List Nat) : wipeS (n :: r) st = (wipeS r st).clr n := id rfl
@[simp] theorem tYes_s : tYes' st = .ok true st := id rfl
@[simp] theorem eLc_s {vs : List Nat} {fi : E (List D)} {tg : D → LS → Option LS} : eLc vs fi tg b f st = (fi st).bind fun ds s1 => (lcT vs tg b f ds [] (wipeS vs s1)).bind fun ys s2 => .ok (.lst ys) s2 := id rfl
@[simp] theorem lend_s (n : Nat) : LS.lend ⟨s, h⟩ n = match s[n]? with
  | some (some (.own d)) => ⟨s.set n (some (.lent d)), h⟩
  | _ => ⟨s, h⟩ := id rfl
@[simp] theorem unl_s (n : Nat) : LS.unl ⟨s, h⟩ n = match s[n]? with
  | some (some (.lent d)) => ⟨s.set n (some (.own d)), h⟩
  | _ => ⟨s, h⟩ := id rfl
@[simp] theorem mapS_ok {α : Type} {t : LS → LS} {a : α} : (Res.ok a st).mapS t = .ok a (t st) := id rfl
@[simp] theorem mapS_exc {α : Type} {t : LS → LS} {a : XV} : (Res.exc a st : Res α).mapS t = .exc a (t st) := id rfl
@[simp] theorem smapS_nx {t : LS → LS} : (SRes.nx st).mapS t = .nx (t st) := id rfl
@[simp] theorem smapS_ret {t : LS → LS} {z : FV} : (SRes.ret z st).mapS t = .ret z (t st) := id rfl
@[simp] theorem smapS_exc {t : LS → LS} {z : XV} : (SRes.exc z st).mapS t = .exc z (t st) := id rfl
@[simp] theorem eLend_s {α : Type} {f : E α} (n : Nat) : eLend n f ⟨s, h⟩ = match s[n]? with
  | some (some (.own _)) => (f (LS.lend ⟨s, h⟩ n)).mapS fun s => s.unl n
  | _ => f ⟨s, h⟩ := id rfl
end
/-! ### loops -/
theorem lcT_map {vs : List Nat} {tg : D → LS → Option LS} {t : E Bool} {e : E D} (st : LS) (q : D → Bool) (y : D → D) : ∀ (ds acc : List D), (∀ d ∈ ds, ∃ s1, tg d st = some s1 ∧ ∃ s2, t s1 = .ok (q d) s2 ∧ (q d = true → ∃ s3, e s2 = .ok (y d) s3 ∧ wipeS vs s3 = st) ∧ (q d = false → wipeS vs s2 = st)) →
    acc.length + ds.length ≤ 16777216 → lcT vs tg t e ds acc st = .ok (acc ++ (ds.filter q).map y) st
  | [], acc, _, _ => by simp [lcT]
  | d :: r, acc, h, hl => by
    obtain ⟨s1, e1, s2, e2, h3, h4⟩ := h d List.mem_cons_self
    have hr := fun d m => h d (List.mem_cons_of_mem _ m)
    rw [List.length_cons] at hl
    rw [lcT, e1]
    simp only [e2, nox_ok, bind_ok]
    cases hq : q d with
    | false =>
      rw [h4 hq]
      simp only [Bool.false_eq_true, if_false]
      rw [lcT_map st q y r acc hr (by omega), List.filter_cons, hq]
      simp
    | true =>
      obtain ⟨s3, e3, e4⟩ := h3 hq
      simp only [if_true, e3, nox_ok, bind_ok]
      rw [if_pos (by omega), e4, lcT_map st q y r (acc ++ [y d]) hr (by simp; omega), List.filter_cons, hq]
      simp
theorem filter_true {ds : List D} : ds.filter (fun _ => true) = ds := by simp
/-! ### sizes -/
theorem cmul_of {i j : Int} (a b : Nat) (ha : i.natAbs < 2 ^ a) (hb : j.natAbs < 2 ^ b) (h : a + b ≤ 134217728 := by omega) : CMulX i j := mulx_ok ha hb h
theorem bits_lt {i : Int} {n : Nat} (h : i.natAbs < 2 ^ n) : Builtin.Int.intBits i ≤ n := by
  unfold Builtin.Int.intBits
  split
  · omega
  · rename_i hi
    have hz : i.natAbs ≠ 0 := by simp at hi; omega
    have := (Nat.log2_lt hz).mpr h
    omega
theorem lt_bits {i : Int} {n : Nat} (h : Builtin.Int.intBits i ≤ n) : i.natAbs < 2 ^ n := by
  unfold Builtin.Int.intBits at h
  split at h
  · rename_i hi
    have hz : i = 0 := by simpa using hi
    subst hz
    exact Nat.two_pow_pos n
  · rename_i hi
    have hz : i.natAbs ≠ 0 := by simp at hi; omega
    exact (Nat.log2_lt hz).mp (by omega)
@[simp] theorem cdiv_small {i j : Int} (h : 0 < j) (hb : j < 1606938044258990275541962092341162602522202993782792835301376) : CDivW i j :=
  wide_div h (b := 200) (by have e : (2 : Nat) ^ 200 = 1606938044258990275541962092341162602522202993782792835301376 := by decide
                            rw [e]; omega) (by decide) (by decide)
theorem cshl_ok {i j : Int} (n : Nat) (h : i.natAbs < 2 ^ n) (h0 : 0 ≤ j) (hn : (n : Int) + j ≤ 134217728) : CShl i j := by
  have := bits_lt h
  refine ⟨h0, ?_⟩
  have e : (2 : Int) ^ 27 = 134217728 := by decide
  rw [e]
  omega
end PL

/-! PyLite, part r: fields stored, methods, instances made, exceptions raised. -/
namespace PL
open PySem PySem.Spec PyProof.Rows L2
section
variable {Γ : Tab} {W : WX} {Z : Hp} {Lt : Lend} {g g' : GM} {st st' : LS} {σ σ' : L2.St} {H H' : Hp} {h h' : List LO} {a p : Addr} {o : HO} {d : D} {v : V} {X : Cx} {e e1 e2 e3 : Expr} {es : List Expr} {f k l : E D} {pos pos2 ppos apos tpos : Pos} {stm : Stmt} {sts : List Stmt} {f1 f2 : S} {D0 : Ends}

/-! ### a field is stored -/
theorem SR.insAt {r c : Nat} {fs : List (Nat × FV)} (s : SR Γ Z Lt g st σ H) (hr : g.M[r]? = some a) (e : st.h[r]? = some (.ins c fs)) : ∃ C dx ws, Γ.cls c = some C ∧ Cls Γ.K C ∧ H a = some (.ins C dx ws) ∧ FR Γ Z Lt g H r C fs ws := s.sh.ob r _ a e hr
theorem SR.setX {r c i : Nat} {fs : List (Nat × FV)} {C dx : Addr} {ws : List (Str × V)} {n : Str} {x : FV} (s : SR Γ Z Lt g st σ H) (hr : g.M[r]? = some a) (e : st.h[r]? = some (.ins c fs)) (hC : Γ.cls c = some C) (ea : H a = some (.ins C dx ws)) (hn : Γ.nm[i]? = some n) (na : NoAttr Γ.K C n)
    (hx : FVR Γ Z Lt g H (.fld r i) x v) : SR Γ Z Lt g (st.setF r i x) σ (upd H a (.ins C dx (putF n v ws))) := by
  obtain ⟨C', dx', ws', h1, h2, h3, h4⟩ := s.insAt hr e
  rw [hC] at h1; cases h1
  rw [ea] at h3; cases h3
  have ma : a ∈ g.M := List.mem_of_getElem? hr
  obtain ⟨m1, _, m3⟩ := s.sh.mf a ma
  have m2 := s.sh.zn ma ea rfl
  have kp : ∀ q : Path → Prop, Kp Z g g H (upd H a (.ins C dx (putF n v ws))) q := fun q => ⟨GT.refl _ _, fun b p u hq k1 k2 k3 k4 k5 => by
    have ne : b ≠ a := fun z => k4 (by rw [z]; exact ma)
    exact ⟨k1, k3, k4, by rw [upd_ne ne]; exact k5⟩⟩
  have es : st.setF r i x = { st with h := st.h.set r (.ins c (putN i x fs)) } := by unfold LS.setF; rw [e]
  rw [es]
  refine ⟨s.sh.updO (kp fun _ => True) (fun _ _ _ => trivial) rfl hr e (fun b u _ ne e' => by rw [upd_ne ne]; exact e') (fun b u e' => ?_) (fun b u e' => ?_) s.sh.gz (fun b m => ⟨(s.sh.mf b m).1, (s.sh.mf b m).2.2⟩)
    ⟨C, dx, _, hC, h2, upd_same, FR.put s.sh.nd (kp _) hn na (hx.keep (kp fun _ => True) trivial) h4⟩, s.sl, fun j y ej => ?_⟩
  · have ne : b ≠ a := fun z => by subst z; rw [m1] at e'; cases e'
    rw [upd_ne ne]; exact s.sh.gh b u e'
  · have ne : b ≠ a := fun z => by subst z; rw [m2] at e'; cases e'
    rw [upd_ne ne]; exact s.sh.zh b u e'
  · obtain ⟨w, e2, fv⟩ := s.sv j y ej
    exact ⟨w, e2, fv.keep (kp fun _ => True) trivial⟩
/-- nobody's object is given to a path -/
theorem SR.give (s : SR Γ Z Lt g st σ H) (x : OA Γ Z g H .tmp a d) (q : Path) : SR Γ Z Lt (g.tmp a q) st σ H ∧ GT Z g (g.tmp a q) ∧ OA Γ Z (g.tmp a q) H q a d := by
  obtain ⟨h1, h2, h3, h4, o, h5, h6⟩ := x
  have nz : ∀ b u, Z b = some u → b ≠ a := fun b u z q => by rw [q, h2] at z; cases z
  have gt : GT Z g (g.tmp a q) := ⟨GLe.refl _, ⟨[], by simp⟩, fun b u z => tmp_ne (nz b u z), fun _ _ _ h => h⟩
  have kp : Kp Z g (g.tmp a q) H H fun p => p ≠ .tmp := ⟨gt, fun b p u hp k1 k2 k3 k4 k5 => by
    have ne : b ≠ a := fun q => by subst q; rw [h3] at k3; cases k3; exact hp rfl
    exact ⟨k1, by rw [tmp_ne ne]; exact k3, k4, k5⟩⟩
  refine ⟨⟨s.sh.keep kp (fun r f => by simp) rfl (fun _ _ _ e => e) s.sh.gh s.sh.zh s.sh.gz fun b m => ⟨(s.sh.mf b m).1, (tmp_ne (fun q => h4 (by rw [← q]; exact m))).trans (s.sh.mf b m).2.2⟩, s.sl, fun j x e => ?_⟩, gt, h1, h2, tmp_same, h4, o, h5, h6.mono gt.le gt.mp⟩
  obtain ⟨w, e1, f⟩ := s.sv j x e
  exact ⟨w, e1, f.keep kp (by simp)⟩
/-- the classes that have the field by themselves -/
noncomputable def FldOk (Γ : Tab) (n : Str) (cs : List Nat) : Prop := ∀ c ∈ cs, ∀ C, Γ.cls c = some C → NoAttr Γ.K C n
noncomputable def sFld (i : Nat) (cs : List Nat) (fo fe : E D) : S := fun st => SRes.of (fe st) fun d s1 => SRes.of (fo s1) fun x s2 => match x with
  | .obj r => match s2.h[r]? with
    | some (.ins c fs) => if c ∈ cs ∧ fs.length < 1000 then .nx (s2.setF r i (.val d)) else .bad
    | _ => .bad
  | _ => .bad
theorem st_fld {i : Nat} {cs : List Nat} {n : Str} {o : Expr} (hn : Γ.nm[i]? = some n) (ok : FldOk Γ n cs) (hK : X.K = Γ.K) (x : PD Γ W X o k) (y : PD Γ W X e f) (hs : swapsWith e (some (.Attribute o n pos2)) pos.line X.env = pure false := by rfl) : PSt Γ W X (.Assign [.Attribute o n pos2] e pos) (sFld i cs k f) := by
  refine ⟨(ps_fld x.pe y.pe hs).csq fun D σ H ⟨Z, Lt, g, st, s, h⟩ => ⟨Z, Lt, g, st, s, (GoS.of h).imp fun d g1 st1 H1 s1 t1 k1 v r => ?_⟩⟩
  refine ⟨Z, Lt, g1, st1, s1, (GoS.of (k1 g1 H1 s1 (GT.refl _ _))).imp fun x g2 st2 H2 s2 t2 k2 w r2 => ?_⟩
  have k3 := k2 g2 H2 s2 (GT.refl _ _)
  cases x with
  | obj r0 =>
    obtain ⟨a, rfl, hr⟩ := RD.obj r2
    simp only at k3
    split at k3
    · rename_i c fs e1
      split at k3
      · rename_i hc
        obtain ⟨C, dx, ws, q1, q2, q3, q4⟩ := s2.insAt hr e1
        have na := ok c hc.1 C q1
        rw [hK]
        exact ⟨a, C, dx, ws, rfl, q3, q2, na, by rw [q4.length]; exact hc.2, k3 σ g2 _ (s2.setX hr e1 q1 q3 hn na (show FVR Γ Z Lt g2 H2 (.fld r0 i) (.val d) v from r.up t2)) (GT.refl _ _)⟩
      · exact k3.elim
    · exact k3.elim
  | _ => exact k3.elim
/-- a fresh list goes to a field of the object that a name holds -/
noncomputable def LS.objAt (st : LS) (k : Nat) : Option Nat := match st.s[k]? with
  | some (some (.val (.obj r))) => some r
  | _ => none
theorem objAt_eq {k r : Nat} (e : st.objAt k = some r) : st.s[k]? = some (some (.val (.obj r))) := by
  unfold LS.objAt at e
  split at e
  · cases e; assumption
  · cases e
noncomputable def sFldF (i : Nat) (cs : List Nat) (j : Nat) (fe : E D) : S := fun st => SRes.of (fe st) fun d s1 => match s1.objAt j with
  | some r => match s1.h[r]? with
    | some (.ins c fs) => if c ∈ cs ∧ fs.length < 1000 then .nx (s1.setF r i (.own d)) else .bad
    | _ => .bad
  | none => .bad
theorem st_fldF {i j : Nat} {cs : List Nat} {n x : Str} {ypos : Pos} (hn : Γ.nm[i]? = some n) (ok : FldOk Γ n cs) (hK : X.K = Γ.K) (hN : X.N[j]? = some x) (hv : Vis X.env.scope x) (y : PF Γ W X e f) (hd : (x == ("__debug__" : Str)) = false := by decide) (hcd : (x == ("__classdict__" : Str)) = false := by decide)
    (hs : swapsWith e (some (.Attribute (.Name x ypos) n pos2)) pos.line X.env = pure false := by rfl) : PSt Γ W X (.Assign [.Attribute (.Name x ypos) n pos2] e pos) (sFldF i cs j f) := by
  refine ⟨(ps_fld (pe_var hN hv hd hcd) y.pe hs).csq fun D σ H ⟨Z, Lt, g, st, s, h⟩ => ⟨Z, Lt, g, st, s, (GoS.of h).imp fun d g1 st1 H1 s1 t1 k1 b r => ?_⟩⟩
  have k3 := k1 g1 H1 s1 (GT.refl _ _)
  cases e0 : st1.objAt j with
  | none => rw [e0] at k3; exact k3.elim
  | some r0 =>
    rw [e0] at k3
    simp only at k3
    obtain ⟨w, ew, rw'⟩ := s1.sv j _ (objAt_eq e0)
    obtain ⟨a, rfl, hr⟩ := RD.obj (show RD Γ g1 (.obj r0) w from rw')
    refine ⟨_, ew, ?_⟩
    split at k3
    · rename_i c fs e1
      split at k3
      · rename_i hc
        obtain ⟨s2, t2, oa⟩ := s1.give r (.fld r0 i)
        obtain ⟨C, dx, ws, q1, q2, q3, q4⟩ := s2.insAt hr e1
        have na := ok c hc.1 C q1
        rw [hK]
        exact ⟨a, C, dx, ws, rfl, q3, q2, na, by rw [q4.length]; exact hc.2, k3 σ _ _ (s2.setX (x := .own d) hr e1 q1 q3 hn na ⟨b, rfl, oa⟩) t2⟩
      · exact k3.elim
    · exact k3.elim
/-- o.f op= e -/
noncomputable def sFldAug (i : Nat) (cs : List Nat) (fo : E D) (m : Sem2) (fe : E D) : S := fun st => SRes.of (fo st) fun x s1 => match x with
  | .obj r => match s1.h[r]?, s1.fld r i with
    | some (.ins c _), some (.val u) => if c ∈ cs then SRes.of (fe s1) fun y s2 => SRes.of (m u y s2) fun z s3 => match s3.h[r]? with
      | some (.ins c' fs) => if c' = c ∧ fs.length < 1000 then .nx (s3.setF r i (.val z)) else .bad
      | _ => .bad else .bad
    | _, _ => .bad
  | _ => .bad
theorem st_fldAug {i : Nat} {cs : List Nat} {n : Str} {o : Expr} {op : Operator} {r : R2} {m : Sem2} (hn : Γ.nm[i]? = some n) (ok : FldOk Γ n cs) (hK : X.K = Γ.K) (x : PD Γ W X o k) (ho : OpR X (inplaceOp op) r) (hm : Holds2 Γ W X r m) (y : PV Γ W X e f) :
    PSt Γ W X (.AugAssign (.Attribute o n tpos) op e pos) (sFldAug i cs k m f) := by
  refine ⟨(ps_fldaug (rd := r) x.pe y.pe ho).csq fun D σ H ⟨Z, Lt, g, st, s, h⟩ => ⟨Z, Lt, g, st, s, (GoS.of h).imp fun x g1 st1 H1 s1 t1 k1 w r1 => ?_⟩⟩
  have k2 := k1 g1 H1 s1 (GT.refl _ _)
  cases x with
  | obj r0 =>
    obtain ⟨a, rfl, hr⟩ := RD.obj r1
    simp only at k2
    split at k2
    · rename_i c fs u e1 e2
      split at k2
      · rename_i hc
        obtain ⟨C, dx, ws, q1, q2, q3, q4⟩ := s1.insAt hr e1
        have na := ok c hc C q1
        obtain ⟨C', dx', ws', n', v, p1, p2, p3, p4, p5, p6⟩ := s1.fld hr e2
        rw [q3] at p1; cases p1
        rw [hn] at p3; cases p3
        rw [hK]
        refine ⟨a, C, dx, ws, v, rfl, q3, q2, na, p5, Z, Lt, g1, st1, s1, (GoS.of k2).imp fun y g2 st2 H2 s2 t2 k3 w2 r2 => ?_⟩
        have k4 := k3 g2 H2 s2 (GT.refl _ _)
        refine hm Z Lt g2 st2 σ H2 u y v w2 _ s2 (.inl (RD.up p6 t2)) (r2.cv s2) ((GoS.of k4).imp fun z g3 st3 H3 s3 t3 k5 w3 r3 => ?_)
        have k6 := k5 g3 H3 s3 (GT.refl _ _)
        split at k6
        · rename_i c' fs' e3
          split at k6
          · rename_i hc'
            obtain ⟨rfl, hl⟩ := hc'
            have hr3 : g3.M[r0]? = some a := by
              obtain ⟨t, et⟩ := (t2.trans t3).mp
              rw [et, List.getElem?_append_left (List.getElem?_eq_some_iff.mp hr).1]
              exact hr
            obtain ⟨C2, dx2, ws2, y1, y2, y3, y4⟩ := s3.insAt hr3 e3
            rw [q1] at y1; cases y1
            exact ⟨dx2, ws2, y3, by rw [y4.length]; exact hl, k6 σ g3 _ (s3.setX hr3 e3 q1 y3 hn na (show FVR Γ Z Lt g3 H3 (.fld r0 i) (.val z) w3 from r3)) (GT.refl _ _)⟩
          · exact k6.elim
        · exact k6.elim
      · exact k2.elim
    · exact k2.elim
  | _ => exact k2.elim

/-! ### methods -/
structure MDef (Γ : Tab) (P : Program) (w : World) (mg : Str → Option Value) (base : Heap) (kk : Nat) (m : Str) (c n : Nat) (F : Fn) : Prop where
  ex : ∃ (C f : Addr) (fd : FuncData) (ps : List Str), Γ.cls c = some C ∧ Meth Γ.K C m f ∧ FnOk P w Γ.K mg base (L2.CX P w) kk f fd ps (spF Γ n F) ∧ Binds Γ.K fd ps []
theorem MDef.mono {P : Program} {w : World} {mg : Str → Option Value} {base : Heap} {kk kl : Nat} {m : Str} {c n : Nat} {F : Fn} (x : MDef Γ P w mg base kk m c n F) (h : kk ≤ kl) : MDef Γ P w mg base kl m c n F := by
  obtain ⟨C, f, fd, ps, h1, h2, h3, h4⟩ := x.ex
  exact ⟨C, f, fd, ps, h1, h2, h3.mono h, h4⟩
noncomputable def tMethV (X : Cx) (W : WX) (k : Nat) (m : Str) (ta : TE) (t : TA) : TE := fun σ H Q => ta σ H fun x H1 => ∃ (a C f : Addr) (fd : FuncData) (ps : List Str) (sp : Sp) (dx : Addr) (fs : List (Str × V)), x = .ref a ∧ H1 a = some (.ins C dx fs) ∧ Cls X.K C ∧ Meth X.K C m f ∧
  FnOk X.prog X.w X.K X.mg X.base (L2.CX X.prog X.w) k f fd ps sp ∧ Binds X.K fd ps [] ∧ fs.lookup m = none ∧ t σ H1 fun vs H2 => sp (.ref a :: vs) H2 Q (WE W σ)
theorem pe_methV {o : Expr} {k : Nat} {m : Str} {ta : TE} {t : TA} {pl : Sem Bool} (tk : Takes X W) (he : PE X o ta) (hr : Room k X.A) (ha : PA X (e :: es) t)
    (hst : starEach (e :: es) X.env = (false, eval e X.env) :: starEach es X.env := by rfl) (hpl : (backTo pos (starEach es X.env)).any (·.1) = false := by rfl)
    (ht : eval (.Call (.Attribute o m apos) (e :: es) [] pos) X.env = (do
      let ov ← eval o X.env
      standAt apos.atName
      let (f, first) ← holding [ov] (getMethod ov m pl)
      callWith pos f first (backTo pos (starEach (e :: es) X.env)) (backToKw pos (keywordEach [] X.env))) := by rfl) :
    PE X (.Call (.Attribute o m apos) (e :: es) [] pos) (tMethV X W k m ta t) := by
  refine ⟨fun pins s σ H Q I h => ?_⟩
  refine PySem.W.methodCall_KW (pl := pl) (thn (he.run pins s σ H _ I h) fun u s1 ⟨x, H1, I1, rx, a, C, f, fd, ps, sp, dx, fs, ex, ea, c, hm, F, hb, l, q⟩ => ?_) ht
  subst ex
  obtain rfl : u = Value.ref a := rx
  refine getmeth_ok I1 ea c hm l ?_
  refine PySem.W.callWith_K (first := [.ref a]) (h₀ := X.base) I.ok.mod.kin hm.kp (thn (ha.run pos pins s1 σ H1 _ I1 q) fun us s2 ⟨vs, H2, I2, r, q2⟩ => ⟨I2.kIn, ?_⟩) hst hpl
  exact run_fnS (us := .ref a :: us) (vs := .ref a :: vs) (E := WE W) F hr hb (passAt tk σ) I2 (.cons rfl r) q2
noncomputable def eMeth (n : Nat) (ms : List (Nat × Fn)) (fo : E D) (args : E (List FV)) : E D := fun st => (fo st).bind fun d s1 => match d with
  | .obj r => match s1.h[r]? with
    | some (.ins c _) => match ms.lookup c with
      | some F => (args s1).bind fun fs s2 => if fs.length + 1 = n then outD s2 (F (.val (.obj r) :: fs) s2.h) else .bad
      | none => .bad
    | _ => .bad
  | _ => .bad
/-- the method is no field -/
noncomputable def NoFld (Γ : Tab) (m : Str) : Prop := m ∉ Γ.nm
theorem FR.no {r : Nat} {C : Addr} {m : Str} (nf : NoFld Γ m) : ∀ {fs : List (Nat × FV)} {ws : List (Str × V)}, FR Γ Z Lt g H r C fs ws → ws.lookup m = none
  | [], _, F => by cases (show _ = [] from F); rfl
  | y :: fs, _, F => by
    obtain ⟨n, v, q, rfl, h1, _, _, _, h4⟩ := F
    have ne : m ≠ n := fun z => nf (by rw [z]; exact List.mem_of_getElem? h1)
    rw [List.lookup_cons, beq_false_of_ne ne]
    exact FR.no nf h4
noncomputable def AllM (Γ : Tab) (X : Cx) (kk : Nat) (m : Str) (n : Nat) (ms : List (Nat × Fn)) : Prop := ∀ c F, ms.lookup c = some F → MDef Γ X.prog X.w X.mg X.base kk m c n F
theorem allM_nil {kk n : Nat} {m : Str} : AllM Γ X kk m n [] := fun c F e => by simp at e
theorem allM_cons {kk n c : Nat} {m : Str} {F : Fn} {ms : List (Nat × Fn)} (x : MDef Γ X.prog X.w X.mg X.base kk m c n F) (y : AllM Γ X kk m n ms) : AllM Γ X kk m n ((c, F) :: ms) := fun c' F' e => by
  rw [List.lookup_cons] at e
  by_cases q : c' = c
  · subst q; rw [beq_self_eq_true] at e; cases e; exact x
  · rw [beq_false_of_ne q] at e; exact y c' F' e
theorem ARs.up : ∀ {xs : List FV} {vs : List V}, ARs Γ Z g xs vs → GT Z g g' → ARs Γ Z g' xs vs
  | [], _, r, _ => r
  | x :: xs, _, r, t => by obtain ⟨v, q, e, r1, r2⟩ := r; exact ⟨v, q, e, r1.up t, ARs.up r2 t⟩
theorem meth_T {m : Str} {n kk : Nat} {ms : List (Nat × Fn)} {args : E (List FV)} {Q : VK} (hK : X.K = Γ.K) (nf : NoFld Γ m) (am : AllM Γ X kk m n ms) (h : T Γ W (eMeth n ms f args) σ H Q) : tMethV X W kk m (T Γ W f) (TGs Γ W args) σ H Q := by
  obtain ⟨Z, Lt, g, st, s, h⟩ := h
  refine ⟨Z, Lt, g, st, s, h.bind.imp fun d g1 st1 H1 s1 t1 k1 v r => ?_⟩
  have k2 := k1 g1 H1 s1 (GT.refl _ _)
  cases d with
  | obj r0 =>
    obtain ⟨a, rfl, hr⟩ := RD.obj r
    simp only at k2
    split at k2
    · rename_i c fs e1
      split at k2
      · rename_i F eF
        obtain ⟨C, f', fd, ps, x1, x2, x3, x4⟩ := (am c F eF).ex
        obtain ⟨C', dx, ws, q1, q2, q3, q4⟩ := s1.insAt hr e1
        rw [x1] at q1; cases q1
        rw [hK]
        refine ⟨a, C, f', fd, ps, _, dx, ws, rfl, q3, q2, x2, x3, x4, q4.no nf, Z, Lt, g1, st1, s1, (Go.bind k2).imp fun fs g2 st2 H2 s2 t2 k3 vs rs => ?_⟩
        have k4 := k3 g2 H2 s2 (GT.refl _ _)
        split at k4
        · rename_i hl
          exact call_sp s2 (ARs.cons (show AR Γ Z g2 (.val (.obj r0)) (.ref a) from RD.up r t2) rs) (by simpa using hl) k4
        · exact k4.elim
      · exact k2.elim
    · exact k2.elim
  | _ => exact k2.elim
theorem T.mono {Q Q' : VK} (i : ∀ v H, Q v H → Q' v H) (h : T Γ W f σ H Q) : T Γ W f σ H Q' := by
  obtain ⟨Z, Lt, g, st, s, h⟩ := h
  exact ⟨Z, Lt, g, st, s, h.imp fun d g1 st1 H1 s1 t1 k1 v r => i _ _ (k1 g1 H1 s1 (GT.refl _ _) v r)⟩
theorem dmeth {o : Expr} {m : Str} {n kk : Nat} {ms : List (Nat × Fn)} {args : E (List FV)} {pl : Sem Bool} (am : AllM Γ X kk m n ms) (hK : X.K = Γ.K) (nf : NoFld Γ m) (tk : Takes X W) (hr : Room kk X.A) (x : PD Γ W X o f) (ha : PArgs Γ W X (e :: es) args)
    (hst : starEach (e :: es) X.env = (false, eval e X.env) :: starEach es X.env := by rfl) (hpl : (backTo pos (starEach es X.env)).any (·.1) = false := by rfl)
    (ht : eval (.Call (.Attribute o m apos) (e :: es) [] pos) X.env = (do
      let ov ← eval o X.env
      standAt apos.atName
      let (f, first) ← holding [ov] (getMethod ov m pl)
      callWith pos f first (backTo pos (starEach (e :: es) X.env)) (backToKw pos (keywordEach [] X.env))) := by rfl) :
    PD Γ W X (.Call (.Attribute o m apos) (e :: es) [] pos) (eMeth n ms f args) := ⟨(pe_methV tk x.pe hr ha.pa hst hpl ht).csq fun σ H Q h => meth_T hK nf am h⟩
/-! ### an instance is made -/
structure CDef (Γ : Tab) (P : Program) (w : World) (mg : Str → Option Value) (base : Heap) (kk : Nat) (x : Str) (c n : Nat) (F : Fn) : Prop where
  ex : ∃ (C f : Addr) (fd : FuncData) (ps : List Str), Γ.cls c = some C ∧ mg x = some (.ref C) ∧ Cls Γ.K C ∧ Mk Γ.K C f ∧ FnOk P w Γ.K mg base (L2.CX P w) kk f fd ps (spF Γ n F) ∧ Binds Γ.K fd ps []
theorem run_makeS {pins : List (Addr × Obj)} {s : Shared} {Q : VK} {us : List Value} {vs : List V} {k : Nat} {C f : Addr} {fd : FuncData} {ps : List Str} {sp : Sp} {E : XK} (M : Mk X.K C f) (F : FnOk X.prog X.w X.K X.mg X.base (L2.CX X.prog X.w) k f fd ps sp) (hr : Room (k + 1) X.A) (hb : Binds X.K fd ps [])
    (hx : PassesAt (L2.CX X.prog X.w) X σ E) (I : Inv X pins σ H s) (r : Vals vs us)
    (h : ∀ x dx, H x = none → H dx = none → dx ≠ x → sp (.ref x :: vs) (upd (upd H dx (.own x)) x (.ins C dx [])) (fun v H2 => v = .non ∧ Q (.ref x) H2) E) :
    wpAny (model X.prog X.w) X.A (call (.ref C) us) (EP X pins σ Q) X.xe s := by
  have hq := h (s.heap.objs.size + 1) s.heap.objs.size (I.hok.fresh (Nat.le_succ _)) (I.hok.fresh (Nat.le_refl _)) (Nat.ne_of_lt (Nat.lt_succ_self _))
  have I2 := Inv.made (C := C) I
  have r2 : Vals (V.ref (s.heap.objs.size + 1) :: vs) (Value.ref (s.heap.objs.size + 1) :: us) := .cons rfl r
  have hl : (Value.ref (s.heap.objs.size + 1) :: us).length = ps.length := by
    have e := r2.length
    rw [F.len _ _ _ _ hq] at e
    exact e.symm
  have b := hb { s with heap := (s.heap.push PySem.W.emptyDict).push (PySem.W.instObj C s.heap.objs.size) } (Value.ref (s.heap.objs.size + 1) :: us) I2.kIn (by rw [List.append_nil]; exact hl)
  rw [List.append_nil] at b
  refine wpAny_call (make_map (f := f) I.kIn M.makes M.init (beq_iff_eq.mp M.fn) (codeAny_mono (F.run _ X.stack _ _ ⟨Value.ref (s.heap.objs.size + 1) :: us, []⟩ (Value.ref (s.heap.objs.size + 1) :: us) _ _ E (hr.make C us [])
    (I2.env0.make C us []) b r2 hq) fun r s' hq' => ?_))
  cases r with
  | error e => exact hx pins _ _ e s' I2 hq'
  | ok fl =>
    cases fl with
    | ret u =>
      obtain ⟨v, H', I3, rv, ev, q3⟩ := I2.after hq'
      subst ev
      exact ⟨rv, ⟨V.ref (s.heap.objs.size + 1), H', I3, rfl, q3⟩⟩
    | next => exact False.elim hq'
    | brk => exact False.elim hq'
    | cont => exact False.elim hq'
/-- a new instance is there -/
theorem SR.made {C x dx : Addr} {c : Nat} (s : SR Γ Z Lt g st σ H) (hC : Γ.cls c = some C) (cl : Cls Γ.K C) (nx : H x = none) (nd : H dx = none) (ne : dx ≠ x) :
    ∃ g', SR Γ Z Lt g' { st with h := st.h ++ [.ins c []] } σ (upd (upd H dx (.own x)) x (.ins C dx [])) ∧ GT Z g g' ∧ g'.M[st.h.length]? = some x := by
  have qx := s.sh.new nx
  have qd := s.sh.new nd
  have kh : ∀ {b u}, H b = some u → upd (upd H dx (.own x)) x (.ins C dx []) b = some u := fun {b u} e => by rw [upd_ne (ne_of_none e nx), upd_ne (ne_of_none e nd)]; exact e
  let g' : GM := { G := g.G, M := g.M ++ [x], O := fun b => if b = x then none else g.O b }
  have ox : ∀ {b}, b ≠ x → g'.O b = g.O b := fun {b} hb => if_neg hb
  have gt : GT Z g g' := ⟨GLe.refl _, ⟨[x], rfl⟩, fun b u z => ox (ne_of_none z qx.2.2), fun _ _ _ h => h⟩
  have kp : Kp Z g g' H (upd (upd H dx (.own x)) x (.ins C dx [])) fun _ => True := ⟨gt, fun b p u _ k1 k2 k3 k4 k5 => by
    have hb : b ≠ x := ne_of_none k5 nx
    exact ⟨k1, by rw [ox hb]; exact k3, fun m => (List.mem_append.mp m).elim k4 fun m => hb (by simpa using m), kh k5⟩⟩
  refine ⟨g', ⟨⟨fun b u e => kh (s.sh.gh b u e), fun b u e => kh (s.sh.zh b u e), s.sh.gz, by simp [g', s.sh.ml], ?_, fun b m => ?_, fun r lo b e1 e2 => ?_, s.sh.nd, s.sh.lz⟩, s.sl, fun j y e => ?_⟩, gt, ?_⟩
  · refine List.nodup_append.mpr ⟨s.sh.mn, by simp, fun b hb c hc => ?_⟩
    simp only [List.mem_singleton] at hc
    subst hc
    exact fun z => qx.1 (by rw [← z]; exact hb)
  · rcases List.mem_append.mp m with m | m
    · have hb : b ≠ x := fun z => qx.1 (by rw [← z]; exact m)
      exact ⟨(s.sh.mf b m).1, (s.sh.mf b m).2.1, by rw [ox hb]; exact (s.sh.mf b m).2.2⟩
    · simp only [List.mem_singleton] at m
      subst m
      exact ⟨qx.2.1, fun o e => (by rw [qx.2.2] at e; cases e), if_pos rfl⟩
  · by_cases hr : r < st.h.length
    · rw [List.getElem?_append_left hr] at e1
      have e2' : g.M[r]? = some b := by
        have : (g.M ++ [x])[r]? = some b := e2
        rwa [List.getElem?_append_left (by rw [s.sh.ml]; exact hr)] at this
      exact (s.sh.ob r lo b e1 e2').keep kp (fun _ => trivial) (fun u e => kh e)
    · have hr' : r = st.h.length := by
        have := (List.getElem?_eq_some_iff.mp e1).1
        simp at this; omega
      subst hr'
      rw [List.getElem?_append_right (Nat.le_refl _), Nat.sub_self] at e1
      cases e1
      have : (g.M ++ [x])[st.h.length]? = some b := e2
      rw [List.getElem?_append_right (by rw [s.sh.ml]; exact Nat.le_refl _), s.sh.ml, Nat.sub_self] at this
      cases this
      exact ⟨C, dx, [], hC, cl, upd_same, rfl⟩
  · obtain ⟨w, e1, f⟩ := s.sv j y e
    exact ⟨w, e1, f.keep kp trivial⟩
  · show (g.M ++ [x])[st.h.length]? = some x
    rw [List.getElem?_append_right (by rw [s.sh.ml]; exact Nat.le_refl _), s.sh.ml, Nat.sub_self]; rfl
noncomputable def outN (r : Nat) (st : LS) : FRes → Res D
  | .ret (.val .non) h' => .ok (.obj r) { st with h := h' }
  | .exc x h' => .exc x { st with h := h' }
  | _ => .bad
noncomputable def eMake (n c : Nat) (F : Fn) (args : E (List FV)) : E D := fun st => (args st).bind fun fs s1 => if fs.length + 1 = n then outN s1.h.length s1 (F (.val (.obj s1.h.length) :: fs) (s1.h ++ [.ins c []])) else .bad
noncomputable def tMakeS (C : Addr) (sp : Sp) (W : WX) (t : TA) : TE := fun σ H Q => t σ H fun vs H1 => ∀ x dx, H1 x = none → H1 dx = none → dx ≠ x → sp (.ref x :: vs) (upd (upd H1 dx (.own x)) x (.ins C dx [])) (fun v H2 => v = .non ∧ Q (.ref x) H2) (WE W σ)
theorem make_sp {n c : Nat} {F : Fn} {C x dx : Addr} {fs : List FV} {vs : List V} {Q : VK} (s : SR Γ Z Lt g st σ H) (hC : Γ.cls c = some C) (cl : Cls Γ.K C) (nx : H x = none) (nd : H dx = none) (ne : dx ≠ x) (r : ARs Γ Z g fs vs) (hn : fs.length + 1 = n)
    (h : Go Γ W Z Lt σ (outN st.h.length st (F (.val (.obj st.h.length) :: fs) (st.h ++ [.ins c []]))) g fun d g' _ H' => ∀ v, RD Γ g' d v → Q v H') :
    spF Γ n F (.ref x :: vs) (upd (upd H dx (.own x)) x (.ins C dx [])) (fun v H2 => v = .non ∧ Q (.ref x) H2) (WE W σ) := by
  obtain ⟨g1, s1, t1, hx⟩ := s.made hC cl nx nd ne
  have rx : AR Γ Z g1 (.val (.obj st.h.length)) (.ref x) := by show RD Γ g1 (.obj st.h.length) (.ref x); simp only [RD]; exact ⟨x, rfl, hx⟩
  have r1 : ARs Γ Z g1 (.val (.obj st.h.length) :: fs) (.ref x :: vs) := ARs.cons rx (r.up t1)
  refine ⟨_, _, g1, _, _, s1.callee _ _ r1, r1.z, by simpa using hn, fun i => rfl, ?_⟩
  revert h
  cases eF : F (.val (.obj st.h.length) :: fs) (st.h ++ [.ins c []]) with
  | ret y h' =>
    intro h v g' H' s' t fv
    simp only [eF] at *
    obtain ⟨s2, t2⟩ := SH.back s1 s' t
    cases y with
    | val d =>
      cases d with
      | non =>
        have ev : v = .non := by have fv : RD Γ g' .non v := fv; simpa only [RD] using fv
        refine ⟨ev, h g' H' s2 (t1.trans t2) _ ?_⟩
        simp only [RD]
        obtain ⟨tt, et⟩ := t2.mp
        refine ⟨x, rfl, ?_⟩
        rw [et, List.getElem?_append_left (List.getElem?_eq_some_iff.mp hx).1]
        exact hx
      | _ => exact h.elim
    | _ => exact h.elim
  | exc y h' =>
    intro h cls dd g' H' s' t xr
    obtain ⟨s2, t2⟩ := SH.back s1 s' t
    exact h cls dd g' H' s2 (t1.trans t2) xr
  | bad => exact fun h => h
theorem dmake {x : Str} {n c kk : Nat} {F : Fn} {args : E (List FV)} (cd : CDef Γ X.prog X.w X.mg X.base kk x c n F) (hK : X.K = Γ.K) (tk : Takes X W) (hr : Room (kk + 1) X.A) (ha : PArgs Γ W X (e :: es) args) (hg : Gl X x := by rfl)
    (hdb : (x == ("__debug__" : Str)) = false := by decide) (he : starEach (e :: es) X.env = (false, eval e X.env) :: starEach es X.env := by rfl) (hpl : (backTo pos (starEach es X.env)).any (·.1) = false := by rfl) :
    PD Γ W X (.Call (.Name x ppos) (e :: es) [] pos) (eMake n c F args) := by
  obtain ⟨C, f, fd, ps, hC, hm, cl, M, Fo, hb⟩ := cd.ex
  rw [← hK] at M Fo hb
  have key : PE X (.Call (.Name x ppos) (e :: es) [] pos) (tMakeS C (spF Γ n F) W (TGs Γ W args)) := ⟨fun pins s σ H Q I h =>
    wpAny_Call_Name_kw (ld_glob I hg hm (PySem.W.callWith_K (h₀ := X.base) I.ok.mod.kin M.kp (thn (ha.pa.run pos pins s σ H _ I h) fun us s1 ⟨vs, H1, I1, r, q⟩ => ⟨I1.kIn, run_makeS M Fo hr hb (passAt tk σ) I1 r q⟩) he hpl) hdb)⟩
  refine ⟨key.csq fun σ H Q ⟨Z, Lt, g, st, s, h⟩ => ⟨Z, Lt, g, st, s, h.bind.imp fun fs g1 st1 H1 s1 t1 k1 vs rs x dx nx nd ne => ?_⟩⟩
  have k2 := k1 g1 H1 s1 (GT.refl _ _)
  split at k2
  · exact make_sp s1 hC cl nx nd ne rs ‹_› k2
  · exact k2.elim
/-! ### raise X('..'), X a class of the text over ValueError -/
structure EDef (Γ : Tab) (mg : Str → Option Value) (x : Str) (c : Nat) : Prop where
  ex : ∃ C : Addr, Γ.cls c = some C ∧ mg x = some (.ref C) ∧ PySem.W.keepIn Γ.K (.ref C) = true ∧ PySem.W.excIn Γ.K C [.type "ValueError", .type "Exception", .type "BaseException", .type "object"] "ValueError.__new__" = true ∧ PySem.W.subIn Γ.K (.ref C) (.type "BaseException") = some true ∧ PySem.W.typeIn Γ.K (.ref C) = some (.type "type")
noncomputable def sRaise (c : Nat) : S := fun st => .exc ⟨c, none⟩ st
theorem st_raise {x m : Str} {c j : Nat} (ed : EDef Γ X.mg x c) (hK : X.K = Γ.K) (hc : X.calm = true) (tk : Takes X W) (hg : Gl X x := by rfl) (hdb : (x == ("__debug__" : Str)) = false := by decide) :
    PSt Γ W X (.Raise (some (.Call (.Name x ppos) [.Constant (.str m) j pos2] [] apos)) none pos) (sRaise c) := by
  obtain ⟨C, hC, gC, kC, xC, b1, t1⟩ := ed.ex
  rw [← hK] at kC xC b1 t1
  exact ⟨(ps_raise hc tk (pmk_own PySem.F.excBase_ValueError xC gC kC (raises_own b1 t1) hg hdb)).csq fun D σ H ⟨Z, Lt, g, st, s, h⟩ => h (.ref C) none σ g H s (GT.refl _ _) ⟨C, hC, rfl, rfl⟩⟩
end
end PL

/-! PyLite, part s: list(reversed(xs)), list(xs), loops over reversed, enumerated, zipped lists. -/
namespace PLR
open PySem PySem.Spec PyProof.Rows L2
section
variable {prog : Program} {w : World} {A : Around} {E : Value → Shared → Prop} {s : Shared}
theorem extend_revL {R : Result → Shared → Prop} {it l S : Addr} {items : Array Value} {res : Value} {c₀ : Nat} (hh : A.handled = none) (hit : s.heap.IsRevIter it l ((items.size : Int) - 1)) (hl : s.heap.IsList l items) (hne : l ≠ it) (hSf : S ∉ [it, l]) (hn : items.size ≤ sizeLine)
    (hS : s.heap.get? S = some { cls := .type "list", data := .seq #[] c₀ })
    (hR : ∀ s' acc' c', Moved (S :: [it]) (fun a b => b = a) s s' → s'.heap.get? S = some { cls := .type "list", dict := none, data := .seq acc' c', slots := #[] } → ItemsOf (fun i v => items[items.size - 1 - i]? = some v) acc' items.size → R (.ok (.ret res)) s') :
    wpAny (model prog w) A.in1 (Builtin.List.listExtendWith (.ref S) (.ref it) res)
      (fun fin s' => match fin with | .done f => R (.ok f) s' | .again c' => c'.quiet = true ∧ codeAny (model prog w) A c' R s') (fun e s' => R (.error e) s') s := by
  have W := (Walks.listRev (prog := prog) (w := w) (A := A.in1) hh it l hne items).toS
  have hSi : S ≠ it := fun e => hSf (by rw [e]; simp)
  have hT : s.TypeIs (.ref it) "list_reverseiterator" := hit.typeIs
  have h1 : Builtin.List.listSameRef (.ref S) (.ref it) = false := by simp [Builtin.List.listSameRef, hSi]
  unfold Builtin.List.listExtendWith
  refine wpAny_bind (wpAny_typeOf hT ?_)
  rw [if_neg (by rw [h1]; decide)]
  refine wpAny_bind (wpAny_pyIter_revIter hit ?_)
  refine wpAny_bind (wpAny_holding ?_)
  unfold Builtin.List.listLengthHint
  refine wpAny_bind (wpAny_specialOf hT RT.nolen_lri ?_)
  show wpAny _ A.in1 (specialOf (Value.ref it) (Str.ofString "__length_hint__") >>= _) _ _ _
  refine wpAny_bind (wpAny_specialOf hT RT.hint_lri ?_)
  generalize hid : ("list_reverseiterator.__length_hint__" : String) = id0
  wp_delta
  rw [show splitId id0 = some ("list_reverseiterator", "__length_hint__") from by subst hid; decide +kernel]
  subst hid
  refine wpAny_bind (wpAny_isInstance (b := true) hT (by rw [isSubtype_type]; kernel_rfl) ?_)
  refine wpAny_pure ?_
  rw [if_neg (by decide)]
  have e0 : ((items.size : Nat) : Int) - 1 - ((0 : Nat) : Int) = (items.size : Int) - 1 := by omega
  exact wpAny_pure ⟨plainId_quiet F.plain_extend_loop _, codeAny_extend_loopS W hn _ hSf _ items.size 0 _ _ _ rfl (Nat.zero_le _) ⟨Nat.zero_le _, by rw [e0]; exact hit, hl⟩ hS (ItemsOf.nil _) fun s' acc' c' hm hS' hacc => hR s' acc' c' hm hS' hacc⟩
theorem call_listRev {it l : Addr} {items : Array Value} {Q : Value → Shared → Prop} (hh : A.handled = none) (hit : s.heap.IsRevIter it l ((items.size : Int) - 1)) (hl : s.heap.IsList l items) (hne : l ≠ it) (hn : items.size ≤ sizeLine)
    (hQ : ∀ (h' : Heap) (tk : Nat) (acc : Array Value) (c : Nat), (∀ b o, b ≠ it → s.heap.get? b = some o → h'.get? b = some o) → h'.get? s.heap.objs.size = some { cls := .type "list", dict := none, data := .seq acc c, slots := #[] } → ItemsOf (fun i v => items[items.size - 1 - i]? = some v) acc items.size →
      Q (.ref s.heap.objs.size) { s with heap := h', toks := tk }) :
    wpAny (model prog w) A (call (.type "list") [.ref it]) Q E s := by
  obtain ⟨oi, hoi, _⟩ := id hit
  obtain ⟨ol, hol, _⟩ := id hl
  have hSi : s.heap.objs.size ≠ it := Nat.ne_of_gt (Heap.lt_size hoi)
  have hSl : s.heap.objs.size ≠ l := Nat.ne_of_gt (Heap.lt_size hol)
  have hSf : s.heap.objs.size ∉ [it, l] := by simp only [List.mem_cons, List.not_mem_nil, or_false, not_or]; exact ⟨hSi, hSl⟩
  refine callType_codes (Q₁ := fun obj s₁ => obj = .ref s.heap.objs.size ∧ s₁ = { s with heap := s.heap.push { cls := .type "list", data := .seq #[] } }) F.called_list (F.typeCall_list_1 _) F.entry_list_init
    (code_list_new _ ⟨rfl, rfl⟩) fun obj s₁ h₁ => ?_
  obtain ⟨rfl, rfl⟩ := h₁
  have hS : (s.heap.push { cls := .type "list", data := .seq #[] }).get? s.heap.objs.size = some { cls := .type "list", data := .seq #[] } := Heap.get?_push_size _ rfl
  refine ⟨⟨_, hS, rfl⟩, F.args_list_init_2 _ _, ?_⟩
  show wpAny _ A.in1.in1 (do let old ← Builtin.List.listItems (.ref s.heap.objs.size); Builtin.List.listUpdate (.ref s.heap.objs.size) (fun _ => #[]); letGo old.toList.reverse; Builtin.List.listExtendWith (.ref s.heap.objs.size) (.ref it) .none) _ _ _
  refine wpAny_bind ?_
  unfold Builtin.List.listItems
  refine wpAny_bind (wpAny_seqItems hS rfl (wpAny_pure ?_))
  show wpAny _ A.in1.in1 (updateSeq s.heap.objs.size (fun _ => #[]) >>= fun _ => letGo (#[] : Array Value).toList.reverse >>= fun _ => Builtin.List.listExtendWith (.ref s.heap.objs.size) (.ref it) .none) _ _ _
  refine wpAny_bind (wpAny_updateSeq hS rfl ?_)
  have hS₂ := Heap.get?_update_self (Obj.mapSeq (fun _ => (#[] : Array Value))) hS rfl
  have oth : ∀ b o, b ≠ s.heap.objs.size → s.heap.get? b = some o → ((s.heap.push { cls := .type "list", data := .seq #[] }).update s.heap.objs.size (Obj.mapSeq (fun _ => (#[] : Array Value)))).get? b = some o :=
    fun b o hb e => (Heap.get?_update_other _ _ (Ne.symm hb)).trans (Heap.get?_push_of_some _ e)
  refine wpAny_bind (wpAny_letGo ?_)
  have hit2 : ((s.heap.push { cls := .type "list", data := .seq #[] }).update s.heap.objs.size (Obj.mapSeq (fun _ => (#[] : Array Value)))).IsRevIter it l ((items.size : Int) - 1) := hit.at fun o e => oth it o (Ne.symm hSi) e
  have hl2 : ((s.heap.push { cls := .type "list", data := .seq #[] }).update s.heap.objs.size (Obj.mapSeq (fun _ => (#[] : Array Value)))).IsList l items := hl.at fun o e => oth l o (Ne.symm hSl) e
  refine extend_revL (A := A.in1) hh hit2 hl2 hne hSf hn hS₂ fun s' acc' c' hm hS' hacc => ?_
  refine ⟨rfl, ?_⟩
  rw [Moved.eq_with hm] at hS' ⊢
  refine hQ s'.heap s'.toks acc' c' (fun b o hb e => hm.heap b o (fun hmem => ?_) (oth b o (fun z => ?_) e)) hS' hacc
  · rcases List.mem_cons.mp hmem with e' | hmem
    · exact absurd (Heap.lt_size e) (by rw [e']; exact Nat.lt_irrefl _)
    · exact hb (List.mem_singleton.mp hmem)
  · exact absurd (Heap.lt_size e) (by rw [z]; exact Nat.lt_irrefl _)
end
noncomputable def tListRev (K : PySem.W.Frag) (te : TE) : TE := fun σ H Q => te σ H fun v H1 => ∃ (a : Addr) (xs : List V), v = .ref a ∧ SqL K H1 a xs ∧ ∀ q, H1 q = none → Q (.ref q) (upd H1 q (.lst xs.reverse))
section
variable {X : Cx}
theorem pe_listRev {e : Expr} {te : TE} {p p2 pos pos2 : Pos} (hc : X.calm = true) (hg : Gl X "list") (hm : X.mg "list" = none) (hg2 : Gl X "reversed") (hm2 : X.mg "reversed" = none) (he : PE X e te)
    (hs : starEach [e] X.env = (false, eval e X.env) :: starEach [] X.env := by rfl)
    (hs2 : starEach [.Call (.Name "reversed" p2) [e] [] pos2] X.env = (false, eval (.Call (.Name "reversed" p2) [e] [] pos2) X.env) :: starEach [] X.env := by rfl) :
    PE X (.Call (.Name "list" p) [.Call (.Name "reversed" p2) [e] [] pos2] [] pos) (tListRev X.K te) := by
  refine ⟨fun pins s σ H Q I h => ?_⟩
  refine Call_ (ld_blt I hg hm PyProof.Rows.boot_list (PyProof.Rows.callWith_type1 (args_cons (Call_ (ld_blt I hg2 hm2 PyProof.Rows.boot_reversed (PyProof.Rows.callWith_type1 (args_cons (thn (he.run pins s σ H _ I h) fun u s1 ⟨v, H1, I1, r1, q1⟩ => args_nil ?_) hs) hs rfl))) hs2) hs2 rfl))
  obtain ⟨a, xs, ev, hq, q⟩ := q1
  subst ev
  obtain rfl : u = Value.ref a := r1
  obtain ⟨its, rv, p', hz⟩ := I1.list hq
  refine call_reversed_list p'.isList (args_nil ?_)
  have k0 : ∀ b o, s1.heap.get? b = some o → (s1.heap.push (revObj a ((its.toArray.size : Int) - 1))).get? b = some o := fun b o e => Heap.get?_push_of_some _ e
  have I2 : Inv X pins σ H1 { s1 with heap := s1.heap.push (revObj a ((its.toArray.size : Int) - 1)) } := I1.kept (t' := s1.toks) k0
  obtain ⟨f0, f1, f2, f3, f4, f5⟩ := I1.fpOk (H' := H1) (b := s1.heap.objs.size) (Nat.le_refl _) (I1.hok.fresh (Nat.le_refl _))
  have hl := p'.isList
  obtain ⟨ol, hol, _⟩ := id hl
  have hne : a ≠ s1.heap.objs.size := Nat.ne_of_lt (Heap.lt_size hol)
  have hn : its.toArray.size ≤ sizeLine := by rw [List.size_toArray, ← rv.length]; exact hz
  refine call_listRev (s := { s1 with heap := s1.heap.push (revObj a ((its.toArray.size : Int) - 1)) }) (I1.ok.hd hc) ⟨_, Heap.get?_push_size _ rfl, rfl, rfl⟩ (hl.push _) hne hn fun h' tk acc c hk hS hi => ?_
  have hsz : (s1.heap.push (revObj a ((its.toArray.size : Int) - 1))).objs.size = s1.heap.objs.size + 1 := Heap.size_push _ _
  have hSn : H1 (s1.heap.push (revObj a ((its.toArray.size : Int) - 1))).objs.size = none := I2.hok.fresh (Nat.le_refl _)
  have I3 : Inv X pins σ (upd H1 (s1.heap.push (revObj a ((its.toArray.size : Int) - 1))).objs.size (.lst xs.reverse)) { s1 with heap := (s1.heap.push (revObj a ((its.toArray.size : Int) - 1))).push { cls := .type "list", dict := none, data := .seq acc c, slots := #[] } } :=
    I2.laid (t' := s1.toks) (fun b o e => Heap.get?_push_of_some _ e) (Nat.le_refl _) (show ObjOk X.prog X.w _ _ _ (.lst xs.reverse) from ⟨by rw [List.length_reverse]; exact hz, acc.toList, c, RT.vals_rev rv hi, by rw [Array.toArray_toList]; exact Heap.get?_push_size _ rfl⟩)
  have nS : s1.heap.objs.size ≠ (s1.heap.push (revObj a ((its.toArray.size : Int) - 1))).objs.size := by rw [hsz]; omega
  have I4 := I3.turned (it := s1.heap.objs.size) (t' := tk) (h' := h') (fun b o hb e => by
    rcases Heap.get?_push_cases e with ⟨e1, e2⟩ | e1
    · subst e1 e2
      exact hS
    · exact hk b o hb e1) (by rw [upd_ne nS]; exact f0) f1 f3 f4 f5
  exact ⟨.ref _, _, I4, rfl, q _ hSn⟩
end
end PLR
namespace PL
open PySem PySem.Spec PyProof.Rows L2
section
variable {Γ : Tab} {W : WX} {Z : Hp} {Lt : Lend} {g g' : GM} {st st' : LS} {σ σ' : L2.St} {H H' : Hp} {h h' : List LO} {a p : Addr} {o : HO} {d : D} {v : V} {X : Cx} {e e1 e2 e3 : Expr} {es : List Expr} {f k l : E D} {pos pos2 ppos apos : Pos} {stm : Stmt} {sts : List Stmt} {f1 f2 : S} {D0 : Ends}
theorem RDs.reverse : ∀ {ds : List D} {vs : List V}, RDs Γ g ds vs → RDs Γ g ds.reverse vs.reverse
  | [], _, r => by simp only [RDs] at r; subst r; exact RDs.nil
  | d :: ds, _, r => by
    simp only [RDs] at r
    obtain ⟨w, q, rfl, r1, r2⟩ := r
    rw [List.reverse_cons, List.reverse_cons]
    exact r2.reverse.append (RDs.cons r1 RDs.nil)
/-- list(reversed(xs)) -/
noncomputable def mRev : Sem1 := fun x st => match x with
  | .lst ds => .ok (.lst ds.reverse) st
  | _ => .bad
theorem pf_listRev (hK : X.K = Γ.K) (hc : X.calm = true) (hg : Gl X "list") (hm : X.mg "list" = none) (hg2 : Gl X "reversed") (hm2 : X.mg "reversed" = none) (y : PC Γ W X e f) (hs : starEach [e] X.env = (false, eval e X.env) :: starEach [] X.env := by rfl)
    (hs2 : starEach [.Call (.Name "reversed" ppos) [e] [] pos2] X.env = (false, eval (.Call (.Name "reversed" ppos) [e] [] pos2) X.env) :: starEach [] X.env := by rfl) : PF Γ W X (.Call (.Name "list" apos) [.Call (.Name "reversed" ppos) [e] [] pos2] [] pos) (eUn mRev f) := by
  refine ⟨(PLR.pe_listRev hc hg hm hg2 hm2 y.pe hs hs2).csq fun σ H Q h => oneF (X := X) (r := fun v H Q => ∃ (a : Addr) (xs : List V), v = .ref a ∧ SqL X.K H a xs ∧ ∀ q, H q = none → Q (.ref q) (upd H q (.lst xs.reverse))) (fun Z Lt g st σ H x v Q s rx h => ?_) h⟩
  unfold mRev at h
  split at h
  · obtain ⟨a, vs, rfl, q, r⟩ := rx.lst s
    exact ⟨a, vs, rfl, by rw [hK]; exact q, retF s r.reverse h⟩
  · exact h.elim
/-- list(xs) -/
noncomputable def mList : Sem1 := fun x st => match x with
  | .lst ds => .ok (.lst ds) st
  | .tup ds => .ok (.lst ds) st
  | _ => .bad
theorem pf_list (hK : X.K = Γ.K) (hg : Gl X "list") (hm : X.mg "list" = none) (y : PC Γ W X e f) (he : starEach [e] X.env = (false, eval e X.env) :: starEach [] X.env := by rfl) (hpl : (backTo pos (starEach [] X.env)).any (·.1) = false := by rfl) :
    PF Γ W X (.Call (.Name "list" ppos) [e] [] pos) (eUn mList f) := by
  refine ⟨(pe_callTy call_list_of hg hm PyProof.Rows.boot_list (pa_cons y.pe pa_nil he) (by decide) (by decide) he hpl).csq fun σ H Q h => oneF (X := X) (r := fun v H Q => ∃ p ys, [v] = [V.ref p] ∧ (SqL X.K H p ys ∨ SqT X.K H p ys) ∧ ∀ l, H l = none → Q (.ref l) (upd H l (.lst ys))) (fun Z Lt g st σ H x v Q s rx h => ?_) h⟩
  unfold mList at h
  split at h
  · obtain ⟨a, vs, rfl, q, r⟩ := rx.lst s
    exact ⟨a, vs, rfl, .inl (by rw [hK]; exact q), retF s r h⟩
  · obtain ⟨a, vs, rfl, q, r⟩ := rx.tup s
    exact ⟨a, vs, rfl, .inr (by rw [hK]; exact q), retF s r h⟩
  · exact h.elim
/-- for x in reversed(xs) -/
noncomputable def iRvs (f : E D) : E (List D) := fun st => (f st).bind fun d s1 => match d with
  | .lst ds => .ok ds.reverse s1
  | _ => .bad
theorem it_rev {target : Expr} (hK : X.K = Γ.K) (hg : Gl X "reversed") (hn : X.mg "reversed" = none) (y : PV Γ W X e f) (hs : starEach [e] X.env = [(false, eval e X.env)] := by rfl) (hs2 : starEach [e] X.env = (false, eval e X.env) :: starEach [] X.env := by rfl) :
    PIt Γ W X target (.Call (.Name "reversed" ppos) [e] [] pos) (iRvs f) := by
  refine ⟨_, pi_reversed hg hn (pa_cons y.pe pa_nil hs2) hs, fun σ H R ⟨Z, Lt, g, st, s, h⟩ => ⟨Z, Lt, g, st, s, (Go.bind h).imp fun d g1 st1 H1 s1 t1 k1 v r => ?_⟩⟩
  have k2 := k1 g1 H1 s1 (GT.refl _ _)
  cases d with
  | lst ds =>
    obtain ⟨a, vs, rfl, rs, sq⟩ := r.seqL
    refine ⟨a, vs, rfl, by rw [hK]; exact sq Lt g1 st1 σ H1 s1 (GT.refl _ _), ?_⟩
    refine k2 g1 H1 s1 (GT.refl _ _) s1 _ (fun i H g st σ hi s t => ?_) (fun H g st σ s t => by rw [List.length_reverse, rs.length]; exact Nat.le_refl _)
    rw [List.length_reverse] at hi
    have hj : ds.length - 1 - i < ds.length := by omega
    obtain ⟨d, ed⟩ : ∃ d, ds[ds.length - 1 - i]? = some d := ⟨ds[ds.length - 1 - i], List.getElem?_eq_getElem hj⟩
    obtain ⟨w, ew, rw'⟩ := rs.get ed
    have sq' : SqL X.K H a vs := by rw [hK]; exact sq Lt g st σ H s t
    have el := rs.length
    rw [el] at ew
    refine ⟨⟨by omega, vs, w, sq', ew⟩, fun x H' ⟨e1, e2⟩ => ?_⟩
    subst e1
    have := e2 vs sq'
    rw [ew] at this; cases this
    exact ⟨g, d, by rw [List.getElem?_reverse hi]; exact ed, s, GT.refl _ _, rw'.up t, Quiet.refl _ _⟩
  | _ => exact k2.elim
@[simp] theorem mRev_l {ds : List D} : mRev (.lst ds) st = .ok (.lst ds.reverse) st := id rfl
@[simp] theorem mList_l {ds : List D} : mList (.lst ds) st = .ok (.lst ds) st := id rfl
@[simp] theorem mList_t {ds : List D} : mList (.tup ds) st = .ok (.lst ds) st := id rfl
@[simp] theorem iRvs_s : iRvs f st = (f st).bind fun d s1 => match d with
  | .lst ds => .ok ds.reverse s1
  | _ => .bad := id rfl
/-! ### tests for None -/
theorem pb_isN {j pos'} (x : PC Γ W X e f) : PB Γ W X (.Compare e [.Is] [.Constant .none j pos'] pos) (tst (eUn mIsN f)) :=
  ⟨(pt_cmp (pc_isN x.pe) rfl).csq fun σ H Q h => one (X := X) (r := fun x H Q => Q (.bl (decide (x = .non))) H) (fun Z Lt g st σ H x v Q s rx h => by show Q (.bl _) H; rw [rx.isNon s]; exact ret_bl s h) (tst_T h)⟩
theorem pb_notN {j pos'} (x : PC Γ W X e f) : PB Γ W X (.Compare e [.IsNot] [.Constant .none j pos'] pos) (tst (eUn mNotN f)) :=
  ⟨(pt_cmp (pc_notN x.pe) rfl).csq fun σ H Q h => one (X := X) (r := fun x H Q => Q (.bl (!decide (x = .non))) H) (fun Z Lt g st σ H x v Q s rx h => by show Q (.bl _) H; rw [rx.isNon s]; exact ret_bl s h) (tst_T h)⟩
/-! ### fields, methods: equations -/
@[simp] theorem eFld_s (i : Nat) : eFld i f st = (f st).bind fun d s1 => match d with
  | .obj r => match s1.fld r i with
    | some (.val x) => .ok x s1
    | some (.own x) => .ok x (s1.setF r i (.val x))
    | _ => .bad
  | _ => .bad := id rfl
@[simp] theorem vFld_s (i : Nat) : vFld i f st = (f st).bind fun d s1 => match d with
  | .obj r => match s1.fld r i with
    | some (.val x) => .ok x s1
    | some (.lent x) => .ok x s1
    | _ => .bad
  | _ => .bad := id rfl
@[simp] theorem cFld_s (i : Nat) : cFld i f st = (f st).bind fun d s1 => match d with
  | .obj r => match s1.fld r i with
    | some (.val x) => .ok x s1
    | some (.own x) => .ok x s1
    | some (.lent x) => .ok x s1
    | _ => .bad
  | _ => .bad := id rfl
@[simp] theorem aF_s (i : Nat) : aF i f st = (f st).bind fun d s1 => match d with
  | .obj r => match s1.fld r i with
    | some (.val x) => .ok (.val x) s1
    | some (.lent x) => .ok (.lent x) s1
    | _ => .bad
  | _ => .bad := id rfl
@[simp] theorem fld_s (s : List (Option FV)) (h : List LO) (r i : Nat) : LS.fld ⟨s, h⟩ r i = match h[r]? with
  | some (.ins _ fs) => fs.lookup i
  | _ => none := id rfl
@[simp] theorem setF_s (s : List (Option FV)) (h : List LO) (r i : Nat) (x : FV) : LS.setF ⟨s, h⟩ r i x = match h[r]? with
  | some (.ins c fs) => ⟨s, h.set r (.ins c (putN i x fs))⟩
  | _ => ⟨s, h⟩ := by
  unfold LS.setF
  cases h[r]? with
  | none => rfl
  | some o => cases o <;> rfl
@[simp] theorem objAt_s (s : List (Option FV)) (h : List LO) (n : Nat) : LS.objAt ⟨s, h⟩ n = match s[n]? with
  | some (some (.val (.obj r))) => some r
  | _ => none := id rfl
@[simp] theorem putN_nil (i : Nat) (x : FV) : putN i x [] = [(i, x)] := id rfl
@[simp] theorem putN_cons (i j : Nat) (x y : FV) (r : List (Nat × FV)) : putN i x ((j, y) :: r) = if j = i then (i, x) :: r else (j, y) :: putN i x r := id rfl
@[simp] theorem sFld_s (i : Nat) (cs : List Nat) : sFld i cs k f st = SRes.of (f st) fun d s1 => SRes.of (k s1) fun x s2 => match x with
  | .obj r => match s2.h[r]? with
    | some (.ins c fs) => if c ∈ cs ∧ fs.length < 1000 then .nx (s2.setF r i (.val d)) else .bad
    | _ => .bad
  | _ => .bad := id rfl
@[simp] theorem sFldF_s (i : Nat) (cs : List Nat) (j : Nat) : sFldF i cs j f st = SRes.of (f st) fun d s1 => match s1.objAt j with
  | some r => match s1.h[r]? with
    | some (.ins c fs) => if c ∈ cs ∧ fs.length < 1000 then .nx (s1.setF r i (.own d)) else .bad
    | _ => .bad
  | none => .bad := id rfl
@[simp] theorem sFldAug_s (i : Nat) (cs : List Nat) (m : Sem2) : sFldAug i cs k m f st = SRes.of (k st) fun x s1 => match x with
  | .obj r => match s1.h[r]?, s1.fld r i with
    | some (.ins c _), some (.val u) => if c ∈ cs then SRes.of (f s1) fun y s2 => SRes.of (m u y s2) fun z s3 => match s3.h[r]? with
      | some (.ins c' fs) => if c' = c ∧ fs.length < 1000 then .nx (s3.setF r i (.val z)) else .bad
      | _ => .bad else .bad
    | _, _ => .bad
  | _ => .bad := id rfl
@[simp] theorem eMeth_s (n : Nat) (ms : List (Nat × Fn)) {k : E (List FV)} : eMeth n ms f k st = (f st).bind fun d s1 => match d with
  | .obj r => match s1.h[r]? with
    | some (.ins c _) => match ms.lookup c with
      | some F => (k s1).bind fun fs s2 => if fs.length + 1 = n then outD s2 (F (.val (.obj r) :: fs) s2.h) else .bad
      | none => .bad
    | _ => .bad
  | _ => .bad := id rfl
@[simp] theorem outN_n (r : Nat) : outN r st (.ret (.val .non) h) = .ok (.obj r) { st with h := h } := id rfl
@[simp] theorem outN_x (r : Nat) {z : XV} : outN r st (.exc z h) = .exc z { st with h := h } := id rfl
@[simp] theorem eMake_s (n c : Nat) (F : Fn) {k : E (List FV)} : eMake n c F k st = (k st).bind fun fs s1 => if fs.length + 1 = n then outN s1.h.length s1 (F (.val (.obj s1.h.length) :: fs) (s1.h ++ [.ins c []])) else .bad := id rfl
@[simp] theorem sRaise_s (c : Nat) : sRaise c st = .exc ⟨c, none⟩ st := id rfl
end
end PL

/-! PyLite, part t: exceptions caught and kept. -/
namespace PLR
open PySem PySem.Spec PyProof.Rows L2
section
variable {X : Cx} {pins : List (Addr × Obj)} {σ : L2.St} {H : Hp} {s : Shared}
end
section
variable {X : Cx} {x n : Str} {c : Value} {i : Nat} {body suite : List Stmt} {b₀ : Stmt} {np pos pos' : Pos} {tb : WX → TS} {ts : Addr → Value → Option Addr → TS} {Wout : WX}
end
end PLR
namespace PLR
open PySem PySem.Spec PyProof.Rows L2
end PLR
namespace PL
open PySem PySem.Spec PyProof.Rows L2
section
variable {Γ : Tab} {W : WX} {Z : Hp} {Lt : Lend} {g g' : GM} {st st' : LS} {σ σ' : L2.St} {H H' : Hp} {h h' : List LO} {a p : Addr} {o : HO} {d : D} {v : V} {X : Cx} {e e1 e2 e3 : Expr} {es : List Expr} {f k l : E D} {pos pos2 ppos apos pos3 pos4 : Pos} {stm : Stmt} {sts body : List Stmt} {f1 f2 : S} {D0 : Ends}

/-! ### isinstance of what was caught -/
structure IsE (Γ : Tab) (cv : Value) (sub : Nat → Option Bool) : Prop where
  is : ∀ k b C, sub k = some b → Γ.cls k = some C → ExcC Γ.K C ∧ PySem.W.kitOne Γ.K (.ref C) cv = some b
theorem CV.err {c : Nat} (x : CV Γ g H (.err c) v) (s : SR Γ Z Lt g st σ H) : ∃ a C, v = .ref a ∧ Γ.cls c = some C ∧ Rd H a (erO a C) := by
  rcases x with x | ⟨a, o, _, _, c | ⟨_, _, _, c⟩⟩
  · simp only [RD] at x
    obtain ⟨a, C, e, h1, h2⟩ := x
    exact ⟨a, C, e, h1, GLe.sub s.sh.gh _ _ rfl h2⟩
  · cases o <;> exact c.elim
  · rename_i u _; cases u <;> exact c.elim
/-! ### try: .. except K as n: m = n -/
/-- which classes the clause's class takes -/
structure Tk (Γ : Tab) (c : Value) (sub : Nat → Option Bool) : Prop where
  tk : ∀ k b C, sub k = some b → Γ.cls k = some C → PySem.W.exmOne Γ.K (.ref C) c = some b
/-! ### try: .. except K: suite -/
@[simp] theorem deq_bl (a b : Bool) : deq (.bl a) (.bl b) = (a == b) := by simp [deq]
@[simp] theorem isNon_e (c : Nat) : (D.err c).isNon = false := id rfl
end
end PL

/-! PyLite, part u: isinstance of own classes; int, sum, sorted, min, max, divmod; division by what may be below 0; range of three. -/
namespace PL
open PySem PySem.Spec PyProof.Rows L2
section
variable {Γ : Tab} {W : WX} {Z : Hp} {Lt : Lend} {g g' : GM} {st st' : LS} {σ σ' : L2.St} {H H' : Hp} {h h' : List LO} {a p : Addr} {o : HO} {d : D} {v : V} {X : Cx} {e e1 e2 e3 : Expr} {es : List Expr} {f k l : E D} {pos pos2 ppos apos : Pos} {stm : Stmt} {sts : List Stmt} {f1 f2 : S} {D0 : Ends}

/-! ### isinstance of an instance by its own class -/
structure IsO (Γ : Tab) (C : Addr) (c : Nat) : Prop where
  cl : Γ.cls c = some C
  ic : C8.InsC Γ.K C
/-! ### int(x) -/
/-! ### lists of ints -/
noncomputable def intsD : List D → Option (List Int)
  | [] => some []
  | .int i :: ds => (intsD ds).map (i :: ·)
  | _ => none
@[simp] theorem intsD_map : ∀ ns : List Int, intsD (ns.map D.int) = some ns
  | [] => rfl
  | n :: ns => by simp [intsD, intsD_map ns]
@[simp] theorem intsD_nil : intsD [] = some [] := id rfl
@[simp] theorem intsD_cons (i : Int) (ds : List D) : intsD (.int i :: ds) = (intsD ds).map (i :: ·) := id rfl
theorem intsD_eq : ∀ {ds : List D} {ns : List Int}, intsD ds = some ns → ds = ns.map D.int
  | [], ns, h => by simp [intsD] at h; subst h; rfl
  | .int i :: ds, ns, h => by
    simp only [intsD, Option.map_eq_some_iff] at h
    obtain ⟨m, h1, rfl⟩ := h
    rw [intsD_eq h1]; rfl
  | .non :: _, _, h => nomatch h
  | .bl _ :: _, _, h => nomatch h
  | .str _ :: _, _, h => nomatch h
  | .tup _ :: _, _, h => nomatch h
  | .lst _ :: _, _, h => nomatch h
  | .dic _ :: _, _, h => nomatch h
  | .obj _ :: _, _, h => nomatch h
  | .err _ :: _, _, h => nomatch h
theorem RDs.ints : ∀ {ns : List Int} {vs : List V}, RDs Γ g (ns.map D.int) vs → vs = ns.map V.int
  | [], vs, r => by simp only [List.map_nil, RDs] at r; exact r
  | n :: ns, vs, r => by
    simp only [List.map_cons, RDs] at r
    obtain ⟨w, q, rfl, r1, r2⟩ := r
    simp only [RD] at r1
    rw [r1, RDs.ints r2]; rfl
theorem RDs.ofInts : ∀ (ns : List Int), RDs Γ g (ns.map D.int) (ns.map V.int)
  | [] => by simp [RDs]
  | n :: ns => RDs.cons .int (RDs.ofInts ns)
theorem CV.ints {ns : List Int} (c : CV Γ g H (.lst (ns.map D.int)) v) (s : SR Γ Z Lt g st σ H) : ∃ a, v = .ref a ∧ SqL Γ.K H a (ns.map V.int) := by
  obtain ⟨a, vs, rfl, q, r⟩ := c.lst s
  rw [r.ints] at q
  exact ⟨a, rfl, q⟩
noncomputable def mSum : Sem1 := fun x st => match x with
  | .lst ds => match intsD ds with
    | some ns => .ok (.int ns.sum) st
    | none => .bad
  | _ => .bad
theorem pd_sum (hK : X.K = Γ.K) (hc : X.calm = true) (hg : Gl X "sum") (hn : X.mg "sum" = none) (y : PC Γ W X e f)
    (he : starEach [e] X.env = (false, eval e X.env) :: starEach [] X.env := by rfl) (hpl : (backTo pos (starEach [] X.env)).any (·.1) = false := by rfl) : PD Γ W X (.Call (.Name "sum" ppos) [e] [] pos) (eUn mSum f) := by
  refine pd_b1 (cr_sum hc) ?_ hg hn (by decide +kernel) y (by decide) (by decide) he hpl
  intro Z Lt g st σ H x v Q s rx h
  unfold mSum at h
  split at h
  · split at h
    · rename_i ds ns e
      rw [intsD_eq e] at rx
      obtain ⟨a, rfl, q⟩ := rx.ints s
      exact ⟨a, ns, rfl, by rw [hK]; exact q, ret_int s h⟩
    · exact h.elim
  · exact h.elim
@[simp] theorem mSum_s (ds : List D) : mSum (.lst ds) st = match intsD ds with
    | some ns => .ok (.int ns.sum) st
    | none => .bad := id rfl
/-- the ints by size -/
noncomputable def srt (ns : List Int) : List Int := ns.mergeSort fun a b => decide (a ≤ b)
theorem srt_perm (ns : List Int) : (srt ns).Perm ns := List.mergeSort_perm _ _
theorem srt_sorted (ns : List Int) : (srt ns).Pairwise (· ≤ ·) := by
  have := List.pairwise_mergeSort (le := fun a b : Int => decide (a ≤ b)) (by intro a b c; simp; omega) (by intro a b; simp; omega) ns
  exact this.imp fun {a b} h => of_decide_eq_true h
theorem srt_unique {ns ms : List Int} (p : ms.Perm ns) (q : ms.Pairwise (· ≤ ·)) : ms = srt ns :=
  List.Perm.eq_of_pairwise (fun a b _ _ h1 h2 => Int.le_antisymm h1 h2) q (srt_sorted ns) (p.trans (srt_perm ns).symm)
@[simp] theorem mem_srt {ns : List Int} {x : Int} : x ∈ srt ns ↔ x ∈ ns := (srt_perm ns).mem_iff
@[simp] theorem srt_length (ns : List Int) : (srt ns).length = ns.length := (srt_perm ns).length_eq
/-! ### divmod, // and % by what may be below 0 -/
noncomputable def CDivQ (_ j : Int) : Prop := j ≠ 0 ∧ j.natAbs.log2 < 9000
instance : ∀ i j, Decidable (CDivQ i j) := fun i j => by unfold CDivQ; infer_instance
end
end PL

/-! PyLite, part v: a field's own list or dict: lent for a while, changed in place. -/
namespace PL
open PySem PySem.Spec PyProof.Rows L2
section
variable {Γ : Tab} {W : WX} {Z Z' : Hp} {Lt Lt' : Lend} {g g' : GM} {st st' : LS} {σ σ' : L2.St} {H H' : Hp} {h h' : List LO} {a p : Addr} {o : HO} {d : D} {v : V} {X : Cx} {e e1 e2 e3 : Expr} {es : List Expr} {f k l : E D} {pos pos2 ppos apos tpos : Pos} {stm : Stmt} {sts : List Stmt} {f1 f2 : S} {D0 : Ends}

noncomputable abbrev ltP (Lt : Lend) (p : Path) (a : Addr) : Lend := fun q => if q = p then some a else Lt q
theorem ltP_ne {p q : Path} (h : q ≠ p) : ltP Lt p a q = Lt q := if_neg h
theorem ltP_same {p : Path} : ltP Lt p a p = some a := if_pos rfl
/-- one field's word may be told otherwise, all else goes over -/
theorem FR.spec {r i : Nat} {C : Addr} {x0 x : FV} (nd : Γ.nm.Nodup) (m : ∀ (j : Nat) (y : FV) (v : V), j ≠ i → FVR Γ Z Lt g H (.fld r j) y v → FVR Γ Z' Lt' g H' (.fld r j) y v) :
    ∀ {fs : List (Nat × FV)} {ws : List (Str × V)}, FR Γ Z Lt g H r C fs ws → fs.lookup i = some x0 → (∀ n v, Γ.nm[i]? = some n → ws.lookup n = some v → FVR Γ Z Lt g H (.fld r i) x0 v → FVR Γ Z' Lt' g H' (.fld r i) x v) → FR Γ Z' Lt' g H' r C (putN i x fs) ws
  | [], _, _, e, _ => by simp at e
  | (j, y) :: fs, _, F, e, hx => by
    obtain ⟨n, v, q, rfl, h1, h2, h3, h5, h4⟩ := F
    unfold putN
    by_cases hf : j = i
    · subst hf
      rw [if_pos rfl]
      rw [List.lookup_cons, beq_self_eq_true] at e
      cases e
      refine ⟨n, v, q, rfl, h1, h2, hx n v h1 (by rw [List.lookup_cons, beq_self_eq_true]) h3, h5, ?_⟩
      have : ∀ {fs : List (Nat × FV)} {q : List (Str × V)}, (∀ z ∈ fs, z.1 ≠ j) → FR Γ Z Lt g H r C fs q → FR Γ Z' Lt' g H' r C fs q := by
        intro fs
        induction fs with
        | nil => intro q _ F; exact F
        | cons z fs ih =>
          intro q hz F
          obtain ⟨n, v, q, e, h1, h2, h3, h5, h4⟩ := F
          exact ⟨n, v, q, e, h1, h2, m _ _ _ (hz z List.mem_cons_self) h3, h5, ih (fun w m => hz w (List.mem_cons_of_mem _ m)) h4⟩
      exact this h5 h4
    · rw [if_neg hf]
      rw [List.lookup_cons, beq_false_of_ne (Ne.symm hf)] at e
      refine ⟨n, v, q, rfl, h1, h2, m _ _ _ hf h3, fun z mz => ?_, FR.spec nd m h4 e fun n' v' hn' l' fv => hx n' v' hn' (by rw [List.lookup_cons, beq_false_of_ne (nm_ne nd hn' h1 (Ne.symm hf))]; exact l') fv⟩
      rcases putN_keys mz with e | mz
      · rw [e]; exact Ne.symm hf
      · exact h5 z mz
theorem FR.maps {r : Nat} {C : Addr} (m : ∀ (j : Nat) (y : FV) (v : V), FVR Γ Z Lt g H (.fld r j) y v → FVR Γ Z' Lt' g H' (.fld r j) y v) : ∀ {fs : List (Nat × FV)} {ws : List (Str × V)}, FR Γ Z Lt g H r C fs ws → FR Γ Z' Lt' g H' r C fs ws
  | [], _, f => f
  | y :: fs, _, f => by
    obtain ⟨n, v, q, e, h1, h2, h3, h4, h5⟩ := f
    exact ⟨n, v, q, e, h1, h2, m _ _ _ h3, h4, FR.maps m h5⟩
theorem SH.spec {r i c : Nat} {fs : List (Nat × FV)} {x0 x : FV} (s : SH Γ Z Lt g h H) (hr : g.M[r]? = some a) (el : h[r]? = some (.ins c fs)) (ef : fs.lookup i = some x0)
    (m : ∀ (q : Path) (y : FV) (v : V), q ≠ .fld r i → FVR Γ Z Lt g H q y v → FVR Γ Z' Lt' g H' q y v) (hx : ∀ C dx ws n v, H a = some (.ins C dx ws) → Γ.nm[i]? = some n → ws.lookup n = some v → FVR Γ Z Lt g H (.fld r i) x0 v → FVR Γ Z' Lt' g H' (.fld r i) x v)
    (hM : ∀ b o, b ∈ g.M → H b = some o → H' b = some o) (gh : ∀ b o, g.G b = some o → H' b = some o) (zh : ∀ b o, Z' b = some o → H' b = some o) (gz : ∀ b o, Z' b = some o → g.G b = none)
    (mz : ∀ b, b ∈ g.M → ∀ o, Z' b = some o → Lt' (.lck b) = some b) (ml : ∀ b r u, Lt (.lck r) = some b → Z b = some u → Lt' (.lck r) = some b ∧ Z' b = some u) (lz : LzOk Lt' Z') : SH Γ Z' Lt' g (h.set r (.ins c (putN i x fs))) H' := by
  refine ⟨gh, zh, gz, by rw [List.length_set]; exact s.ml, s.mn, fun b mb => ⟨(s.mf b mb).1, mz b mb, (s.mf b mb).2.2⟩, fun j lo b e1 e2 => ?_, s.nd, lz⟩
  by_cases hj : j = r
  · subst hj
    rw [List.getElem?_set_self (List.getElem?_eq_some_iff.mp el).1] at e1
    cases e1
    rw [hr] at e2; cases e2
    obtain ⟨C, dx, ws, q1, q2, q3, q4⟩ := s.ob j _ a el hr
    exact ⟨C, dx, ws, q1, q2, hM _ _ (List.mem_of_getElem? hr) q3, FR.spec s.nd (fun i' y v hne => m _ y v (by simpa using hne)) q4 ef fun n v hn hl => hx C dx ws n v q3 hn hl⟩
  · rw [List.getElem?_set_ne (Ne.symm hj)] at e1
    have mb := List.mem_of_getElem? e2
    have := s.ob j lo b e1 e2
    cases lo with
    | ins c' fs' =>
      obtain ⟨C, dx, ws, q1, q2, q3, q4⟩ := this
      exact ⟨C, dx, ws, q1, q2, hM _ _ mb q3, FR.maps (fun i' y v => m _ y v (by simp [hj])) q4⟩
    | cell d =>
      obtain ⟨u, q1, q2⟩ := this
      exact ⟨u, hM _ _ mb q1, q2⟩
    | lck d =>
      obtain ⟨l, ob, u, q1, q2, q3⟩ := this
      obtain ⟨l', z'⟩ := ml _ _ _ l q2
      exact ⟨l', ob, u, hM _ _ mb q1, z', q3⟩
theorem fld_ins {r i : Nat} {x : FV} (e : st.fld r i = some x) : ∃ c fs, st.h[r]? = some (.ins c fs) ∧ fs.lookup i = some x ∧ ∀ y, st.setF r i y = { st with h := st.h.set r (.ins c (putN i y fs)) } := by
  unfold LS.fld at e
  split at e
  · rename_i c fs e1
    exact ⟨c, fs, e1, e, fun y => by unfold LS.setF; rw [e1]⟩
  · cases e
theorem SR.lendF {r i : Nat} (s : SR Γ Z Lt g st σ H) (hr : g.M[r]? = some p) (e : st.fld r i = some (.own d)) :
    ∃ a o, SR Γ (upd Z a o) (ltP Lt (.fld r i) a) g (st.setF r i (.lent d)) σ H ∧ Z a = none ∧ g.O a = some (.fld r i) ∧ lk o = false := by
  obtain ⟨C, dx, ws, n, v, p1, p2, p3, p4, p5, a, rfl, h1, h2, h3, h4, o, h5, h6⟩ := s.fld hr e
  have hl : lk o = false := by
    cases o <;> first | rfl | (cases d <;> exact h6.elim)
  obtain ⟨c, fs, e1, e2, e3⟩ := fld_ins e
  have ne : ∀ {b : Addr} {q : Path}, g.O b = some q → q ≠ .fld r i → b ≠ a := fun {b q} z hq w => by subst w; rw [h3] at z; cases z; exact hq rfl
  have fv : ∀ (q : Path) (x : FV) (v : V), q ≠ .fld r i → FVR Γ Z Lt g H q x v → FVR Γ (upd Z a o) (ltP Lt (.fld r i) a) g H q x v := by
    intro q x v hq f
    cases x with
    | val d => exact f
    | own d =>
      obtain ⟨b, eb, k1, k2, k3, k4⟩ := f
      exact ⟨b, eb, k1, by rw [upd_ne (ne k3 hq)]; exact k2, k3, k4⟩
    | lent d =>
      obtain ⟨b, u, eb, k1, k2, k3⟩ := f
      exact ⟨b, u, eb, by rw [ltP_ne hq]; exact k1, by rw [upd_ne (ne_of_none k2 h2)]; exact k2, k3⟩
  refine ⟨a, o, ?_, h2, h3, hl⟩
  rw [e3]
  refine ⟨s.sh.spec hr e1 e2 fv (fun C' dx' ws' n' w g1 g2 g3 f => ?_) (fun b u _ z => z) s.sh.gh (fun b u z => ?_) (fun b u z => ?_) (fun b m => ?_) (fun b r u l z => ⟨by rw [ltP_ne (by simp)]; exact l, by rw [upd_ne (ne_of_none z h2)]; exact z⟩) (fun q b z => ?_), s.sl, fun j x ej => ?_⟩
  · rw [p1] at g1; cases g1
    rw [p3] at g2; cases g2
    rw [p5] at g3; cases g3
    exact ⟨a, o, rfl, ltP_same, upd_same, .inl h6⟩
  · by_cases c : b = a
    · subst c; rw [upd_same] at z; cases z; exact h5
    · rw [upd_ne c] at z; exact s.sh.zh b u z
  · by_cases c : b = a
    · subst c; exact h1
    · rw [upd_ne c] at z; exact s.sh.gz b u z
  · have nb : b ≠ a := fun z => h4 (by rw [← z]; exact m)
    intro u z
    rw [upd_ne nb] at z
    rw [ltP_ne (by simp)]; exact (s.sh.mf b m).2.1 u z
  · by_cases c : q = .fld r i
    · subst c; rw [ltP_same] at z; cases z; exact ⟨o, upd_same, trivial⟩
    · rw [ltP_ne c] at z
      obtain ⟨u, z', kq⟩ := s.sh.lz q b z
      exact ⟨u, by rw [upd_ne (ne_of_none z' h2)]; exact z', kq⟩
  · obtain ⟨w, e4, f⟩ := s.sv j x ej
    exact ⟨w, e4, fv _ _ _ (by simp) f⟩
theorem fv_unl {r i : Nat} (n : Z p = none) (lz : LzOk Lt Z) : ∀ (q : Path) (x : FV) (v : V), q ≠ .fld r i → FVR Γ (upd Z p o) (ltP Lt (.fld r i) p) g H q x v → FVR Γ Z Lt g H q x v := by
  intro q x v hq f
  cases x with
  | val d => exact f
  | own d =>
    obtain ⟨a, e, h1, h2, h3, h4⟩ := f
    have ne : a ≠ p := fun z => by subst z; rw [upd_same] at h2; cases h2
    exact ⟨a, e, h1, by rw [upd_ne ne] at h2; exact h2, h3, h4⟩
  | lent d =>
    obtain ⟨a, u, e, h1, h2, h3⟩ := f
    rw [ltP_ne hq] at h1
    obtain ⟨u', z, kq⟩ := lz q a h1
    have ne : a ≠ p := fun z' => by subst z'; rw [n] at z; cases z
    exact ⟨a, u, e, h1, by rw [upd_ne ne] at h2; exact h2, h3⟩
theorem SH.unlF {r i c : Nat} {fs : List (Nat × FV)} {lb : Addr} (s : SH Γ (upd Z p o) (ltP Lt (.fld r i) p) g h H) (hr : g.M[r]? = some lb) (e1 : h[r]? = some (.ins c fs)) (e2 : fs.lookup i = some (.lent d)) (n : Z p = none) (hl : lk o = false) (ho : g.O p = some (.fld r i)) (lz : LzOk Lt Z) : SH Γ Z Lt g (h.set r (.ins c (putN i (.own d) fs))) H := by
  obtain ⟨C, dx, ws, q1, q2, p1, q4⟩ := s.ob r _ lb e1 hr
  obtain ⟨nn, v, p3, p4, p5, a, u, rfl, h1, h2, h3⟩ := FR.get s.nd q4 e2
  rw [ltP_same] at h1; cases h1
  rw [upd_same] at h2; cases h2
  have fv := fv_unl (Γ := Γ) (r := r) (i := i) (o := o) (g := g) (H := H) n lz
  have zz : ∀ {a u}, Z a = some u → upd Z p o a = some u := fun {a u} z => by rw [upd_ne (ne_of_none z n)]; exact z
  have nM : p ∉ g.M := fun m => by
    have l := (s.mf p m).2.1 _ upd_same
    rw [ltP_ne (by simp)] at l
    exact unm n lz l rfl
  have mz : ∀ b, b ∈ g.M → ∀ o, Z b = some o → Lt (.lck b) = some b := fun b m u z => by
    have l := (s.mf b m).2.1 u (zz z)
    rw [ltP_ne (by simp)] at l; exact l
  refine s.spec hr e1 e2 fv (fun C' dx' ws' n' w g1 g2 g3 f => ?_) (fun b u _ z => z) s.gh (fun b u z => s.zh b u (zz z)) (fun b u z => s.gz b u (zz z)) mz (fun b r u l z => by rw [ltP_ne (by simp)] at l; exact ⟨l, by rw [upd_ne (unm n lz l)] at z; exact z⟩) lz
  rw [p1] at g1; cases g1
  rw [p3] at g2; cases g2
  rw [p5] at g3; cases g3
  exact ⟨p, rfl, s.gz p o upd_same, n, ho, nM, o, s.zh p o upd_same, h3.nolk hl⟩
theorem SR.unlF {r i : Nat} {lb : Addr} (s : SR Γ (upd Z p o) (ltP Lt (.fld r i) p) g st σ H) (hr : g.M[r]? = some lb) (e : st.fld r i = some (.lent d)) (n : Z p = none) (hl : lk o = false) (ho : g.O p = some (.fld r i)) (lz : LzOk Lt Z) : SR Γ Z Lt g (st.setF r i (.own d)) σ H := by
  obtain ⟨c, fs, e1, e2, e3⟩ := fld_ins e
  rw [e3]
  refine ⟨s.sh.unlF hr e1 e2 n hl ho lz, s.sl, fun j x ej => ?_⟩
  obtain ⟨w, e4, f⟩ := s.sv j x ej
  exact ⟨w, e4, fv_unl n lz _ _ _ (by simp) f⟩
noncomputable def Res.unF {α : Type} (r i : Nat) : Res α → Res α
  | .ok a st => match st.fld r i with
    | some (.lent d) => .ok a (st.setF r i (.own d))
    | _ => .bad
  | .exc x st => match st.fld r i with
    | some (.lent d) => .exc x (st.setF r i (.own d))
    | _ => .bad
  | .bad => .bad
noncomputable def SRes.unF (r i : Nat) : SRes → SRes
  | .nx st => match st.fld r i with
    | some (.lent d) => .nx (st.setF r i (.own d))
    | _ => .bad
  | .ret x st => match st.fld r i with
    | some (.lent d) => .ret x (st.setF r i (.own d))
    | _ => .bad
  | .bk st => match st.fld r i with
    | some (.lent d) => .bk (st.setF r i (.own d))
    | _ => .bad
  | .ct st => match st.fld r i with
    | some (.lent d) => .ct (st.setF r i (.own d))
    | _ => .bad
  | .exc x st => match st.fld r i with
    | some (.lent d) => .exc x (st.setF r i (.own d))
    | _ => .bad
  | .bad => .bad
noncomputable def eLendF {α : Type} (j i : Nat) (f : E α) : E α := fun st => match st.objAt j with
  | some r => match st.fld r i with
    | some (.own d) => (f (st.setF r i (.lent d))).unF r i
    | _ => f st
  | none => .bad
noncomputable def sLendF (j i : Nat) (f : S) : S := fun st => match st.objAt j with
  | some r => match st.fld r i with
    | some (.own d) => (f (st.setF r i (.lent d))).unF r i
    | _ => f st
  | none => .bad
theorem SR.objM {j r : Nat} (s : SR Γ Z Lt g st σ H) (e : st.objAt j = some r) : ∃ b, g.M[r]? = some b := by
  obtain ⟨w, ew, rw'⟩ := s.sv j _ (objAt_eq e)
  obtain ⟨a, _, hr⟩ := RD.obj (show RD Γ g (.obj r) w from rw')
  exact ⟨a, hr⟩
theorem GT.mAt {r : Nat} {b : Addr} (t : GT Z g g') (hr : g.M[r]? = some b) : g'.M[r]? = some b := by
  obtain ⟨u, et⟩ := t.mp
  rw [et, List.getElem?_append_left (List.getElem?_eq_some_iff.mp hr).1]
  exact hr
theorem lend_goF {α : Type} {j i : Nat} {f : E α} {k : α → GM → LS → Hp → Prop} (s : SR Γ Z Lt g st σ H) (h : Go Γ W Z Lt σ (eLendF j i f st) g k) :
    ∃ Z' Lt' st', SR Γ Z' Lt' g st' σ H ∧ (∀ a o, Z a = some o → Z' a = some o) ∧ Go Γ W Z' Lt' σ (f st') g fun a g1 st1 H1 => ∀ g2 H2, SR Γ Z' Lt' g2 st1 σ H2 → GT Z' g1 g2 → ∃ st2, SR Γ Z Lt g2 st2 σ H2 ∧ (∀ b, Z b ≠ none → Z' b ≠ none) ∧ k a g2 st2 H2 := by
  unfold eLendF at h
  split at h
  · rename_i r ej
    obtain ⟨b, hr⟩ := s.objM ej
    split at h
    · rename_i d e
      obtain ⟨a, o, s', n, ho, hl⟩ := s.lendF hr e
      refine ⟨_, _, _, s', fun b u z => by rw [upd_ne (ne_of_none z n)]; exact z, ?_⟩
      revert h
      cases f (st.setF r i (.lent d)) with
      | ok x st1 =>
        intro h
        simp only [Res.unF] at h
        split at h
        · rename_i d1 e1
          intro g1 H1 s1 t1 g2 H2 s2 t2
          obtain ⟨t, o2⟩ := (t1.trans t2).unl n ho
          have s3 := s2.unlF (t.mAt hr) e1 n hl o2 s.sh.lz
          exact ⟨_, s3, fun b hb => by
            by_cases c : b = a
            · subst c; rw [upd_same]; simp
            · rw [upd_ne c]; exact hb, h g2 H2 s3 t⟩
        · exact h.elim
      | exc x st1 =>
        intro h
        simp only [Res.unF] at h
        split at h
        · rename_i d1 e1
          intro cls dd g1 H1 s1 t1 xr
          obtain ⟨t, o2⟩ := t1.unl n ho
          exact h cls dd g1 H1 (s1.unlF (t.mAt hr) e1 n hl o2 s.sh.lz) t xr
        · exact h.elim
      | bad => exact fun h => h
    · refine ⟨Z, Lt, st, s, fun _ _ z => z, ?_⟩
      exact h.imp fun a g1 st1 H1 s1 t1 k1 g2 H2 s2 t2 => ⟨st1, s2, fun b hb => hb, k1 g2 H2 s2 t2⟩
  · exact h.elim
theorem pd_lendF (j i : Nat) (x : PD Γ W X e f) : PD Γ W X e (eLendF j i f) := ⟨x.pe.csq fun σ H Q ⟨Z, Lt, g, st, s, h⟩ => by
  obtain ⟨Z', Lt', st', s', zz, h'⟩ := lend_goF s h
  refine ⟨Z', Lt', g, st', s', h'.imp fun d g1 st1 H1 s1 t1 k1 v r => ?_⟩
  obtain ⟨st2, s2, _, q⟩ := k1 g1 H1 s1 (GT.refl _ _) g1 H1 s1 (GT.refl _ _)
  exact q v r⟩
theorem pb_lendF (j i : Nat) {b : E Bool} (x : PB Γ W X e b) : PB Γ W X e (eLendF j i b) := ⟨x.pt.csq fun σ H Q ⟨Z, Lt, g, st, s, h⟩ => by
  obtain ⟨Z', Lt', st', s', zz, h'⟩ := lend_goF s h
  refine ⟨Z', Lt', g, st', s', h'.imp fun d g1 st1 H1 s1 t1 k1 => ?_⟩
  obtain ⟨st2, s2, _, q⟩ := k1 g1 H1 s1 (GT.refl _ _) g1 H1 s1 (GT.refl _ _)
  exact q⟩
theorem pf_lendF (j i : Nat) (x : PF Γ W X e f) : PF Γ W X e (eLendF j i f) := ⟨x.pe.csq fun σ H Q ⟨Z, Lt, g, st, s, h⟩ => by
  obtain ⟨Z', Lt', st', s', zz, h'⟩ := lend_goF s h
  refine ⟨Z', Lt', g, st', s', h'.imp fun d g1 st1 H1 s1 t1 k1 a r => ?_⟩
  obtain ⟨st2, s2, nz, q⟩ := k1 g1 H1 s1 (GT.refl _ _) g1 H1 s1 (GT.refl _ _)
  obtain ⟨r1, r2, r3⟩ := r
  refine q a ⟨r1, ?_, r3⟩
  cases e : Z a with
  | none => rfl
  | some u => exact absurd r2 (nz a (by rw [e]; simp))⟩
theorem st_lendF (j i : Nat) (x : PSt Γ W X stm f1) : PSt Γ W X stm (sLendF j i f1) := ⟨x.ps.csq fun D σ H ⟨Z, Lt, g, st, s, h⟩ => by
  unfold sLendF at h
  split at h
  · rename_i r ej
    obtain ⟨b, hr⟩ := s.objM ej
    split at h
    · rename_i d e
      obtain ⟨a, o, s', n, ho, hl⟩ := s.lendF hr e
      refine ⟨_, _, g, _, s', ?_⟩
      revert h
      cases f1 (st.setF r i (.lent d)) with
      | nx st1 =>
        intro h
        simp only [SRes.unF] at h
        split at h
        · rename_i d1 e1
          intro σ' g1 H1 s1 t1
          obtain ⟨t, o2⟩ := t1.unl n ho
          exact h σ' g1 H1 (s1.unlF (t.mAt hr) e1 n hl o2 s.sh.lz) t
        · exact h.elim
      | bk st1 =>
        intro h
        simp only [SRes.unF] at h
        split at h
        · rename_i d1 e1
          intro σ' g1 H1 s1 t1
          obtain ⟨t, o2⟩ := t1.unl n ho
          exact h σ' g1 H1 (s1.unlF (t.mAt hr) e1 n hl o2 s.sh.lz) t
        · exact h.elim
      | ct st1 =>
        intro h
        simp only [SRes.unF] at h
        split at h
        · rename_i d1 e1
          intro σ' g1 H1 s1 t1
          obtain ⟨t, o2⟩ := t1.unl n ho
          exact h σ' g1 H1 (s1.unlF (t.mAt hr) e1 n hl o2 s.sh.lz) t
        · exact h.elim
      | exc x st1 =>
        intro h
        simp only [SRes.unF] at h
        split at h
        · rename_i d1 e1
          intro cls dd σ' g1 H1 s1 t1 xr
          obtain ⟨t, o2⟩ := t1.unl n ho
          exact h cls dd σ' g1 H1 (s1.unlF (t.mAt hr) e1 n hl o2 s.sh.lz) t xr
        · exact h.elim
      | ret x st1 =>
        intro h
        simp only [SRes.unF] at h
        split at h
        · rename_i d1 e1
          intro v g1 H1 s1 t1 r
          obtain ⟨t, o2⟩ := t1.unl n ho
          obtain ⟨c, fs, k1, k2, k3⟩ := fld_ins e1
          refine h v g1 H1 (by rw [k3]; exact s1.unlF (t.mAt hr) k1 k2 n hl o2 s.sh.lz) t ?_
          cases x with
          | val d => exact r
          | own d =>
            obtain ⟨b, eb, h1, h2, h3⟩ := r
            refine ⟨b, eb, h1, ?_, h3⟩
            cases ez : Z b with
            | none => rfl
            | some u =>
              have ne : b ≠ a := ne_of_none ez n
              rw [upd_ne ne, ez] at h2; cases h2
          | lent d => obtain ⟨b, u, eb, h1, h2⟩ := r; cases h1
        · exact h.elim
      | bad => exact fun h => h
    · exact ⟨Z, Lt, g, st, s, h⟩
  · exact h.elim⟩

/-! ### .. changed in place -/
theorem SR.ownF {r i : Nat} (s : SR Γ Z Lt g st σ H) (hr : g.M[r]? = some p) (e : st.fld r i = some (.own d)) :
    ∃ a o C dx ws n, H p = some (.ins C dx ws) ∧ Cls Γ.K C ∧ Γ.nm[i]? = some n ∧ NoAttr Γ.K C n ∧ ws.lookup n = some (.ref a) ∧ H a = some o ∧ CR Γ g d o ∧ ∀ d' o', CR Γ g d' o' → SR Γ Z Lt g (st.setF r i (.own d')) σ (upd H a o') := by
  obtain ⟨C, dx, ws, n, v, p1, p2, p3, p4, p5, a, rfl, h1, h2, h3, h4, o, h5, h6⟩ := s.fld hr e
  refine ⟨a, o, C, dx, ws, n, p1, p2, p3, p4, p5, h5, h6, fun d' o' c' => ?_⟩
  obtain ⟨c, fs, e1, e2, e3⟩ := fld_ins e
  have kp : Kp Z g g H (upd H a o') fun q => q ≠ .fld r i := ⟨GT.refl _ _, fun b q u hq k1 k2 k3 k4 k5 => by
    have ne : b ≠ a := fun z => by subst z; rw [h3] at k3; cases k3; exact hq rfl
    exact ⟨k1, k3, k4, by rw [upd_ne ne]; exact k5⟩⟩
  rw [e3]
  refine ⟨s.sh.spec hr e1 e2 (fun q y v hq f => f.keep kp hq) (fun C' dx' ws' n' w g1 g2 g3 f => ?_) (fun b u m z => ?_) (fun b u z => ?_) (fun b u z => ?_) s.sh.gz (fun b m => (s.sh.mf b m).2.1) (fun b r u l z => ⟨l, z⟩) s.sh.lz, s.sl, fun j x ej => ?_⟩
  · rw [p1] at g1; cases g1
    rw [p3] at g2; cases g2
    rw [p5] at g3; cases g3
    exact ⟨a, rfl, h1, h2, h3, h4, o', upd_same, c'⟩
  · have ne : b ≠ a := fun z => h4 (by rw [← z]; exact m)
    rw [upd_ne ne]; exact z
  · rw [upd_ne (ne_of_none z h1)]; exact s.sh.gh b u z
  · rw [upd_ne (ne_of_none z h2)]; exact s.sh.zh b u z
  · obtain ⟨w, e4, f⟩ := s.sv j x ej
    exact ⟨w, e4, f.keep kp (by simp)⟩
/-- the field's address stays while it is lent -/
theorem SR.lentA {r i : Nat} (s : SR Γ Z Lt g st σ H) (hr : g.M[r]? = some p) (e : st.fld r i = some (.lent d)) : ∃ a o, Lt (.fld r i) = some a ∧ Z a = some o ∧ CRz Γ g d o ∧ ∃ C dx ws n, H p = some (.ins C dx ws) ∧ Cls Γ.K C ∧ Γ.nm[i]? = some n ∧ NoAttr Γ.K C n ∧ ws.lookup n = some (.ref a) := by
  obtain ⟨C, dx, ws, n, v, p1, p2, p3, p4, p5, a, o, rfl, h1, h2, h3⟩ := s.fld hr e
  exact ⟨a, o, h1, h2, h3, C, dx, ws, n, p1, p2, p3, p4, p5⟩
theorem fld_setF {r i : Nat} {x y : FV} (e : st.fld r i = some x) : (st.setF r i y).fld r i = some y := by
  obtain ⟨c, fs, e1, e2, e3⟩ := fld_ins e
  rw [e3]
  unfold LS.fld
  simp only
  rw [List.getElem?_set_self (List.getElem?_eq_some_iff.mp e1).1]
  simp only
  clear e1 e3
  induction fs with
  | nil => simp at e2
  | cons z fs ih =>
    obtain ⟨z1, z2⟩ := z
    unfold putN
    by_cases q : z1 = i
    · rw [if_pos q, List.lookup_cons, beq_self_eq_true]
    · rw [if_neg q, List.lookup_cons, beq_false_of_ne (Ne.symm q)]
      rw [List.lookup_cons, beq_false_of_ne (Ne.symm q)] at e2
      exact ih e2
/-- the field's object at one address, lent and had back -/
theorem SR.lendA {r i : Nat} (s : SR Γ Z Lt g st σ H) (hr : g.M[r]? = some p) (e : st.fld r i = some (.own d)) :
    ∃ a o C dx ws n, H p = some (.ins C dx ws) ∧ Cls Γ.K C ∧ Γ.nm[i]? = some n ∧ NoAttr Γ.K C n ∧ ws.lookup n = some (.ref a) ∧ H a = some o ∧ CR Γ g d o ∧ Z a = none ∧ g.O a = some (.fld r i) ∧ lk o = false ∧ SR Γ (upd Z a o) (ltP Lt (.fld r i) a) g (st.setF r i (.lent d)) σ H := by
  obtain ⟨a0, o0, C, dx, ws0, n, p1, p2, p3, p4, p5, p6, p7, _⟩ := s.ownF hr e
  obtain ⟨a, o, s', nz, ho, hl⟩ := s.lendF hr e
  obtain ⟨a1, o1, k1, k2, k3, C', dx', ws', n'', l1, l2, l3, l4, l5⟩ := s'.lentA hr (fld_setF (y := .lent d) e)
  rw [ltP_same] at k1; cases k1
  rw [p1] at l1; cases l1
  rw [p3] at l3; cases l3
  rw [p5] at l5; cases l5
  have : o = o0 := by
    have := s'.sh.zh a0 o upd_same
    rw [p6] at this; cases this; rfl
  subst this
  exact ⟨a0, o, C, dx, ws0, n, p1, p2, p3, p4, p5, p6, p7, nz, ho, hl, s'⟩
/-- an expression run while the field is lent -/
theorem GoS.unF {α : Type} {r i : Nat} {o : HO} {r0 : Res α} {kk : α → LS → SRes} (hr : g.M[r]? = some p) (n : Z a = none) (hl : lk o = false) (ho : g.O a = some (.fld r i)) (lz : LzOk Lt Z)
    (h : GoS Γ W Z Lt D0 (SRes.of (r0.unF r i) kk) g) : Go Γ W (upd Z a o) (ltP Lt (.fld r i) a) σ r0 g fun y g1 st1 H1 => ∀ g2 H2, SR Γ (upd Z a o) (ltP Lt (.fld r i) a) g2 st1 σ H2 → GT (upd Z a o) g1 g2 →
      ∃ d, st1.fld r i = some (.lent d) ∧ g2.M[r]? = some p ∧ SR Γ Z Lt g2 (st1.setF r i (.own d)) σ H2 ∧ GoS Γ W Z Lt D0 (kk y (st1.setF r i (.own d))) g2 := by
  revert h
  cases r0 with
  | ok y st1 =>
    intro h
    simp only [Res.unF] at h
    split at h
    · rename_i d1 e1
      intro g1 H1 s1 t1 g2 H2 s2 t2
      obtain ⟨t, o2⟩ := (t1.trans t2).unl n ho
      have s3 := s2.unlF (t.mAt hr) e1 n hl o2 lz
      exact ⟨d1, e1, t.mAt hr, s3, GoS.up h t⟩
    · exact h.elim
  | exc x st1 =>
    intro h
    simp only [Res.unF] at h
    split at h
    · rename_i d1 e1
      intro cls dd g1 H1 s1 t1 xr
      obtain ⟨t, o2⟩ := t1.unl n ho
      exact h cls dd σ g1 H1 (s1.unlF (t.mAt hr) e1 n hl o2 lz) t xr
    · exact h.elim
  | bad => exact fun h => h
/-- x.f.append(e) -/
noncomputable def sAppF (j i : Nat) (f : E D) : S := fun st => match st.objAt j with
  | some r => match st.fld r i with
    | some (.own (.lst ds0)) => SRes.of ((f (st.setF r i (.lent (.lst ds0)))).unF r i) fun y s1 => match s1.fld r i with
      | some (.own (.lst ds)) => if ds.length < 16777216 then .nx (s1.setF r i (.own (.lst (ds ++ [y])))) else .bad
      | _ => .bad
    | _ => .bad
  | none => .bad
theorem st_appF {i j : Nat} {x n : Str} {xpos fpos : Pos} (hn : Γ.nm[i]? = some n) (hK : X.K = Γ.K) (hN : X.N[j]? = some x) (hv : Vis X.env.scope x) (y : PD Γ W X e f) (hd : (x == ("__debug__" : Str)) = false := by decide) (hcd : (x == ("__classdict__" : Str)) = false := by decide)
    (hb0 : attributeBase (.Name x xpos) n X.env (eval (.Name x xpos) X.env) = eval (.Name x xpos) X.env := by rfl)
    (hbase : attributeBase (.Attribute (.Name x xpos) n fpos) "append" X.env (eval (.Attribute (.Name x xpos) n fpos) X.env) = eval (.Attribute (.Name x xpos) n fpos) X.env := by rfl)
    (hfew : ((backTo ppos (starEach [e] X.env)).all (fun x => !x.1) && (backToKw ppos (keywordEach [] X.env)).all (fun x => x.1.isSome)
      && decide ([e].length + ([] : List Keyword).length + (if ([] : List Keyword).isEmpty then 0 else 1) < 30)) = true := by rfl)
    (hline : (apos.endLine == ppos.line) = true := by rfl) (hs : starEach [e] X.env = (false, eval e X.env) :: starEach [] X.env := by rfl) (hplain : (backTo ppos (starEach [] X.env)).any (·.1) = false := by rfl)
    (hsw : swapsWith (.Call (.Attribute (.Attribute (.Name x xpos) n fpos) "append" apos) [e] [] ppos) none pos.line X.env = pure false := by rfl) :
    PSt Γ W X (.Expr (.Call (.Attribute (.Attribute (.Name x xpos) n fpos) "append" apos) [e] [] ppos) pos) (sAppF j i f) := by
  refine ⟨(ps_expr (pe_bm PySem.F.plainAttrs_list PySem.F.slot_list_append PySem.F.type_list_append mt_append (pe_fld (pe_var hN hv hd hcd) hb0) (pa_cons y.pe pa_nil hs) hbase hfew hline hs hplain) hsw).csq fun D σ H ⟨Z, Lt, g, st, s, h⟩ => ?_⟩
  unfold sAppF at h
  cases ej : st.objAt j with
  | none => rw [ej] at h; exact h.elim
  | some r =>
    rw [ej] at h
    simp only at h
    obtain ⟨w, ew, rw'⟩ := s.sv j _ (objAt_eq ej)
    obtain ⟨b, rfl, hr⟩ := RD.obj (show RD Γ g (.obj r) w from rw')
    split at h
    · rename_i ds0 e0
      obtain ⟨a, o, C, dx, ws, n', p1, p2, p3, p4, p5, p6, p7, nz, ho, hl, s'⟩ := s.lendA hr e0
      rw [hn] at p3; cases p3
      obtain ⟨vs, rfl, _⟩ := p7.lst
      refine ⟨_, ew, b, C, dx, ws, .ref a, rfl, p1, by rw [hK]; exact p2, by rw [hK]; exact p4, p5, .inl ⟨rfl, vs, SqL.of p6⟩, _, _, g, _, s', (GoS.unF hr nz hl ho s.sh.lz h).imp fun d g1 st1 H1 s1 t1 k1 v rv => ?_⟩
      obtain ⟨d1, q1, q2, q3, q4⟩ := k1 g1 H1 s1 (GT.refl _ _) g1 H1 s1 (GT.refl _ _)
      obtain ⟨a1, o1, l1, l2, l3, _⟩ := s1.lentA q2 q1
      rw [ltP_same] at l1; cases l1
      have e5 := fld_setF (y := .own d1) q1
      rw [e5] at q4
      cases d1 with
      | lst ds =>
        simp only at q4
        split at q4
        · rename_i hlen
          obtain ⟨a2, o2, C2, dx2, ws2, n2, r1, r2, r3, r4, r5, r6, r7, r8⟩ := q3.ownF q2 e5
          obtain ⟨a3, o3, l1', l2', l3', C3, dx3, ws3, n3, m1, m2, m3, m4, m5⟩ := s1.lentA q2 q1
          rw [ltP_same] at l1'; cases l1'
          rw [r1] at m1; cases m1
          rw [r3] at m3; cases m3
          rw [r5] at m5; cases m5
          obtain ⟨vs2, rfl, rs2⟩ := r7.lst
          refine ⟨a, vs2, v, rfl, rfl, r6, by rw [← rs2.length, sizeLine_eq]; exact hlen, q4 σ g1 _ (?_) (GT.refl _ _)⟩
          exact r8 (.lst (ds ++ [d])) (.lst (vs2 ++ [v])) (rs2.append (RDs.cons rv RDs.nil))
        · exact q4.elim
      | _ => exact q4.elim
    · exact h.elim
/-- x.f[k] = e, a list -/
noncomputable def sPutF (j i : Nat) (fk fe : E D) : S := fun st => SRes.of (fe st) fun d s1 => match s1.objAt j with
  | some r => match s1.fld r i with
    | some (.own (.lst ds0)) => SRes.of ((fk (s1.setF r i (.lent (.lst ds0)))).unF r i) fun jx s2 => match s2.fld r i, jx with
      | some (.own (.lst ds)), .int q => match ixD ds.length q with
        | some n => .nx (s2.setF r i (.own (.lst (ds.set n d))))
        | none => .bad
      | _, _ => .bad
    | _ => .bad
  | none => .bad
theorem st_putF {i j : Nat} {x n : Str} {ei : Expr} {xpos fpos : Pos} (hn : Γ.nm[i]? = some n) (hK : X.K = Γ.K) (hN : X.N[j]? = some x) (hv : Vis X.env.scope x) (z : PD Γ W X ei k) (y : PD Γ W X e f) (hd : (x == ("__debug__" : Str)) = false := by decide) (hcd : (x == ("__classdict__" : Str)) = false := by decide)
    (hb0 : attributeBase (.Name x xpos) n X.env (eval (.Name x xpos) X.env) = eval (.Name x xpos) X.env := by rfl)
    (ha : ∀ v, assign (.Subscript (.Attribute (.Name x xpos) n fpos) ei apos) X.env v = (do
      let ov ← holding [v] (eval (.Attribute (.Name x xpos) n fpos) X.env)
      let iv ← holding [v, ov] (eval ei X.env)
      standAt apos
      holding [v, ov, iv] (setItem ov iv v)
      release [v, ov, iv] []) := by intro _; rfl)
    (hs : swapsWithSole [.Subscript (.Attribute (.Name x xpos) n fpos) ei apos] e pos.line X.env = pure false := by rfl) (hw : swappedStores [.Subscript (.Attribute (.Name x xpos) n fpos) ei apos] e X.env = pure none := by rfl)
    (h1 : (assignEach [.Subscript (.Attribute (.Name x xpos) n fpos) ei apos] X.env).map (·.2) = [assign (.Subscript (.Attribute (.Name x xpos) n fpos) ei apos) X.env] := by rfl) :
    PSt Γ W X (.Assign [.Subscript (.Attribute (.Name x xpos) n fpos) ei apos] e pos) (sPutF j i k f) := by
  refine ⟨(ps_asg y.pe (pg_sub (pe_fld (pe_var hN hv hd hcd) hb0) z.pe set_list ha) hs hw h1).csq fun D σ H ⟨Z, Lt, g, st, s, h⟩ => ⟨Z, Lt, g, st, s, (GoS.of h).imp fun d g1 st1 H1 s1 t1 k1 v rv => ?_⟩⟩
  have h := k1 g1 H1 s1 (GT.refl _ _)
  cases ej : st1.objAt j with
  | none => rw [ej] at h; exact h.elim
  | some r =>
    rw [ej] at h
    simp only at h
    obtain ⟨w, ew, rw'⟩ := s1.sv j _ (objAt_eq ej)
    obtain ⟨b, rfl, hr⟩ := RD.obj (show RD Γ g1 (.obj r) w from rw')
    split at h
    · rename_i ds0 e0
      obtain ⟨a, o, C, dx, ws, n', p1, p2, p3, p4, p5, p6, p7, nz, ho, hl, s'⟩ := s1.lendA hr e0
      rw [hn] at p3; cases p3
      obtain ⟨vs, rfl, _⟩ := p7.lst
      refine ⟨_, ew, b, C, dx, ws, .ref a, rfl, p1, by rw [hK]; exact p2, by rw [hK]; exact p4, p5, _, _, g1, _, s', (GoS.unF hr nz hl ho s1.sh.lz h).imp fun jx g2 st2 H2 s2 t2 k2 u ru => ?_⟩
      obtain ⟨d1, q1, q2, q3, q4⟩ := k2 g2 H2 s2 (GT.refl _ _) g2 H2 s2 (GT.refl _ _)
      have e5 := fld_setF (y := .own d1) q1
      rw [e5] at q4
      cases d1 with
      | lst ds =>
        cases jx with
        | int q =>
          simp only at q4
          split at q4
          · rename_i m em
            obtain ⟨a2, o2, C2, dx2, ws2, n2, r1, r2, r3, r4, r5, r6, r7, r8⟩ := q3.ownF q2 e5
            obtain ⟨a3, o3, l1', l2', l3', C3, dx3, ws3, n3, m1, m2, m3, m4, m5⟩ := s2.lentA q2 q1
            rw [ltP_same] at l1'; cases l1'
            rw [r1] at m1; cases m1
            rw [r3] at m3; cases m3
            rw [r5] at m5; cases m5
            obtain ⟨vs2, rfl, rs2⟩ := r7.lst
            simp only [RD] at ru; subst ru
            have tt := t2.unprot nz
            refine ⟨a, vs2, q, m, rfl, rfl, r6, by rw [ixN_ixD, ← rs2.length]; exact em, q4 σ g2 _ ?_ (GT.refl _ _)⟩
            exact r8 (.lst (ds.set m d)) (.lst (vs2.set m v)) (rs2.set (rv.up t2))
          · exact q4.elim
        | _ => exact q4.elim
      | _ => exact q4.elim
    · exact h.elim

/-! ### dicts: keys, reads -/
noncomputable def kD : Key → D
  | .inl i => .int i
  | .inr x => .str x
noncomputable def dKey : D → Option Key
  | .int i => some (.inl i)
  | .str x => some (.inr x)
  | _ => none
theorem RD.key {k : Key} (e : dKey d = some k) (r : RD Γ g d v) : v = kV k := by
  cases d with
  | int i => cases e; simp only [RD] at r; exact r
  | str i => cases e; simp only [RD] at r; exact r
  | _ => cases e
theorem CV.key {k : Key} (e : dKey d = some k) (r : CV Γ g H d v) : v = kV k := by
  cases d with
  | int i => cases e; exact r.int
  | str i => cases e; exact r.str
  | _ => cases e
theorem RD.kD (k : Key) : RD Γ g (kD k) (kV k) := by cases k <;> simp [PL.kD, RD, kV]
noncomputable def valD (kvs : List (Key × D)) (k : Key) : Option D := (kvs.find? fun kv => decide (kv.1 = k)).map (·.2)
noncomputable def putD (kvs : List (Key × D)) (k : Key) (d : D) : List (Key × D) :=
  if (kvs.any fun kv => decide (kv.1 = k)) = true then kvs.map (fun kv => if kv.1 = k then (kv.1, d) else kv) else kvs ++ [(k, d)]
theorem RDk.val {k : Key} : ∀ {kvs : List (Key × D)} {ws : List (Key × V)}, RDk Γ g kvs ws → (∃ d v, valD kvs k = some d ∧ valV ws k = some v ∧ RD Γ g d v) ∨ (valD kvs k = none ∧ valV ws k = none)
  | [], ws, r => by simp only [RDk] at r; subst r; exact .inr ⟨rfl, rfl⟩
  | (k', d) :: kvs, ws, r => by
    simp only [RDk] at r
    obtain ⟨v, q, rfl, r1, r2⟩ := r
    by_cases c : k' = k
    · exact .inl ⟨d, v, by simp [valD, c], by simp [valV, c], r1⟩
    · rcases RDk.val (k := k) r2 with ⟨d', v', e1, e2, r'⟩ | ⟨e1, e2⟩
      · exact .inl ⟨d', v', by simpa [valD, c] using e1, by simpa [valV, c] using e2, r'⟩
      · exact .inr ⟨by simpa [valD, c] using e1, by simpa [valV, c] using e2⟩
theorem RDk.any {k : Key} : ∀ {kvs : List (Key × D)} {ws : List (Key × V)}, RDk Γ g kvs ws → (kvs.any fun kv => decide (kv.1 = k)) = (ws.any fun kv => decide (kv.1 = k))
  | [], ws, r => by simp only [RDk] at r; subst r; rfl
  | (k', d) :: kvs, ws, r => by
    simp only [RDk] at r
    obtain ⟨v, q, rfl, r1, r2⟩ := r
    simp only [List.any_cons, RDk.any r2]
theorem RDk.append : ∀ {ks ls : List (Key × D)} {ws us : List (Key × V)}, RDk Γ g ks ws → RDk Γ g ls us → RDk Γ g (ks ++ ls) (ws ++ us)
  | [], ls, ws, us, r, r' => by simp only [RDk] at r; subst r; simpa using r'
  | (k', d) :: kvs, ls, ws, us, r, r' => by
    simp only [RDk] at r
    obtain ⟨v, q, rfl, r1, r2⟩ := r
    rw [List.cons_append, List.cons_append]
    simp only [RDk]
    exact ⟨v, q ++ us, rfl, r1, RDk.append r2 r'⟩
theorem RDk.one {k : Key} (r : RD Γ g d v) : RDk Γ g [(k, d)] [(k, v)] := by simp only [RDk]; exact ⟨v, [], rfl, r, rfl⟩
theorem RDk.nil : RDk Γ g [] [] := by simp [RDk]
theorem RDk.put {k : Key} {kvs : List (Key × D)} {ws : List (Key × V)} (r : RDk Γ g kvs ws) (x : RD Γ g d v) : RDk Γ g (putD kvs k d) (putK ws k v) := by
  unfold putD putK
  rw [r.any (k := k)]
  split
  · have : ∀ {kvs : List (Key × D)} {ws : List (Key × V)}, RDk Γ g kvs ws → RDk Γ g (kvs.map fun kv => if kv.1 = k then (kv.1, d) else kv) (ws.map fun kv => if kv.1 = k then (kv.1, v) else kv) := by
      intro kvs
      induction kvs with
      | nil => intro ws r; simp only [RDk] at r; subst r; exact RDk.nil
      | cons p kvs ih =>
        intro ws r
        obtain ⟨k', d'⟩ := p
        simp only [RDk] at r
        obtain ⟨v', q, rfl, r1, r2⟩ := r
        rw [List.map_cons, List.map_cons]
        have := ih r2
        by_cases c : k' = k
        · subst c
          simp only [if_true, RDk]
          exact ⟨v, _, rfl, x, this⟩
        · simp only [if_neg c, RDk]
          exact ⟨v', _, rfl, r1, this⟩
    exact this r
  · exact r.append (RDk.one x)
/-- d.get(k, x) -/
noncomputable def eDGet2 (f k l : E D) : E D := fun st => (f st).bind fun x s1 => match x with
  | .dic kvs => (k s1).bind fun y s2 => (l s2).bind fun z s3 => match dKey y with
    | some q => .ok ((valD kvs q).getD z) s3
    | none => .bad
  | _ => .bad
theorem SV.dicV {kvs : List (Key × D)} (r : SV Γ Z g (.dic kvs) v) : ∃ a ws, v = .ref a ∧ RDk Γ g kvs ws ∧ ∀ Lt g' st σ H, SR Γ Z Lt g' st σ H → GT Z g g' → Rd H a (.dK ws) := by
  rcases r with r | ⟨a, o, e, z, c | ⟨ob, u, e2, c⟩⟩
  · simp only [RD] at r
    obtain ⟨a, vs, e, q, r⟩ := r
    exact ⟨a, vs, e, r, fun Lt g' st σ H s t => (t.le.trans (GLe.sub s.sh.gh)) _ _ rfl q⟩
  · cases o <;> first | exact c.elim | exact ⟨a, _, e, c, fun Lt g' st σ H s t => .inl (s.sh.zh a _ z)⟩
  · subst e2
    cases u <;> first | exact c.elim | exact ⟨a, _, e, c, fun Lt g' st σ H s t => .inr ⟨ob, s.sh.zh a _ z⟩⟩
theorem RDk.up {ds : List (Key × D)} {vs : List (Key × V)} (h : RDk Γ g ds vs) (t : GT Z g g') : RDk Γ g' ds vs := RDk.mono t.le t.mp _ _ h
theorem pd_dget2 (hu : X.A.units + 64 < cLine) (x : PV Γ W X e1 f) (y : PD Γ W X e2 k) (z : PD Γ W X e3 l) (m : M2 X e1 "get" apos e2 e3 pos := by exact ⟨rfl, rfl, rfl, rfl⟩) : PD Γ W X (.Call (.Attribute e1 "get" apos) [e2, e3] [] pos) (eDGet2 f k l) := by
  refine ⟨(pe_dget2 (by omega) x.pe y.pe z.pe m).csq fun σ H Q ⟨Z, Lt, g, st, s, h⟩ => ⟨Z, Lt, g, st, s, h.bind.imp fun x g1 st1 H1 s1 t1 k1 v r1 => ?_⟩⟩
  have h := k1 g1 H1 s1 (GT.refl _ _)
  cases x with
  | dic kvs =>
    obtain ⟨a, ws, rfl, rk, st'⟩ := r1.dicV
    refine ⟨a, rfl, .inl ⟨ws, st' Lt g1 st1 σ H1 s1 (GT.refl _ _)⟩, Z, Lt, g1, st1, s1, (Go.bind h).imp fun y g2 st2 H2 s2 t2 k2 w r2 => ?_⟩
    refine ⟨Z, Lt, g2, st2, s2, (Go.bind (k2 g2 H2 s2 (GT.refl _ _))).imp fun z g3 st3 H3 s3 t3 k3 u r3 => ?_⟩
    have h := k3 g3 H3 s3 (GT.refl _ _)
    split at h
    · rename_i q eq
      rw [r2.key eq]
      have rk3 := (rk.up t2).up t3
      rcases rk3.val (k := q) with ⟨d', v', q1, q2, q3⟩ | ⟨q1, q2⟩
      · rw [q1] at h
        exact ⟨some v', .inl ⟨ws, q, st' Lt g3 st3 σ H3 s3 (t2.trans t3), rfl, q2.symm⟩, h g3 H3 s3 (GT.refl _ _) _ q3⟩
      · rw [q1] at h
        exact ⟨none, .inl ⟨ws, q, st' Lt g3 st3 σ H3 s3 (t2.trans t3), rfl, q2.symm⟩, h g3 H3 s3 (GT.refl _ _) _ r3⟩
    · exact h.elim
  | _ => exact h.elim
/-- {} -/
noncomputable def eDNew : E D := fun st => .ok (.dic []) st
theorem SR.newTD {ws : List (Key × V)} {kvs : List (Key × D)} (s : SR Γ Z Lt g st σ H) (n : H p = none) (r : RDk Γ g kvs ws) : ∃ g', SR Γ Z Lt g' st σ (upd H p (.dK ws)) ∧ GT Z g g' ∧ OA Γ Z g' (upd H p (.dK ws)) .tmp p (.dic kvs) := by
  obtain ⟨s', t, x⟩ := s.newT (d := .dic kvs) (o := .dK ws) n r
  exact ⟨_, s', t, x⟩
theorem pf_dnew : PF Γ W X (.Dict [] [] pos) eDNew := ⟨pe_dnewK.csq fun σ H Q ⟨Z, Lt, g, st, s, h⟩ p n => by
  obtain ⟨g', s', t, x⟩ := s.newTD n RDk.nil
  exact h g' _ s' t p x⟩

/-! ### a name's own dict changes -/
noncomputable def LS.ownD (st : LS) (i : Nat) : Option (List (Key × D)) := match st.s[i]? with
  | some (some (.own (.dic ds))) => some ds
  | _ => none
theorem ownD_eq {i : Nat} {ds : List (Key × D)} (e : st.ownD i = some ds) : st.s[i]? = some (some (.own (.dic ds))) := by
  unfold LS.ownD at e
  split at e
  · cases e; assumption
  · cases e
noncomputable def sDPut (i : Nat) (fk fe : E D) : S := fun st => SRes.of (fe st) fun d s1 => match s1.ownD i with
  | some _ => SRes.of (fk s1) fun y s2 => match s2.ownD i, dKey y with
    | some kvs, some q => if kvs.length < 16777216 then .nx (s2.set i (.own (.dic (putD kvs q d)))) else .bad
    | _, _ => .bad
  | none => .bad
theorem st_dput {i : Nat} {x : Str} {ei : Expr} (hu : X.A.units + 64 < cLine) (hN : X.N[i]? = some x) (hv : Vis X.env.scope x) (z : PD Γ W X ei k) (y : PD Γ W X e f) (hd : (x == ("__debug__" : Str)) = false := by decide) (hcd : (x == ("__classdict__" : Str)) = false := by decide)
    (hs : swapsWith e (some (.Subscript (.Name x pos2) ei apos)) pos.line X.env = pure false := by rfl) :
    PSt Γ W X (.Assign [.Subscript (.Name x pos2) ei apos] e pos) (sDPut i k f) := by
  refine ⟨(ps_dput (by omega) (pe_var hN hv hd hcd) z.pe y.pe hs).csq fun D σ H ⟨Z, Lt, g, st, s, h⟩ => ⟨Z, Lt, g, st, s, (GoS.of h).imp fun d g1 st1 H1 s1 t1 k1 v r => ?_⟩⟩
  have k2 := k1 g1 H1 s1 (GT.refl _ _)
  cases e0 : st1.ownD i with
  | none => rw [e0] at k2; exact k2.elim
  | some ds0 =>
    rw [e0] at k2
    obtain ⟨a, o, e1, e2, c2, _⟩ := s1.own (ownD_eq e0)
    refine ⟨_, e1, Z, Lt, g1, st1, s1, (GoS.of k2).imp fun j g2 st2 H2 s2 t2 k3 w r2 => ?_⟩
    have k4 := k3 g2 H2 s2 (GT.refl _ _)
    cases e3 : st2.ownD i with
    | none => rw [e3] at k4; exact k4.elim
    | some ds =>
      rw [e3] at k4
      cases ek : dKey j with
      | none => rw [ek] at k4; exact k4.elim
      | some q =>
        rw [ek] at k4
        simp only at k4
        obtain ⟨b, o, e4, e5, c5, k5⟩ := s2.own (ownD_eq e3)
        rw [e1] at e4; cases e4
        obtain ⟨ws, rfl, rs⟩ := c5.dic
        split at k4
        · rename_i hl
          refine ⟨a, _, rfl, .inl ⟨ws, q, e5, r2.key ek, by rw [← rs.length, sizeLine_eq]; exact hl, rfl⟩, ?_⟩
          exact k4 σ g2 _ (k5 (.dic (putD ds q d)) (.dK (putK ws q v)) (rs.put (r.up t2))) (GT.refl _ _)
        · exact k4.elim
/-- x.f[k] = e, a dict -/
noncomputable def sDPutF (j i : Nat) (fk fe : E D) : S := fun st => SRes.of (fe st) fun d s1 => match s1.objAt j with
  | some r => match s1.fld r i with
    | some (.own (.dic ds0)) => SRes.of ((fk (s1.setF r i (.lent (.dic ds0)))).unF r i) fun jx s2 => match s2.fld r i, dKey jx with
      | some (.own (.dic kvs)), some q => if kvs.length < 16777216 then .nx (s2.setF r i (.own (.dic (putD kvs q d)))) else .bad
      | _, _ => .bad
    | _ => .bad
  | none => .bad
theorem st_dputF {i j : Nat} {x n : Str} {ei : Expr} {xpos fpos : Pos} (hn : Γ.nm[i]? = some n) (hK : X.K = Γ.K) (hu : X.A.units + 64 < cLine) (hN : X.N[j]? = some x) (hv : Vis X.env.scope x) (z : PD Γ W X ei k) (y : PD Γ W X e f) (hd : (x == ("__debug__" : Str)) = false := by decide) (hcd : (x == ("__classdict__" : Str)) = false := by decide)
    (hb0 : attributeBase (.Name x xpos) n X.env (eval (.Name x xpos) X.env) = eval (.Name x xpos) X.env := by rfl)
    (hs : swapsWith e (some (.Subscript (.Attribute (.Name x xpos) n fpos) ei apos)) pos.line X.env = pure false := by rfl) :
    PSt Γ W X (.Assign [.Subscript (.Attribute (.Name x xpos) n fpos) ei apos] e pos) (sDPutF j i k f) := by
  refine ⟨(ps_dput (by omega) (pe_fld (pe_var hN hv hd hcd) hb0) z.pe y.pe hs).csq fun D σ H ⟨Z, Lt, g, st, s, h⟩ => ⟨Z, Lt, g, st, s, (GoS.of h).imp fun d g1 st1 H1 s1 t1 k1 v rv => ?_⟩⟩
  have h := k1 g1 H1 s1 (GT.refl _ _)
  cases ej : st1.objAt j with
  | none => rw [ej] at h; exact h.elim
  | some r =>
    rw [ej] at h
    simp only at h
    obtain ⟨w, ew, rw'⟩ := s1.sv j _ (objAt_eq ej)
    obtain ⟨b, rfl, hr⟩ := RD.obj (show RD Γ g1 (.obj r) w from rw')
    split at h
    · rename_i ds0 e0
      obtain ⟨a, o, C, dx, ws, n', p1, p2, p3, p4, p5, p6, p7, nz, ho, hl, s'⟩ := s1.lendA hr e0
      rw [hn] at p3; cases p3
      obtain ⟨vs, rfl, _⟩ := p7.dic
      refine ⟨_, ew, b, C, dx, ws, .ref a, rfl, p1, by rw [hK]; exact p2, by rw [hK]; exact p4, p5, _, _, g1, _, s', (GoS.unF hr nz hl ho s1.sh.lz h).imp fun jx g2 st2 H2 s2 t2 k2 u ru => ?_⟩
      obtain ⟨d1, q1, q2, q3, q4⟩ := k2 g2 H2 s2 (GT.refl _ _) g2 H2 s2 (GT.refl _ _)
      have e5 := fld_setF (y := .own d1) q1
      rw [e5] at q4
      cases d1 with
      | dic ds =>
        cases ek : dKey jx with
        | none => rw [ek] at q4; exact q4.elim
        | some q =>
          rw [ek] at q4
          simp only at q4
          split at q4
          · rename_i hlen
            obtain ⟨a2, o2, C2, dx2, ws2, n2, r1, r2, r3, r4, r5, r6, r7, r8⟩ := q3.ownF q2 e5
            obtain ⟨a3, o3, l1', l2', l3', C3, dx3, ws3, n3, m1, m2, m3, m4, m5⟩ := s2.lentA q2 q1
            rw [ltP_same] at l1'; cases l1'
            rw [r1] at m1; cases m1
            rw [r3] at m3; cases m3
            rw [r5] at m5; cases m5
            obtain ⟨vs2, rfl, rs2⟩ := r7.dic
            refine ⟨a, _, rfl, .inl ⟨vs2, q, r6, ru.key ek, by rw [← rs2.length, sizeLine_eq]; exact hlen, rfl⟩, q4 σ g2 _ ?_ (GT.refl _ _)⟩
            exact r8 (.dic (putD ds q d)) (.dK (putK vs2 q v)) (rs2.put (rv.up t2))
          · exact q4.elim
      | _ => exact q4.elim
    · exact h.elim
end
end PL

/-! PyLite, part w: sorted over dicts, dicts copied, loops over dicts. -/
namespace PLR
open PySem PySem.Spec PyProof.Rows L2
section
variable {prog : Program} {w : World} {A : Around} {E : Value → Shared → Prop} {s : Shared} {T : String} {r d : Addr} {n : Nat} {P : Nat → Value → Prop} {OK : Heap → Prop}
/-- sorted of any source of ints -/
theorem sorted_src {b : Bool} {kw : List (Str × Value)} {ns : List Int} {Q : Value → Shared → Prop} (K : PySem.W.KdlSrc prog w T r d n P OK) (hk : ∀ a, Builtin.«list.sort» ⟨[.ref a], kw⟩ = Builtin.«list.sort» ⟨[.ref a], [(Str.ofString "reverse", .bool b)]⟩)
    (ha1 : argsOk "sorted" ⟨[.ref r], kw⟩) (ha2 : ∀ a, argsOk "list.sort" ⟨[a], kw⟩) (hh : A.handled = none) (hok : OK s.heap) (hn : n ≤ sizeLine) (hI : ∀ vs : List Value, vs.length = n → (∀ (j : Nat) (v : Value), vs[j]? = some v → P j v) → IntsAre vs ns)
    (h : ∀ (h1 h' : Heap) (tk : Nat) (p : Addr) (out : Array Value) (ns' : List Int) (ep : Nat), (∀ b o, s.heap.get? b = some o → h1.get? b = some o) → (∀ b o, h1.get? b = some o → h'.get? b = some o) → h'.get? p = some (seqObj "list" out ep) → IntsAre out.toList ns' → ns'.Perm ns → Ordered b ns' → h1.objs.size ≤ p → Q (.ref p) { s with heap := h', toks := tk }) :
    wpAny (model prog w) A (call (.builtin "sorted") [.ref r] kw) Q E s := by
  refine call_function_entry_kw kind_sorted plain_sorted entry_sorted ha1 ?_
  unfold Builtin.«sorted»
  refine wpAny_bind (m := checkCount "sorted" 1 1 _) (wpAny_pure ?_)
  refine wpAny_bind (PySem.W.kdu_collect (A := A.in1) K hh hok hn fun h1 tk acc hkp hacc => ?_)
  have hl : acc.toList.length = n := by rw [Array.length_toList]; exact hacc.1
  have hi := hI acc.toList hl fun j v e => hacc.2 j v (by rw [← Array.getElem?_toList]; exact e)
  refine wpAny_bind (wpAny_newList ?_ (by rw [hl]; exact hn))
  have hoL : (h1.push (seqObj "list" acc.toList.toArray 0)).get? h1.objs.size = some (seqObj "list" acc.toList.toArray 0) := Heap.get?_push_size _ rfl
  refine wpAny_bind (wpAny_holding (wpAny_call_entry_kw slot_list_sort ⟨_, hoL, rfl⟩ entry_list_sort ?_ (ha2 _)))
  rw [hk]
  refine SrtR.list_sort_ordR SrtO.swo_int hoL (by rw [hl]; exact hn) (fun h2 => SrtO.ints_sortable hi h2) fun out hs hb => ⟨_, rfl, ?_⟩
  obtain ⟨ns', k1, k2, k3⟩ := SrtR.ints_outR hi hs hb
  obtain ⟨ep, he⟩ := sortedHeap_at (out := if b = true then out.toArray.reverse else out.toArray) hoL
  refine wpAny_pure ⟨_, rfl, h h1 _ tk _ _ ns' ep hkp (fun c o e => ?_) he k1 k2 k3 (Nat.le_refl _)⟩
  have hlt := Heap.lt_size e
  rw [sortedHeap_old (Nat.ne_of_lt hlt) (Nat.lt_of_lt_of_le hlt (by rw [Heap.size_push]; exact Nat.le_succ _))]
  exact Heap.get?_push_of_some _ e
end
/-- the ints of keys -/
noncomputable def keysI : List (Key × V) → Option (List Int)
  | [] => some []
  | (.inl i, _) :: r => (keysI r).map (i :: ·)
  | _ => none
theorem sorted_done {X : Cx} {b : Bool} {pins : List (Addr × Obj)} {s : Shared} {σ : L2.St} {H : Hp} {ns : List Int} {Q : VK} (I : Inv X pins σ H s) (q : ∀ (ns' : List Int) (p : Addr), ns'.Perm ns → Ordered b ns' → H p = none → Q (.ref p) (upd H p (.lst (ns'.map V.int)))) (hz : ns.length ≤ sizeLine)
    {h1 h' : Heap} {tk : Nat} {p : Addr} {out : Array Value} {ns' : List Int} {ep : Nat} (k1 : ∀ b o, s.heap.get? b = some o → h1.get? b = some o) (k2 : ∀ b o, h1.get? b = some o → h'.get? b = some o) (hp : h'.get? p = some (seqObj "list" out ep)) (hi : IntsAre out.toList ns') (pm : ns'.Perm ns) (od : Ordered b ns') (sz : h1.objs.size ≤ p) : EP X pins σ Q (.ref p) { s with heap := h', toks := tk } := by
  have I1 : Inv X pins σ H { s with heap := h1, toks := tk } := I.kept (t' := tk) k1
  have I2 : Inv X pins σ (upd H p (.lst (ns'.map V.int))) { s with heap := h', toks := tk } := I1.laid (t' := tk) k2 sz ⟨by rw [List.length_map, pm.length_eq]; exact hz, out.toList, ep, vals_of_ints hi, by rw [Array.toArray_toList]; exact hp⟩
  exact ⟨.ref p, _, I2, rfl, q ns' p pm od (I1.hok.fresh sz)⟩
theorem sort_nokw (a : Addr) : Builtin.«list.sort» ⟨[.ref a], []⟩ = Builtin.«list.sort» ⟨[.ref a], [(Str.ofString "reverse", .bool false)]⟩ := by
  rw [list_sort_rev, list_sort_plain]
  first | rfl | kernel_rfl
theorem keysI_len : ∀ {kvs : List (Key × V)} {ns : List Int}, keysI kvs = some ns → ns.length = kvs.length
  | [], _, h => by simp [keysI] at h; subst h; rfl
  | (.inl i, _) :: r, ns, h => by
    simp only [keysI, Option.map_eq_some_iff] at h
    obtain ⟨m, h1, rfl⟩ := h
    simp [keysI_len h1]
  | (.inr i, _) :: r, ns, h => by simp [keysI] at h
theorem keysI_get : ∀ {kvs : List (Key × V)} {ns : List Int} {i : Nat} {k : Key} {v : V}, keysI kvs = some ns → kvs[i]? = some (k, v) → ∃ n, ns[i]? = some n ∧ k = .inl n
  | [], _, _, _, _, _, e => by simp at e
  | (.inl j, _) :: r, ns, i, k, v, h, e => by
    simp only [keysI, Option.map_eq_some_iff] at h
    obtain ⟨m, h1, rfl⟩ := h
    cases i with
    | zero => simp at e; exact ⟨j, rfl, e.1.symm⟩
    | succ i => exact keysI_get (i := i) h1 (by simpa using e)
  | (.inr j, _) :: r, ns, _, _, _, h, _ => by simp [keysI] at h
theorem ints_by : ∀ {vs : List Value} {ns : List Int}, vs.length = ns.length → (∀ (j : Nat) (v : Value), vs[j]? = some v → ∃ n t, ns[j]? = some n ∧ v = .int n t) → IntsAre vs ns
  | [], [], _, _ => .nil
  | v :: vs, n :: ns, hl, h => by
    obtain ⟨m, t, e1, e2⟩ := h 0 v rfl
    simp at e1
    subst e1 e2
    exact .cons _ t (ints_by (by simpa using hl) fun j u e => h (j + 1) u (by simpa using e))
  | [], _ :: _, hl, _ => by simp at hl
  | _ :: _, [], hl, _ => by simp at hl
/-- sorted(d): the keys, ints -/
theorem cr_sortedD {X : Cx} (hc : X.calm = true) : CallR X (.builtin "sorted") (fun vs H Q => ∃ (a : Addr) (kvs : List (Key × V)) (ns : List Int), vs = [V.ref a] ∧ Rd H a (.dK kvs) ∧ keysI kvs = some ns ∧ ∀ (ns' : List Int) (p : Addr), ns'.Perm ns → Ordered false ns' → H p = none → Q (.ref p) (upd H p (.lst (ns'.map V.int)))) := by
  intro pins s σ H vs us Q I r h
  obtain ⟨a, kvs, ns, rfl, hd, hk, q⟩ := h
  obtain rfl := Vals.ref1 r
  obtain ⟨z, hsys, ws, rel, dof⟩ := dk_rd I.hok hd
  obtain ⟨ep, dat⟩ := dof.dictAt
  have hl : ws.length = kvs.length := (Paired.length rel).symm
  have hz : ws.length ≤ sizeLine := by rw [hl]; exact z
  refine sorted_src (b := false) (ns := ns) (PySem.W.kdl_dict (knd := mixKind X.prog X.w) (kvs := ws) (ep := ep) hsys) sort_nokw (args_sorted1 _) (fun _ => PySem.F.args_list_sort_1 _) (I.ok.hd hc) dat hz (fun vs hvl hv => ints_by (by rw [hvl, hl, keysI_len hk]) fun j v e => ?_)
    fun h1 h' tk p out ns' ep' k1 k2 k3 k4 k5 k6 k7 => sorted_done I q (by rw [keysI_len hk, ← hl]; exact hz) k1 k2 k3 k4 k5 k6 k7
  obtain ⟨k, x, e1, e2⟩ := hv j v e
  obtain ⟨y, e3, _⟩ := KV.at' rel e1
  obtain ⟨n, e4, rfl⟩ := keysI_get hk e3
  rcases keyIs_shape (show keyIs (.inl n) v = true from e2) with ⟨i, t, q1, q2⟩ | ⟨i, t, q1, q2⟩
  · cases q1; exact ⟨n, t, e4, q2⟩
  · cases q1
/-! ### views -/
noncomputable def valsO (p d : Addr) : HO := .ext fun h => h.IsValuesView p d
noncomputable def tVals (td : TE) : TE := fun σ H Q => td σ H fun x H1 => ∃ a kvs, x = .ref a ∧ Rd H1 a (.dK kvs) ∧ ∀ p, H1 p = none → Q (.ref p) (upd H1 p (valsO p a))
section
variable {X : Cx} {o : Expr} {td : TE} {apos mpos : Pos}
theorem pe_vals (hd : PE X o td) (hbase : attributeBase o "values" X.env (eval o X.env) = eval o X.env := by rfl) (hline : (apos.endLine == mpos.line) = true := by rfl) : PE X (.Call (.Attribute o "values" apos) [] [] mpos) (tVals td) := by
  refine ⟨fun pins s σ H Q I h => ?_⟩
  refine wpAny_Call_method0_late hbase hline (thn (hd.run pins s σ H _ I h) fun v s1 ⟨x, H1, I1, r1, a, kvs, ex, ha, q⟩ => ?_)
  subst ex
  obtain rfl : v = Value.ref a := r1
  obtain ⟨z, hsys, vs, rel, dof⟩ := dk_rd I1.hok ha
  obtain ⟨ep, dat⟩ := dof.dictAt
  obtain ⟨ob, es, ho, ex, hdat, hko, hpr, hnd⟩ := id dat
  refine ⟨"dict", "dict.values", F.plainAttrs_dict, F.slot_dict_values, F.type_dict_values, ⟨ob, ho, ex.1⟩, fun b e => ?_, Calls.callWith_builtin rfl (PySem.evalArgs_none ?_)⟩
  · cases e
    exact ⟨ob, ho, ex.2.1⟩
  refine call_meetsIn F.slot_dict_values ⟨ob, ho, ex.1⟩ F.entry_dict_values (F.args_dict_values_1 _) (meets_dict_values (mixKind X.prog X.w) a hsys) ⟨⟨vs, dof⟩, ?_⟩
  have hf : H1 s1.heap.objs.size = none := I1.hok.fresh (Nat.le_refl _)
  exact ⟨.ref s1.heap.objs.size, upd H1 s1.heap.objs.size (valsO s1.heap.objs.size a), I1.laid (t' := s1.toks) (fun b u e => Heap.get?_push_of_some _ e) (Nat.le_refl _) ⟨⟨_, Heap.get?_push_size _ rfl, rfl, rfl⟩, ⟨_, Heap.get?_push_size _ rfl⟩, fun h1 h2 x k => let ⟨o, ho, r⟩ := x; ⟨o, k o ho, r⟩⟩, rfl, q _ hf⟩
end
theorem vals_get {kvs : List (Key × V)} {ws : List (Key × Value)} {ns : List Int} (rel : KV kvs ws) (hn : kvs.map (·.2) = ns.map V.int) {j : Nat} {v : Value} (h : ∃ k, ws[j]? = some (k, v)) : ∃ n t, ns[j]? = some n ∧ v = .int n t := by
  obtain ⟨k, e1⟩ := h
  obtain ⟨x, h1, h2⟩ := KV.at' rel e1
  have e2 : (kvs.map (·.2))[j]? = some x := by rw [List.getElem?_map, h1]; rfl
  rw [hn, List.getElem?_map] at e2
  obtain ⟨n, e3, e4⟩ := Option.map_eq_some_iff.mp e2
  subst e4
  obtain ⟨t, e5⟩ := h2
  exact ⟨n, t, e3, e5⟩
/-- sorted(d.values(), reverse=b) -/
theorem cr_sortedVR {X : Cx} {b : Bool} (hc : X.calm = true) : CallRK X (.builtin "sorted") [Str.ofString "reverse"] (fun vs zs H Q => ∃ (p a : Addr) (kvs : List (Key × V)) (ns : List Int), vs = [V.ref p] ∧ zs = [.bl b] ∧ H p = some (valsO p a) ∧ Rd H a (.dK kvs) ∧ kvs.map (·.2) = ns.map V.int ∧ ∀ (ns' : List Int) (q : Addr), ns'.Perm ns → Ordered b ns' → H q = none → Q (.ref q) (upd H q (.lst (ns'.map V.int)))) := by
  intro pins s σ H vs zs us ws Q I r rz h
  obtain ⟨p, a, kvs, ns, rfl, rfl, hp, hd, hn, q⟩ := h
  obtain rfl := Vals.ref1 r
  obtain ⟨w1, rfl, e1⟩ := vals1 rz
  obtain rfl : w1 = Value.bool b := e1
  have view : s.heap.IsValuesView p a := (show ObjOk X.prog X.w H s.heap p (valsO p a) from I.hok p _ hp).1
  obtain ⟨z, hsys, ws, rel, dof⟩ := dk_rd I.hok hd
  obtain ⟨ep, dat⟩ := dof.dictAt
  have hl : ws.length = kvs.length := (Paired.length rel).symm
  have hz : ws.length ≤ sizeLine := by rw [hl]; exact z
  have hnl : ns.length = kvs.length := by have := congrArg List.length hn; simpa using this.symm
  refine sorted_src (b := b) (ns := ns) (PySem.W.kdl_values (knd := mixKind X.prog X.w) (kvs := ws) (ep := ep)) (fun _ => rfl) (args_sorted_rev _ _) (fun _ => args_list_sort_rev _ _) (I.ok.hd hc) ⟨view, dat⟩ hz (fun vs hvl hv => ints_by (by rw [hvl, hl, hnl]) fun j v e => vals_get rel hn (hv j v e))
    fun h1 h' tk p out ns' ep' k1 k2 k3 k4 k5 k6 k7 => sorted_done I q (by rw [hnl, ← hl]; exact hz) k1 k2 k3 k4 k5 k6 k7
/-- list(d.values()) -/
theorem cr_listV {X : Cx} (hc : X.calm = true) : CallR X (.type "list") (fun vs H Q => ∃ (p a : Addr) (kvs : List (Key × V)), vs = [V.ref p] ∧ H p = some (valsO p a) ∧ Rd H a (.dK kvs) ∧ ∀ q, H q = none → Q (.ref q) (upd H q (.lst (kvs.map (·.2))))) := by
  intro pins s σ H vs us Q I r h
  obtain ⟨p, a, kvs, rfl, hp, hd, q⟩ := h
  obtain rfl := Vals.ref1 r
  have view : s.heap.IsValuesView p a := (show ObjOk X.prog X.w H s.heap p (valsO p a) from I.hok p _ hp).1
  obtain ⟨z, hsys, ws, rel, dof⟩ := dk_rd I.hok hd
  obtain ⟨ep, dat⟩ := dof.dictAt
  have hl : ws.length = kvs.length := (Paired.length rel).symm
  have hz : ws.length ≤ sizeLine := by rw [hl]; exact z
  refine PySem.W.kdl_call (PySem.W.kdl_values (knd := mixKind X.prog X.w) (kvs := ws) (ep := ep)) (I.ok.hd hc) ⟨view, dat⟩ hz fun h' tk acc' c' hkeep hS hacc => ?_
  refine ⟨.ref s.heap.objs.size, upd H s.heap.objs.size (.lst (kvs.map (·.2))), I.laid (t' := tk) hkeep (Nat.le_refl _) ⟨by rw [List.length_map]; exact z, acc'.toList, c', ?_, by rw [Array.toArray_toList]; exact hS⟩, rfl, q _ (I.hok.fresh (Nat.le_refl _))⟩
  have el : acc'.toList.length = kvs.length := by rw [Array.length_toList, hacc.1, hl]
  have key : ∀ (us : List Value) (xs : List V), us.length = xs.length → (∀ (j : Nat) (v : Value), us[j]? = some v → ∃ x, xs[j]? = some x ∧ RelV x v) → Vals xs us := by
    intro us
    induction us with
    | nil => intro xs hl _; cases xs with
      | nil => exact .nil
      | cons => simp at hl
    | cons u us ih =>
      intro xs hl h
      cases xs with
      | nil => simp at hl
      | cons x xs =>
        obtain ⟨x', e1, e2⟩ := h 0 u rfl
        simp at e1
        subst e1
        exact .cons e2 (ih xs (by simpa using hl) fun j v e => h (j + 1) v (by simpa using e))
  refine key _ _ (by rw [el, List.length_map]) fun j v e => ?_
  obtain ⟨k, e1⟩ := hacc.2 j v (by rw [← Array.getElem?_toList]; exact e)
  obtain ⟨x, h1, h2⟩ := KV.at' rel e1
  exact ⟨x, by rw [List.getElem?_map, h1]; rfl, h2⟩
end PLR
namespace PL
open PySem PySem.Spec PyProof.Rows L2
section
variable {Γ : Tab} {W : WX} {Z Z' : Hp} {Lt Lt' : Lend} {g g' : GM} {st st' : LS} {σ σ' : L2.St} {H H' : Hp} {h h' : List LO} {a p : Addr} {o : HO} {d : D} {v : V} {X : Cx} {e e1 e2 e3 : Expr} {es : List Expr} {f k l : E D} {pos pos2 ppos apos tpos mpos : Pos} {stm : Stmt} {sts : List Stmt} {f1 f2 : S} {D0 : Ends}

/-! ### sorted, of dicts too -/
noncomputable def keysD : List (Key × D) → Option (List Int)
  | [] => some []
  | (.inl i, _) :: r => (keysD r).map (i :: ·)
  | _ => none
theorem RDk.keys : ∀ {kvs : List (Key × D)} {ws : List (Key × V)}, RDk Γ g kvs ws → PLR.keysI ws = keysD kvs
  | [], ws, r => by simp only [RDk] at r; subst r; rfl
  | (.inl i, d) :: kvs, ws, r => by
    simp only [RDk] at r
    obtain ⟨v, q, rfl, r1, r2⟩ := r
    simp only [PLR.keysI, keysD, RDk.keys r2]
  | (.inr i, d) :: kvs, ws, r => by
    simp only [RDk] at r
    obtain ⟨v, q, rfl, r1, r2⟩ := r
    simp only [PLR.keysI, keysD]
theorem RDk.vals : ∀ {kvs : List (Key × D)} {ws : List (Key × V)}, RDk Γ g kvs ws → RDs Γ g (kvs.map (·.2)) (ws.map (·.2))
  | [], ws, r => by simp only [RDk] at r; subst r; exact RDs.nil
  | (i, d) :: kvs, ws, r => by
    simp only [RDk] at r
    obtain ⟨v, q, rfl, r1, r2⟩ := r
    exact RDs.cons r1 (RDk.vals r2)
theorem ord_false {ns : List Int} (h : Ordered false ns) : ns.Pairwise (· ≤ ·) := by simpa [Ordered] using h
theorem ord_true {ns ms : List Int} (p : ms.Perm ns) (h : Ordered true ms) : ms = (srt ns).reverse := by
  have h : ms.Pairwise (· ≥ ·) := by simpa [Ordered] using h
  have h2 : ms.reverse.Pairwise (· ≤ ·) := by rw [List.pairwise_reverse]; exact h
  have := srt_unique ((List.reverse_perm ms).trans p) h2
  rw [← this, List.reverse_reverse]
noncomputable def mSortedX : Sem1 := fun x st => match x with
  | .lst ds => match intsD ds with
    | some ns => .ok (.lst ((srt ns).map D.int)) st
    | none => .bad
  | .dic kvs => match keysD kvs with
    | some ns => .ok (.lst ((srt ns).map D.int)) st
    | none => .bad
  | _ => .bad
theorem pf_sortedX (hK : X.K = Γ.K) (hc : X.calm = true) (hg : Gl X "sorted") (hn : X.mg "sorted" = none) (y : PC Γ W X e f)
    (he : starEach [e] X.env = (false, eval e X.env) :: starEach [] X.env := by rfl) (hpl : (backTo pos (starEach [] X.env)).any (·.1) = false := by rfl) : PF Γ W X (.Call (.Name "sorted" ppos) [e] [] pos) (eUn mSortedX f) := by
  refine pf_b1 (cr_sortedI.or (PLR.cr_sortedD hc)) ?_ hg hn (by decide +kernel) y (by decide) (by decide) he hpl
  intro Z Lt g st σ H x v Q s rx h
  unfold mSortedX at h
  split at h
  · split at h
    · rename_i ds ns e
      rw [intsD_eq e] at rx
      obtain ⟨a, rfl, q⟩ := rx.ints s
      refine .inl ⟨a, ns, rfl, by rw [hK]; exact q, fun ns' p h1 h2 h3 => ?_⟩
      rw [srt_unique h1 h2]
      exact retF s (RDs.ofInts _) h p h3
    · exact h.elim
  · split at h
    · rename_i kvs ns e
      obtain ⟨a, ws, rfl, ha, r⟩ := rx.dic s
      refine .inr ⟨a, ws, ns, rfl, ha, by rw [r.keys]; exact e, fun ns' p h1 h2 h3 => ?_⟩
      rw [srt_unique h1 (ord_false h2)]
      exact retF s (RDs.ofInts _) h p h3
    · exact h.elim
  · exact h.elim
/-- sorted(d.values(), reverse=True) -/
noncomputable def mSortedVR : Sem1 := fun x st => match x with
  | .dic kvs => match intsD (kvs.map (·.2)) with
    | some ns => .ok (.lst ((srt ns).reverse.map D.int)) st
    | none => .bad
  | _ => .bad
theorem PC.views {t : TE} {Q : VK} {m : Sem1} (hm : ∀ Z Lt g st σ H x v p, SR Γ Z Lt g st σ H → CV Γ g H x v → H p = none → True) : True := trivial
theorem SR.view {p : Addr} (s : SR Γ Z Lt g st σ H) (n : H p = none) (o : HO) : SR Γ Z Lt (g.put p o) st σ (upd H p o) ∧ GT Z g (g.put p o) := ⟨s.new n o, GT.put (s.sh.new n).2.1⟩
theorem pf_sortedVR (hK : X.K = Γ.K) (hc : X.calm = true) (hg : Gl X "sorted") (hn : X.mg "sorted" = none) (y : PC Γ W X e f) {kpos cpos : Pos} {j : Nat}
    (hbase : attributeBase e "values" X.env (eval e X.env) = eval e X.env := by rfl) (hline : (apos.endLine == mpos.line) = true := by rfl)
    (hs : starEach [.Call (.Attribute e "values" apos) [] [] mpos] X.env = (false, eval (.Call (.Attribute e "values" apos) [] [] mpos) X.env) :: starEach [] X.env := by rfl)
    (hk : PK X [⟨some (Str.ofString "reverse"), .Constant (.bool true) j cpos, kpos⟩] (tCons (tC (.bl true)) tNil) := by exact pk_cons pe_bl pk_nil)
    (he : backTo pos (starEach [.Call (.Attribute e "values" apos) [] [] mpos] X.env) = (false, eval (.Call (.Attribute e "values" apos) [] [] mpos) X.env) :: backTo pos (starEach [] X.env) := by rfl) (hpl : (backTo pos (starEach [.Call (.Attribute e "values" apos) [] [] mpos] X.env)).any (·.1) = false := by rfl)
    (hall : (backToKw pos (keywordEach [⟨some (Str.ofString "reverse"), .Constant (.bool true) j cpos, kpos⟩] X.env)).all (·.1.isSome) = true := by rfl) (hnone : (backToKw pos (keywordEach [⟨some (Str.ofString "reverse"), .Constant (.bool true) j cpos, kpos⟩] X.env)).any (·.1.isNone) = false := by rfl) (hks : (backToKw pos (keywordEach [⟨some (Str.ofString "reverse"), .Constant (.bool true) j cpos, kpos⟩] X.env)).filterMap (·.1) = [Str.ofString "reverse"] := by rfl) :
    PF Γ W X (.Call (.Name "sorted" ppos) [.Call (.Attribute e "values" apos) [] [] mpos] [⟨some (Str.ofString "reverse"), .Constant (.bool true) j cpos, kpos⟩] pos) (eUn mSortedVR f) := by
  refine ⟨(pe_callBK (PLR.cr_sortedVR (b := true) hc) hg hn (by decide +kernel) (pa_cons (PLR.pe_vals y.pe hbase hline) pa_nil hs) hk (by decide) (by decide) he hpl hall hnone hks).csq fun σ H Q ⟨Z, Lt, g, st, s, h⟩ => ⟨Z, Lt, g, st, s, (Go.bind h).imp fun d g1 st1 H1 s1 t1 k1 v r => ?_⟩⟩
  have h := k1 g1 H1 s1 (GT.refl _ _)
  unfold mSortedVR at h
  split at h
  · split at h
    · rename_i kvs ns en
      obtain ⟨a, ws, rfl, ha, rk⟩ := r.dic s1
      refine ⟨a, ws, rfl, ha, fun p n => ⟨p, a, ws, ns, rfl, rfl, upd_same, ?_, ?_, fun ns' q h1 h2 h3 => ?_⟩⟩
      · rcases ha with ha | ⟨ob, ha⟩
        · exact .inl (by rw [upd_ne (ne_of_none ha n)]; exact ha)
        · exact .inr ⟨ob, by rw [upd_ne (ne_of_none ha n)]; exact ha⟩
      · have rv := rk.vals
        rw [intsD_eq en] at rv
        exact rv.ints
      · obtain ⟨s2, t2⟩ := s1.view n (PLR.valsO p a)
        rw [ord_true h1 h2]
        exact retF (W := W) s2 (RDs.ofInts _) (fun g3 H3 s3 t3 => h g3 H3 s3 (t2.trans t3)) q h3
    · exact h.elim
  · exact h.elim
/-- list(d.values()) -/
noncomputable def mListV : Sem1 := fun x st => match x with
  | .dic kvs => .ok (.lst (kvs.map (·.2))) st
  | _ => .bad
theorem pf_listV (hK : X.K = Γ.K) (hc : X.calm = true) (hg : Gl X "list") (hn : X.mg "list" = none) (y : PC Γ W X e f)
    (hbase : attributeBase e "values" X.env (eval e X.env) = eval e X.env := by rfl) (hline : (apos.endLine == mpos.line) = true := by rfl)
    (hs : starEach [.Call (.Attribute e "values" apos) [] [] mpos] X.env = (false, eval (.Call (.Attribute e "values" apos) [] [] mpos) X.env) :: starEach [] X.env := by rfl) (hpl : (backTo pos (starEach [] X.env)).any (·.1) = false := by rfl) :
    PF Γ W X (.Call (.Name "list" ppos) [.Call (.Attribute e "values" apos) [] [] mpos] [] pos) (eUn mListV f) := by
  refine ⟨(pe_callTy (PLR.cr_listV hc) hg hn PyProof.Rows.boot_list (pa_cons (PLR.pe_vals y.pe hbase hline) pa_nil hs) (by decide) (by decide) hs hpl).csq fun σ H Q ⟨Z, Lt, g, st, s, h⟩ => ⟨Z, Lt, g, st, s, (Go.bind h).imp fun d g1 st1 H1 s1 t1 k1 v r => ?_⟩⟩
  have h := k1 g1 H1 s1 (GT.refl _ _)
  unfold mListV at h
  split at h
  · rename_i kvs
    obtain ⟨a, ws, rfl, ha, rk⟩ := r.dic s1
    refine ⟨a, ws, rfl, ha, fun p n => ⟨p, a, ws, rfl, upd_same, ?_, fun q h3 => ?_⟩⟩
    · rcases ha with ha | ⟨ob, ha⟩
      · exact .inl (by rw [upd_ne (ne_of_none ha n)]; exact ha)
      · exact .inr ⟨ob, by rw [upd_ne (ne_of_none ha n)]; exact ha⟩
    · obtain ⟨s2, t2⟩ := s1.view n (PLR.valsO p a)
      exact retF (W := W) s2 (rk.vals.up t2) (fun g3 H3 s3 t3 => h g3 H3 s3 (t2.trans t3)) q h3
  · exact h.elim
/-- dict(d) -/
theorem cr_dictC : CallR X (.type "dict") (fun vs H Q => ∃ (a : Addr) (kvs : List (Key × V)), vs = [V.ref a] ∧ Rd H a (.dK kvs) ∧ ∀ p, H p = none → Q (.ref p) (upd H p (.dK kvs))) := by
  intro pins s σ H vs us Q I r h
  obtain ⟨a, kvs, rfl, hd, q⟩ := h
  obtain rfl := Vals.ref1 r
  exact d_copyOf I hd fun p s' n I' => ⟨.ref p, _, I', rfl, q p n⟩
noncomputable def mDictC : Sem1 := fun x st => match x with
  | .dic kvs => .ok (.dic kvs) st
  | _ => .bad
theorem pf_dictC (hg : Gl X "dict") (hn : X.mg "dict" = none) (y : PC Γ W X e f)
    (he : starEach [e] X.env = (false, eval e X.env) :: starEach [] X.env := by rfl) (hpl : (backTo pos (starEach [] X.env)).any (·.1) = false := by rfl) : PF Γ W X (.Call (.Name "dict" ppos) [e] [] pos) (eUn mDictC f) := by
  refine ⟨(pe_callTy cr_dictC hg hn (by decide +kernel) (pa_cons y.pe pa_nil he) (by decide) (by decide) he hpl).csq fun σ H Q ⟨Z, Lt, g, st, s, h⟩ => ⟨Z, Lt, g, st, s, (Go.bind h).imp fun d g1 st1 H1 s1 t1 k1 v r => ?_⟩⟩
  have h := k1 g1 H1 s1 (GT.refl _ _)
  unfold mDictC at h
  split at h
  · rename_i kvs
    obtain ⟨a, ws, rfl, ha, rk⟩ := r.dic s1
    refine ⟨a, ws, rfl, ha, fun p n => ?_⟩
    obtain ⟨g', s', t, x⟩ := s1.newTD n rk
    exact h g' _ s' t p x
  · exact h.elim

/-! ### loops over dicts: the dict is locked -/
theorem SR.unmark {u : HO} (s : SR Γ Z Lt g st σ H) (hz : Z a = some u) (hu : lk u = false) (r : Addr) : Lt (.lck r) ≠ some a := fun l => by
  obtain ⟨o, z, k⟩ := s.sh.lz _ _ l
  rw [hz] at z; cases z
  simp only [lkq] at k
  rw [hu] at k; cases k
theorem SR.chZ {u u' : HO} (s : SR Γ Z Lt g st σ H) (hz : Z a = some u) (hm : ∀ r, Lt (.lck r) ≠ some a) (hc : ∀ (g : GM) (d : D), CRz Γ g d u → CRz Γ g d u') : SR Γ (upd Z a u') Lt g st σ (upd H a u') := by
  have nb : ∀ {b : Addr}, Z b = none → b ≠ a := fun {b} n q => by rw [q, hz] at n; cases n
  have fv : ∀ (q : Path) (x : FV) (v : V), FVR Γ Z Lt g H q x v → FVR Γ (upd Z a u') Lt g (upd H a u') q x v := by
    intro q x v f
    cases x with
    | val d => exact f
    | own d =>
      obtain ⟨b, eb, k1, k2, k3, k4, o, k5, k6⟩ := f
      have ne := nb k2
      exact ⟨b, eb, k1, by rw [upd_ne ne]; exact k2, k3, k4, o, by rw [upd_ne ne]; exact k5, k6⟩
    | lent d =>
      obtain ⟨b, o, eb, k1, k2, k3⟩ := f
      by_cases c : b = a
      · subst c
        rw [hz] at k2; cases k2
        exact ⟨b, u', eb, k1, upd_same, hc _ _ k3⟩
      · exact ⟨b, o, eb, k1, by rw [upd_ne c]; exact k2, k3⟩
  have nb' : ∀ {b}, b ∈ g.M → b ≠ a := fun {b} m q => by subst q; exact hm _ ((s.sh.mf b m).2.1 u hz)
  refine ⟨⟨fun b o e => ?_, fun b o e => ?_, fun b o e => ?_, s.sh.ml, s.sh.mn, fun b m => ?_, fun r lo b e1 e2 => ?_, s.sh.nd, fun q b e => ?_⟩, s.sl, fun j x e => ?_⟩
  · have ne : b ≠ a := fun q => by subst q; rw [s.sh.gz b u hz] at e; cases e
    rw [upd_ne ne]; exact s.sh.gh b o e
  · by_cases c : b = a
    · subst c; rw [upd_same] at e ⊢; exact e
    · rw [upd_ne c] at e ⊢; exact s.sh.zh b o e
  · by_cases c : b = a
    · subst c; exact s.sh.gz b u hz
    · rw [upd_ne c] at e; exact s.sh.gz b o e
  · obtain ⟨m1, m2, m3⟩ := s.sh.mf b m
    exact ⟨m1, fun o e => m2 o (by rw [upd_ne (nb' m)] at e; exact e), m3⟩
  · have ne := nb' (List.mem_of_getElem? e2)
    have := s.sh.ob r lo b e1 e2
    cases lo with
    | ins c fs =>
      obtain ⟨C, dx, ws, q1, q2, q3, q4⟩ := this
      exact ⟨C, dx, ws, q1, q2, by rw [upd_ne ne]; exact q3, FR.maps (fun i y v => fv _ y v) q4⟩
    | cell d =>
      obtain ⟨o, q1, q2⟩ := this
      exact ⟨o, by rw [upd_ne ne]; exact q1, q2⟩
    | lck d =>
      obtain ⟨l, ob, u, q1, q2, q3⟩ := this
      exact ⟨l, ob, u, by rw [upd_ne ne]; exact q1, by rw [upd_ne ne]; exact q2, q3⟩
  · obtain ⟨o, e', kq⟩ := s.sh.lz q b e
    by_cases c : b = a
    · subst c
      refine ⟨u', upd_same, ?_⟩
      cases q with
      | lck r => exact absurd e (hm r)
      | _ => trivial
    · exact ⟨o, by rw [upd_ne c]; exact e', kq⟩
  · obtain ⟨w, e', f⟩ := s.sv j x e
    exact ⟨w, e', fv _ _ _ f⟩
theorem GT.chZ {u u' : HO} (t : GT (upd Z a u') g g') (hz : Z a = some u) : GT Z g g' := ⟨t.le, t.mp, fun b o e => by
  by_cases c : b = a
  · subst c; exact t.oz b u' upd_same
  · exact t.oz b o (by rw [upd_ne c]; exact e), t.lo⟩
/-- an expression that gives a dict which stands -/
structure PLt (Γ : Tab) (X : Cx) (e : Expr) (π : LS → Option (List (Key × D))) : Prop where
  pl : ∃ te, PE X e te ∧ ∀ Z Lt g st σ H kvs, SR Γ Z Lt g st σ H → π st = some kvs → ∃ a o, (Z a = some o ∨ g.G a = some o) ∧ CRz Γ g (.dic kvs) o ∧ ∀ Z' g' H' Q, SR Γ Z' Lt g' st σ H' → g'.M = g.M → Q (.ref a) H' → te σ H' Q
noncomputable def πV (i : Nat) : LS → Option (List (Key × D)) := fun st => match st.s[i]? with
  | some (some (.lent (.dic kvs))) => some kvs
  | some (some (.val (.dic kvs))) => some kvs
  | _ => none
noncomputable def πF (j i : Nat) : LS → Option (List (Key × D)) := fun st => match st.objAt j with
  | some r => match st.fld r i with
    | some (.lent (.dic kvs)) => some kvs
    | _ => none
  | none => none
theorem RD.dicG {kvs : List (Key × D)} (r : RD Γ g (.dic kvs) v) : ∃ a o, v = .ref a ∧ g.G a = some o ∧ CRz Γ g (.dic kvs) o := by
  simp only [RD] at r
  obtain ⟨a, ws, rfl, h | ⟨ob, h⟩, rk⟩ := r
  · exact ⟨a, _, rfl, h, .inl rk⟩
  · exact ⟨a, _, rfl, h, .inr ⟨ob, _, rfl, rk⟩⟩
theorem lt_var (i : Nat) {x : Str} (hN : X.N[i]? = some x := by rfl) (hv : Vis X.env.scope x := by first | exact Or.inl rfl | exact Or.inr (Or.inl rfl) | exact Or.inr (Or.inr rfl)) (hd : (x == ("__debug__" : Str)) = false := by decide) (hcd : (x == ("__classdict__" : Str)) = false := by decide) : PLt Γ X (.Name x pos) (πV i) := by
  refine ⟨_, pe_var hN hv hd hcd, fun Z Lt g st σ H kvs s e => ?_⟩
  unfold πV at e
  split at e
  · rename_i kvs' e0
    cases e
    obtain ⟨v, e1, a, o, rfl, h1, h2, h3⟩ := s.sv i _ e0
    exact ⟨a, o, .inl h2, h3, fun Z' g' H' Q s' m q => ⟨_, e1, q⟩⟩
  · rename_i kvs' e0
    cases e
    obtain ⟨v, e1, r⟩ := s.sv i _ e0
    obtain ⟨a, o, rfl, h1, h2⟩ := RD.dicG (show RD Γ g (.dic kvs) v from r)
    exact ⟨a, o, .inr h1, h2, fun Z' g' H' Q s' m q => ⟨_, e1, q⟩⟩
  · cases e
theorem lt_fld (j i : Nat) {x n : Str} {xpos : Pos} (hn : Γ.nm[i]? = some n) (hK : X.K = Γ.K) (hN : X.N[j]? = some x := by rfl) (hv : Vis X.env.scope x := by first | exact Or.inl rfl | exact Or.inr (Or.inl rfl) | exact Or.inr (Or.inr rfl)) (hd : (x == ("__debug__" : Str)) = false := by decide) (hcd : (x == ("__classdict__" : Str)) = false := by decide)
    (hb0 : attributeBase (.Name x xpos) n X.env (eval (.Name x xpos) X.env) = eval (.Name x xpos) X.env := by rfl) : PLt Γ X (.Attribute (.Name x xpos) n pos) (πF j i) := by
  refine ⟨_, pe_fld (pe_var hN hv hd hcd) hb0, fun Z Lt g st σ H kvs s e => ?_⟩
  unfold πF at e
  split at e
  · rename_i r ej
    split at e
    · rename_i kvs' e0
      cases e
      obtain ⟨w, ew, rw'⟩ := s.sv j _ (objAt_eq ej)
      obtain ⟨b, rfl, hr⟩ := RD.obj (show RD Γ g (.obj r) w from rw')
      obtain ⟨a, o, h1, h2, h3, C, dx, ws, n', p1, p2, p3, p4, p5⟩ := s.lentA hr e0
      refine ⟨a, o, .inl h2, h3, fun Z' g' H' Q s' m q => ⟨_, ew, ?_⟩⟩
      obtain ⟨a', o', l1, l2, l3, C', dx', ws', n'', m1, m2, m3, m4, m5⟩ := s'.lentA (by rw [m]; exact hr) e0
      rw [h1] at l1; cases l1
      rw [hn] at m3; cases m3
      exact ⟨b, C', dx', ws', .ref a, rfl, m1, by rw [hK]; exact m2, by rw [hK]; exact m4, m5, q⟩
    · cases e
  · cases e
theorem FR.mapg {r : Nat} {C : Addr} (m : ∀ (j : Nat) (y : FV) (v : V), FVR Γ Z Lt g H (.fld r j) y v → FVR Γ Z' Lt' g' H' (.fld r j) y v) : ∀ {fs : List (Nat × FV)} {ws : List (Str × V)}, FR Γ Z Lt g H r C fs ws → FR Γ Z' Lt' g' H' r C fs ws
  | [], _, f => f
  | y :: fs, _, f => by
    obtain ⟨n, v, q, e, h1, h2, h3, h4, h5⟩ := f
    exact ⟨n, v, q, e, h1, h2, m _ _ _ h3, h4, FR.mapg m h5⟩
/-- one word of what stands still changes its lock -/
theorem SR.chG {u u' : HO} (s : SR Γ Z Lt g st σ H) (hG : g.G a = some u) (hr : ∀ w, lk w = false → (u = w ∨ ∃ ob, u = .frz ob w) → (u' = w ∨ ∃ ob, u' = .frz ob w)) : SR Γ Z Lt (g.put a u') st σ (upd H a u') := by
  have le : GLe g.G (g.put a u').G := fun b w hw r => by
    by_cases c : b = a
    · subst c
      have : u' = w ∨ ∃ ob, u' = .frz ob w := hr w hw (by
        rcases r with r | ⟨ob, r⟩
        · rw [hG] at r; cases r; exact .inl rfl
        · rw [hG] at r; cases r; exact .inr ⟨ob, rfl⟩)
      rcases this with rfl | ⟨ob, rfl⟩
      · exact .inl put_same
      · exact .inr ⟨ob, put_same⟩
    · rcases r with r | ⟨ob, r⟩
      · exact .inl (by rw [put_ne c]; exact r)
      · exact .inr ⟨ob, by rw [put_ne c]; exact r⟩
  have mp : ∃ t, (g.put a u').M = g.M ++ t := ⟨[], by simp⟩
  have zn : Z a = none := by
    cases e : Z a with
    | none => rfl
    | some o => rw [s.sh.gz a o e] at hG; cases hG
  have fv : ∀ (q : Path) (x : FV) (v : V), FVR Γ Z Lt g H q x v → FVR Γ Z Lt (g.put a u') (upd H a u') q x v := by
    intro q x v f
    cases x with
    | val d => exact RD.mono le mp d v f
    | own d =>
      obtain ⟨b, eb, k1, k2, k3, k4, o, k5, k6⟩ := f
      have ne : b ≠ a := fun q => by subst q; rw [hG] at k1; cases k1
      exact ⟨b, eb, by rw [put_ne ne]; exact k1, k2, k3, k4, o, by rw [upd_ne ne]; exact k5, k6.mono le mp⟩
    | lent d =>
      obtain ⟨b, o, eb, k1, k2, k3⟩ := f
      exact ⟨b, o, eb, k1, k2, k3.mono le mp⟩
  refine ⟨⟨fun b o e => ?_, fun b o e => ?_, fun b o e => ?_, s.sh.ml, s.sh.mn, fun b m => ?_, fun r lo b e1 e2 => ?_, s.sh.nd, s.sh.lz⟩, s.sl, fun j x e => ?_⟩
  · by_cases c : b = a
    · subst c; rw [put_same] at e; rw [upd_same]; exact e
    · rw [put_ne c] at e; rw [upd_ne c]; exact s.sh.gh b o e
  · have ne : b ≠ a := ne_of_none e zn
    rw [upd_ne ne]; exact s.sh.zh b o e
  · have ne : b ≠ a := ne_of_none e zn
    rw [put_ne ne]; exact s.sh.gz b o e
  · obtain ⟨m1, m2, m3⟩ := s.sh.mf b m
    have ne : b ≠ a := fun q => by subst q; rw [hG] at m1; cases m1
    exact ⟨by rw [put_ne ne]; exact m1, m2, m3⟩
  · have m1 := (s.sh.mf b (List.mem_of_getElem? e2)).1
    have ne : b ≠ a := fun q => by subst q; rw [hG] at m1; cases m1
    have := s.sh.ob r lo b e1 e2
    cases lo with
    | ins c fs =>
      obtain ⟨C, dx, ws, q1, q2, q3, q4⟩ := this
      exact ⟨C, dx, ws, q1, q2, by rw [upd_ne ne]; exact q3, FR.mapg (fun i y v => fv _ y v) q4⟩
    | cell d =>
      obtain ⟨o, q1, q2⟩ := this
      exact ⟨o, by rw [upd_ne ne]; exact q1, q2.mono le mp⟩
    | lck d =>
      obtain ⟨l, ob, u, q1, q2, q3⟩ := this
      exact ⟨l, ob, u, by rw [upd_ne ne]; exact q1, q2, q3.mono le mp⟩
  · obtain ⟨w, e', f⟩ := s.sv j x e
    exact ⟨w, e', fv _ _ _ f⟩
theorem GT.lockG {u : HO} {ob : Obj} {g2 : GM} (hG : g.G a = some u) (hu : lk u = false) (t : GT Z (g.put a (.frz ob u)) g2) : GT Z g (g2.put a u) := by
  refine ⟨fun b w hw r => ?_, ?_, fun b o e => (t.oz b o e), fun b ob' w e => ?_⟩
  · by_cases c : b = a
    · subst c
      rcases r with r | ⟨ob', r⟩
      · rw [hG] at r; cases r; exact .inl put_same
      · rw [hG] at r; cases r; cases hu
    · have r1 : Rd (g.put a (.frz ob u)).G b w := by
        rcases r with r | ⟨ob', r⟩
        · exact .inl (by rw [put_ne c]; exact r)
        · exact .inr ⟨ob', by rw [put_ne c]; exact r⟩
      rcases t.le b w hw r1 with r2 | ⟨ob', r2⟩
      · exact .inl (by rw [put_ne c]; exact r2)
      · exact .inr ⟨ob', by rw [put_ne c]; exact r2⟩
  · obtain ⟨u', e⟩ := t.mp; exact ⟨u', e⟩
  · have c : b ≠ a := fun q => by subst q; rw [hG] at e; cases e; cases hu
    rw [put_ne c]
    exact t.lo b ob' w (by rw [put_ne c]; exact e)
/-- what the turns tell of a dict -/
noncomputable def itemsD (kvs : List (Key × D)) : List D := kvs.map fun p => .tup [kD p.1, p.2]
noncomputable def noE : SRes → SRes
  | .exc _ _ => .bad
  | r => r
noncomputable def sForI (π : LS → Option (List (Key × D))) (tg : D → LS → Option LS) (b : S) : S := fun st => match π st with
  | some kvs => noE (turns tg b (itemsD kvs) st)
  | none => .bad
theorem GoS.lockD {r : SRes} {u : HO} {ob : Obj} (hm : ∀ r, Lt (.lck r) ≠ some a) (hz : Z a = some u) (h : GoS Γ W Z Lt D0 (noE r) g) (hu : lk u = false) :
    GoS Γ W (upd Z a (.frz ob u)) Lt ⟨fun σ' H' => H' a = some (.frz ob u) ∧ D0.nx σ' (upd H' a u), fun v H' => H' a = some (.frz ob u) ∧ D0.rt v (upd H' a u), fun σ' H' => H' a = some (.frz ob u) ∧ D0.bk σ' (upd H' a u), fun σ' H' => H' a = some (.frz ob u) ∧ D0.ct σ' (upd H' a u)⟩ r g := by
  have back : ∀ {g' : GM} {d : D}, CRz Γ g' d (.frz ob u) → CRz Γ g' d u := fun {g' d} c => by
    rcases c with c | ⟨ob', u', e, c⟩
    · cases d <;> exact c.elim
    · cases e; exact .inl c
  have zz : upd (upd Z a (.frz ob u)) a u = Z := by
    funext b
    by_cases c : b = a
    · subst c; rw [upd_same, hz]
    · rw [upd_ne c, upd_ne c]
  have un : ∀ {g' : GM} {st' : LS} {σ' : L2.St} {H' : Hp}, SR Γ (upd Z a (.frz ob u)) Lt g' st' σ' H' → SR Γ Z Lt g' st' σ' (upd H' a u) := fun {g' st' σ' H'} s => by
    have := s.chZ (u' := u) upd_same hm fun g d c => back c
    rw [zz] at this
    exact this
  cases r with
  | nx st' => exact fun σ' g' H' s t => ⟨s.sh.zh a _ upd_same, h σ' g' _ (un s) (t.chZ hz)⟩
  | bk st' => exact fun σ' g' H' s t => ⟨s.sh.zh a _ upd_same, h σ' g' _ (un s) (t.chZ hz)⟩
  | ct st' => exact fun σ' g' H' s t => ⟨s.sh.zh a _ upd_same, h σ' g' _ (un s) (t.chZ hz)⟩
  | ret x st' =>
    intro v g' H' s t fv
    refine ⟨s.zh a _ upd_same, ?_⟩
    have s0 : SR Γ (upd Z a (.frz ob u)) Lt g' ⟨[], st'.h⟩ [] H' := ⟨s, rfl, fun i x e => by simp at e⟩
    refine h v g' _ (un s0).sh (t.chZ hz) ?_
    cases x with
    | val d => exact fv
    | own d =>
      obtain ⟨b, eb, k1, k2, k3, k4, o, k5, k6⟩ := fv
      have ne : b ≠ a := fun q => by subst q; rw [upd_same] at k2; cases k2
      rw [upd_ne ne] at k2
      exact ⟨b, eb, k1, k2, k3, k4, o, by rw [upd_ne ne]; exact k5, k6⟩
    | lent d => obtain ⟨b, o, eb, k1, _⟩ := fv; cases k1
  | exc x st' => exact h.elim
  | bad => exact h.elim
theorem GoS.lockG {r : SRes} {u : HO} {ob : Obj} (hG : g.G a = some u) (h : GoS Γ W Z Lt D0 (noE r) g) (hu : lk u = false) :
    GoS Γ W Z Lt ⟨fun σ' H' => H' a = some (.frz ob u) ∧ D0.nx σ' (upd H' a u), fun v H' => H' a = some (.frz ob u) ∧ D0.rt v (upd H' a u), fun σ' H' => H' a = some (.frz ob u) ∧ D0.bk σ' (upd H' a u), fun σ' H' => H' a = some (.frz ob u) ∧ D0.ct σ' (upd H' a u)⟩ r (g.put a (.frz ob u)) := by
  have at2 : ∀ {g2 : GM}, GT Z (g.put a (.frz ob u)) g2 → g2.G a = some (.frz ob u) := fun {g2} t => t.lo a ob u put_same
  have hr : ∀ w, lk w = false → (HO.frz ob u = w ∨ ∃ ob', HO.frz ob u = .frz ob' w) → (u = w ∨ ∃ ob', u = .frz ob' w) := fun w hw c => by
    rcases c with c | ⟨ob', c⟩
    · subst c; cases hw
    · cases c; exact .inl rfl
  cases r with
  | nx st' => exact fun σ' g' H' s t => ⟨s.sh.gh a _ (at2 t), h σ' _ _ (s.chG (at2 t) hr) (t.lockG hG hu)⟩
  | bk st' => exact fun σ' g' H' s t => ⟨s.sh.gh a _ (at2 t), h σ' _ _ (s.chG (at2 t) hr) (t.lockG hG hu)⟩
  | ct st' => exact fun σ' g' H' s t => ⟨s.sh.gh a _ (at2 t), h σ' _ _ (s.chG (at2 t) hr) (t.lockG hG hu)⟩
  | ret x st' =>
    intro v g' H' s t fv
    refine ⟨s.gh a _ (at2 t), ?_⟩
    have s0 : SR Γ Z Lt g' ⟨[], st'.h⟩ [] H' := ⟨s, rfl, fun i x e => by simp at e⟩
    have s1 := s0.chG (at2 t) hr
    have le : GLe g'.G (g'.put a u).G := fun b w hw r => by
      by_cases c : b = a
      · subst c
        rcases r with r | ⟨ob', r⟩
        · rw [at2 t] at r; cases r; cases hw
        · rw [at2 t] at r; cases r; exact .inl put_same
      · rcases r with r | ⟨ob', r⟩
        · exact .inl (by rw [put_ne c]; exact r)
        · exact .inr ⟨ob', by rw [put_ne c]; exact r⟩
    refine h v _ _ s1.sh (t.lockG hG hu) ?_
    cases x with
    | val d => exact RD.mono le ⟨[], by simp⟩ d v fv
    | own d =>
      obtain ⟨b, eb, k1, k2, k3, k4, o, k5, k6⟩ := fv
      have ne : b ≠ a := fun q => by subst q; rw [at2 t] at k1; cases k1
      exact ⟨b, eb, by rw [put_ne ne]; exact k1, k2, k3, k4, o, by rw [upd_ne ne]; exact k5, k6.mono le ⟨[], by simp⟩⟩
    | lent d => obtain ⟨b, o, eb, k1, _⟩ := fv; cases k1
  | exc x st' => exact h.elim
  | bad => exact h.elim
theorem GoS.noE' {r : SRes} (h : GoS Γ W Z Lt D0 (noE r) g) : GoS Γ W Z Lt D0 r g := by
  cases r <;> first | exact h | exact h.elim
theorem _root_.L2.PS.or {X : Cx} {s : Stmt} {t u : TS} (h : PS X s t) (k : PS X s u) : PS X s (fun D σ H => t D σ H ∨ u D σ H) := ⟨fun pins st σ H D I q => by
  rcases q with q | q
  · exact h.run pins st σ H D I q
  · exact k.run pins st σ H D I q⟩
theorem RDk.get {i : Nat} : ∀ {kvs : List (Key × D)} {ws : List (Key × V)} {k : Key} {d : D}, RDk Γ g kvs ws → kvs[i]? = some (k, d) → ∃ v, ws[i]? = some (k, v) ∧ RD Γ g d v := by
  induction i with
  | zero =>
    intro kvs ws k d r e
    cases kvs with
    | nil => simp at e
    | cons p kvs =>
      simp at e; subst e
      simp only [RDk] at r
      obtain ⟨v, q, rfl, r1, r2⟩ := r
      exact ⟨v, rfl, r1⟩
  | succ i ih =>
    intro kvs ws k d r e
    cases kvs with
    | nil => simp at e
    | cons p kvs =>
      simp only [RDk] at r
      obtain ⟨v, q, rfl, r1, r2⟩ := r
      exact ih r2 (by simpa using e)
/-- the turns over the items of a locked dict -/
theorem items_J {kvs : List (Key × D)} {ws : List (Key × V)} {ob : Obj} {g0 : GM} (hz : ∀ g st σ H, SR Γ Z Lt g st σ H → GT Z g0 g → H a = some (.frz ob (.dK ws))) (rk : RDk Γ g0 kvs ws) :
    (∀ i H g st σ, i < (itemsD kvs).length → SR Γ Z Lt g st σ H → GT Z g0 g → (Iti a ob ws).go i H ∧ ∀ x H', (Iti a ob ws).yld i H x H' → ∃ g' d, (itemsD kvs)[i]? = some d ∧ SR Γ Z Lt g' st σ H' ∧ GT Z g g' ∧ RD Γ g' d x ∧ Quiet g H g' H') ∧
    (∀ H g st σ, SR Γ Z Lt g st σ H → GT Z g0 g → (Iti a ob ws).stop (itemsD kvs).length H) := by
  have hl : (itemsD kvs).length = ws.length := by unfold itemsD; rw [List.length_map, rk.length]
  refine ⟨fun i H g st σ hi s t => ?_, fun H g st σ s t => ⟨hz g st σ H s t, by rw [hl]; exact Nat.le_refl _⟩⟩
  rw [hl] at hi
  refine ⟨⟨hz g st σ H s t, hi⟩, fun x H' ⟨T, kk, vv, e1, e2, e3, e4⟩ => ?_⟩
  subst e2 e4
  have hk : i < kvs.length := by rw [rk.length]; exact hi
  rcases hp : kvs[i] with ⟨k1, d1⟩
  have e5 : kvs[i]? = some (k1, d1) := by rw [List.getElem?_eq_getElem hk, hp]
  obtain ⟨v1, e6, r1⟩ := (rk.up t).get e5
  rw [e1] at e6; cases e6
  have nn := (s.sh.new e3).2.1
  refine ⟨g.put T (.tup [kV kk, vv]), .tup [kD kk, d1], by unfold itemsD; rw [List.getElem?_map, e5]; rfl, s.new e3 _, GT.put nn, ?_, Quiet.put e3⟩
  simp only [RD]
  exact ⟨T, _, rfl, .inl (.inl put_same), RDs.cons (RD.kD kk) (RDs.cons (r1.up (GT.put (Z := Z) nn)) RDs.nil)⟩
theorem dic_lk {kvs : List (Key × D)} (c : CRz Γ g (.dic kvs) o) : ∃ ws, RDk Γ g kvs ws ∧ (o = .dK ws ∨ ∃ ob, o = .frz ob (.dK ws)) := by
  rcases c with c | ⟨ob, u, e, c⟩
  · obtain ⟨ws, rfl, r⟩ := c.dic
    exact ⟨ws, r, .inl rfl⟩
  · subst e
    obtain ⟨ws, rfl, r⟩ := c.dic
    exact ⟨ws, r, .inr ⟨ob, rfl⟩⟩
/-- the dict is locked, however it stands -/
theorem lock_run {te : TE} {W : WX} {tb : LS → SRes} {st : LS} {kvs : List (Key × D)} {t : TS} {D : Ends} (s : SR Γ Z Lt g st σ H) (ha : Z a = some o ∨ g.G a = some o) (hcr : CRz Γ g (.dic kvs) o) (h : GoS Γ W Z Lt D (noE (tb st)) g)
    (hq : ∀ Z' g' H', SR Γ Z' Lt g' st σ H' → g'.M = g.M → ∀ (D' : Ends) (ob : Obj) (ws : List (Key × V)), H' a = some (.frz ob (.dK ws)) → RDk Γ g' kvs ws → (∀ g2 st2 σ2 H2, SR Γ Z' Lt g2 st2 σ2 H2 → GT Z' g' g2 → H2 a = some (.frz ob (.dK ws))) → GoS Γ W Z' Lt D' (tb st) g' → t D' σ H') :
    t D σ H ∨ tLock t D σ H := by
  obtain ⟨ws, rk, rfl | ⟨ob, rfl⟩⟩ := dic_lk hcr
  · rcases ha with hz | hG
    · refine .inr ⟨a, .dK ws, s.sh.zh a _ hz, trivial, fun od => ?_⟩
      have s1 := s.chZ (u' := .frz od (.dK ws)) hz (s.unmark hz rfl) fun g d c => by
        rcases c with c | ⟨ob', u', e', c⟩
        · exact .inr ⟨od, _, rfl, c⟩
        · cases e'
      exact hq _ _ _ s1 rfl _ od ws upd_same rk (fun g2 st2 σ2 H2 s2 _ => s2.sh.zh a _ upd_same) (GoS.lockD (s.unmark hz rfl) hz h rfl)
    · refine .inr ⟨a, .dK ws, s.sh.gh a _ hG, trivial, fun od => ?_⟩
      have s1 := s.chG (u' := .frz od (.dK ws)) hG fun w hw c => by
        rcases c with c | ⟨ob', c⟩
        · subst c; exact .inr ⟨od, rfl⟩
        · cases c
      refine hq _ _ _ s1 rfl _ od ws upd_same ?_ (fun g2 st2 σ2 H2 s2 t2 => s2.sh.gh a _ (t2.lo a od _ put_same)) (GoS.lockG hG h rfl)
      refine RDk.mono ?_ ⟨[], by simp⟩ _ _ rk
      intro b w hw r
      by_cases c : b = a
      · subst c
        rcases r with r | ⟨ob', r⟩
        · rw [hG] at r; cases r; exact .inr ⟨od, put_same⟩
        · rw [hG] at r; cases r
      · rcases r with r | ⟨ob', r⟩
        · exact .inl (by rw [put_ne c]; exact r)
        · exact .inr ⟨ob', by rw [put_ne c]; exact r⟩
  · refine .inl ?_
    rcases ha with hz | hG
    · exact hq _ _ _ s rfl _ ob ws (s.sh.zh a _ hz) rk (fun g2 st2 σ2 H2 s2 _ => s2.sh.zh a _ hz) (GoS.noE' h)
    · exact hq _ _ _ s rfl _ ob ws (s.sh.gh a _ hG) rk (fun g2 st2 σ2 H2 s2 t2 => s2.sh.gh a _ (t2.lo a ob _ hG)) (GoS.noE' h)
theorem st_forI {elts : List Expr} {kk : Nat} {π : LS → Option (List (Key × D))} {tg : D → LS → Option LS} {is : List Nat} (hp : PassesOwn (model X.prog X.w) X.A X.env X.xe) (hc : X.calm = true) (x : PLt Γ X e π) (y : PTar Γ X (.Tuple elts kk tpos) is tg) (z : PSts Γ W X sts f1)
    (hbase : attributeBase e "items" X.env (eval e X.env) = eval e X.env := by rfl) (hline : (apos.endLine == mpos.line) = true := by rfl)
    (hs : ∀ x, foldedSetIterable (.Call (.Attribute e "items" apos) [] [] mpos) X.env x = pure x := by intro _; rfl) : PSt Γ W X (.For (.Tuple elts kk tpos) (.Call (.Attribute e "items" apos) [] [] mpos) sts [] pos) (sForI π tg f1) := by
  obtain ⟨te, h1, h2⟩ := x.pl
  obtain ⟨gg, g1, g2⟩ := y.pg
  have base := ps_for (pos := pos) hp hc (pi_items (tpos := tpos) (kk := kk) (elts := elts) h1 hbase hline) g1 z.ps hs
  refine ⟨(base.or (ps_lock base)).csq fun D σ H ⟨Z, Lt, g, st, s, h⟩ => ?_⟩
  unfold sForI at h
  cases eπ : π st with
  | none => rw [eπ] at h; exact h.elim
  | some kvs =>
    rw [eπ] at h
    simp only at h
    obtain ⟨a, o, hz, hcr, hq⟩ := h2 Z Lt g st σ H kvs s eπ
    refine lock_run (te := te) (tb := fun st => turns tg f1 (itemsD kvs) st) s hz hcr h fun Z' g' H' s' m D' ob ws ha rk hst hgo => ?_
    refine hq _ _ _ _ s' m ⟨a, ob, ws, rfl, ha, ?_⟩
    obtain ⟨j1, j2⟩ := items_J (Lt := Lt) (Z := Z') (g0 := g') hst rk
    exact turns_run g2 j1 j2 s' hgo
end
end PL

/-! PyLite, part x: pop, extend, list of a dict; equations of the parts v and w. -/
namespace PLR
open PySem PySem.Spec PyProof.Rows L2
end PLR
namespace PL
open PySem PySem.Spec PyProof.Rows L2
section
variable {Γ : Tab} {W : WX} {Z Z' : Hp} {Lt Lt' : Lend} {g g' : GM} {st st' : LS} {σ σ' : L2.St} {H H' : Hp} {h h' : List LO} {a p : Addr} {o : HO} {d : D} {v : V} {X : Cx} {e e1 e2 e3 : Expr} {es : List Expr} {f k l : E D} {pos pos2 ppos apos tpos mpos : Pos} {stm : Stmt} {sts : List Stmt} {f1 f2 : S} {D0 : Ends}
/-! ### x.pop(i), x.pop() of a name's own list -/
theorem RDs.dropLast : ∀ {ds : List D} {vs : List V}, RDs Γ g ds vs → RDs Γ g ds.dropLast vs.dropLast
  | [], vs, r => by simp only [RDs] at r; subst r; simpa using RDs.nil
  | [d], vs, r => by
    simp only [RDs] at r
    obtain ⟨w, q, rfl, r1, rfl⟩ := r
    simpa using RDs.nil
  | d :: d' :: ds, vs, r => by
    simp only [RDs] at r
    obtain ⟨w, q, rfl, r1, w2, q2, rfl, r3, r4⟩ := r
    have := RDs.dropLast (ds := d' :: ds) (RDs.cons r3 r4)
    simpa using RDs.cons r1 this
/-! ### x.extend(e) of a name's own list -/
/-! ### equations -/
@[simp] theorem eLendF_s {α : Type} {f : E α} (j i : Nat) : eLendF j i f st = match st.objAt j with
  | some r => match st.fld r i with
    | some (.own d) => (f (st.setF r i (.lent d))).unF r i
    | _ => f st
  | none => .bad := id rfl
@[simp] theorem sLendF_s (j i : Nat) : sLendF j i f1 st = match st.objAt j with
  | some r => match st.fld r i with
    | some (.own d) => (f1 (st.setF r i (.lent d))).unF r i
    | _ => f1 st
  | none => .bad := id rfl
@[simp] theorem unF_ok {α : Type} {a : α} (r i : Nat) : (Res.ok a st).unF r i = match st.fld r i with
    | some (.lent d) => .ok a (st.setF r i (.own d))
    | _ => .bad := id rfl
@[simp] theorem unF_exc {α : Type} {x : XV} (r i : Nat) : (Res.exc x st : Res α).unF r i = match st.fld r i with
    | some (.lent d) => .exc x (st.setF r i (.own d))
    | _ => .bad := id rfl
@[simp] theorem sunF_nx (r i : Nat) : (SRes.nx st).unF r i = match st.fld r i with
    | some (.lent d) => .nx (st.setF r i (.own d))
    | _ => .bad := id rfl
@[simp] theorem sunF_ret {x : FV} (r i : Nat) : (SRes.ret x st).unF r i = match st.fld r i with
    | some (.lent d) => .ret x (st.setF r i (.own d))
    | _ => .bad := id rfl
@[simp] theorem sAppF_s (j i : Nat) : sAppF j i f st = match st.objAt j with
  | some r => match st.fld r i with
    | some (.own (.lst ds0)) => SRes.of ((f (st.setF r i (.lent (.lst ds0)))).unF r i) fun y s1 => match s1.fld r i with
      | some (.own (.lst ds)) => if ds.length < 16777216 then .nx (s1.setF r i (.own (.lst (ds ++ [y])))) else .bad
      | _ => .bad
    | _ => .bad
  | none => .bad := id rfl
@[simp] theorem sPutF_s (j i : Nat) : sPutF j i k f st = SRes.of (f st) fun d s1 => match s1.objAt j with
  | some r => match s1.fld r i with
    | some (.own (.lst ds0)) => SRes.of ((k (s1.setF r i (.lent (.lst ds0)))).unF r i) fun jx s2 => match s2.fld r i, jx with
      | some (.own (.lst ds)), .int q => match ixD ds.length q with
        | some n => .nx (s2.setF r i (.own (.lst (ds.set n d))))
        | none => .bad
      | _, _ => .bad
    | _ => .bad
  | none => .bad := id rfl
@[simp] theorem ownD_s (s : List (Option FV)) (h : List LO) (n : Nat) : LS.ownD ⟨s, h⟩ n = match s[n]? with
  | some (some (.own (.dic ds))) => some ds
  | _ => none := id rfl
@[simp] theorem dKey_i (i : Int) : dKey (.int i) = some (.inl i) := id rfl
@[simp] theorem dKey_s (i : Str) : dKey (.str i) = some (.inr i) := id rfl
@[simp] theorem kD_i (i : Int) : kD (.inl i) = .int i := id rfl
@[simp] theorem kD_s (i : Str) : kD (.inr i) = .str i := id rfl
@[simp] theorem eDGet2_s : eDGet2 f k l st = (f st).bind fun x s1 => match x with
  | .dic kvs => (k s1).bind fun y s2 => (l s2).bind fun z s3 => match dKey y with
    | some q => .ok ((valD kvs q).getD z) s3
    | none => .bad
  | _ => .bad := id rfl
@[simp] theorem eDNew_s : eDNew st = .ok (.dic []) st := id rfl
@[simp] theorem sDPut_s (i : Nat) : sDPut i k f st = SRes.of (f st) fun d s1 => match s1.ownD i with
  | some _ => SRes.of (k s1) fun y s2 => match s2.ownD i, dKey y with
    | some kvs, some q => if kvs.length < 16777216 then .nx (s2.set i (.own (.dic (putD kvs q d)))) else .bad
    | _, _ => .bad
  | none => .bad := id rfl
@[simp] theorem sDPutF_s (j i : Nat) : sDPutF j i k f st = SRes.of (f st) fun d s1 => match s1.objAt j with
  | some r => match s1.fld r i with
    | some (.own (.dic ds0)) => SRes.of ((k (s1.setF r i (.lent (.dic ds0)))).unF r i) fun jx s2 => match s2.fld r i, dKey jx with
      | some (.own (.dic kvs)), some q => if kvs.length < 16777216 then .nx (s2.setF r i (.own (.dic (putD kvs q d)))) else .bad
      | _, _ => .bad
    | _ => .bad
  | none => .bad := id rfl
@[simp] theorem mSortedX_l (ds : List D) : mSortedX (.lst ds) st = match intsD ds with
    | some ns => .ok (.lst ((srt ns).map D.int)) st
    | none => .bad := id rfl
@[simp] theorem mSortedX_d (ds : List (Key × D)) : mSortedX (.dic ds) st = match keysD ds with
    | some ns => .ok (.lst ((srt ns).map D.int)) st
    | none => .bad := id rfl
@[simp] theorem mSortedVR_d (ds : List (Key × D)) : mSortedVR (.dic ds) st = match intsD (ds.map (·.2)) with
    | some ns => .ok (.lst ((srt ns).reverse.map D.int)) st
    | none => .bad := id rfl
@[simp] theorem mListV_d (ds : List (Key × D)) : mListV (.dic ds) st = .ok (.lst (ds.map (·.2))) st := id rfl
@[simp] theorem mDictC_d (ds : List (Key × D)) : mDictC (.dic ds) st = .ok (.dic ds) st := id rfl
@[simp] theorem noE_nx : noE (.nx st) = .nx st := id rfl
@[simp] theorem noE_ret {z : FV} : noE (.ret z st) = .ret z st := id rfl
@[simp] theorem sForI_s (π : LS → Option (List (Key × D))) (tg : D → LS → Option LS) : sForI π tg f1 st = match π st with
  | some kvs => noE (turns tg f1 (itemsD kvs) st)
  | none => .bad := id rfl
@[simp] theorem πV_s (s : List (Option FV)) (h : List LO) (i : Nat) : πV i ⟨s, h⟩ = match s[i]? with
  | some (some (.lent (.dic kvs))) => some kvs
  | some (some (.val (.dic kvs))) => some kvs
  | _ => none := id rfl
@[simp] theorem πF_s (j i : Nat) : πF j i st = match st.objAt j with
  | some r => match st.fld r i with
    | some (.lent (.dic kvs)) => some kvs
    | _ => none
  | none => none := id rfl
end
end PL

namespace PX
open PySem PySem.Spec PyProof.Rows L2 PL
@[irreducible] noncomputable def F_mix : Fn := fn 3 <|
  sRet (eBin mMod (eBin mMul (vVar 0) (vVar 1)) (vVar 2))
end PX

/-! What the laws' common helpers answer; data equal to themselves. -/
namespace PX
open PySem PySem.Spec PyProof.Rows L2 PL
theorem mix_v (c f p : Int) (h : List LO) (hc : CMulX c f) (hp : 0 < p) : F_mix [.val (.int c), .val (.int f), .val (.int p)] h = .ret (.val (.int (c * f % p))) h := by
  unfold F_mix
  simp [fn_s, hc, hp]
theorem cutD_map (ns : List Int) (lo hi : Option Int) : PL.cutD (ns.map D.int) lo hi = (PL.cutD ns lo hi).map D.int := by
  unfold PL.cutD
  simp [List.map_take, List.map_drop]
theorem hset {h : List LO} {r : Nat} {b : LO} (e : h[r]? = some b) (a : LO) : (h.set r a)[r]? = some a := List.getElem?_set_self (List.getElem?_eq_some_iff.mp e).1
mutual
theorem deq_refl : ∀ (n : Nat) (d : D), pln n d = true → deq d d = true
  | n, .non, _ => by simp [deq]
  | n, .bl b, _ => by simp [deq]
  | n, .int b, _ => by simp [deq]
  | n, .str b, _ => by simp [deq]
  | n + 1, .tup ds, h => by
    simp only [deq]
    exact deqs_refl n ds (by simpa [pln] using h)
  | n + 1, .lst ds, h => by
    simp only [deq]
    exact deqs_refl n ds (by simpa [pln] using h)
  | 0, .tup ds, h => by simp [pln] at h
  | 0, .lst ds, h => by simp [pln] at h
  | n, .dic ds, h => by cases n <;> simp [pln] at h
  | n, .obj ds, h => by cases n <;> simp [pln] at h
  | n, .err ds, h => by cases n <;> simp [pln] at h
theorem deqs_refl : ∀ (n : Nat) (ds : List D), plns n ds = true → deqs ds ds = true
  | _, [], _ => by simp [deqs]
  | n, d :: ds, h => by
    simp only [plns, Bool.and_eq_true] at h
    simp only [deqs, Bool.and_eq_true]
    exact ⟨deq_refl n d h.1, deqs_refl n ds h.2⟩
end
theorem plns_map {α : Type} {f : α → D} {n : Nat} (hf : ∀ a, pln n (f a) = true) : ∀ (xs : List α), plns n (xs.map f) = true
  | [] => by simp
  | x :: xs => by simp [hf, plns_map hf xs]
theorem at2 (a b : D) : PL.atD [a, b] 0 = some a ∧ PL.atD [a, b] 1 = some b := ⟨rfl, rfl⟩
theorem atD_mid (xs zs : List D) (y : D) (n : Int) (hn : n = (xs.length : Int)) : PL.atD (xs ++ y :: zs) n = some y := by
  subst hn
  unfold PL.atD
  rw [if_pos (by omega)]
  simp
theorem cut_hi (xs : List D) (n : Int) (m : Nat) (hn : n = (m : Int)) : PL.cutD xs (some n) none = xs.drop m := by
  subst hn
  unfold PL.cutD PL.cutI
  simp only
  rw [if_neg (by omega)]
  simp only [Int.toNat_natCast]
  by_cases q : m ≤ xs.length
  · rw [Nat.min_eq_left q, List.take_of_length_le (by simp)]
  · rw [Nat.min_eq_right (by omega), List.drop_length, List.drop_eq_nil_of_le (by omega)]; simp
/-- a loop over a range by an invariant on the turn -/
theorem range_inv {tg : D → LS → Option LS} {b : S} (I : Nat → LS → Prop) (n : Nat) (step : ∀ i st, i < n → I i st → ∃ s1, tg (.int (i : Nat)) st = some s1 ∧ ∃ s2, (b s1 = .nx s2 ∨ b s1 = .ct s2) ∧ I (i + 1) s2) (st : LS) (h0 : I 0 st) :
    ∃ st', turns tg b (rangeD 0 n) st = .nx st' ∧ I n st' := by
  have key : ∀ (k i : Nat) (st : LS), i + k = n → I i st → ∃ st', turns tg b ((List.range' i k).map fun (j : Nat) => D.int (0 + (j : Int))) st = .nx st' ∧ I n st' := by
    intro k
    induction k with
    | zero => intro i st e hI; exact ⟨st, rfl, by rw [← e]; exact hI⟩
    | succ k ih =>
      intro i st e hI
      obtain ⟨s1, e1, s2, e2, h2⟩ := step i st (by omega) hI
      obtain ⟨st', e3, h3⟩ := ih (i + 1) s2 (by omega) h2
      refine ⟨st', ?_, h3⟩
      rw [List.range'_succ, List.map_cons, turns, Int.zero_add, e1]
      rcases e2 with e2 | e2 <;> simp only [e2, e3]
  obtain ⟨st', e, h1⟩ := key n 0 st (by omega) h0
  exact ⟨st', by unfold rangeD; rw [List.range_eq_range']; exact e, h1⟩
theorem happ (h : List LO) (x : LO) : (h ++ [x])[h.length]? = some x := by simp
theorem happ_lt {h : List LO} {r : Nat} {y : LO} (e : h[r]? = some y) (t : List LO) : (h ++ t)[r]? = some y := by
  rw [List.getElem?_append_left (List.getElem?_eq_some_iff.mp e).1]; exact e
theorem hset_end (h : List LO) (x y : LO) : (h ++ [x]).set h.length y = h ++ [y] := by simp
theorem hset_lt {h : List LO} {r : Nat} {y : LO} (e : h[r]? = some y) (t : List LO) (z : LO) : (h ++ t).set r z = h.set r z ++ t := List.set_append_left _ _ (List.getElem?_eq_some_iff.mp e).1
theorem at3 (f e w : D) : PL.atD [f, e, w] 0 = some f ∧ PL.atD [f, e, w] 1 = some e ∧ PL.atD [f, e, w] 2 = some w := ⟨rfl, rfl, rfl⟩
theorem at6 (a b c d e f : D) : PL.atD [a, b, c, d, e, f] 0 = some a ∧ PL.atD [a, b, c, d, e, f] 1 = some b ∧ PL.atD [a, b, c, d, e, f] 2 = some c ∧ PL.atD [a, b, c, d, e, f] 3 = some d ∧ PL.atD [a, b, c, d, e, f] 4 = some e ∧ PL.atD [a, b, c, d, e, f] 5 = some f := ⟨rfl, rfl, rfl, rfl, rfl, rfl⟩
theorem at0 (d : D) (ds : List D) : PL.atD (d :: ds) 0 = some d := rfl
theorem atD_nat (ds : List D) (i : Nat) : PL.atD ds (i : Int) = ds[i]? := by
  unfold PL.atD
  rw [if_pos (by omega)]
  simp
/-- what each number leads to, chosen -/
theorem choose_fn {α : Type} {P : Int → Prop} {Q : Int → α → Prop} (d : α) (h : ∀ z, P z → ∃ a, Q z a) : ∃ f : Int → α, ∀ z, P z → Q z (f z) := by
  have h' : ∀ z, ∃ a, P z → Q z a := fun z => by
    by_cases p : P z
    · obtain ⟨a, q⟩ := h z p; exact ⟨a, fun _ => q⟩
    · exact ⟨d, fun p' => absurd p' p⟩
  obtain ⟨f, hf⟩ := Classical.axiomOfChoice h'
  exact ⟨f, hf⟩
theorem set_self {h : List LO} {r : Nat} {y : LO} (e : h[r]? = some y) : h.set r y = h := by
  obtain ⟨a, b⟩ := List.getElem?_eq_some_iff.mp e
  rw [← b]; simp
end PX

/-! Steps of loops. -/
namespace PX
open PySem PySem.Spec PyProof.Rows L2 PL
theorem turns_step {tg : D → LS → Option LS} {b : S} {d : D} {ds : List D} {st s1 s2 : LS} {r : SRes} (h1 : tg d st = some s1) (h2 : b s1 = .nx s2 ∨ b s1 = .ct s2) (h3 : turns tg b ds s2 = r) : turns tg b (d :: ds) st = r := by
  rw [turns, h1]
  rcases h2 with h2 | h2 <;> simp only [h2, h3]
theorem tgN_set (i : Nat) (d : D) (s : List (Option FV)) (h : List LO) : tgN i d ⟨s, h⟩ = some ⟨s.set i (some (.val d)), h⟩ := rfl
theorem rg3 : rangeD 0 3 = [.int 0, .int 1, .int 2] := rfl
end PX

/-! The plain law of counts: what stays between what bounds. -/
namespace PX
open PL
noncomputable abbrev Cnt := List (Int × Int)
noncomputable def getC (fs : Cnt) (x : Int) : Int := ((fs.find? fun p => decide (p.1 = x)).map (·.2)).getD 0
noncomputable def hasC (fs : Cnt) (x : Int) : Bool := fs.any fun p => decide (p.1 = x)
noncomputable def putC (fs : Cnt) (x v : Int) : Cnt := if hasC fs x = true then fs.map (fun p => if p.1 = x then (p.1, v) else p) else fs ++ [(x, v)]
noncomputable def addC (fs : Cnt) (x w : Int) : Cnt := putC fs x (getC fs x + w)
noncomputable def mergeC (a b : Cnt) : Cnt := b.foldl (fun acc p => addC acc p.1 p.2) a
noncomputable def sumC (fs : Cnt) : Int := (fs.map (·.2)).sum
noncomputable def cutC (room : Nat) (fs : Cnt) : Int := if fs.length ≤ room then 0 else ((srt (fs.map (·.2))).reverse[room]?).getD 0
noncomputable def fallC (c : Int) (fs : Cnt) : Cnt := (fs.filter fun p => decide (c < p.2)).map fun p => (p.1, p.2 - c)
structure Ok0 (fs : Cnt) : Prop where
  nd : (fs.map (·.1)).Nodup
  pos : ∀ p ∈ fs, 1 ≤ p.2
theorem getC_nil (x : Int) : getC [] x = 0 := rfl
theorem getC_cons (p : Int × Int) (fs : Cnt) (x : Int) : getC (p :: fs) x = if p.1 = x then p.2 else getC fs x := by
  unfold getC
  rw [List.find?_cons]
  by_cases c : p.1 = x <;> simp [c]
theorem hasC_cons (p : Int × Int) (fs : Cnt) (x : Int) : hasC (p :: fs) x = (decide (p.1 = x) || hasC fs x) := by
  unfold hasC; rw [List.any_cons]
theorem hasC_iff {fs : Cnt} {x : Int} : hasC fs x = true ↔ x ∈ fs.map (·.1) := by
  unfold hasC
  simp [List.any_eq_true]
theorem getC_none {fs : Cnt} {x : Int} (h : hasC fs x = false) : getC fs x = 0 := by
  induction fs with
  | nil => rfl
  | cons p fs ih =>
    rw [hasC_cons] at h
    simp at h
    rw [getC_cons, if_neg h.1, ih (by simpa using h.2)]
theorem getC_put (fs : Cnt) (x v y : Int) : getC (putC fs x v) y = if y = x then v else getC fs y := by
  unfold putC
  cases h : hasC fs x with
  | true =>
    rw [if_pos rfl]
    induction fs with
    | nil => simp [hasC] at h
    | cons p fs ih =>
      rw [List.map_cons, getC_cons, getC_cons]
      by_cases c : p.1 = x
      · rw [if_pos c]
        by_cases d : y = x
        · subst d; simp [c]
        · have : ¬ p.1 = y := fun e => d (by omega)
          simp only [if_neg this, if_neg d]
          cases h2 : hasC fs x with
          | true => rw [ih h2, if_neg d]
          | false =>
            have : fs.map (fun p => if p.1 = x then (p.1, v) else p) = fs := by
              conv => rhs; rw [← List.map_id fs]
              refine List.map_congr_left fun q m => ?_
              have : ¬ q.1 = x := fun e => by
                have : hasC fs x = true := hasC_iff.mpr (List.mem_map.mpr ⟨q, m, e⟩)
                rw [h2] at this; cases this
              simp [this]
            rw [this]
      · rw [if_neg c]
        have h2 : hasC fs x = true := by rw [hasC_cons] at h; simpa [c] using h
        rw [ih h2]
        by_cases d : y = x
        · subst d; simp [c]
        · simp [d]
  | false =>
    rw [if_neg (by decide)]
    induction fs with
    | nil =>
      rw [List.nil_append, getC_cons, getC_nil]
      by_cases d : y = x
      · subst d; simp
      · have d' : ¬ x = y := fun e => d e.symm
        simp [d, d']
    | cons p fs ih =>
      rw [hasC_cons] at h
      simp at h
      rw [List.cons_append, getC_cons, getC_cons, ih (by simpa using h.2)]
      by_cases d : y = x
      · subst d; simp [h.1]
      · simp [d]
theorem putC_keys (fs : Cnt) (x v : Int) : (putC fs x v).map (·.1) = if hasC fs x = true then fs.map (·.1) else fs.map (·.1) ++ [x] := by
  unfold putC
  split
  · rw [List.map_map]
    refine List.map_congr_left fun p _ => ?_
    simp only [Function.comp]
    split <;> rfl
  · simp
theorem putC_nd {fs : Cnt} {x v : Int} (h : (fs.map (·.1)).Nodup) : ((putC fs x v).map (·.1)).Nodup := by
  rw [putC_keys]
  split
  · exact h
  · rename_i c
    rw [List.nodup_append]
    refine ⟨h, by simp, fun a m b e => ?_⟩
    simp at e
    subst e
    intro e; subst e
    exact c (hasC_iff.mpr m)
theorem putC_pos {fs : Cnt} {x v : Int} (h : ∀ p ∈ fs, 1 ≤ p.2) (hv : 1 ≤ v) : ∀ p ∈ putC fs x v, 1 ≤ p.2 := by
  intro p m
  unfold putC at m
  split at m
  · obtain ⟨q, mq, rfl⟩ := List.mem_map.mp m
    split
    · exact hv
    · exact h q mq
  · rcases List.mem_append.mp m with m | m
    · exact h p m
    · simp at m; subst m; exact hv
theorem putC_len (fs : Cnt) (x v : Int) : fs.length ≤ (putC fs x v).length ∧ (putC fs x v).length ≤ fs.length + 1 := by
  unfold putC
  split <;> simp
theorem getC_nn {fs : Cnt} (h : ∀ p ∈ fs, 1 ≤ p.2) (x : Int) : 0 ≤ getC fs x := by
  induction fs with
  | nil => simp [getC_nil]
  | cons p fs ih =>
    rw [getC_cons]
    have := h p (by simp)
    have := ih fun q m => h q (by simp [m])
    split <;> omega
theorem sumC_cons (p : Int × Int) (fs : Cnt) : sumC (p :: fs) = p.2 + sumC fs := by unfold sumC; simp
theorem sumC_app (a b : Cnt) : sumC (a ++ b) = sumC a + sumC b := by unfold sumC; simp
theorem sumC_put {fs : Cnt} (nd : (fs.map (·.1)).Nodup) (x v : Int) : sumC (putC fs x v) = sumC fs - getC fs x + v := by
  unfold putC
  cases h : hasC fs x with
  | false => rw [if_neg (by decide), sumC_app, getC_none h]; simp [sumC]
  | true =>
    rw [if_pos rfl]
    induction fs with
    | nil => simp [hasC] at h
    | cons p fs ih =>
      rw [List.map_cons, List.nodup_cons] at nd
      rw [List.map_cons, sumC_cons, sumC_cons, getC_cons]
      by_cases c : p.1 = x
      · subst c
        simp only [if_true]
        have : fs.map (fun q => if q.1 = p.1 then (q.1, v) else q) = fs := by
          conv => rhs; rw [← List.map_id fs]
          refine List.map_congr_left fun q m => ?_
          have : ¬ q.1 = p.1 := fun e => nd.1 (e ▸ List.mem_map.mpr ⟨q, m, rfl⟩)
          simp [this]
        rw [this]; omega
      · simp only [if_neg c]
        rw [ih nd.2 (by rw [hasC_cons] at h; simpa [c] using h)]
        omega
/-! ### falling -/
theorem perm_sum {v w : List Int} (p : v.Perm w) : v.sum = w.sum := by
  induction p with
  | nil => rfl
  | cons x _ ih => simp [ih]
  | swap x y l => simp; omega
  | trans _ _ a b => exact a.trans b
noncomputable def gS (c : Int) (v : List Int) : Int := (v.map fun a => if c < a then a - c else 0).sum
theorem gS_perm {c : Int} {v w : List Int} (p : v.Perm w) : gS c v = gS c w := by
  unfold gS; exact perm_sum (p.map _)
theorem gS_app (c : Int) (v w : List Int) : gS c (v ++ w) = gS c v + gS c w := by unfold gS; simp
theorem gS_hi {c : Int} : ∀ {v : List Int}, (∀ a ∈ v, c ≤ a) → gS c v = v.sum - (v.length : Int) * c
  | [], _ => by simp [gS]
  | a :: v, h => by
    have ih := gS_hi (v := v) fun b m => h b (by simp [m])
    have ha := h a (by simp)
    have e1 : gS c (a :: v) = (if c < a then a - c else 0) + gS c v := by unfold gS; simp
    rw [e1, ih, List.sum_cons, List.length_cons]
    have : ((v.length + 1 : Nat) : Int) * c = (v.length : Int) * c + c := by push_cast; rw [Int.add_mul]; simp
    rw [this]
    split <;> omega
theorem gS_lo {c : Int} : ∀ {v : List Int}, (∀ a ∈ v, a ≤ c) → gS c v = 0
  | [], _ => by simp [gS]
  | a :: v, h => by
    have ih := gS_lo (v := v) fun b m => h b (by simp [m])
    have ha := h a (by simp)
    have e1 : gS c (a :: v) = (if c < a then a - c else 0) + gS c v := by unfold gS; simp
    rw [e1, ih, if_neg (by omega)]; rfl
theorem sumC_fall (c : Int) (fs : Cnt) : sumC (fallC c fs) = gS c (fs.map (·.2)) := by
  induction fs with
  | nil => rfl
  | cons p fs ih =>
    unfold fallC gS at *
    rw [List.filter_cons]
    by_cases h : c < p.2
    · simp only [h, decide_true, if_true, List.map_cons, sumC_cons, ih, List.sum_cons]
    · simp only [h, decide_false, Bool.false_eq_true, if_false, List.map_cons, ih, List.sum_cons]; omega
theorem fall_zero {fs : Cnt} (h : ∀ p ∈ fs, 1 ≤ p.2) : fallC 0 fs = fs := by
  unfold fallC
  rw [List.filter_eq_self.mpr (by intro p m; have := h p m; simp; omega)]
  conv => rhs; rw [← List.map_id fs]
  exact List.map_congr_left fun p _ => by simp
theorem fall_nd {c : Int} {fs : Cnt} (h : (fs.map (·.1)).Nodup) : ((fallC c fs).map (·.1)).Nodup := by
  unfold fallC
  rw [List.map_map]
  exact h.sublist ((List.filter_sublist (l := fs)).map _)
theorem fall_pos {c : Int} {fs : Cnt} : ∀ p ∈ fallC c fs, 1 ≤ p.2 := by
  intro p m
  unfold fallC at m
  obtain ⟨q, mq, rfl⟩ := List.mem_map.mp m
  have := (List.mem_filter.mp mq).2
  simp at this ⊢; omega
theorem fall_len_le (c : Int) (fs : Cnt) : (fallC c fs).length ≤ fs.length := by
  unfold fallC; simp; exact List.length_filter_le _ _
theorem fall_keys {c : Int} {fs : Cnt} {x : Int} (m : x ∈ (fallC c fs).map (·.1)) : x ∈ fs.map (·.1) := by
  unfold fallC at m
  simp at m ⊢
  obtain ⟨v, h, _⟩ := m
  exact ⟨v, h⟩
theorem getC_fall {c : Int} {fs : Cnt} (nd : (fs.map (·.1)).Nodup) (h0 : 0 ≤ c) (x : Int) : getC (fallC c fs) x = if c < getC fs x then getC fs x - c else 0 := by
  induction fs with
  | nil => simp [fallC, getC_nil]; omega
  | cons p fs ih =>
    rw [List.map_cons, List.nodup_cons] at nd
    have ih := ih nd.2
    have e : fallC c (p :: fs) = if c < p.2 then (p.1, p.2 - c) :: fallC c fs else fallC c fs := by
      unfold fallC; rw [List.filter_cons]; by_cases h : c < p.2 <;> simp [h]
    rw [e, getC_cons]
    by_cases d : p.1 = x
    · subst d
      have hn : hasC (fallC c fs) p.1 = false := by
        cases h : hasC (fallC c fs) p.1 with
        | false => rfl
        | true => exact absurd (fall_keys (hasC_iff.mp h)) nd.1
      by_cases h : c < p.2
      · simp [h, getC_cons]
      · simp [h, getC_none hn]
    · by_cases h : c < p.2
      · simp [h, getC_cons, d, ih]
      · simp [h, d, ih]
theorem split_at {α : Type} {s : List α} {r : Nat} (h : r < s.length) : s = s.take r ++ s[r] :: s.drop (r + 1) := by
  rw [← List.drop_eq_getElem_cons h, List.take_append_drop]
theorem cut_spec (room : Nat) (fs : Cnt) (h : room < fs.length) : ∃ A B : List Int, (fs.map (·.2)).Perm (A ++ cutC room fs :: B) ∧ A.length = room ∧ (∀ a ∈ A, cutC room fs ≤ a) ∧ (∀ b ∈ B, b ≤ cutC room fs) := by
  have hl : room < (srt (fs.map (·.2))).reverse.length := by simpa using h
  have e : cutC room fs = (srt (fs.map (·.2))).reverse[room] := by
    unfold cutC; rw [if_neg (by omega), List.getElem?_eq_getElem hl]; rfl
  have sp := split_at hl
  have so : (srt (fs.map (·.2))).reverse.Pairwise (fun a b => b ≤ a) := List.pairwise_reverse.mpr (srt_sorted _)
  rw [← e] at sp
  rw [sp] at so
  rw [List.pairwise_append] at so
  obtain ⟨_, so2, so3⟩ := so
  rw [List.pairwise_cons] at so2
  refine ⟨_, _, ?_, by rw [List.length_take]; omega, fun a m => so3 a m _ (by simp), fun b m => so2.1 b m⟩
  rw [← sp]
  exact ((List.reverse_perm _).trans (srt_perm _)).symm
theorem cut_nn {room : Nat} {fs : Cnt} (h : ∀ p ∈ fs, 1 ≤ p.2) : 0 ≤ cutC room fs := by
  by_cases c : fs.length ≤ room
  · unfold cutC; rw [if_pos c]; decide
  · obtain ⟨A, B, p, _, _, _⟩ := cut_spec room fs (by omega)
    have : cutC room fs ∈ fs.map (·.2) := p.mem_iff.mpr (by simp)
    obtain ⟨q, m, e⟩ := List.mem_map.mp this
    have := h q m
    omega
theorem fall_room (room : Nat) (fs : Cnt) : (fallC (cutC room fs) fs).length ≤ room := by
  by_cases c : fs.length ≤ room
  · exact Nat.le_trans (fall_len_le _ _) c
  · obtain ⟨A, B, p, hA, h1, h2⟩ := cut_spec room fs (by omega)
    have e : (fallC (cutC room fs) fs).length = ((fs.map (·.2)).filter fun a => decide (cutC room fs < a)).length := by
      unfold fallC
      rw [List.length_map, List.filter_map, List.length_map]; rfl
    rw [e, (p.filter _).length_eq, List.filter_append, List.length_append, List.filter_cons]
    have hB : B.filter (fun a => decide (cutC room fs < a)) = [] := by
      rw [List.filter_eq_nil_iff]
      intro b m; have := h2 b m; simp; omega
    rw [hB]
    have := List.length_filter_le (fun a => decide (cutC room fs < a)) A
    simp; omega
theorem fall_sum (room : Nat) (fs : Cnt) (h : ∀ p ∈ fs, 1 ≤ p.2) : sumC (fallC (cutC room fs) fs) + ((room : Int) + 1) * cutC room fs ≤ sumC fs ∧ (fs.length ≤ room + 1 → sumC (fallC (cutC room fs) fs) + ((room : Int) + 1) * cutC room fs = sumC fs) := by
  by_cases c : fs.length ≤ room
  · have e : cutC room fs = 0 := by unfold cutC; rw [if_pos c]
    rw [e, fall_zero h]; simp
  · obtain ⟨A, B, p, hA, h1, h2⟩ := cut_spec room fs (by omega)
    rw [sumC_fall, gS_perm p, gS_app]
    have e1 := gS_hi (v := A) h1
    have e2 : gS (cutC room fs) (cutC room fs :: B) = 0 := gS_lo fun a m => by rcases List.mem_cons.mp m with rfl | m; exact Int.le_refl _; exact h2 a m
    have e3 : sumC fs = A.sum + (cutC room fs + B.sum) := by unfold sumC; rw [perm_sum p]; simp
    rw [e1, e2, e3, hA, Int.add_mul, Int.one_mul]
    have hB : 0 ≤ B.sum := by
      have : ∀ b ∈ B, (1 : Int) ≤ b := fun b m => by
        have : b ∈ fs.map (·.2) := p.mem_iff.mpr (by simp [m])
        obtain ⟨q, mq, rfl⟩ := List.mem_map.mp this
        exact h q mq
      clear e1 e2 e3 h1 h2 p
      induction B with
      | nil => simp
      | cons b B ih => have h1 := this b (by simp); have h2 := ih fun c m => this c (by simp [m]); simp; omega
    refine ⟨by omega, fun hl => ?_⟩
    have hl2 := p.length_eq
    simp at hl2
    have : B = [] := List.eq_nil_of_length_eq_zero (by omega)
    rw [this]; simp; omega
/-! ### a keeper of counts -/
structure Frq where
  total : Int
  lost : Int
  fs : Cnt
noncomputable def Frq.zero : Frq := ⟨0, 0, []⟩
noncomputable def Frq.add (room : Nat) (F : Frq) (x w : Int) : Frq := ⟨F.total + w, F.lost + cutC room (addC F.fs x w), fallC (cutC room (addC F.fs x w)) (addC F.fs x w)⟩
noncomputable def Frq.pour (room : Nat) (A B : Frq) : Frq := ⟨A.total + B.total, A.lost + B.lost + cutC room (mergeC A.fs B.fs), fallC (cutC room (mergeC A.fs B.fs)) (mergeC A.fs B.fs)⟩
/-- what holds of counts of weights -/
structure OkF (room : Nat) (F : Frq) (tr : Int → Int) : Prop where
  ok : Ok0 F.fs
  len : F.fs.length ≤ room
  lost : 0 ≤ F.lost
  bd : ∀ x, getC F.fs x ≤ tr x ∧ tr x ≤ getC F.fs x + F.lost
  sum : sumC F.fs + ((room : Int) + 1) * F.lost ≤ F.total
theorem OkF.zero (room : Nat) : OkF room .zero fun _ => 0 := ⟨⟨by simp [Frq.zero], by simp [Frq.zero]⟩, by simp [Frq.zero], by simp [Frq.zero], by simp [Frq.zero, getC_nil], by simp [Frq.zero, sumC]⟩
noncomputable def upT (tr : Int → Int) (x w : Int) : Int → Int := fun y => if y = x then tr y + w else tr y
theorem addC_ok {fs : Cnt} (h : Ok0 fs) {x w : Int} (hw : 1 ≤ w) : Ok0 (addC fs x w) := ⟨putC_nd h.nd, putC_pos h.pos (by have := getC_nn h.pos x; omega)⟩
theorem getC_add (fs : Cnt) (x w y : Int) : getC (addC fs x w) y = if y = x then getC fs y + w else getC fs y := by
  unfold addC; rw [getC_put]
  by_cases c : y = x
  · subst c; simp
  · simp [c]
theorem addC_sum {fs : Cnt} (h : Ok0 fs) (x w : Int) : sumC (addC fs x w) = sumC fs + w := by
  unfold addC; rw [sumC_put h.nd]; omega
theorem addC_len (fs : Cnt) (x w : Int) : fs.length ≤ (addC fs x w).length ∧ (addC fs x w).length ≤ fs.length + 1 := putC_len _ _ _
theorem OkF.fall {room : Nat} {fs : Cnt} {tr : Int → Int} {lost total : Int} (ok : Ok0 fs) (hl : 0 ≤ lost) (bd : ∀ x, getC fs x ≤ tr x ∧ tr x ≤ getC fs x + lost) (sum : sumC fs + ((room : Int) + 1) * lost ≤ total) :
    OkF room ⟨total, lost + cutC room fs, fallC (cutC room fs) fs⟩ tr := by
  have cn := cut_nn (room := room) ok.pos
  refine ⟨⟨fall_nd ok.nd, fall_pos⟩, fall_room _ _, by simp; omega, fun x => ?_, ?_⟩
  · have := bd x
    have gn := getC_nn ok.pos x
    simp only
    rw [getC_fall ok.nd cn]
    split <;> omega
  · have := (fall_sum room fs ok.pos).1
    simp only
    rw [Int.mul_add]; omega
theorem OkF.add {room : Nat} {F : Frq} {tr : Int → Int} (h : OkF room F tr) {x w : Int} (hw : 1 ≤ w) : OkF room (F.add room x w) (upT tr x w) := by
  refine OkF.fall (addC_ok h.ok hw) h.lost (fun y => ?_) ?_
  · have := h.bd y
    unfold upT
    rw [getC_add]
    split <;> omega
  · rw [addC_sum h.ok]; have := h.sum; omega
theorem merge_spec : ∀ (b a : Cnt), Ok0 a → Ok0 b → Ok0 (mergeC a b) ∧ (∀ x, getC (mergeC a b) x = getC a x + getC b x) ∧ sumC (mergeC a b) = sumC a + sumC b ∧ (mergeC a b).length ≤ a.length + b.length
  | [], a, ha, _ => ⟨ha, by simp [mergeC, getC_nil], by simp [mergeC, sumC], by simp [mergeC]⟩
  | p :: b, a, ha, hb => by
    have hb' : Ok0 b := ⟨by have := hb.nd; rw [List.map_cons, List.nodup_cons] at this; exact this.2, fun q m => hb.pos q (by simp [m])⟩
    have hp := hb.pos p (by simp)
    have nn : hasC b p.1 = false := by
      cases h : hasC b p.1 with
      | false => rfl
      | true => have := hb.nd; rw [List.map_cons, List.nodup_cons] at this; exact absurd (hasC_iff.mp h) this.1
    obtain ⟨i1, i2, i3, i4⟩ := merge_spec b (addC a p.1 p.2) (addC_ok ha hp) hb'
    have e : mergeC a (p :: b) = mergeC (addC a p.1 p.2) b := rfl
    rw [e]
    refine ⟨i1, fun x => ?_, ?_, ?_⟩
    · rw [i2, getC_add, getC_cons]
      by_cases c : x = p.1
      · subst c; rw [getC_none nn]; simp
      · have : ¬ p.1 = x := fun e => c e.symm
        simp [c, this]
    · rw [i3, addC_sum ha, sumC_cons]; omega
    · have := addC_len a p.1 p.2; simp; omega
theorem OkF.pour {room : Nat} {A B : Frq} {ta tb : Int → Int} (ha : OkF room A ta) (hb : OkF room B tb) : OkF room (A.pour room B) fun x => ta x + tb x := by
  obtain ⟨i1, i2, i3, i4⟩ := merge_spec B.fs A.fs ha.ok hb.ok
  refine OkF.fall i1 (by have := ha.lost; have := hb.lost; omega) (fun y => ?_) ?_
  · have := ha.bd y
    have := hb.bd y
    rw [i2]; omega
  · have := ha.sum
    have := hb.sum
    rw [i3, Int.mul_add]; omega
end PX
namespace PX
open PL
theorem getC_le_sum {fs : Cnt} (h : ∀ p ∈ fs, 1 ≤ p.2) (x : Int) : getC fs x ≤ sumC fs := by
  induction fs with
  | nil => simp [getC_nil, sumC]
  | cons p fs ih =>
    have hp := h p (by simp)
    have hq : ∀ q ∈ fs, 1 ≤ q.2 := fun q m => h q (by simp [m])
    have i := ih hq
    have n := getC_nn hq x
    rw [getC_cons, sumC_cons]
    split <;> omega
/-- all is within the total -/
theorem OkF.small {room : Nat} {F : Frq} {tr : Int → Int} (o : OkF room F tr) (x : Int) : 0 ≤ getC F.fs x ∧ 0 ≤ F.lost ∧ getC F.fs x + F.lost ≤ F.total ∧ ((room : Int) + 1) * F.lost ≤ F.total ∧ 0 ≤ F.total := by
  have h1 := getC_nn o.ok.pos x
  have h2 := getC_le_sum o.ok.pos x
  have h3 := o.lost
  have h4 := o.sum
  have h5 : 0 ≤ (room : Int) * F.lost := Int.mul_nonneg (by omega) h3
  rw [Int.add_mul, Int.one_mul] at h4 ⊢
  omega
end PX

namespace PX
open PySem PySem.Spec PyProof.Rows L2 PL
@[irreducible] noncomputable def F_cut_of : Fn := fn 2 <|
  sSeq (sIf (tst (eBin mLe (eUn mLen (cVar 0)) (vVar 1))) (sRet (eC (.int 0))) (sNx)) <|
  sRet (eBin mIx (eUn mSortedVR (cVar 0)) (vVar 1))
@[irreducible] noncomputable def B_fallen_0 : S :=
  sIf (tst (eBin mGt (vVar 4) (vVar 1))) (sDPut 2 (eVar 3) (eBin mSub (vVar 4) (vVar 1))) (sNx)
@[irreducible] noncomputable def F_fallen : Fn := fn 5 <|
  sSeq (sSetF 2 (eDNew)) <|
  sSeq (sForI (πV 0) (tgT [3, 4]) (PX.B_fallen_0)) <|
  sRetO 2
@[irreducible] noncomputable def F_Frequent_init : Fn := fn 2 <|
  sSeq (sFld 0 [6, 8, 9, 10, 12, 13] (eVar 0) (eVar 1)) <|
  sSeq (sFld 6 [8, 9] (eVar 0) (eC (.int 0))) <|
  sSeq (sFld 7 [8] (eVar 0) (eC (.int 0))) <|
  sFldF 8 [8] 0 (eDNew)
@[irreducible] noncomputable def F_Frequent_add : Fn := fn 4 <|
  sSeq (sFldAug 6 [8, 9] (eVar 0) mAddI (eVar 2)) <|
  sSeq (sDPutF 0 8 (eVar 1) (eLendF 0 8 (eBin mAdd (eDGet2 (vFld 8 (eVar 0)) (eVar 1) (eC (.int 0))) (vVar 2)))) <|
  sSeq (sSet 3 (eLendF 0 8 (eCall PX.F_cut_of (aCons (aF 8 (eVar 0)) (aCons (aF 0 (eVar 0)) (aNil)))))) <|
  sSeq (sFldAug 7 [8] (eVar 0) mAddI (eVar 3)) <|
  sFldF 8 [8] 0 (eLendF 0 8 (eCallF PX.F_fallen (aCons (aF 8 (eVar 0)) (aCons (aL 3) (aNil)))))
@[irreducible] noncomputable def B_poured_frequent_0 : S :=
  sDPut 2 (eVar 3) (eLend 2 (eBin mAdd (eDGet2 (vVar 2) (eVar 3) (eC (.int 0))) (vVar 4)))
@[irreducible] noncomputable def F_poured_frequent : Fn := fn 7 <|
  sSeq (sIf (tst (eBin mNe (vFld 0 (eVar 0)) (vFld 0 (eVar 1)))) (sRaise 1) (sNx)) <|
  sSeq (sSetF 2 (eUn mDictC (cFld 8 (eVar 0)))) <|
  sSeq (sLendF 1 8 (sForI (πF 1 8) (tgT [3, 4]) (PX.B_poured_frequent_0))) <|
  sSeq (sSet 5 (eLend 2 (eCall PX.F_cut_of (aCons (aL 2) (aCons (aF 0 (eVar 0)) (aNil)))))) <|
  sSeq (sSet 6 (eMake 2 8 PX.F_Frequent_init (aCons (aF 0 (eVar 0)) (aNil)))) <|
  sSeq (sFld 6 [8, 9] (eVar 6) (eBin mAdd (vFld 6 (eVar 0)) (vFld 6 (eVar 1)))) <|
  sSeq (sFld 7 [8] (eVar 6) (eBin mAdd (eBin mAdd (vFld 7 (eVar 0)) (vFld 7 (eVar 1))) (vVar 5))) <|
  sSeq (sFldF 8 [8] 6 (eLend 2 (eCallF PX.F_fallen (aCons (aL 2) (aCons (aL 5) (aNil)))))) <|
  sRet (eVar 6)
end PX

/-! What the Frequent's functions answer. -/
namespace PX
open PySem PySem.Spec PyProof.Rows L2 PL
noncomputable def encC (fs : Cnt) : List (Key × D) := fs.map fun p => ((.inl p.1 : Key), D.int p.2)
@[simp] theorem encC_nil : encC [] = [] := rfl
@[simp] theorem encC_len (fs : Cnt) : (encC fs).length = fs.length := by simp [encC]
@[simp] theorem encC_vals (fs : Cnt) : intsD ((encC fs).map (·.2)) = some (fs.map (·.2)) := by
  have : (encC fs).map (·.2) = (fs.map (·.2)).map D.int := by unfold encC; simp
  rw [this, intsD_map]
@[simp] theorem encC_keys : ∀ fs : Cnt, keysD (encC fs) = some (fs.map (·.1))
  | [] => rfl
  | p :: fs => by
    have := encC_keys fs
    unfold encC at this ⊢
    rw [List.map_cons, keysD, this]; rfl
theorem valD_enc (fs : Cnt) (x : Int) : valD (encC fs) (.inl x) = if hasC fs x = true then some (.int (getC fs x)) else none := by
  induction fs with
  | nil => simp [valD, hasC, encC]
  | cons p fs ih =>
    have e : valD (encC (p :: fs)) (.inl x) = if p.1 = x then some (.int p.2) else valD (encC fs) (.inl x) := by
      unfold valD encC
      rw [List.map_cons, List.find?_cons]
      by_cases c : p.1 = x <;> simp [c]
    rw [e, ih, hasC_cons, getC_cons]
    by_cases c : p.1 = x <;> simp [c]
@[simp] theorem valD_get (fs : Cnt) (x : Int) : (valD (encC fs) (.inl x)).getD (.int 0) = .int (getC fs x) := by
  rw [valD_enc]
  cases h : hasC fs x with
  | true => simp
  | false => simp [getC_none h]
@[simp] theorem valD_some (fs : Cnt) (x : Int) : (valD (encC fs) (.inl x)).isSome = hasC fs x := by
  rw [valD_enc]
  cases h : hasC fs x <;> simp
@[simp] theorem putD_enc (fs : Cnt) (x v : Int) : putD (encC fs) (.inl x) (.int v) = encC (putC fs x v) := by
  have h : ((encC fs).any fun kv => decide (kv.1 = .inl x)) = hasC fs x := by
    unfold encC hasC
    rw [List.any_map]
    congr 1
    funext p
    simp
  unfold putD putC
  rw [h]
  cases hasC fs x with
  | true =>
    simp only [if_true]
    unfold encC
    rw [List.map_map, List.map_map]
    refine List.map_congr_left fun p _ => ?_
    by_cases c : p.1 = x <;> simp [c]
  | false => simp [encC]
theorem items_enc (fs : Cnt) : itemsD (encC fs) = fs.map fun p => D.tup [.int p.1, .int p.2] := by
  unfold itemsD encC
  rw [List.map_map]
  exact List.map_congr_left fun p _ => rfl
noncomputable def Hold (X : FV) (d : D) : Prop := X = .val d ∨ X = .lent d
theorem cut_of_v (X : FV) (fs : Cnt) (room : Nat) (h : List LO) (hX : Hold X (.dic (encC fs))) : F_cut_of [X, .val (.int (room : Nat))] h = .ret (.val (.int (cutC room fs))) h := by
  have key : ¬ fs.length ≤ room → PL.atD ((srt (fs.map (·.2))).reverse.map D.int) (room : Int) = some (.int (cutC room fs)) := fun c => by
    rw [atD_nat, List.getElem?_map]
    have hl : room < (srt (fs.map (·.2))).reverse.length := by simp; omega
    unfold cutC
    rw [if_neg c, List.getElem?_eq_getElem hl]
    rfl
  unfold F_cut_of
  by_cases c : fs.length ≤ room
  · have e : cutC room fs = 0 := by unfold cutC; rw [if_pos c]
    rcases hX with rfl | rfl <;> simp [fn_s, c, e]
  · have k := key c
    simp only [List.map_reverse] at k
    rcases hX with rfl | rfl <;> simp [fn_s, c, k]
theorem fallen_v (X : FV) (fs : Cnt) (c : Int) (h : List LO) (hX : Hold X (.dic (encC fs))) (nd : (fs.map (·.1)).Nodup) (hl : fs.length ≤ 1000000) : F_fallen [X, .val (.int c)] h = .ret (.own (.dic (encC (fallC c fs)))) h := by
  have key : ∀ (r acc : Cnt) (x3 x4 : Option FV), ((acc ++ r).map (·.1)).Nodup → (acc ++ r).length ≤ 1000000 → ∃ y3 y4, turns (tgT [3, 4]) B_fallen_0 (r.map fun p => D.tup [.int p.1, .int p.2]) ⟨[some X, (some (.val (.int c))), (some (.own (.dic (encC acc)))), x3, x4], h⟩ =
      .nx ⟨[some X, (some (.val (.int c))), (some (.own (.dic (encC (acc ++ fallC c r))))), y3, y4], h⟩ := by
    intro r
    induction r with
    | nil => intro acc x3 x4 _ _; exact ⟨x3, x4, by simp [turns, fallC]⟩
    | cons p r ih =>
      intro acc x3 x4 hn hl
      have e : fallC c (p :: r) = if c < p.2 then (p.1, p.2 - c) :: fallC c r else fallC c r := by
        unfold fallC; rw [List.filter_cons]; by_cases h : c < p.2 <;> simp [h]
      by_cases q : c < p.2
      · have nh : hasC acc p.1 = false := by
          cases z : hasC acc p.1 with
          | false => rfl
          | true =>
            rw [List.map_append, List.nodup_append] at hn
            exact absurd rfl (hn.2.2 _ (hasC_iff.mp z) p.1 (by simp))
        have ep : putC acc p.1 (p.2 - c) = acc ++ [(p.1, p.2 - c)] := by unfold putC; rw [nh]; simp
        obtain ⟨y3, y4, ih⟩ := ih (acc ++ [(p.1, p.2 - c)]) ((some (.val (.int p.1)))) ((some (.val (.int p.2)))) (by simpa using hn) (by simp at hl ⊢; omega)
        refine ⟨y3, y4, ?_⟩
        rw [e, if_pos q, show acc ++ (p.1, p.2 - c) :: fallC c r = acc ++ [(p.1, p.2 - c)] ++ fallC c r by simp, ← ih, List.map_cons]
        refine turns_step rfl (.inl ?_) rfl
        unfold B_fallen_0
        simp at hl
        simp [q, ep, show acc.length < 16777216 by omega]
      · obtain ⟨y3, y4, ih⟩ := ih acc ((some (.val (.int p.1)))) ((some (.val (.int p.2)))) (hn.sublist (by simp)) (by simp at hl ⊢; omega)
        refine ⟨y3, y4, ?_⟩
        rw [e, if_neg q, ← ih, List.map_cons]
        refine turns_step rfl (.inl ?_) rfl
        unfold B_fallen_0
        simp [q]
  obtain ⟨y3, y4, k⟩ := key fs [] none none (by simpa using nd) (by simpa using hl)
  rw [List.nil_append, encC_nil] at k
  unfold F_fallen
  rcases hX with rfl | rfl <;> simp [fn_s, items_enc, k]
/-- a Frequent as an object -/
noncomputable def frqO (room : Nat) (F : Frq) : LO := .ins 8 [(0, .val (.int (room : Nat))), (6, .val (.int F.total)), (7, .val (.int F.lost)), (8, .own (.dic (encC F.fs)))]
theorem frq_lk (a b c d : FV) : List.lookup 0 [(0, a), (6, b), (7, c), (8, d)] = some a ∧ List.lookup 6 [(0, a), (6, b), (7, c), (8, d)] = some b ∧ List.lookup 7 [(0, a), (6, b), (7, c), (8, d)] = some c ∧ List.lookup 8 [(0, a), (6, b), (7, c), (8, d)] = some d := ⟨rfl, rfl, rfl, rfl⟩
theorem frq_init_v (r : Nat) (room : Nat) (h : List LO) (hr : h[r]? = some (.ins 8 [])) : F_Frequent_init [.val (.obj r), .val (.int (room : Nat))] h = .ret (.val .non) (h.set r (frqO room .zero)) := by
  have hs := hset hr
  unfold F_Frequent_init frqO Frq.zero
  simp [fn_s, hr, hs]
theorem frq_add_v (r room : Nat) (F : Frq) (x w : Int) (h : List LO) (hr : h[r]? = some (frqO room F)) (ok : Ok0 F.fs) (hw : 1 ≤ w) (hl : F.fs.length ≤ 1000) : F_Frequent_add [.val (.obj r), .val (.int x), .val (.int w)] h = .ret (.val .non) (h.set r (frqO room (F.add room x w))) := by
  have hs := hset hr
  have al := addC_len F.fs x w
  have ec := fun (h : List LO) => cut_of_v (.lent (.dic (encC (addC F.fs x w)))) (addC F.fs x w) room h (.inr rfl)
  have ef := fun (h : List LO) => fallen_v (.lent (.dic (encC (addC F.fs x w)))) (addC F.fs x w) (cutC room (addC F.fs x w)) h (.inr rfl) (addC_ok ok hw).nd (by omega)
  unfold F_Frequent_add Frq.add
  unfold frqO at *
  have ep : putC F.fs x (getC F.fs x + w) = addC F.fs x w := rfl
  simp [fn_s, hr, hs, frq_lk, show F.fs.length < 16777216 by omega, ep, ec, ef]
theorem frq_pour_v (r1 r2 room : Nat) (A B : Frq) (h : List LO) (h1 : h[r1]? = some (frqO room A)) (h2 : h[r2]? = some (frqO room B)) (okA : Ok0 A.fs) (okB : Ok0 B.fs) (hA : A.fs.length ≤ 1000) (hB : B.fs.length ≤ 1000) :
    F_poured_frequent [.val (.obj r1), .val (.obj r2)] h = .ret (.val (.obj h.length)) (h ++ [frqO room (A.pour room B)]) := by
  obtain ⟨m1, m2, m3, m4⟩ := merge_spec B.fs A.fs okA okB
  have key : ∀ (H : List LO) (x5 x6 : Option FV) (r acc : Cnt) (x3 x4 : Option FV), acc.length + r.length ≤ 1000000 → ∃ y3 y4, turns (tgT [3, 4]) B_poured_frequent_0 (r.map fun p => D.tup [.int p.1, .int p.2]) ⟨[(some (.val (.obj r1))), (some (.val (.obj r2))), (some (.own (.dic (encC acc)))), x3, x4, x5, x6], H⟩ =
      .nx ⟨[(some (.val (.obj r1))), (some (.val (.obj r2))), (some (.own (.dic (encC (mergeC acc r))))), y3, y4, x5, x6], H⟩ := by
    intro H x5 x6 r
    induction r with
    | nil => intro acc x3 x4 _; exact ⟨x3, x4, by simp [turns, mergeC]⟩
    | cons p r ih =>
      intro acc x3 x4 hl
      have al := addC_len acc p.1 p.2
      simp only [List.length_cons] at hl
      obtain ⟨y3, y4, ih⟩ := ih (addC acc p.1 p.2) ((some (.val (.int p.1)))) ((some (.val (.int p.2)))) (by omega)
      refine ⟨y3, y4, ?_⟩
      rw [show mergeC acc (p :: r) = mergeC (addC acc p.1 p.2) r from rfl, ← ih, List.map_cons]
      refine turns_step rfl (.inl ?_) rfl
      unfold B_poured_frequent_0
      have ep : putC acc p.1 (getC acc p.1 + p.2) = addC acc p.1 p.2 := rfl
      simp [show acc.length < 16777216 by omega, ep]
  have hs2 := hset h2
  have ss2 := set_self h2
  have rl1 := (List.getElem?_eq_some_iff.mp h1).1
  have rl2 := (List.getElem?_eq_some_iff.mp h2).1
  have c1 := happ_lt h1
  have c2 := happ_lt h2
  have hm := happ h
  have he := fun (y : LO) => hset_end h y
  have ec := fun (H : List LO) => cut_of_v (.lent (.dic (encC (mergeC A.fs B.fs)))) (mergeC A.fs B.fs) room H (.inr rfl)
  have ef := fun (H : List LO) => fallen_v (.lent (.dic (encC (mergeC A.fs B.fs)))) (mergeC A.fs B.fs) (cutC room (mergeC A.fs B.fs)) H (.inr rfl) m1.nd (by omega)
  have ei := frq_init_v h.length room (h ++ [.ins 8 []]) (by simp)
  rw [hset_end] at ei
  obtain ⟨y3, y4, k⟩ := key (h.set r2 (.ins 8 [(0, .val (.int (room : Nat))), (6, .val (.int B.total)), (7, .val (.int B.lost)), (8, .lent (.dic (encC B.fs)))])) none none B.fs A.fs none none (by omega)
  unfold F_poured_frequent Frq.pour
  unfold frqO Frq.zero at *
  simp [fn_s, h1, h2, hs2, ss2, frq_lk, items_enc, k, ec, ei, c1, c2, ef]
end PX

/-! The plain law of rungs. -/
namespace PX
open PL
/-- a sum over lists, each by its place -/
noncomputable def wsum (g : Nat → List Int → Int) : Nat → List (List Int) → Int
  | _, [] => 0
  | k, r :: rs => g k r + wsum g (k + 1) rs
noncomputable def rowAt (R : List (List Int)) (h : Nat) : List Int := (R[h]?).getD []
theorem wsum_set (g : Nat → List Int → Int) : ∀ (R : List (List Int)) (k h : Nat) (x : List Int), h < R.length → wsum g k (R.set h x) = wsum g k R + g (k + h) x - g (k + h) (rowAt R h)
  | [], _, _, _, hl => by simp at hl
  | r :: R, k, 0, x, _ => by simp [wsum, rowAt]; omega
  | r :: R, k, h + 1, x, hl => by
    have := wsum_set g R (k + 1) h x (by simpa using hl)
    simp only [List.set_cons_succ, wsum, this, show k + 1 + h = k + (h + 1) by omega]
    have e : rowAt (r :: R) (h + 1) = rowAt R h := by simp [rowAt]
    rw [e]; omega
theorem wsum_app (g : Nat → List Int → Int) : ∀ (R Q : List (List Int)) (k : Nat), wsum g k (R ++ Q) = wsum g k R + wsum g (k + R.length) Q
  | [], Q, k => by simp [wsum]
  | r :: R, Q, k => by
    rw [List.cons_append, wsum, wsum, wsum_app g R Q (k + 1), List.length_cons, show k + 1 + R.length = k + (R.length + 1) by omega]
    omega
theorem wsum_nils (g : Nat → List Int → Int) (h0 : ∀ k, g k [] = 0) : ∀ (n k : Nat), wsum g k (List.replicate n []) = 0
  | 0, k => rfl
  | n + 1, k => by rw [List.replicate_succ, wsum, h0, wsum_nils g h0 n]; rfl
theorem wsum_le {g g' : Nat → List Int → Int} : ∀ (R : List (List Int)) (k : Nat), (∀ h r, k ≤ h → h < k + R.length → r ∈ R → g h r ≤ g' h r) → wsum g k R ≤ wsum g' k R
  | [], k, _ => by simp [wsum]
  | r :: R, k, h => by
    have h1 := h k r (Nat.le_refl _) (by simp) (by simp)
    have h2 := wsum_le (g := g) (g' := g') R (k + 1) fun a b c d e => h a b (by omega) (by simp; omega) (by simp [e])
    simp only [wsum]; omega
theorem wsum_nn {g : Nat → List Int → Int} (R : List (List Int)) (k : Nat) (h : ∀ h r, r ∈ R → 0 ≤ g h r) : 0 ≤ wsum g k R := by
  induction R generalizing k with
  | nil => simp [wsum]
  | cons r R ih =>
    have h1 := h k r (by simp)
    have h2 := ih (k + 1) fun a b m => h a b (by simp [m])
    simp only [wsum]; omega
theorem wsum_mul (c : Int) (g : Nat → List Int → Int) : ∀ (R : List (List Int)) (k : Nat), wsum (fun h r => c * g h r) k R = c * wsum g k R
  | [], k => by simp [wsum]
  | r :: R, k => by simp only [wsum]; rw [wsum_mul c g R, Int.mul_add]
theorem rowAt_app {R Q : List (List Int)} {h : Nat} (hl : h < R.length) : rowAt (R ++ Q) h = rowAt R h := by
  unfold rowAt; rw [List.getElem?_append_left hl]
theorem rowAt_nils (R : List (List Int)) (n h : Nat) (hl : R.length ≤ h) : rowAt (R ++ List.replicate n []) h = [] := by
  unfold rowAt
  rw [List.getElem?_append_right hl, List.getElem?_replicate]
  split <;> rfl
theorem rowAt_set (R : List (List Int)) (h j : Nat) (x : List Int) : rowAt (R.set h x) j = if j = h ∧ h < R.length then x else rowAt R j := by
  unfold rowAt
  rw [List.getElem?_set]
  by_cases c : h = j
  · subst c
    by_cases d : h < R.length
    · simp [d]
    · simp [d]
  · have : ¬ j = h := fun e => c e.symm
    simp [c, this]
theorem rowAt_mem {R : List (List Int)} {h : Nat} (hl : h < R.length) : rowAt R h ∈ R := by
  unfold rowAt; rw [List.getElem?_eq_getElem hl]; exact List.getElem_mem hl
/-- of each two neighbours one -/
noncomputable def goesOf (g : Bool) : List Int → List Int
  | a :: b :: r => (if g then b else a) :: goesOf g r
  | _ => []
noncomputable def staysOf (row : List Int) : List Int := row.drop (2 * (row.length / 2))
theorem goes_len (g : Bool) : ∀ row : List Int, (goesOf g row).length = row.length / 2
  | [] => rfl
  | [_] => by simp [goesOf]
  | a :: b :: r => by rw [goesOf, List.length_cons, goes_len g r]; simp only [List.length_cons]; omega
theorem goes_mem (g : Bool) : ∀ (row : List Int) (x : Int), x ∈ goesOf g row → x ∈ row
  | [], x, m => m
  | [_], x, m => by simp [goesOf] at m
  | a :: b :: r, x, m => by
    rw [goesOf] at m
    rcases List.mem_cons.mp m with e | m
    · cases g <;> simp at e <;> simp [e]
    · have := goes_mem g r x m; simp [this]
theorem stays_len (row : List Int) : (staysOf row).length = row.length % 2 := by unfold staysOf; rw [List.length_drop]; omega
theorem stays_cons (a b : Int) (r : List Int) : staysOf (a :: b :: r) = staysOf r := by
  unfold staysOf
  have : 2 * ((a :: b :: r).length / 2) = 2 * (r.length / 2) + 2 := by simp only [List.length_cons]; omega
  rw [this]; rfl
noncomputable def cntL (t : Int) (row : List Int) : Int := ((row.countP fun a => decide (a ≤ t) : Nat) : Int)
theorem cnt_nil (t : Int) : cntL t [] = 0 := rfl
theorem cnt_cons (t a : Int) (r : List Int) : cntL t (a :: r) = (if a ≤ t then 1 else 0) + cntL t r := by
  unfold cntL; rw [List.countP_cons]
  by_cases c : a ≤ t <;> simp [c]; omega
theorem cnt_app (t : Int) (a b : List Int) : cntL t (a ++ b) = cntL t a + cntL t b := by unfold cntL; rw [List.countP_append]; simp
theorem cnt_perm {t : Int} {a b : List Int} (p : a.Perm b) : cntL t a = cntL t b := by unfold cntL; rw [p.countP_eq]
theorem cnt_none {t : Int} {r : List Int} (h : ∀ a ∈ r, t < a) : cntL t r = 0 := by
  unfold cntL
  have : r.countP (fun a => decide (a ≤ t)) = 0 := by
    rw [List.countP_eq_zero]; intro a m; have := h a m; simp; omega
  rw [this]; rfl
theorem goes_cnt (g : Bool) (t : Int) : ∀ row : List Int, row.Pairwise (· ≤ ·) → (g = false → 0 ≤ 2 * cntL t (goesOf g row) - (cntL t row - cntL t (staysOf row)) ∧ 2 * cntL t (goesOf g row) - (cntL t row - cntL t (staysOf row)) ≤ 1) ∧
    (g = true → -1 ≤ 2 * cntL t (goesOf g row) - (cntL t row - cntL t (staysOf row)) ∧ 2 * cntL t (goesOf g row) - (cntL t row - cntL t (staysOf row)) ≤ 0)
  | [], _ => by simp [goesOf, staysOf, cnt_nil]
  | [a], _ => by simp [goesOf, staysOf, cnt_nil]
  | a :: b :: r, h => by
    rw [List.pairwise_cons, List.pairwise_cons] at h
    obtain ⟨h1, h2, h3⟩ := h
    have ih := goes_cnt g t r h3
    rw [goesOf, stays_cons, cnt_cons, cnt_cons, cnt_cons]
    have hab := h1 b (by simp)
    by_cases ca : a ≤ t
    · by_cases cb : b ≤ t
      · cases g <;> simp only [ca, cb, if_true, if_false, Bool.false_eq_true, reduceCtorEq, false_implies, true_implies, forall_const, and_true, true_and] at ih ⊢ <;> omega
      · have z1 : cntL t r = 0 := cnt_none fun c m => by have := h2 c m; omega
        have z2 : cntL t (goesOf g r) = 0 := cnt_none fun c m => by have := h2 c (goes_mem g r c m); omega
        have z3 : cntL t (staysOf r) = 0 := cnt_none fun c m => by have := h2 c (List.mem_of_mem_drop m); omega
        rw [z1, z2, z3]
        cases g <;> simp [ca, cb]
    · have cb : ¬ b ≤ t := by omega
      have e : ¬ (if g = true then b else a) ≤ t := by cases g <;> simp <;> omega
      simp only [ca, cb, e, if_false]
      constructor
      · intro hg; have := ih.1 hg; omega
      · intro hg; have := ih.2 hg; omega
structure Rg where
  R : List (List Int)
  ov : Int
  un : Int
  tu : Int
noncomputable def growR (R : List (List Int)) (h : Nat) : List (List Int) := if h + 1 = R.length then R ++ [[]] else R
noncomputable def stepR (room : Nat) (h : Nat) (S : Rg) : Rg :=
  if room < (rowAt S.R h).length then
    ⟨((growR S.R h).set h (staysOf (rowAt S.R h))).set (h + 1) (srt (rowAt (growR S.R h) (h + 1) ++ goesOf (decide (S.tu % 2 = 1)) (rowAt S.R h))),
     if S.tu % 2 = 1 then S.ov else S.ov + 2 ^ h, if S.tu % 2 = 1 then S.un + 2 ^ h else S.un, S.tu + 1⟩
  else S
noncomputable def loopR (room : Nat) : Nat → Nat → Rg → Rg
  | 0, _, S => S
  | n + 1, h, S => if h < S.R.length then loopR room n (h + 1) (stepR room h S) else S
noncomputable def elems (R : List (List Int)) : Nat := (R.map List.length).sum
noncomputable def mu (h : Nat) (R : List (List Int)) : Nat := (R.length - h) + elems (R.drop h)
noncomputable def settleR (room : Nat) (S : Rg) : Rg := loopR room (mu 0 S.R) 0 S
theorem growR_len (R : List (List Int)) (h : Nat) (hl : h < R.length) : h + 1 < (growR R h).length ∧ R.length ≤ (growR R h).length := by
  unfold growR
  split
  · simp; omega
  · omega
theorem drop_row {R : List (List Int)} {h : Nat} (hl : h < R.length) : R.drop h = rowAt R h :: R.drop (h + 1) := by
  rw [List.drop_eq_getElem_cons hl]
  unfold rowAt; rw [List.getElem?_eq_getElem hl]; rfl
theorem elems_cons (r : List Int) (R : List (List Int)) : elems (r :: R) = r.length + elems R := by unfold elems; simp
theorem mu_step {room h : Nat} {S : Rg} (hr : 1 ≤ room) (hl : h < S.R.length) : mu (h + 1) (stepR room h S).R < mu h S.R := by
  unfold stepR
  split
  · rename_i c
    obtain ⟨g1, g2⟩ := growR_len S.R h hl
    have e0 : mu h S.R = (S.R.length - h) + ((rowAt S.R h).length + elems (S.R.drop (h + 1))) := by unfold mu; rw [drop_row hl, elems_cons]
    rw [e0]
    unfold mu
    simp only [List.length_set]
    have e1 : List.drop (h + 1) (((growR S.R h).set h (staysOf (rowAt S.R h))).set (h + 1) (srt (rowAt (growR S.R h) (h + 1) ++ goesOf (decide (S.tu % 2 = 1)) (rowAt S.R h)))) =
        srt (rowAt (growR S.R h) (h + 1) ++ goesOf (decide (S.tu % 2 = 1)) (rowAt S.R h)) :: (growR S.R h).drop (h + 2) := by
      rw [drop_row (by simpa using g1), rowAt_set]
      simp only [List.length_set, g1, and_self, if_true]
      congr 1
      rw [List.drop_set, if_pos (by omega), List.drop_set, if_pos (by omega)]
    rw [e1, elems_cons, srt_length, List.length_append, goes_len]
    unfold growR at *
    by_cases q : h + 1 = S.R.length
    · rw [if_pos q] at *
      have z : rowAt (S.R ++ [[]]) (h + 1) = [] := by have := rowAt_nils S.R 1 (h + 1) (by omega); simpa using this
      have d : (S.R ++ [[]]).drop (h + 2) = [] := List.drop_eq_nil_of_le (by simp; omega)
      rw [z, d]
      have d2 : S.R.drop (h + 1) = [] := List.drop_eq_nil_of_le (by omega)
      rw [d2]
      simp [elems] at *
      omega
    · rw [if_neg q] at *
      rw [drop_row (h := h + 1) (by omega), elems_cons, show h + 1 + 1 = h + 2 from rfl]
      omega
  · unfold mu
    rw [drop_row hl, elems_cons]; omega
/-- what a loop keeps -/
theorem loop_inv {room : Nat} (hr : 1 ≤ room) (P : Nat → Rg → Prop) (step : ∀ h S, h < S.R.length → P h S → P (h + 1) (stepR room h S)) : ∀ (n h : Nat) (S : Rg), mu h S.R ≤ n → P h S → ∃ h', (loopR room n h S).R.length ≤ h' ∧ P h' (loopR room n h S)
  | 0, h, S, a, p => ⟨h, by unfold mu at a; simp only [loopR]; omega, p⟩
  | n + 1, h, S, a, p => by
    rw [loopR]
    by_cases c : h < S.R.length
    · rw [if_pos c]
      have := mu_step (room := room) hr c
      exact loop_inv hr P step n (h + 1) _ (by omega) (step h S c p)
    · rw [if_neg c]; exact ⟨h, by omega, p⟩
/-! ### the measures -/
noncomputable def lenG : Nat → List Int → Int := fun h r => (r.length : Int) * 2 ^ h
noncomputable def cntG (t : Int) : Nat → List Int → Int := fun h r => cntL t r * 2 ^ h
noncomputable def phiG : Nat → List Int → Int := fun h r => (h : Int) * ((r.length : Int) * 2 ^ h)
noncomputable def weightR (R : List (List Int)) : Int := wsum lenG 0 R
noncomputable def nearR (t : Int) (R : List (List Int)) : Int := wsum (cntG t) 0 R
noncomputable def phiR (R : List (List Int)) : Int := wsum phiG 0 R
theorem lenG_nil (k : Nat) : lenG k [] = 0 := by simp [lenG]
theorem cntG_nil (t : Int) (k : Nat) : cntG t k [] = 0 := by simp [cntG, cnt_nil]
theorem phiG_nil (k : Nat) : phiG k [] = 0 := by simp [phiG]
theorem wsum_grow (g : Nat → List Int → Int) (h0 : ∀ k, g k [] = 0) (R : List (List Int)) (h : Nat) : wsum g 0 (growR R h) = wsum g 0 R := by
  unfold growR
  split
  · rw [wsum_app]; simp [wsum, h0]
  · rfl
theorem rowAt_grow {R : List (List Int)} {h j : Nat} (hj : j < R.length) : rowAt (growR R h) j = rowAt R j := by
  unfold growR
  split
  · exact rowAt_app hj
  · rfl
theorem wsum_settle (g : Nat → List Int → Int) (h0 : ∀ k, g k [] = 0) (R : List (List Int)) (h : Nat) (hl : h < R.length) (x y : List Int) :
    wsum g 0 (((growR R h).set h x).set (h + 1) y) = wsum g 0 R + g h x - g h (rowAt R h) + g (h + 1) y - g (h + 1) (rowAt (growR R h) (h + 1)) := by
  obtain ⟨g1, g2⟩ := growR_len R h hl
  rw [wsum_set g _ 0 (h + 1) y (by simpa using g1), wsum_set g _ 0 h x (by omega), wsum_grow g h0, rowAt_set]
  have : ¬ (h + 1 = h ∧ h < (growR R h).length) := by omega
  rw [if_neg this, rowAt_grow hl, Nat.zero_add, Nat.zero_add]
structure OkS (room : Nat) (S : Rg) (total : Int) (tr : Int → Int) (P : Int → Prop) : Prop where
  so : ∀ r ∈ S.R, r.Pairwise (· ≤ ·)
  ov : 0 ≤ S.ov
  un : 0 ≤ S.un
  tu : 0 ≤ S.tu
  bd : ∀ t, nearR t S.R - S.ov ≤ tr t ∧ tr t ≤ nearR t S.R + S.un
  we : weightR S.R = total
  sl : (S.ov + S.un) * (room : Int) ≤ phiR S.R
  me : ∀ r ∈ S.R, ∀ a ∈ r, P a
  la : S.R = [] ∨ rowAt S.R (S.R.length - 1) ≠ []
theorem mem_grow {R : List (List Int)} {h : Nat} {r : List Int} (m : r ∈ growR R h) : r ∈ R ∨ r = [] := by
  unfold growR at m
  split at m
  · simpa using m
  · exact .inl m
theorem two_pow_succ (h : Nat) : (2 : Int) ^ (h + 1) = 2 * 2 ^ h := by rw [Int.pow_succ]; omega
theorem p2p (h : Nat) : (0 : Int) < 2 ^ h := Int.pow_pos (by decide)
theorem step_ok {room h : Nat} {S : Rg} {total : Int} {tr : Int → Int} {P : Int → Prop} (he : room % 2 = 0) (hr : 2 ≤ room) (hl : h < S.R.length) (o : OkS room S total tr P) : OkS room (stepR room h S) total tr P ∧ S.ov ≤ (stepR room h S).ov ∧ S.un ≤ (stepR room h S).un ∧ S.tu ≤ (stepR room h S).tu := by
  unfold stepR
  split
  case isFalse => exact ⟨o, Int.le_refl _, Int.le_refl _, Int.le_refl _⟩
  rename_i c
  obtain ⟨g1, g2⟩ := growR_len S.R h hl
  have hp := p2p h
  have row_m := rowAt_mem hl
  have hso := o.so _ row_m
  have hs := stays_len (rowAt S.R h)
  have hg := goes_len (decide (S.tu % 2 = 1)) (rowAt S.R h)
  have nx_m : ∀ a ∈ rowAt (growR S.R h) (h + 1), P a := fun a m => by
    rcases mem_grow (rowAt_mem g1) with q | q
    · exact o.me _ q a m
    · rw [q] at m; simp at m
  refine ⟨⟨?_, ?_, ?_, ?_, ?_, ?_, ?_, ?_, ?_⟩, ?_, ?_, ?_⟩
  · intro r m
    rcases List.mem_or_eq_of_mem_set m with m | rfl
    · rcases List.mem_or_eq_of_mem_set m with m | rfl
      · rcases mem_grow m with m | rfl
        · exact o.so r m
        · exact List.Pairwise.nil
      · exact hso.sublist (List.drop_sublist _ _)
    · exact srt_sorted _
  · have := o.ov; simp only; split <;> omega
  · have := o.un; simp only; split <;> omega
  · have := o.tu; simp only; omega
  · intro t
    have := o.bd t
    have hGG : (S.tu % 2 = 1 ∧ decide (S.tu % 2 = 1) = true) ∨ (¬ S.tu % 2 = 1 ∧ decide (S.tu % 2 = 1) = false) := by
      by_cases q : S.tu % 2 = 1
      · exact .inl ⟨q, by simp [q]⟩
      · exact .inr ⟨q, by simp [q]⟩
    have gc := goes_cnt (decide (S.tu % 2 = 1)) t (rowAt S.R h) hso
    have e : nearR t (((growR S.R h).set h (staysOf (rowAt S.R h))).set (h + 1) (srt (rowAt (growR S.R h) (h + 1) ++ goesOf (decide (S.tu % 2 = 1)) (rowAt S.R h)))) =
        nearR t S.R + (2 * cntL t (goesOf (decide (S.tu % 2 = 1)) (rowAt S.R h)) - (cntL t (rowAt S.R h) - cntL t (staysOf (rowAt S.R h)))) * 2 ^ h := by
      unfold nearR
      rw [wsum_settle _ (cntG_nil t) _ _ hl]
      simp only [cntG]
      rw [cnt_perm (srt_perm _), cnt_app, two_pow_succ]
      generalize (2 : Int) ^ h = p at *
      generalize cntL t (rowAt S.R h) = a at *
      generalize cntL t (staysOf (rowAt S.R h)) = b at *
      generalize cntL t (rowAt (growR S.R h) (h + 1)) = d at *
      generalize cntL t (goesOf _ (rowAt S.R h)) = e at *
      simp only [Int.add_mul, Int.sub_mul, Int.mul_assoc, Int.mul_left_comm _ 2]
      omega
    generalize decide (S.tu % 2 = 1) = G at *
    have hG : (S.tu % 2 = 1 ∧ G = true) ∨ (¬ S.tu % 2 = 1 ∧ G = false) := hGG
    simp only
    rw [e]
    generalize 2 * cntL t (goesOf G (rowAt S.R h)) - (cntL t (rowAt S.R h) - cntL t (staysOf (rowAt S.R h))) = x at *
    rcases hG with ⟨q, rfl⟩ | ⟨q, rfl⟩
    · have gc := gc.2 rfl
      rw [if_pos q, if_pos q]
      have : x = -1 ∨ x = 0 := by omega
      rcases this with rfl | rfl <;> omega
    · have gc := gc.1 rfl
      rw [if_neg q, if_neg q]
      have : x = 1 ∨ x = 0 := by omega
      rcases this with rfl | rfl <;> omega
  · have := o.we
    unfold weightR at *
    rw [wsum_settle _ lenG_nil _ _ hl]
    simp only [lenG]
    rw [srt_length, List.length_append, hg, hs, two_pow_succ, this]
    generalize (rowAt (growR S.R h) (h + 1)).length = d at *
    generalize (rowAt S.R h).length = n at *
    generalize (2 : Int) ^ h = p at *
    have e1 : (n : Int) = ((n % 2 : Nat) : Int) + 2 * ((n / 2 : Nat) : Int) := by omega
    rw [show ((d + n / 2 : Nat) : Int) = (d : Int) + ((n / 2 : Nat) : Int) by push_cast; rfl]
    rw [e1]
    simp only [Int.add_mul, Int.mul_assoc, Int.mul_left_comm _ 2]
    have : ((n % 2 : Nat) : Int) = (((n : Nat) : Int) % 2) := by omega
    generalize ((n % 2 : Nat) : Int) = a at *
    generalize ((n / 2 : Nat) : Int) = b at *
    omega
  · have hsl := o.sl
    unfold phiR at *
    rw [wsum_settle _ phiG_nil _ _ hl]
    simp only [phiG]
    rw [srt_length, List.length_append, hg, hs, two_pow_succ]
    generalize (rowAt (growR S.R h) (h + 1)).length = d at *
    have hn : room ≤ 2 * ((rowAt S.R h).length / 2) := by omega
    generalize (rowAt S.R h).length = n at *
    have e0 : (if S.tu % 2 = 1 then S.ov else S.ov + 2 ^ h) + (if S.tu % 2 = 1 then S.un + 2 ^ h else S.un) = S.ov + S.un + 2 ^ h := by split <;> omega
    rw [e0, Int.add_mul]
    have hm : 2 ^ h * (room : Int) ≤ 2 ^ h * (2 * ((n / 2 : Nat) : Int)) := Int.mul_le_mul_of_nonneg_left (by omega) (by omega)
    generalize (2 : Int) ^ h = p at *
    have e1 : (n : Int) = ((n % 2 : Nat) : Int) + 2 * ((n / 2 : Nat) : Int) := by omega
    rw [show ((d + n / 2 : Nat) : Int) = (d : Int) + ((n / 2 : Nat) : Int) by push_cast; rfl, show ((h + 1 : Nat) : Int) = (h : Int) + 1 by push_cast; rfl]
    rw [e1]
    generalize ((n % 2 : Nat) : Int) = a at *
    generalize ((n / 2 : Nat) : Int) = b at *
    have k1 : (h : Int) * ((a + 2 * b) * p) = (h : Int) * (a * p) + 2 * ((h : Int) * (b * p)) := by
      rw [Int.add_mul, Int.mul_add, Int.mul_assoc 2 b p, Int.mul_left_comm (h : Int) 2]
    have k2 : ((h : Int) + 1) * ((↑d + b) * (2 * p)) = ((h : Int) + 1) * (↑d * (2 * p)) + 2 * ((h : Int) * (b * p)) + 2 * (b * p) := by
      rw [Int.add_mul (↑d) b, Int.mul_add, Int.add_mul (h : Int) 1 (b * (2 * p)), Int.one_mul, Int.mul_left_comm b 2 p, Int.mul_left_comm (h : Int) 2]
      omega
    have k3 : p * (2 * b) = 2 * (b * p) := by rw [Int.mul_left_comm, Int.mul_comm p b]
    rw [k1, k2]
    omega
  · intro r m a ma
    rcases List.mem_or_eq_of_mem_set m with m | rfl
    · rcases List.mem_or_eq_of_mem_set m with m | rfl
      · rcases mem_grow m with m | rfl
        · exact o.me r m a ma
        · simp at ma
      · exact o.me _ row_m a (List.mem_of_mem_drop ma)
    · rw [mem_srt] at ma
      rcases List.mem_append.mp ma with ma | ma
      · exact nx_m a ma
      · exact o.me _ row_m a (goes_mem _ _ a ma)
  · right
    simp only [List.length_set]
    rw [rowAt_set, rowAt_set]
    have gne : srt (rowAt (growR S.R h) (h + 1) ++ goesOf (decide (S.tu % 2 = 1)) (rowAt S.R h)) ≠ [] := fun e => by
      have := congrArg List.length e
      simp [hg] at this
      omega
    split
    · exact gne
    · rename_i q
      simp only [List.length_set] at q
      have q2 : ¬ (growR S.R h).length - 1 = h + 1 := fun e => q ⟨e, g1⟩
      have q3 : ¬ ((growR S.R h).length - 1 = h ∧ h < (growR S.R h).length) := by omega
      rw [if_neg q3]
      have ge : growR S.R h = S.R := by
        unfold growR at *
        split
        · rename_i z; rw [if_pos z] at *; simp at *; omega
        · rfl
      rw [ge]
      rcases o.la with z | z
      · rw [z] at hl; simp at hl
      · exact z
  · simp only; split <;> omega
  · simp only; split <;> omega
  · simp only; omega
theorem settle_ok {room : Nat} {S : Rg} {total : Int} {tr : Int → Int} {P : Int → Prop} (he : room % 2 = 0) (hr : 2 ≤ room) (o : OkS room S total tr P) :
    OkS room (settleR room S) total tr P ∧ (∀ r ∈ (settleR room S).R, r.length ≤ room) ∧ S.ov ≤ (settleR room S).ov ∧ S.un ≤ (settleR room S).un ∧ S.tu ≤ (settleR room S).tu := by
  obtain ⟨h', a, b, c, d1, d2, d3⟩ := loop_inv (room := room) (by omega) (fun h Q => OkS room Q total tr P ∧ (∀ j, j < h → j < Q.R.length → (rowAt Q.R j).length ≤ room) ∧ S.ov ≤ Q.ov ∧ S.un ≤ Q.un ∧ S.tu ≤ Q.tu)
    (fun h Q hl ⟨o, s, q1, q2, q3⟩ => by
      obtain ⟨o', p1, p2, p3⟩ := step_ok he hr hl o
      refine ⟨o', fun j h1 h2 => ?_, by omega, by omega, by omega⟩
      unfold stepR at h2 ⊢
      split
      · rename_i c
        rw [if_pos c] at h2
        simp only [List.length_set] at h2
        rw [rowAt_set, rowAt_set]
        have : ¬ (j = h + 1 ∧ h + 1 < ((growR Q.R h).set h (staysOf (rowAt Q.R h))).length) := by omega
        rw [if_neg this]
        split
        · rw [stays_len]; omega
        · rename_i z
          have : j < h := by
            have := (growR_len Q.R h hl).2
            omega
          rw [rowAt_grow (by omega)]
          exact s j this (by omega)
      · rename_i c
        rw [if_neg c] at h2
        by_cases e : j = h
        · subst e; omega
        · exact s j (by omega) h2) (mu 0 S.R) 0 S (Nat.le_refl _) ⟨o, fun j h => by omega, Int.le_refl _, Int.le_refl _, Int.le_refl _⟩
  refine ⟨b, fun r m => ?_, d1, d2, d3⟩
  obtain ⟨j, hj, e⟩ := List.getElem_of_mem m
  have hj' : j < (loopR room (mu 0 S.R) 0 S).R.length := hj
  have := c j (by omega) hj'
  unfold rowAt at this
  rw [List.getElem?_eq_getElem hj'] at this
  rw [← e]; exact this
theorem phi_le (R : List (List Int)) : phiR R ≤ ((R.length : Int) - 1) * weightR R := by
  unfold phiR weightR
  rw [← wsum_mul]
  refine wsum_le R 0 fun h r h1 h2 m => ?_
  unfold phiG lenG
  have hp := p2p h
  exact Int.mul_le_mul_of_nonneg_right (by omega) (Int.mul_nonneg (by omega) (by omega))
theorem lists_le {R : List (List Int)} (h : rowAt R (R.length - 1) ≠ []) (hn : R ≠ []) : (2 : Int) ^ (R.length - 1) ≤ weightR R := by
  have hl : R.length - 1 < R.length := by
    cases R with
    | nil => simp at hn
    | cons => simp
  have e := wsum_set lenG R 0 (R.length - 1) [] hl
  have nn : 0 ≤ wsum lenG 0 (R.set (R.length - 1) []) := wsum_nn _ _ fun h r _ => Int.mul_nonneg (by omega) (by have := p2p h; omega)
  unfold weightR
  rw [Nat.zero_add, lenG_nil] at e
  have : (2 : Int) ^ (R.length - 1) ≤ lenG (R.length - 1) (rowAt R (R.length - 1)) := by
    unfold lenG
    have h1 : 1 ≤ ((rowAt R (R.length - 1)).length : Int) := by
      cases q : rowAt R (R.length - 1) with
      | nil => exact absurd q h
      | cons => simp; omega
    have := Int.mul_le_mul_of_nonneg_right h1 (Int.le_of_lt (p2p (R.length - 1)))
    omega
  omega
end PX

/-! The plain law of rungs: a weight put in. -/
namespace PX
open PL
noncomputable def padR (R : List (List Int)) (b : Nat) : List (List Int) := R ++ List.replicate (b - R.length) []
noncomputable def putB (w x : Int) : Nat → List (List Int) → List (List Int)
  | 0, R => R
  | n + 1, R => if w / 2 ^ n % 2 = 1 then (putB w x n R).set n (srt (rowAt (putB w x n R) n ++ [x])) else putB w x n R
theorem putB_len (w x : Int) : ∀ (n : Nat) (R : List (List Int)), (putB w x n R).length = R.length
  | 0, R => rfl
  | n + 1, R => by
    rw [putB]
    split
    · rw [List.length_set, putB_len w x n R]
    · exact putB_len w x n R
theorem padR_len (R : List (List Int)) (b : Nat) : (padR R b).length = max R.length b := by unfold padR; simp; omega
theorem wsum_pad (g : Nat → List Int → Int) (h0 : ∀ k, g k [] = 0) (R : List (List Int)) (b : Nat) : wsum g 0 (padR R b) = wsum g 0 R := by
  unfold padR; rw [wsum_app, wsum_nils g h0]; omega
theorem mod_bit (w : Int) (n : Nat) : w % 2 ^ (n + 1) = w % 2 ^ n + 2 ^ n * (w / 2 ^ n % 2) := by
  have h2 : (2 : Int) ^ (n + 1) = 2 ^ n * 2 := Int.pow_succ ..
  have hp : (0 : Int) < 2 ^ n := p2p n
  have e1 := Int.mul_ediv_add_emod w (2 ^ n)
  have e2 := Int.mul_ediv_add_emod (w / 2 ^ n) 2
  have b1 := Int.emod_nonneg w (show (2 : Int) ^ n ≠ 0 by omega)
  have b2 := Int.emod_lt_of_pos w hp
  have b3 : 0 ≤ w / 2 ^ n % 2 ∧ w / 2 ^ n % 2 ≤ 1 := by omega
  generalize hq : w / 2 ^ n = q at *
  generalize hr : w % 2 ^ n = r at *
  generalize hd : q / 2 = d at *
  generalize hb : q % 2 = b at *
  have e3 : w = 2 ^ (n + 1) * d + (r + 2 ^ n * b) := by
    rw [h2, ← e1, ← e2, Int.mul_add, ← Int.mul_assoc]; omega
  have b4 : 0 ≤ 2 ^ n * b := Int.mul_nonneg (by omega) b3.1
  have b5 : 2 ^ n * b ≤ 2 ^ n := by
    have := Int.mul_le_mul_of_nonneg_left b3.2 (show (0 : Int) ≤ 2 ^ n by omega)
    omega
  rw [e3, Int.add_comm, Int.add_mul_emod_self_left]
  exact Int.emod_eq_of_lt (by omega) (by rw [h2]; omega)
theorem cnt_srt (t x : Int) (row : List Int) : cntL t (srt (row ++ [x])) = cntL t row + if x ≤ t then 1 else 0 := by
  rw [cnt_perm (srt_perm _), cnt_app, cnt_cons, cnt_nil]; omega
theorem putB_near (t w x : Int) (R : List (List Int)) : ∀ n : Nat, n ≤ R.length → nearR t (putB w x n R) = nearR t R + if x ≤ t then w % 2 ^ n else 0
  | 0, _ => by simp [putB, Int.emod_one]
  | n + 1, hn => by
    have ih := putB_near t w x R n (by omega)
    rw [putB, mod_bit]
    split
    · rename_i c
      unfold nearR at *
      rw [wsum_set _ _ _ _ _ (by rw [putB_len]; omega), ih, Nat.zero_add, c]
      unfold cntG
      rw [cnt_srt, Int.add_mul]
      split <;> omega
    · rename_i c
      have c0 : w / 2 ^ n % 2 = 0 := by omega
      rw [ih, c0]; simp
theorem putB_weight (w x : Int) (R : List (List Int)) : ∀ n : Nat, n ≤ R.length → weightR (putB w x n R) = weightR R + w % 2 ^ n
  | 0, _ => by simp [putB, Int.emod_one]
  | n + 1, hn => by
    have ih := putB_weight w x R n (by omega)
    rw [putB, mod_bit]
    split
    · rename_i c
      unfold weightR at *
      rw [wsum_set _ _ _ _ _ (by rw [putB_len]; omega), ih, Nat.zero_add, c]
      unfold lenG
      rw [(srt_perm _).length_eq, List.length_append]
      push_cast
      rw [Int.add_mul]
      simp; omega
    · rename_i c
      have c0 : w / 2 ^ n % 2 = 0 := by omega
      rw [ih, c0]; simp
theorem putB_phi (w x : Int) (R : List (List Int)) : ∀ n : Nat, n ≤ R.length → phiR R ≤ phiR (putB w x n R)
  | 0, _ => Int.le_refl _
  | n + 1, hn => by
    have ih := putB_phi w x R n (by omega)
    rw [putB]
    split
    · unfold phiR at *
      rw [wsum_set _ _ _ _ _ (by rw [putB_len]; omega), Nat.zero_add]
      unfold phiG at *
      rw [(srt_perm _).length_eq, List.length_append]
      push_cast
      rw [Int.add_mul, Int.mul_add]
      have : 0 ≤ (n : Int) * (((([x] : List Int).length : Nat) : Int) * 2 ^ n) := Int.mul_nonneg (by omega) (Int.mul_nonneg (by omega) (Int.le_of_lt (p2p n)))
      omega
    · exact ih
theorem putB_mem (w x : Int) (R : List (List Int)) : ∀ (n : Nat) (r : List Int), r ∈ putB w x n R → ∀ a ∈ r, (∃ r0 ∈ R, a ∈ r0) ∨ a = x
  | 0, r, m, a, ma => .inl ⟨r, m, ma⟩
  | n + 1, r, m, a, ma => by
    rw [putB] at m
    split at m
    · rcases List.mem_or_eq_of_mem_set m with m | rfl
      · exact putB_mem w x R n r m a ma
      · rw [mem_srt, List.mem_append] at ma
        rcases ma with ma | ma
        · by_cases hl : n < (putB w x n R).length
          · exact putB_mem w x R n _ (rowAt_mem hl) a ma
          · unfold rowAt at ma
            rw [List.getElem?_eq_none (by omega)] at ma
            simp at ma
        · simp at ma; exact .inr ma
    · exact putB_mem w x R n r m a ma
theorem putB_sorted (w x : Int) (R : List (List Int)) (hR : ∀ r ∈ R, r.Pairwise (· ≤ ·)) : ∀ (n : Nat) (r : List Int), r ∈ putB w x n R → r.Pairwise (· ≤ ·)
  | 0, r, m => hR r m
  | n + 1, r, m => by
    rw [putB] at m
    split at m
    · rcases List.mem_or_eq_of_mem_set m with m | rfl
      · exact putB_sorted w x R hR n r m
      · exact srt_sorted _
    · exact putB_sorted w x R hR n r m
theorem srt_ne (row : List Int) (x : Int) : srt (row ++ [x]) ≠ [] := fun e => by
  have : x ∈ srt (row ++ [x]) := mem_srt.mpr (by simp)
  rw [e] at this; simp at this
theorem putB_ne (w x : Int) (R : List (List Int)) : ∀ (n j : Nat), rowAt R j ≠ [] → rowAt (putB w x n R) j ≠ []
  | 0, j, h => h
  | n + 1, j, h => by
    have ih := putB_ne w x R n j h
    rw [putB]
    split
    · rw [rowAt_set]
      split
      · exact srt_ne _ _
      · exact ih
    · exact ih
theorem putB_top (w x : Int) (R : List (List Int)) : ∀ (n j : Nat), j < n → j < R.length → w / 2 ^ j % 2 = 1 → rowAt (putB w x n R) j ≠ []
  | 0, j, h, _, _ => by omega
  | n + 1, j, h, hl, hb => by
    rw [putB]
    by_cases c : j = n
    · subst c
      rw [if_pos hb, rowAt_set, if_pos ⟨rfl, by rw [putB_len]; exact hl⟩]
      exact srt_ne _ _
    · have ih := putB_top w x R n j (by omega) hl hb
      split
      · rw [rowAt_set]
        split
        · exact srt_ne _ _
        · exact ih
      · exact ih
theorem putB_elems (w x : Int) (R : List (List Int)) : ∀ n : Nat, elems (putB w x n R) ≤ elems R + n
  | 0 => by simp [putB]
  | n + 1 => by
    have ih := putB_elems w x R n
    rw [putB]
    split
    · by_cases hl : n < (putB w x n R).length
      · have key : ∀ (R : List (List Int)) (h : Nat) (x : List Int), h < R.length → elems (R.set h x) + (rowAt R h).length = elems R + x.length := by
          intro R
          induction R with
          | nil => intro h x hl; simp at hl
          | cons y R ih =>
            intro h x hl
            cases h with
            | zero => rw [List.set_cons_zero, elems_cons, elems_cons]; unfold rowAt; simp; omega
            | succ h =>
              have := ih h x (by simpa using hl)
              rw [List.set_cons_succ, elems_cons, elems_cons]
              have e : rowAt (y :: R) (h + 1) = rowAt R h := by unfold rowAt; simp
              rw [e]; omega
        have := key (putB w x n R) n (srt (rowAt (putB w x n R) n ++ [x])) hl
        rw [(srt_perm _).length_eq, List.length_append] at this
        simp at this
        omega
      · rw [List.set_eq_of_length_le (by omega)]; omega
    · omega
theorem elems_pad (R : List (List Int)) (b : Nat) : elems (padR R b) = elems R := by
  unfold padR elems
  simp
theorem pad_mem {R : List (List Int)} {b : Nat} {r : List Int} (m : r ∈ padR R b) : r ∈ R ∨ r = [] := by
  unfold padR at m
  rcases List.mem_append.mp m with m | m
  · exact .inl m
  · exact .inr (List.eq_of_mem_replicate m)
theorem bits_top {w : Int} {b : Nat} (hb : PySem.Builtin.Int.intBits w = b + 1) (hw : 1 ≤ w) : w / 2 ^ b % 2 = 1 := by
  have h1 := lt_bits (Nat.le_of_eq hb)
  have h2 : ¬ w.natAbs < 2 ^ b := fun h => by have := bits_lt h; omega
  have e : ((2 ^ b : Nat) : Int) = 2 ^ b := by push_cast; rfl
  have e2 : ((2 ^ (b + 1) : Nat) : Int) = 2 ^ b * 2 := by push_cast; rw [Int.pow_succ]
  have l1 : (2 : Int) ^ b ≤ w := by omega
  have l2 : w < 2 ^ b * 2 := by omega
  have q1 : 1 ≤ w / 2 ^ b := Int.le_ediv_of_mul_le (p2p b) (by omega)
  have q2 : w / 2 ^ b < 2 := Int.ediv_lt_of_lt_mul (p2p b) (by omega)
  omega
/-- before the settling -/
noncomputable def preR (S : Rg) (x w : Int) : Rg := ⟨putB w x (PySem.Builtin.Int.intBits w) (padR S.R (PySem.Builtin.Int.intBits w)), S.ov, S.un, S.tu⟩
theorem bits_pos {w : Int} (hw : 1 ≤ w) : 1 ≤ PySem.Builtin.Int.intBits w := by
  have h2 : ¬ w.natAbs < 2 ^ 0 := by simp; omega
  have : ¬ PySem.Builtin.Int.intBits w ≤ 0 := fun h => h2 (lt_bits h)
  omega
theorem pre_ok {room : Nat} {S : Rg} {total : Int} {tr : Int → Int} {P P' : Int → Prop} (o : OkS room S total tr P) {x w : Int} (hw : 1 ≤ w) (hP : ∀ a, P a → P' a) (hx : P' x) :
    OkS room (preR S x w) (total + w) (fun t => tr t + if x ≤ t then w else 0) P' := by
  have hb := bits_pos hw
  have hl : PySem.Builtin.Int.intBits w ≤ (padR S.R (PySem.Builtin.Int.intBits w)).length := by rw [padR_len]; omega
  have wm : w % 2 ^ PySem.Builtin.Int.intBits w = w := by
    have := lt_bits (Nat.le_refl (PySem.Builtin.Int.intBits w))
    have e : ((2 ^ (PySem.Builtin.Int.intBits w) : Nat) : Int) = 2 ^ (PySem.Builtin.Int.intBits w) := by push_cast; rfl
    exact Int.emod_eq_of_lt (by omega) (by omega)
  have n1 := fun t => putB_near t w x _ _ hl
  have n2 := putB_weight w x _ _ hl
  have n3 := putB_phi w x _ _ hl
  rw [wm] at n2
  have wp : weightR (padR S.R (PySem.Builtin.Int.intBits w)) = weightR S.R := wsum_pad _ lenG_nil _ _
  have pp : phiR (padR S.R (PySem.Builtin.Int.intBits w)) = phiR S.R := wsum_pad _ phiG_nil _ _
  have np : ∀ t, nearR t (padR S.R (PySem.Builtin.Int.intBits w)) = nearR t S.R := fun t => wsum_pad _ (cntG_nil t) _ _
  refine ⟨fun r m => ?_, o.ov, o.un, o.tu, fun t => ?_, ?_, ?_, fun r m a ma => ?_, .inr ?_⟩
  · refine putB_sorted w x _ (fun r m => ?_) _ r m
    rcases pad_mem m with m | rfl
    · exact o.so r m
    · exact List.Pairwise.nil
  · have := o.bd t
    have n1 := n1 t
    rw [np, wm] at n1
    show nearR t (putB w x _ _) - S.ov ≤ _ ∧ _
    unfold preR
    simp only
    rw [n1]
    split <;> omega
  · unfold preR; simp only; rw [n2, wp, o.we]
  · unfold preR; simp only
    have := o.sl
    omega
  · rcases putB_mem w x _ _ r m a ma with ⟨r0, m0, ma0⟩ | rfl
    · rcases pad_mem m0 with m0 | rfl
      · exact hP a (o.me r0 m0 a ma0)
      · simp at ma0
    · exact hx
  · unfold preR; simp only
    rw [putB_len, padR_len]
    by_cases c : PySem.Builtin.Int.intBits w ≤ S.R.length
    · have e : max S.R.length (PySem.Builtin.Int.intBits w) = S.R.length := by omega
      rw [e]
      refine putB_ne _ _ _ _ _ ?_
      rcases o.la with la | la
      · rw [la] at c; simp at c; omega
      · unfold padR
        rw [rowAt_app (by omega)]; exact la
    · have e : max S.R.length (PySem.Builtin.Int.intBits w) = PySem.Builtin.Int.intBits w := by omega
      rw [e]
      refine putB_top _ _ _ _ _ (by omega) (by rw [padR_len]; omega) (bits_top (by omega) hw)
noncomputable def addRg (room : Nat) (S : Rg) (x w : Int) : Rg := settleR room (preR S x w)
end PX

namespace PX
open PySem PySem.Spec PyProof.Rows L2 PL
@[irreducible] noncomputable def B_settled_list_0 : S :=
  sIf (tst (cVar 1)) (sApp 3 (eBin mIx (vVar 0) (eBin mAdd (eBin mMul (eC (.int 2)) (vVar 4)) (eC (.int 1))))) (sApp 3 (eBin mIx (vVar 0) (eBin mMul (eC (.int 2)) (vVar 4))))
@[irreducible] noncomputable def F_settled_list : Fn := fn 5 <|
  sSeq (sSet 2 (eBin mDiv (eUn mLen (cVar 0)) (eC (.int 2)))) <|
  sSeq (sSetF 3 (eLst (eNil))) <|
  sSeq (sFor (iRg1 (eVar 2)) (tgN 4) (PX.B_settled_list_0)) <|
  sRet (eTup (eCons (eSlc (vVar 0) (oSome (eBin mMul (eC (.int 2)) (vVar 2))) (oNone)) (eCons (eVar 3) (eNil))))
@[irreducible] noncomputable def B_settle_rungs_0 : S :=
  sSeq (sIf (eLendF 0 14 (tst (eBin mGt (eUn mLen (eBin mIx (vFld 14 (eVar 0)) (vVar 1))) (vFld 0 (eVar 0))))) (sSeq (sSet 2 (eBin mEq (eBin mMod (vFld 11 (eVar 0)) (eC (.int 2))) (eC (.int 1)))) <|
  sSeq (sUnT [3, 4] (eLendF 0 14 (eCall PX.F_settled_list (aCons (aV (eBin mIx (vFld 14 (eVar 0)) (vVar 1))) (aCons (aL 2) (aNil)))))) <|
  sSeq (sPutF 0 14 (eVar 1) (eVar 3)) <|
  sSeq (sIf (tst (eBin mEq (eBin mAdd (vVar 1) (eC (.int 1))) (eUn mLen (cFld 14 (eVar 0))))) (sAppF 0 14 (eLst (eNil))) (sNx)) <|
  sSeq (sPutF 0 14 (eBin mAdd (vVar 1) (eC (.int 1))) (eLendF 0 14 (eUn mSortedX (eBin mAdd (eBin mIx (vFld 14 (eVar 0)) (eBin mAdd (vVar 1) (eC (.int 1)))) (vVar 4))))) <|
  sSeq (sIf (tst (cVar 2)) (sFldAug 10 [9] (eVar 0) mAddI (eBin mShl (eC (.int 1)) (vVar 1))) (sFldAug 9 [9] (eVar 0) mAddI (eBin mShl (eC (.int 1)) (vVar 1)))) <|
  sFldAug 11 [9] (eVar 0) mAddI (eC (.int 1))) (sNx)) <|
  sAug 1 mAddI (eC (.int 1))
@[irreducible] noncomputable def C_settle_rungs_0 : E Bool :=
  tst (eBin mLt (vVar 1) (eUn mLen (cFld 14 (eVar 0))))
@[irreducible] noncomputable def F_settle_rungs : Fn := fn 5 <|
  sSeq (sSet 1 (eC (.int 0))) <|
  sWhile (PX.C_settle_rungs_0) (PX.B_settle_rungs_0)
@[irreducible] noncomputable def F_Rungs_init : Fn := fn 2 <|
  sSeq (sFld 0 [6, 8, 9, 10, 12, 13] (eVar 0) (eVar 1)) <|
  sSeq (sFld 6 [8, 9] (eVar 0) (eC (.int 0))) <|
  sSeq (sFld 9 [9] (eVar 0) (eC (.int 0))) <|
  sSeq (sFld 10 [9] (eVar 0) (eC (.int 0))) <|
  sSeq (sFld 11 [9] (eVar 0) (eC (.int 0))) <|
  sSeq (sFld 12 [9] (eVar 0) (eC .non)) <|
  sSeq (sFld 13 [9] (eVar 0) (eC .non)) <|
  sFldF 14 [9] 0 (eLst (eNil))
@[irreducible] noncomputable def B_Rungs_add_0 : S :=
  sAppF 0 14 (eLst (eNil))
@[irreducible] noncomputable def C_Rungs_add_0 : E Bool :=
  tst (eBin mLt (eUn mLen (cFld 14 (eVar 0))) (eUn mBits (cVar 2)))
@[irreducible] noncomputable def B_Rungs_add_1 : S :=
  sIf (tst (eBin mEq (eBin mAnd (eBin mShr (vVar 2) (vVar 3)) (eC (.int 1))) (eC (.int 1)))) (sPutF 0 14 (eVar 3) (eLendF 0 14 (eUn mSortedX (eBin mAdd (eBin mIx (vFld 14 (eVar 0)) (vVar 3)) (eLst (eCons (eVar 1) (eNil))))))) (sNx)
@[irreducible] noncomputable def F_Rungs_add : Fn := fn 4 <|
  sSeq (sFldAug 6 [8, 9] (eVar 0) mAddI (eVar 2)) <|
  sSeq (sIf (bOr (tst (eUn mIsN (cFld 12 (eVar 0)))) (tst (eBin mLt (vVar 1) (vFld 12 (eVar 0))))) (sFld 12 [9] (eVar 0) (eVar 1)) (sNx)) <|
  sSeq (sIf (bOr (tst (eUn mIsN (cFld 13 (eVar 0)))) (tst (eBin mGt (vVar 1) (vFld 13 (eVar 0))))) (sFld 13 [9] (eVar 0) (eVar 1)) (sNx)) <|
  sSeq (sWhile (PX.C_Rungs_add_0) (PX.B_Rungs_add_0)) <|
  sSeq (sFor (iRg1 (eUn mBits (cVar 2))) (tgN 3) (PX.B_Rungs_add_1)) <|
  sEx (eCall PX.F_settle_rungs (aCons (aL 0) (aNil)))
end PX

/-! What a Rungs does. -/
namespace PX
open PySem PySem.Spec PyProof.Rows L2 PL
noncomputable def encL (r : List Int) : D := .lst (r.map D.int)
noncomputable def oD : Option Int → D
  | none => .non
  | some i => .int i
noncomputable def rgFs (room : Nat) (S : Rg) (total : Int) (least most : Option Int) : List (Nat × FV) :=
  [(0, .val (.int (room : Nat))), (6, .val (.int total)), (9, .val (.int S.ov)), (10, .val (.int S.un)), (11, .val (.int S.tu)), (12, .val (oD least)), (13, .val (oD most)), (14, .own (.lst (S.R.map encL)))]
noncomputable def rgO (room : Nat) (S : Rg) (total : Int) (least most : Option Int) : LO := .ins 9 (rgFs room S total least most)
theorem goes_get (g : Bool) : ∀ (row : List Int) (k : Nat), k < row.length / 2 → (goesOf g row)[k]? = row[2 * k + (if g then 1 else 0)]?
  | [], k, h => by simp at h
  | [_], k, h => by simp at h
  | a :: b :: r, 0, h => by cases g <;> simp [goesOf]
  | a :: b :: r, k + 1, h => by
    have := goes_get g r k (by simp at h; omega)
    rw [goesOf, List.getElem?_cons_succ, this]
    cases g
    · simp [Nat.mul_add]
    · simp [Nat.mul_add]
theorem settled_v (row : List Int) (g : Bool) (h : List LO) (hl : row.length ≤ 1000000) : F_settled_list [.val (encL row), .val (.bl g)] h = .ret (.val (.tup [encL (staysOf row), encL (goesOf g row)])) h := by
  have hg := goes_len g row
  obtain ⟨st', e, y4, rfl⟩ := range_inv (tg := tgN 4) (b := B_settled_list_0) (fun i st => ∃ y4, st = ⟨[some (.val (encL row)), some (.val (.bl g)), some (.val (.int ((row.length : Int) / 2))), some (.own (encL ((goesOf g row).take i))), y4], h⟩) (row.length / 2)
    (fun i st hi ⟨y4, e⟩ => by
      subst e
      refine ⟨_, rfl, ⟨[some (.val (encL row)), some (.val (.bl g)), some (.val (.int ((row.length : Int) / 2))), some (.own (encL ((goesOf g row).take (i + 1)))), some (.val (.int (i : Nat)))], h⟩, .inl ?_, _, rfl⟩
      have hx := goes_get g row i hi
      obtain ⟨x, ex⟩ : ∃ x, (goesOf g row)[i]? = some x := ⟨_, List.getElem?_eq_getElem (by rw [hg]; exact hi)⟩
      have tk : (goesOf g row).take (i + 1) = (goesOf g row).take i ++ [x] := by rw [List.take_add_one, ex]; rfl
      rw [ex] at hx
      have at0 : PL.atD (row.map D.int) (2 * (i : Int) + (if g then 1 else 0)) = some (.int x) := by
        have e2 : 2 * (i : Int) + (if g then 1 else 0) = ((2 * i + (if g then 1 else 0) : Nat) : Int) := by cases g <;> simp
        rw [e2, atD_nat, List.getElem?_map, ← hx]; rfl
      have c2 : CMulX 2 (i : Int) := cmul_of 10 100 (by decide) (by omega)
      have tl : ((goesOf g row).take i).length < 16777216 := by rw [List.length_take]; omega
      rw [List.length_take] at tl
      rw [tk]
      unfold B_settled_list_0 encL
      cases g
      · simp at at0
        simp [at0, c2, tl, -List.map_take]
      · simp at at0
        simp [at0, c2, tl, -List.map_take])
    ⟨[some (.val (encL row)), some (.val (.bl g)), some (.val (.int ((row.length : Int) / 2))), some (.own (encL [])), none], h⟩ ⟨none, rfl⟩
  rw [List.take_of_length_le (by omega)] at e
  have g1 : ((row.length : Int) / 2).toNat = row.length / 2 := by omega
  have g2 : -4611686018427387904 ≤ (row.length : Int) / 2 ∧ (row.length : Int) / 2 < 4611686018427387904 := by omega
  have cut : PL.cutD (row.map D.int) (some (2 * ((row.length : Int) / 2))) none = (staysOf row).map D.int := by
    rw [cut_hi _ _ (2 * (row.length / 2)) (by omega)]
    unfold staysOf; rw [List.map_drop]
  have c2 : CMulX 2 ((row.length : Int) / 2) := cmul_of 10 100 (by decide) (by omega)
  unfold F_settled_list
  unfold encL at *
  simp at e
  simp [fn_s, e, g1, g2, cut, c2]
theorem rg_lk (a b c d e f g i : FV) : List.lookup 0 [(0, a), (6, b), (9, c), (10, d), (11, e), (12, f), (13, g), (14, i)] = some a ∧ List.lookup 6 [(0, a), (6, b), (9, c), (10, d), (11, e), (12, f), (13, g), (14, i)] = some b ∧
    List.lookup 9 [(0, a), (6, b), (9, c), (10, d), (11, e), (12, f), (13, g), (14, i)] = some c ∧ List.lookup 10 [(0, a), (6, b), (9, c), (10, d), (11, e), (12, f), (13, g), (14, i)] = some d ∧
    List.lookup 11 [(0, a), (6, b), (9, c), (10, d), (11, e), (12, f), (13, g), (14, i)] = some e ∧ List.lookup 12 [(0, a), (6, b), (9, c), (10, d), (11, e), (12, f), (13, g), (14, i)] = some f ∧
    List.lookup 13 [(0, a), (6, b), (9, c), (10, d), (11, e), (12, f), (13, g), (14, i)] = some g ∧ List.lookup 14 [(0, a), (6, b), (9, c), (10, d), (11, e), (12, f), (13, g), (14, i)] = some i := ⟨rfl, rfl, rfl, rfl, rfl, rfl, rfl, rfl⟩
theorem row_at {R : List (List Int)} {h : Nat} (hl : h < R.length) : (R.map encL)[h]? = some (encL (rowAt R h)) := by
  rw [List.getElem?_map, List.getElem?_eq_getElem hl]
  unfold rowAt
  rw [List.getElem?_eq_getElem hl]; rfl
theorem set_grow (R : List (List Int)) (h : Nat) (x : List Int) (hl : h < R.length) : growR (R.set h x) h = (growR R h).set h x := by
  unfold growR
  rw [List.length_set]
  split
  · rw [List.set_append_left _ _ hl]
  · rfl
theorem ints_app : ∀ (a b : List Int), intsD (a.map D.int ++ b.map D.int) = some (a ++ b) := fun a b => by rw [← List.map_append]; exact intsD_map _
theorem shl1 (h : Nat) (hb : h ≤ 100000000) : CShl 1 (h : Int) := ⟨by omega, by
  have : Builtin.Int.intBits 1 = 1 := by decide
  rw [this]; omega⟩
theorem elems_ge : ∀ {R : List (List Int)} {x : List Int}, x ∈ R → x.length ≤ elems R := by
  intro R
  induction R with
  | nil => intro x m; simp at m
  | cons y R ih =>
    intro x m
    rw [elems_cons]
    rcases List.mem_cons.mp m with rfl | m
    · omega
    · have := ih m; omega
theorem settle_step_v (r room : Nat) (S : Rg) (total : Int) (least most : Option Int) (H : List LO) (hr : H[r]? = some (rgO room S total least most)) (h : Nat) (hl : h < S.R.length) (hb : h ≤ 100000) (he : elems S.R ≤ 1000000) (hlen : S.R.length ≤ 100000) (x2 x3 x4 : Option FV) :
    ∃ y2 y3 y4, B_settle_rungs_0 ⟨[some (.val (.obj r)), some (.val (.int (h : Nat))), x2, x3, x4], H⟩ = .nx ⟨[some (.val (.obj r)), some (.val (.int ((h + 1 : Nat) : Int))), y2, y3, y4], H.set r (rgO room (stepR room h S) total least most)⟩ := by
  have hs := fun a => hset hr a
  have ss := set_self hr
  have rl : r < H.length := (List.getElem?_eq_some_iff.mp hr).1
  have ra : PL.atD (S.R.map encL) (h : Int) = some (encL (rowAt S.R h)) := by rw [atD_nat, row_at hl]
  have rlen : (rowAt S.R h).length ≤ 1000000 := by
    have := elems_ge (rowAt_mem hl)
    omega
  have sv := fun g H => settled_v (rowAt S.R h) g H rlen
  have c1 := shl1 h (by omega)
  unfold B_settle_rungs_0
  unfold rgO rgFs at *
  by_cases q : room < (rowAt S.R h).length
  · refine ⟨some (.val (.bl (decide (S.tu % 2 = 1)))), some (.val (encL (staysOf (rowAt S.R h)))), some (.val (encL (goesOf (decide (S.tu % 2 = 1)) (rowAt S.R h)))), ?_⟩
    have ix1 : ixD S.R.length (h : Int) = some h := by unfold ixD; rw [if_pos (by omega), if_pos (by omega)]; simp
    have gl := growR_len S.R h hl
    have ix2 : ∀ n : Nat, n = (growR S.R h).length → ixD n ((h : Int) + 1) = some (h + 1) := fun n e => by unfold ixD; rw [if_pos (by omega), if_pos (by omega)]; simp
    have ms : (S.R.map encL).set h (encL (staysOf (rowAt S.R h))) = (S.R.set h (staysOf (rowAt S.R h))).map encL := by rw [List.map_set]
    have rb : PL.atD ((growR (S.R.set h (staysOf (rowAt S.R h))) h).map encL) ((h : Int) + 1) = some (encL (rowAt (growR S.R h) (h + 1))) := by
      rw [show (h : Int) + 1 = ((h + 1 : Nat) : Int) by omega, atD_nat, row_at (by rw [set_grow _ _ _ hl, List.length_set]; exact gl.1), set_grow _ _ _ hl, rowAt_set, if_neg (by omega)]
    have sl : (rowAt (growR S.R h) (h + 1)).length + (goesOf (decide (S.tu % 2 = 1)) (rowAt S.R h)).length ≤ 16777216 := by
      have h1 : (rowAt (growR S.R h) (h + 1)).length ≤ 1000000 := by
        rcases mem_grow (rowAt_mem gl.1) with m | m
        · have := elems_ge m; omega
        · rw [m]; simp
      rw [goes_len]; omega
    have e : stepR room h S = ⟨(growR (S.R.set h (staysOf (rowAt S.R h))) h).set (h + 1) (srt (rowAt (growR S.R h) (h + 1) ++ goesOf (decide (S.tu % 2 = 1)) (rowAt S.R h))), if S.tu % 2 = 1 then S.ov else S.ov + 2 ^ h, if S.tu % 2 = 1 then S.un + 2 ^ h else S.un, S.tu + 1⟩ := by
      unfold stepR; rw [if_pos q, set_grow _ _ _ hl]
    rw [e]
    have ic := fun a b => ints_app a b
    by_cases c : h + 1 = S.R.length
    · have eg : growR (S.R.set h (staysOf (rowAt S.R h))) h = S.R.set h (staysOf (rowAt S.R h)) ++ [[]] := by unfold growR; rw [List.length_set, if_pos c]
      have c' : (h : Int) + 1 = (S.R.length : Int) := by omega
      rw [eg] at rb ⊢
      have ix3 := ix2 (S.R.length + 1) (by unfold growR; rw [if_pos c]; simp)
      have ms2 : ∀ x, (List.map encL (S.R.set h (staysOf (rowAt S.R h))) ++ [D.lst []]).set (h + 1) (encL x) = List.map encL ((S.R.set h (staysOf (rowAt S.R h)) ++ [[]]).set (h + 1) x) := fun x => by
        have := (List.map_set (f := encL) (l := S.R.set h (staysOf (rowAt S.R h)) ++ [[]]) (i := h + 1) (a := x)).symm
        rw [List.map_append] at this
        exact this
      rw [List.map_append, c'] at rb
      rw [c'] at ix3
      have rb' : PL.atD (List.map encL (S.R.set h (staysOf (rowAt S.R h))) ++ [D.lst []]) (S.R.length : Int) = some (encL (rowAt (growR S.R h) (h + 1))) := rb
      have ln : S.R.length < 16777216 := by omega
      unfold encL at *
      by_cases g : S.tu % 2 = 1
      · simp only [g, decide_true] at sl
        simp [hr, rg_lk, hs, ra, ss, q, sv, ix1, ix3, rb', sl, c1, g, c', ms, ms2, ln, ic, -List.map_set]
      · have g1 : (S.tu % 2 == 1) = false := by simpa using g
        simp only [g, decide_false] at sl
        simp [hr, rg_lk, hs, ra, ss, q, sv, ix1, ix3, rb', sl, c1, g, g1, c', ms, ms2, ln, ic, -List.map_set]
    · have eg : growR (S.R.set h (staysOf (rowAt S.R h))) h = S.R.set h (staysOf (rowAt S.R h)) := by unfold growR; rw [List.length_set, if_neg c]
      have c' : ¬ (h : Int) + 1 = (S.R.length : Int) := by omega
      rw [eg] at rb ⊢
      have ix3 := ix2 S.R.length (by unfold growR; rw [if_neg c])
      have ms2 : ∀ x, (List.map encL (S.R.set h (staysOf (rowAt S.R h)))).set (h + 1) (encL x) = List.map encL ((S.R.set h (staysOf (rowAt S.R h))).set (h + 1) x) := fun x => List.map_set.symm
      unfold encL at *
      by_cases g : S.tu % 2 = 1
      · simp only [g, decide_true] at sl
        simp [hr, rg_lk, hs, ra, ss, q, sv, ix1, ix3, rb, sl, c1, g, c', ms, ms2, ic, -List.map_set]
      · have g1 : (S.tu % 2 == 1) = false := by simpa using g
        simp only [g, decide_false] at sl
        simp [hr, rg_lk, hs, ra, ss, q, sv, ix1, ix3, rb, sl, c1, g, g1, c', ms, ms2, ic, -List.map_set]
  · refine ⟨x2, x3, x4, ?_⟩
    have e : stepR room h S = S := by unfold stepR; rw [if_neg q]
    rw [e, ss]
    simp [hr, rg_lk, hs, ra, ss, q, encL]
theorem elems_set : ∀ (R : List (List Int)) (h : Nat) (x : List Int), h < R.length → elems (R.set h x) + (rowAt R h).length = elems R + x.length
  | [], h, x, hl => by simp at hl
  | y :: R, 0, x, _ => by rw [List.set_cons_zero, elems_cons, elems_cons]; unfold rowAt; simp; omega
  | y :: R, h + 1, x, hl => by
    have := elems_set R h x (by simpa using hl)
    rw [List.set_cons_succ, elems_cons, elems_cons]
    have e : rowAt (y :: R) (h + 1) = rowAt R h := by unfold rowAt; simp
    rw [e]; omega
theorem elems_grow (R : List (List Int)) (h : Nat) : elems (growR R h) = elems R := by
  unfold growR elems
  split <;> simp
theorem step_elems (room h : Nat) (S : Rg) (hl : h < S.R.length) : elems (stepR room h S).R ≤ elems S.R := by
  unfold stepR
  split
  · have gl := growR_len S.R h hl
    have e1 := elems_set (growR S.R h) h (staysOf (rowAt S.R h)) (by omega)
    have e2 := elems_set ((growR S.R h).set h (staysOf (rowAt S.R h))) (h + 1) (srt (rowAt (growR S.R h) (h + 1) ++ goesOf (decide (S.tu % 2 = 1)) (rowAt S.R h))) (by rw [List.length_set]; omega)
    rw [rowAt_set, if_neg (by omega)] at e2
    rw [rowAt_grow hl, elems_grow] at e1
    simp only
    rw [(srt_perm _).length_eq, List.length_append, goes_len] at e2
    rw [stays_len] at e1
    omega
  · omega
/-- the settling, by the turns that are left -/
theorem settle_loop_v (r room : Nat) (hm : 1 ≤ room) (total : Int) (least most : Option Int) : ∀ (n h : Nat) (S : Rg) (H : List LO) (x2 x3 x4 : Option FV), H[r]? = some (rgO room S total least most) → mu h S.R ≤ n → h + n ≤ 100000 → elems S.R ≤ 100000 → S.R.length + n ≤ 100000 →
    ∃ k y2 y3 y4, sWhile C_settle_rungs_0 B_settle_rungs_0 ⟨[some (.val (.obj r)), some (.val (.int (h : Nat))), x2, x3, x4], H⟩ = .nx ⟨[some (.val (.obj r)), some (.val (.int k)), y2, y3, y4], H.set r (rgO room (loopR room n h S) total least most)⟩ := by
  intro n
  induction n with
  | zero =>
    intro h S H x2 x3 x4 hr hmu hb he hlen
    have hl : ¬ h < S.R.length := by unfold mu at hmu; omega
    refine ⟨h, x2, x3, x4, ?_⟩
    have e : loopR room 0 h S = S := rfl
    rw [e, set_self hr, sWhile_eq]
    unfold C_settle_rungs_0
    unfold rgO rgFs at hr
    simp [hr, rg_lk, hl]
  | succ n ih =>
    intro h S H x2 x3 x4 hr hmu hb he hlen
    by_cases hl : h < S.R.length
    · obtain ⟨y2, y3, y4, e1⟩ := settle_step_v r room S total least most H hr h hl (by omega) (by omega) (by omega) x2 x3 x4
      have m := mu_step hm hl
      have el : elems (stepR room h S).R ≤ elems S.R := step_elems room h S hl
      have ll : (stepR room h S).R.length ≤ S.R.length + 1 := by
        unfold stepR
        split
        · simp only [List.length_set]; unfold growR; split <;> simp
        · omega
      obtain ⟨k, z2, z3, z4, e2⟩ := ih (h + 1) (stepR room h S) (H.set r (rgO room (stepR room h S) total least most)) y2 y3 y4 (hset hr _) (by omega) (by omega) (by omega) (by omega)
      refine ⟨k, z2, z3, z4, ?_⟩
      rw [List.set_set] at e2
      have e : loopR room (n + 1) h S = loopR room n (h + 1) (stepR room h S) := by rw [loopR, if_pos hl]
      have hc : C_settle_rungs_0 ⟨[some (.val (.obj r)), some (.val (.int (h : Nat))), x2, x3, x4], H⟩ = .ok true ⟨[some (.val (.obj r)), some (.val (.int (h : Nat))), x2, x3, x4], H⟩ := by
        unfold C_settle_rungs_0
        unfold rgO rgFs at hr
        simp [hr, rg_lk, hl]
      rw [e, ← e2, sWhile_eq, hc]
      simp only [of_ok, if_true, e1]
    · refine ⟨h, x2, x3, x4, ?_⟩
      have e : loopR room (n + 1) h S = S := by rw [loopR, if_neg hl]
      rw [e, set_self hr, sWhile_eq]
      unfold C_settle_rungs_0
      unfold rgO rgFs at hr
      simp [hr, rg_lk, hl]
theorem settle_v (r room : Nat) (hm : 1 ≤ room) (S : Rg) (total : Int) (least most : Option Int) (H : List LO) (hr : H[r]? = some (rgO room S total least most)) (he : elems S.R ≤ 10000) (hlen : S.R.length ≤ 10000) :
    F_settle_rungs [.val (.obj r)] H = .ret (.val .non) (H.set r (rgO room (settleR room S) total least most)) := by
  have hmu : mu 0 S.R ≤ 20000 := by unfold mu; simp; omega
  obtain ⟨k, y2, y3, y4, e⟩ := settle_loop_v r room hm total least most (mu 0 S.R) 0 S H none none none hr (Nat.le_refl _) (by omega) (by omega) (by omega)
  unfold F_settle_rungs settleR
  simp at e
  simp [fn_s, e]
noncomputable def rgZ : Rg := ⟨[], 0, 0, 0⟩
theorem rg_init_v (r room : Nat) (h : List LO) (hr : h[r]? = some (.ins 9 [])) : F_Rungs_init [.val (.obj r), .val (.int (room : Nat))] h = .ret (.val .non) (h.set r (rgO room rgZ 0 none none)) := by
  have hs := fun a => hset hr a
  have hl : r < h.length := (List.getElem?_eq_some_iff.mp hr).1
  unfold F_Rungs_init
  simp [fn_s, hr, hs, rgO, rgFs, rgZ, oD]
noncomputable def loO (l : Option Int) (x : Int) : Option Int := some (match l with
  | none => x
  | some i => if x < i then x else i)
noncomputable def hiO (l : Option Int) (x : Int) : Option Int := some (match l with
  | none => x
  | some i => if i < x then x else i)
theorem rg_add_v (r room : Nat) (hm : 1 ≤ room) (S : Rg) (total : Int) (least most : Option Int) (x w : Int) (H : List LO) (hr : H[r]? = some (rgO room S total least most)) (hw : 1 ≤ w) (hb : w < 2 ^ 100) (he : elems S.R ≤ 9000) (hlen : S.R.length ≤ 9000) :
    F_Rungs_add [.val (.obj r), .val (.int x), .val (.int w)] H = .ret (.val .non) (H.set r (rgO room (addRg room S x w) (total + w) (loO least x) (hiO most x))) := by
  have hs := fun a => hset hr a
  have ss := set_self hr
  have b1 : Builtin.Int.intBits w ≤ 100 := bits_lt (by omega)
  obtain ⟨B, hB⟩ : ∃ B, Builtin.Int.intBits w = B := ⟨_, rfl⟩
  rw [hB] at b1
  -- the lists that are lacking
  have pad : ∀ (n : Nat) (R : List (List Int)) (l m : Option Int), R.length + n = B → ∀ x3, sWhile C_Rungs_add_0 B_Rungs_add_0 ⟨[some (.val (.obj r)), some (.val (.int x)), some (.val (.int w)), x3], H.set r (rgO room ⟨R, S.ov, S.un, S.tu⟩ (total + w) l m)⟩ =
      .nx ⟨[some (.val (.obj r)), some (.val (.int x)), some (.val (.int w)), x3], H.set r (rgO room ⟨R ++ List.replicate n [], S.ov, S.un, S.tu⟩ (total + w) l m)⟩ := by
    intro n
    induction n with
    | zero =>
      intro R l m e x3
      rw [sWhile_eq]
      unfold C_Rungs_add_0 rgO rgFs
      simp [hs, rg_lk, hB, show ¬ R.length < B by omega]
    | succ n ih =>
      intro R l m e x3
      have := ih (R ++ [[]]) l m (by simp; omega) x3
      rw [List.replicate_succ, show R ++ [] :: List.replicate n [] = R ++ [[]] ++ List.replicate n [] by simp, ← this, sWhile_eq]
      unfold C_Rungs_add_0 B_Rungs_add_0 rgO rgFs
      simp [hs, rg_lk, hB, show R.length < B by omega, show R.length < 16777216 by omega, encL]
  have pad2 : ∀ (l m : Option Int) x3, sWhile C_Rungs_add_0 B_Rungs_add_0 ⟨[some (.val (.obj r)), some (.val (.int x)), some (.val (.int w)), x3], H.set r (rgO room S (total + w) l m)⟩ =
      .nx ⟨[some (.val (.obj r)), some (.val (.int x)), some (.val (.int w)), x3], H.set r (rgO room ⟨padR S.R B, S.ov, S.un, S.tu⟩ (total + w) l m)⟩ := by
    intro l m x3
    by_cases c : S.R.length ≤ B
    · exact pad (B - S.R.length) S.R l m (by omega) x3
    · have e : padR S.R B = S.R := by unfold padR; rw [show B - S.R.length = 0 by omega]; simp
      rw [e, sWhile_eq]
      unfold C_Rungs_add_0 rgO rgFs
      simp [hs, rg_lk, hB, show ¬ S.R.length < B by omega]
  have pl := padR_len S.R B
  have loop : ∀ (l m : Option Int), ∃ x3, turns (tgN 3) B_Rungs_add_1 (rangeD 0 B) ⟨[some (.val (.obj r)), some (.val (.int x)), some (.val (.int w)), none], H.set r (rgO room ⟨padR S.R B, S.ov, S.un, S.tu⟩ (total + w) l m)⟩ =
      .nx ⟨[some (.val (.obj r)), some (.val (.int x)), some (.val (.int w)), x3], H.set r (rgO room ⟨putB w x B (padR S.R B), S.ov, S.un, S.tu⟩ (total + w) l m)⟩ := by
    intro l m
    obtain ⟨st', e, x3, rfl⟩ := range_inv (tg := tgN 3) (b := B_Rungs_add_1) (fun i st => ∃ x3, st = ⟨[some (.val (.obj r)), some (.val (.int x)), some (.val (.int w)), x3], H.set r (rgO room ⟨putB w x i (padR S.R B), S.ov, S.un, S.tu⟩ (total + w) l m)⟩) B
      (fun i st hi ⟨x3, e⟩ => by
        subst e
        refine ⟨_, rfl, ⟨[some (.val (.obj r)), some (.val (.int x)), some (.val (.int w)), some (.val (.int (i : Nat)))], H.set r (rgO room ⟨putB w x (i + 1) (padR S.R B), S.ov, S.un, S.tu⟩ (total + w) l m)⟩, .inl ?_, _, rfl⟩
        have il : i < (putB w x i (padR S.R B)).length := by rw [putB_len]; omega
        have ra : PL.atD ((putB w x i (padR S.R B)).map encL) (i : Int) = some (encL (rowAt (putB w x i (padR S.R B)) i)) := by rw [atD_nat, row_at il]
        have ix : ixD (putB w x i (padR S.R B)).length (i : Int) = some i := by unfold ixD; rw [if_pos (by omega), if_pos (by omega)]; simp
        have pe := putB_elems w x (padR S.R B) i
        rw [elems_pad] at pe
        have rl : (rowAt (putB w x i (padR S.R B)) i).length + 1 ≤ 16777216 := by have := elems_ge (rowAt_mem il); omega
        have ba := PyProof.Rows.bitAnd_m1 (w / 2 ^ i)
        have ic : ∀ a : List Int, intsD (a.map D.int ++ [D.int x]) = some (a ++ [x]) := fun a => ints_app a [x]
        have ms : ∀ y, (List.map encL (putB w x i (padR S.R B))).set i (encL y) = List.map encL ((putB w x i (padR S.R B)).set i y) := fun y => List.map_set.symm
        rw [putB]
        generalize putB w x i (padR S.R B) = R at *
        unfold B_Rungs_add_1 rgO rgFs
        unfold encL at *
        by_cases q : w / 2 ^ i % 2 = 1
        · simp [hs, rg_lk, ba, q, ra, ix, rl, ic, ms, -List.map_set]
        · have q1 : (w / 2 ^ i % 2 == 1) = false := by simpa using q
          simp [hs, rg_lk, ba, q, q1])
      ⟨[some (.val (.obj r)), some (.val (.int x)), some (.val (.int w)), none], H.set r (rgO room ⟨padR S.R B, S.ov, S.un, S.tu⟩ (total + w) l m)⟩ ⟨none, rfl⟩
    exact ⟨x3, e⟩
  have pre : preR S x w = ⟨putB w x B (padR S.R B), S.ov, S.un, S.tu⟩ := by unfold preR; rw [hB]
  have pe := putB_elems w x (padR S.R B) B
  rw [elems_pad] at pe
  have sv0 := fun l m => settle_v r room hm (preR S x w) (total + w) l m (H.set r (rgO room (preR S x w) (total + w) l m)) (hset hr _) (by rw [pre]; simp only; omega) (by rw [pre]; simp only; rw [putB_len]; omega)
  have g2 : (B : Int) < 4611686018427387904 := by omega
  unfold addRg
  rw [pre]
  unfold F_Rungs_add
  rcases least with _ | l
  · rcases most with _ | m
    · skip
      have p1 := pad2 (some x) (some x) none
      obtain ⟨x3, lp⟩ := loop (some x) (some x)
      have sv := sv0 (some x) (some x)
      rw [List.set_set, pre] at sv
      unfold loO hiO
      clear pad2 loop sv0 pad
      unfold rgO rgFs oD at *
      simp [fn_s, hr, hs, rg_lk, p1, lp, sv, hB, g2]
    · by_cases c2 : m < x
      · skip
        have p1 := pad2 (some x) (some x) none
        obtain ⟨x3, lp⟩ := loop (some x) (some x)
        have sv := sv0 (some x) (some x)
        rw [List.set_set, pre] at sv
        unfold loO hiO
        clear pad2 loop sv0 pad
        unfold rgO rgFs oD at *
        simp [fn_s, hr, hs, rg_lk, p1, lp, sv, hB, g2, c2]
      · skip
        have p1 := pad2 (some x) (some m) none
        obtain ⟨x3, lp⟩ := loop (some x) (some m)
        have sv := sv0 (some x) (some m)
        rw [List.set_set, pre] at sv
        unfold loO hiO
        clear pad2 loop sv0 pad
        unfold rgO rgFs oD at *
        simp [fn_s, hr, hs, rg_lk, p1, lp, sv, hB, g2, c2]
  · by_cases c1 : x < l
    · rcases most with _ | m
      · skip
        have p1 := pad2 (some x) (some x) none
        obtain ⟨x3, lp⟩ := loop (some x) (some x)
        have sv := sv0 (some x) (some x)
        rw [List.set_set, pre] at sv
        unfold loO hiO
        clear pad2 loop sv0 pad
        unfold rgO rgFs oD at *
        simp [fn_s, hr, hs, rg_lk, p1, lp, sv, hB, g2, c1]
      · by_cases c2 : m < x
        · skip
          have p1 := pad2 (some x) (some x) none
          obtain ⟨x3, lp⟩ := loop (some x) (some x)
          have sv := sv0 (some x) (some x)
          rw [List.set_set, pre] at sv
          unfold loO hiO
          clear pad2 loop sv0 pad
          unfold rgO rgFs oD at *
          simp [fn_s, hr, hs, rg_lk, p1, lp, sv, hB, g2, c1, c2]
        · skip
          have p1 := pad2 (some x) (some m) none
          obtain ⟨x3, lp⟩ := loop (some x) (some m)
          have sv := sv0 (some x) (some m)
          rw [List.set_set, pre] at sv
          unfold loO hiO
          clear pad2 loop sv0 pad
          unfold rgO rgFs oD at *
          simp [fn_s, hr, hs, rg_lk, p1, lp, sv, hB, g2, c1, c2]
    · rcases most with _ | m
      · skip
        have p1 := pad2 (some l) (some x) none
        obtain ⟨x3, lp⟩ := loop (some l) (some x)
        have sv := sv0 (some l) (some x)
        rw [List.set_set, pre] at sv
        unfold loO hiO
        clear pad2 loop sv0 pad
        unfold rgO rgFs oD at *
        simp [fn_s, hr, hs, rg_lk, p1, lp, sv, hB, g2, c1]
      · by_cases c2 : m < x
        · skip
          have p1 := pad2 (some l) (some x) none
          obtain ⟨x3, lp⟩ := loop (some l) (some x)
          have sv := sv0 (some l) (some x)
          rw [List.set_set, pre] at sv
          unfold loO hiO
          clear pad2 loop sv0 pad
          unfold rgO rgFs oD at *
          simp [fn_s, hr, hs, rg_lk, p1, lp, sv, hB, g2, c1, c2]
        · skip
          have p1 := pad2 (some l) (some m) none
          obtain ⟨x3, lp⟩ := loop (some l) (some m)
          have sv := sv0 (some l) (some m)
          rw [List.set_set, pre] at sv
          unfold loO hiO
          clear pad2 loop sv0 pad
          unfold rgO rgFs oD at *
          simp [fn_s, hr, hs, rg_lk, p1, lp, sv, hB, g2, c1, c2]
end PX

namespace PX
open PySem PySem.Spec PyProof.Rows L2 PL
end PX

/-! What a Rungs tells. -/
namespace PX
open PySem PySem.Spec PyProof.Rows L2 PL
end PX

/-! PyLite, part y: chains of three, isinstance by several classes of what was caught. -/
namespace PLR
open PySem PySem.Spec PyProof.Rows L2
section
variable {X : Cx} {a b c d e : Expr} {ta tb tc td : TE} {pos : Pos}
end
end PLR
namespace PL
open PySem PySem.Spec PyProof.Rows L2
section
variable {Γ : Tab} {W : WX} {Z Z' : Hp} {Lt Lt' : Lend} {g g' : GM} {st st' : LS} {σ σ' : L2.St} {H H' : Hp} {h h' : List LO} {a p : Addr} {o : HO} {d : D} {v : V} {X : Cx} {e e1 e2 e3 e4 : Expr} {es : List Expr} {f k l j : E D} {pos pos2 ppos apos tpos mpos : Pos} {stm : Stmt} {sts : List Stmt} {f1 f2 : S} {D0 : Ends}
/-! ### a < b < c < d -/
/-! ### isinstance by several classes -/
structure PKs (Γ : Tab) (X : Cx) (es : List Expr) (cs : List V) (us : List Value) : Prop where
  pa : PA X es fun _ H Q => Q cs H
  pr : Paired ClsV cs us
structure IsT (Γ : Tab) (us : List Value) (sub : Nat → Option Bool) : Prop where
  is : ∀ k b C, sub k = some b → Γ.cls k = some C → ExcC Γ.K C ∧ PySem.W.kitAny Γ.K (.ref C) us = some b
noncomputable def subOr (s1 s2 : Nat → Option Bool) : Nat → Option Bool := fun k => match s1 k, s2 k with
  | some a, some b => some (a || b)
  | _, _ => none
@[simp] theorem subOr_s {s1 s2 : Nat → Option Bool} {k : Nat} : subOr s1 s2 k = match s1 k, s2 k with
  | some a, some b => some (a || b)
  | _, _ => none := id rfl
theorem IsT.one {cv : Value} {s : Nat → Option Bool} (h : IsE Γ cv s) : IsT Γ [cv] s := ⟨fun k b C h1 h2 => by
  obtain ⟨i1, i2⟩ := h.is k b C h1 h2
  refine ⟨i1, ?_⟩
  cases b with
  | true => exact kitAny_cons i2 (fun z => by cases z) fun _ => rfl
  | false => exact kitAny_cons i2 (fun _ => kitAny_nil) fun z => by cases z⟩
theorem IsT.cons {cv : Value} {us : List Value} {s1 s2 : Nat → Option Bool} (h : IsE Γ cv s1) (h2 : IsT Γ us s2) : IsT Γ (cv :: us) (subOr s1 s2) := ⟨fun k b C h1 h3 => by
  unfold subOr at h1
  split at h1
  · rename_i x y ex ey
    cases h1
    obtain ⟨i1, i2⟩ := h.is k _ C ex h3
    obtain ⟨_, i3⟩ := h2.is k _ C ey h3
    refine ⟨i1, ?_⟩
    cases x with
    | true => exact kitAny_cons i2 (fun z => by cases z) fun _ => rfl
    | false => exact kitAny_cons i2 (fun _ => i3) fun z => by cases z
  · cases h1⟩
/-! ### min, max of a list or of a dict's keys -/
/-! ### a list or dict of one's own is let stand -/
noncomputable def LS.frz (st : LS) (i : Nat) : LS := match st.s[i]? with
  | some (some (.own d)) => { st with s := st.s.set i (some (.val d)) }
  | _ => st
@[simp] theorem frz_s {i : Nat} {s : List (Option FV)} {h : List LO} : LS.frz ⟨s, h⟩ i = match s[i]? with
  | some (some (.own d)) => ⟨s.set i (some (.val d)), h⟩
  | _ => ⟨s, h⟩ := id rfl
end
end PL

/-! PyLite, part z: comprehensions over the keys of a dict. -/
namespace PL
open PySem PySem.Spec PyProof.Rows L2
section
variable {Γ : Tab} {W : WX} {Z Z' : Hp} {Lt Lt' : Lend} {g g' g1 : GM} {st st' st1 : LS} {σ σ' : L2.St} {H H' H1 : Hp} {h h' : List LO} {a p : Addr} {o : HO} {d : D} {v : V} {X : Cx} {e1 e2 e3 e4 : Expr} {es : List Expr} {f k l j : E D} {pos pos2 ppos apos tpos mpos : Pos} {stm : Stmt} {sts : List Stmt} {f1 f2 : S} {D0 : Ends}
theorem un_back {ob : Obj} {u : HO} {g' : GM} {d : D} (c : CRz Γ g' d (.frz ob u)) : CRz Γ g' d u := by
  rcases c with c | ⟨ob', u', e, c⟩
  · cases d <;> exact c.elim
  · cases e; exact .inl c
theorem Go.lockD {r : Res D} {u : HO} {ob : Obj} {Q : VK} (hm : ∀ r, Lt (.lck r) ≠ some a) (hz : Z a = some u) (h : Go Γ W Z Lt σ r.nox g fun d g' _ H' => ∀ b, OA Γ Z g' H' .tmp b d → Q (.ref b) H') :
    Go Γ W (upd Z a (.frz ob u)) Lt σ r g fun d g' _ H' => ∀ b, OA Γ (upd Z a (.frz ob u)) g' H' .tmp b d → H' a = some (.frz ob u) ∧ Q (.ref b) (upd H' a u) := by
  have zz : upd (upd Z a (.frz ob u)) a u = Z := by
    funext b
    by_cases c : b = a
    · subst c; rw [upd_same, hz]
    · rw [upd_ne c, upd_ne c]
  cases r with
  | ok d st' =>
    intro g' H' s t b x
    have s2 := s.chZ (u' := u) upd_same hm fun g d c => un_back c
    rw [zz] at s2
    obtain ⟨k1, k2, k3, k4, o, k5, k6⟩ := x
    have ne : b ≠ a := fun q => by subst q; rw [upd_same] at k2; cases k2
    rw [upd_ne ne] at k2
    exact ⟨s.sh.zh a _ upd_same, h g' _ s2 (t.chZ hz) b ⟨k1, k2, k3, k4, o, by rw [upd_ne ne]; exact k5, k6⟩⟩
  | exc x st' => exact h.elim
  | bad => exact h.elim
theorem Go.lockG {r : Res D} {u : HO} {ob : Obj} {Q : VK} (hG : g.G a = some u) (h : Go Γ W Z Lt σ r.nox g fun d g' _ H' => ∀ b, OA Γ Z g' H' .tmp b d → Q (.ref b) H') (hu : lk u = false) :
    Go Γ W Z Lt σ r (g.put a (.frz ob u)) fun d g' _ H' => ∀ b, OA Γ Z g' H' .tmp b d → H' a = some (.frz ob u) ∧ Q (.ref b) (upd H' a u) := by
  have at2 : ∀ {g2 : GM}, GT Z (g.put a (.frz ob u)) g2 → g2.G a = some (.frz ob u) := fun {g2} t => t.lo a ob u put_same
  have hr : ∀ w, lk w = false → (HO.frz ob u = w ∨ ∃ ob', HO.frz ob u = .frz ob' w) → (u = w ∨ ∃ ob', u = .frz ob' w) := fun w hw c => by
    rcases c with c | ⟨ob', c⟩
    · subst c; cases hw
    · cases c; exact .inl rfl
  cases r with
  | ok d st' =>
    intro g' H' s t b x
    have le : GLe g'.G (g'.put a u).G := fun b w hw r => by
      by_cases c : b = a
      · subst c
        rcases r with r | ⟨ob', r⟩
        · rw [at2 t] at r; cases r; cases hw
        · rw [at2 t] at r; cases r; exact .inl put_same
      · rcases r with r | ⟨ob', r⟩
        · exact .inl (by rw [put_ne c]; exact r)
        · exact .inr ⟨ob', by rw [put_ne c]; exact r⟩
    obtain ⟨k1, k2, k3, k4, o, k5, k6⟩ := x
    have ne : b ≠ a := fun q => by subst q; rw [at2 t] at k1; cases k1
    exact ⟨s.sh.gh a _ (at2 t), h _ _ (s.chG (at2 t) hr) (t.lockG hG hu) b ⟨by rw [put_ne ne]; exact k1, k2, k3, k4, o, by rw [upd_ne ne]; exact k5, k6.mono le ⟨[], by simp⟩⟩⟩
  | exc x st' => exact h.elim
  | bad => exact h.elim
theorem _root_.L2.PE.or {X : Cx} {s : Expr} {t u : TE} (h : PE X s t) (k : PE X s u) : PE X s (fun σ H Q => t σ H Q ∨ u σ H Q) := ⟨fun pins st σ H D I q => by
  rcases q with q | q
  · exact h.run pins st σ H D I q
  · exact k.run pins st σ H D I q⟩
structure PLt2 (Γ : Tab) (X : Cx) (e : Expr) (π : LS → Option (List (Key × D))) : Prop where
  pl : ∃ te, PE X e te ∧ ∀ Z Lt g st σ H kvs, SR Γ Z Lt g st σ H → π st = some kvs → ∃ a o, (Z a = some o ∨ g.G a = some o) ∧ CRz Γ g (.dic kvs) o ∧ ∀ Z' g' H' Q, SR Γ Z' Lt g' st σ H' → g'.M = g.M → GLe g.G g'.G → Q (.ref a) H' → te σ H' Q
theorem PLt.two {e : Expr} {π : LS → Option (List (Key × D))} (x : PLt Γ X e π) : PLt2 Γ X e π := by
  obtain ⟨te, h1, h2⟩ := x.pl
  refine ⟨te, h1, fun Z Lt g st σ H kvs s e => ?_⟩
  obtain ⟨a, o, h3, h4, h5⟩ := h2 Z Lt g st σ H kvs s e
  exact ⟨a, o, h3, h4, fun Z' g' H' Q s' m _ q => h5 Z' g' H' Q s' m q⟩
end
end PL

/-! PyLite, part za: lists of pairs of whole numbers sorted. -/
namespace PLR
open PySem PySem.Spec PyProof.Rows L2
inductive All2 {α β : Type} (R : α → β → Prop) : List α → List β → Prop where
  | nil : All2 R [] []
  | cons {a : α} {b : β} {as : List α} {bs : List β} : R a b → All2 R as bs → All2 R (a :: as) (b :: bs)
end PLR
namespace PL
open PySem PySem.Spec PyProof.Rows L2
section
variable {Γ : Tab} {W : WX} {Z Z' : Hp} {Lt Lt' : Lend} {g g' : GM} {st st' : LS} {σ σ' : L2.St} {H H' : Hp} {h h' : List LO} {a p : Addr} {o : HO} {d : D} {v : V} {X : Cx} {e e1 e2 e3 e4 : Expr} {es : List Expr} {f k l j : E D} {pos pos2 ppos apos tpos mpos : Pos} {stm : Stmt} {sts : List Stmt} {f1 f2 : S} {D0 : Ends}
end
end PL

namespace PX
open PySem PySem.Spec PyProof.Rows L2 PL
end PX

/-! What stands at a place. -/
namespace PX
open PySem PySem.Spec PyProof.Rows L2 PL
noncomputable def sumLe (t : Int) (l : List (Int × Int)) : Int := ((l.filter fun p => decide (p.1 ≤ t)).map (·.2)).sum
theorem sumLe_nil (t : Int) : sumLe t [] = 0 := rfl
theorem sumLe_cons (t : Int) (p : Int × Int) (l : List (Int × Int)) : sumLe t (p :: l) = (if p.1 ≤ t then p.2 else 0) + sumLe t l := by
  unfold sumLe
  rw [List.filter_cons]
  by_cases c : p.1 ≤ t <;> simp [c]
theorem sumLe_app (t : Int) (a b : List (Int × Int)) : sumLe t (a ++ b) = sumLe t a + sumLe t b := by unfold sumLe; simp
theorem isum_perm {v w : List Int} (p : v.Perm w) : v.sum = w.sum := by
  induction p with
  | nil => rfl
  | cons x _ ih => simp [ih]
  | swap x y l => simp; omega
  | trans _ _ a b => exact a.trans b
end PX

namespace PX
open PySem PySem.Spec PyProof.Rows L2 PL
@[irreducible] noncomputable def F_lesser_of : Fn := fn 2 <|
  sSeq (sIf (bOr (tst (eUn mIsN (cVar 0))) (bAnd (tst (eUn mNotN (cVar 1))) (tst (eBin mLt (vVar 1) (vVar 0))))) (sRet (eVar 1)) (sNx)) <|
  sRet (eVar 0)
@[irreducible] noncomputable def F_greater_of : Fn := fn 2 <|
  sSeq (sIf (bOr (tst (eUn mIsN (cVar 0))) (bAnd (tst (eUn mNotN (cVar 1))) (tst (eBin mGt (vVar 1) (vVar 0))))) (sRet (eVar 1)) (sNx)) <|
  sRet (eVar 0)
@[irreducible] noncomputable def B_poured_rungs_0 : S :=
  sAppF 2 14 (eUn mList (cVar 3))
@[irreducible] noncomputable def B_poured_rungs_1 : S :=
  sSeq (sIf (tst (eBin mEq (vVar 4) (eUn mLen (cFld 14 (eVar 2))))) (sAppF 2 14 (eLst (eNil))) (sNx)) <|
  sPutF 2 14 (eVar 4) (eLendF 2 14 (eUn mSortedX (eBin mAdd (eBin mIx (vFld 14 (eVar 2)) (vVar 4)) (vVar 3))))
@[irreducible] noncomputable def F_poured_rungs : Fn := fn 5 <|
  sSeq (sIf (tst (eBin mNe (vFld 0 (eVar 0)) (vFld 0 (eVar 1)))) (sRaise 1) (sNx)) <|
  sSeq (sSet 2 (eMake 2 9 PX.F_Rungs_init (aCons (aF 0 (eVar 0)) (aNil)))) <|
  sSeq (sFld 6 [8, 9] (eVar 2) (eBin mAdd (vFld 6 (eVar 0)) (vFld 6 (eVar 1)))) <|
  sSeq (sFld 9 [9] (eVar 2) (eBin mAdd (vFld 9 (eVar 0)) (vFld 9 (eVar 1)))) <|
  sSeq (sFld 10 [9] (eVar 2) (eBin mAdd (vFld 10 (eVar 0)) (vFld 10 (eVar 1)))) <|
  sSeq (sFld 11 [9] (eVar 2) (eBin mAdd (vFld 11 (eVar 0)) (vFld 11 (eVar 1)))) <|
  sSeq (sFld 12 [9] (eVar 2) (eCall PX.F_lesser_of (aCons (aF 12 (eVar 0)) (aCons (aF 12 (eVar 1)) (aNil))))) <|
  sSeq (sFld 13 [9] (eVar 2) (eCall PX.F_greater_of (aCons (aF 13 (eVar 0)) (aCons (aF 13 (eVar 1)) (aNil))))) <|
  sSeq (sLendF 0 14 (sFor (iVal (vFld 14 (eVar 0))) (tgN 3) (PX.B_poured_rungs_0))) <|
  sSeq (sLendF 1 14 (sFor (iEnm (vFld 14 (eVar 1))) (tgT [4, 3]) (PX.B_poured_rungs_1))) <|
  sSeq (sEx (eCall PX.F_settle_rungs (aCons (aL 2) (aNil)))) <|
  sRet (eVar 2)
end PX

/-! Rungs poured together. -/
namespace PX
open PySem PySem.Spec PyProof.Rows L2 PL
noncomputable def joinL (R : List (List Int)) : List (List Int) → Nat → List (List Int)
  | [], _ => R
  | q :: Q, h => if h = R.length then joinL (R ++ [srt ([] ++ q)]) Q (h + 1) else joinL (R.set h (srt (rowAt R h ++ q))) Q (h + 1)
noncomputable def minO : Option Int → Option Int → Option Int
  | none, b => b
  | a, none => a
  | some a, some b => some (if b < a then b else a)
noncomputable def maxO : Option Int → Option Int → Option Int
  | none, b => b
  | a, none => a
  | some a, some b => some (if a < b then b else a)
noncomputable def joinR (S T : Rg) : Rg := ⟨joinL S.R T.R 0, S.ov + T.ov, S.un + T.un, S.tu + T.tu⟩
noncomputable def pourR (room : Nat) (S T : Rg) : Rg := settleR room (joinR S T)
theorem joinL_elems : ∀ (Q R : List (List Int)) (h : Nat), h ≤ R.length → elems (joinL R Q h) = elems R + elems Q
  | [], R, h, _ => by simp [joinL, elems]
  | q :: Q, R, h, hl => by
    rw [joinL, elems_cons]
    split
    · rename_i c
      rw [joinL_elems Q _ _ (by simp; omega)]
      have : elems (R ++ [srt ([] ++ q)]) = elems R + q.length := by unfold elems; simp
      omega
    · rename_i c
      rw [joinL_elems Q _ _ (by simp; omega)]
      have := elems_set R h (srt (rowAt R h ++ q)) (by omega)
      rw [srt_length, List.length_append] at this
      omega
theorem joinL_len : ∀ (Q R : List (List Int)) (h : Nat), h ≤ R.length → (joinL R Q h).length = max R.length (h + Q.length)
  | [], R, h, hl => by simp [joinL]; omega
  | q :: Q, R, h, hl => by
    rw [joinL]
    split
    · rename_i c
      rw [joinL_len Q _ _ (by simp; omega)]
      simp; omega
    · rename_i c
      rw [joinL_len Q _ _ (by simp; omega)]
      simp; omega
theorem joinL_wsum (g : Nat → List Int → Int) (hg : ∀ k a b, g k (srt (a ++ b)) = g k a + g k b) (h0 : ∀ k, g k [] = 0) : ∀ (Q R : List (List Int)) (h : Nat), h ≤ R.length → wsum g 0 (joinL R Q h) = wsum g 0 R + wsum g h Q
  | [], R, h, _ => by simp [joinL, wsum]
  | q :: Q, R, h, hl => by
    rw [joinL]
    split
    · rename_i c
      rw [joinL_wsum g hg h0 Q _ _ (by simp; omega), wsum_app, wsum, wsum, wsum, hg, h0, c]
      simp; omega
    · rename_i c
      rw [joinL_wsum g hg h0 Q _ _ (by simp; omega), wsum_set g R 0 h _ (by omega), wsum, hg]
      simp; omega
theorem cntG_add (t : Int) (k : Nat) (a b : List Int) : cntG t k (srt (a ++ b)) = cntG t k a + cntG t k b := by
  unfold cntG
  rw [cnt_perm (srt_perm _), cnt_app, Int.add_mul]
theorem lenG_add (k : Nat) (a b : List Int) : lenG k (srt (a ++ b)) = lenG k a + lenG k b := by
  unfold lenG
  rw [srt_length, List.length_append]
  push_cast
  rw [Int.add_mul]
theorem phiG_add (k : Nat) (a b : List Int) : phiG k (srt (a ++ b)) = phiG k a + phiG k b := by
  unfold phiG
  rw [srt_length, List.length_append]
  push_cast
  rw [Int.add_mul, Int.mul_add]
theorem joinL_mem : ∀ (Q R : List (List Int)) (h : Nat) (r : List Int), r ∈ joinL R Q h → (∀ a ∈ r, (∃ s ∈ R, a ∈ s) ∨ ∃ s ∈ Q, a ∈ s) ∧ ((∀ s ∈ R, s.Pairwise (· ≤ ·)) → r.Pairwise (· ≤ ·))
  | [], R, h, r, m => ⟨fun a ma => .inl ⟨r, m, ma⟩, fun hs => hs r m⟩
  | q :: Q, R, h, r, m => by
    rw [joinL] at m
    split at m
    · obtain ⟨h1, h2⟩ := joinL_mem Q _ _ r m
      refine ⟨fun a ma => ?_, fun hs => h2 fun s ms => ?_⟩
      · rcases h1 a ma with ⟨s, ms, as⟩ | ⟨s, ms, as⟩
        · rcases List.mem_append.mp ms with ms | ms
          · exact .inl ⟨s, ms, as⟩
          · simp only [List.mem_singleton] at ms
            subst ms
            rw [mem_srt, List.nil_append] at as
            exact .inr ⟨q, by simp, as⟩
        · exact .inr ⟨s, by simp [ms], as⟩
      · rcases List.mem_append.mp ms with ms | ms
        · exact hs s ms
        · simp only [List.mem_singleton] at ms
          subst ms; exact srt_sorted _
    · obtain ⟨h1, h2⟩ := joinL_mem Q _ _ r m
      refine ⟨fun a ma => ?_, fun hs => h2 fun s ms => ?_⟩
      · rcases h1 a ma with ⟨s, ms, as⟩ | ⟨s, ms, as⟩
        · rcases List.mem_or_eq_of_mem_set ms with ms | ms
          · exact .inl ⟨s, ms, as⟩
          · subst ms
            rw [mem_srt, List.mem_append] at as
            rcases as with as | as
            · by_cases c : h < R.length
              · exact .inl ⟨_, rowAt_mem c, as⟩
              · unfold rowAt at as; rw [List.getElem?_eq_none (by omega)] at as; simp at as
            · exact .inr ⟨q, by simp, as⟩
        · exact .inr ⟨s, by simp [ms], as⟩
      · rcases List.mem_or_eq_of_mem_set ms with ms | ms
        · exact hs s ms
        · subst ms; exact srt_sorted _
theorem srt_ne2 {a : List Int} (h : a ≠ []) : srt a ≠ [] := fun e => by
  have := srt_length a
  rw [e] at this
  exact h (List.length_eq_zero_iff.mp this.symm)
theorem joinL_ne : ∀ (Q R : List (List Int)) (h j : Nat), h ≤ R.length → (rowAt R j ≠ [] ∨ (h ≤ j ∧ rowAt Q (j - h) ≠ [])) → rowAt (joinL R Q h) j ≠ []
  | [], R, h, j, _, c => by
    rcases c with c | ⟨_, c⟩
    · exact c
    · simp [rowAt] at c
  | q :: Q, R, h, j, hl, c => by
    rw [joinL]
    split
    · rename_i e
      refine joinL_ne Q _ _ j (by simp; omega) ?_
      rcases c with c | ⟨c1, c2⟩
      · left
        by_cases hj : j < R.length
        · rw [rowAt_app hj]; exact c
        · unfold rowAt at c; rw [List.getElem?_eq_none (by omega)] at c; simp at c
      · by_cases e2 : j = h
        · left
          subst e2
          rw [Nat.sub_self] at c2
          have : rowAt (R ++ [srt ([] ++ q)]) j = srt ([] ++ q) := by unfold rowAt; rw [e]; simp
          rw [this]
          exact srt_ne2 (by simpa [rowAt] using c2)
        · right
          refine ⟨by omega, ?_⟩
          have : j - h = (j - (h + 1)) + 1 := by omega
          rw [this] at c2
          simpa [rowAt] using c2
    · rename_i e
      refine joinL_ne Q _ _ j (by simp; omega) ?_
      rcases c with c | ⟨c1, c2⟩
      · left
        rw [rowAt_set]
        split
        · rename_i c3
          rw [c3.1] at c
          exact srt_ne2 (by simp [c])
        · exact c
      · by_cases e2 : j = h
        · left
          subst e2
          rw [Nat.sub_self] at c2
          rw [rowAt_set, if_pos ⟨rfl, by omega⟩]
          refine srt_ne2 ?_
          have : q ≠ [] := by simpa [rowAt] using c2
          simp [this]
        · right
          refine ⟨by omega, ?_⟩
          have : j - h = (j - (h + 1)) + 1 := by omega
          rw [this] at c2
          simpa [rowAt] using c2
theorem join_ok {room : Nat} {S T : Rg} {t1 t2 : Int} {f1 f2 : Int → Int} {P1 P2 P : Int → Prop} (a : OkS room S t1 f1 P1) (b : OkS room T t2 f2 P2) (h1 : ∀ x, P1 x → P x) (h2 : ∀ x, P2 x → P x) :
    OkS room (joinR S T) (t1 + t2) (fun t => f1 t + f2 t) P := by
  have n := fun t => joinL_wsum (cntG t) (cntG_add t) (cntG_nil t) T.R S.R 0 (by omega)
  have w := joinL_wsum lenG lenG_add lenG_nil T.R S.R 0 (by omega)
  have p := joinL_wsum phiG phiG_add phiG_nil T.R S.R 0 (by omega)
  refine ⟨fun r m => (joinL_mem T.R S.R 0 r m).2 a.so, ?_, ?_, ?_, fun t => ?_, ?_, ?_, fun r m x mx => ?_, ?_⟩
  · have := a.ov; have := b.ov; show 0 ≤ S.ov + T.ov; omega
  · have := a.un; have := b.un; show 0 ≤ S.un + T.un; omega
  · have := a.tu; have := b.tu; show 0 ≤ S.tu + T.tu; omega
  · have := a.bd t
    have := b.bd t
    have := n t
    show nearR t (joinL S.R T.R 0) - (S.ov + T.ov) ≤ f1 t + f2 t ∧ f1 t + f2 t ≤ nearR t (joinL S.R T.R 0) + (S.un + T.un)
    unfold nearR at *
    omega
  · have := a.we
    have := b.we
    show weightR (joinL S.R T.R 0) = _
    unfold weightR at *
    omega
  · have := a.sl
    have := b.sl
    show (S.ov + T.ov + (S.un + T.un)) * (room : Int) ≤ phiR (joinL S.R T.R 0)
    have e : (S.ov + T.ov + (S.un + T.un)) * (room : Int) = (S.ov + S.un) * (room : Int) + (T.ov + T.un) * (room : Int) := by rw [← Int.add_mul]; congr 1; omega
    rw [e]
    unfold phiR at *
    omega
  · rcases (joinL_mem T.R S.R 0 r m).1 x mx with ⟨s, ms, xs⟩ | ⟨s, ms, xs⟩
    · exact h1 x (a.me s ms x xs)
    · exact h2 x (b.me s ms x xs)
  · by_cases e : joinL S.R T.R 0 = []
    · exact .inl e
    · right
      show rowAt (joinL S.R T.R 0) ((joinL S.R T.R 0).length - 1) ≠ []
      have hl := joinL_len T.R S.R 0 (by omega)
      have hpos : 0 < (joinL S.R T.R 0).length := List.length_pos_iff.mpr e
      refine joinL_ne T.R S.R 0 _ (by omega) ?_
      rw [hl]
      rw [hl] at hpos
      by_cases c : T.R.length ≤ S.R.length
      · left
        have : max S.R.length (0 + T.R.length) = S.R.length := by omega
        rw [this]
        rw [this] at hpos
        rcases a.la with q | q
        · rw [q] at hpos; simp at hpos
        · exact q
      · right
        have : max S.R.length (0 + T.R.length) = T.R.length := by omega
        rw [this]
        rw [this] at hpos
        refine ⟨by omega, ?_⟩
        rcases b.la with q | q
        · rw [q] at hpos; simp at hpos
        · exact q
theorem lesser_v (a b : Option Int) (h : List LO) : F_lesser_of [.val (oD a), .val (oD b)] h = .ret (.val (oD (minO a b))) h := by
  unfold F_lesser_of
  cases a <;> cases b <;> simp [fn_s, oD, minO]
  split <;> rfl
theorem greater_v (a b : Option Int) (h : List LO) : F_greater_of [.val (oD a), .val (oD b)] h = .ret (.val (oD (maxO a b))) h := by
  unfold F_greater_of
  cases a <;> cases b <;> simp [fn_s, oD, maxO]
  split <;> rfl
theorem pour_loop0 (r1 r2 n room : Nat) (H : List LO) (hn : H.length = n) (T : Rg) (total : Int) (l m : Option Int) (x4 : Option FV) : ∀ (Q acc : List (List Int)) (x3 : Option FV), (∀ q ∈ Q, q.length ≤ 1000000) → acc.length + Q.length ≤ 100000 → ∃ y3, turns (tgN 3) B_poured_rungs_0 (Q.map encL) ⟨[some (.val (.obj r1)), some (.val (.obj r2)), some (.val (.obj n)), x3, x4], H ++ [rgO room ⟨acc, T.ov, T.un, T.tu⟩ total l m]⟩ =
    .nx ⟨[some (.val (.obj r1)), some (.val (.obj r2)), some (.val (.obj n)), y3, x4], H ++ [rgO room ⟨acc ++ Q, T.ov, T.un, T.tu⟩ total l m]⟩
  | [], acc, x3, _, _ => ⟨x3, by simp [turns]⟩
  | q :: Q, acc, x3, hq, hl => by
    simp only [List.length_cons] at hl
    obtain ⟨y3, ih⟩ := pour_loop0 r1 r2 n room H hn T total l m x4 Q (acc ++ [q]) (some (.val (encL q))) (fun z mz => hq z (by simp [mz])) (by simp; omega)
    refine ⟨y3, ?_⟩
    rw [show acc ++ q :: Q = acc ++ [q] ++ Q by simp, ← ih, List.map_cons]
    have hm : ∀ x : LO, (H ++ [x])[n]? = some x := fun x => by rw [← hn]; simp
    have he : ∀ x y : LO, (H ++ [x]).set n y = H ++ [y] := fun x y => by rw [← hn]; simp
    refine turns_step rfl (.inl ?_) rfl
    have q1 := hq q (by simp)
    unfold B_poured_rungs_0
    unfold rgO rgFs
    unfold encL
    simp [hm, he, rg_lk, show acc.length < 16777216 by omega]
theorem pour_loop1 (r1 r2 n room : Nat) (H : List LO) (hn : H.length = n) (T : Rg) (total : Int) (l m : Option Int) : ∀ (Q R : List (List Int)) (k : Nat) (x3 x4 : Option FV), k ≤ R.length → elems R + elems Q ≤ 1000000 → R.length + Q.length ≤ 100000 → ∃ y3 y4, turns (tgT [4, 3]) B_poured_rungs_1 (enumD k (Q.map encL)) ⟨[some (.val (.obj r1)), some (.val (.obj r2)), some (.val (.obj n)), x3, x4], H ++ [rgO room ⟨R, T.ov, T.un, T.tu⟩ total l m]⟩ =
    .nx ⟨[some (.val (.obj r1)), some (.val (.obj r2)), some (.val (.obj n)), y3, y4], H ++ [rgO room ⟨joinL R Q k, T.ov, T.un, T.tu⟩ total l m]⟩
  | [], R, k, x3, x4, _, _, _ => ⟨x3, x4, rfl⟩
  | q :: Q, R, k, x3, x4, hk, he0, hl0 => by
    rw [elems_cons] at he0
    simp only [List.length_cons] at hl0
    have hm : ∀ x : LO, (H ++ [x])[n]? = some x := fun x => by rw [← hn]; simp
    have he : ∀ x y : LO, (H ++ [x]).set n y = H ++ [y] := fun x y => by rw [← hn]; simp
    rw [joinL, List.map_cons, enumD]
    by_cases c : k = R.length
    · rw [if_pos c]
      have el : elems (R ++ [srt ([] ++ q)]) = elems R + q.length := by unfold elems; simp
      obtain ⟨y3, y4, ih⟩ := pour_loop1 r1 r2 n room H hn T total l m Q (R ++ [srt ([] ++ q)]) (k + 1) (some (.val (encL q))) (some (.val (.int (k : Nat)))) (by simp; omega) (by omega) (by simp; omega)
      refine ⟨y3, y4, ?_⟩
      rw [← ih]
      refine turns_step rfl (.inl ?_) rfl
      have ra : PL.atD (R.map encL ++ [.lst []]) (k : Int) = some (.lst []) := atD_mid _ _ _ _ (by simp [c])
      have ix : ixD (k + 1) (k : Int) = some k := by unfold ixD; rw [if_pos (by omega), if_pos (by omega)]; simp
      have ms : ∀ y, (R.map encL ++ [PL.D.lst []]).set k y = R.map encL ++ [y] := fun y => by
        have : k = (R.map encL).length := by simp [c]
        rw [this]; simp
      have ic := intsD_map q
      unfold B_poured_rungs_1
      unfold rgO rgFs
      simp only [List.nil_append]
      have en : ∀ z, encL z = .lst (z.map D.int) := fun z => rfl
      simp [hm, he, rg_lk, ← c, show k < 16777216 by omega, ra, ix, ms, ic, en, show q.length ≤ 16777216 by omega]
    · rw [if_neg c]
      have hlt : k < R.length := by omega
      have el := elems_set R k (srt (rowAt R k ++ q)) hlt
      rw [srt_length, List.length_append] at el
      have rl := elems_ge (rowAt_mem hlt)
      obtain ⟨y3, y4, ih⟩ := pour_loop1 r1 r2 n room H hn T total l m Q (R.set k (srt (rowAt R k ++ q))) (k + 1) (some (.val (encL q))) (some (.val (.int (k : Nat)))) (by simp; omega) (by omega) (by simp; omega)
      refine ⟨y3, y4, ?_⟩
      rw [← ih]
      refine turns_step rfl (.inl ?_) rfl
      have ra : PL.atD (R.map encL) (k : Int) = some (encL (rowAt R k)) := by rw [atD_nat, row_at hlt]
      have ix : ixD R.length (k : Int) = some k := by unfold ixD; rw [if_pos (by omega), if_pos (by omega)]; simp
      have ic := ints_app (rowAt R k) q
      have ms : ∀ y, (List.map encL R).set k (encL y) = List.map encL (R.set k y) := fun y => List.map_set.symm
      have ne : ¬ (k : Int) = (R.length : Int) := by omega
      unfold B_poured_rungs_1
      unfold rgO rgFs
      unfold encL at *
      simp [hm, he, rg_lk, ne, ra, ix, ms, ic, show (rowAt R k).length + q.length ≤ 16777216 by omega, -List.map_set]
theorem rg_pour_v (r1 r2 room : Nat) (hm : 1 ≤ room) (S T : Rg) (t1 t2 : Int) (l1 m1 l2 m2 : Option Int) (h : List LO) (h1 : h[r1]? = some (rgO room S t1 l1 m1)) (h2 : h[r2]? = some (rgO room T t2 l2 m2)) (e1 : elems S.R ≤ 4000) (e2 : elems T.R ≤ 4000) (n1 : S.R.length ≤ 4000) (n2 : T.R.length ≤ 4000) :
    F_poured_rungs [.val (.obj r1), .val (.obj r2)] h = .ret (.val (.obj h.length)) (h ++ [rgO room (pourR room S T) (t1 + t2) (minO l1 l2) (maxO m1 m2)]) := by
  have ei := rg_init_v h.length room (h ++ [.ins 9 []]) (happ _ _)
  rw [hset_end] at ei
  have el := lesser_v l1 l2
  have eg := greater_v m1 m2
  have rl1 := (List.getElem?_eq_some_iff.mp h1).1
  have rl2 := (List.getElem?_eq_some_iff.mp h2).1
  have c1 : ∀ x, (h ++ [x])[r1]? = some (rgO room S t1 l1 m1) := fun x => happ_lt h1 [x]
  have c2 : ∀ x, (h ++ [x])[r2]? = some (rgO room T t2 l2 m2) := fun x => happ_lt h2 [x]
  have s1 : ∀ x y, (h ++ [x]).set r1 y = h.set r1 y ++ [x] := fun x y => hset_lt h1 [x] y
  have s2 : ∀ x y, (h ++ [x]).set r2 y = h.set r2 y ++ [x] := fun x y => hset_lt h2 [x] y
  have d1 : ∀ x y, (h.set r1 y ++ [x])[r1]? = some y := fun x y => happ_lt (hset h1 y) [x]
  have d2 : ∀ x y, (h.set r2 y ++ [x])[r2]? = some y := fun x y => happ_lt (hset h2 y) [x]
  have b1 : ∀ x y, (h.set r1 y ++ [x]).set r1 (rgO room S t1 l1 m1) = h ++ [x] := fun x y => by rw [hset_lt (hset h1 y), List.set_set, set_self h1]
  have b2 : ∀ x y, (h.set r2 y ++ [x]).set r2 (rgO room T t2 l2 m2) = h ++ [x] := fun x y => by rw [hset_lt (hset h2 y), List.set_set, set_self h2]
  have he := fun (x y : LO) => hset_end h x
  have q1 : ∀ q ∈ S.R, q.length ≤ 1000000 := fun q mq => by have := elems_ge mq; omega
  obtain ⟨y3, k0⟩ := pour_loop0 r1 r2 h.length room (h.set r1 (.ins 9 [(0, .val (.int (room : Nat))), (6, .val (.int t1)), (9, .val (.int S.ov)), (10, .val (.int S.un)), (11, .val (.int S.tu)), (12, .val (oD l1)), (13, .val (oD m1)), (14, .lent (.lst (S.R.map encL)))])) (by simp) ⟨[], S.ov + T.ov, S.un + T.un, S.tu + T.tu⟩ (t1 + t2) (minO l1 l2) (maxO m1 m2) none S.R [] none q1 (by simp; omega)
  rw [List.nil_append] at k0
  obtain ⟨z3, z4, k1⟩ := pour_loop1 r1 r2 h.length room (h.set r2 (.ins 9 [(0, .val (.int (room : Nat))), (6, .val (.int t2)), (9, .val (.int T.ov)), (10, .val (.int T.un)), (11, .val (.int T.tu)), (12, .val (oD l2)), (13, .val (oD m2)), (14, .lent (.lst (T.R.map encL)))])) (by simp) ⟨[], S.ov + T.ov, S.un + T.un, S.tu + T.tu⟩ (t1 + t2) (minO l1 l2) (maxO m1 m2) T.R S.R 0 y3 none (by omega) (by omega) (by omega)
  have je := joinL_elems T.R S.R 0 (by omega)
  have jl := joinL_len T.R S.R 0 (by omega)
  have es := settle_v h.length room hm (joinR S T) (t1 + t2) (minO l1 l2) (maxO m1 m2) (h ++ [rgO room (joinR S T) (t1 + t2) (minO l1 l2) (maxO m1 m2)]) (happ _ _) (by show elems (joinL S.R T.R 0) ≤ _; omega) (by show (joinL S.R T.R 0).length ≤ _; omega)
  rw [hset_end] at es
  unfold pourR
  have z : rgZ.R = [] := rfl
  unfold joinR at es ⊢
  unfold F_poured_rungs
  unfold rgO rgFs rgZ at *
  dsimp only at k0 k1 es ei ⊢
  simp only [List.map_nil] at k0 k1
  simp [fn_s, h1, h2, rg_lk, ei, c1, c2, he, el, eg, s1, d1, k0, b1, s2, d2, k1, b2, es]
end PX

namespace PX
open PySem PySem.Spec PyProof.Rows L2 PL
end PX

/-! What the drawing functions of the rungs' laws tell. -/
namespace PX
open PySem PySem.Spec PyProof.Rows L2 PL
end PX

/-! PyLite, part zb: lists and dicts that several know (cells). -/
namespace PL
open PySem PySem.Spec PyProof.Rows L2
section
variable {Γ : Tab} {W : WX} {Z Z' : Hp} {Lt Lt' : Lend} {g g' : GM} {st st' : LS} {σ σ' : L2.St} {H H' : Hp} {h h' : List LO} {a p : Addr} {o : HO} {d : D} {v : V} {X : Cx} {e e1 e2 e3 e4 : Expr} {es : List Expr} {f k l j : E D} {pos pos2 ppos apos tpos mpos : Pos} {stm : Stmt} {sts : List Stmt} {f1 f2 : S} {D0 : Ends}
noncomputable def LS.cell (st : LS) (r : Nat) : Option D := match st.h[r]? with
  | some (.cell d) => some d
  | _ => none
noncomputable def LS.cellR (st : LS) (r : Nat) : Option D := match st.h[r]? with
  | some (.cell d) => some d
  | some (.lck d) => some d
  | _ => none
noncomputable def LS.setC (st : LS) (r : Nat) (d : D) : LS := { st with h := st.h.set r (.cell d) }
theorem cell_eq {r : Nat} (e : st.cell r = some d) : st.h[r]? = some (.cell d) := by
  unfold LS.cell at e
  split at e
  · cases e; assumption
  · cases e
theorem SR.cellV {r : Nat} (s : SR Γ Z Lt g st σ H) (hr : g.M[r]? = some a) (e : st.cellR r = some d) : ∃ o, H a = some o ∧ CRz Γ g d o := by
  unfold LS.cellR at e
  split at e
  · rename_i d' e1
    cases e
    obtain ⟨o, h1, h2⟩ := s.sh.ob r _ a e1 hr
    exact ⟨o, h1, .inl h2⟩
  · rename_i d' e1
    cases e
    obtain ⟨_, ob, u, h1, _, h2⟩ := s.sh.ob r _ a e1 hr
    exact ⟨_, h1, .inr ⟨ob, u, rfl, h2⟩⟩
  · cases e
theorem SR.dicV {r : Nat} {kvs : List (Key × D)} (s : SR Γ Z Lt g st σ H) (hr : g.M[r]? = some a) (e : st.cellR r = some (.dic kvs)) : ∃ ws, Rd H a (.dK ws) ∧ RDk Γ g kvs ws := by
  obtain ⟨o, h1, h2⟩ := s.cellV hr e
  obtain ⟨ws, rk, rfl | ⟨ob, rfl⟩⟩ := dic_lk h2
  · exact ⟨ws, .inl h1, rk⟩
  · exact ⟨ws, .inr ⟨ob, h1⟩, rk⟩
theorem SR.cellA {r : Nat} (s : SR Γ Z Lt g st σ H) (hr : g.M[r]? = some a) (e : st.cell r = some d) : ∃ o, H a = some o ∧ CR Γ g d o ∧ ∀ d' o', CR Γ g d' o' → SR Γ Z Lt g (st.setC r d') σ (upd H a o') := by
  have e := cell_eq e
  obtain ⟨o, h1, h2⟩ := s.sh.ob r _ a e hr
  have am := List.mem_of_getElem? hr
  obtain ⟨m1, _, m3⟩ := s.sh.mf a am
  have m2 := s.sh.zn am h1 h2.nolk
  refine ⟨o, h1, h2, fun d' o' c => ?_⟩
  have fv : ∀ (q : Path) (x : FV) (v : V), FVR Γ Z Lt g H q x v → FVR Γ Z Lt g (upd H a o') q x v := by
    intro q x v f
    cases x with
    | val d => exact f
    | own d =>
      obtain ⟨b, eb, k1, k2, k3, k4, o, k5, k6⟩ := f
      have ne : b ≠ a := fun q => by subst q; rw [m3] at k3; cases k3
      exact ⟨b, eb, k1, k2, k3, k4, o, by rw [upd_ne ne]; exact k5, k6⟩
    | lent d => exact f
  have fr : ∀ {r : Nat} {C : Addr} {fs : List (Nat × FV)} {ws : List (Str × V)}, FR Γ Z Lt g H r C fs ws → FR Γ Z Lt g (upd H a o') r C fs ws := fun f => FR.mapg (fun i y v => fv _ y v) f
  refine ⟨⟨fun b u e => ?_, fun b u e => ?_, s.sh.gz, by simpa [LS.setC] using s.sh.ml, s.sh.mn, s.sh.mf, fun i lo b e1 e2 => ?_, s.sh.nd, s.sh.lz⟩, s.sl, fun i x ei => ?_⟩
  · rw [upd_ne (ne_of_none e m1)]; exact s.sh.gh b u e
  · rw [upd_ne (ne_of_none e m2)]; exact s.sh.zh b u e
  · have hl : r < st.h.length := (List.getElem?_eq_some_iff.mp e).1
    by_cases c1 : i = r
    · subst c1
      rw [hr] at e2; cases e2
      have e1 : (st.h.set i (.cell d'))[i]? = some lo := e1
      rw [List.getElem?_set_self hl] at e1
      cases e1
      exact ⟨o', upd_same, c⟩
    · have e1 : (st.h.set r (.cell d'))[i]? = some lo := e1
      rw [List.getElem?_set_ne (Ne.symm c1)] at e1
      have ne : b ≠ a := fun q => by
        subst q
        obtain ⟨i1, i2⟩ := List.getElem?_eq_some_iff.mp e2
        obtain ⟨r1, r2⟩ := List.getElem?_eq_some_iff.mp hr
        exact c1 ((List.getElem_inj s.sh.mn).mp (i2.trans r2.symm))
      have := s.sh.ob i lo b e1 e2
      cases lo with
      | ins c fs =>
        obtain ⟨C, dx, ws, q1, q2, q3, q4⟩ := this
        exact ⟨C, dx, ws, q1, q2, by rw [upd_ne ne]; exact q3, fr q4⟩
      | cell d => obtain ⟨o, q1, q2⟩ := this; exact ⟨o, by rw [upd_ne ne]; exact q1, q2⟩
      | lck d => obtain ⟨l, ob, u, q1, q2, q3⟩ := this; exact ⟨l, ob, u, by rw [upd_ne ne]; exact q1, q2, q3⟩
  · obtain ⟨w, e1, f⟩ := s.sv i x ei
    exact ⟨w, e1, fv _ _ _ f⟩
/-- a new one -/
theorem SR.newC (s : SR Γ Z Lt g st σ H) (x : OA Γ Z g H .tmp a d) : ∃ g', SR Γ Z Lt g' ⟨st.s, st.h ++ [.cell d]⟩ σ H ∧ GT Z g g' ∧ g'.M[st.h.length]? = some a := by
  obtain ⟨h1, h2, h3, h4, o, h5, h6⟩ := x
  have nz : ∀ b u, Z b = some u → b ≠ a := fun b u z q => by rw [q, h2] at z; cases z
  let g2 : GM := ⟨g.G, g.M ++ [a], fun b => if b = a then none else g.O b⟩
  have o2 : ∀ b, b ≠ a → g2.O b = g.O b := fun b ne => if_neg ne
  have gt : GT Z g g2 := ⟨GLe.refl _, ⟨[a], rfl⟩, fun b u z => o2 b (nz b u z), fun _ _ _ h => h⟩
  have kp : Kp Z g g2 H H fun p => p ≠ .tmp := ⟨gt, fun b p u hp k1 k2 k3 k4 k5 => by
    have ne : b ≠ a := fun q => by subst q; rw [h3] at k3; cases k3; exact hp rfl
    exact ⟨k1, (o2 b ne).trans k3, fun m => by rcases List.mem_append.mp m with m | m; exact k4 m; exact ne (by simpa using m), k5⟩⟩
  refine ⟨g2, ⟨⟨s.sh.gh, s.sh.zh, s.sh.gz, ?_, ?_, fun b m => ?_, fun r lo b e1 e2 => ?_, s.sh.nd, s.sh.lz⟩, s.sl, fun i y ei => ?_⟩, gt, ?_⟩
  · show (g.M ++ [a]).length = (st.h ++ [LO.cell d]).length
    simp [s.sh.ml]
  · show (g.M ++ [a]).Nodup
    rw [List.nodup_append]
    exact ⟨s.sh.mn, by simp, fun b mb c mc e => by simp at mc; subst mc; exact h4 (e ▸ mb)⟩
  · rcases List.mem_append.mp (show b ∈ g.M ++ [a] from m) with m | m
    · obtain ⟨q1, q2, q3⟩ := s.sh.mf b m
      have ne : b ≠ a := fun q => h4 (q ▸ m)
      exact ⟨q1, q2, (o2 b ne).trans q3⟩
    · simp at m; subst m
      exact ⟨h1, fun o e => (by rw [h2] at e; cases e), if_pos rfl⟩
  · have e1 : (st.h ++ [LO.cell d])[r]? = some lo := e1
    have e2 : (g.M ++ [a])[r]? = some b := e2
    by_cases c : r < st.h.length
    · rw [List.getElem?_append_left c] at e1
      rw [List.getElem?_append_left (by rw [s.sh.ml]; exact c)] at e2
      exact (s.sh.ob r lo b e1 e2).keep kp (fun f => by simp) fun o e => e
    · rw [List.getElem?_append_right (by omega)] at e1
      rw [List.getElem?_append_right (by rw [s.sh.ml]; omega)] at e2
      rw [s.sh.ml] at e2
      cases q : r - st.h.length with
      | zero =>
        rw [q] at e1 e2
        simp at e1 e2
        subst e1 e2
        exact ⟨o, h5, h6.mono gt.le gt.mp⟩
      | succ n => rw [q] at e1; simp at e1
  · obtain ⟨w, e1, f⟩ := s.sv i y ei
    exact ⟨w, e1, f.keep kp (by simp)⟩
  · show (g.M ++ [a])[st.h.length]? = some a
    rw [← s.sh.ml]; simp
/-- a fresh list or dict that may be known to several -/
noncomputable def eNewC (f : E D) : E D := fun st => (f st).bind fun d s1 => .ok (.obj s1.h.length) ⟨s1.s, s1.h ++ [.cell d]⟩
theorem pd_newC (x : PF Γ W X e f) : PD Γ W X e (eNewC f) := ⟨x.pe.csq fun σ H Q ⟨Z, Lt, g, st, s, h⟩ => ⟨Z, Lt, g, st, s, (Go.bind h).imp fun d g1 st1 H1 s1 t1 k1 a x => by
  obtain ⟨g2, s2, t2, m⟩ := s1.newC x
  refine k1 g1 H1 s1 (GT.refl _ _) g2 H1 s2 t2 _ ?_
  simp only [RD]
  exact ⟨a, rfl, m⟩⟩⟩
@[simp] theorem eNewC_s : eNewC f st = (f st).bind fun d s1 => .ok (.obj s1.h.length) ⟨s1.s, s1.h ++ [.cell d]⟩ := id rfl

/-! ### the content -/
noncomputable def LS.dr (st : LS) : D → D
  | .obj r => (st.cellR r).getD (.obj r)
  | d => d
theorem CV.dr (s : SR Γ Z Lt g st σ H) (c : CV Γ g H d v) : CV Γ g H (st.dr d) v := by
  unfold LS.dr
  split
  · rename_i r
    cases e : st.cellR r with
    | none => exact c
    | some d' =>
      obtain ⟨a, rfl, hr⟩ := c.obj
      obtain ⟨o, h1, h2⟩ := s.cellV hr e
      exact .inr ⟨a, o, rfl, h1, h2⟩
  · exact c
noncomputable def eDr (f : E D) : E D := fun st => (f st).bind fun d s1 => .ok (s1.dr d) s1
theorem pc_dr (x : PC Γ W X e f) : PC Γ W X e (eDr f) := ⟨x.pe.csq fun σ H Q ⟨Z, Lt, g, st, s, h⟩ => ⟨Z, Lt, g, st, s, (Go.bind h).imp fun d g1 st1 H1 s1 t1 k1 v r => k1 g1 H1 s1 (GT.refl _ _) g1 H1 s1 (GT.refl _ _) v (CV.dr s1 r)⟩⟩
noncomputable def Sem2.dr (m : Sem2) : Sem2 := fun x y st => m (st.dr x) (st.dr y) st
theorem Holds2.dr {r : R2} {m : Sem2} (h : Holds2 Γ W X r m) : Holds2 Γ W X r (Sem2.dr m) := fun Z Lt g st σ H x y v w Q s rx ry k => h Z Lt g st σ H _ _ v w Q s (CV.dr s rx) (CV.dr s ry) k
theorem Holds2F.dr {r : R2} {m : Sem2} (h : Holds2F Γ W X r m) : Holds2F Γ W X r (Sem2.dr m) := fun Z Lt g st σ H x y v w Q s rx ry k => h Z Lt g st σ H _ _ v w Q s (CV.dr s rx) (CV.dr s ry) k
@[simp] theorem cell_s (s : List (Option FV)) (h : List LO) (r : Nat) : LS.cell ⟨s, h⟩ r = match h[r]? with
  | some (.cell d) => some d
  | _ => none := id rfl
@[simp] theorem cellR_s (s : List (Option FV)) (h : List LO) (r : Nat) : LS.cellR ⟨s, h⟩ r = match h[r]? with
  | some (.cell d) => some d
  | some (.lck d) => some d
  | _ => none := id rfl
@[simp] theorem setC_s (s : List (Option FV)) (h : List LO) (r : Nat) (d : D) : LS.setC ⟨s, h⟩ r d = ⟨s, h.set r (.cell d)⟩ := id rfl
@[simp] theorem dr_obj (r : Nat) : st.dr (.obj r) = (st.cellR r).getD (.obj r) := id rfl
@[simp] theorem dr_int (i : Int) : st.dr (.int i) = .int i := id rfl
@[simp] theorem dr_str (i : Str) : st.dr (.str i) = .str i := id rfl
@[simp] theorem dr_lst (i : List D) : st.dr (.lst i) = .lst i := id rfl
@[simp] theorem dr_tup (i : List D) : st.dr (.tup i) = .tup i := id rfl
@[simp] theorem dr_dic (i : List (Key × D)) : st.dr (.dic i) = .dic i := id rfl
@[simp] theorem dr_non : st.dr .non = .non := id rfl
@[simp] theorem dr_bl (b : Bool) : st.dr (.bl b) = .bl b := id rfl
@[simp] theorem eDr_s : eDr f st = (f st).bind fun d s1 => .ok (s1.dr d) s1 := id rfl
@[simp] theorem Sem2_dr_s {m : Sem2} {x y : D} : Sem2.dr m x y st = m (st.dr x) (st.dr y) st := id rfl
/-! ### readings -/
theorem pd_ixC (hK : X.K = Γ.K) (x : PV Γ W X e1 f) (y : PV Γ W X e2 k) (hs : PlainIx e2 := by intro _ _; rfl) : PD Γ W X (.Subscript e1 e2 pos) (eBin (Sem2.dr mIx) f k) :=
  ⟨(pe_ix ix_seq x.pe y.pe hs).csq fun σ H Q h => two (holds_ix hK).dr h⟩
theorem GT.at {r : Nat} (t : GT Z g g') (hr : g.M[r]? = some a) : g'.M[r]? = some a := by
  obtain ⟨tm, em⟩ := t.mp
  rw [em, List.getElem?_append_left (List.getElem?_eq_some_iff.mp hr).1]; exact hr

/-! ### changes -/
end
end PL

/-! PyLite, part zc: loops over lists that several know. -/
namespace PL
open PySem PySem.Spec PyProof.Rows L2
section
variable {Γ : Tab} {W : WX} {Z Z' : Hp} {Lt Lt' : Lend} {g g' g0 g1 : GM} {st st' st1 : LS} {σ σ' : L2.St} {H H' H1 : Hp} {h h' : List LO} {a p : Addr} {o : HO} {d : D} {v : V} {X : Cx} {e1 e2 e3 e4 : Expr} {es : List Expr} {f k l j : E D} {pos pos2 ppos apos tpos mpos : Pos} {stm : Stmt} {sts : List Stmt} {f1 f2 : S} {D0 : Ends}
end
end PL

/-! PyLite, part zd: loops over dicts that several know; pops. -/
namespace PL
open PySem PySem.Spec PyProof.Rows L2
section
variable {Γ : Tab} {W : WX} {Z Z' : Hp} {Lt Lt' : Lend} {g g' g0 g1 : GM} {st st' st1 : LS} {σ σ' : L2.St} {H H' H1 : Hp} {h h' : List LO} {a p : Addr} {o : HO} {d : D} {v : V} {X : Cx} {e e1 e2 e3 e4 : Expr} {es : List Expr} {f k l j : E D} {pos pos2 ppos apos tpos mpos : Pos} {stm : Stmt} {sts : List Stmt} {f1 f2 : S} {D0 : Ends}
/-! ### comprehensions -/
end
end PL

/-! PyLite, part ze: pops, extensions, op= on cells; stored comprehensions; dict displays; list(range). -/
namespace PL
open PySem PySem.Spec PyProof.Rows L2
section
variable {Γ : Tab} {W : WX} {Z Z' : Hp} {Lt Lt' : Lend} {g g' g0 g1 : GM} {st st' st1 : LS} {σ σ' : L2.St} {H H' H1 : Hp} {h h' : List LO} {a p : Addr} {o : HO} {d : D} {v : V} {X : Cx} {e e1 e2 e3 e4 : Expr} {es : List Expr} {f k l j : E D} {pos pos2 ppos apos tpos mpos : Pos} {stm : Stmt} {sts : List Stmt} {f1 f2 : S} {D0 : Ends}
/-! ### x[i] op= e -/
theorem pget_list {X : Cx} : PGet X (rIxL X.K) := by
  intro pins s σ H x y v u Q I rx ry h
  obtain ⟨p, xs, i, z, rfl, rfl, hq, he, q⟩ := h
  cases rx
  obtain ⟨t, rfl⟩ := ry
  obtain ⟨its, r, pl, hz⟩ := I.list hq
  obtain ⟨j, h1, h2, h3, h4, h5⟩ := atI_get he
  obtain ⟨w, ew, rw'⟩ := r.get h2
  have hl := r.length
  have hn := line63
  have fin : EP X pins σ Q w s := ⟨z, H, I, rw', q⟩
  by_cases h0 : 0 ≤ i
  · have hj : i.toNat = j := by
      rw [seqIndex_of h0 h5] at h1
      exact Option.some.inj h1
    exact wpAny_getItem_list pl.isList h0 (by omega) (by rw [hj]; simpa using ew) fin
  · have hj : (i + (its.toArray.size : Int)).toNat = j := by
      rw [seqIndex_neg (by omega) h4] at h1
      rw [List.size_toArray, ← hl]
      exact Option.some.inj h1
    exact wpAny_getItem_list_neg pl.isList (by omega) (by rw [List.size_toArray] <;> omega) (by omega) (by rw [hj]; simpa using ew) fin
noncomputable def sAugC (m : Sem2) (fr fi fe : E D) : S := fun st => SRes.of (fr st) fun x s1 => SRes.of (fi s1) fun j s2 => match x with
  | .obj r => match s2.cell r, j with
    | some (.lst ds), .int q => match atD ds q with
      | some u => SRes.of (fe s2) fun d s3 => SRes.of (m u d s3) fun z s4 => match s4.cell r with
        | some (.lst ds') => match ixD ds'.length q with
          | some n => .nx (s4.setC r (.lst (ds'.set n z)))
          | none => .bad
        | _ => .bad
      | none => .bad
    | _, _ => .bad
  | _ => .bad
theorem st_augC {er ei : Expr} {op : Operator} {r : R2} {m : Sem2} (hK : X.K = Γ.K) (ho : OpR X (inplaceOp op) r) (hm : Holds2 Γ W X r m) (x : PD Γ W X er l) (z : PD Γ W X ei k) (y : PV Γ W X e f)
    (ha : ∀ ov iv new, augStore ei ov iv new = (do holding [new, ov, iv] (setItem ov iv new); release [new, ov, iv] []; pure .next) := by intros; rfl) :
    PSt Γ W X (.AugAssign (.Subscript er ei apos) op e pos) (sAugC m l k f) := by
  refine ⟨(ps_augS x.pe z.pe pget_list y.pe (fun pins s σ H x y u v Q I rx ry h => ho pins s σ H x y u v Q I rx ry h) set_list ha).csq fun D σ H ⟨Z, Lt, g, st, s, h⟩ => ⟨Z, Lt, g, st, s, (GoS.of h).imp fun x g1 st1 H1 s1 t1 k1 v r1 => ?_⟩⟩
  have h := k1 g1 H1 s1 (GT.refl _ _)
  refine ⟨Z, Lt, g1, st1, s1, (GoS.of h).imp fun j g2 st2 H2 s2 t2 k2 u r2 => ?_⟩
  have h := k2 g2 H2 s2 (GT.refl _ _)
  cases x with
  | obj r0 =>
    simp only at h
    obtain ⟨a, rfl, hr⟩ := RD.obj r1
    split at h
    · rename_i ds q ec
      simp only [RD] at r2; subst r2
      obtain ⟨o, c3, c4, _⟩ := s2.cellA (t2.at hr) ec
      obtain ⟨ws, rfl, rs⟩ := c4.lst
      split at h
      · rename_i du edu
        obtain ⟨v', ev', rv'⟩ := rs.at edu
        refine ⟨a, ws, q, v', rfl, rfl, .inl (.inl c3), ev', Z, Lt, g2, st2, s2, (GoS.of h).imp fun d g3 st3 H3 s3 t3 k3 w r3 => ?_⟩
        have h := k3 g3 H3 s3 (GT.refl _ _)
        refine hm Z Lt g3 st3 σ H3 du d v' w _ s3 (.inl (rv'.up t3)) (r3.cv s3) ((GoS.of h).imp fun z g4 st4 H4 s4 t4 k4 n r4 => ?_)
        have h := k4 g4 H4 s4 (GT.refl _ _)
        split at h
        · rename_i ds' ec'
          obtain ⟨o', c3', c4', c5⟩ := s4.cellA (t4.at (t3.at (t2.at hr))) ec'
          obtain ⟨ws', rfl, rs'⟩ := c4'.lst
          split at h
          · rename_i n' en'
            exact ⟨a, ws', q, n', rfl, rfl, c3', by rw [ixN_ixD, ← rs'.length]; exact en', h σ g4 _ (c5 (.lst (ds'.set n' z)) (.lst (ws'.set n' n)) (rs'.set r4)) (GT.refl _ _)⟩
          · exact h.elim
        · exact h.elim
      · exact h.elim
    · exact h.elim
  | _ => exact h.elim
@[simp] theorem sAugC_s {m : Sem2} : sAugC m l k f st = SRes.of (l st) fun x s1 => SRes.of (k s1) fun j s2 => match x with
  | .obj r => match s2.cell r, j with
    | some (.lst ds), .int q => match atD ds q with
      | some u => SRes.of (f s2) fun d s3 => SRes.of (m u d s3) fun z s4 => match s4.cell r with
        | some (.lst ds') => match ixD ds'.length q with
          | some n => .nx (s4.setC r (.lst (ds'.set n z)))
          | none => .bad
        | _ => .bad
      | none => .bad
    | _, _ => .bad
  | _ => .bad := id rfl
end
end PL

/-! PyLite, part zf: stored comprehensions over cells and of cells; dict displays; list(range); range of three. -/
namespace PL
open PySem PySem.Spec PyProof.Rows L2
section
variable {Γ : Tab} {W : WX} {Z Z' : Hp} {Lt Lt' : Lend} {g g' g0 g1 : GM} {st st' st1 : LS} {σ σ' : L2.St} {H H' H1 : Hp} {h h' : List LO} {a p : Addr} {o : HO} {d : D} {v : V} {X : Cx} {e e1 e2 e3 e4 : Expr} {es : List Expr} {f k l j : E D} {pos pos2 ppos apos tpos mpos : Pos} {stm : Stmt} {sts : List Stmt} {f1 f2 : S} {D0 : Ends}
section
variable {i : Nat} {y : Str} {py : Pos} {spos : Pos} {elt tg : Expr} {x : Str} {xpos : Pos} {ifs : List Expr} {scope : Scope} {is : List Nat} {tgf : D → LS → Option LS} {t : E Bool}
end
section
variable {i n : Nat} {y x : Str} {py spos xpos : Pos} {elt tg : Expr} {ifs : List Expr} {scope : Scope} {is : List Nat} {tgf : D → LS → Option LS} {t : E Bool}
end
/-! ### list(range(..)) -/
end
end PL

/-! PyLite, part zg: dict displays. -/
namespace PL
open PySem PySem.Spec PyProof.Rows L2
section
variable {Γ : Tab} {W : WX} {Z Z' : Hp} {Lt Lt' : Lend} {g g' g0 g1 : GM} {st st' st1 : LS} {σ σ' : L2.St} {H H' H1 : Hp} {h h' : List LO} {a p : Addr} {o : HO} {d : D} {v : V} {X : Cx} {e e1 e2 e3 e4 : Expr} {es : List Expr} {f k l j : E D} {pos pos2 ppos apos tpos mpos : Pos} {stm : Stmt} {sts : List Stmt} {f1 f2 : S} {D0 : Ends}
noncomputable def RDps (Γ : Tab) (g : GM) : List (D × D) → List (V × V) → Prop
  | [], xs => xs = []
  | p :: ps, xs => ∃ x y q, xs = (x, y) :: q ∧ RD Γ g p.1 x ∧ RD Γ g p.2 y ∧ RDps Γ g ps q
theorem RDps.up : ∀ {ps : List (D × D)} {xs : List (V × V)}, RDps Γ g ps xs → GT Z g g' → RDps Γ g' ps xs
  | [], _, r, _ => r
  | p :: ps, _, r, t => by
    obtain ⟨x, y, q, rfl, r1, r2, r3⟩ := r
    exact ⟨x, y, q, rfl, r1.up t, r2.up t, RDps.up r3 t⟩
structure PPD (Γ : Tab) (W : WX) (X : Cx) (pos : Pos) (keys : List (Option Expr)) (values : List Expr) (F : E (List (D × D))) : Prop where
  pp : ∃ trs, PPs X pos keys values trs ∧ ∀ (σ : L2.St) (H : Hp) (Q : List (V × V) → Hp → Prop) (Z : Hp) (Lt : Lend) (g : GM) (st : LS), SR Γ Z Lt g st σ H → Go Γ W Z Lt σ (F st) g (fun ps g' _ H' => ∀ xs, RDps Γ g' ps xs → Q xs H') → tPairs trs σ H Q
end
end PL

/-! Loops and comprehensions over cells, as plain Lean. -/
namespace PX
open PySem PySem.Spec PyProof.Rows L2 PL
/-- a list by value, or a cell that stands -/
noncomputable def Lv (X : D) (full : List D) (h : List LO) : Prop := X = .lst full ∨ ∃ r, X = .obj r ∧ h[r]? = some (.cell (.lst full))
theorem Lv.app {X : D} {full : List D} {h : List LO} (x : Lv X full h) (t : List LO) : Lv X full (h ++ t) := by
  rcases x with x | ⟨r, x, e⟩
  · exact .inl x
  · exact .inr ⟨r, x, by rw [List.getElem?_append_left (List.getElem?_eq_some_iff.mp e).1]; exact e⟩
theorem Lv.dr {X : D} {full : List D} {s : List (Option FV)} {h : List LO} (x : Lv X full h) : LS.dr ⟨s, h⟩ X = .lst full := by
  rcases x with rfl | ⟨r, rfl, e⟩
  · rfl
  · simp [e]
end PX

/-! A Rungs and the rows that came to it. -/
namespace PX
open PySem PySem.Spec PyProof.Rows L2 PL
theorem elems_le (R : List (List Int)) (m : Nat) (h : ∀ r ∈ R, r.length ≤ m) : elems R ≤ R.length * m := by
  induction R with
  | nil => simp [elems]
  | cons r R ih =>
    have h1 := h r (by simp)
    have h2 := ih fun q m => h q (by simp [m])
    rw [elems_cons, List.length_cons, Nat.add_mul]; omega
/-- the weight of all rows -/
noncomputable def wt (rows : List (Int × Int)) : Int := (rows.map (·.2)).sum
theorem wt_cons (p : Int × Int) (rows : List (Int × Int)) : wt (p :: rows) = p.2 + wt rows := by simp [wt]
theorem wt_app (a b : List (Int × Int)) : wt (a ++ b) = wt a + wt b := by simp [wt]
theorem wt_bd {rows : List (Int × Int)} (h : ∀ p ∈ rows, 1 ≤ p.2 ∧ p.2 ≤ 1000000000000) : (rows.length : Int) ≤ wt rows ∧ wt rows ≤ 1000000000000 * rows.length := by
  induction rows with
  | nil => simp [wt]
  | cons p rows ih =>
    have := ih fun q m => h q (by simp [m])
    have := h p (by simp)
    rw [wt_cons, List.length_cons]
    push_cast
    omega
structure Ri (room : Nat) (S : Rg) (rows : List (Int × Int)) : Prop where
  ok : OkS room S (wt rows) (fun t => sumLe t rows) (fun a => ∃ p ∈ rows, p.1 = a)
  fit : ∀ r ∈ S.R, r.length ≤ room
  w1 : ∀ p ∈ rows, 1 ≤ p.2 ∧ p.2 ≤ 1000000000000
  len : S.R.length ≤ 60
theorem Ri.zero (room : Nat) : Ri room rgZ [] := ⟨⟨by simp [rgZ], by decide, by decide, by decide, by simp [rgZ, nearR, wsum, sumLe_nil], by simp [rgZ, weightR, wsum, wt], by simp [rgZ, phiR, wsum], by simp [rgZ], .inl rfl⟩, by simp [rgZ], by simp, by simp [rgZ]⟩
theorem OkS.ne {room : Nat} {S : Rg} {total : Int} {tr : Int → Int} {P : Int → Prop} (o : OkS room S total tr P) (h : S.R ≠ []) : rowAt S.R (S.R.length - 1) ≠ [] := by
  rcases o.la with e | e
  · exact absurd e h
  · exact e
theorem OkS.len {room : Nat} {S : Rg} {total : Int} {tr : Int → Int} {P : Int → Prop} (o : OkS room S total tr P) (n : Nat) (ht : total < 2 ^ n) : S.R.length ≤ n := by
  by_cases h : S.R = []
  · rw [h]; simp
  · have ll := lists_le (o.ne h) h
    rw [o.we] at ll
    by_cases q : S.R.length ≤ n
    · exact q
    · have h1 := Nat.pow_le_pow_right (show 0 < 2 by decide) (show n ≤ S.R.length - 1 by omega)
      have h2 : ((2 ^ (S.R.length - 1) : Nat) : Int) = 2 ^ (S.R.length - 1) := by push_cast; rfl
      have h3 : ((2 ^ n : Nat) : Int) = 2 ^ n := by push_cast; rfl
      omega
theorem Ri.of {room : Nat} {S : Rg} {rows : List (Int × Int)} (o : OkS room S (wt rows) (fun t => sumLe t rows) (fun a => ∃ p ∈ rows, p.1 = a)) (f : ∀ r ∈ S.R, r.length ≤ room) (w : ∀ p ∈ rows, 1 ≤ p.2 ∧ p.2 ≤ 1000000000000) (hl : rows.length ≤ 100000) : Ri room S rows :=
  ⟨o, f, w, o.len 60 (by have := (wt_bd w).2; omega)⟩
theorem Ri.w1' {room : Nat} {S : Rg} {rows : List (Int × Int)} (iv : Ri room S rows) : ∀ p ∈ rows, 1 ≤ p.2 := fun p m => (iv.w1 p m).1
theorem Ri.el {room : Nat} {S : Rg} {rows : List (Int × Int)} (iv : Ri room S rows) (r3 : room ≤ 64) : elems S.R ≤ 3840 := by
  have := elems_le S.R room iv.fit
  have : S.R.length * room ≤ 60 * 64 := Nat.mul_le_mul iv.len r3
  omega
theorem Ri.add {room : Nat} {S : Rg} {rows : List (Int × Int)} (iv : Ri room S rows) (r1 : room % 2 = 0) (r2 : 2 ≤ room) {x w : Int} (w0 : 1 ≤ w) (w1 : w ≤ 1000000000000) (hk : rows.length < 100000) :
    Ri room (addRg room S x w) (rows ++ [(x, w)]) := by
  have po := pre_ok (P' := fun a => ∃ p ∈ rows ++ [(x, w)], p.1 = a) iv.ok (x := x) w0 (fun a ⟨p, m, e⟩ => ⟨p, by simp [m], e⟩) ⟨(x, w), by simp, rfl⟩
  obtain ⟨so, sr, _⟩ := settle_ok r1 r2 po
  have hS' : addRg room S x w = settleR room (preR S x w) := rfl
  rw [← hS'] at so sr
  have e : (fun t => sumLe t rows + if x ≤ t then w else 0) = fun t => sumLe t (rows ++ [(x, w)]) := by funext t; rw [sumLe_app, sumLe_cons, sumLe_nil]; simp
  have e2 : wt rows + w = wt (rows ++ [(x, w)]) := by simp [wt]
  rw [e, e2] at so
  refine Ri.of so sr (fun p m => ?_) (by simp; omega)
  rcases List.mem_append.mp m with m | m
  · exact iv.w1 p m
  · simp at m; subst m; exact ⟨w0, w1⟩
theorem Ri.pour {room : Nat} {S T : Rg} {ra rb : List (Int × Int)} (a : Ri room S ra) (b : Ri room T rb) (r1 : room % 2 = 0) (r2 : 2 ≤ room) (hk : ra.length + rb.length ≤ 100000) : Ri room (pourR room S T) (ra ++ rb) := by
  have po := join_ok (P := fun a => ∃ p ∈ ra ++ rb, p.1 = a) a.ok b.ok (fun x ⟨p, m, e⟩ => ⟨p, by simp [m], e⟩) (fun x ⟨p, m, e⟩ => ⟨p, by simp [m], e⟩)
  obtain ⟨so, sr, _⟩ := settle_ok r1 r2 po
  have e : (fun t => sumLe t ra + sumLe t rb) = fun t => sumLe t (ra ++ rb) := by funext t; rw [sumLe_app]
  have hS' : pourR room S T = settleR room (joinR S T) := rfl
  rw [← hS', ← wt_app, e] at so
  rw [← hS'] at sr
  refine Ri.of so sr (fun p m => ?_) (by simp; omega)
  rcases List.mem_append.mp m with m | m
  · exact a.w1 p m
  · exact b.w1 p m
end PX

namespace PX
open PySem PySem.Spec PyProof.Rows L2 PL
@[irreducible] noncomputable def B_settled_boxes_0 : S :=
  sSeq (sIf (tst (eBin mLe (eBin mIx (vVar 6) (eC (.int 1))) (vVar 2))) (sBk) (sNx)) <|
  sIf (tst (eUn mIsN (cVar 5))) (sSet 5 (eVar 6)) (sIf (tst (eBin mLe (eBin mMul (eBin mAdd (eBin mIx (vVar 5) (eC (.int 2))) (eBin mIx (vVar 6) (eC (.int 2)))) (vVar 1)) (vVar 4))) (sSet 5 (eTup (eCons (eBin mIx (vVar 6) (eC (.int 0))) (eCons (eBin mIx (vVar 5) (eC (.int 1))) (eCons (eBin mAdd (eBin mIx (vVar 6) (eC (.int 2))) (eBin mIx (vVar 5) (eC (.int 2)))) (eNil)))))) (sSeq (sApp 3 (eVar 5)) <|
  sSeq (sAug 4 mAddI (eBin mIx (vVar 5) (eC (.int 2)))) <|
  sSet 5 (eVar 6)))
@[irreducible] noncomputable def F_settled_boxes : Fn := fn 7 <|
  sSeq (sSetF 3 (eLst (eNil))) <|
  sSeq (sSet 4 (eC (.int 0))) <|
  sSeq (sSet 5 (eC .non)) <|
  sSeq (sFor (iRvs (vVar 0)) (tgN 6) (PX.B_settled_boxes_0)) <|
  sSeq (sIf (tst (eUn mNotN (cVar 5))) (sApp 3 (eVar 5)) (sNx)) <|
  sRetF (eUn mRev (cVar 3))
@[irreducible] noncomputable def F_Window_init : Fn := fn 3 <|
  sSeq (sFld 0 [6, 8, 9, 10, 12, 13] (eVar 0) (eVar 1)) <|
  sSeq (sFld 1 [6, 12, 13] (eVar 0) (eVar 2)) <|
  sSeq (sFld 2 [6, 11] (eVar 0) (eC (.int 0))) <|
  sFld 3 [6] (eVar 0) (eLst (eNil))
@[irreducible] noncomputable def F_Window_add : Fn := fn 3 <|
  sSeq (sFldAug 2 [6, 11] (eVar 0) mAddI (eC (.int 1))) <|
  sSeq (sSet 2 (eBin mAdd (vFld 3 (eVar 0)) (eLst (eCons (eTup (eCons (eFld 2 (eVar 0)) (eCons (eFld 2 (eVar 0)) (eCons (eVar 1) (eNil))))) (eNil))))) <|
  sFld 3 [6] (eVar 0) (eCall PX.F_settled_boxes (aCons (aL 2) (aCons (aF 0 (eVar 0)) (aCons (aV (eBin mSub (vFld 2 (eVar 0)) (vFld 1 (eVar 0)))) (aNil)))))
@[irreducible] noncomputable def F_Window_idle : Fn := fn 2 <|
  sSeq (sFldAug 2 [6, 11] (eVar 0) mAddI (eVar 1)) <|
  sFld 3 [6] (eVar 0) (eCall PX.F_settled_boxes (aCons (aF 3 (eVar 0)) (aCons (aF 0 (eVar 0)) (aCons (aV (eBin mSub (vFld 2 (eVar 0)) (vFld 1 (eVar 0)))) (aNil)))))
end PX

/-! What the window's functions answer. -/
namespace PX
open PySem PySem.Spec PyProof.Rows L2 PL
noncomputable abbrev Box := Int × Int × Int
noncomputable def encB (b : Box) : D := .tup [.int b.1, .int b.2.1, .int b.2.2]
noncomputable def run (room : Int) : List Box → Int → Box → List Box
  | [], _, hand => [hand]
  | b :: r, newer, hand => if (hand.2.2 + b.2.2) * room ≤ newer then run room r newer (b.1, hand.2.1, b.2.2 + hand.2.2) else hand :: run room r (newer + hand.2.2) b
noncomputable def fromN (room : Int) : List Box → List Box
  | [] => []
  | b :: r => run room r 0 b
/-- the boxes, settled -/
noncomputable def settle (room edge : Int) (bs : List Box) : List Box := (fromN room (bs.reverse.takeWhile fun b => decide (edge < b.2.1))).reverse
noncomputable def bsum : List Box → Int
  | [] => 0
  | b :: r => b.2.2 + bsum r
theorem bsum_append (xs ys : List Box) : bsum (xs ++ ys) = bsum xs + bsum ys := by
  induction xs with
  | nil => simp [bsum]
  | cons x xs ih => simp only [List.cons_append, bsum, ih]; omega
theorem bsum_reverse (xs : List Box) : bsum xs.reverse = bsum xs := by
  induction xs with
  | nil => rfl
  | cons x xs ih => rw [List.reverse_cons, bsum_append, ih]; simp [bsum]; omega
theorem bsum_nn {xs : List Box} (h : ∀ b ∈ xs, 0 ≤ b.2.2) : 0 ≤ bsum xs := by
  induction xs with
  | nil => simp [bsum]
  | cons x xs ih =>
    have := h x (by simp)
    have := ih fun b m => h b (by simp [m])
    simp only [bsum]; omega
theorem atB (f e w : D) : PL.atD [f, e, w] 0 = some f ∧ PL.atD [f, e, w] 1 = some e ∧ PL.atD [f, e, w] 2 = some w := ⟨rfl, rfl, rfl⟩
theorem run_turn {room edge : Int} (X : Option FV) (h : List LO) (hr : room.natAbs < 2 ^ 100) : ∀ (rs : List Box) (told : List Box) (newer : Int) (hand : Box) (bx : Option FV), (∀ b ∈ rs, 0 ≤ b.2.2) → 0 ≤ hand.2.2 → 0 ≤ newer → newer + hand.2.2 + bsum rs ≤ 1267650600228229401496703205375 → told.length + rs.length < 16777215 →
    ∃ (told' : List Box) (hand' : Box) (newer' : Int) (bx' : Option FV), turns (tgN 6) B_settled_boxes_0 (rs.map encB) ⟨[X, some (.val (.int room)), some (.val (.int edge)), some (.own (.lst (told.map encB))), some (.val (.int newer)), some (.val (encB hand)), bx], h⟩ =
      .nx ⟨[X, some (.val (.int room)), some (.val (.int edge)), some (.own (.lst (told'.map encB))), some (.val (.int newer')), some (.val (encB hand')), bx'], h⟩ ∧ told' ++ [hand'] = told ++ run room (rs.takeWhile fun b => decide (edge < b.2.1)) newer hand ∧ told'.length ≤ told.length + rs.length
  | [], told, newer, hand, bx, _, _, _, _, _ => ⟨told, hand, newer, bx, rfl, rfl, by simp⟩
  | b :: rs, told, newer, hand, bx, h1, h2, h3, h4, h5 => by
    have hb := h1 b (by simp)
    have hs := bsum_nn (xs := rs) fun b m => h1 b (by simp [m])
    simp only [bsum] at h4
    simp only [List.length_cons] at h5
    have ab := atB
    rw [List.map_cons, turns]
    simp only [tgN_s, set_s, List.set_cons_succ, List.set_cons_zero]
    by_cases q1 : b.2.1 ≤ edge
    · refine ⟨told, hand, newer, some (.val (encB b)), ?_, ?_, by simp⟩
      · unfold B_settled_boxes_0
        simp [encB, ab, q1]
      · rw [List.takeWhile_cons]
        simp [Int.not_lt.mpr q1, run]
    · have c1 : CMulX (hand.2.2 + b.2.2) room := cmul_of 101 100 (by omega) hr
      have q1' : edge < b.2.1 := by omega
      by_cases q2 : (hand.2.2 + b.2.2) * room ≤ newer
      · obtain ⟨t', h', n', b', e1, e2, e3⟩ := run_turn (edge := edge) X h hr rs told newer (b.1, hand.2.1, b.2.2 + hand.2.2) (some (.val (encB b))) (fun b m => h1 b (by simp [m])) (by show 0 ≤ b.2.2 + hand.2.2; omega) h3 (by show newer + (b.2.2 + hand.2.2) + bsum rs ≤ _; omega) (by omega)
        refine ⟨t', h', n', b', ?_, ?_, by simp only [List.length_cons]; omega⟩
        · rw [← e1]
          unfold B_settled_boxes_0
          simp [encB, ab, q1, c1, q2]
        · rw [e2, List.takeWhile_cons]
          simp [q1', run, q2]
      · obtain ⟨t', h', n', b', e1, e2, e3⟩ := run_turn (edge := edge) X h hr rs (told ++ [hand]) (newer + hand.2.2) b (some (.val (encB b))) (fun b m => h1 b (by simp [m])) hb (by omega) (by omega) (by simp; omega)
        refine ⟨t', h', n', b', ?_, ?_, by simp only [List.length_cons]; simp only [List.length_append, List.length_cons, List.length_nil] at e3; omega⟩
        · rw [← e1]
          unfold B_settled_boxes_0
          simp [encB, ab, q1, c1, q2, show told.length < 16777216 by omega]
        · rw [e2, List.takeWhile_cons]
          simp [q1', run, q2]
structure Fit (bs : List Box) : Prop where
  nn : ∀ b ∈ bs, 0 ≤ b.2.2
  sum : bsum bs ≤ 1267650600228229401496703205375
  len : bs.length ≤ 1000000
theorem settledB_v (bs : List Box) (Y : FV) (room edge : Int) (h : List LO) (hY : Y = .val (.lst (bs.map encB)) ∨ Y = .lent (.lst (bs.map encB))) (hf : Fit bs) (hr : room.natAbs < 2 ^ 100) : F_settled_boxes [Y, .val (.int room), .val (.int edge)] h = .ret (.own (.lst ((settle room edge bs).map encB))) h := by
  have key : ∃ (told : List Box) (hand : D) (newer bx : Option FV), turns (tgN 6) B_settled_boxes_0 (bs.map encB).reverse ⟨[some Y, some (.val (.int room)), some (.val (.int edge)), some (.own (.lst [])), some (.val (.int 0)), some (.val .non), none], h⟩ =
      .nx ⟨[some Y, some (.val (.int room)), some (.val (.int edge)), some (.own (.lst (told.map encB))), newer, some (.val hand), bx], h⟩ ∧ told.length < 16777216 ∧ ((hand = .non ∧ told = [] ∧ settle room edge bs = []) ∨ ∃ b : Box, hand = encB b ∧ (told ++ [b]).reverse = settle room edge bs) := by
    rw [← List.map_reverse]
    cases e : bs.reverse with
    | nil =>
      refine ⟨[], .non, _, _, rfl, by simp, .inl ⟨rfl, rfl, ?_⟩⟩
      unfold settle
      rw [e]
      rfl
    | cons b rs =>
      have hb : ∀ c ∈ b :: rs, 0 ≤ c.2.2 := fun c m => hf.nn c (by rw [← List.mem_reverse, e]; exact m)
      have hsum : bsum (b :: rs) ≤ 1267650600228229401496703205375 := by rw [← e, bsum_reverse]; exact hf.sum
      have hlen : (b :: rs).length ≤ 1000000 := by rw [← e, List.length_reverse]; exact hf.len
      have ab := atB
      rw [List.map_cons, turns]
      simp only [tgN_s, set_s, List.set_cons_succ, List.set_cons_zero]
      by_cases q1 : b.2.1 ≤ edge
      · refine ⟨[], .non, some (.val (.int 0)), some (.val (encB b)), ?_, by simp, .inl ⟨rfl, rfl, ?_⟩⟩
        · unfold B_settled_boxes_0
          simp [encB, ab, q1]
        · unfold settle
          rw [e, List.takeWhile_cons]
          simp [Int.not_lt.mpr q1, fromN]
      · simp only [bsum, List.length_cons] at hsum hlen
        obtain ⟨t', h', n', b', e1, e2, e3⟩ := run_turn (edge := edge) (some Y) h hr rs [] 0 b (some (.val (encB b))) (fun c m => hb c (by simp [m])) (hb b (by simp)) (by omega) (by omega) (by simp; omega)
        refine ⟨t', encB h', some (.val (.int n')), b', ?_, by simp at e3; omega, .inr ⟨h', rfl, ?_⟩⟩
        · rw [← e1]
          unfold B_settled_boxes_0
          simp [encB, ab, q1]
        · rw [e2]
          unfold settle
          rw [e, List.takeWhile_cons]
          simp [show edge < b.2.1 by omega, fromN]
  obtain ⟨told, hand, newer, bx, e, hl, hh⟩ := key
  unfold F_settled_boxes
  rcases hh with ⟨rfl, rfl, e2⟩ | ⟨b, rfl, e2⟩
  · rcases hY with rfl | rfl <;> simp [fn_s, e, e2]
  · rw [← e2]
    rcases hY with rfl | rfl <;> simp [fn_s, e, hl, encB]
/-- a window as an object -/
noncomputable def winO (room reach clock : Int) (bs : List Box) : LO := .ins 6 [(0, .val (.int room)), (1, .val (.int reach)), (2, .val (.int clock)), (3, .val (.lst (bs.map encB)))]
theorem lkW (room reach clock : FV) (bs : FV) : List.lookup 0 [(0, room), (1, reach), (2, clock), (3, bs)] = some room ∧ List.lookup 1 [(0, room), (1, reach), (2, clock), (3, bs)] = some reach ∧ List.lookup 2 [(0, room), (1, reach), (2, clock), (3, bs)] = some clock ∧ List.lookup 3 [(0, room), (1, reach), (2, clock), (3, bs)] = some bs := ⟨rfl, rfl, rfl, rfl⟩
theorem init_v (r : Nat) (room reach : Int) (h : List LO) (hr : h[r]? = some (.ins 6 [])) : F_Window_init [.val (.obj r), .val (.int room), .val (.int reach)] h = .ret (.val .non) (h.set r (winO room reach 0 [])) := by
  have hs := hset hr
  unfold F_Window_init winO
  simp [fn_s, hr, hs]
theorem add_v (r : Nat) (room reach clock w : Int) (bs : List Box) (h : List LO) (hr : h[r]? = some (winO room reach clock bs)) (hf : Fit (bs ++ [(clock + 1, clock + 1, w)])) (hm : room.natAbs < 2 ^ 100) :
    F_Window_add [.val (.obj r), .val (.int w)] h = .ret (.val .non) (h.set r (winO room reach (clock + 1) (settle room (clock + 1 - reach) (bs ++ [(clock + 1, clock + 1, w)])))) := by
  have hs := hset hr
  have e := settledB_v (bs ++ [(clock + 1, clock + 1, w)]) (.val (.lst ((bs ++ [(clock + 1, clock + 1, w)]).map encB))) room (clock + 1 - reach) (h.set r (winO room reach (clock + 1) bs)) (.inl rfl) hf hm
  have hlen := hf.len
  simp only [List.length_append, List.length_cons, List.length_nil] at hlen
  unfold F_Window_add
  unfold winO at *
  simp only [List.map_append, List.map_cons, List.map_nil, encB] at e
  simp [fn_s, hr, hs, lkW, show bs.length + 1 ≤ 16777216 by omega, e, encB]
theorem idle_v (r : Nat) (room reach clock w : Int) (bs : List Box) (h : List LO) (hr : h[r]? = some (winO room reach clock bs)) (hf : Fit bs) (hm : room.natAbs < 2 ^ 100) :
    F_Window_idle [.val (.obj r), .val (.int w)] h = .ret (.val .non) (h.set r (winO room reach (clock + w) (settle room (clock + w - reach) bs))) := by
  have hs := hset hr
  have e := settledB_v bs (.val (.lst (bs.map encB))) room (clock + w - reach) (h.set r (winO room reach (clock + w) bs)) (.inl rfl) hf hm
  unfold F_Window_idle
  unfold winO at *
  simp [fn_s, hr, hs, lkW, e]
end PX

namespace PX
open PySem PySem.Spec PyProof.Rows L2 PL
end PX

/-! What the window laws' helpers answer. -/
namespace PX
open PySem PySem.Spec PyProof.Rows L2 PL
/-! ### the law's own settling -/
noncomputable def ends (bs : List Box) : List Int := bs.map (·.2.1)
noncomputable def Srt (bs : List Box) : Prop := (ends bs).Pairwise (· ≤ ·)
theorem tw_filter (edge : Int) : ∀ {rs : List Box}, (ends rs).Pairwise (fun a b => b ≤ a) → rs.takeWhile (fun b => decide (edge < b.2.1)) = rs.filter fun b => decide (edge < b.2.1)
  | [], _ => rfl
  | b :: rs, h => by
    obtain ⟨h1, h2⟩ := List.pairwise_cons.mp (show (b.2.1 :: ends rs).Pairwise _ from h)
    rw [List.takeWhile_cons, List.filter_cons]
    by_cases q : edge < b.2.1
    · simp only [q, decide_true, if_true]
      rw [tw_filter edge h2]
    · simp only [q, decide_false, Bool.false_eq_true, if_false]
      symm
      rw [List.filter_eq_nil_iff]
      intro c m
      have := h1 c.2.1 (List.mem_map.mpr ⟨c, m, rfl⟩)
      simp; omega
theorem settle_filter {room edge : Int} {bs : List Box} (hs : Srt bs) : settle room edge bs = (fromN room (bs.filter fun b => decide (edge < b.2.1)).reverse).reverse := by
  unfold settle
  rw [tw_filter edge (rs := bs.reverse) (by
    unfold ends
    rw [List.map_reverse, List.pairwise_reverse]
    exact hs), List.filter_reverse]
theorem Fit.sub {bs cs : List Box} (hf : Fit bs) (s : cs.Sublist bs) : Fit cs := by
  refine ⟨fun b m => hf.nn b (s.subset m), ?_, Nat.le_trans s.length_le hf.len⟩
  have : bsum cs ≤ bsum bs := by
    have hn := hf.nn
    clear hf
    induction s with
    | slnil => simp
    | cons a _ ih =>
      have := ih fun b m => hn b (by simp [m])
      have := hn a (by simp)
      simp only [bsum]; omega
    | cons_cons a _ ih =>
      have := ih fun b m => hn b (by simp [m])
      simp only [bsum]; omega
  exact Int.le_trans this hf.sum
/-! ### what settling keeps -/
theorem ends_run (room : Int) : ∀ (r : List Box) (newer : Int) (hand : Box), (ends (run room r newer hand)).Sublist (ends (hand :: r))
  | [], _, _ => List.Sublist.refl _
  | b :: r, newer, hand => by
    rw [run]
    split
    · have := ends_run room r newer (b.1, hand.2.1, b.2.2 + hand.2.2)
      refine this.trans ?_
      show (hand.2.1 :: ends r).Sublist (hand.2.1 :: b.2.1 :: ends r)
      exact (List.sublist_cons_self _ _).cons_cons _
    · have := ends_run room r (newer + hand.2.2) b
      exact this.cons_cons _
theorem bsum_run (room : Int) : ∀ (r : List Box) (newer : Int) (hand : Box), bsum (run room r newer hand) = hand.2.2 + bsum r
  | [], _, _ => by simp [run, bsum]
  | b :: r, newer, hand => by
    rw [run]
    split
    · rw [bsum_run room r]; simp only [bsum]; omega
    · simp only [bsum]; rw [bsum_run room r]
theorem nn_run (room : Int) : ∀ (r : List Box) (newer : Int) (hand : Box), (∀ b ∈ hand :: r, 0 ≤ b.2.2) → ∀ b ∈ run room r newer hand, 0 ≤ b.2.2
  | [], _, _, h => h
  | b :: r, newer, hand, h => by
    rw [run]
    have h1 := h hand (by simp)
    have h2 := h b (by simp)
    split
    · exact nn_run room r newer _ fun c m => by
        rcases List.mem_cons.mp m with rfl | m
        · show 0 ≤ b.2.2 + hand.2.2; omega
        · exact h c (by simp [m])
    · intro c m
      rcases List.mem_cons.mp m with rfl | m
      · exact h1
      · exact nn_run room r _ b (fun c m => h c (by simp at m ⊢; exact .inr m)) c m
theorem ends_fromN (room : Int) (r : List Box) : (ends (fromN room r)).Sublist (ends r) := by
  cases r with
  | nil => exact List.Sublist.refl _
  | cons b r => exact ends_run room r 0 b
theorem ends_settle (room edge : Int) (bs : List Box) : (ends (settle room edge bs)).Sublist (ends bs) := by
  unfold settle
  have h1 := ends_fromN room (bs.reverse.takeWhile fun b => decide (edge < b.2.1))
  have h2 : (ends (bs.reverse.takeWhile fun b => decide (edge < b.2.1))).Sublist (ends bs.reverse) := (List.takeWhile_sublist _).map _
  have h3 := (h1.trans h2).reverse
  unfold ends at h3 ⊢
  rw [← List.map_reverse, ← List.map_reverse, List.reverse_reverse] at h3
  exact h3
theorem bsum_settle (room edge : Int) (bs : List Box) (h : ∀ b ∈ bs, 0 ≤ b.2.2) : bsum (settle room edge bs) ≤ bsum bs ∧ ∀ b ∈ settle room edge bs, 0 ≤ b.2.2 := by
  have h1 : ∀ b ∈ bs.reverse.takeWhile fun b => decide (edge < b.2.1), 0 ≤ b.2.2 := fun b m => h b (by have := (List.takeWhile_sublist _).subset m; simpa using this)
  have h2 : bsum (bs.reverse.takeWhile fun b => decide (edge < b.2.1)) ≤ bsum bs := by
    rw [← bsum_reverse bs]
    have s : (bs.reverse.takeWhile fun b => decide (edge < b.2.1)).Sublist bs.reverse := List.takeWhile_sublist _
    have hn : ∀ b ∈ bs.reverse, 0 ≤ b.2.2 := fun b m => h b (by simpa using m)
    generalize bs.reverse.takeWhile (fun b => decide (edge < b.2.1)) = cs at s
    generalize bs.reverse = ds at s hn
    clear h h1
    induction s with
    | slnil => simp
    | cons a _ ih =>
      have := ih fun b m => hn b (by simp [m])
      have := hn a (by simp)
      simp only [bsum]; omega
    | cons_cons a _ ih =>
      have := ih fun b m => hn b (by simp [m])
      simp only [bsum]; omega
  unfold settle
  generalize bs.reverse.takeWhile (fun b => decide (edge < b.2.1)) = ts at *
  rw [bsum_reverse]
  cases ts with
  | nil => exact ⟨by simpa [fromN] using h2, by simp [fromN]⟩
  | cons b r =>
    refine ⟨by rw [fromN, bsum_run]; simpa [bsum] using h2, fun c m => nn_run room r 0 b h1 c (by simpa [fromN] using m)⟩
/-- boxes of n rows up to the clock -/
structure Boxes (bs : List Box) (clock : Int) (n : Nat) : Prop where
  srt : Srt bs
  le : ∀ e ∈ ends bs, e ≤ clock
  nn : ∀ b ∈ bs, 0 ≤ b.2.2
  sum : bsum bs ≤ (n : Int) * 1000000000000
  len : bs.length ≤ n
theorem Boxes.fit {bs : List Box} {clock : Int} {n : Nat} (x : Boxes bs clock n) (hn : n ≤ 100000) : Fit bs := ⟨x.nn, by have := x.sum; omega, by have := x.len; omega⟩
theorem Boxes.settle {bs : List Box} {clock : Int} {n : Nat} (x : Boxes bs clock n) (room edge : Int) : Boxes (settle room edge bs) clock n := by
  have s := ends_settle room edge bs
  obtain ⟨w1, w2⟩ := bsum_settle room edge bs x.nn
  refine ⟨x.srt.sublist s, fun e m => x.le e (s.subset m), w2, Int.le_trans w1 x.sum, ?_⟩
  have := s.length_le
  unfold ends at this
  simp only [List.length_map] at this
  exact Nat.le_trans this x.len
theorem Boxes.idle {bs : List Box} {clock w : Int} {n : Nat} (x : Boxes bs clock n) (hw : 0 ≤ w) : Boxes bs (clock + w) (n + 1) :=
  ⟨x.srt, fun e m => by have := x.le e m; omega, x.nn, by have := x.sum; omega, by have := x.len; omega⟩
theorem Boxes.add {bs : List Box} {clock w : Int} {n : Nat} (x : Boxes bs clock n) (h0 : 0 ≤ w) (hw : w ≤ 1000000000000) : Boxes (bs ++ [(clock + 1, clock + 1, w)]) (clock + 1) (n + 1) := by
  refine ⟨?_, fun e m => ?_, fun b m => ?_, ?_, ?_⟩
  · unfold Srt ends
    rw [List.map_append, List.pairwise_append]
    refine ⟨x.srt, by simp, fun a ha b hb => ?_⟩
    have := x.le a ha
    simp at hb
    omega
  · unfold ends at m
    rw [List.map_append] at m
    rcases List.mem_append.mp m with m | m
    · have := x.le e m; omega
    · simp at m; omega
  · rcases List.mem_append.mp m with m | m
    · exact x.nn b m
    · simp at m; subst m; exact h0
  · rw [bsum_append]
    have := x.sum
    simp only [bsum]; omega
  · have := x.len
    simp; omega
theorem Boxes.nil (clock : Int) (n : Nat) : Boxes [] clock n := ⟨by unfold Srt ends; simp, by simp [ends], by simp, by simp [bsum]; omega, by simp⟩
end PX

/-! Boxes as groups of rows; what last tells. -/
namespace PX
open PySem PySem.Spec PyProof.Rows L2 PL
noncomputable def lowOf (edge : Int) : List Box → Int
  | [] => 0
  | b :: r => (if edge < b.1 then b.2.2 else 0) + lowOf edge r
noncomputable def cutSm (edge : Int) : List Box → Int
  | [] => 0
  | b :: r => (if edge < b.1 then 0 else if edge < b.2.1 then b.2.2 else 0) + cutSm edge r
/-! ### groups of rows -/
noncomputable abbrev Row := Int × Int
noncomputable def rsum : List Row → Int
  | [] => 0
  | x :: r => x.2 + rsum r
noncomputable def tsum (edge : Int) : List Row → Int
  | [] => 0
  | x :: r => (if edge < x.1 then x.2 else 0) + tsum edge r
theorem rsum_append (xs ys : List Row) : rsum (xs ++ ys) = rsum xs + rsum ys := by
  induction xs with
  | nil => simp [rsum]
  | cons x xs ih => simp only [List.cons_append, rsum, ih]; omega
theorem tsum_append (edge : Int) (xs ys : List Row) : tsum edge (xs ++ ys) = tsum edge xs + tsum edge ys := by
  induction xs with
  | nil => simp [tsum]
  | cons x xs ih => simp only [List.cons_append, tsum, ih]; omega
noncomputable def lastP (g : List Row) : Int := g.foldl (fun _ r => r.1) 0
theorem lastP_snoc (a : List Row) (l : Row) : lastP (a ++ [l]) = l.1 := by
  unfold lastP
  rw [List.foldl_append]
  rfl
theorem lastP_append {a b : List Row} (hb : b ≠ []) : lastP (a ++ b) = lastP b := by
  obtain ⟨init, l, rfl⟩ : ∃ init l, b = init ++ [l] := ⟨b.dropLast, b.getLast hb, (List.dropLast_concat_getLast hb).symm⟩
  rw [← List.append_assoc, lastP_snoc, lastP_snoc]
noncomputable def boxOf (g : List Row) : Box := ((g.headD (0, 0)).1, lastP g, rsum g)
theorem boxOf_append {a b : List Row} (ha : a ≠ []) (hb : b ≠ []) : boxOf (a ++ b) = ((boxOf a).1, (boxOf b).2.1, (boxOf a).2.2 + (boxOf b).2.2) := by
  unfold boxOf
  have h1 : (a ++ b).headD (0, 0) = a.headD (0, 0) := by cases a with
    | nil => exact absurd rfl ha
    | cons x a => rfl
  have h2 : lastP (a ++ b) = lastP b := lastP_append hb
  rw [h1, h2, rsum_append]
theorem run_grp (room : Int) : ∀ (rg : List (List Row)) (hg : List Row) (newer : Int), hg ≠ [] → (∀ g ∈ rg, g ≠ []) → ∃ gs : List (List Row), run room (rg.map boxOf) newer (boxOf hg) = gs.map boxOf ∧ gs.reverse.flatten = (hg :: rg).reverse.flatten ∧ ∀ g ∈ gs, g ≠ []
  | [], hg, newer, h1, _ => ⟨[hg], rfl, rfl, by simpa using h1⟩
  | gb :: rg, hg, newer, h1, h2 => by
    have hb := h2 gb (by simp)
    have hr : ∀ g ∈ rg, g ≠ [] := fun g m => h2 g (by simp [m])
    rw [List.map_cons, run]
    by_cases q : ((boxOf hg).2.2 + (boxOf gb).2.2) * room ≤ newer
    · rw [if_pos q, ← boxOf_append hb h1]
      obtain ⟨gs, e1, e2, e3⟩ := run_grp room rg (gb ++ hg) newer (by simp [h1]) hr
      refine ⟨gs, e1, ?_, e3⟩
      rw [e2]
      simp
    · rw [if_neg q]
      obtain ⟨gs, e1, e2, e3⟩ := run_grp room rg gb (newer + (boxOf hg).2.2) hb hr
      refine ⟨hg :: gs, by rw [e1]; rfl, ?_, fun g m => by
        rcases List.mem_cons.mp m with rfl | m
        · exact h1
        · exact e3 g m⟩
      rw [List.reverse_cons, List.flatten_append, e2]
      simp
noncomputable def Asc (rows : List Row) : Prop := rows.Pairwise fun a b => a.1 < b.1
/-- the boxes are groups of the newest rows; what is left out is old -/
noncomputable def Grp (rows : List Row) (bs : List Box) (edge0 : Int) : Prop := ∃ (dr : List Row) (gs : List (List Row)), rows = dr ++ gs.flatten ∧ bs = gs.map boxOf ∧ (∀ g ∈ gs, g ≠ []) ∧ ∀ r ∈ dr, r.1 ≤ edge0
theorem last_ge {g : List Row} (ha : Asc g) (hn : g ≠ []) : ∀ r ∈ g, r.1 ≤ (boxOf g).2.1 := by
  intro r m
  unfold boxOf
  obtain ⟨init, l, rfl⟩ : ∃ init l, g = init ++ [l] := ⟨g.dropLast, g.getLast hn, (List.dropLast_concat_getLast hn).symm⟩
  show r.1 ≤ lastP (init ++ [l])
  rw [lastP_snoc]
  have hp := List.pairwise_append.mp ha
  rcases List.mem_append.mp m with m | m
  · have := hp.2.2 r m l (by simp); omega
  · simp at m; rw [m]; simp
theorem head_le {g : List Row} (ha : Asc g) (hn : g ≠ []) : ∀ r ∈ g, (boxOf g).1 ≤ r.1 := by
  intro r m
  unfold boxOf
  cases g with
  | nil => exact absurd rfl hn
  | cons x g =>
    rcases List.mem_cons.mp m with rfl | m
    · simp
    · have := (List.pairwise_cons.mp ha).1 r m
      simp; omega
theorem asc_flat {gs : List (List Row)} (ha : Asc gs.flatten) : ∀ g ∈ gs, Asc g := by
  induction gs with
  | nil => intro g m; simp at m
  | cons x gs ih =>
    rw [List.flatten_cons] at ha
    have hp := List.pairwise_append.mp ha
    intro g m
    rcases List.mem_cons.mp m with rfl | m
    · exact hp.1
    · exact ih hp.2.1 g m
theorem settle_grp {rows : List Row} {bs : List Box} {edge0 edge room : Int} (g : Grp rows bs edge0) (ha : Asc rows) (he : edge0 ≤ edge) : Grp rows (settle room edge bs) edge := by
  obtain ⟨dr, gs, rfl, rfl, hn, hd⟩ := g
  have haf : Asc gs.flatten := (List.pairwise_append.mp ha).2.1
  -- the newest groups that reach beyond the edge
  have key : ∀ (rg : List (List Row)), (∀ g ∈ rg, g ≠ []) → Asc rg.reverse.flatten → ∃ tw rest : List (List Row), rg = tw ++ rest ∧ (rg.map boxOf).takeWhile (fun b => decide (edge < b.2.1)) = tw.map boxOf ∧ ∀ r ∈ rest.reverse.flatten, r.1 ≤ edge := by
    intro rg
    induction rg with
    | nil => intro _ _; exact ⟨[], [], rfl, rfl, by simp⟩
    | cons g rg ih =>
      intro h1 h2
      rw [List.reverse_cons, List.flatten_append] at h2
      have hp := List.pairwise_append.mp h2
      have hg := h1 g (by simp)
      have ag : Asc g := by have := hp.2.1; rw [show [g].flatten = g by simp] at this; exact this
      by_cases q : edge < (boxOf g).2.1
      · obtain ⟨tw, rest, e1, e2, e3⟩ := ih (fun x m => h1 x (by simp [m])) hp.1
        exact ⟨g :: tw, rest, by rw [e1]; rfl, by rw [List.map_cons, List.takeWhile_cons]; simp [q, e2], e3⟩
      · refine ⟨[], g :: rg, rfl, by rw [List.map_cons, List.takeWhile_cons]; simp [q], fun r m => ?_⟩
        rw [List.reverse_cons, List.flatten_append] at m
        have hl : ∀ y ∈ g, y.1 ≤ edge := fun y my => by have := last_ge ag hg y my; omega
        rcases List.mem_append.mp m with m | m
        · obtain ⟨y, hy⟩ := List.exists_mem_of_ne_nil g hg
          have := hp.2.2 r m y (by simpa using hy)
          have := hl y hy
          omega
        · exact hl r (by simpa using m)
  obtain ⟨tw, rest, e1, e2, e3⟩ := key gs.reverse (fun g m => hn g (by simpa using m)) (by rw [List.reverse_reverse]; exact haf)
  have hgs : gs = rest.reverse ++ tw.reverse := by
    have := congrArg List.reverse e1
    simpa using this
  have e4 : settle room edge (gs.map boxOf) = (fromN room (tw.map boxOf)).reverse := by
    unfold settle
    rw [← List.map_reverse, e2]
  rw [e4]
  have htw : ∀ g ∈ tw, g ≠ [] := fun g m => hn g (by rw [hgs]; simp [m])
  obtain ⟨gs', f1, f2, f3⟩ : ∃ gs' : List (List Row), fromN room (tw.map boxOf) = gs'.map boxOf ∧ gs'.reverse.flatten = tw.reverse.flatten ∧ ∀ g ∈ gs', g ≠ [] := by
    cases tw with
    | nil => exact ⟨[], rfl, rfl, by simp⟩
    | cons g tw =>
      obtain ⟨gs', a, b, c⟩ := run_grp room tw g 0 (htw g (by simp)) (fun x m => htw x (by simp [m]))
      exact ⟨gs', a, b, c⟩
  refine ⟨dr ++ rest.reverse.flatten, gs'.reverse, ?_, ?_, fun g m => f3 g (by simpa using m), fun r m => ?_⟩
  · rw [f2, hgs, List.flatten_append, List.append_assoc]
  · rw [f1, List.map_reverse]
  · rcases List.mem_append.mp m with m | m
    · have := hd r m; omega
    · exact e3 r m
theorem grp_add {rows : List Row} {bs : List Box} {edge0 c w : Int} (g : Grp rows bs edge0) : Grp (rows ++ [(c, w)]) (bs ++ [(c, c, w)]) edge0 := by
  obtain ⟨dr, gs, rfl, rfl, hn, hd⟩ := g
  refine ⟨dr, gs ++ [[(c, w)]], by simp, by simp [boxOf, rsum, lastP], fun g m => ?_, hd⟩
  rcases List.mem_append.mp m with m | m
  · exact hn g m
  · simp at m; subst m; simp
/-- the true sum lies between -/
theorem tsum_old {edge : Int} : ∀ {dr : List Row}, (∀ r ∈ dr, r.1 ≤ edge) → tsum edge dr = 0
  | [], _ => rfl
  | x :: r, h => by
    have := h x (by simp)
    have := tsum_old (edge := edge) (dr := r) fun y m => h y (by simp [m])
    simp only [tsum]
    rw [if_neg (by omega)]; omega
theorem tsum_new {edge : Int} : ∀ {g : List Row}, (∀ r ∈ g, edge < r.1) → tsum edge g = rsum g
  | [], _ => rfl
  | x :: r, h => by
    have := h x (by simp)
    have := tsum_new (edge := edge) (g := r) fun y m => h y (by simp [m])
    simp only [tsum, rsum]
    rw [if_pos (by omega)]; omega
theorem tsum_bd {edge : Int} : ∀ {g : List Row}, (∀ r ∈ g, 0 ≤ r.2) → 0 ≤ tsum edge g ∧ tsum edge g ≤ rsum g
  | [], _ => by simp [tsum, rsum]
  | x :: r, h => by
    have := h x (by simp)
    have := tsum_bd (edge := edge) (g := r) fun y m => h y (by simp [m])
    simp only [tsum, rsum]
    split <;> omega
theorem between {rows : List Row} {bs : List Box} {edge0 edge : Int} (g : Grp rows bs edge0) (ha : Asc rows) (hw : ∀ r ∈ rows, 0 ≤ r.2) (he : edge0 ≤ edge) : lowOf edge bs ≤ tsum edge rows ∧ tsum edge rows ≤ lowOf edge bs + cutSm edge bs := by
  obtain ⟨dr, gs, rfl, rfl, hn, hd⟩ := g
  rw [tsum_append, tsum_old (dr := dr) (fun r m => by have := hd r m; omega)]
  have haf : Asc gs.flatten := (List.pairwise_append.mp ha).2.1
  have hag := asc_flat haf
  have hwf : ∀ r ∈ gs.flatten, 0 ≤ r.2 := fun r m => hw r (by simp at m ⊢; exact .inr m)
  clear ha hw haf hd
  induction gs with
  | nil => simp [lowOf, cutSm, tsum]
  | cons g gs ih =>
    have hg := hn g (by simp)
    have ag := hag g (by simp)
    have ih' := ih (fun x m => hn x (by simp [m])) (fun x m => hag x (by simp [m])) (fun r m => hwf r (by simp at m ⊢; exact .inr m))
    have bd := tsum_bd (edge := edge) (g := g) fun r m => hwf r (by simp [m])
    rw [List.flatten_cons, tsum_append, List.map_cons]
    simp only [lowOf, cutSm]
    by_cases q1 : edge < (boxOf g).1
    · have : tsum edge g = rsum g := tsum_new fun r m => by have := head_le ag hg r m; omega
      simp only [q1, if_true]
      have e : (boxOf g).2.2 = rsum g := rfl
      omega
    · by_cases q2 : edge < (boxOf g).2.1
      · simp only [q1, q2, if_true, if_false]
        have e : (boxOf g).2.2 = rsum g := rfl
        omega
      · have : tsum edge g = 0 := tsum_old fun r m => by have := last_ge ag hg r m; omega
        simp only [q1, q2, if_false]
        omega
end PX

/-! Boxes are few and near. -/
namespace PX
open PySem PySem.Spec PyProof.Rows L2 PL
/-- newest first: a box of more than one place weighs little beside the newer ones; two neighbours don't -/
noncomputable def NearR (room : Int) : Int → List Box → Prop
  | _, [] => True
  | nw, b :: r => (b.1 = b.2.1 ∨ b.2.2 * room ≤ nw) ∧ (∀ c ∈ r.head?, nw < (c.2.2 + b.2.2) * room) ∧ NearR room (nw + b.2.2) r
/-- newest first: a box of more than one place weighs little beside the newer ones -/
noncomputable def OneR (room : Int) : Int → List Box → Prop
  | _, [] => True
  | nw, b :: r => (b.1 = b.2.1 ∨ b.2.2 * room ≤ nw) ∧ OneR room (nw + b.2.2) r
theorem NearR.one {room : Int} : ∀ {nw : Int} {rs : List Box}, NearR room nw rs → OneR room nw rs
  | _, [], _ => trivial
  | _, b :: r, h => ⟨h.1, NearR.one h.2.2⟩
theorem OneR.mono {room : Int} : ∀ {nw nw' : Int} {rs : List Box}, OneR room nw rs → nw ≤ nw' → OneR room nw' rs
  | _, _, [], _, _ => trivial
  | _, _, b :: r, h, le => ⟨h.1.imp id fun q => Int.le_trans q le, h.2.mono (by omega)⟩
theorem OneR.app {room : Int} : ∀ {nw : Int} {xs ys : List Box}, OneR room nw xs → OneR room (nw + bsum xs) ys → OneR room nw (xs ++ ys)
  | _, [], ys, _, h => by simpa [bsum] using h
  | nw, b :: r, ys, h, h' => ⟨h.1, OneR.app h.2 (by rw [show nw + b.2.2 + bsum r = nw + bsum (b :: r) by simp only [bsum]; omega]; exact h')⟩
theorem OneR.pre {room : Int} : ∀ {nw : Int} {xs ys : List Box}, OneR room nw (xs ++ ys) → OneR room nw xs
  | _, [], ys, _ => trivial
  | _, b :: r, ys, h => ⟨h.1, OneR.pre h.2⟩
theorem OneR.take {room nw : Int} {rs : List Box} (p : Box → Bool) (h : OneR room nw rs) : OneR room nw (rs.takeWhile p) := by
  rw [← List.takeWhile_append_dropWhile (p := p) (l := rs)] at h
  exact h.pre
theorem NearR.split {room : Int} : ∀ {nw : Int} {xs ys : List Box}, NearR room nw (xs ++ ys) → NearR room nw xs ∧ NearR room (nw + bsum xs) ys
  | _, [], ys, h => ⟨trivial, by simpa [bsum] using h⟩
  | nw, b :: r, ys, h => by
    obtain ⟨h1, h2, h3⟩ := h
    obtain ⟨a, c⟩ := NearR.split h3
    refine ⟨⟨h1, fun c m => h2 c ?_, a⟩, by rw [show nw + bsum (b :: r) = nw + b.2.2 + bsum r by simp only [bsum]; omega]; exact c⟩
    cases r with
    | nil => simp at m
    | cons x r => simpa using m
theorem head_run (room : Int) : ∀ (r : List Box) (nw : Int) (b : Box), (∀ c ∈ r, 0 ≤ c.2.2) → ∃ c t, run room r nw b = c :: t ∧ b.2.2 ≤ c.2.2
  | [], _, b, _ => ⟨b, [], rfl, Int.le_refl _⟩
  | x :: r, nw, b, h => by
    rw [run]
    have hx := h x (by simp)
    split
    · obtain ⟨c, t, e, l⟩ := head_run room r nw (x.1, b.2.1, x.2.2 + b.2.2) fun c m => h c (by simp [m])
      exact ⟨c, t, e, by have l : x.2.2 + b.2.2 ≤ c.2.2 := l; omega⟩
    · exact ⟨b, _, rfl, Int.le_refl _⟩
theorem run_near {room : Int} (hr : 0 ≤ room) : ∀ (r : List Box) (nw : Int) (hand : Box), OneR room nw (hand :: r) → (∀ c ∈ hand :: r, 0 ≤ c.2.2) → NearR room nw (run room r nw hand)
  | [], nw, hand, h, _ => ⟨h.1, by simp, trivial⟩
  | b :: r, nw, hand, h, hn => by
    have hb := hn b (by simp)
    have hh := hn hand (by simp)
    have hrr : ∀ c ∈ r, 0 ≤ c.2.2 := fun c m => hn c (by simp [m])
    rw [run]
    split
    · rename_i q
      refine run_near hr r nw (b.1, hand.2.1, b.2.2 + hand.2.2) ⟨.inr ?_, ?_⟩ fun c m => ?_
      · show (b.2.2 + hand.2.2) * room ≤ nw
        rw [Int.add_comm]; exact q
      · show OneR room (nw + (b.2.2 + hand.2.2)) r
        have := h.2.2
        rw [show nw + (b.2.2 + hand.2.2) = nw + hand.2.2 + b.2.2 by omega]; exact this
      · rcases List.mem_cons.mp m with rfl | m
        · show 0 ≤ b.2.2 + hand.2.2; omega
        · exact hrr c m
    · rename_i q
      refine ⟨h.1, fun c m => ?_, run_near hr r (nw + hand.2.2) b h.2 fun c m => hn c (by simp at m ⊢; exact .inr m)⟩
      obtain ⟨x, t, e, l⟩ := head_run room r (nw + hand.2.2) b hrr
      rw [e] at m
      simp at m
      subst m
      have : (hand.2.2 + b.2.2) * room ≤ (x.2.2 + hand.2.2) * room := Int.mul_le_mul_of_nonneg_right (by omega) hr
      omega
theorem settle_near {room edge : Int} {bs : List Box} (hr : 0 ≤ room) (h : OneR room 0 bs.reverse) (hn : ∀ b ∈ bs, 0 ≤ b.2.2) : NearR room 0 (settle room edge bs).reverse := by
  unfold settle
  rw [List.reverse_reverse]
  have h1 := h.take fun b => decide (edge < b.2.1)
  have h2 : ∀ b ∈ bs.reverse.takeWhile fun b => decide (edge < b.2.1), 0 ≤ b.2.2 := fun b m => hn b (by have := (List.takeWhile_sublist _).subset m; simpa using this)
  generalize bs.reverse.takeWhile (fun b => decide (edge < b.2.1)) = ts at *
  cases ts with
  | nil => trivial
  | cons b r => exact run_near hr r 0 b h1 h2
theorem one_add {room c w : Int} {bs : List Box} (h : NearR room 0 bs.reverse) (hw : 0 ≤ w) : OneR room 0 (bs ++ [(c, c, w)]).reverse := by
  rw [List.reverse_append]
  exact ⟨.inl rfl, h.one.mono (by show (0 : Int) ≤ 0 + w; omega)⟩
/-- the boxes' ends are above the edge -/
theorem ends_takeWhile {edge : Int} {rs : List Box} : ∀ e ∈ ends (rs.takeWhile fun b => decide (edge < b.2.1)), edge < e := by
  intro e m
  unfold ends at m
  obtain ⟨b, hb, rfl⟩ := List.mem_map.mp m
  have := List.all_takeWhile (p := fun b : Box => decide (edge < b.2.1)) (l := rs)
  rw [List.all_eq_true] at this
  simpa using this b hb
theorem ends_gt {room edge : Int} {bs : List Box} : ∀ e ∈ ends (settle room edge bs), edge < e := by
  intro e m
  unfold settle at m
  have m' : e ∈ ends (fromN room (bs.reverse.takeWhile fun b => decide (edge < b.2.1))) := by unfold ends at m ⊢; simpa using m
  exact ends_takeWhile e ((ends_fromN room _).subset m')
/-- few boxes -/
theorem many_R {room : Int} (hr : 1 ≤ room) : ∀ (p : Nat) (nw : Int) (b : Box) (r : List Box), NearR room nw (b :: r) → (∀ c ∈ b :: r, 0 ≤ c.2.2) → 0 ≤ nw → 2 * p ≤ r.length → (room + 1) ^ p * (nw + b.2.2) + (if p = 0 then 0 else 1) ≤ room ^ p * (nw + bsum (b :: r))
  | 0, nw, b, r, h, hn, h0, _ => by
    have := bsum_nn (xs := r) fun c m => hn c (by simp [m])
    simp [bsum]; omega
  | p + 1, nw, a, b :: c :: r, h, hn, h0, hl => by
    have ha := hn a (by simp)
    have hb := hn b (by simp)
    have hc := hn c (by simp)
    have i2 : nw + a.2.2 < (c.2.2 + b.2.2) * room := h.2.2.2.1 c (by simp)
    have ih := many_R hr p (nw + a.2.2 + b.2.2) c r h.2.2.2.2 (fun x m => hn x (by simp at m ⊢; exact .inr (.inr m))) (by omega) (by simp at hl; omega)
    have ew : nw + a.2.2 + b.2.2 + bsum (c :: r) = nw + bsum (a :: b :: c :: r) := by simp only [bsum]; omega
    rw [ew] at ih
    have p1 : 0 < (room + 1) ^ p := Int.pow_pos (by omega)
    have k1 : (room + 1) * (nw + a.2.2) + 1 ≤ room * (nw + a.2.2 + b.2.2 + c.2.2) := by grind
    have k2 : (room + 1) ^ p * ((room + 1) * (nw + a.2.2) + 1) ≤ (room + 1) ^ p * (room * (nw + a.2.2 + b.2.2 + c.2.2)) := Int.mul_le_mul_of_nonneg_left k1 (by omega)
    have k3 : room * ((room + 1) ^ p * (nw + a.2.2 + b.2.2 + c.2.2)) ≤ room * (room ^ p * (nw + bsum (a :: b :: c :: r))) := Int.mul_le_mul_of_nonneg_left (by split at ih <;> omega) (by omega)
    rw [if_neg (by omega), Int.pow_succ, Int.pow_succ]
    have e1 : (room + 1) ^ p * ((room + 1) * (nw + a.2.2) + 1) = (room + 1) ^ p * (room + 1) * (nw + a.2.2) + (room + 1) ^ p := by rw [Int.mul_add, Int.mul_one, ← Int.mul_assoc]
    have e2 : (room + 1) ^ p * (room * (nw + a.2.2 + b.2.2 + c.2.2)) = room * ((room + 1) ^ p * (nw + a.2.2 + b.2.2 + c.2.2)) := by rw [← Int.mul_assoc, Int.mul_comm ((room + 1) ^ p) room, Int.mul_assoc]
    have e3 : room ^ p * room * (nw + bsum (a :: b :: c :: r)) = room * (room ^ p * (nw + bsum (a :: b :: c :: r))) := by rw [Int.mul_comm (room ^ p) room, Int.mul_assoc]
    omega
  | p + 1, nw, a, [], h, hn, h0, hl => by simp at hl
  | p + 1, nw, a, [b], h, hn, h0, hl => by simp at hl; omega
theorem few {room : Int} {bs : List Box} {p : Nat} (hr : 1 ≤ room) (h : NearR room 0 bs.reverse) (hp : ∀ b ∈ bs, 1 ≤ b.2.2) (hg : bsum bs * room ^ (p + 1) ≤ (room + 1) ^ (p + 1)) : bs.length ≤ 2 + 2 * p := by
  rcases Nat.lt_or_ge (2 + 2 * p) bs.length with q | q
  · exfalso
    rw [← bsum_reverse] at hg
    have hp' : ∀ b ∈ bs.reverse, 1 ≤ b.2.2 := fun b m => hp b (by simpa using m)
    rw [← List.length_reverse] at q
    generalize bs.reverse = rs at *
    cases rs with
    | nil => simp at q
    | cons b r =>
      have := many_R hr (p + 1) 0 b r h (fun c m => by have := hp' c m; omega) (by omega) (by simp at q; omega)
      rw [if_neg (by omega), Int.zero_add, Int.zero_add] at this
      have hb := hp' b (by simp)
      have p1 : 0 < (room + 1) ^ (p + 1) := Int.pow_pos (by omega)
      have k : (room + 1) ^ (p + 1) * 1 ≤ (room + 1) ^ (p + 1) * b.2.2 := Int.mul_le_mul_of_nonneg_left hb (by omega)
      rw [Int.mul_comm (bsum (b :: r))] at hg
      omega
  · exact q
/-- the rows of a box -/
theorem filter_grp {pre g post : List Row} (ha : Asc (pre ++ (g ++ post))) (hg : g ≠ []) : ((pre ++ (g ++ post)).filter fun r => decide ((boxOf g).1 ≤ r.1) && decide (r.1 ≤ (boxOf g).2.1)) = g := by
  have h1 := List.pairwise_append.mp ha
  have h2 := List.pairwise_append.mp h1.2.1
  have lastm : ∃ z ∈ g, (boxOf g).2.1 = z.1 := by
    obtain ⟨init, l, rfl⟩ : ∃ init l, g = init ++ [l] := ⟨g.dropLast, g.getLast hg, (List.dropLast_concat_getLast hg).symm⟩
    exact ⟨l, by simp, lastP_snoc init l⟩
  obtain ⟨z, mz, ez⟩ := lastm
  have headm : ∃ y ∈ g, (boxOf g).1 = y.1 := by
    cases g with
    | nil => exact absurd rfl hg
    | cons y g => exact ⟨y, by simp, rfl⟩
  obtain ⟨y, my, ey⟩ := headm
  rw [List.filter_append, List.filter_append]
  have f1 : pre.filter (fun r => decide ((boxOf g).1 ≤ r.1) && decide (r.1 ≤ (boxOf g).2.1)) = [] := by
    rw [List.filter_eq_nil_iff]
    intro r m
    have := h1.2.2 r m y (by simp [my])
    simp; omega
  have f3 : post.filter (fun r => decide ((boxOf g).1 ≤ r.1) && decide (r.1 ≤ (boxOf g).2.1)) = [] := by
    rw [List.filter_eq_nil_iff]
    intro r m
    have := h2.2.2 z mz r m
    simp; omega
  have f2 : g.filter (fun r => decide ((boxOf g).1 ≤ r.1) && decide (r.1 ≤ (boxOf g).2.1)) = g := by
    rw [List.filter_eq_self]
    intro r m
    have := head_le h2.1 hg r m
    have := last_ge h2.1 hg r m
    simp; omega
  rw [f1, f2, f3]
  simp
end PX

namespace PX
open PySem PySem.Spec PyProof.Rows L2 PL
@[irreducible] noncomputable def F_followed : Fn := fn 7 <|
  sSeq (sIf (bOr (tst (eBin mNe (vFld 0 (eVar 0)) (vFld 0 (eVar 1)))) (tst (eBin mNe (vFld 1 (eVar 0)) (vFld 1 (eVar 1))))) (sRaise 1) (sNx)) <|
  sSeq (sSet 2 (eMake 3 6 PX.F_Window_init (aCons (aF 0 (eVar 0)) (aCons (aF 1 (eVar 0)) (aNil))))) <|
  sSeq (sFld 2 [6, 11] (eVar 2) (eBin mAdd (vFld 2 (eVar 0)) (vFld 2 (eVar 1)))) <|
  sSeq (sSet 3 (eLc [4, 5, 6] (iVal (vFld 3 (eVar 1))) (tgT [4, 5, 6]) (tYes') (eTup (eCons (eBin mAdd (vVar 4) (vFld 2 (eVar 0))) (eCons (eBin mAdd (vVar 5) (vFld 2 (eVar 0))) (eCons (eVar 6) (eNil))))))) <|
  sSeq (sFld 3 [6] (eVar 2) (eCall PX.F_settled_boxes (aCons (aV (eBin mAdd (vFld 3 (eVar 0)) (vVar 3))) (aCons (aF 0 (eVar 2)) (aCons (aV (eBin mSub (vFld 2 (eVar 2)) (vFld 1 (eVar 2)))) (aNil)))))) <|
  sRet (eVar 2)
end PX

/-! What followed answers. -/
namespace PX
open PySem PySem.Spec PyProof.Rows L2 PL
/-- moved on by so many arrivals -/
noncomputable def shiftB (c : Int) (b : Box) : Box := (b.1 + c, b.2.1 + c, b.2.2)
theorem bsum_shift (c : Int) : ∀ bs : List Box, bsum (bs.map (shiftB c)) = bsum bs
  | [] => rfl
  | b :: bs => by simp only [List.map_cons, bsum, bsum_shift c bs]; rfl
noncomputable def joinB (c : Int) (b0 b1 : List Box) : List Box := b0 ++ b1.map (shiftB c)
theorem Boxes.join {b0 b1 : List Box} {c0 c1 : Int} {n m : Nat} (x : Boxes b0 c0 n) (y : Boxes b1 c1 m) (hc : 0 ≤ c1) (hp : ∀ e ∈ ends b1, 0 ≤ e) : Boxes (joinB c0 b0 b1) (c0 + c1) (n + m) := by
  have e1 : ends (b1.map (shiftB c0)) = (ends b1).map (· + c0) := by unfold ends shiftB; simp
  unfold joinB
  refine ⟨?_, fun e m => ?_, fun b m => ?_, ?_, ?_⟩
  · unfold Srt
    have : ends (b0 ++ b1.map (shiftB c0)) = ends b0 ++ (ends b1).map (· + c0) := by rw [← e1]; unfold ends; simp
    rw [this, List.pairwise_append]
    refine ⟨x.srt, ?_, fun a ha b hb => ?_⟩
    · rw [List.pairwise_map]
      exact List.Pairwise.imp (fun {a b} h => by omega) y.srt
    · obtain ⟨z, hz, rfl⟩ := List.mem_map.mp hb
      have := hp z hz
      have := x.le a ha
      omega
  · have : ends (b0 ++ b1.map (shiftB c0)) = ends b0 ++ (ends b1).map (· + c0) := by rw [← e1]; unfold ends; simp
    rw [this] at m
    rcases List.mem_append.mp m with m | m
    · have := x.le e m; omega
    · obtain ⟨z, hz, rfl⟩ := List.mem_map.mp m
      have := y.le z hz
      show z + c0 ≤ c0 + c1
      omega
  · rcases List.mem_append.mp m with m | m
    · exact x.nn b m
    · obtain ⟨z, hz, rfl⟩ := List.mem_map.mp m
      exact y.nn z hz
  · rw [bsum_append, bsum_shift]
    have := x.sum
    have := y.sum
    omega
  · have := x.len
    have := y.len
    simp; omega
theorem pos_settle {room edge : Int} {bs : List Box} (h : ∀ e ∈ ends bs, 0 ≤ e) : ∀ e ∈ ends (settle room edge bs), 0 ≤ e := fun e m => h e ((ends_settle room edge bs).subset m)
theorem movedB_v (c0 : Int) (b1 : List Box) (x2 x3 : Option FV) (r0 r1 : Nat) (room reach : Int) (b0 : List Box) (h : List LO) (hr : h[r0]? = some (winO room reach c0 b0)) (hl : b1.length ≤ 1000000) :
    lcT [4, 5, 6] (tgT [4, 5, 6]) tYes' (eTup (eCons (eBin mAdd (vVar 4) (vFld 2 (eVar 0))) (eCons (eBin mAdd (vVar 5) (vFld 2 (eVar 0))) (eCons (eVar 6) eNil)))) (b1.map encB) [] ⟨[some (.val (.obj r0)), some (.val (.obj r1)), x2, x3, none, none, none], h⟩ =
      .ok ((b1.map (shiftB c0)).map encB) ⟨[some (.val (.obj r0)), some (.val (.obj r1)), x2, x3, none, none, none], h⟩ := by
  rw [lcT_map _ (fun _ => true) (fun d => match d with | .tup [.int f, .int e, w] => .tup [.int (f + c0), .int (e + c0), w] | d => d) (b1.map encB) [] ?_ (by simp; omega)]
  · simp only [List.nil_append, filter_true, List.map_map]
    rfl
  · intro d m
    obtain ⟨b, _, rfl⟩ := List.mem_map.mp m
    unfold winO at hr
    simp [encB, hr, lkW]
theorem followed_v (r0 r1 : Nat) (room reach c0 c1 : Int) (b0 b1 : List Box) (h : List LO) (h0 : h[r0]? = some (winO room reach c0 b0)) (h1 : h[r1]? = some (winO room reach c1 b1)) (hf : Fit (joinB c0 b0 b1)) (hm : room.natAbs < 2 ^ 100) :
    F_followed [.val (.obj r0), .val (.obj r1)] h = .ret (.val (.obj h.length)) (h ++ [winO room reach (c0 + c1) (settle room (c0 + c1 - reach) (joinB c0 b0 b1))]) := by
  have e0 := init_v h.length room reach (h ++ [.ins 6 []]) (happ h _)
  rw [hset_end] at e0
  have hl := hf.len
  unfold joinB at hl
  simp only [List.length_append, List.length_map] at hl
  have e1 := settledB_v (joinB c0 b0 b1) (.val (.lst ((joinB c0 b0 b1).map encB))) room (c0 + c1 - reach) (h ++ [winO room reach (c0 + c1) []]) (.inl rfl) hf hm
  have k0 := fun x => happ_lt h0 [x]
  have k1 := fun x => happ_lt h1 [x]
  have mv := movedB_v c0 b1 (some (.val (.obj h.length))) none r0 r1 room reach b0 (h ++ [winO room reach (c0 + c1) []]) (k0 _) (by omega)
  have ha := happ h
  have hse := hset_end h
  unfold F_followed
  unfold winO at *
  unfold joinB at e1
  simp only [List.map_append, List.map_cons, List.map_nil] at e1
  simp only [List.map_nil] at e0 mv
  simp [fn_s, h0, h1, lkW, e0, k0, k1, mv, show b0.length + b1.length ≤ 16777216 by omega, joinB, e1, -List.map_map]
/-- a window of n rows that began at 0 -/
structure OneW (bs : List Box) (clock : Int) (n : Nat) : Prop where
  bx : Boxes bs clock n
  c0 : 0 ≤ clock
  pos : ∀ e ∈ ends bs, 0 ≤ e
theorem OneW.nil : OneW [] 0 0 := ⟨Boxes.nil _ _, by omega, by simp [ends]⟩
theorem OneW.idle {bs : List Box} {clock w : Int} {n : Nat} (x : OneW bs clock n) (room reach : Int) (hw : 0 ≤ w) : OneW (settle room (clock + w - reach) bs) (clock + w) (n + 1) :=
  ⟨(x.bx.idle hw).settle _ _, by have := x.c0; omega, pos_settle x.pos⟩
theorem OneW.add {bs : List Box} {clock w : Int} {n : Nat} (x : OneW bs clock n) (room reach : Int) (h0 : 0 ≤ w) (hw : w ≤ 1000000000000) : OneW (settle room (clock + 1 - reach) (bs ++ [(clock + 1, clock + 1, w)])) (clock + 1) (n + 1) := by
  refine ⟨(x.bx.add h0 hw).settle _ _, by have := x.c0; omega, pos_settle fun e m => ?_⟩
  have : ends (bs ++ [(clock + 1, clock + 1, w)]) = ends bs ++ [clock + 1] := by unfold ends; simp
  rw [this] at m
  have := x.c0
  rcases List.mem_append.mp m with m | m
  · exact x.pos e m
  · simp at m; omega
theorem OneW.join {b0 b1 : List Box} {c0 c1 : Int} {n m : Nat} (x : OneW b0 c0 n) (y : OneW b1 c1 m) : OneW (joinB c0 b0 b1) (c0 + c1) (n + m) := by
  refine ⟨x.bx.join y.bx y.c0 y.pos, by have := x.c0; have := y.c0; omega, fun e m => ?_⟩
  have e1 : ends (joinB c0 b0 b1) = ends b0 ++ (ends b1).map (· + c0) := by unfold joinB ends shiftB; simp
  rw [e1] at m
  rcases List.mem_append.mp m with m | m
  · exact x.pos e m
  · obtain ⟨z, hz, rfl⟩ := List.mem_map.mp m
    have := y.pos z hz
    have := x.c0
    show 0 ≤ z + c0
    omega
theorem OneW.settle {bs : List Box} {clock : Int} {n : Nat} (x : OneW bs clock n) (room edge : Int) : OneW (settle room edge bs) clock n := ⟨x.bx.settle _ _, x.c0, pos_settle x.pos⟩
end PX

namespace PX
open PySem PySem.Spec PyProof.Rows L2 PL
end PX

/-! What most_boxes answers; loops over ranges. -/
namespace PX
open PySem PySem.Spec PyProof.Rows L2 PL
end PX

/-! What is known of a window's rows and boxes; windows joined. -/
namespace PX
open PySem L2 PL
/-- what is known of the rows and the boxes -/
structure Known (rows : List Row) (bs : List Box) (room reach clock : Int) (n : Nat) : Prop where
  bx : Boxes bs clock n
  asc : Asc rows
  pos : ∀ r ∈ rows, 1 ≤ r.2
  le : ∀ r ∈ rows, r.1 ≤ clock
  grp : Grp rows bs (clock - reach)
  len : rows.length ≤ n
  near : NearR room 0 bs.reverse
  out : ∀ e ∈ ends bs, clock - reach < e
theorem Known.idle {rows : List Row} {bs : List Box} {room reach clock w : Int} {n : Nat} (k : Known rows bs room reach clock n) (hr : 0 ≤ room) (h1 : 1 ≤ w) : Known rows (settle room (clock + w - reach) bs) room reach (clock + w) (n + 1) :=
  ⟨(k.bx.idle (by omega)).settle _ _, k.asc, k.pos, fun r m => by have := k.le r m; omega, settle_grp k.grp k.asc (by omega), by have := k.len; omega, settle_near hr k.near.one k.bx.nn, ends_gt⟩
theorem Known.add {rows : List Row} {bs : List Box} {room reach clock w : Int} {n : Nat} (k : Known rows bs room reach clock n) (hr : 0 ≤ room) (h1 : 1 ≤ w) (h2 : w ≤ 1000000000000) : Known (rows ++ [(clock + 1, w)]) (settle room (clock + 1 - reach) (bs ++ [(clock + 1, clock + 1, w)])) room reach (clock + 1) (n + 1) := by
  have ha : Asc (rows ++ [(clock + 1, w)]) := by
    unfold Asc
    rw [List.pairwise_append]
    refine ⟨k.asc, by simp, fun a m b hb => ?_⟩
    have := k.le a m
    simp at hb
    subst hb
    show a.1 < clock + 1
    omega
  refine ⟨(k.bx.add (by omega) h2).settle _ _, ha, fun r m => ?_, fun r m => ?_, settle_grp (grp_add k.grp) ha (by omega), by have := k.len; simp; omega, settle_near hr (one_add k.near (by omega)) (k.bx.add (by omega) h2).nn, ends_gt⟩
  · rcases List.mem_append.mp m with m | m
    · exact k.pos r m
    · simp at m; subst m; show 1 ≤ w; omega
  · rcases List.mem_append.mp m with m | m
    · have := k.le r m; omega
    · simp at m; subst m; show clock + 1 ≤ clock + 1; omega
theorem grp_box {rows : List Row} {bs : List Box} {edge : Int} (g : Grp rows bs edge) (ha : Asc rows) (hp : ∀ r ∈ rows, 1 ≤ r.2) : ∀ b ∈ bs, 1 ≤ b.2.2 ∧ ∃ g, g ≠ [] ∧ b = boxOf g ∧ (rows.filter fun r => decide (b.1 ≤ r.1) && decide (r.1 ≤ b.2.1)) = g := by
  obtain ⟨dr, gs, rfl, rfl, hn, hd⟩ := g
  intro b m
  obtain ⟨g, hg, rfl⟩ := List.mem_map.mp m
  have ng := hn g hg
  obtain ⟨g1, g2, rfl⟩ := List.append_of_mem hg
  have er : dr ++ (g1 ++ g :: g2).flatten = (dr ++ g1.flatten) ++ (g ++ g2.flatten) := by simp
  rw [er] at ha hp ⊢
  refine ⟨?_, g, ng, rfl, filter_grp ha ng⟩
  obtain ⟨y, r, rfl⟩ := List.exists_cons_of_ne_nil ng
  have h1 := hp y (by simp)
  have h2 : ∀ (xs : List Row), (∀ x ∈ xs, 1 ≤ x.2) → 0 ≤ rsum xs := by
    intro xs
    induction xs with
    | nil => intro _; simp [rsum]
    | cons x xs ih => intro h; have := h x (by simp); have := ih fun y m => h y (by simp [m]); simp only [rsum]; omega
  have h3 := h2 r fun x m => hp x (by simp [m])
  show 1 ≤ rsum (y :: r)
  simp only [rsum]; omega
/-- .. of a window begun at 0 -/
structure Kn (rows : List Row) (bs : List Box) (room reach clock : Int) (n : Nat) : Prop where
  k : Known rows bs room reach clock n
  c0 : 0 ≤ clock
  p1 : ∀ r ∈ rows, 1 ≤ r.1
  pe : ∀ e ∈ ends bs, 0 ≤ e
theorem Kn.nil (room reach : Int) (hr : 0 ≤ reach) : Kn [] [] room reach 0 0 :=
  ⟨⟨Boxes.nil _ _, by unfold Asc; simp, by simp, by simp, ⟨[], [], rfl, rfl, by simp, by simp⟩, by simp, trivial, by simp [ends]⟩, by omega, by simp, by simp [ends]⟩
theorem Kn.idle {rows : List Row} {bs : List Box} {room reach clock w : Int} {n : Nat} (x : Kn rows bs room reach clock n) (hr : 0 ≤ room) (h1 : 1 ≤ w) : Kn rows (settle room (clock + w - reach) bs) room reach (clock + w) (n + 1) :=
  ⟨x.k.idle hr h1, by have := x.c0; omega, x.p1, pos_settle x.pe⟩
theorem Kn.add {rows : List Row} {bs : List Box} {room reach clock w : Int} {n : Nat} (x : Kn rows bs room reach clock n) (hr : 0 ≤ room) (h1 : 1 ≤ w) (h2 : w ≤ 1000000000000) : Kn (rows ++ [(clock + 1, w)]) (settle room (clock + 1 - reach) (bs ++ [(clock + 1, clock + 1, w)])) room reach (clock + 1) (n + 1) := by
  have c0 := x.c0
  refine ⟨x.k.add hr h1 h2, by omega, fun r m => ?_, pos_settle fun e m => ?_⟩
  · rcases List.mem_append.mp m with m | m
    · exact x.p1 r m
    · simp at m; subst m; show 1 ≤ clock + 1; omega
  · unfold ends at m
    rw [List.map_append] at m
    rcases List.mem_append.mp m with m | m
    · exact x.pe e m
    · simp at m; subst m; omega
noncomputable def shR (c : Int) (r : Row) : Row := (r.1 + c, r.2)
theorem rsum_shR (c : Int) : ∀ g : List Row, rsum (g.map (shR c)) = rsum g
  | [] => rfl
  | r :: g => by rw [List.map_cons, rsum, rsum, rsum_shR c g]; rfl
theorem boxOf_shR (c : Int) {g : List Row} (hn : g ≠ []) : boxOf (g.map (shR c)) = shiftB c (boxOf g) := by
  obtain ⟨y, r, rfl⟩ := List.exists_cons_of_ne_nil hn
  obtain ⟨init, l, el⟩ : ∃ init l, y :: r = init ++ [l] := ⟨(y :: r).dropLast, (y :: r).getLast hn, (List.dropLast_concat_getLast hn).symm⟩
  have h2 : lastP ((y :: r).map (shR c)) = lastP (y :: r) + c := by
    rw [el, List.map_append, List.map_cons, List.map_nil, lastP_snoc, lastP_snoc]; rfl
  unfold boxOf shiftB
  rw [rsum_shR, h2]; rfl
theorem OneR.shift {room : Int} (c : Int) : ∀ {nw : Int} {rs : List Box}, OneR room nw rs → OneR room nw (rs.map (shiftB c))
  | _, [], _ => trivial
  | nw, b :: r, h => by
    refine ⟨?_, OneR.shift c h.2⟩
    rcases h.1 with q | q
    · left; show b.1 + c = b.2.1 + c; omega
    · right; exact q
theorem Kn.join {rows1 rows2 : List Row} {b1 b2 : List Box} {room reach c1 c2 : Int} {n m : Nat} (x : Kn rows1 b1 room reach c1 n) (y : Kn rows2 b2 room reach c2 m) (hr : 0 ≤ room) :
    Kn (rows1 ++ rows2.map (shR c1)) (settle room (c1 + c2 - reach) (joinB c1 b1 b2)) room reach (c1 + c2) (n + m) := by
  have hx := x.c0
  have hy := y.c0
  have bj := x.k.bx.join y.k.bx hy y.pe
  have ha : Asc (rows1 ++ rows2.map (shR c1)) := by
    unfold Asc
    rw [List.pairwise_append]
    refine ⟨x.k.asc, ?_, fun a m b hb => ?_⟩
    · rw [List.pairwise_map]
      exact y.k.asc.imp fun {a b} h => by show a.1 + c1 < b.1 + c1; omega
    · obtain ⟨r, mr, rfl⟩ := List.mem_map.mp hb
      have := x.k.le a m
      have := y.p1 r mr
      show a.1 < r.1 + c1
      omega
  have gr : Grp (rows1 ++ rows2.map (shR c1)) (settle room (c1 + c2 - reach) (joinB c1 b1 b2)) (c1 + c2 - reach) := by
    obtain ⟨dr1, gs1, e1, f1, g1, h1⟩ := x.k.grp
    obtain ⟨dr2, gs2, e2, f2, g2, h2⟩ := y.k.grp
    have eb2 : b2.map (shiftB c1) = (gs2.map fun g => g.map (shR c1)).map boxOf := by
      rw [f2, List.map_map, List.map_map]
      refine List.map_congr_left fun g mg => ?_
      exact (boxOf_shR c1 (g2 g mg)).symm
    have er2 : rows2.map (shR c1) = dr2.map (shR c1) ++ (gs2.map fun g => g.map (shR c1)).flatten := by
      rw [e2, List.map_append, List.map_flatten]
    have gn : ∀ g ∈ (gs2.map fun g => g.map (shR c1)), g ≠ [] := fun g mg => by
      obtain ⟨g', m', rfl⟩ := List.mem_map.mp mg
      have := g2 g' m'
      simpa using this
    cases dr2 with
    | nil =>
      refine settle_grp (edge0 := c1 - reach) ⟨dr1, gs1 ++ gs2.map fun g => g.map (shR c1), ?_, ?_, fun g mg => ?_, h1⟩ ha (by omega)
      · rw [er2, e1]; simp
      · unfold joinB; rw [eb2, f1, List.map_append]
      · rcases List.mem_append.mp mg with mg | mg
        · exact g1 g mg
        · exact gn g mg
    | cons r0 dr2 =>
      have q1 := y.p1 r0 (by rw [e2]; simp)
      have q2 := h2 r0 (by simp)
      have es : settle room (c1 + c2 - reach) (joinB c1 b1 b2) = settle room (c1 + c2 - reach) (b2.map (shiftB c1)) := by
        have s1 : Srt (joinB c1 b1 b2) := bj.srt
        have s2 : Srt (b2.map (shiftB c1)) := by
          unfold Srt ends joinB at *
          rw [List.map_append] at s1
          exact (List.pairwise_append.mp s1).2.1
        rw [settle_filter s1, settle_filter s2]
        unfold joinB
        rw [List.filter_append]
        have : b1.filter (fun b => decide (c1 + c2 - reach < b.2.1)) = [] := by
          rw [List.filter_eq_nil_iff]
          intro b mb
          have := x.k.bx.le b.2.1 (List.mem_map.mpr ⟨b, mb, rfl⟩)
          simp; omega
        rw [this, List.nil_append]
      rw [es]
      refine settle_grp (edge0 := c1 + c2 - reach) ⟨rows1 ++ (r0 :: dr2).map (shR c1), _, ?_, eb2, gn, fun r mr => ?_⟩ ha (by omega)
      · rw [er2]; simp
      · rcases List.mem_append.mp mr with mr | mr
        · have := x.k.le r mr; omega
        · obtain ⟨r', m', rfl⟩ := List.mem_map.mp mr
          have := h2 r' m'
          show r'.1 + c1 ≤ _
          omega
  refine ⟨⟨bj.settle _ _, ha, fun r mr => ?_, fun r mr => ?_, gr, ?_, settle_near hr ?_ bj.nn, ends_gt⟩, by omega, fun r mr => ?_, pos_settle fun e me => ?_⟩
  · rcases List.mem_append.mp mr with mr | mr
    · exact x.k.pos r mr
    · obtain ⟨r', m', rfl⟩ := List.mem_map.mp mr
      exact y.k.pos r' m'
  · rcases List.mem_append.mp mr with mr | mr
    · have := x.k.le r mr; omega
    · obtain ⟨r', m', rfl⟩ := List.mem_map.mp mr
      have := y.k.le r' m'
      show r'.1 + c1 ≤ _
      omega
  · have := x.k.len
    have := y.k.len
    simp; omega
  · unfold joinB
    rw [List.reverse_append]
    refine OneR.app ?_ ?_
    · rw [← List.map_reverse]; exact (y.k.near.one).shift c1
    · refine x.k.near.one.mono ?_
      have : ∀ b ∈ (b2.map (shiftB c1)).reverse, 0 ≤ b.2.2 := fun b mb => by
        rw [List.mem_reverse] at mb
        obtain ⟨b', m', rfl⟩ := List.mem_map.mp mb
        exact y.k.bx.nn b' m'
      have := bsum_nn this
      omega
  · rcases List.mem_append.mp mr with mr | mr
    · exact x.p1 r mr
    · obtain ⟨r', m', rfl⟩ := List.mem_map.mp mr
      have := y.p1 r' m'
      show 1 ≤ r'.1 + c1
      omega
  · unfold ends joinB at me
    rw [List.map_append] at me
    rcases List.mem_append.mp me with me | me
    · exact x.pe e me
    · obtain ⟨b, mb, rfl⟩ := List.mem_map.mp me
      obtain ⟨b', m', rfl⟩ := List.mem_map.mp mb
      have := y.pe b'.2.1 (List.mem_map.mpr ⟨b', m', rfl⟩)
      show 0 ≤ b'.2.1 + c1
      omega
/-! ### arrivals -/
noncomputable abbrev Arr := Int × Int
noncomputable def clk : List Arr → Int
  | [] => 0
  | a :: r => a.1 + clk r
noncomputable def rowsF : Int → List Arr → List Row
  | _, [] => []
  | p, a :: r => if a.2 = 0 then rowsF (p + a.1) r else (p + a.1, a.2) :: rowsF (p + a.1) r
theorem clk_app : ∀ (A B : List Arr), clk (A ++ B) = clk A + clk B
  | [], B => by simp [clk]
  | a :: A, B => by rw [List.cons_append, clk, clk, clk_app A B]; omega
theorem rowsF_app : ∀ (p : Int) (A B : List Arr), rowsF p (A ++ B) = rowsF p A ++ rowsF (p + clk A) B
  | p, [], B => by simp [rowsF, clk]
  | p, a :: A, B => by
    rw [List.cons_append, rowsF, rowsF, rowsF_app (p + a.1) A B, clk, show p + a.1 + clk A = p + (a.1 + clk A) by omega]
    split <;> rfl
theorem rowsF_sh (c : Int) : ∀ (p : Int) (B : List Arr), rowsF (p + c) B = (rowsF p B).map (shR c)
  | p, [] => rfl
  | p, a :: B => by
    rw [rowsF, rowsF, show p + c + a.1 = p + a.1 + c by omega, rowsF_sh c (p + a.1) B]
    split
    · rfl
    · rfl
end PX

namespace PX
open PySem PySem.Spec PyProof.Rows L2 PL
@[irreducible] noncomputable def F_spread : Fn := fn 1 <|
  sRet (eBin mMod (eBin mMul (vVar 0) (eC (.int 770093176312745717))) (eC (.int 1152921504606846976)))
@[irreducible] noncomputable def B_mark_0 : S :=
  sSeq (sSet 1 (eBin mDiv (vVar 1) (eC (.int 2)))) <|
  sAug 2 mAddI (eC (.int 1))
@[irreducible] noncomputable def C_mark_0 : E Bool :=
  tst (eBin mEq (eBin mMod (vVar 1) (eC (.int 2))) (eC (.int 0)))
@[irreducible] noncomputable def F_mark : Fn := fn 3 <|
  sSeq (sSet 1 (eCall PX.F_spread (aCons (aL 0) (aNil)))) <|
  sSeq (sIf (tst (eBin mEq (vVar 1) (eC (.int 0)))) (sRet (eC (.int 60))) (sNx)) <|
  sSeq (sSet 2 (eC (.int 0))) <|
  sSeq (sWhile (PX.C_mark_0) (PX.B_mark_0)) <|
  sRet (eVar 2)
end PX

namespace PX
open PySem PySem.Spec PyProof.Rows L2 PL
end PX

/-! What the marks are. -/
namespace PX
open PySem PySem.Spec PyProof.Rows L2 PL
theorem spread_v (i : Int) (h : List LO) (h0 : 0 ≤ i) (h1 : i < 1152921504606846976) : F_spread [.val (.int i)] h = .ret (.val (.int (i * 770093176312745717 % 1152921504606846976))) h := by
  unfold F_spread
  have c : CMulX i 770093176312745717 := cmul_of 60 60 (by omega) (by decide)
  simp [fn_s, c]
noncomputable def hvN : Nat → Int → Int
  | 0, _ => 0
  | n + 1, L => if L % 2 = 0 then 1 + hvN n (L / 2) else 0
@[irreducible] noncomputable def hv60 (L : Int) : Int := hvN 60 L
/-- a thing's mark -/
noncomputable def mk (t : Int) : Int := if t * 770093176312745717 % 1152921504606846976 = 0 then 60 else hv60 (t * 770093176312745717 % 1152921504606846976)
theorem hvN_bd : ∀ (n : Nat) (L : Int), 0 ≤ hvN n L ∧ hvN n L ≤ n
  | 0, L => by simp [hvN]
  | n + 1, L => by
    have h := hvN_bd n (L / 2)
    rw [hvN]
    generalize hvN n (L / 2) = x at *
    by_cases q : L % 2 = 0
    · rw [if_pos q]; exact ⟨by omega, by omega⟩
    · rw [if_neg q]; exact ⟨by omega, by omega⟩
theorem hvN60_bd (L : Int) : 0 ≤ hv60 L ∧ hv60 L ≤ 60 := by
  unfold hv60
  exact hvN_bd 60 L
theorem mk_bd0 (L : Int) : 0 ≤ (if L = 0 then (60 : Int) else hv60 L) ∧ (if L = 0 then (60 : Int) else hv60 L) ≤ 60 := by
  have h := hvN60_bd L
  by_cases q : L = 0
  · rw [if_pos q]; decide
  · rw [if_neg q]; exact h
theorem mk_bd (t : Int) : 0 ≤ mk t ∧ mk t ≤ 60 := mk_bd0 _
/-- the loop that halves, in either text -/
theorem halve_loop {c : E Bool} {b : S} (x0 : Option FV) (h : List LO) (hc : ∀ (L k : Int), c ⟨[x0, some (.val (.int L)), some (.val (.int k))], h⟩ = .ok (decide (L % 2 = 0)) ⟨[x0, some (.val (.int L)), some (.val (.int k))], h⟩)
    (hb : ∀ (L k : Int), b ⟨[x0, some (.val (.int L)), some (.val (.int k))], h⟩ = .nx ⟨[x0, some (.val (.int (L / 2))), some (.val (.int (k + 1)))], h⟩) : ∀ (n : Nat) (L k : Int), 0 < L → L < 2 ^ n → ∃ L', sWhile c b ⟨[x0, some (.val (.int L)), some (.val (.int k))], h⟩ = .nx ⟨[x0, some (.val (.int L')), some (.val (.int (k + hvN n L)))], h⟩
  | 0, L, k, h0, h1 => by simp at h1; omega
  | n + 1, L, k, h0, h1 => by
    rw [sWhile_eq, hc]
    by_cases q : L % 2 = 0
    · have h2 : L < 2 ^ n * 2 := Int.pow_succ 2 n ▸ h1
      obtain ⟨L', e⟩ := halve_loop x0 h hc hb n (L / 2) (k + 1) (by omega) (by omega)
      refine ⟨L', ?_⟩
      rw [hvN, if_pos q]
      simp only [of_ok, q, decide_true, if_true, hb]
      rw [e, Int.add_assoc]
    · refine ⟨L, ?_⟩
      rw [hvN, if_neg q]
      simp [q]
theorem mark_v (i : Int) (h : List LO) (h0 : 0 ≤ i) (h1 : i < 1152921504606846976) : F_mark [.val (.int i)] h = .ret (.val (.int (mk i))) h := by
  have m1 : 0 ≤ i * 770093176312745717 % 1152921504606846976 := by omega
  have m2 : i * 770093176312745717 % 1152921504606846976 < 1152921504606846976 := by omega
  unfold F_mark mk
  simp only [fn_s]
  simp [spread_v, h0, h1]
  generalize i * 770093176312745717 % 1152921504606846976 = L at m1 m2
  by_cases hz : L = 0
  · simp [hz]
  · simp [hz]
    have h60 : L < 2 ^ 60 := by
      rw [show (2 : Int) ^ 60 = 1152921504606846976 from by decide]
      exact m2
    obtain ⟨L', e⟩ := halve_loop (c := C_mark_0) (b := B_mark_0) (some (.val (.int i))) h (fun L k => by unfold C_mark_0; by_cases q : L % 2 = 0 <;> simp [q]) (fun L k => by unfold B_mark_0; simp) 60 L 0 (by omega) h60
    rw [Int.zero_add] at e
    unfold hv60
    simp [e]
end PX

namespace PX
open PySem PySem.Spec PyProof.Rows L2 PL
@[irreducible] noncomputable def B_settled_level_0 : S :=
  sSeq (sAug 1 mAddI (eC (.int 1))) <|
  sSet 0 (eLc [3] (iVal (vVar 0)) (tgN 3) (tst (eBin mGe (eCall PX.F_mark (aCons (aL 3) (aNil))) (vVar 1))) (eVar 3))
@[irreducible] noncomputable def C_settled_level_0 : E Bool :=
  tst (eBin mGt (eUn mLen (cVar 0)) (vVar 2))
@[irreducible] noncomputable def F_settled_level : Fn := fn 4 <|
  sSeq (sWhile (PX.C_settled_level_0) (PX.B_settled_level_0)) <|
  sRet (eTup (eCons (eVar 0) (eCons (eVar 1) (eNil))))
@[irreducible] noncomputable def F_Distinct_init : Fn := fn 2 <|
  sSeq (sFld 0 [6, 8, 9, 10, 12, 13] (eVar 0) (eVar 1)) <|
  sSeq (sFld 15 [10] (eVar 0) (eC (.int 0))) <|
  sSeq (sFld 16 [10] (eVar 0) (eC (.int 0))) <|
  sFld 17 [10] (eVar 0) (eLst (eNil))
@[irreducible] noncomputable def F_Distinct_add : Fn := fn 4 <|
  sSeq (sFldAug 15 [10] (eVar 0) mAddI (eC (.int 1))) <|
  sIf (bAnd (tst (eBin mGe (eCall PX.F_mark (aCons (aL 1) (aNil))) (vFld 16 (eVar 0)))) (tst (eBin (mIn true) (vVar 1) (vFld 17 (eVar 0))))) (sSeq (sUnT [2, 3] (eCall PX.F_settled_level (aCons (aV (eUn mSortedX (eBin mAdd (vFld 17 (eVar 0)) (eLst (eCons (eVar 1) (eNil)))))) (aCons (aF 16 (eVar 0)) (aCons (aF 0 (eVar 0)) (aNil)))))) <|
  sSeq (sFld 17 [10] (eVar 0) (eVar 2)) <|
  sFld 16 [10] (eVar 0) (eVar 3)) (sNx)
end PX

/-! What the Distinct's functions answer. -/
namespace PX
open PySem PySem.Spec PyProof.Rows L2 PL
noncomputable def geM (l : Int) (t : Int) : Bool := decide (l ≤ mk t)
/-- the least level from l on at which no more than room stay -/
noncomputable def lvl (room : Nat) (S : List Int) : Nat → Int → Int
  | 0, l => l
  | n + 1, l => if room < (S.filter (geM l)).length then lvl room S n (l + 1) else l
theorem filt_none (S : List Int) {l : Int} (h : 61 ≤ l) : S.filter (geM l) = [] := by
  rw [List.filter_eq_nil_iff]
  intro a _
  have := mk_bd a
  unfold geM
  simp; omega
theorem lvl_spec (room : Nat) (S : List Int) : ∀ (n : Nat) (l : Int), 61 - l ≤ n → l ≤ lvl room S n l ∧ (S.filter (geM (lvl room S n l))).length ≤ room ∧ (∀ j, l ≤ j → j < lvl room S n l → room < (S.filter (geM j)).length) ∧ (l ≤ 61 → lvl room S n l ≤ 61)
  | 0, l, h => by
    refine ⟨Int.le_refl _, ?_, fun j h1 h2 => absurd h2 (by simp [lvl]; omega), id⟩
    rw [lvl, filt_none S (by omega)]; simp
  | n + 1, l, h => by
    rw [lvl]
    by_cases q : room < (S.filter (geM l)).length
    · rw [if_pos q]
      have hl : l < 61 := by
        rcases Int.lt_or_le l 61 with c | c
        · exact c
        · rw [filt_none S c] at q; simp at q
      obtain ⟨i1, i2, i3, i4⟩ := lvl_spec room S n (l + 1) (by omega)
      refine ⟨by omega, i2, fun j h1 h2 => ?_, fun _ => i4 (by omega)⟩
      by_cases c : j = l
      · subst c; exact q
      · exact i3 j (by omega) h2
    · rw [if_neg q]
      exact ⟨Int.le_refl _, by omega, fun j h1 h2 => absurd h2 (by omega), id⟩
theorem geM_mono {a b : Int} (h : a ≤ b) (S : List Int) : (S.filter (geM a)).filter (geM b) = S.filter (geM b) := by
  rw [List.filter_filter]
  congr 1
  funext t
  unfold geM
  by_cases q : b ≤ mk t
  · simp [q]; omega
  · simp [q]
structure Things (S : List Int) : Prop where
  bd : ∀ t ∈ S, 0 ≤ t ∧ t < 1152921504606846976
  len : S.length ≤ 1000000
theorem keep_v (S : List Int) (hS : Things S) (l : Int) (x2 : Option FV) (h : List LO) : lcT [3] (tgN 3) (tst (eBin mGe (eCall F_mark (aCons (aL 3) aNil)) (vVar 1))) (eVar 3) (S.map D.int) [] ⟨[some (.val (.lst (S.map D.int))), some (.val (.int l)), x2, none], h⟩ =
    .ok ((S.filter (geM l)).map D.int) ⟨[some (.val (.lst (S.map D.int))), some (.val (.int l)), x2, none], h⟩ := by
  rw [lcT_map _ (fun d => match d with | .int t => geM l t | _ => false) (fun d => d) (S.map D.int) [] ?_ (by simp; have := hS.len; omega)]
  · rw [List.nil_append, List.map_id', List.filter_map]; rfl
  · intro d m
    obtain ⟨t, ht, rfl⟩ := List.mem_map.mp m
    have hb := hS.bd t ht
    have e := mark_v t h hb.1 hb.2
    by_cases q : l ≤ mk t <;> simp [e, geM, q]
theorem Things.sub {S T : List Int} (h : Things S) (s : ∀ t ∈ T, t ∈ S) (l : T.length ≤ 1000000) : Things T := ⟨fun t m => h.bd t (s t m), l⟩
theorem Things.filter {S : List Int} (h : Things S) (p : Int → Bool) : Things (S.filter p) := h.sub (fun t m => (List.mem_filter.mp m).1) (Nat.le_trans (List.length_filter_le _ _) h.len)
theorem settled_level_v (room : Nat) (h : List LO) (S : List Int) (hS : Things S) (l : Int) (h0 : 0 ≤ l) : F_settled_level [.val (.lst ((S.filter (geM l)).map D.int)), .val (.int l), .val (.int (room : Nat))] h =
    .ret (.val (.tup [.lst ((S.filter (geM (lvl room S 62 l))).map D.int), .int (lvl room S 62 l)])) h := by
  have key : ∀ (n : Nat) (l : Int), 61 - l ≤ n → sWhile C_settled_level_0 B_settled_level_0 ⟨[some (.val (.lst ((S.filter (geM l)).map D.int))), some (.val (.int l)), some (.val (.int (room : Nat))), none], h⟩ =
      .nx ⟨[some (.val (.lst ((S.filter (geM (lvl room S n l))).map D.int))), some (.val (.int (lvl room S n l))), some (.val (.int (room : Nat))), none], h⟩ := by
    intro n
    induction n with
    | zero =>
      intro l hl
      rw [sWhile_eq, lvl]
      unfold C_settled_level_0
      rw [filt_none S (by omega)]
      simp
      intro c; omega
    | succ n ih =>
      intro l hl
      rw [sWhile_eq, lvl]
      by_cases q : room < (S.filter (geM l)).length
      · rw [if_pos q, ← ih (l + 1) (by omega)]
        have c : C_settled_level_0 ⟨[some (.val (.lst ((S.filter (geM l)).map D.int))), some (.val (.int l)), some (.val (.int (room : Nat))), none], h⟩ = .ok true ⟨[some (.val (.lst ((S.filter (geM l)).map D.int))), some (.val (.int l)), some (.val (.int (room : Nat))), none], h⟩ := by
          unfold C_settled_level_0
          simp [q]
        have k := keep_v (S.filter (geM l)) (hS.filter _) (l + 1) (some (.val (.int (room : Nat)))) h
        rw [geM_mono (by omega)] at k
        have b : B_settled_level_0 ⟨[some (.val (.lst ((S.filter (geM l)).map D.int))), some (.val (.int l)), some (.val (.int (room : Nat))), none], h⟩ = .nx ⟨[some (.val (.lst ((S.filter (geM (l + 1))).map D.int))), some (.val (.int (l + 1))), some (.val (.int (room : Nat))), none], h⟩ := by
          unfold B_settled_level_0
          simp [k]
        rw [c]
        simp only [of_ok, if_true, b]
      · rw [if_neg q]
        have c : C_settled_level_0 ⟨[some (.val (.lst ((S.filter (geM l)).map D.int))), some (.val (.int l)), some (.val (.int (room : Nat))), none], h⟩ = .ok false ⟨[some (.val (.lst ((S.filter (geM l)).map D.int))), some (.val (.int l)), some (.val (.int (room : Nat))), none], h⟩ := by
          unfold C_settled_level_0
          simp; omega
        rw [c]
        rfl
  have e := key 62 l (by omega)
  unfold F_settled_level
  simp [fn_s, e]
/-- a Distinct as an object -/
noncomputable def disO (room : Nat) (arr level : Int) (kept : List Int) : LO := .ins 10 [(0, .val (.int (room : Nat))), (15, .val (.int arr)), (16, .val (.int level)), (17, .val (.lst (kept.map D.int)))]
theorem dis_lk (a b c d : FV) : List.lookup 0 [(0, a), (15, b), (16, c), (17, d)] = some a ∧ List.lookup 15 [(0, a), (15, b), (16, c), (17, d)] = some b ∧ List.lookup 16 [(0, a), (15, b), (16, c), (17, d)] = some c ∧ List.lookup 17 [(0, a), (15, b), (16, c), (17, d)] = some d := ⟨rfl, rfl, rfl, rfl⟩
theorem dis_init_v (r : Nat) (room : Nat) (h : List LO) (hr : h[r]? = some (.ins 10 [])) : F_Distinct_init [.val (.obj r), .val (.int (room : Nat))] h = .ret (.val .non) (h.set r (disO room 0 0 [])) := by
  have hs := hset hr
  unfold F_Distinct_init disO
  simp [fn_s, hr, hs]
/-- the things that came -/
noncomputable def addT (S : List Int) (x : Int) : List Int := if x ∈ S then S else S ++ [x]
noncomputable def keptOf (S : List Int) (l : Int) : List Int := (srt S).filter (geM l)
theorem kept_mem {S : List Int} {l x : Int} : x ∈ keptOf S l ↔ x ∈ S ∧ l ≤ mk x := by
  unfold keptOf
  simp [List.mem_filter, geM]
theorem kept_len (S : List Int) (l : Int) : (keptOf S l).length = (S.filter (geM l)).length := ((srt_perm S).filter _).length_eq
theorem srt_filter (S : List Int) (p : Int → Bool) : srt (S.filter p) = (srt S).filter p :=
  (srt_unique ((srt_perm S).filter p) ((srt_sorted S).filter p)).symm
theorem srt_add (S : List Int) (l x : Int) (hx : l ≤ mk x) : srt (keptOf S l ++ [x]) = (srt (S ++ [x])).filter (geM l) := by
  have e : (S ++ [x]).filter (geM l) = S.filter (geM l) ++ [x] := by rw [List.filter_append]; simp [geM, hx]
  rw [← srt_filter, e]
  refine srt_unique ?_ (srt_sorted _)
  refine (srt_perm _).trans ?_
  unfold keptOf
  exact ((srt_perm S).filter _).append_right _
theorem lvl_perm {room : Nat} {S T : List Int} (p : S.Perm T) : ∀ (n : Nat) (l : Int), lvl room S n l = lvl room T n l
  | 0, l => rfl
  | n + 1, l => by
    rw [lvl, lvl, (p.filter _).length_eq, lvl_perm p n]
theorem inD_ints (x : Int) : ∀ xs : List Int, inD (.int x) (xs.map D.int) = decide (x ∈ xs)
  | [] => by simp [inD]
  | y :: xs => by
    have h := inD_ints x xs
    unfold inD at h ⊢
    rw [List.map_cons, List.any_cons, h]
    by_cases c : x = y
    · subst c; simp [deq_int]
    · have c' : y ≠ x := fun e => c e.symm
      simp [deq_int, c, c']
theorem flat_ints : ∀ xs : List Int, (xs.map D.int).all flatD = true
  | [] => rfl
  | y :: xs => by
    have h := flat_ints xs
    rw [List.map_cons, List.all_cons, h]
    rfl
theorem mIn_ints (neg : Bool) (x : Int) (xs : List Int) (st : LS) : mIn neg (.int x) (.lst (xs.map D.int)) st = .ok (.bl (if neg then !decide (x ∈ xs) else decide (x ∈ xs))) st := by
  unfold mIn
  dsimp only
  rw [inD_ints, flat_ints]
  rfl
theorem dis_add_v (r : Nat) (room : Nat) (arr l x : Int) (S : List Int) (h : List LO) (hr : h[r]? = some (disO room arr l (keptOf S l))) (hS : Things (addT S x)) (hl : 0 ≤ l) (hx : 0 ≤ x ∧ x < 1152921504606846976) (hf : (S.filter (geM l)).length ≤ room) :
    F_Distinct_add [.val (.obj r), .val (.int x)] h = .ret (.val .non) (h.set r (disO room (arr + 1) (lvl room (addT S x) 62 l) (keptOf (addT S x) (lvl room (addT S x) 62 l)))) := by
  have em := mark_v x (h.set r (disO room (arr + 1) l (keptOf S l))) hx.1 hx.2
  have hs := hset hr
  have hm := fun neg st => mIn_ints neg x (keptOf S l) st
  by_cases q : l ≤ mk x ∧ x ∉ keptOf S l
  · have nS : x ∉ S := fun m => q.2 (kept_mem.mpr ⟨m, q.1⟩)
    have eS : addT S x = S ++ [x] := by unfold addT; rw [if_neg nS]
    rw [eS] at hS ⊢
    have e1 := srt_add S l x q.1
    have hT : Things (srt (S ++ [x])) := hS.sub (fun t m => by simpa using m) (by rw [srt_length]; exact hS.len)
    have e2 := settled_level_v room (h.set r (disO room (arr + 1) l (keptOf S l))) (srt (S ++ [x])) hT l hl
    rw [lvl_perm (srt_perm (S ++ [x]))] at e2
    have hlen : (keptOf S l).length ≤ 1000000 := by
      rw [kept_len]
      have := hS.len
      have := List.length_filter_le (geM l) S
      simp at *; omega
    unfold F_Distinct_add
    unfold disO at *
    simp [fn_s, hr, hs, dis_lk, em, q.1, hm, q.2, show (keptOf S l).length + 1 ≤ 16777216 by omega]
    have e3 : intsD ((keptOf S l).map D.int ++ [D.int x]) = some (keptOf S l ++ [x]) := by
      have := intsD_map (keptOf S l ++ [x])
      simpa using this
    simp [e3, e1, e2, dis_lk, hs]
    rfl
  · have e : lvl room (addT S x) 62 l = l ∧ keptOf (addT S x) l = keptOf S l := by
      have hk : (addT S x).filter (geM l) = S.filter (geM l) ∨ addT S x = S := by
        by_cases m : x ∈ S
        · right; unfold addT; rw [if_pos m]
        · left
          have : ¬ l ≤ mk x := fun c => q ⟨c, fun m' => m (kept_mem.mp m').1⟩
          unfold addT
          rw [if_neg m, List.filter_append]
          simp [geM, this]
      have hkk : (addT S x).filter (geM l) = S.filter (geM l) := by
        rcases hk with hk | hk
        · exact hk
        · rw [hk]
      refine ⟨?_, ?_⟩
      · rw [lvl, hkk, if_neg (by omega)]
      · unfold keptOf
        rw [← srt_filter, ← srt_filter, hkk]
    rw [e.1, e.2]
    unfold F_Distinct_add
    unfold disO at *
    by_cases q1 : l ≤ mk x
    · have q2 : x ∈ keptOf S l := by
        by_cases c : x ∈ keptOf S l
        · exact c
        · exact absurd ⟨q1, c⟩ q
      simp [fn_s, hr, hs, dis_lk, em, q1, hm, q2]
    · simp [fn_s, hr, hs, dis_lk, em, q1]
theorem addT_nodup {S : List Int} (h : S.Nodup) (x : Int) : (addT S x).Nodup := by
  unfold addT
  by_cases c : x ∈ S
  · rw [if_pos c]; exact h
  · rw [if_neg c, List.nodup_append]
    exact ⟨h, by simp, fun a m b e => by simp at e; subst e; exact fun e => c (e ▸ m)⟩
theorem addT_len (S : List Int) (x : Int) : S.length ≤ (addT S x).length ∧ (addT S x).length ≤ S.length + 1 := by
  unfold addT
  by_cases c : x ∈ S
  · rw [if_pos c]; omega
  · rw [if_neg c]; simp
theorem addT_mem {S : List Int} {x y : Int} (m : y ∈ addT S x) : y ∈ S ∨ y = x := by
  unfold addT at m
  by_cases c : x ∈ S
  · rw [if_pos c] at m; exact .inl m
  · rw [if_neg c] at m; simpa using m
end PX

/-! What holds of a Distinct all along. -/
namespace PX
open PySem PySem.Spec PyProof.Rows L2 PL
structure DInv (room : Nat) (l : Int) (S : List Int) (n : Nat) : Prop where
  l0 : 0 ≤ l
  l1 : l ≤ 61
  nd : S.Nodup
  th : ∀ t ∈ S, 0 ≤ t ∧ t < 1152921504606846976
  len : S.length ≤ n
  fit : (S.filter (geM l)).length ≤ room
  low : ∀ j, 0 ≤ j → j < l → room < (S.filter (geM j)).length
theorem DInv.zero (room : Nat) : DInv room 0 [] 0 := ⟨by decide, by decide, List.nodup_nil, by simp, by simp, by simp, fun j a b => by omega⟩
theorem addT_filter (S : List Int) (x j : Int) : (S.filter (geM j)).length ≤ ((addT S x).filter (geM j)).length := by
  unfold addT
  split
  · exact Nat.le_refl _
  · rw [List.filter_append, List.length_append]; omega
theorem DInv.add {room : Nat} {l x : Int} {S : List Int} {n : Nat} (iv : DInv room l S n) (hx : 0 ≤ x ∧ x < 1152921504606846976) : DInv room (lvl room (addT S x) 62 l) (addT S x) (n + 1) := by
  obtain ⟨s1, s2, s3, s4⟩ := lvl_spec room (addT S x) 62 l (by have := iv.l0; omega)
  have al := addT_len S x
  refine ⟨by have := iv.l0; omega, s4 iv.l1, addT_nodup iv.nd x, fun t m => ?_, by have := iv.len; omega, s2, fun j h0 h1 => ?_⟩
  · rcases addT_mem m with m | rfl
    · exact iv.th t m
    · exact hx
  · by_cases c : j < l
    · have := iv.low j h0 c
      have := addT_filter S x j
      omega
    · exact s3 j (by omega) h1
theorem lvl_from {room : Nat} {T : List Int} {l : Int} (h0 : 0 ≤ l) (h : ∀ j, 0 ≤ j → j < l → room < (T.filter (geM j)).length) : lvl room T 62 l = lvl room T 62 0 := by
  obtain ⟨a1, a2, a3, _⟩ := lvl_spec room T 62 l (by omega)
  obtain ⟨b1, b2, b3, _⟩ := lvl_spec room T 62 0 (by omega)
  rcases Int.lt_trichotomy (lvl room T 62 l) (lvl room T 62 0) with c | c | c
  · have := b3 _ (by omega) c; omega
  · exact c
  · by_cases d : lvl room T 62 0 < l
    · have := h _ b1 d; omega
    · have := a3 _ (by omega) c; omega
theorem DInv.eq {room : Nat} {l : Int} {S : List Int} {n : Nat} (iv : DInv room l S n) : lvl room S 62 0 = l := by
  rw [← lvl_from iv.l0 iv.low, lvl, if_neg (by have := iv.fit; omega)]
end PX

/-! PyLite, part zh: calls of no arguments; sorted(set(xs)); ranges with a step. -/
namespace PLS
open PySem PySem.Spec PyProof.Rows L2
noncomputable abbrev sob (w : World) : Obj := { cls := .type "set", dict := none, data := .set #[] 0 (.fresh 0 0 (!w.params.followText "set-order")) }
section
variable {prog : Program} {w : World} {A : Around} {E : Value → Shared → Prop} {s : Shared}
set_option maxHeartbeats 3200000 in
/-- set(xs), xs a list of ints -/
theorem set_list {l : Addr} {xs : Array Value} (ms : List Int) {Q : Value → Shared → Prop} (un : A.handled = none) (il : s.heap.IsList l xs) (ia : IntsAre xs.toList ms) (sb : ms.length + 1 < scanBound)
    (kq : ∀ (h2 : Heap) (t2 m : Nat), SetR w h2 s.heap.objs.size (fun j => decide (j ∈ ms)) m → m ≤ ms.length → (∀ b u, s.heap.get? b = some u → h2.get? b = some u) → Q (.ref s.heap.objs.size) { s with heap := h2, toks := t2 }) :
    wpAny (model prog w) A (call (.type "set") [.ref l]) Q E s := by
  have xl : xs.size = ms.length := by have z := IntsAre.length ia; rwa [Array.length_toList] at z
  obtain ⟨c0, r0, m0⟩ := F.called_set.mro
  have f1 := F.called_set.made; have f2 := F.called_set.sub; have f3 := F.called_set.notType; have f4 := F.called_set.canCreate; have f5 := F.typeCall_set_1 (.ref l)
  refine wpAny_call (codeAny_of_tree (wpAny_pure ⟨Code.quiet_builtin _ (by decide +kernel), codeAny_builtin F.entry_type_call ?_⟩))
  rw [Around.under_plain (weight_type_call_type "set" [.ref l] []) rfl]
  repeat (any_goals (first | assumption | wp_step))
  refine codeAny_mono (code_set_led1 (.ref l) (E := E) (Q₁ := fun x u => x = .ref s.heap.objs.size ∧ u = { s with heap := s.heap.push (sob w) }) ⟨rfl, rfl⟩) fun z u hz => ?_
  match z, hz with
  | .error _, hz => exact hz
  | .ok (.ret y), hz =>
    obtain ⟨e1, e2⟩ := hz
    subst e1 e2
    have g1 : (s.heap.push (sob w)).get? s.heap.objs.size = some (sob w) := Heap.get?_push_size _ rfl
    have ty : Shared.TypeIs { s with heap := s.heap.push (sob w) } (.ref s.heap.objs.size) "set" := ⟨_, g1, rfl⟩
    have b1 := F.called_set.init.lookup; have b2 := F.called_set.init.bind (.ref s.heap.objs.size)
    repeat (any_goals (first | assumption | wp_step))
    refine codeAny_mono (codeAny_call_builtin (R := wants (fun y u => y = .none ∧ ∃ h2 t2 m, u = { s with heap := h2, toks := t2 } ∧ SetR w h2 s.heap.objs.size (fun j => decide (j ∈ ms)) m ∧ m ≤ ms.length ∧ ∀ b x, s.heap.get? b = some x → h2.get? b = some x) E) F.called_set.init.plain F.entry_set_init (check_set_init_1 ty ?_)) fun y2 u2 h2 => ?_
    · obtain ⟨⟨oc, od, odt, osl⟩, go, q1, q2, q3⟩ := il
      simp only at q1 q3; subst q1 q3
      have go1 := Heap.get?_push_of_some (sob w) go
      have s1 := F.sub_list_set; have s2 := F.sub_list_frozenset; have s3 : (Value.type "list" == Value.type "dict") = false := by decide
      have il1 : (s.heap.push (sob w)).IsList l xs := ⟨_, go1, rfl, q2, rfl⟩
      have sz1 : (s.heap.push (sob w)).objs.size = s.heap.objs.size + 1 := Heap.size_push ..
      have ll := Heap.lt_size go
      unfold Builtin.«set.__init__» noKeywords Builtin.Frozenset.updateFrom
      generalize hp : pyIter = PP
      wp_walk
      subst hp
      refine wpAny_pyIter_list il1 (wpAny_bind (wpAny_runValue ?_))
      have gv : ∀ (i : Nat) (v : Value), xs[i]? = some v → ∃ k t, ms[i]? = some k ∧ v = .int k t := fun i v e => by
        have il : i < ms.length := by rw [← xl]; exact (Array.getElem?_eq_some_iff.mp e).1
        obtain ⟨t, et⟩ := PyProof.Rows.IntsAre.int_at ia i v (by rw [Array.getElem?_toList]; exact e)
        exact ⟨ms[i], t, List.getElem?_eq_getElem il, by rw [et, List.getD_eq_getElem?_getD, List.getElem?_eq_getElem il] <;> rfl⟩
      refine set_update_ints ((Walks.list (by simp [un]) (s.heap.push (sob w)).objs.size l (by rw [sz1]; exact Nat.ne_of_lt (Nat.lt_succ_of_lt ll)) xs).toS) s.heap.objs.size (by rw [sz1]; simp only [List.mem_cons, List.not_mem_nil, or_false, not_or]; exact ⟨Nat.ne_of_lt (Nat.lt_succ_self _), Nat.ne_of_gt ll⟩) ms xl sb gv (xs.size - 0) 0 _ (by omega) (Nat.zero_le _)
        ⟨⟨_, Heap.get?_push_size _ rfl, rfl, rfl⟩, il1.push _⟩ ⟨0, Nat.le_refl 0, setR_new_at (Heap.get?_push_of_some _ g1)⟩ fun u3 m3 mv c3 R3 => ?_
      obtain ⟨h3, gn, dr, t3, o3⟩ := u3
      obtain rfl : gn = s.gens := mv.gens; obtain rfl : dr = s.drawn := mv.drawn; obtain rfl : o3 = s.os := mv.os
      rw [xl] at c3
      refine wpAny_pure (show wpAny _ _ (ret Value.none) _ _ _ from wpAny_pure ⟨rfl, h3, t3, m3, rfl, R3, c3, fun b x e => ?_⟩)
      have bl := Heap.lt_size e
      exact mv.heap b x (by rw [sz1]; simp only [List.mem_cons, List.not_mem_nil, or_false, not_or]; exact ⟨Nat.ne_of_lt bl, Nat.ne_of_lt (Nat.lt_succ_of_lt bl)⟩) (Heap.get?_push_of_some _ (Heap.get?_push_of_some _ e))
    · match y2, h2 with
      | .error _, h2 => exact h2
      | .ok (.ret _), h2 =>
        obtain ⟨e1, h3, t3, m3, e2, R3, c3, kk⟩ := h2
        subst e1 e2
        repeat (any_goals (first | assumption | wp_step))
        exact kq _ _ _ R3 c3 kk
/-- sorted of a set of ints -/
theorem sorted_of_set {a : Addr} {S : Int → Bool} {m : Nat} {Q : Value → Shared → Prop} (R : SetR w s.heap a S m) (un : A.handled = none)
    (kq : ∀ u p (out : Array Value) (c : Nat) (ms : List Int), (∀ b x, s.heap.get? b = some x → u.heap.get? b = some x) → u.gens = s.gens → u.os = s.os → s.heap.objs.size ≤ p →
      u.heap.get? p = some (seqObj "list" out c) → IntsAre out.toList ms → ms.Pairwise (· < ·) → (∀ k, k ∈ ms ↔ S k = true) → ms.length = m → Q (.ref p) u) :
    wpAny (model prog w) A (call (.builtin "sorted") [.ref a]) Q E s := by
  obtain ⟨o, es, ep, t, go, ex, dt, gd, nd, mm, sb, ft, el, ri, ld⟩ := R
  refine Calls.call_function_entry kind_sorted plain_sorted entry_sorted (args_sorted1 _) ?_
  unfold Builtin.«sorted»
  refine wpAny_bind (m := checkCount "sorted" 1 1 _) (wpAny_pure (wpAny_bind (collect_set (A := A.in1) un ⟨o, go, ex.1, dt⟩ ft sb ri ld fun u vs k1 k2 k3 k4 pm => ?_)))
  have vl : vs.length = m := by rw [pm.length_eq, List.length_map, Array.length_toList]; exact el
  have vi : IntsAre vs (vs.map Builtin.Re.reRawOf) := ints_of vs fun v mv => by
    obtain ⟨e, me, q⟩ := List.mem_map.mp (pm.mem_iff.mp mv)
    obtain ⟨k, tk, z, _⟩ := gd e me
    exact ⟨k, tk, by rw [← q]; exact z⟩
  have pk := pm.map Builtin.Re.reRawOf
  rw [List.map_map] at pk
  have pk : (vs.map Builtin.Re.reRawOf).Perm (es.toList.map keyOf) := pk
  have lz : vs.length ≤ sizeLine := by rw [vl, ← el, sizeLine_eq]; unfold scanBound at sb; omega
  refine wpAny_bind (wpAny_newList ?_ lz)
  have gl : (u.heap.push (seqObj "list" vs.toArray 0)).get? u.heap.objs.size = some (seqObj "list" vs.toArray 0) := Heap.get?_push_size _ rfl
  refine wpAny_bind (wpAny_holding (wpAny_call_entry_kw slot_list_sort ⟨_, gl, rfl⟩ entry_list_sort ?_ (PySem.F.args_list_sort_1 _)))
  rw [PLR.sort_nokw]
  refine SrtR.list_sort_ordR SrtO.swo_int gl lz (fun h2 => SrtO.ints_sortable vi h2) fun out hs hb => ⟨_, rfl, ?_⟩
  obtain ⟨ms, q1, q2, q3⟩ := SrtR.ints_outR vi hs hb
  obtain ⟨c, gc⟩ := sortedHeap_at (out := if (false : Bool) = true then out.toArray.reverse else out.toArray) gl
  have pn := q2.trans pk
  have od : ms.Pairwise (· ≤ ·) := by simpa [Ordered] using q3
  refine wpAny_pure ⟨_, rfl, kq _ u.heap.objs.size _ c ms (fun b x e => ?_) k3 k4 k2 gc q1 (lt_of_le_nodup ms od (pn.nodup_iff.mpr nd)) (fun k => by rw [pn.mem_iff, ← mm k]) (by rw [pn.length_eq, List.length_map, Array.length_toList]; exact el)⟩
  have e2 := k1 b x e
  have lt := Heap.lt_size e2
  rw [sortedHeap_old (Nat.ne_of_lt lt) (Nat.lt_of_lt_of_le lt (by rw [Heap.size_push]; exact Nat.le_succ _))]
  exact Heap.get?_push_of_some _ e2
end
end PLS
namespace PLS
open PySem PySem.Spec PyProof.Rows L2
/-- an object that is the set of the ints ms -/
noncomputable def setO (w : World) (a : Addr) (ms : List Int) (m : Nat) : HO := .ext fun h => SetR w h a (fun j => decide (j ∈ ms)) m
section
variable {X : Cx}
theorem cr_setL (hc : X.calm = true) : CallR X (.type "set") (fun vs H Q => ∃ (a : Addr) (ms : List Int), vs = [V.ref a] ∧ SqL X.K H a (ms.map V.int) ∧ ms.length ≤ 4000 ∧ ∀ (p : Addr) (m : Nat), m ≤ ms.length → H p = none → Q (.ref p) (upd H p (setO X.w p ms m))) := by
  intro pins s σ H vs us Q I r h
  obtain ⟨a, ms, rfl, hs, hl, q⟩ := h
  obtain ⟨its, rv, il, hz⟩ := I.list hs
  rw [Vals.ref1 r]
  refine set_list ms (I.ok.hd hc) il.isList (by simpa using rv.ints) (by unfold scanBound; omega) fun h2 t2 m R lm kk => ?_
  refine ⟨.ref s.heap.objs.size, upd H s.heap.objs.size (setO X.w s.heap.objs.size ms m), I.laid (t' := t2) kk (Nat.le_refl _) ⟨R, ?_, fun h1 h3 x k => SetR.at x k⟩, rfl, q _ m lm (I.hok.fresh (Nat.le_refl _))⟩
  obtain ⟨o, es, ep, t, go, _⟩ := R
  exact ⟨o, go⟩
theorem cr_sortedSet (hc : X.calm = true) : CallR X (.builtin "sorted") (fun vs H Q => ∃ (a : Addr) (ms : List Int) (m : Nat), vs = [V.ref a] ∧ H a = some (setO X.w a ms m) ∧ m ≤ 4000 ∧ ∀ (ns : List Int) (p : Addr), ns.Pairwise (· < ·) → (∀ k, k ∈ ns ↔ k ∈ ms) → H p = none → Q (.ref p) (upd H p (.lst (ns.map V.int)))) := by
  intro pins s σ H vs us Q I r h
  obtain ⟨a, ms, m, rfl, ha, hm, q⟩ := h
  obtain rfl := Vals.ref1 r
  have R : SetR X.w s.heap a (fun j => decide (j ∈ ms)) m := (show ObjOk X.prog X.w H s.heap a (setO X.w a ms m) from I.hok a _ ha).1
  refine sorted_of_set R (I.ok.hd hc) fun u p out c ns k1 k2 k3 k4 k5 k6 k7 k8 k9 => ?_
  have new : ObjOk X.prog X.w (upd H p (.lst (ns.map V.int))) u.heap p (.lst (ns.map V.int)) := ⟨by rw [List.length_map, k9, sizeLine_eq]; omega, out.toList, c, vals_of_ints k6, by rw [Array.toArray_toList]; exact k5⟩
  exact ⟨.ref p, upd H p (.lst (ns.map V.int)), I.call' (ch := []) k3 (Un.laid k1 k4 (I.hok.fresh k4)) (I.hok.laid k1 k4 new) (by rw [k2]; exact I.bare) (fun _ z => nomatch z), rfl, q ns p k7 (fun k => by rw [k8, decide_eq_true_eq]) (I.hok.fresh k4)⟩
end
end PLS
namespace PL
open PySem PySem.Spec PyProof.Rows L2
section
variable {Γ : Tab} {W : WX} {Z : Hp} {Lt : Lend} {g g' : GM} {st st' : LS} {σ σ' : L2.St} {H H' : Hp} {h h' : List LO} {a p : Addr} {o : HO} {d : D} {v : V} {X : Cx} {e e1 e2 e3 : Expr} {es : List Expr} {f k l : E D} {pos pos2 ppos apos : Pos}
/-! ### calls of no arguments -/
theorem dcall0 {F : Fn} {n kk : Nat} {x : Str} (Df : DefF Γ X.prog X.w X.mg X.base kk x n F) (hK : X.K = Γ.K) (tk : Takes X W) (hr : Room kk X.A) (hn : n = 0) (hg : Gl X x := by rfl) (hdb : (x == ("__debug__" : Str)) = false := by decide) :
    PD Γ W X (.Call (.Name x ppos) [] [] pos) (eCall F aNil) := by
  obtain ⟨fa, fd, ps, Fo, hm, hk, hb⟩ := Df.ex
  rw [← hK] at Fo hk hb
  have key : PE X (.Call (.Name x ppos) [] [] pos) (tCallS (spF Γ n F) (WE W) tNil) := ⟨fun pins s σ H Q I h => wpAny_Call_Name_kw (ld_glob I hg hm (PySem.W.callWith_K0 I.kIn hk (run_fnS (us := []) Fo hr hb (passAt tk σ) I .nil h)) hdb)⟩
  refine ⟨key.csq fun σ H Q ⟨Z, Lt, g, st, s, h⟩ => ?_⟩
  have h2 := Go.bind h
  unfold aNil at h2
  exact call_sp (fs := []) (vs := []) s rfl (by rw [hn]; rfl) (h2 g H s (GT.refl _ _))
/-! ### sorted(set(xs)) -/
noncomputable def uniq : List Int → List Int
  | [] => []
  | x :: r => x :: (uniq r).filter fun y => decide (y ≠ x)
theorem uniq_mem : ∀ {ns : List Int} {x : Int}, x ∈ uniq ns ↔ x ∈ ns
  | [], x => by simp [uniq]
  | y :: r, x => by
    have ih := uniq_mem (ns := r) (x := x)
    rw [uniq, List.mem_cons, List.mem_cons, List.mem_filter, ih]
    by_cases c : x = y <;> simp [c]
theorem uniq_nodup : ∀ ns : List Int, (uniq ns).Nodup
  | [] => List.nodup_nil
  | y :: r => by
    rw [uniq, List.nodup_cons]
    exact ⟨by simp, (uniq_nodup r).filter _⟩
theorem uniq_len : ∀ ns : List Int, (uniq ns).length ≤ ns.length
  | [] => Nat.le_refl _
  | y :: r => by
    have := uniq_len r
    have := List.length_filter_le (fun z => decide (z ≠ y)) (uniq r)
    rw [uniq, List.length_cons, List.length_cons]
    omega
/-- sorted, each once -/
noncomputable def srtU (ns : List Int) : List Int := srt (uniq ns)
theorem srtU_mem {ns : List Int} {x : Int} : x ∈ srtU ns ↔ x ∈ ns := by unfold srtU; rw [mem_srt, uniq_mem]
theorem srtU_up (ns : List Int) : (srtU ns).Pairwise (· < ·) := by
  have h1 : (srtU ns).Pairwise (· ≤ ·) := srt_sorted _
  have h2 : (srtU ns).Nodup := (srt_perm _).nodup_iff.mpr (uniq_nodup ns)
  exact (h1.and h2).imp fun {a b} h => by have := h.1; have := h.2; omega
theorem srtU_len (ns : List Int) : (srtU ns).length ≤ ns.length := by unfold srtU; rw [srt_length]; exact uniq_len ns
theorem up_unique : ∀ {a b : List Int}, a.Pairwise (· < ·) → b.Pairwise (· < ·) → (∀ x, x ∈ a ↔ x ∈ b) → a = b
  | [], [], _, _, _ => rfl
  | [], y :: b, _, _, h => absurd ((h y).mpr (by simp)) (by simp)
  | x :: a, [], _, _, h => absurd ((h x).mp (by simp)) (by simp)
  | x :: a, y :: b, ha, hb, h => by
    rw [List.pairwise_cons] at ha hb
    have e : x = y := by
      rcases List.mem_cons.mp ((h x).mp (by simp)) with c | c
      · exact c
      · rcases List.mem_cons.mp ((h y).mpr (by simp)) with c2 | c2
        · exact c2.symm
        · have := hb.1 x c; have := ha.1 y c2; omega
    subst e
    rw [up_unique ha.2 hb.2 fun z => ?_]
    have hz := h z
    rw [List.mem_cons, List.mem_cons] at hz
    constructor
    · intro m
      have := ha.1 z m
      rcases hz.mp (.inr m) with c | c
      · omega
      · exact c
    · intro m
      have := hb.1 z m
      rcases hz.mpr (.inr m) with c | c
      · omega
      · exact c
noncomputable def mSortSet : Sem1 := fun x st => match x with
  | .lst ds => match intsD ds with
    | some ns => if ns.length ≤ 4000 then .ok (.lst ((srtU ns).map D.int)) st else .bad
    | none => .bad
  | _ => .bad
@[simp] theorem mSortSet_l (ds : List D) : mSortSet (.lst ds) st = match intsD ds with
    | some ns => if ns.length ≤ 4000 then .ok (.lst ((srtU ns).map D.int)) st else .bad
    | none => .bad := id rfl
theorem pf_sortSet (hK : X.K = Γ.K) (hc : X.calm = true) (hg : Gl X "sorted") (hn : X.mg "sorted" = none) (hg2 : Gl X "set") (hn2 : X.mg "set" = none) (y : PC Γ W X e f) {spos cpos : Pos}
    (hs : starEach [e] X.env = (false, eval e X.env) :: starEach [] X.env := by rfl) (hpl : (backTo cpos (starEach [] X.env)).any (·.1) = false := by rfl)
    (hs2 : starEach [.Call (.Name "set" spos) [e] [] cpos] X.env = (false, eval (.Call (.Name "set" spos) [e] [] cpos) X.env) :: starEach [] X.env := by rfl) (hpl2 : (backTo pos (starEach [] X.env)).any (·.1) = false := by rfl) :
    PF Γ W X (.Call (.Name "sorted" ppos) [.Call (.Name "set" spos) [e] [] cpos] [] pos) (eUn mSortSet f) := by
  refine ⟨(pe_callB (PLS.cr_sortedSet hc) hg hn (by decide +kernel) (pa_cons (pe_callTy (PLS.cr_setL hc) hg2 hn2 PyProof.Rows.boot_set (pa_cons y.pe pa_nil hs) (by decide) (by decide) hs hpl) pa_nil hs2) (by decide) (by decide) hs2 hpl2).csq fun σ H Q ⟨Z, Lt, g, st, s, h⟩ => ⟨Z, Lt, g, st, s, (Go.bind h).imp fun d g1 st1 H1 s1 t1 k1 v r => ?_⟩⟩
  have h := k1 g1 H1 s1 (GT.refl _ _)
  unfold mSortSet at h
  split at h
  · split at h
    · rename_i ds ns en
      split at h
      · rename_i hl
        rw [intsD_eq en] at r
        obtain ⟨b, rfl, q⟩ := r.ints s1
        refine ⟨b, ns, rfl, by rw [hK]; exact q, hl, fun p m hm n => ⟨p, ns, m, rfl, upd_same, by omega, fun ms q2 m1 m2 n2 => ?_⟩⟩
        obtain ⟨s2, t2⟩ := s1.view n (PLS.setO X.w p ns m)
        rw [up_unique m1 (srtU_up ns) fun k => by rw [m2, srtU_mem]]
        exact retF (W := W) s2 (RDs.ofInts _) (fun g3 H3 s3 t3 => h g3 H3 s3 (t2.trans t3)) q2 n2
      · exact h.elim
    · exact h.elim
  · exact h.elim
/-! ### ranges with a step -/
instance (i j c : Int) (n : Nat) : Decidable (RgC i j c n) := by unfold RgC; exact inferInstance
end
end PL
namespace PL
open PySem PySem.Spec PyProof.Rows L2
section
variable {Γ : Tab} {W : WX} {X : Cx} {pos ppos : Pos}
end
end PL

namespace PX
open PySem PySem.Spec PyProof.Rows L2 PL
@[irreducible] noncomputable def F_poured_distinct : Fn := fn 8 <|
  sSeq (sIf (tst (eBin mNe (vFld 0 (eVar 0)) (vFld 0 (eVar 1)))) (sRaise 1) (sNx)) <|
  sSeq (sSet 2 (eMake 2 10 PX.F_Distinct_init (aCons (aF 0 (eVar 0)) (aNil)))) <|
  sSeq (sFld 15 [10] (eVar 2) (eBin mAdd (vFld 15 (eVar 0)) (vFld 15 (eVar 1)))) <|
  sSeq (sSet 3 (eBin mMax (vFld 16 (eVar 0)) (vFld 16 (eVar 1)))) <|
  sSeq (sSet 4 (eLc [5] (iVal (eUn mSortSet (eBin mAdd (vFld 17 (eVar 0)) (vFld 17 (eVar 1))))) (tgN 5) (tst (eBin mGe (eCall PX.F_mark (aCons (aL 5) (aNil))) (vVar 3))) (eVar 5))) <|
  sSeq (sUnT [6, 7] (eCall PX.F_settled_level (aCons (aL 4) (aCons (aL 3) (aCons (aF 0 (eVar 2)) (aNil)))))) <|
  sSeq (sFld 17 [10] (eVar 2) (eVar 6)) <|
  sSeq (sFld 16 [10] (eVar 2) (eVar 7)) <|
  sRet (eVar 2)
end PX

/-! Many objects made at once; lists of them. -/
namespace PX
open PySem PySem.Spec PyProof.Rows L2 PL
/-- ixD at a place from the left -/
theorem ixD_nat {n p : Nat} (h : p < n) : ixD n (p : Int) = some p := by unfold ixD; rw [if_pos (by omega), if_pos (by omega)]; simp
theorem mem_range {lo : Int} {n : Nat} {d : D} (m : d ∈ rangeD lo n) : ∃ i : Nat, i < n ∧ d = .int (lo + (i : Int)) := by
  unfold rangeD at m
  obtain ⟨i, mi, rfl⟩ := List.mem_map.mp m
  exact ⟨i, by simpa using mi, rfl⟩
end PX

/-! A Distinct by the things that came; two poured together. -/
namespace PX
open PySem PySem.Spec PyProof.Rows L2 PL
/-- the level of what came -/
noncomputable def lv (room : Nat) (S : List Int) : Int := lvl room S 62 0
noncomputable def disS (room : Nat) (S : List Int) (arr : Int) : LO := disO room arr (lv room S) (keptOf S (lv room S))
/-- things, each once -/
structure Th (S : List Int) : Prop where
  nd : S.Nodup
  bd : ∀ t ∈ S, 0 ≤ t ∧ t < 1152921504606846976
  len : S.length ≤ 100000
theorem Th.nil : Th [] := ⟨List.nodup_nil, by simp, by simp⟩
theorem Th.add {S : List Int} (h : Th S) {x : Int} (hx : 0 ≤ x ∧ x < 1152921504606846976) (hl : S.length < 100000) : Th (addT S x) :=
  ⟨addT_nodup h.nd x, fun t m => by rcases addT_mem m with m | rfl; exact h.bd t m; exact hx, by have := (addT_len S x).2; omega⟩
theorem Th.things {S : List Int} (h : Th S) : Things S := ⟨h.bd, by have := h.len; omega⟩
theorem lv_spec (room : Nat) (S : List Int) : 0 ≤ lv room S ∧ lv room S ≤ 61 ∧ (S.filter (geM (lv room S))).length ≤ room ∧ (∀ j, 0 ≤ j → j < lv room S → room < (S.filter (geM j)).length) := by
  obtain ⟨a, b, c, d⟩ := lvl_spec room S 62 0 (by omega)
  exact ⟨a, d (by omega), b, c⟩
theorem lv_nil (room : Nat) : lv room [] = 0 := by unfold lv; rw [lvl]; simp
theorem dis_new_v (r room : Nat) (h : List LO) (hr : h[r]? = some (.ins 10 [])) : F_Distinct_init [.val (.obj r), .val (.int (room : Nat))] h = .ret (.val .non) (h.set r (disS room [] 0)) := by
  have e := dis_init_v r room h hr
  have k : keptOf [] 0 = [] := by
    have z : srt [] = [] := List.length_eq_zero_iff.mp (srt_length [])
    unfold keptOf
    rw [z]; rfl
  unfold disS
  rw [lv_nil, k]
  exact e
theorem disS_add_v (r room : Nat) (arr x : Int) (S : List Int) (h : List LO) (hr : h[r]? = some (disS room S arr)) (hS : Th S) (hl : S.length < 100000) (hx : 0 ≤ x ∧ x < 1152921504606846976) :
    F_Distinct_add [.val (.obj r), .val (.int x)] h = .ret (.val .non) (h.set r (disS room (addT S x) (arr + 1))) := by
  obtain ⟨a, b, c, d⟩ := lv_spec room S
  have e := dis_add_v r room arr (lv room S) x S h hr (hS.add hx hl).things a hx c
  have e2 : lvl room (addT S x) 62 (lv room S) = lv room (addT S x) := lvl_from a fun j h0 h1 => by
    have := d j h0 h1
    have := addT_filter S x j
    omega
  rw [e2] at e
  exact e
theorem same_perm {S T : List Int} (a : S.Nodup) (b : T.Nodup) (h : ∀ x, x ∈ S ↔ x ∈ T) : S.Perm T := by
  have e : srtU S = srtU T := up_unique (srtU_up S) (srtU_up T) fun x => by rw [srtU_mem, srtU_mem, h]
  have p : ∀ {L : List Int}, L.Nodup → (srtU L).Perm L := fun {L} nd => by
    have u : ∀ {L : List Int}, L.Nodup → uniq L = L := fun {L} nd => by
      induction L with
      | nil => rfl
      | cons x L ih =>
        rw [List.nodup_cons] at nd
        rw [uniq, ih nd.2, List.filter_eq_self.mpr]
        intro y m
        have : y ≠ x := fun e => nd.1 (e ▸ m)
        simp [this]
    unfold srtU
    rw [u nd]
    exact srt_perm L
  exact (p a).symm.trans (e ▸ p b)
theorem disS_congr {room : Nat} {S T : List Int} {arr : Int} (a : S.Nodup) (b : T.Nodup) (h : ∀ x, x ∈ S ↔ x ∈ T) : disS room S arr = disS room T arr := by
  have p := same_perm a b h
  have e1 : lv room S = lv room T := lvl_perm p 62 0
  have e2 : srt S = srt T := srt_unique ((srt_perm S).trans p) (srt_sorted S)
  unfold disS keptOf
  rw [e1, e2]
/-- all things of both -/
noncomputable def unT (S T : List Int) : List Int := S ++ T.filter fun t => decide (t ∉ S)
theorem unT_mem {S T : List Int} {x : Int} : x ∈ unT S T ↔ x ∈ S ∨ x ∈ T := by
  unfold unT
  rw [List.mem_append, List.mem_filter, decide_eq_true_eq]
  by_cases c : x ∈ S <;> simp [c]
theorem unT_nodup {S T : List Int} (a : S.Nodup) (b : T.Nodup) : (unT S T).Nodup := by
  unfold unT
  rw [List.nodup_append]
  refine ⟨a, b.filter _, fun x m y n e => ?_⟩
  subst e
  rw [List.mem_filter, decide_eq_true_eq] at n
  exact n.2 m
theorem unT_len (S T : List Int) : (unT S T).length ≤ S.length + T.length := by
  unfold unT
  have := List.length_filter_le (fun t => decide (t ∉ S)) T
  rw [List.length_append]; omega
theorem Th.un {S T : List Int} (a : Th S) (b : Th T) (h : S.length + T.length ≤ 100000) : Th (unT S T) :=
  ⟨unT_nodup a.nd b.nd, fun t m => by rcases unT_mem.mp m with m | m; exact a.bd t m; exact b.bd t m, by have := unT_len S T; omega⟩
theorem kept_up {S : List Int} (nd : S.Nodup) (l : Int) : (keptOf S l).Pairwise (· < ·) := by
  unfold keptOf
  refine List.Pairwise.filter _ ?_
  have h1 : (srt S).Pairwise (· ≤ ·) := srt_sorted _
  have h2 : (srt S).Nodup := (srt_perm _).nodup_iff.mpr nd
  exact (h1.and h2).imp fun {a b} h => by have := h.1; have := h.2; omega
theorem filt_sub {S T : List Int} (nd : S.Nodup) (h : ∀ x ∈ S, x ∈ T) (p : Int → Bool) : (S.filter p).length ≤ (T.filter p).length := by
  have nd2 : (S.filter p).Nodup := nd.filter _
  have sub : ∀ x ∈ S.filter p, x ∈ T.filter p := fun x m => by
    rw [List.mem_filter] at m ⊢
    exact ⟨h x m.1, m.2⟩
  generalize S.filter p = A at *
  generalize T.filter p = B at *
  induction A generalizing B with
  | nil => simp
  | cons x A ih =>
    rw [List.nodup_cons] at nd2
    have mx := sub x (by simp)
    have := ih nd2.2 (B.erase x) fun y m => by
      have ne : y ≠ x := fun e => nd2.1 (e ▸ m)
      exact (List.mem_erase_of_ne ne).mpr (sub y (by simp [m]))
    rw [List.length_erase_of_mem mx] at this
    have : 0 < B.length := List.length_pos_of_mem mx
    simp; omega
theorem dis_pour_v (r1 r2 room : Nat) (a b : Int) (S T : List Int) (h : List LO) (h1 : h[r1]? = some (disS room S a)) (h2 : h[r2]? = some (disS room T b)) (hS : Th S) (hT : Th T) (hl : S.length + T.length ≤ 4000) :
    F_poured_distinct [.val (.obj r1), .val (.obj r2)] h = .ret (.val (.obj h.length)) (h ++ [disS room (unT S T) (a + b)]) := by
  have ei := dis_new_v h.length room (h ++ [.ins 10 []]) (happ _ _)
  rw [hset_end] at ei
  obtain ⟨s0, s1, s2, s3⟩ := lv_spec room S
  obtain ⟨t0, t1, t2, t3⟩ := lv_spec room T
  have hU := hS.un hT (by omega)
  obtain ⟨M, mx, m0, ss, mc⟩ : ∃ M, (if lv room S < lv room T then lv room T else lv room S) = M ∧ 0 ≤ M ∧ (lv room S ≤ M ∧ lv room T ≤ M) ∧ (M = lv room S ∨ M = lv room T) := by
    refine ⟨_, rfl, ?_, ?_, ?_⟩
    · split <;> omega
    · split <;> omega
    · split
      · exact .inr rfl
      · exact .inl rfl
  have lf : lvl room (unT S T) 62 M = lv room (unT S T) := lvl_from m0 fun j j0 j1 => by
    rcases mc with rfl | rfl
    · have := s3 j j0 j1
      have := filt_sub hS.nd (fun x m => unT_mem.mpr (.inl m)) (geM j) (T := unT S T)
      omega
    · have := t3 j j0 j1
      have := filt_sub hT.nd (fun x m => unT_mem.mpr (.inr m)) (geM j) (T := unT S T)
      omega
  have both : (srtU (keptOf S (lv room S) ++ keptOf T (lv room T))).filter (geM M) = keptOf (unT S T) M := by
    refine up_unique ((srtU_up _).filter _) (kept_up hU.nd _) fun x => ?_
    rw [List.mem_filter, srtU_mem, List.mem_append, kept_mem, kept_mem, kept_mem, unT_mem]
    unfold geM
    rw [decide_eq_true_eq]
    constructor
    · rintro ⟨⟨m, _⟩ | ⟨m, _⟩, q⟩
      · exact ⟨.inl m, q⟩
      · exact ⟨.inr m, q⟩
    · rintro ⟨m | m, q⟩
      · exact ⟨.inl ⟨m, by omega⟩, q⟩
      · exact ⟨.inr ⟨m, by omega⟩, q⟩
  have hk : keptOf (unT S T) M = (srt (unT S T)).filter (geM M) := rfl
  have hTs : Things (srt (unT S T)) := hU.things.sub (fun t m => mem_srt.mp m) (by rw [srt_length]; exact hU.things.len)
  have es := fun h => settled_level_v room h (srt (unT S T)) hTs M m0
  rw [lvl_perm (srt_perm (unT S T)), lf, ← hk] at es
  have hk2 : (srt (unT S T)).filter (geM (lv room (unT S T))) = keptOf (unT S T) (lv room (unT S T)) := rfl
  rw [hk2] at es
  have kl1 : (keptOf S (lv room S)).length ≤ 4000 := by
    have := List.length_filter_le (geM (lv room S)) (srt S)
    rw [srt_length] at this
    unfold keptOf; omega
  have kl2 : (keptOf S (lv room S)).length + (keptOf T (lv room T)).length ≤ 4000 := by
    have h1 := List.length_filter_le (geM (lv room S)) (srt S)
    have h2 := List.length_filter_le (geM (lv room T)) (srt T)
    rw [srt_length] at h1 h2
    unfold keptOf; omega
  have lc : ∀ (H : List LO) (x0 x1 x2 x4 x6 x7 : Option FV), lcT [5] (tgN 5) (tst (eBin mGe (eCall F_mark (aCons (aL 5) aNil)) (vVar 3))) (eVar 5) ((srtU (keptOf S (lv room S) ++ keptOf T (lv room T))).map D.int) [] ⟨[x0, x1, x2, (some (.val (.int M))), x4, none, x6, x7], H⟩ =
      .ok ((keptOf (unT S T) M).map D.int) ⟨[x0, x1, x2, (some (.val (.int M))), x4, none, x6, x7], H⟩ := by
    intro H x0 x1 x2 x4 x6 x7
    have sl := srtU_len (keptOf S (lv room S) ++ keptOf T (lv room T))
    rw [List.length_append] at sl
    rw [lcT_map _ (fun d => match d with | .int t => geM M t | _ => false) (fun d => d) _ [] ?_ (by simp; omega)]
    · rw [List.nil_append, List.map_id', List.filter_map, ← both]; rfl
    · intro d m
      obtain ⟨t, ht, rfl⟩ := List.mem_map.mp m
      have ht := srtU_mem.mp ht
      have hb : 0 ≤ t ∧ t < 1152921504606846976 := by
        rcases List.mem_append.mp ht with m | m
        · exact hS.bd t (kept_mem.mp m).1
        · exact hT.bd t (kept_mem.mp m).1
      have e := mark_v t H hb.1 hb.2
      by_cases q : M ≤ mk t <;> simp [e, geM, q]
  have c1 : ∀ x, (h ++ [x])[r1]? = some (disS room S a) := fun x => happ_lt h1 [x]
  have c2 : ∀ x, (h ++ [x])[r2]? = some (disS room T b) := fun x => happ_lt h2 [x]
  have he := fun (x y : LO) => hset_end h x
  have ic := intsD_map (keptOf S (lv room S) ++ keptOf T (lv room T))
  have ic' : intsD ((keptOf S (lv room S)).map D.int ++ (keptOf T (lv room T)).map D.int) = some (keptOf S (lv room S) ++ keptOf T (lv room T)) := by rw [← List.map_append]; exact ic
  unfold disS at *
  generalize keptOf S (lv room S) = KS at *
  generalize keptOf T (lv room T) = KT at *
  unfold F_poured_distinct
  unfold disO at *
  simp [fn_s, h1, h2, dis_lk, ei, c1, c2, he, mx, ic', kl2, show KS.length + KT.length ≤ 16777216 by omega, lc, es]
end PX

namespace PX
open PySem PySem.Spec PyProof.Rows L2 PL
@[irreducible] noncomputable def B_moved_sums_0 : S :=
  sSeq (sApp 3 (eBin mAdd (vVar 5) (vVar 4))) <|
  sAug 4 mMul (eVar 1)
@[irreducible] noncomputable def F_moved_sums : Fn := fn 6 <|
  sSeq (sSetF 3 (eLst (eNil))) <|
  sSeq (sSet 4 (eVar 2)) <|
  sSeq (sFor (iVal (vVar 0)) (tgN 5) (PX.B_moved_sums_0)) <|
  sRetO 3
@[irreducible] noncomputable def F_Balance_init : Fn := fn 2 <|
  sSeq (sFld 4 [7, 12, 13] (eVar 0) (eVar 1)) <|
  sFld 5 [7] (eVar 0) (eLst (eCons (eC (.int 0)) (eCons (eC (.int 0)) (eCons (eC (.int 0)) (eCons (eC (.int 0)) (eNil))))))
@[irreducible] noncomputable def F_Balance_put : Fn := fn 3 <|
  sFld 5 [7] (eVar 0) (eCall PX.F_moved_sums (aCons (aF 5 (eVar 0)) (aCons (aL 1) (aCons (aL 2) (aNil)))))
@[irreducible] noncomputable def F_Balance_take : Fn := fn 3 <|
  sFld 5 [7] (eVar 0) (eCall PX.F_moved_sums (aCons (aF 5 (eVar 0)) (aCons (aL 1) (aCons (aV (eUn mNeg (cVar 2))) (aNil)))))
@[irreducible] noncomputable def F_poured_balance : Fn := fn 4 <|
  sSeq (sIf (tst (eBin mNe (vFld 4 (eVar 0)) (vFld 4 (eVar 1)))) (sRaise 1) (sNx)) <|
  sSeq (sSet 2 (eMake 2 7 PX.F_Balance_init (aCons (aF 4 (eVar 0)) (aNil)))) <|
  sSeq (sFld 5 [7] (eVar 2) (eLc [3] (iRg1 (eC (.int 4))) (tgN 3) (tYes') (eBin mAdd (eBin mIx (vFld 5 (eVar 0)) (vVar 3)) (eBin mIx (vFld 5 (eVar 1)) (vVar 3))))) <|
  sRet (eVar 2)
end PX

/-! What the balance's functions answer. -/
namespace PX
open PySem PySem.Spec PyProof.Rows L2 PL
theorem bal_at4 (a b c d : D) : PL.atD [a, b, c, d] 0 = some a ∧ PL.atD [a, b, c, d] 1 = some b ∧ PL.atD [a, b, c, d] 2 = some c ∧ PL.atD [a, b, c, d] 3 = some d := ⟨rfl, rfl, rfl, rfl⟩
/-- four sums -/
structure S4 where
  a : Int
  b : Int
  c : Int
  d : Int
noncomputable def d4 (s : S4) : List D := [.int s.a, .int s.b, .int s.c, .int s.d]
noncomputable def add4 (s t : S4) : S4 := ⟨s.a + t.a, s.b + t.b, s.c + t.c, s.d + t.d⟩
noncomputable def row4 (t w : Int) : S4 := ⟨w, w * t, w * t * t, w * t * t * t⟩
noncomputable def zero4 : S4 := ⟨0, 0, 0, 0⟩
noncomputable def balO (span : Int) (s : S4) : LO := .ins 7 [(4, .val (.int span)), (5, .val (.lst (d4 s)))]
theorem add4_zero (s : S4) : add4 zero4 s = s := by cases s; simp [add4, zero4]
theorem add4_zero' (s : S4) : add4 s zero4 = s := by cases s; simp [add4, zero4]
theorem add4_comm (s t : S4) : add4 s t = add4 t s := by cases s; cases t; simp [add4, Int.add_comm]
theorem add4_assoc (s t u : S4) : add4 (add4 s t) u = add4 s (add4 t u) := by cases s; cases t; cases u; simp [add4, Int.add_assoc]
theorem bal_mul {x y : Int} {a b : Nat} (hx : x.natAbs < 2 ^ a) (hy : y.natAbs < 2 ^ b) : (x * y).natAbs < 2 ^ (a + b) := by
  rw [Int.natAbs_mul, Nat.pow_add]
  exact Nat.mul_lt_mul'' hx hy
theorem moved_v (s : S4) (t w : Int) (Y : FV) (h : List LO) (hY : Y = .val (.lst (d4 s)) ∨ Y = .lent (.lst (d4 s))) (ht : t.natAbs < 2 ^ 1000) (hw : w.natAbs < 2 ^ 1000) : F_moved_sums [Y, .val (.int t), .val (.int w)] h = .ret (.own (.lst (d4 (add4 s (row4 t w))))) h := by
  have c1 : CMulX w t := cmul_of 1000 1000 hw ht
  have b1 := bal_mul hw ht
  have c2 : CMulX (w * t) t := cmul_of 2000 1000 b1 ht
  have b2 := bal_mul b1 ht
  have c3 : CMulX (w * t * t) t := cmul_of 3000 1000 b2 ht
  have c4 : CMulX (w * t * t * t) t := cmul_of 4000 1000 (bal_mul b2 ht) ht
  unfold F_moved_sums B_moved_sums_0
  rcases hY with rfl | rfl <;> simp [fn_s, d4, turns, c1, c2, c3, c4, add4, row4]
theorem bal_lk (x y : FV) : List.lookup 4 [(4, x), (5, y)] = some x ∧ List.lookup 5 [(4, x), (5, y)] = some y := ⟨rfl, rfl⟩
theorem bal_init_v (r : Nat) (span : Int) (h : List LO) (hr : h[r]? = some (.ins 7 [])) : F_Balance_init [.val (.obj r), .val (.int span)] h = .ret (.val .non) (h.set r (balO span zero4)) := by
  have hs := hset hr
  unfold F_Balance_init balO
  simp [fn_s, hr, hs, d4, zero4]
theorem put_v (r : Nat) (span t w : Int) (s : S4) (h : List LO) (hr : h[r]? = some (balO span s)) (ht : t.natAbs < 2 ^ 1000) (hw : w.natAbs < 2 ^ 1000) : F_Balance_put [.val (.obj r), .val (.int t), .val (.int w)] h = .ret (.val .non) (h.set r (balO span (add4 s (row4 t w)))) := by
  have e := moved_v s t w (.val (.lst (d4 s))) h (.inl rfl) ht hw
  unfold F_Balance_put
  unfold balO at *
  simp [fn_s, hr, bal_lk, e]
theorem take_v (r : Nat) (span t w : Int) (s : S4) (h : List LO) (hr : h[r]? = some (balO span s)) (ht : t.natAbs < 2 ^ 1000) (hw : w.natAbs < 2 ^ 1000) : F_Balance_take [.val (.obj r), .val (.int t), .val (.int w)] h = .ret (.val .non) (h.set r (balO span (add4 s (row4 t (-w))))) := by
  have e := moved_v s t (-w) (.val (.lst (d4 s))) h (.inl rfl) ht (by rw [Int.natAbs_neg]; exact hw)
  unfold F_Balance_take
  unfold balO at *
  simp [fn_s, hr, bal_lk, e]
theorem bal_rg : rangeD 0 4 = [.int 0, .int 1, .int 2, .int 3] := rfl
theorem pour_v (r0 r1 : Nat) (span : Int) (s0 s1 : S4) (h : List LO) (h0 : h[r0]? = some (balO span s0)) (h1 : h[r1]? = some (balO span s1)) : F_poured_balance [.val (.obj r0), .val (.obj r1)] h = .ret (.val (.obj h.length)) (h ++ [balO span (add4 s0 s1)]) := by
  have i0 := bal_init_v h.length span (h ++ [.ins 7 []]) (by simp)
  rw [show (h ++ [LO.ins 7 []]).set h.length (balO span zero4) = h ++ [balO span zero4] by simp] at i0
  have k0 : ∀ x, (h ++ [x])[r0]? = some (balO span s0) := fun x => by rw [List.getElem?_append_left (List.getElem?_eq_some_iff.mp h0).1]; exact h0
  have k1 : ∀ x, (h ++ [x])[r1]? = some (balO span s1) := fun x => by rw [List.getElem?_append_left (List.getElem?_eq_some_iff.mp h1).1]; exact h1
  have a4 := bal_at4
  unfold F_poured_balance
  unfold balO at *
  simp [fn_s, h0, h1, bal_lk, i0, k0, k1, lcT, bal_rg, d4, a4, add4]
end PX

/-! A keepsake's state and what is known of it behind rows and pours. -/
namespace PX
open PySem PySem.Spec PyProof.Rows L2 PL
structure RS where
  s : Rg
  t : Int
  l : Option Int
  m : Option Int
noncomputable def RS.zero : RS := ⟨rgZ, 0, none, none⟩
noncomputable def RS.add (room : Nat) (a : RS) (x w : Int) : RS := ⟨addRg room a.s x w, a.t + w, loO a.l x, hiO a.m x⟩
noncomputable def RS.pour (room : Nat) (a b : RS) : RS := ⟨pourR room a.s b.s, a.t + b.t, minO a.l b.l, maxO a.m b.m⟩
structure KS where
  fc : Frq
  fw : Frq
  ru : RS
  rd : RS
  ck : Int
  bx : List Box
  sn : List Int
  ar : Int
  bl : S4
noncomputable def KS.zero : KS := ⟨.zero, .zero, .zero, .zero, 0, [], [], 0, zero4⟩
noncomputable def KS.put (room : Nat) (reach span : Int) (K : KS) (x w : Int) : KS :=
  ⟨K.fc.add room x w, K.fw, K.ru.add room x w, K.rd, K.ck + 1, settle room (K.ck + 1 - reach) (K.bx ++ [(K.ck + 1, K.ck + 1, w)]), addT K.sn x, K.ar + 1, if x < span then add4 K.bl (row4 x w) else K.bl⟩
noncomputable def KS.take (room : Nat) (reach span : Int) (K : KS) (x w : Int) : KS :=
  ⟨K.fc, K.fw.add room x w, K.ru, K.rd.add room x w, K.ck + 1, settle room (K.ck + 1 - reach) K.bx, K.sn, K.ar, if x < span then add4 K.bl (row4 x (-w)) else K.bl⟩
noncomputable def KS.idle (room : Nat) (reach : Int) (K : KS) (w : Int) : KS :=
  ⟨K.fc, K.fw, K.ru, K.rd, K.ck + w, settle room (K.ck + w - reach) K.bx, K.sn, K.ar, K.bl⟩
noncomputable def KS.pour (room : Nat) (reach : Int) (K L : KS) : KS :=
  ⟨K.fc.pour room L.fc, K.fw.pour room L.fw, K.ru.pour room L.ru, K.rd.pour room L.rd, K.ck + L.ck, settle room (K.ck + L.ck - reach) (joinB K.ck K.bx L.bx), unT K.sn L.sn, K.ar + L.ar, add4 K.bl L.bl⟩
/-- a row: its kind, thing, weight -/
noncomputable abbrev R3 := Int × Int × Int
noncomputable def KS.done (room : Nat) (reach span : Int) (K : KS) (r : R3) : KS :=
  if r.1 = 0 then K.put room reach span r.2.1 r.2.2 else if r.1 = 1 then K.take room reach span r.2.1 r.2.2 else K.idle room reach r.2.2
noncomputable def kindR (k : Int) (rows : List R3) : List (Int × Int) := (rows.filter fun r => decide (r.1 = k)).map (·.2)
theorem kindR_app (k : Int) (a b : List R3) : kindR k (a ++ b) = kindR k a ++ kindR k b := by simp [kindR]
theorem kindR_one (k : Int) (r : R3) : kindR k [r] = if r.1 = k then [r.2] else [] := by
  unfold kindR
  by_cases q : r.1 = k <;> simp [q]
theorem kindR_len (k : Int) (rows : List R3) : (kindR k rows).length ≤ rows.length := by
  unfold kindR
  rw [List.length_map]
  exact List.length_filter_le _ _
noncomputable def wAt (x : Int) : List (Int × Int) → Int
  | [] => 0
  | p :: l => (if p.1 = x then p.2 else 0) + wAt x l
theorem wAt_app (x : Int) : ∀ a b : List (Int × Int), wAt x (a ++ b) = wAt x a + wAt x b
  | [], b => by simp [wAt]
  | p :: a, b => by rw [List.cons_append, wAt, wAt, wAt_app x a b]; omega
noncomputable def lstO (l : List (Int × Int)) : Option Int := l.foldl (fun a p => loO a p.1) none
noncomputable def mstO (l : List (Int × Int)) : Option Int := l.foldl (fun a p => hiO a p.1) none
theorem minO_lo (a b : Option Int) (x : Int) : minO a (loO b x) = loO (minO a b) x := by
  cases a <;> cases b <;> simp [minO, loO] <;> split <;> (try split) <;> (try split) <;> (try split) <;> simp_all <;> omega
theorem maxO_hi (a b : Option Int) (x : Int) : maxO a (hiO b x) = hiO (maxO a b) x := by
  cases a <;> cases b <;> simp [maxO, hiO] <;> split <;> (try split) <;> (try split) <;> (try split) <;> simp_all <;> omega
theorem minO_none (a : Option Int) : minO a none = a := by cases a <;> simp [minO]
theorem maxO_none (a : Option Int) : maxO a none = a := by cases a <;> simp [maxO]
theorem lstO_app (a b : List (Int × Int)) : lstO (a ++ b) = minO (lstO a) (lstO b) := by
  have key : ∀ (b : List (Int × Int)) (i j : Option Int), b.foldl (fun a p => loO a p.1) (minO i j) = minO i (b.foldl (fun a p => loO a p.1) j) := by
    intro b
    induction b with
    | nil => intro i j; rfl
    | cons p b ih => intro i j; rw [List.foldl_cons, List.foldl_cons, ← minO_lo, ih]
  unfold lstO
  rw [List.foldl_append]
  have := key b (a.foldl (fun a p => loO a p.1) none) none
  rwa [minO_none] at this
theorem mstO_app (a b : List (Int × Int)) : mstO (a ++ b) = maxO (mstO a) (mstO b) := by
  have key : ∀ (b : List (Int × Int)) (i j : Option Int), b.foldl (fun a p => hiO a p.1) (maxO i j) = maxO i (b.foldl (fun a p => hiO a p.1) j) := by
    intro b
    induction b with
    | nil => intro i j; rfl
    | cons p b ih => intro i j; rw [List.foldl_cons, List.foldl_cons, ← maxO_hi, ih]
  unfold mstO
  rw [List.foldl_append]
  have := key b (a.foldl (fun a p => hiO a p.1) none) none
  rwa [maxO_none] at this
/-- what a row tells the window -/
noncomputable def arr (r : R3) : Arr := if r.1 = 0 then (1, r.2.2) else if r.1 = 1 then (1, 0) else (r.2.2, 0)
noncomputable def bal1 (span : Int) (r : R3) : S4 := if r.1 = 0 ∧ r.2.1 < span then row4 r.2.1 r.2.2 else if r.1 = 1 ∧ r.2.1 < span then row4 r.2.1 (-r.2.2) else zero4
noncomputable def balR (span : Int) : List R3 → S4
  | [] => zero4
  | r :: l => add4 (bal1 span r) (balR span l)
theorem balR_app (span : Int) : ∀ a b : List R3, balR span (a ++ b) = add4 (balR span a) (balR span b)
  | [], b => by rw [List.nil_append, balR, add4_zero]
  | r :: a, b => by rw [List.cons_append, balR, balR, balR_app span a b, add4_assoc]
/-- a row as it may be -/
structure GRow (r : R3) : Prop where
  k : r.1 = 0 ∨ r.1 = 1 ∨ r.1 = 2
  t0 : 0 ≤ r.2.1
  t1 : r.2.1 < 1152921504606846976
  w0 : 1 ≤ r.2.2
  w1 : r.2.2 ≤ 1000000000000
/-- turns are no more than what may be off -/
noncomputable def TuOk (S : Rg) : Prop := S.tu ≤ S.ov + S.un
theorem TuOk.step {room h : Nat} {S : Rg} (o : TuOk S) : TuOk (stepR room h S) := by
  unfold stepR
  split
  · have hp := p2p h
    unfold TuOk at *
    simp only
    split <;> omega
  · exact o
theorem TuOk.loop (room : Nat) : ∀ (n h : Nat) (S : Rg), TuOk S → TuOk (loopR room n h S)
  | 0, _, _, o => o
  | n + 1, h, S, o => by
    rw [loopR]
    split
    · exact TuOk.loop room n (h + 1) _ o.step
    · exact o
theorem TuOk.add {S : Rg} (o : TuOk S) (room : Nat) (x w : Int) : TuOk (addRg room S x w) := by
  unfold addRg settleR
  exact TuOk.loop _ _ _ _ o
theorem TuOk.pour {S T : Rg} (o : TuOk S) (q : TuOk T) (room : Nat) : TuOk (pourR room S T) := by
  unfold pourR settleR
  refine TuOk.loop _ _ _ _ ?_
  unfold TuOk joinR at *
  simp only
  omega
structure KI (room : Nat) (reach span : Int) (rows : List R3) (K : KS) : Prop where
  fc : OkF room K.fc fun x => wAt x (kindR 0 rows)
  fw : OkF room K.fw fun x => wAt x (kindR 1 rows)
  tc : K.fc.total = wt (kindR 0 rows)
  tw : K.fw.total = wt (kindR 1 rows)
  ru : Ri room K.ru.s (kindR 0 rows)
  rd : Ri room K.rd.s (kindR 1 rows)
  tu : K.ru.t = wt (kindR 0 rows)
  td : K.rd.t = wt (kindR 1 rows)
  lu : K.ru.l = lstO (kindR 0 rows)
  mu : K.ru.m = mstO (kindR 0 rows)
  ld : K.rd.l = lstO (kindR 1 rows)
  md : K.rd.m = mstO (kindR 1 rows)
  wn : Kn (rowsF 0 (rows.map arr)) K.bx room reach K.ck rows.length
  ck : K.ck = clk (rows.map arr)
  sn : Th K.sn
  sl : K.sn.length ≤ rows.length
  sm : ∀ x, x ∈ K.sn ↔ ∃ p ∈ kindR 0 rows, p.1 = x
  ar : K.ar = (kindR 0 rows).length
  bl : K.bl = balR span rows
  go : ∀ r ∈ rows, GRow r
  len : rows.length ≤ 100000
  tt : TuOk K.ru.s ∧ TuOk K.rd.s
theorem KI.zero (room : Nat) (reach span : Int) (h0 : 0 ≤ reach) : KI room reach span [] .zero :=
  ⟨OkF.zero room, OkF.zero room, rfl, rfl, Ri.zero room, Ri.zero room, rfl, rfl, rfl, rfl, rfl, rfl, Kn.nil room reach h0, rfl, Th.nil, by simp [KS.zero], by simp [KS.zero, kindR], rfl, rfl, by simp, by simp, ⟨show (0 : Int) ≤ 0 + 0 by decide, show (0 : Int) ≤ 0 + 0 by decide⟩⟩
theorem upT_wAt (l : List (Int × Int)) (x w : Int) : upT (fun y => wAt y l) x w = fun y => wAt y (l ++ [(x, w)]) := by
  funext y
  rw [wAt_app, upT, wAt, wAt]
  by_cases q : y = x
  · subst q; simp
  · simp [q, show ¬ x = y from fun e => q e.symm]
theorem wt_snoc (l : List (Int × Int)) (p : Int × Int) : wt (l ++ [p]) = wt l + p.2 := by rw [wt_app, wt_cons]; simp [wt]
theorem lstO_snoc (l : List (Int × Int)) (p : Int × Int) : lstO (l ++ [p]) = loO (lstO l) p.1 := by unfold lstO; rw [List.foldl_append]; rfl
theorem mstO_snoc (l : List (Int × Int)) (p : Int × Int) : mstO (l ++ [p]) = hiO (mstO l) p.1 := by unfold mstO; rw [List.foldl_append]; rfl
theorem clk_snoc (l : List R3) (r : R3) : clk ((l ++ [r]).map arr) = clk (l.map arr) + (arr r).1 := by
  rw [List.map_append, clk_app]; simp [clk]
theorem KI.put {room : Nat} {reach span : Int} {rows : List R3} {K : KS} (k : KI room reach span rows K) (r1 : room % 2 = 0) (r2 : 2 ≤ room) {x w : Int} (g : GRow (0, x, w)) (hl : rows.length < 100000) :
    KI room reach span (rows ++ [(0, x, w)]) (K.put room reach span x w) := by
  have e0 : kindR 0 (rows ++ [(0, x, w)]) = kindR 0 rows ++ [(x, w)] := by rw [kindR_app, kindR_one]; simp
  have e1 : kindR 1 (rows ++ [(0, x, w)]) = kindR 1 rows := by rw [kindR_app, kindR_one]; simp
  have l0 := kindR_len 0 rows
  have w0 := g.w0
  have w1 := g.w1
  have t0 := g.t0
  have t1 := g.t1
  have sl := k.sl
  simp only at w0 w1 t0 t1
  have ew : rowsF 0 ((rows ++ [(0, x, w)]).map arr) = rowsF 0 (rows.map arr) ++ [(K.ck + 1, w)] := by
    rw [List.map_append, rowsF_app, k.ck]
    simp [arr, rowsF, show ¬ w = 0 by omega]
  have go : ∀ r ∈ rows ++ [(0, x, w)], GRow r := fun r m => by
    rcases List.mem_append.mp m with m | m
    · exact k.go r m
    · rw [List.mem_singleton.mp m]; exact g
  have len : (rows ++ [((0 : Int), x, w)]).length = rows.length + 1 := by simp
  have hu := k.fc.add (x := x) w0
  rw [upT_wAt, ← e0] at hu
  refine ⟨hu, by rw [e1]; exact k.fw, ?_, by rw [e1]; exact k.tw, by rw [e0]; exact k.ru.add r1 r2 w0 w1 (by omega), by rw [e1]; exact k.rd, ?_, by rw [e1]; exact k.td, ?_, ?_, by rw [e1]; exact k.ld, by rw [e1]; exact k.md, ?_, ?_, k.sn.add ⟨t0, t1⟩ (by omega), ?_, ?_, ?_, ?_, go, by rw [len]; omega, k.tt.1.add _ _ _, k.tt.2⟩
  · rw [e0, wt_snoc, ← k.tc]; rfl
  · rw [e0, wt_snoc, ← k.tu]; rfl
  · rw [e0, lstO_snoc, ← k.lu]; rfl
  · rw [e0, mstO_snoc, ← k.mu]; rfl
  · rw [ew, len]
    exact k.wn.add (by omega) w0 w1
  · rw [clk_snoc, ← k.ck]; rfl
  · have := (addT_len K.sn x).2
    rw [len]
    show (addT K.sn x).length ≤ _
    omega
  · intro y
    show y ∈ addT K.sn x ↔ _
    rw [e0]
    constructor
    · intro m
      rcases addT_mem m with m | rfl
      · obtain ⟨p, mp, e⟩ := (k.sm y).mp m
        exact ⟨p, by simp [mp], e⟩
      · exact ⟨(y, w), by simp, rfl⟩
    · rintro ⟨p, mp, e⟩
      rcases List.mem_append.mp mp with mp | mp
      · have := (k.sm y).mpr ⟨p, mp, e⟩
        unfold addT
        split
        · exact this
        · simp [this]
      · rw [List.mem_singleton.mp mp] at e
        simp only at e
        subst e
        unfold addT
        split
        · assumption
        · simp
  · rw [e0]
    show K.ar + 1 = _
    rw [k.ar]; simp
  · rw [balR_app, ← k.bl]
    show (if x < span then add4 K.bl (row4 x w) else K.bl) = _
    simp only [balR, add4_zero', bal1]
    by_cases q : x < span <;> simp [q, add4_zero']
theorem KI.take {room : Nat} {reach span : Int} {rows : List R3} {K : KS} (k : KI room reach span rows K) (r1 : room % 2 = 0) (r2 : 2 ≤ room) {x w : Int} (g : GRow (1, x, w)) (hl : rows.length < 100000) :
    KI room reach span (rows ++ [(1, x, w)]) (K.take room reach span x w) := by
  have e0 : kindR 0 (rows ++ [(1, x, w)]) = kindR 0 rows := by rw [kindR_app, kindR_one]; simp
  have e1 : kindR 1 (rows ++ [(1, x, w)]) = kindR 1 rows ++ [(x, w)] := by rw [kindR_app, kindR_one]; simp
  have l0 := kindR_len 1 rows
  have w0 := g.w0
  have w1 := g.w1
  have sl := k.sl
  simp only at w0 w1
  have ew : rowsF 0 ((rows ++ [(1, x, w)]).map arr) = rowsF 0 (rows.map arr) := by
    rw [List.map_append, rowsF_app]
    simp [arr, rowsF]
  have go : ∀ r ∈ rows ++ [(1, x, w)], GRow r := fun r m => by
    rcases List.mem_append.mp m with m | m
    · exact k.go r m
    · rw [List.mem_singleton.mp m]; exact g
  have len : (rows ++ [((1 : Int), x, w)]).length = rows.length + 1 := by simp
  have hu := k.fw.add (x := x) w0
  rw [upT_wAt, ← e1] at hu
  refine ⟨by rw [e0]; exact k.fc, hu, by rw [e0]; exact k.tc, ?_, by rw [e0]; exact k.ru, by rw [e1]; exact k.rd.add r1 r2 w0 w1 (by omega), by rw [e0]; exact k.tu, ?_, by rw [e0]; exact k.lu, by rw [e0]; exact k.mu, ?_, ?_, ?_, ?_, k.sn, by rw [len]; show K.sn.length ≤ _; omega, by rw [e0]; exact k.sm, by rw [e0]; exact k.ar, ?_, go, by rw [len]; omega, k.tt.1, k.tt.2.add _ _ _⟩
  · rw [e1, wt_snoc, ← k.tw]; rfl
  · rw [e1, wt_snoc, ← k.td]; rfl
  · rw [e1, lstO_snoc, ← k.ld]; rfl
  · rw [e1, mstO_snoc, ← k.md]; rfl
  · rw [ew, len]
    exact k.wn.idle (by omega) (by omega)
  · rw [clk_snoc, ← k.ck]; rfl
  · rw [balR_app, ← k.bl]
    show (if x < span then add4 K.bl (row4 x (-w)) else K.bl) = _
    simp only [balR, add4_zero', bal1]
    by_cases q : x < span <;> simp [q, add4_zero']
theorem KI.idle {room : Nat} {reach span : Int} {rows : List R3} {K : KS} (k : KI room reach span rows K) {x w : Int} (g : GRow (2, x, w)) (hl : rows.length < 100000) :
    KI room reach span (rows ++ [(2, x, w)]) (K.idle room reach w) := by
  have e0 : kindR 0 (rows ++ [(2, x, w)]) = kindR 0 rows := by rw [kindR_app, kindR_one]; simp
  have e1 : kindR 1 (rows ++ [(2, x, w)]) = kindR 1 rows := by rw [kindR_app, kindR_one]; simp
  have w0 := g.w0
  have sl := k.sl
  simp only at w0
  have ew : rowsF 0 ((rows ++ [(2, x, w)]).map arr) = rowsF 0 (rows.map arr) := by
    rw [List.map_append, rowsF_app]
    simp [arr, rowsF]
  have go : ∀ r ∈ rows ++ [(2, x, w)], GRow r := fun r m => by
    rcases List.mem_append.mp m with m | m
    · exact k.go r m
    · rw [List.mem_singleton.mp m]; exact g
  have len : (rows ++ [((2 : Int), x, w)]).length = rows.length + 1 := by simp
  refine ⟨by rw [e0]; exact k.fc, by rw [e1]; exact k.fw, by rw [e0]; exact k.tc, by rw [e1]; exact k.tw, by rw [e0]; exact k.ru, by rw [e1]; exact k.rd, by rw [e0]; exact k.tu, by rw [e1]; exact k.td, by rw [e0]; exact k.lu, by rw [e0]; exact k.mu, by rw [e1]; exact k.ld, by rw [e1]; exact k.md, ?_, ?_, k.sn, by rw [len]; show K.sn.length ≤ _; omega, by rw [e0]; exact k.sm, by rw [e0]; exact k.ar, ?_, go, by rw [len]; omega, k.tt⟩
  · rw [ew, len]
    exact k.wn.idle (by omega) w0
  · rw [clk_snoc, ← k.ck]; rfl
  · rw [balR_app, ← k.bl]
    show K.bl = _
    simp [balR, add4_zero', bal1]
theorem KI.done {room : Nat} {reach span : Int} {rows : List R3} {K : KS} (k : KI room reach span rows K) (r1 : room % 2 = 0) (r2 : 2 ≤ room) {r : R3} (g : GRow r) (hl : rows.length < 100000) :
    KI room reach span (rows ++ [r]) (K.done room reach span r) := by
  obtain ⟨a, x, w⟩ := r
  rcases g.k with e | e | e <;> simp only at e <;> subst e
  · exact k.put r1 r2 g hl
  · exact k.take r1 r2 g hl
  · exact k.idle g hl
theorem KI.pour {room : Nat} {reach span : Int} {ra rb : List R3} {K L : KS} (k : KI room reach span ra K) (j : KI room reach span rb L) (r1 : room % 2 = 0) (r2 : 2 ≤ room) (hl : ra.length + rb.length ≤ 100000) :
    KI room reach span (ra ++ rb) (K.pour room reach L) := by
  have l0 := kindR_len 0 ra
  have l1 := kindR_len 0 rb
  have l2 := kindR_len 1 ra
  have l3 := kindR_len 1 rb
  have s0 := k.sl
  have s1 := j.sl
  have len : (ra ++ rb).length = ra.length + rb.length := by simp
  have hc := k.fc.pour j.fc
  have hw := k.fw.pour j.fw
  have ec : (fun x => wAt x (kindR 0 ra) + wAt x (kindR 0 rb)) = fun x => wAt x (kindR 0 (ra ++ rb)) := by funext x; rw [kindR_app, wAt_app]
  have ew : (fun x => wAt x (kindR 1 ra) + wAt x (kindR 1 rb)) = fun x => wAt x (kindR 1 (ra ++ rb)) := by funext x; rw [kindR_app, wAt_app]
  rw [ec] at hc
  rw [ew] at hw
  have er : rowsF 0 ((ra ++ rb).map arr) = rowsF 0 (ra.map arr) ++ (rowsF 0 (rb.map arr)).map (shR K.ck) := by
    rw [List.map_append, rowsF_app, ← k.ck, ← rowsF_sh]
  have go : ∀ r ∈ ra ++ rb, GRow r := fun r m => by
    rcases List.mem_append.mp m with m | m
    · exact k.go r m
    · exact j.go r m
  refine ⟨hc, hw, ?_, ?_, by rw [kindR_app]; exact k.ru.pour j.ru r1 r2 (by omega), by rw [kindR_app]; exact k.rd.pour j.rd r1 r2 (by omega), ?_, ?_, ?_, ?_, ?_, ?_, ?_, ?_, k.sn.un j.sn (by omega), ?_, ?_, ?_, ?_, go, by rw [len]; omega, k.tt.1.pour j.tt.1 _, k.tt.2.pour j.tt.2 _⟩
  · rw [kindR_app, wt_app, ← k.tc, ← j.tc]; rfl
  · rw [kindR_app, wt_app, ← k.tw, ← j.tw]; rfl
  · rw [kindR_app, wt_app, ← k.tu, ← j.tu]; rfl
  · rw [kindR_app, wt_app, ← k.td, ← j.td]; rfl
  · rw [kindR_app, lstO_app, ← k.lu, ← j.lu]; rfl
  · rw [kindR_app, mstO_app, ← k.mu, ← j.mu]; rfl
  · rw [kindR_app, lstO_app, ← k.ld, ← j.ld]; rfl
  · rw [kindR_app, mstO_app, ← k.md, ← j.md]; rfl
  · rw [er, len]
    exact k.wn.join j.wn (by omega)
  · rw [List.map_append, clk_app, ← k.ck, ← j.ck]; rfl
  · have := unT_len K.sn L.sn
    rw [len]
    show (unT K.sn L.sn).length ≤ _
    omega
  · intro x
    show x ∈ unT K.sn L.sn ↔ _
    rw [unT_mem, k.sm x, j.sm x, kindR_app]
    constructor
    · rintro (⟨p, m, e⟩ | ⟨p, m, e⟩)
      · exact ⟨p, by simp [m], e⟩
      · exact ⟨p, by simp [m], e⟩
    · rintro ⟨p, m, e⟩
      rcases List.mem_append.mp m with m | m
      · exact .inl ⟨p, m, e⟩
      · exact .inr ⟨p, m, e⟩
  · rw [kindR_app]
    show K.ar + L.ar = _
    rw [k.ar, j.ar]; simp
  · rw [balR_app, ← k.bl, ← j.bl]; rfl
end PX

namespace PX
open PySem PySem.Spec PyProof.Rows L2 PL
@[irreducible] noncomputable def F_Keepsake_init : Fn := fn 4 <|
  sSeq (sFld 0 [6, 8, 9, 10, 12, 13] (eVar 0) (eVar 1)) <|
  sSeq (sFld 1 [6, 12, 13] (eVar 0) (eVar 2)) <|
  sSeq (sFld 4 [7, 12, 13] (eVar 0) (eVar 3)) <|
  sSeq (sFld 18 [12] (eVar 0) (eMake 2 8 PX.F_Frequent_init (aCons (aL 1) (aNil)))) <|
  sSeq (sFld 19 [12] (eVar 0) (eMake 2 8 PX.F_Frequent_init (aCons (aL 1) (aNil)))) <|
  sSeq (sFld 20 [12] (eVar 0) (eMake 2 9 PX.F_Rungs_init (aCons (aL 1) (aNil)))) <|
  sSeq (sFld 21 [12] (eVar 0) (eMake 2 9 PX.F_Rungs_init (aCons (aL 1) (aNil)))) <|
  sSeq (sFld 22 [12] (eVar 0) (eMake 3 6 PX.F_Window_init (aCons (aL 1) (aCons (aL 2) (aNil))))) <|
  sSeq (sFld 23 [12] (eVar 0) (eMake 2 10 PX.F_Distinct_init (aCons (aL 1) (aNil)))) <|
  sFld 24 [12] (eVar 0) (eMake 2 7 PX.F_Balance_init (aCons (aL 3) (aNil)))
@[irreducible] noncomputable def F_Keepsake_put : Fn := fn 3 <|
  sSeq (sEx (eMeth 3 [(8, PX.F_Frequent_add)] (eFld 18 (eVar 0)) (aCons (aL 1) (aCons (aL 2) (aNil))))) <|
  sSeq (sEx (eMeth 3 [(9, PX.F_Rungs_add)] (eFld 20 (eVar 0)) (aCons (aL 1) (aCons (aL 2) (aNil))))) <|
  sSeq (sEx (eMeth 2 [(6, PX.F_Window_add)] (eFld 22 (eVar 0)) (aCons (aL 2) (aNil)))) <|
  sSeq (sEx (eMeth 2 [(10, PX.F_Distinct_add)] (eFld 23 (eVar 0)) (aCons (aL 1) (aNil)))) <|
  sIf (tst (eBin mLt (vVar 1) (vFld 4 (eVar 0)))) (sEx (eMeth 3 [(7, PX.F_Balance_put)] (eFld 24 (eVar 0)) (aCons (aL 1) (aCons (aL 2) (aNil))))) (sNx)
@[irreducible] noncomputable def F_Keepsake_take : Fn := fn 3 <|
  sSeq (sEx (eMeth 3 [(8, PX.F_Frequent_add)] (eFld 19 (eVar 0)) (aCons (aL 1) (aCons (aL 2) (aNil))))) <|
  sSeq (sEx (eMeth 3 [(9, PX.F_Rungs_add)] (eFld 21 (eVar 0)) (aCons (aL 1) (aCons (aL 2) (aNil))))) <|
  sSeq (sEx (eMeth 2 [(6, PX.F_Window_idle)] (eFld 22 (eVar 0)) (aCons (aV (eC (.int 1))) (aNil)))) <|
  sIf (tst (eBin mLt (vVar 1) (vFld 4 (eVar 0)))) (sEx (eMeth 3 [(7, PX.F_Balance_take)] (eFld 24 (eVar 0)) (aCons (aL 1) (aCons (aL 2) (aNil))))) (sNx)
@[irreducible] noncomputable def F_Keepsake_idle : Fn := fn 2 <|
  sEx (eMeth 2 [(6, PX.F_Window_idle)] (eFld 22 (eVar 0)) (aCons (aL 1) (aNil)))
end PX

/-! The rows of a keepsake, as the program does them. -/
namespace PX
open PySem PySem.Spec PyProof.Rows L2 PL
/-- where the parts lie -/
structure Ad where
  c : Nat
  w : Nat
  u : Nat
  d : Nat
  n : Nat
  s : Nat
  b : Nat
noncomputable def Ad.all (A : Ad) : List Nat := [A.c, A.w, A.u, A.d, A.n, A.s, A.b]
noncomputable def rsO (room : Nat) (a : RS) : LO := rgO room a.s a.t a.l a.m
noncomputable def ksFs (room : Nat) (reach span : Int) (A : Ad) : List (Nat × FV) :=
  [(0, .val (.int (room : Nat))), (1, .val (.int reach)), (4, .val (.int span)), (18, .val (.obj A.c)), (19, .val (.obj A.w)), (20, .val (.obj A.u)), (21, .val (.obj A.d)), (22, .val (.obj A.n)), (23, .val (.obj A.s)), (24, .val (.obj A.b))]
noncomputable def ksO (room : Nat) (reach span : Int) (A : Ad) : LO := .ins 12 (ksFs room reach span A)
theorem ks_lk (a b c d e f g i j k : FV) : List.lookup 0 [(0, a), (1, b), (4, c), (18, d), (19, e), (20, f), (21, g), (22, i), (23, j), (24, k)] = some a ∧ List.lookup 1 [(0, a), (1, b), (4, c), (18, d), (19, e), (20, f), (21, g), (22, i), (23, j), (24, k)] = some b ∧
    List.lookup 4 [(0, a), (1, b), (4, c), (18, d), (19, e), (20, f), (21, g), (22, i), (23, j), (24, k)] = some c ∧ List.lookup 18 [(0, a), (1, b), (4, c), (18, d), (19, e), (20, f), (21, g), (22, i), (23, j), (24, k)] = some d ∧
    List.lookup 19 [(0, a), (1, b), (4, c), (18, d), (19, e), (20, f), (21, g), (22, i), (23, j), (24, k)] = some e ∧ List.lookup 20 [(0, a), (1, b), (4, c), (18, d), (19, e), (20, f), (21, g), (22, i), (23, j), (24, k)] = some f ∧
    List.lookup 21 [(0, a), (1, b), (4, c), (18, d), (19, e), (20, f), (21, g), (22, i), (23, j), (24, k)] = some g ∧ List.lookup 22 [(0, a), (1, b), (4, c), (18, d), (19, e), (20, f), (21, g), (22, i), (23, j), (24, k)] = some i ∧
    List.lookup 23 [(0, a), (1, b), (4, c), (18, d), (19, e), (20, f), (21, g), (22, i), (23, j), (24, k)] = some j ∧ List.lookup 24 [(0, a), (1, b), (4, c), (18, d), (19, e), (20, f), (21, g), (22, i), (23, j), (24, k)] = some k := ⟨rfl, rfl, rfl, rfl, rfl, rfl, rfl, rfl, rfl, rfl⟩
/-- the parts as they lie -/
structure Pp (room : Nat) (reach span : Int) (K : KS) (A : Ad) (h : List LO) : Prop where
  c : h[A.c]? = some (frqO room K.fc)
  w : h[A.w]? = some (frqO room K.fw)
  u : h[A.u]? = some (rsO room K.ru)
  d : h[A.d]? = some (rsO room K.rd)
  n : h[A.n]? = some (winO room reach K.ck K.bx)
  s : h[A.s]? = some (disS room K.sn K.ar)
  b : h[A.b]? = some (balO span K.bl)
  nd : A.all.Nodup
structure Kp (room : Nat) (reach span : Int) (K : KS) (r : Nat) (A : Ad) (h : List LO) : Prop where
  p : Pp room reach span K A h
  o : h[r]? = some (ksO room reach span A)
  ni : r ∉ A.all
/-- only the parts are other ones -/
noncomputable def Fr (A : Ad) (h h' : List LO) : Prop := h'.length = h.length ∧ ∀ j, j ∉ A.all → h'[j]? = h[j]?
theorem Fr.refl (A : Ad) (h : List LO) : Fr A h h := ⟨rfl, fun _ _ => rfl⟩
theorem Fr.trans {A : Ad} {h1 h2 h3 : List LO} (a : Fr A h1 h2) (b : Fr A h2 h3) : Fr A h1 h3 := ⟨b.1.trans a.1, fun j m => (b.2 j m).trans (a.2 j m)⟩
theorem Fr.set {A : Ad} {h : List LO} {i : Nat} (x : LO) (m : i ∈ A.all) : Fr A h (h.set i x) :=
  ⟨List.length_set, fun j mj => List.getElem?_set_ne fun e => mj (by rw [← e]; exact m)⟩
theorem Pp.move {room : Nat} {reach span : Int} {K : KS} {A : Ad} {h h' : List LO} (p : Pp room reach span K A h) (f : ∀ j ∈ A.all, h'[j]? = h[j]?) : Pp room reach span K A h' :=
  ⟨by rw [f _ (by simp [Ad.all])]; exact p.c, by rw [f _ (by simp [Ad.all])]; exact p.w, by rw [f _ (by simp [Ad.all])]; exact p.u, by rw [f _ (by simp [Ad.all])]; exact p.d, by rw [f _ (by simp [Ad.all])]; exact p.n, by rw [f _ (by simp [Ad.all])]; exact p.s, by rw [f _ (by simp [Ad.all])]; exact p.b, p.nd⟩
theorem Pp.lt {room : Nat} {reach span : Int} {K : KS} {A : Ad} {h : List LO} (p : Pp room reach span K A h) : ∀ j ∈ A.all, j < h.length := by
  have g : ∀ {j : Nat} {x : LO}, h[j]? = some x → j < h.length := fun e => (List.getElem?_eq_some_iff.mp e).1
  intro j m
  simp only [Ad.all, List.mem_cons, List.not_mem_nil, or_false] at m
  rcases m with rfl | rfl | rfl | rfl | rfl | rfl | rfl
  · exact g p.c
  · exact g p.w
  · exact g p.u
  · exact g p.d
  · exact g p.n
  · exact g p.s
  · exact g p.b
theorem Pp.app {room : Nat} {reach span : Int} {K : KS} {A : Ad} {h : List LO} (p : Pp room reach span K A h) (xs : List LO) : Pp room reach span K A (h ++ xs) :=
  p.move fun j m => List.getElem?_append_left (p.lt j m)
theorem Kp.app {room : Nat} {reach span : Int} {K : KS} {r : Nat} {A : Ad} {h : List LO} (p : Kp room reach span K r A h) (xs : List LO) : Kp room reach span K r A (h ++ xs) :=
  ⟨p.p.app xs, by rw [List.getElem?_append_left (List.getElem?_eq_some_iff.mp p.o).1]; exact p.o, p.ni⟩
theorem Pp.other {room : Nat} {reach span : Int} {K : KS} {A B : Ad} {h h' : List LO} (p : Pp room reach span K B h) (f : Fr A h h') (dj : ∀ j ∈ B.all, j ∉ A.all) : Pp room reach span K B h' := p.move fun j m => f.2 j (dj j m)
theorem Kp.other {room : Nat} {reach span : Int} {K : KS} {r : Nat} {A B : Ad} {h h' : List LO} (p : Kp room reach span K r B h) (f : Fr A h h') (dj : ∀ j ∈ B.all, j ∉ A.all) (nr : r ∉ A.all) : Kp room reach span K r B h' :=
  ⟨p.p.other f dj, by rw [f.2 r nr]; exact p.o, p.ni⟩
theorem Kp.lt {room : Nat} {reach span : Int} {K : KS} {r : Nat} {A : Ad} {h : List LO} (p : Kp room reach span K r A h) : r < h.length := (List.getElem?_eq_some_iff.mp p.o).1
/-- what the parts' own rows ask -/
structure Lim (room : Nat) (reach : Int) (K : KS) : Prop where
  r0 : 1 ≤ room
  r1 : room ≤ 64
  okc : Ok0 K.fc.fs
  okw : Ok0 K.fw.fs
  lc : K.fc.fs.length ≤ 1000
  lw : K.fw.fs.length ≤ 1000
  eu : elems K.ru.s.R ≤ 4000
  ed : elems K.rd.s.R ≤ 4000
  nu : K.ru.s.R.length ≤ 4000
  nd : K.rd.s.R.length ≤ 4000
  fit : Fit K.bx
  fitw : ∀ w, 1 ≤ w → w ≤ 1000000000000 → Fit (K.bx ++ [(K.ck + 1, K.ck + 1, w)])
  th : Th K.sn
  tl : K.sn.length < 100000
theorem KI.lim {room : Nat} {reach span : Int} {rows : List R3} {K : KS} (k : KI room reach span rows K) (r2 : 2 ≤ room) (r3 : room ≤ 64) (hl : rows.length < 100000) : Lim room reach K := by
  have e1 := k.ru.el r3
  have e2 := k.rd.el r3
  have n1 := k.ru.len
  have n2 := k.rd.len
  have c1 := k.fc.len
  have c2 := k.fw.len
  have s := k.sl
  exact ⟨by omega, r3, k.fc.ok, k.fw.ok, by omega, by omega, by omega, by omega, by omega, by omega, k.wn.k.bx.fit (by omega), fun w a b => (k.wn.k.bx.add (by omega) b).fit (by omega), k.sn, by omega⟩
theorem nodup_rev {l : List Nat} (n : l.Nodup) : l.reverse.Nodup := List.pairwise_reverse.mpr (List.Pairwise.imp (fun a => Ne.symm a) n)
theorem sset_ne {h : List LO} {i j : Nat} {x y : LO} (n : ¬ i = j) (e : h[j]? = some y) : (h.set i x)[j]? = some y := by rw [List.getElem?_set_ne n]; exact e
theorem p2000 (x : Int) (h0 : 0 ≤ x) (h1 : x < 2 ^ 100) : x.natAbs < 2 ^ 1000 := by
  have : x.natAbs < 2 ^ 100 := by omega
  exact Nat.lt_trans this (by decide)
theorem kp_put_v {room : Nat} {reach span : Int} {K : KS} {r : Nat} {A : Ad} {h : List LO} (P : Kp room reach span K r A h) (L : Lim room reach K) {x w : Int} (g : GRow (0, x, w)) :
    ∃ h', F_Keepsake_put [.val (.obj r), .val (.int x), .val (.int w)] h = .ret (.val .non) h' ∧ Kp room reach span (K.put room reach span x w) r A h' ∧ Fr A h h' := by
  have w0 := g.w0
  have w1 := g.w1
  have t0 := g.t0
  have t1 := g.t1
  simp only at w0 w1 t0 t1
  have r0 := L.r0
  have r1 := L.r1
  have n1 := P.p.nd
  have n2 := nodup_rev P.p.nd
  have n3 := P.ni
  have n4 : ∀ j ∈ A.all, ¬ j = r := fun j m e => P.ni (by rw [← e]; exact m)
  have lt := P.p.lt
  simp only [Ad.all, List.nodup_cons, List.mem_cons, List.not_mem_nil, or_false, not_or, List.nodup_nil, List.reverse_cons, List.reverse_nil, List.nil_append, List.cons_append, List.forall_mem_cons, and_true, not_false_eq_true] at n1 n2 n3 n4 lt
  obtain ⟨X1, x1⟩ : ∃ X, X = frqO room (K.fc.add room x w) := ⟨_, rfl⟩
  obtain ⟨X2, x2⟩ : ∃ X, X = rsO room (K.ru.add room x w) := ⟨_, rfl⟩
  obtain ⟨X3, x3⟩ : ∃ X, X = winO room reach (K.ck + 1) (settle room (K.ck + 1 - reach) (K.bx ++ [(K.ck + 1, K.ck + 1, w)])) := ⟨_, rfl⟩
  obtain ⟨X4, x4⟩ : ∃ X, X = disS room (addT K.sn x) (K.ar + 1) := ⟨_, rfl⟩
  obtain ⟨X5, x5⟩ : ∃ X, X = balO span (add4 K.bl (row4 x w)) := ⟨_, rfl⟩
  have e1 := frq_add_v A.c room K.fc x w h P.p.c L.okc w0 L.lc
  rw [← x1] at e1
  have e2 := rg_add_v A.u room r0 K.ru.s K.ru.t K.ru.l K.ru.m x w (h.set A.c X1) (sset_ne (by simp [n1]) P.p.u) w0 (by omega) (by have := L.eu; omega) (by have := L.nu; omega)
  rw [show rgO room (addRg room K.ru.s x w) (K.ru.t + w) (loO K.ru.l x) (hiO K.ru.m x) = X2 from x2.symm] at e2
  have e3 := add_v A.n room reach K.ck w K.bx ((h.set A.c X1).set A.u X2) (sset_ne (by simp [n1]) (sset_ne (by simp [n1]) P.p.n)) (L.fitw w w0 w1) (by omega)
  rw [← x3] at e3
  have e4 := disS_add_v A.s room K.ar x K.sn (((h.set A.c X1).set A.u X2).set A.n X3) (sset_ne (by simp [n1]) (sset_ne (by simp [n1]) (sset_ne (by simp [n1]) P.p.s))) L.th L.tl ⟨t0, t1⟩
  rw [← x4] at e4
  have e5 := put_v A.b span x w K.bl ((((h.set A.c X1).set A.u X2).set A.n X3).set A.s X4) (sset_ne (by simp [n1]) (sset_ne (by simp [n1]) (sset_ne (by simp [n1]) (sset_ne (by simp [n1]) P.p.b)))) (p2000 x t0 (by omega)) (p2000 w (by omega) (by omega))
  rw [← x5] at e5
  have a1 : (h.set A.c X1)[r]? = some (ksO room reach span A) := sset_ne (by simp [n4]) P.o
  have a2 : ((h.set A.c X1).set A.u X2)[r]? = some (ksO room reach span A) := sset_ne (by simp [n4]) a1
  have a3 : (((h.set A.c X1).set A.u X2).set A.n X3)[r]? = some (ksO room reach span A) := sset_ne (by simp [n4]) a2
  have a4 : ((((h.set A.c X1).set A.u X2).set A.n X3).set A.s X4)[r]? = some (ksO room reach span A) := sset_ne (by simp [n4]) a3
  have a5 : (((((h.set A.c X1).set A.u X2).set A.n X3).set A.s X4).set A.b X5)[r]? = some (ksO room reach span A) := sset_ne (by simp [n4]) a4
  have b1 := P.p.c
  have b2 : (h.set A.c X1)[A.u]? = _ := sset_ne (by simp [n1]) P.p.u
  have b3 : ((h.set A.c X1).set A.u X2)[A.n]? = _ := sset_ne (by simp [n1]) (sset_ne (by simp [n1]) P.p.n)
  have b4 : (((h.set A.c X1).set A.u X2).set A.n X3)[A.s]? = _ := sset_ne (by simp [n1]) (sset_ne (by simp [n1]) (sset_ne (by simp [n1]) P.p.s))
  have b5 : ((((h.set A.c X1).set A.u X2).set A.n X3).set A.s X4)[A.b]? = _ := sset_ne (by simp [n1]) (sset_ne (by simp [n1]) (sset_ne (by simp [n1]) (sset_ne (by simp [n1]) P.p.b)))
  obtain ⟨f1, y1⟩ : ∃ fs, frqO room K.fc = .ins 8 fs := ⟨_, rfl⟩
  obtain ⟨f2, y2⟩ : ∃ fs, rsO room K.ru = .ins 9 fs := ⟨_, rfl⟩
  obtain ⟨f3, y3⟩ : ∃ fs, winO room reach K.ck K.bx = .ins 6 fs := ⟨_, rfl⟩
  obtain ⟨f4, y4⟩ : ∃ fs, disS room K.sn K.ar = .ins 10 fs := ⟨_, rfl⟩
  obtain ⟨f5, y5⟩ : ∃ fs, balO span K.bl = .ins 7 fs := ⟨_, rfl⟩
  rw [y1] at b1
  rw [y2] at b2
  rw [y3] at b3
  rw [y4] at b4
  rw [y5] at b5
  have o := P.o
  obtain ⟨H4, q4⟩ : ∃ H, H = (((h.set A.c X1).set A.u X2).set A.n X3).set A.s X4 := ⟨_, rfl⟩
  have fr4 : Fr A h H4 := by
    rw [q4]
    exact (((Fr.set _ (by simp [Ad.all])).trans (Fr.set _ (by simp [Ad.all]))).trans (Fr.set _ (by simp [Ad.all]))).trans (Fr.set _ (by simp [Ad.all]))
  have g1 : H4[A.c]? = some X1 := by rw [q4]; simp [List.getElem?_set, n1, n2, lt]
  have g2 : H4[A.u]? = some X2 := by rw [q4]; simp [List.getElem?_set, n1, n2, lt]
  have g3 : H4[A.n]? = some X3 := by rw [q4]; simp [List.getElem?_set, n1, n2, lt]
  have g4 : H4[A.s]? = some X4 := by rw [q4]; simp [List.getElem?_set, n1, n2, lt]
  have g5 : H4[A.w]? = h[A.w]? := by rw [q4]; simp [List.getElem?_set, n1, n2, lt]
  have g6 : H4[A.d]? = h[A.d]? := by rw [q4]; simp [List.getElem?_set, n1, n2, lt]
  have g7 : H4[A.b]? = h[A.b]? := by rw [q4]; simp [List.getElem?_set, n1, n2, lt]
  rw [← q4] at e4 e5 a4 a5 b5
  by_cases q : x < span
  · refine ⟨H4.set A.b X5, ?_, ⟨⟨?_, ?_, ?_, ?_, ?_, ?_, ?_, P.p.nd⟩, a5, P.ni⟩, fr4.trans (Fr.set _ (by simp [Ad.all]))⟩
    · unfold ksO ksFs at *
      unfold F_Keepsake_put
      simp [fn_s, ks_lk, o, a1, a2, a3, a4, b1, b2, b3, b4, b5, e1, e2, e3, e4, e5, q]
    · rw [List.getElem?_set_ne (by simp [n2]), g1, x1]; rfl
    · rw [List.getElem?_set_ne (by simp [n2]), g5]; exact P.p.w
    · rw [List.getElem?_set_ne (by simp [n2]), g2, x2]; rfl
    · rw [List.getElem?_set_ne (by simp [n2]), g6]; exact P.p.d
    · rw [List.getElem?_set_ne (by simp [n2]), g3, x3]; rfl
    · rw [List.getElem?_set_ne (by simp [n2]), g4, x4]; rfl
    · rw [List.getElem?_set_self (by rw [fr4.1]; simp [lt]), x5]; simp [KS.put, q]
  · refine ⟨H4, ?_, ⟨⟨?_, ?_, ?_, ?_, ?_, ?_, ?_, P.p.nd⟩, a4, P.ni⟩, fr4⟩
    · unfold ksO ksFs at *
      unfold F_Keepsake_put
      simp [fn_s, ks_lk, o, a1, a2, a3, a4, b1, b2, b3, b4, b5, e1, e2, e3, e4, q]
    · rw [g1, x1]; rfl
    · rw [g5]; exact P.p.w
    · rw [g2, x2]; rfl
    · rw [g6]; exact P.p.d
    · rw [g3, x3]; rfl
    · rw [g4, x4]; rfl
    · rw [g7, P.p.b]; simp [KS.put, q]
end PX

/-! Taking, idling, beginning. -/
namespace PX
open PySem PySem.Spec PyProof.Rows L2 PL
theorem kp_take_v {room : Nat} {reach span : Int} {K : KS} {r : Nat} {A : Ad} {h : List LO} (P : Kp room reach span K r A h) (L : Lim room reach K) {x w : Int} (g : GRow (1, x, w)) :
    ∃ h', F_Keepsake_take [.val (.obj r), .val (.int x), .val (.int w)] h = .ret (.val .non) h' ∧ Kp room reach span (K.take room reach span x w) r A h' ∧ Fr A h h' := by
  have w0 := g.w0
  have w1 := g.w1
  have t0 := g.t0
  have t1 := g.t1
  simp only at w0 w1 t0 t1
  have r0 := L.r0
  have r1 := L.r1
  have n1 := P.p.nd
  have n2 := nodup_rev P.p.nd
  have n3 := P.ni
  have n4 : ∀ j ∈ A.all, ¬ j = r := fun j m e => P.ni (by rw [← e]; exact m)
  have lt := P.p.lt
  simp only [Ad.all, List.nodup_cons, List.mem_cons, List.not_mem_nil, or_false, not_or, List.nodup_nil, List.reverse_cons, List.reverse_nil, List.nil_append, List.cons_append, List.forall_mem_cons, and_true, not_false_eq_true] at n1 n2 n3 n4 lt
  obtain ⟨X1, x1⟩ : ∃ X, X = frqO room (K.fw.add room x w) := ⟨_, rfl⟩
  obtain ⟨X2, x2⟩ : ∃ X, X = rsO room (K.rd.add room x w) := ⟨_, rfl⟩
  obtain ⟨X3, x3⟩ : ∃ X, X = winO room reach (K.ck + 1) (settle room (K.ck + 1 - reach) K.bx) := ⟨_, rfl⟩
  obtain ⟨X5, x5⟩ : ∃ X, X = balO span (add4 K.bl (row4 x (-w))) := ⟨_, rfl⟩
  have e1 := frq_add_v A.w room K.fw x w h P.p.w L.okw w0 L.lw
  rw [← x1] at e1
  have e2 := rg_add_v A.d room r0 K.rd.s K.rd.t K.rd.l K.rd.m x w (h.set A.w X1) (sset_ne (by simp [n1]) P.p.d) w0 (by omega) (by have := L.ed; omega) (by have := L.nd; omega)
  rw [show rgO room (addRg room K.rd.s x w) (K.rd.t + w) (loO K.rd.l x) (hiO K.rd.m x) = X2 from x2.symm] at e2
  have e3 := idle_v A.n room reach K.ck 1 K.bx ((h.set A.w X1).set A.d X2) (sset_ne (by simp [n1]) (sset_ne (by simp [n1]) P.p.n)) L.fit (by omega)
  rw [← x3] at e3
  have e5 := take_v A.b span x w K.bl (((h.set A.w X1).set A.d X2).set A.n X3) (sset_ne (by simp [n1]) (sset_ne (by simp [n1]) (sset_ne (by simp [n1]) P.p.b))) (p2000 x t0 (by omega)) (p2000 w (by omega) (by omega))
  rw [← x5] at e5
  have a1 : (h.set A.w X1)[r]? = some (ksO room reach span A) := sset_ne (by simp [n4]) P.o
  have a2 : ((h.set A.w X1).set A.d X2)[r]? = some (ksO room reach span A) := sset_ne (by simp [n4]) a1
  have a4 : (((h.set A.w X1).set A.d X2).set A.n X3)[r]? = some (ksO room reach span A) := sset_ne (by simp [n4]) a2
  have a5 : ((((h.set A.w X1).set A.d X2).set A.n X3).set A.b X5)[r]? = some (ksO room reach span A) := sset_ne (by simp [n4]) a4
  have b1 := P.p.w
  have b2 : (h.set A.w X1)[A.d]? = _ := sset_ne (by simp [n1]) P.p.d
  have b3 : ((h.set A.w X1).set A.d X2)[A.n]? = _ := sset_ne (by simp [n1]) (sset_ne (by simp [n1]) P.p.n)
  have b5 : (((h.set A.w X1).set A.d X2).set A.n X3)[A.b]? = _ := sset_ne (by simp [n1]) (sset_ne (by simp [n1]) (sset_ne (by simp [n1]) P.p.b))
  obtain ⟨f1, y1⟩ : ∃ fs, frqO room K.fw = .ins 8 fs := ⟨_, rfl⟩
  obtain ⟨f2, y2⟩ : ∃ fs, rsO room K.rd = .ins 9 fs := ⟨_, rfl⟩
  obtain ⟨f3, y3⟩ : ∃ fs, winO room reach K.ck K.bx = .ins 6 fs := ⟨_, rfl⟩
  obtain ⟨f5, y5⟩ : ∃ fs, balO span K.bl = .ins 7 fs := ⟨_, rfl⟩
  rw [y1] at b1
  rw [y2] at b2
  rw [y3] at b3
  rw [y5] at b5
  have o := P.o
  obtain ⟨H4, q4⟩ : ∃ H, H = ((h.set A.w X1).set A.d X2).set A.n X3 := ⟨_, rfl⟩
  have fr4 : Fr A h H4 := by
    rw [q4]
    exact ((Fr.set _ (by simp [Ad.all])).trans (Fr.set _ (by simp [Ad.all]))).trans (Fr.set _ (by simp [Ad.all]))
  have g1 : H4[A.w]? = some X1 := by rw [q4]; simp [List.getElem?_set, n1, n2, lt]
  have g2 : H4[A.d]? = some X2 := by rw [q4]; simp [List.getElem?_set, n1, n2, lt]
  have g3 : H4[A.n]? = some X3 := by rw [q4]; simp [List.getElem?_set, n1, n2, lt]
  have g4 : H4[A.s]? = h[A.s]? := by rw [q4]; simp [List.getElem?_set, n1, n2, lt]
  have g5 : H4[A.c]? = h[A.c]? := by rw [q4]; simp [List.getElem?_set, n1, n2, lt]
  have g6 : H4[A.u]? = h[A.u]? := by rw [q4]; simp [List.getElem?_set, n1, n2, lt]
  have g7 : H4[A.b]? = h[A.b]? := by rw [q4]; simp [List.getElem?_set, n1, n2, lt]
  rw [← q4] at e3 e5 a4 a5 b5
  by_cases q : x < span
  · refine ⟨H4.set A.b X5, ?_, ⟨⟨?_, ?_, ?_, ?_, ?_, ?_, ?_, P.p.nd⟩, a5, P.ni⟩, fr4.trans (Fr.set _ (by simp [Ad.all]))⟩
    · unfold ksO ksFs at *
      unfold F_Keepsake_take
      simp [fn_s, ks_lk, o, a1, a2, a4, b1, b2, b3, b5, e1, e2, e3, e5, q]
    · rw [List.getElem?_set_ne (by simp [n2]), g5]; exact P.p.c
    · rw [List.getElem?_set_ne (by simp [n2]), g1, x1]; rfl
    · rw [List.getElem?_set_ne (by simp [n2]), g6]; exact P.p.u
    · rw [List.getElem?_set_ne (by simp [n2]), g2, x2]; rfl
    · rw [List.getElem?_set_ne (by simp [n2]), g3, x3]; rfl
    · rw [List.getElem?_set_ne (by simp [n2]), g4]; exact P.p.s
    · rw [List.getElem?_set_self (by rw [fr4.1]; simp [lt]), x5]; simp [KS.take, q]
  · refine ⟨H4, ?_, ⟨⟨?_, ?_, ?_, ?_, ?_, ?_, ?_, P.p.nd⟩, a4, P.ni⟩, fr4⟩
    · unfold ksO ksFs at *
      unfold F_Keepsake_take
      simp [fn_s, ks_lk, o, a1, a2, a4, b1, b2, b3, b5, e1, e2, e3, q]
    · rw [g5]; exact P.p.c
    · rw [g1, x1]; rfl
    · rw [g6]; exact P.p.u
    · rw [g2, x2]; rfl
    · rw [g3, x3]; rfl
    · rw [g4]; exact P.p.s
    · rw [g7, P.p.b]; simp [KS.take, q]
theorem kp_idle_v {room : Nat} {reach span : Int} {K : KS} {r : Nat} {A : Ad} {h : List LO} (P : Kp room reach span K r A h) (L : Lim room reach K) {w : Int} :
    ∃ h', F_Keepsake_idle [.val (.obj r), .val (.int w)] h = .ret (.val .non) h' ∧ Kp room reach span (K.idle room reach w) r A h' ∧ Fr A h h' := by
  have r1 := L.r1
  have n1 := P.p.nd
  have n2 := nodup_rev P.p.nd
  have n4 : ∀ j ∈ A.all, ¬ j = r := fun j m e => P.ni (by rw [← e]; exact m)
  have lt := P.p.lt
  simp only [Ad.all, List.nodup_cons, List.mem_cons, List.not_mem_nil, or_false, not_or, List.nodup_nil, List.reverse_cons, List.reverse_nil, List.nil_append, List.cons_append, List.forall_mem_cons, and_true, not_false_eq_true] at n1 n2 n4 lt
  have e3 := idle_v A.n room reach K.ck w K.bx h P.p.n L.fit (by omega)
  have o := P.o
  have b3 := P.p.n
  obtain ⟨f3, y3⟩ : ∃ fs, winO room reach K.ck K.bx = .ins 6 fs := ⟨_, rfl⟩
  rw [y3] at b3
  refine ⟨_, ?_, ⟨⟨?_, ?_, ?_, ?_, ?_, ?_, ?_, P.p.nd⟩, ?_, P.ni⟩, Fr.set (winO room reach (K.ck + w) (settle room (K.ck + w - reach) K.bx)) (i := A.n) (by simp [Ad.all])⟩
  · unfold ksO ksFs at *
    unfold F_Keepsake_idle
    simp [fn_s, ks_lk, o, b3, e3]
  · rw [List.getElem?_set_ne (by simp [n2])]; exact P.p.c
  · rw [List.getElem?_set_ne (by simp [n2])]; exact P.p.w
  · rw [List.getElem?_set_ne (by simp [n2])]; exact P.p.u
  · rw [List.getElem?_set_ne (by simp [n2])]; exact P.p.d
  · rw [List.getElem?_set_self (by simp [lt])]; rfl
  · rw [List.getElem?_set_ne (by simp [n1])]; exact P.p.s
  · rw [List.getElem?_set_ne (by simp [n1])]; exact P.p.b
  · rw [List.getElem?_set_ne (by simp [n4])]; exact o
noncomputable def ad (n : Nat) : Ad := ⟨n, n + 1, n + 2, n + 3, n + 4, n + 5, n + 6⟩
/-- the parts as they begin -/
noncomputable def newP (room : Nat) (reach span : Int) : List LO := [frqO room .zero, frqO room .zero, rsO room .zero, rsO room .zero, winO room reach 0 [], disS room [] 0, balO span zero4]
theorem kp_init_v (r room : Nat) (reach span : Int) (h : List LO) (hr : h[r]? = some (.ins 12 [])) :
    F_Keepsake_init [.val (.obj r), .val (.int (room : Nat)), .val (.int reach), .val (.int span)] h = .ret (.val .non) (h.set r (ksO room reach span (ad h.length)) ++ newP room reach span) := by
  have rl := (List.getElem?_eq_some_iff.mp hr).1
  have s1 : ∀ (a b : LO) (xs : List LO), (h.set r a ++ xs).set r b = h.set r b ++ xs := fun a b xs => by
    rw [List.set_append_left _ _ (by simpa using rl), List.set_set]
  have s2 : ∀ (a : LO) (xs : List LO), (h.set r a ++ xs)[r]? = some a := fun a xs => by
    rw [List.getElem?_append_left (by simpa using rl)]; simp [rl]
  have s3 : ∀ (a : LO), (h.set r a)[r]? = some a := fun a => by simp [rl]
  have i1 : ∀ a, F_Frequent_init [.val (.obj h.length), .val (.int (room : Nat))] (h.set r a ++ [.ins 8 []]) = .ret (.val .non) (h.set r a ++ [frqO room .zero]) := fun a => by
    rw [frq_init_v _ _ _ (by simp)]; simp
  have i2 : ∀ a b, F_Frequent_init [.val (.obj (h.length + 1)), .val (.int (room : Nat))] (h.set r a ++ [b, .ins 8 []]) = .ret (.val .non) (h.set r a ++ [b, frqO room .zero]) := fun a b => by
    rw [frq_init_v _ _ _ (by simp)]; simp
  have i3 : ∀ a b c, F_Rungs_init [.val (.obj (h.length + 2)), .val (.int (room : Nat))] (h.set r a ++ [b, c, .ins 9 []]) = .ret (.val .non) (h.set r a ++ [b, c, rsO room .zero]) := fun a b c => by
    rw [rg_init_v _ _ _ (by simp)]; simp [rsO, RS.zero]
  have i4 : ∀ a b c d, F_Rungs_init [.val (.obj (h.length + 3)), .val (.int (room : Nat))] (h.set r a ++ [b, c, d, .ins 9 []]) = .ret (.val .non) (h.set r a ++ [b, c, d, rsO room .zero]) := fun a b c d => by
    rw [rg_init_v _ _ _ (by simp)]; simp [rsO, RS.zero]
  have i5 : ∀ a b c d e, F_Window_init [.val (.obj (h.length + 4)), .val (.int (room : Nat)), .val (.int reach)] (h.set r a ++ [b, c, d, e, .ins 6 []]) = .ret (.val .non) (h.set r a ++ [b, c, d, e, winO room reach 0 []]) := fun a b c d e => by
    rw [init_v _ _ _ _ (by simp)]; simp
  have i6 : ∀ a b c d e f, F_Distinct_init [.val (.obj (h.length + 5)), .val (.int (room : Nat))] (h.set r a ++ [b, c, d, e, f, .ins 10 []]) = .ret (.val .non) (h.set r a ++ [b, c, d, e, f, disS room [] 0]) := fun a b c d e f => by
    rw [dis_new_v _ _ _ (by simp)]; simp
  have i7 : ∀ a b c d e f g, F_Balance_init [.val (.obj (h.length + 6)), .val (.int span)] (h.set r a ++ [b, c, d, e, f, g, .ins 7 []]) = .ret (.val .non) (h.set r a ++ [b, c, d, e, f, g, balO span zero4]) := fun a b c d e f g => by
    rw [bal_init_v _ _ _ (by simp)]; simp
  unfold F_Keepsake_init ksO ksFs newP ad
  simp [fn_s, hr, s1, s2, s3, i1, i2, i3, i4, i5, i6, i7]
end PX

/-! PyLite, part zi: except clauses with a name and a suite of any kind. -/
namespace PLR
open PySem PySem.Spec PyProof.Rows L2
section
variable {X : Cx} {pins : List (Addr × Obj)} {σ : L2.St} {H : Hp} {s : Shared}
end
section
variable {X : Cx} {x n : Str} {c : Value} {i : Nat} {body suite : List Stmt} {b₀ : Stmt} {np pos pos' : Pos} {tb : WX → TS} {ts : Addr → Value → Option Addr → TS} {Wout : WX}
end
end PLR
namespace PL
open PySem PySem.Spec PyProof.Rows L2
section
variable {Γ : Tab} {W : WX} {Z : Hp} {Lt : Lend} {g g' : GM} {st st' : LS} {σ σ' : L2.St} {H H' : Hp} {X : Cx} {pos pos2 : Pos} {sts body : List Stmt} {f1 f2 : S} {D0 : Ends}
end
end PL

namespace PX
open PySem PySem.Spec PyProof.Rows L2 PL
@[irreducible] noncomputable def B_kfar_back_0 : S :=
  sSet 0 (eBin mMod (eBin mMul (vVar 0) (eBin mSub (eC (.int 2)) (eBin mMul (eC (.int 770093176312745717)) (vVar 0)))) (eC (.int 1152921504606846976)))
@[irreducible] noncomputable def F_kfar_back : Fn := fn 2 <|
  sSeq (sSet 0 (eC (.int 770093176312745717))) <|
  sSeq (sFor (iRg1 (eC (.int 5))) (tgN 1) (PX.B_kfar_back_0)) <|
  sRet (eVar 0)
@[irreducible] noncomputable def F_kthing_by : Fn := fn 3 <|
  sSeq (sSet 1 (eBin mMod (vVar 0) (eC (.int 4)))) <|
  sSeq (sIf (tst (eBin mLt (vVar 1) (eC (.int 2)))) (sRet (eBin mMod (eBin mDiv (vVar 0) (eC (.int 4))) (eBin mIx (eLst (eCons (eC (.int 7)) (eCons (eC (.int 60)) (eNil)))) (vVar 1)))) (sNx)) <|
  sSeq (sIf (tst (eBin mEq (vVar 1) (eC (.int 2)))) (sRet (eBin mMod (eBin mMul (eBin mDiv (vVar 0) (eC (.int 4))) (eC (.int 2862933555777941757))) (eC (.int 1152921504606846976)))) (sNx)) <|
  sSeq (sSet 2 (eBin mShl (eBin mAdd (eC (.int 1)) (eBin mMod (eBin mDiv (vVar 0) (eC (.int 4))) (eC (.int 40)))) (eBin mMod (eBin mDiv (vVar 0) (eC (.int 160))) (eC (.int 50))))) <|
  sRet (eBin mMod (eBin mMul (vVar 2) (eCall PX.F_kfar_back (aNil))) (eC (.int 1152921504606846976)))
@[irreducible] noncomputable def F_kweight_by : Fn := fn 1 <|
  sSeq (sIf (tst (eBin mEq (eBin mMod (vVar 0) (eC (.int 5))) (eC (.int 0)))) (sRet (eBin mAdd (eC (.int 1)) (eBin mMod (eBin mMul (eBin mDiv (vVar 0) (eC (.int 5))) (eC (.int 48271))) (eC (.int 1000000000000))))) (sNx)) <|
  sRet (eBin mAdd (eC (.int 1)) (eBin mMod (eBin mDiv (vVar 0) (eC (.int 5))) (eC (.int 12))))
@[irreducible] noncomputable def F_krow_by : Fn := fn 4 <|
  sSeq (sSet 1 (eBin mIx (eLst (eCons (eC (.int 0)) (eCons (eC (.int 0)) (eCons (eC (.int 0)) (eCons (eC (.int 0)) (eCons (eC (.int 1)) (eCons (eC (.int 1)) (eCons (eC (.int 2)) (eNil))))))))) (eBin mMod (vVar 0) (eC (.int 7))))) <|
  sSeq (sSet 2 (eCall PX.F_kthing_by (aCons (aV (eCall PX.F_mix (aCons (aL 0) (aCons (aV (eC (.int 6364136223846793005))) (aCons (aV (eC (.int 18446744073709551557))) (aNil)))))) (aNil)))) <|
  sSeq (sSet 3 (eCall PX.F_kweight_by (aCons (aV (eCall PX.F_mix (aCons (aL 0) (aCons (aV (eC (.int 69621))) (aCons (aV (eC (.int 2147483629))) (aNil)))))) (aNil)))) <|
  sRet (eTup (eCons (eVar 1) (eCons (eVar 2) (eCons (eVar 3) (eNil)))))
@[irreducible] noncomputable def F_kdone : Fn := fn 2 <|
  sIf (tst (eBin mEq (eBin mIx (vVar 1) (eC (.int 0))) (eC (.int 0)))) (sEx (eMeth 3 [(12, PX.F_Keepsake_put)] (eVar 0) (aCons (aV (eBin mIx (vVar 1) (eC (.int 1)))) (aCons (aV (eBin mIx (vVar 1) (eC (.int 2)))) (aNil))))) (sIf (tst (eBin mEq (eBin mIx (vVar 1) (eC (.int 0))) (eC (.int 1)))) (sEx (eMeth 3 [(12, PX.F_Keepsake_take)] (eVar 0) (aCons (aV (eBin mIx (vVar 1) (eC (.int 1)))) (aCons (aV (eBin mIx (vVar 1) (eC (.int 2)))) (aNil))))) (sEx (eMeth 2 [(12, PX.F_Keepsake_idle)] (eVar 0) (aCons (aV (eBin mIx (vVar 1) (eC (.int 2)))) (aNil)))))
@[irreducible] noncomputable def F_kshape_by : Fn := fn 4 <|
  sSeq (sSet 1 (eBin mIx (eLst (eCons (eC (.int 2)) (eCons (eC (.int 4)) (eCons (eC (.int 2)) (eCons (eC (.int 6)) (eCons (eC (.int 8)) (eCons (eC (.int 64)) (eNil)))))))) (eBin mMod (vVar 0) (eC (.int 6))))) <|
  sSeq (sSet 2 (eBin mIx (eLst (eCons (eC (.int 1000000000)) (eCons (eBin mAdd (eC (.int 1)) (eBin mMod (eBin mDiv (vVar 0) (eC (.int 6))) (eC (.int 9)))) (eCons (eBin mAdd (eC (.int 1)) (eBin mMod (eBin mDiv (vVar 0) (eC (.int 6))) (eC (.int 1000000)))) (eNil))))) (eBin mMod (eBin mDiv (vVar 0) (eC (.int 6))) (eC (.int 3))))) <|
  sSeq (sSet 3 (eBin mIx (eLst (eCons (eBin mAdd (eC (.int 1)) (eBin mMod (eBin mDiv (vVar 0) (eC (.int 18))) (eC (.int 9)))) (eCons (eC (.int 60)) (eCons (eC (.int 1000000000)) (eNil))))) (eBin mMod (eBin mDiv (vVar 0) (eC (.int 18))) (eC (.int 3))))) <|
  sRet (eTup (eCons (eVar 1) (eCons (eVar 2) (eCons (eVar 3) (eNil)))))
end PX

/-! What the drawing functions of the keepsakes' laws tell; a row done. -/
namespace PX
open PySem PySem.Spec PyProof.Rows L2 PL
theorem rg5 : rangeD 0 5 = [.int 0, .int 1, .int 2, .int 3, .int 4] := rfl
noncomputable def rowD (r : R3) : D := .tup [.int r.1, .int r.2.1, .int r.2.2]
theorem at7 (a b c d e f g : D) : PL.atD [a, b, c, d, e, f, g] 0 = some a ∧ PL.atD [a, b, c, d, e, f, g] 1 = some b ∧ PL.atD [a, b, c, d, e, f, g] 2 = some c ∧ PL.atD [a, b, c, d, e, f, g] 3 = some d ∧ PL.atD [a, b, c, d, e, f, g] 4 = some e ∧ PL.atD [a, b, c, d, e, f, g] 5 = some f ∧ PL.atD [a, b, c, d, e, f, g] 6 = some g := ⟨rfl, rfl, rfl, rfl, rfl, rfl, rfl⟩
/-- a shape as it may be -/
structure Shp (room : Nat) (reach span : Int) : Prop where
  r1 : room % 2 = 0
  r2 : 2 ≤ room
  r3 : room ≤ 64
  e0 : 1 ≤ reach
  e1 : reach ≤ 1000000000
  s0 : 1 ≤ span
  s1 : span ≤ 1000000000
theorem six_v {P : Int → Prop} (c : Int) {a0 a1 a2 a3 a4 a5 : Int} (h : P a0 ∧ P a1 ∧ P a2 ∧ P a3 ∧ P a4 ∧ P a5) : ∃ v, PL.atD [D.int a0, .int a1, .int a2, .int a3, .int a4, .int a5] (c % 6) = some (.int v) ∧ P v := by
  obtain ⟨h0, h1, h2, h3, h4, h5⟩ := h
  have a6 := at6 (.int a0) (.int a1) (.int a2) (.int a3) (.int a4) (.int a5)
  have key : c % 6 = 0 ∨ c % 6 = 1 ∨ c % 6 = 2 ∨ c % 6 = 3 ∨ c % 6 = 4 ∨ c % 6 = 5 := by omega
  rcases key with e | e | e | e | e | e <;> rw [e]
  · exact ⟨_, a6.1, h0⟩
  · exact ⟨_, a6.2.1, h1⟩
  · exact ⟨_, a6.2.2.1, h2⟩
  · exact ⟨_, a6.2.2.2.1, h3⟩
  · exact ⟨_, a6.2.2.2.2.1, h4⟩
  · exact ⟨_, a6.2.2.2.2.2, h5⟩
theorem three_v {P : Int → Prop} (c : Int) {a0 a1 a2 : Int} (h : P a0 ∧ P a1 ∧ P a2) : ∃ v, PL.atD [D.int a0, .int a1, .int a2] (c % 3) = some (.int v) ∧ P v := by
  obtain ⟨h0, h1, h2⟩ := h
  have a6 := at3 (.int a0) (.int a1) (.int a2)
  have key : c % 3 = 0 ∨ c % 3 = 1 ∨ c % 3 = 2 := by omega
  rcases key with e | e | e <;> rw [e]
  · exact ⟨_, a6.1, h0⟩
  · exact ⟨_, a6.2.1, h1⟩
  · exact ⟨_, a6.2.2, h2⟩
theorem kshape_v (c : Int) (h : List LO) : ∃ (room : Nat) (reach span : Int), F_kshape_by [.val (.int c)] h = .ret (.val (.tup [.int (room : Nat), .int reach, .int span])) h ∧ Shp room reach span := by
  obtain ⟨v, ev, v1, v2, v3⟩ := six_v (P := fun v => v % 2 = 0 ∧ 2 ≤ v ∧ v ≤ 64) c (a0 := 2) (a1 := 4) (a2 := 2) (a3 := 6) (a4 := 8) (a5 := 64) (by decide)
  obtain ⟨r, er, r1, r2⟩ := three_v (P := fun v => 1 ≤ v ∧ v ≤ 1000000000) (c / 6) (a0 := 1000000000) (a1 := 1 + c / 6 % 9) (a2 := 1 + c / 6 % 1000000) (by omega)
  obtain ⟨s, es, s1, s2⟩ := three_v (P := fun v => 1 ≤ v ∧ v ≤ 1000000000) (c / 18) (a0 := 1 + c / 18 % 9) (a1 := 60) (a2 := 1000000000) (by omega)
  obtain ⟨n, rfl⟩ : ∃ n : Nat, v = (n : Int) := ⟨v.toNat, by omega⟩
  refine ⟨n, r, s, ?_, by omega, by omega, by omega, r1, r2, s1, s2⟩
  unfold F_kshape_by
  simp [fn_s, ev, er, es]
theorem kp_done_v {room : Nat} {reach span : Int} {K : KS} {r : Nat} {A : Ad} {h : List LO} (P : Kp room reach span K r A h) (L : Lim room reach K) {q : R3} (g : GRow q) :
    ∃ h', F_kdone [.val (.obj r), .val (rowD q)] h = .ret (.val .non) h' ∧ Kp room reach span (K.done room reach span q) r A h' ∧ Fr A h h' := by
  obtain ⟨a, x, w⟩ := q
  have a3 := at3 (.int a) (.int x) (.int w)
  have o := P.o
  unfold F_kdone
  rcases g.k with e | e | e <;> simp only at e <;> subst e
  · obtain ⟨h', e, p, f⟩ := kp_put_v P L g
    unfold ksO at o
    exact ⟨h', by simp [fn_s, rowD, a3, o, e], p, f⟩
  · obtain ⟨h', e, p, f⟩ := kp_take_v P L g
    unfold ksO at o
    exact ⟨h', by simp [fn_s, rowD, a3, o, e], p, f⟩
  · obtain ⟨h', e, p, f⟩ := kp_idle_v P L (w := w)
    unfold ksO at o
    exact ⟨h', by simp [fn_s, rowD, a3, o, e], p, f⟩
noncomputable def newK (room : Nat) (reach span : Int) (n : Nat) : List LO := ksO room reach span (ad (n + 1)) :: newP room reach span
theorem kp_make_v (room : Nat) (reach span : Int) (h : List LO) : F_Keepsake_init [.val (.obj h.length), .val (.int (room : Nat)), .val (.int reach), .val (.int span)] (h ++ [.ins 12 []]) = .ret (.val .non) (h ++ newK room reach span h.length) := by
  rw [kp_init_v h.length room reach span _ (happ _ _), hset_end]
  simp [newK]
theorem ad_all (n : Nat) : (ad n).all = [n, n + 1, n + 2, n + 3, n + 4, n + 5, n + 6] := rfl
theorem pp_new (room : Nat) (reach span : Int) (h xs : List LO) : Pp room reach span .zero (ad h.length) (h ++ (newP room reach span ++ xs)) :=
  ⟨by simp [ad, newP, KS.zero], by simp [ad, newP, KS.zero], by simp [ad, newP, KS.zero], by simp [ad, newP, KS.zero], by simp [ad, newP, KS.zero], by simp [ad, newP, KS.zero], by simp [ad, newP, KS.zero], by simp [ad_all]⟩
theorem kp_new (room : Nat) (reach span : Int) (h xs : List LO) : Kp room reach span .zero h.length (ad (h.length + 1)) (h ++ (newK room reach span h.length ++ xs)) := by
  refine ⟨?_, by simp [newK], by simp [ad_all]; omega⟩
  have := pp_new room reach span (h ++ [ksO room reach span (ad (h.length + 1))]) xs
  simpa [newK] using this
end PX

namespace PX
open PySem PySem.Spec PyProof.Rows L2 PL
@[irreducible] noncomputable def F_empty_like : Fn := fn 1 <|
  sRet (eMake 4 12 PX.F_Keepsake_init (aCons (aF 0 (eVar 0)) (aCons (aF 1 (eVar 0)) (aCons (aF 4 (eVar 0)) (aNil)))))
@[irreducible] noncomputable def F_poured : Fn := fn 3 <|
  sSeq (sIf (tst (eBin mNe (eTup (eCons (eFld 0 (eVar 0)) (eCons (eFld 1 (eVar 0)) (eCons (eFld 4 (eVar 0)) (eNil))))) (eTup (eCons (eFld 0 (eVar 1)) (eCons (eFld 1 (eVar 1)) (eCons (eFld 4 (eVar 1)) (eNil))))))) (sRaise 1) (sNx)) <|
  sSeq (sSet 2 (eCall PX.F_empty_like (aCons (aL 0) (aNil)))) <|
  sSeq (sFld 18 [12] (eVar 2) (eCall PX.F_poured_frequent (aCons (aF 18 (eVar 0)) (aCons (aF 18 (eVar 1)) (aNil))))) <|
  sSeq (sFld 19 [12] (eVar 2) (eCall PX.F_poured_frequent (aCons (aF 19 (eVar 0)) (aCons (aF 19 (eVar 1)) (aNil))))) <|
  sSeq (sFld 20 [12] (eVar 2) (eCall PX.F_poured_rungs (aCons (aF 20 (eVar 0)) (aCons (aF 20 (eVar 1)) (aNil))))) <|
  sSeq (sFld 21 [12] (eVar 2) (eCall PX.F_poured_rungs (aCons (aF 21 (eVar 0)) (aCons (aF 21 (eVar 1)) (aNil))))) <|
  sSeq (sFld 22 [12] (eVar 2) (eCall PX.F_followed (aCons (aF 22 (eVar 0)) (aCons (aF 22 (eVar 1)) (aNil))))) <|
  sSeq (sFld 23 [12] (eVar 2) (eCall PX.F_poured_distinct (aCons (aF 23 (eVar 0)) (aCons (aF 23 (eVar 1)) (aNil))))) <|
  sSeq (sFld 24 [12] (eVar 2) (eCall PX.F_poured_balance (aCons (aF 24 (eVar 0)) (aCons (aF 24 (eVar 1)) (aNil))))) <|
  sRet (eVar 2)
end PX

/-! Keepsakes poured. -/
namespace PX
open PySem PySem.Spec PyProof.Rows L2 PL
section
variable {room : Nat} {reach span : Int}
theorem kp_like_v {K : KS} {r : Nat} {A : Ad} {h : List LO} (P : Kp room reach span K r A h) : F_empty_like [.val (.obj r)] h = .ret (.val (.obj h.length)) (h ++ newK room reach span h.length) := by
  have o := P.o
  have lk := ks_lk
  have mk := kp_make_v room reach span h
  unfold ksO ksFs at o
  unfold F_empty_like
  simp [fn_s, o, lk, mk]
/-- the parts of two poured -/
noncomputable def purP (room : Nat) (reach span : Int) (K : KS) : List LO := [frqO room K.fc, frqO room K.fw, rsO room K.ru, rsO room K.rd, winO room reach K.ck K.bx, disS room K.sn K.ar, balO span K.bl]
/-- what pouring leaves behind the heap -/
noncomputable def purK (room : Nat) (reach span : Int) (n : Nat) (K : KS) : List LO := ksO room reach span (ad (n + 8)) :: (newP room reach span ++ purP room reach span K)
theorem pp_pur (K : KS) (h xs : List LO) : Pp room reach span K (ad h.length) (h ++ (purP room reach span K ++ xs)) :=
  ⟨by simp [ad, purP], by simp [ad, purP], by simp [ad, purP], by simp [ad, purP], by simp [ad, purP], by simp [ad, purP], by simp [ad, purP], by simp [ad_all]⟩
theorem kp_pur (K : KS) (h xs : List LO) : Kp room reach span K h.length (ad (h.length + 8)) (h ++ (purK room reach span h.length K ++ xs)) := by
  refine ⟨?_, by simp [purK], by simp [ad_all]; omega⟩
  have := pp_pur (room := room) (reach := reach) (span := span) K (h ++ (ksO room reach span (ad (h.length + 8)) :: newP room reach span)) xs
  simpa [purK, newP] using this
end
end PX

/-! Pouring with an empty keepsake changes nothing; keepsakes made and poured, as steps. -/
namespace PX
open PySem PySem.Spec PyProof.Rows L2 PL
/-! ### steps -/
theorem ad_out {m r : Nat} (h : r < m ∨ m + 7 ≤ r) : r ∉ (ad m).all := by
  simp [ad_all]; omega
theorem make_ex (room : Nat) (reach span : Int) (h : List LO) : ∃ H1 xs, F_Keepsake_init [.val (.obj h.length), .val (.int (room : Nat)), .val (.int reach), .val (.int span)] (h ++ [.ins 12 []]) = .ret (.val .non) H1 ∧ H1 = h ++ xs ∧ xs.length = 8 ∧ Kp room reach span .zero h.length (ad (h.length + 1)) H1 := by
  have k := kp_new room reach span h []
  rw [List.append_nil] at k
  exact ⟨_, _, kp_make_v room reach span h, rfl, rfl, k⟩
end PX

/-! Keepsakes poured, with no more asked than the pouring needs. -/
namespace PX
open PySem PySem.Spec PyProof.Rows L2 PL
section
variable {room : Nat} {reach span : Int}
structure Pok (room : Nat) (reach : Int) (K L : KS) : Prop where
  k : Lim room reach K
  l : Lim room reach L
  fit : Fit (joinB K.ck K.bx L.bx)
  sl : K.sn.length + L.sn.length ≤ 4000
theorem kp_pour_p {K L : KS} {r q : Nat} {A B : Ad} {h : List LO} (P : Kp room reach span K r A h) (Q : Kp room reach span L q B h) (o : Pok room reach K L) :
    F_poured [.val (.obj r), .val (.obj q)] h = .ret (.val (.obj h.length)) (h ++ purK room reach span h.length (K.pour room reach L)) := by
  have LK := o.k
  have LL := o.l
  have e0 := kp_like_v P
  have hx : newK room reach span h.length = ksO room reach span (ad (h.length + 1)) :: newP room reach span := rfl
  rw [hx] at e0
  obtain ⟨N, hN⟩ : ∃ N, N = newP room reach span := ⟨_, rfl⟩
  have hNl : N.length = 7 := by rw [hN]; rfl
  rw [← hN] at e0
  have fit := o.fit
  have r3 := o.k.r1
  have sl := o.sl
  have c1 : ∀ (oo : LO) (xs : List LO), F_poured_frequent [.val (.obj A.c), .val (.obj B.c)] (h ++ oo :: (N ++ xs)) = .ret (.val (.obj (h.length + 8 + xs.length))) (h ++ oo :: (N ++ (xs ++ [frqO room (K.fc.pour room L.fc)]))) := fun oo xs => by
    rw [frq_pour_v A.c B.c room K.fc L.fc _ (P.p.app _).c (Q.p.app _).c LK.okc LL.okc LK.lc LL.lc]
    simp [hNl]; omega
  have c2 : ∀ (oo : LO) (xs : List LO), F_poured_frequent [.val (.obj A.w), .val (.obj B.w)] (h ++ oo :: (N ++ xs)) = .ret (.val (.obj (h.length + 8 + xs.length))) (h ++ oo :: (N ++ (xs ++ [frqO room (K.fw.pour room L.fw)]))) := fun oo xs => by
    rw [frq_pour_v A.w B.w room K.fw L.fw _ (P.p.app _).w (Q.p.app _).w LK.okw LL.okw LK.lw LL.lw]
    simp [hNl]; omega
  have c3 : ∀ (oo : LO) (xs : List LO), F_poured_rungs [.val (.obj A.u), .val (.obj B.u)] (h ++ oo :: (N ++ xs)) = .ret (.val (.obj (h.length + 8 + xs.length))) (h ++ oo :: (N ++ (xs ++ [rsO room (K.ru.pour room L.ru)]))) := fun oo xs => by
    rw [rg_pour_v A.u B.u room LK.r0 K.ru.s L.ru.s K.ru.t L.ru.t K.ru.l K.ru.m L.ru.l L.ru.m _ (P.p.app _).u (Q.p.app _).u LK.eu LL.eu LK.nu LL.nu]
    simp [hNl, rsO, RS.pour]; omega
  have c4 : ∀ (oo : LO) (xs : List LO), F_poured_rungs [.val (.obj A.d), .val (.obj B.d)] (h ++ oo :: (N ++ xs)) = .ret (.val (.obj (h.length + 8 + xs.length))) (h ++ oo :: (N ++ (xs ++ [rsO room (K.rd.pour room L.rd)]))) := fun oo xs => by
    rw [rg_pour_v A.d B.d room LK.r0 K.rd.s L.rd.s K.rd.t L.rd.t K.rd.l K.rd.m L.rd.l L.rd.m _ (P.p.app _).d (Q.p.app _).d LK.ed LL.ed LK.nd LL.nd]
    simp [hNl, rsO, RS.pour]; omega
  have c5 : ∀ (oo : LO) (xs : List LO), F_followed [.val (.obj A.n), .val (.obj B.n)] (h ++ oo :: (N ++ xs)) = .ret (.val (.obj (h.length + 8 + xs.length))) (h ++ oo :: (N ++ (xs ++ [winO room reach (K.ck + L.ck) (settle room (K.ck + L.ck - reach) (joinB K.ck K.bx L.bx))]))) := fun oo xs => by
    rw [followed_v A.n B.n room reach K.ck L.ck K.bx L.bx _ (P.p.app _).n (Q.p.app _).n fit (by omega)]
    simp [hNl]; omega
  have c6 : ∀ (oo : LO) (xs : List LO), F_poured_distinct [.val (.obj A.s), .val (.obj B.s)] (h ++ oo :: (N ++ xs)) = .ret (.val (.obj (h.length + 8 + xs.length))) (h ++ oo :: (N ++ (xs ++ [disS room (unT K.sn L.sn) (K.ar + L.ar)]))) := fun oo xs => by
    rw [dis_pour_v A.s B.s room K.ar L.ar K.sn L.sn _ (P.p.app _).s (Q.p.app _).s LK.th LL.th (by omega)]
    simp [hNl]; omega
  have c7 : ∀ (oo : LO) (xs : List LO), F_poured_balance [.val (.obj A.b), .val (.obj B.b)] (h ++ oo :: (N ++ xs)) = .ret (.val (.obj (h.length + 8 + xs.length))) (h ++ oo :: (N ++ (xs ++ [balO span (add4 K.bl L.bl)]))) := fun oo xs => by
    rw [pour_v A.b B.b span K.bl L.bl _ (P.p.app _).b (Q.p.app _).b]
    simp [hNl]; omega
  have c1 := fun oo => c1 oo []
  simp only [List.append_nil, List.nil_append, List.length_nil, Nat.add_zero] at c1
  have o1 := P.o
  have o2 := Q.o
  have p1 : ∀ xs, (h ++ xs)[r]? = some (ksO room reach span A) := fun xs => (P.app xs).o
  have p2 : ∀ xs, (h ++ xs)[q]? = some (ksO room reach span B) := fun xs => (Q.app xs).o
  have st : ∀ (a b : LO) (xs : List LO), (h ++ a :: xs).set h.length b = h ++ b :: xs := fun a b xs => by simp
  have gt : ∀ (a : LO) (xs : List LO), (h ++ a :: xs)[h.length]? = some a := fun a xs => by simp
  have lk := ks_lk
  have eq := deq_refl 20 (.tup [.int (room : Nat), .int reach, .int span]) (by simp)
  unfold ksO ksFs at o1 o2 p1 p2 e0
  unfold purK ksO ksFs purP KS.pour
  rw [← hN]
  unfold F_poured
  simp [fn_s, o1, o2, p1, p2, lk, eq, e0, st, gt, c1, c2, c3, c4, c5, c6, c7, ad]
theorem pour_exp {K L : KS} {r q : Nat} {A B : Ad} {h : List LO} (P : Kp room reach span K r A h) (Q : Kp room reach span L q B h) (o : Pok room reach K L) :
    ∃ H1 xs, F_poured [.val (.obj r), .val (.obj q)] h = .ret (.val (.obj h.length)) H1 ∧ H1 = h ++ xs ∧ xs.length = 15 ∧ Kp room reach span (K.pour room reach L) h.length (ad (h.length + 8)) H1 := by
  have k := kp_pur (room := room) (reach := reach) (span := span) (K.pour room reach L) h []
  rw [List.append_nil] at k
  exact ⟨_, _, kp_pour_p P Q o, rfl, rfl, k⟩
/-- the sums matter nothing to the other parts -/
noncomputable def KS.nb (K : KS) (b : S4) : KS := { K with bl := b }
theorem Lim.nb {K : KS} {b : S4} (l : Lim room reach (K.nb b)) : Lim room reach K := ⟨l.r0, l.r1, l.okc, l.okw, l.lc, l.lw, l.eu, l.ed, l.nu, l.nd, l.fit, l.fitw, l.th, l.tl⟩
end
end PX

/-! Rows drawn, the same on every heap. -/
namespace PX
open PySem PySem.Spec PyProof.Rows L2 PL
theorem far_turn_u (a : Int) (ha : 0 ≤ a ∧ a < 1152921504606846976) : ∃ b, (∀ (x : Option FV) (h : List LO), B_kfar_back_0 ⟨[some (.val (.int a)), x], h⟩ = .nx ⟨[some (.val (.int b)), x], h⟩) ∧ 0 ≤ b ∧ b < 1152921504606846976 := by
  have c1 : CMulX 770093176312745717 a := cmul_of 100 100 (by decide) (by omega)
  have b1 : (770093176312745717 * a).natAbs < 2 ^ 150 := by omega
  have c2 : CMulX a (2 - 770093176312745717 * a) := cmul_of 100 200 (by omega) (by
    have : (2 - 770093176312745717 * a).natAbs < 2 ^ 151 := by omega
    exact Nat.lt_trans this (by decide))
  exact ⟨a * (2 - 770093176312745717 * a) % 1152921504606846976, fun x h => by unfold B_kfar_back_0; simp [c1, c2], Int.emod_nonneg _ (by decide), Int.emod_lt_of_pos _ (by decide)⟩
theorem far_back_u : ∃ v, (∀ h : List LO, F_kfar_back [] h = .ret (.val (.int v)) h) ∧ 0 ≤ v ∧ v < 1152921504606846976 := by
  obtain ⟨a1, e1, h1⟩ := far_turn_u 770093176312745717 (by decide)
  obtain ⟨a2, e2, h2⟩ := far_turn_u a1 h1
  obtain ⟨a3, e3, h3⟩ := far_turn_u a2 h2
  obtain ⟨a4, e4, h4⟩ := far_turn_u a3 h3
  obtain ⟨a5, e5, h5⟩ := far_turn_u a4 h4
  refine ⟨a5, fun h => ?_, h5⟩
  unfold F_kfar_back
  simp [fn_s, rg5, turns, tgN_set, e1, e2, e3, e4, e5]
theorem kthing_u (c : Int) (hb : c.natAbs < 2 ^ 1048576) : ∃ t, (∀ h : List LO, F_kthing_by [.val (.int c)] h = .ret (.val (.int t)) h) ∧ 0 ≤ t ∧ t < 1152921504606846976 := by
  have c1 : CMulX (c / 4) 2862933555777941757 := cmul_of 1048576 100 (Nat.lt_of_le_of_lt (by omega) hb) (by decide)
  obtain ⟨v, ev, v0, v1⟩ := far_back_u
  have key : c % 4 = 0 ∨ c % 4 = 1 ∨ c % 4 = 2 ∨ c % 4 = 3 := by omega
  have a2 := at2 (.int 7) (.int 60)
  unfold F_kthing_by
  rcases key with e | e | e | e
  · exact ⟨c / 4 % 7, fun h => by simp [fn_s, e, a2], by omega, by omega⟩
  · exact ⟨c / 4 % 60, fun h => by simp [fn_s, e, a2], by omega, by omega⟩
  · exact ⟨c / 4 * 2862933555777941757 % 1152921504606846976, fun h => by simp [fn_s, e, c1], Int.emod_nonneg _ (by decide), Int.emod_lt_of_pos _ (by decide)⟩
  · obtain ⟨s, hs, s5⟩ : ∃ s : Nat, (s : Int) = c / 160 % 50 ∧ s < 50 := ⟨(c / 160 % 50).toNat, by omega, by omega⟩
    obtain ⟨m, hm, m0, m1⟩ : ∃ m : Int, m = 1 + c / 4 % 40 ∧ 0 ≤ m ∧ m < 64 := ⟨_, rfl, by omega, by omega⟩
    have c2 : CShl m (s : Int) := cshl_ok 7 (by omega) (by omega) (by omega)
    have p : (2 : Int) ^ s < 2 ^ 50 := by
      have h1 := Nat.pow_lt_pow_right (show 1 < 2 by decide) s5
      have h2 : ((2 ^ s : Nat) : Int) = 2 ^ s := by push_cast; rfl
      omega
    have p0 : (0 : Int) < 2 ^ s := Int.pow_pos (by decide)
    have c3 : CMulX (m * 2 ^ s) v := cmul_of 100 100 (by
      have h1 : m * 2 ^ s ≤ 64 * 2 ^ 50 := Int.mul_le_mul (by omega) (by omega) (by omega) (by decide)
      have h2 : 0 ≤ m * 2 ^ s := Int.mul_nonneg m0 (by omega)
      omega) (by omega)
    exact ⟨m * 2 ^ s * v % 1152921504606846976, fun h => by simp [fn_s, e, ← hs, ← hm, c2, ev, c3], Int.emod_nonneg _ (by decide), Int.emod_lt_of_pos _ (by decide)⟩
theorem kweight_u (c : Int) (h0 : 0 ≤ c) (hb : c < 2 ^ 100) : ∃ w, (∀ h : List LO, F_kweight_by [.val (.int c)] h = .ret (.val (.int w)) h) ∧ 1 ≤ w ∧ w ≤ 1000000000000 := by
  have c1 : CMulX (c / 5) 48271 := cmul_of 100 100 (by omega) (by decide)
  unfold F_kweight_by
  by_cases q : c % 5 = 0
  · exact ⟨1 + c / 5 * 48271 % 1000000000000, fun h => by simp [fn_s, q, c1], by omega, by omega⟩
  · exact ⟨1 + c / 5 % 12, fun h => by simp [fn_s, q], by omega, by omega⟩
theorem krow_u (c : Int) (hb : c.natAbs < 2 ^ 1048600) : ∃ r : R3, (∀ h : List LO, F_krow_by [.val (.int c)] h = .ret (.val (rowD r)) h) ∧ GRow r := by
  have m1 := fun h => mix_v c 6364136223846793005 18446744073709551557 h (cmul_of 1048600 100 hb (by decide)) (by decide)
  have m2 := fun h => mix_v c 69621 2147483629 h (cmul_of 1048600 100 hb (by decide)) (by decide)
  have b1 : 0 ≤ c * 6364136223846793005 % 18446744073709551557 ∧ c * 6364136223846793005 % 18446744073709551557 < 18446744073709551557 := ⟨Int.emod_nonneg _ (by decide), Int.emod_lt_of_pos _ (by decide)⟩
  have b2 : 0 ≤ c * 69621 % 2147483629 ∧ c * 69621 % 2147483629 < 2147483629 := ⟨Int.emod_nonneg _ (by decide), Int.emod_lt_of_pos _ (by decide)⟩
  generalize c * 6364136223846793005 % 18446744073709551557 = x1 at *
  generalize c * 69621 % 2147483629 = x2 at *
  obtain ⟨t, et, t0, t1⟩ := kthing_u x1 (Nat.lt_of_lt_of_le (show x1.natAbs < 2 ^ 100 by omega) (Nat.pow_le_pow_right (by decide) (by decide)))
  obtain ⟨w, ew, w0, w1⟩ := kweight_u x2 b2.1 (by omega)
  have a7 := at7 (.int 0) (.int 0) (.int 0) (.int 0) (.int 1) (.int 1) (.int 2)
  have key : c % 7 = 0 ∨ c % 7 = 1 ∨ c % 7 = 2 ∨ c % 7 = 3 ∨ c % 7 = 4 ∨ c % 7 = 5 ∨ c % 7 = 6 := by omega
  unfold F_krow_by
  rcases key with e | e | e | e | e | e | e
  · exact ⟨(0, t, w), fun h => by simp [fn_s, e, a7, m1, m2, et, ew, rowD], ⟨.inl rfl, t0, t1, w0, w1⟩⟩
  · exact ⟨(0, t, w), fun h => by simp [fn_s, e, a7, m1, m2, et, ew, rowD], ⟨.inl rfl, t0, t1, w0, w1⟩⟩
  · exact ⟨(0, t, w), fun h => by simp [fn_s, e, a7, m1, m2, et, ew, rowD], ⟨.inl rfl, t0, t1, w0, w1⟩⟩
  · exact ⟨(0, t, w), fun h => by simp [fn_s, e, a7, m1, m2, et, ew, rowD], ⟨.inl rfl, t0, t1, w0, w1⟩⟩
  · exact ⟨(1, t, w), fun h => by simp [fn_s, e, a7, m1, m2, et, ew, rowD], ⟨.inr (.inl rfl), t0, t1, w0, w1⟩⟩
  · exact ⟨(1, t, w), fun h => by simp [fn_s, e, a7, m1, m2, et, ew, rowD], ⟨.inr (.inl rfl), t0, t1, w0, w1⟩⟩
  · exact ⟨(2, t, w), fun h => by simp [fn_s, e, a7, m1, m2, et, ew, rowD], ⟨.inr (.inr rfl), t0, t1, w0, w1⟩⟩
end PX

namespace PX
open PySem PySem.Spec PyProof.Rows L2 PL
end PX

/-! What off answers: the one list of at most two pairs with the sums that are left. -/
namespace PX
open PySem PySem.Spec PyProof.Rows L2 PL
instance : DecidableEq S4 := fun s t => decidable_of_iff (s.a = t.a ∧ s.b = t.b ∧ s.c = t.c ∧ s.d = t.d) (by cases s; cases t; simp)
/-! ### roots -/
/-- r is n's root -/
noncomputable def Rt (n r : Int) : Prop := 0 ≤ r ∧ r * r ≤ n ∧ n < (r + 1) * (r + 1)
theorem Rt.inj {n a b : Int} (x : Rt n a) (y : Rt n b) : a = b := by
  obtain ⟨x0, x1, x2⟩ := x
  obtain ⟨y0, y1, y2⟩ := y
  rcases Int.lt_trichotomy a b with c | c | c
  · exfalso
    have : (a + 1) * (a + 1) ≤ b * b := Int.mul_le_mul (by omega) (by omega) (by omega) (by omega)
    omega
  · exact c
  · exfalso
    have : (b + 1) * (b + 1) ≤ a * a := Int.mul_le_mul (by omega) (by omega) (by omega) (by omega)
    omega
/-! ### the sums that are due -/
/-! ### pairs -/
noncomputable def tot4 : List (Int × Int) → S4
  | [] => zero4
  | p :: r => add4 (row4 p.1 p.2) (tot4 r)
/-- a list of pairs that off may tell -/
structure Sol (s : S4) (span : Int) (ps : List (Int × Int)) : Prop where
  len : ps.length ≤ 2
  up : ps.Pairwise fun p q => p.1 < q.1
  ok : ∀ p ∈ ps, p.2 ≠ 0 ∧ 0 ≤ p.1 ∧ p.1 < span
  sum : tot4 ps = s
noncomputable def okB (span : Int) (ps : List (Int × Int)) : Bool := ps.all fun p => decide (p.2 ≠ 0 ∧ 0 ≤ p.1 ∧ p.1 < span)
/-! ### the code -/
structure Fit4 (s : S4) : Prop where
  a : s.a.natAbs < 2 ^ 300
  b : s.b.natAbs < 2 ^ 300
  c : s.c.natAbs < 2 ^ 300
  d : s.d.natAbs < 2 ^ 300
end PX

/-! What off tells of things that are off by known numbers. -/
namespace PX
open PySem PySem.Spec PyProof.Rows L2 PL
end PX

namespace PX
open PySem PySem.Spec PyProof.Rows L2 PL
end PX

/-! What a keepsake tells when asked. -/
namespace PX
open PySem PySem.Spec PyProof.Rows L2 PL
section
variable {room : Nat} {reach span : Int} {K : KS} {r : Nat} {A : Ad} {h : List LO}
end
end PX

/-! What of a keepsake does not ask in which order the rows came. -/
namespace PX
open PySem PySem.Spec PyProof.Rows L2 PL
theorem kindR_perm {a b : List R3} (k : Int) (p : a.Perm b) : (kindR k a).Perm (kindR k b) := (p.filter _).map _
theorem wt_perm {a b : List (Int × Int)} (p : a.Perm b) : wt a = wt b := isum_perm (p.map _)
theorem minO_comm (a b : Option Int) : minO a b = minO b a := by
  cases a <;> cases b <;> simp [minO] <;> split <;> (try split) <;> omega
theorem maxO_comm (a b : Option Int) : maxO a b = maxO b a := by
  cases a <;> cases b <;> simp [maxO] <;> split <;> (try split) <;> omega
theorem minO_assoc (a b c : Option Int) : minO (minO a b) c = minO a (minO b c) := by
  cases a <;> cases b <;> cases c <;> simp [minO] <;> (repeat' split) <;> omega
theorem maxO_assoc (a b c : Option Int) : maxO (maxO a b) c = maxO a (maxO b c) := by
  cases a <;> cases b <;> cases c <;> simp [maxO] <;> (repeat' split) <;> omega
theorem lstO_cons (p : Int × Int) (l : List (Int × Int)) : lstO (p :: l) = minO (some p.1) (lstO l) := by
  rw [show p :: l = [p] ++ l from rfl, lstO_app]; rfl
theorem mstO_cons (p : Int × Int) (l : List (Int × Int)) : mstO (p :: l) = maxO (some p.1) (mstO l) := by
  rw [show p :: l = [p] ++ l from rfl, mstO_app]; rfl
theorem lstO_perm {a b : List (Int × Int)} (p : a.Perm b) : lstO a = lstO b := by
  induction p with
  | nil => rfl
  | cons x _ ih => rw [lstO_cons, lstO_cons, ih]
  | swap x y l => rw [lstO_cons, lstO_cons, lstO_cons, lstO_cons, ← minO_assoc, ← minO_assoc, minO_comm (some y.1)]
  | trans _ _ h1 h2 => rw [h1, h2]
theorem mstO_perm {a b : List (Int × Int)} (p : a.Perm b) : mstO a = mstO b := by
  induction p with
  | nil => rfl
  | cons x _ ih => rw [mstO_cons, mstO_cons, ih]
  | swap x y l => rw [mstO_cons, mstO_cons, mstO_cons, mstO_cons, ← maxO_assoc, ← maxO_assoc, maxO_comm (some y.1)]
  | trans _ _ h1 h2 => rw [h1, h2]
theorem clk_perm {a b : List R3} (p : a.Perm b) : clk (a.map arr) = clk (b.map arr) := by
  induction p with
  | nil => rfl
  | cons x _ ih => simp only [List.map_cons, clk, ih]
  | swap x y l => simp only [List.map_cons, clk]; omega
  | trans _ _ h1 h2 => rw [h1, h2]
theorem balR_perm {span : Int} {a b : List R3} (p : a.Perm b) : balR span a = balR span b := by
  induction p with
  | nil => rfl
  | cons x _ ih => rw [balR, balR, ih]
  | swap x y l => rw [balR, balR, balR, balR, ← add4_assoc, ← add4_assoc, add4_comm (bal1 span y)]
  | trans _ _ h1 h2 => rw [h1, h2]
section
variable {room : Nat} {reach span : Int} {K L : KS} {ra rb : List R3}
theorem KI.same (I : KI room reach span ra K) (J : KI room reach span rb L) (p : ra.Perm rb) :
    K.fc.total = L.fc.total ∧ K.fw.total = L.fw.total ∧ K.ru.t = L.ru.t ∧ K.rd.t = L.rd.t ∧ K.ru.l = L.ru.l ∧ K.ru.m = L.ru.m ∧ K.rd.l = L.rd.l ∧ K.rd.m = L.rd.m ∧
    lv room K.sn = lv room L.sn ∧ keptOf K.sn (lv room K.sn) = keptOf L.sn (lv room L.sn) ∧ K.ar = L.ar ∧ K.ck = L.ck ∧ K.bl = L.bl := by
  have p0 := kindR_perm 0 p
  have p1 := kindR_perm 1 p
  have hm : ∀ x, x ∈ K.sn ↔ x ∈ L.sn := fun x => by
    rw [I.sm, J.sm]
    exact ⟨fun ⟨q, m, e⟩ => ⟨q, p0.mem_iff.mp m, e⟩, fun ⟨q, m, e⟩ => ⟨q, p0.mem_iff.mpr m, e⟩⟩
  have d := disS_congr (room := room) (arr := 0) I.sn.nd J.sn.nd hm
  unfold disS disO at d
  simp only [LO.ins.injEq, List.cons.injEq, Prod.mk.injEq, FV.val.injEq, D.int.injEq, D.lst.injEq, true_and, and_true] at d
  obtain ⟨d1, d2⟩ := d
  have d3 : keptOf K.sn (lv room K.sn) = keptOf L.sn (lv room L.sn) := by
    have inj : ∀ a b : List Int, a.map D.int = b.map D.int → a = b := by
      intro a
      induction a with
      | nil => intro b e; cases b with
        | nil => rfl
        | cons => simp at e
      | cons x a ih => intro b e; cases b with
        | nil => simp at e
        | cons y b =>
          simp only [List.map_cons, List.cons.injEq, D.int.injEq] at e
          rw [e.1, ih b e.2]
    exact inj _ _ d2
  refine ⟨by rw [I.tc, J.tc, wt_perm p0], by rw [I.tw, J.tw, wt_perm p1], by rw [I.tu, J.tu, wt_perm p0], by rw [I.td, J.td, wt_perm p1], by rw [I.lu, J.lu, lstO_perm p0], by rw [I.mu, J.mu, mstO_perm p0], by rw [I.ld, J.ld, lstO_perm p1], by rw [I.md, J.md, mstO_perm p1], d1, d3, by rw [I.ar, J.ar, p0.length_eq], by rw [I.ck, J.ck, clk_perm p], by rw [I.bl, J.bl, balR_perm p]⟩
end
/-! ### pieces -/
structure Pc where
  r : Nat
  A : Ad
  K : KS
  rows : List R3
structure Pcs (room : Nat) (reach span : Int) (Q : List Pc) (h : List LO) : Prop where
  k : ∀ p ∈ Q, Kp room reach span p.K p.r p.A h
  i : ∀ p ∈ Q, KI room reach span p.rows p.K
theorem Pcs.app {room : Nat} {reach span : Int} {Q : List Pc} {h : List LO} (P : Pcs room reach span Q h) (xs : List LO) : Pcs room reach span Q (h ++ xs) := ⟨fun p m => (P.k p m).app xs, P.i⟩
end PX

namespace PX
open PySem PySem.Spec PyProof.Rows L2 PL
end PX

/-! The Plain: all rows kept. -/
namespace PX
open PySem PySem.Spec PyProof.Rows L2 PL
/-- arrival, thing, weight -/
noncomputable abbrev PR := Int × Int × Int
end PX

namespace PX
open PySem PySem.Spec PyProof.Rows L2 PL
end PX

/-! The Plain's places, and what is off. -/
namespace PX
open PySem PySem.Spec PyProof.Rows L2 PL
theorem sub_len {α : Type} [DecidableEq α] : ∀ {xs ys : List α}, xs.Nodup → (∀ a ∈ xs, a ∈ ys) → xs.length ≤ ys.length
  | [], ys, _, _ => by simp
  | x :: xs, ys, nx, h => by
    have hx : x ∈ ys := h x (by simp)
    obtain ⟨n1, n2⟩ := List.nodup_cons.mp nx
    have := sub_len (xs := xs) (ys := ys.erase x) n2 fun a m => (List.mem_erase_of_ne (fun e => n1 (by rw [← e]; exact m))).mpr (h a (by simp [m]))
    rw [List.length_erase_of_mem hx] at this
    have : 0 < ys.length := List.length_pos_of_mem hx
    simp; omega
/-! ### by_rank -/
/-! ### off -/
noncomputable def below (s : Int) (ps : List PR) : List PR := ps.filter fun p => decide (p.2.1 < s)
end PX

/-! PyLite, part zj: a list taken apart; of which own class a thing is. -/
namespace PLR
open PySem PySem.Spec PyProof.Rows L2
section
variable {X : Cx} {pos : Pos}
end
end PLR
namespace PL
open PySem PySem.Spec PyProof.Rows L2 PLR
section
variable {Γ : Tab} {W : WX} {X : Cx} {pos pos2 ppos : Pos} {e : Expr} {f : E D} {st : LS}
/-- isinstance(x, an own class), x of one of some own classes -/
structure IsA (Γ : Tab) (C : Addr) (c : Nat) (cs : List Nat) : Prop where
  al : ∀ c' ∈ cs, ∃ C', Γ.cls c' = some C' ∧ C8.InsC Γ.K C' ∧ PySem.W.kitOne Γ.K (.ref C') (.ref C) = some (decide (c' = c))
end
end PL
namespace PL
open PySem PySem.Spec PyProof.Rows L2 PLR
section
variable {Γ : Tab} {W : WX} {X : Cx} {Z : Hp} {Lt : Lend} {g : GM} {st : LS} {σ : L2.St} {H : Hp}
mutual
/-- the content, of what lies within too -/
noncomputable def drN (st : LS) : Nat → D → D
  | 0, d => d
  | n + 1, .obj r => match st.cellR r with
    | some d => drN st n d
    | none => .obj r
  | n + 1, .tup ds => .tup (drNs st n ds)
  | n + 1, .lst ds => .lst (drNs st n ds)
  | _ + 1, d => d
noncomputable def drNs (st : LS) : Nat → List D → List D
  | _, [] => []
  | n, d :: ds => drN st n d :: drNs st n ds
end
mutual
theorem CV.dpN (s : SR Γ Z Lt g st σ H) : ∀ (n m : Nat) (d : D) (v : V), CV Γ g H d v → pln m (drN st n d) = true → Dp Γ.K H v (toP (drN st n d))
  | 0, m, d, v, c, hp => by rw [show drN st 0 d = d by simp [drN]] at hp ⊢; exact c.dp s hp
  | n + 1, m, .obj r, v, c, hp => by
    cases e : st.cellR r with
    | none => rw [show drN st (n + 1) (.obj r) = .obj r by simp [drN, e]] at hp; cases m <;> simp [pln] at hp
    | some d' =>
      rw [show drN st (n + 1) (.obj r) = drN st n d' by simp [drN, e]] at hp ⊢
      have c2 := CV.dr s c
      rw [show st.dr (.obj r) = d' by simp [LS.dr, e]] at c2
      exact CV.dpN s n m d' v c2 hp
  | n + 1, m, .tup ds, v, c, hp => by
    obtain ⟨a, vs, rfl, q, r⟩ := c.tup s
    rw [show drN st (n + 1) (.tup ds) = .tup (drNs st n ds) by simp [drN]] at hp ⊢
    cases m with
    | zero => simp [pln] at hp
    | succ m => simp only [toP]; exact .tup q (RDs.dpN s n m ds vs r (by simpa [pln] using hp))
  | n + 1, m, .lst ds, v, c, hp => by
    obtain ⟨a, vs, rfl, q, r⟩ := c.lst s
    rw [show drN st (n + 1) (.lst ds) = .lst (drNs st n ds) by simp [drN]] at hp ⊢
    cases m with
    | zero => simp [pln] at hp
    | succ m => simp only [toP]; exact .lst q (RDs.dpN s n m ds vs r (by simpa [pln] using hp))
  | n + 1, m, .non, v, c, hp => by rw [show drN st (n + 1) (.non) = .non by simp [drN]] at hp ⊢; exact c.dp s hp
  | n + 1, m, .bl b, v, c, hp => by rw [show drN st (n + 1) (.bl b) = .bl b by simp [drN]] at hp ⊢; exact c.dp s hp
  | n + 1, m, .int b, v, c, hp => by rw [show drN st (n + 1) (.int b) = .int b by simp [drN]] at hp ⊢; exact c.dp s hp
  | n + 1, m, .str b, v, c, hp => by rw [show drN st (n + 1) (.str b) = .str b by simp [drN]] at hp ⊢; exact c.dp s hp
  | n + 1, m, .dic b, v, c, hp => by rw [show drN st (n + 1) (.dic b) = .dic b by simp [drN]] at hp; cases m <;> simp [pln] at hp
  | n + 1, m, .err b, v, c, hp => by rw [show drN st (n + 1) (.err b) = .err b by simp [drN]] at hp; cases m <;> simp [pln] at hp
theorem RDs.dpN (s : SR Γ Z Lt g st σ H) : ∀ (n m : Nat) (ds : List D) (vs : List V), RDs Γ g ds vs → plns m (drNs st n ds) = true → DpAll Γ.K H vs (toPs (drNs st n ds))
  | n, m, [], vs, r, _ => by simp only [RDs] at r; subst r; simp only [drNs, toPs]; exact .nil
  | n, m, d :: ds, vs, r, h => by
    simp only [RDs] at r
    obtain ⟨v, q, rfl, r1, r2⟩ := r
    simp only [drNs, plns, Bool.and_eq_true] at h
    simp only [drNs, toPs]
    exact .cons (CV.dpN s n m d v (.inl r1) h.1) (RDs.dpN s n m ds q r2 h.2)
end
end
end PL
namespace PL
mutual
theorem drN_pln (st : LS) : ∀ (n m : Nat) (d : D), pln m d = true → drN st n d = d
  | 0, _, d, _ => by simp [drN]
  | n + 1, m, .obj r, h => by cases m <;> simp [pln] at h
  | n + 1, 0, .tup ds, h => by simp [pln] at h
  | n + 1, m + 1, .tup ds, h => by simp only [drN]; rw [drNs_plns st n m ds (by simpa [pln] using h)]
  | n + 1, 0, .lst ds, h => by simp [pln] at h
  | n + 1, m + 1, .lst ds, h => by simp only [drN]; rw [drNs_plns st n m ds (by simpa [pln] using h)]
  | n + 1, m, .non, _ => by simp [drN]
  | n + 1, m, .bl b, _ => by simp [drN]
  | n + 1, m, .int b, _ => by simp [drN]
  | n + 1, m, .str b, _ => by simp [drN]
  | n + 1, m, .dic b, _ => by simp [drN]
  | n + 1, m, .err b, _ => by simp [drN]
theorem drNs_plns (st : LS) : ∀ (n m : Nat) (ds : List D), plns m ds = true → drNs st n ds = ds
  | n, m, [], _ => by simp [drNs]
  | n, m, d :: ds, h => by
    simp only [plns, Bool.and_eq_true] at h
    simp only [drNs]
    rw [drN_pln st n m d h.1, drNs_plns st n m ds h.2]
end
end PL
namespace PL
open PySem PySem.Spec PyProof.Rows L2 PLR
/-! ### x in a list or pair of data of any depth -/
section
variable {Γ : Tab} {W : WX} {X : Cx}
end
end PL

/-! PyLite, part zk: texts; what is never reached. -/
namespace PL
open PySem PySem.Spec PyProof.Rows L2
section
variable {Γ : Tab} {W : WX} {Z : Hp} {Lt : Lend} {g g' : GM} {st st' : LS} {σ σ' : L2.St} {H H' : Hp} {h h' : List LO} {a p : Addr} {o : HO} {d : D} {v : V} {X : Cx} {e e1 e2 e3 : Expr} {es : List Expr} {f k l : E D} {pos pos2 ppos apos : Pos} {stm : Stmt} {sts : List Stmt} {f1 f2 : S} {D0 : Ends}
/-! ### a statement that is never reached -/
/-! ### lists of texts -/
/-! ### methods of texts -/
noncomputable abbrev RM := V → List V → Hp → VK → Prop
/-! ### str(n), int(text) -/
/-! ### a part of a text -/
/-! ### a sign in a text -/
/-! ### for c in text -/
/-! ### a part of a tuple, not the whole -/
@[simp] theorem mStr_s (i j : Str) : mStr (.str i) (.str j) st = if i.length + j.length ≤ 16777216 then .ok (.str (i ++ j)) st else .bad := id rfl
/-! ### a list of one's own given away -/
noncomputable def eTake (i : Nat) : E D := fun st => match st.s[i]? with
  | some (some (.own d)) => .ok d ⟨st.s.set i none, st.h⟩
  | _ => .bad
theorem pf_take0 {i : Nat} {x : Str} (hN : X.N[i]? = some x) (hv : Vis X.env.scope x) (hd : (x == ("__debug__" : Str)) = false := by decide) (hcd : (x == ("__classdict__" : Str)) = false := by decide) :
    PF Γ W X (.Name x pos2) (eTake i) := ⟨(pe_var hN hv hd hcd).csq fun σ H Q ⟨Z, Lt, g, st, s, h⟩ => by
  unfold eTake at h
  split at h
  · rename_i d e
    obtain ⟨v, e1, a, rfl, h1, h2, h3, h4, o, h5, h6⟩ := s.sv i _ e
    refine ⟨_, e1, ?_⟩
    have nz : ∀ b u, Z b = some u → b ≠ a := fun b u z q => by rw [q, h2] at z; cases z
    have gt : GT Z g (g.tmp a .tmp) := ⟨GLe.refl _, ⟨[], by simp⟩, fun b u z => tmp_ne (nz b u z), fun _ _ _ h => h⟩
    have kp : Kp Z g (g.tmp a .tmp) H H fun p => p ≠ .loc i := ⟨gt, fun b p u hp k1 k2 k3 k4 k5 => by
      have ne : b ≠ a := fun q => by subst q; rw [h3] at k3; cases k3; exact hp rfl
      exact ⟨k1, by rw [tmp_ne ne]; exact k3, k4, k5⟩⟩
    refine h (g.tmp a .tmp) H ⟨s.sh.keep kp (fun r f => by simp) rfl (fun _ _ _ e => e) s.sh.gh s.sh.zh s.sh.gz fun b m => ⟨(s.sh.mf b m).1, ?_⟩, by simpa using s.sl, fun j x ej => ?_⟩ gt a ⟨h1, h2, tmp_same, h4, o, h5, h6.mono gt.le gt.mp⟩
    · exact (tmp_ne (fun q => h4 (by rw [← q]; exact m))).trans (s.sh.mf b m).2.2
    · by_cases hj : j = i
      · subst hj
        have hl : j < st.s.length := (List.getElem?_eq_some_iff.mp e).1
        rw [List.getElem?_set_self hl] at ej
        cases ej
      · rw [List.getElem?_set_ne (Ne.symm hj)] at ej
        obtain ⟨w, e1, f⟩ := s.sv j x ej
        exact ⟨w, e1, f.keep kp (by simpa using hj)⟩
  · exact h.elim⟩
@[simp] theorem eTake_s {i : Nat} {s : List (Option FV)} {h : List LO} : eTake i ⟨s, h⟩ = match s[i]? with
  | some (some (.own d)) => .ok d ⟨s.set i none, h⟩
  | _ => .bad := id rfl
theorem take (i : Nat) {x : Str} (hN : X.N[i]? = some x := by rfl) (hv : Vis X.env.scope x := by first | exact Or.inl rfl | exact Or.inr (Or.inl rfl) | exact Or.inr (Or.inr rfl)) (hd : (x == ("__debug__" : Str)) = false := by decide) (hcd : (x == ("__classdict__" : Str)) = false := by decide) :
    PF Γ W X (.Name x pos2) (eTake i) := pf_take0 hN hv hd hcd
@[simp] theorem mLen_str (z : Str) : mLen (.str z) st = if z.length ≤ 16777216 then .ok (.int z.length) st else .bad := id rfl
@[simp] theorem mIx_str (z : Str) (i : Int) : mIx (.str z) (.int i) st = if z.length ≤ 16777216 then match atD z.cps.toList i with
    | some c => .ok (.str ⟨#[c]⟩) st
    | none => .bad
  else .bad := id rfl
end
end PL

/-! x.insert(i, e) for a local list of one's own. -/
namespace PL
open PySem PySem.Spec PyProof.Rows L2
section
variable {Γ : Tab} {W : WX} {X : Cx} {e1 e2 : Expr} {f k : E D} {pos pos2 apos ppos : Pos}
end
end PL

/-! sum(d.values()); a list of triples that rise, sorted. -/
namespace PLR
open PySem PySem.Spec PyProof.Rows L2
/-! ### triples -/
noncomputable def IsTr (K : PySem.W.Frag) (H : Hp) (x : V) (p : Int × Int × Int) : Prop := ∃ t, x = V.ref t ∧ SqT K H t [.int p.1, .int p.2.1, .int p.2.2]
end PLR
namespace PL
open PySem PySem.Spec PyProof.Rows L2
section
variable {Γ : Tab} {W : WX} {X : Cx} {e : Expr} {f : E D} {pos ppos apos mpos : Pos}
noncomputable def tD (t : Int × Int × Int) : D := .tup [.int t.1, .int t.2.1, .int t.2.2]
theorem RDs.trs {Z : Hp} {Lt : Lend} {g : GM} {st : LS} {σ : L2.St} {H : Hp} (s : SR Γ Z Lt g st σ H) : ∀ {ps : List (Int × Int × Int)} {vs : List V}, RDs Γ g (ps.map tD) vs → PLR.All2 (PLR.IsTr Γ.K H) vs ps
  | [], vs, r => by simp only [List.map_nil, RDs] at r; subst r; exact .nil
  | (i, j, k) :: ps, vs, r => by
    simp only [List.map_cons, RDs] at r
    obtain ⟨v, q, rfl, r1, r2⟩ := r
    simp only [tD, RD] at r1
    obtain ⟨a, ws, rfl, sq, rs⟩ := r1
    simp only [RDs, RD] at rs
    obtain ⟨_, _, rfl, rfl, _, _, rfl, rfl, _, _, rfl, rfl, rfl⟩ := rs
    exact .cons ⟨a, rfl, sqT_le (GLe.sub s.sh.gh) sq⟩ (RDs.trs s r2)
end
end PL

/-! x = o.f: a local that tells a field's own list, for the rest of a block. -/
namespace PL
open PySem PySem.Spec PyProof.Rows L2
section
variable {Γ : Tab} {W : WX} {X : Cx} {Z : Hp} {Lt : Lend} {g : GM} {st : LS} {σ : L2.St} {H : Hp} {h : List LO} {a : Addr} {o : HO} {e : Expr} {f : E D} {f1 : S} {sts : List Stmt} {pos : Pos}
noncomputable def LS.wipe1 (st : LS) (k : Nat) : LS := { st with s := st.s.set k none }
noncomputable def SRes.wp (k : Nat) : SRes → SRes
  | .nx st => .nx (st.wipe1 k)
  | .ret x st => .ret x (st.wipe1 k)
  | .bk st => .bk (st.wipe1 k)
  | .ct st => .ct (st.wipe1 k)
  | .exc x st => .exc x (st.wipe1 k)
  | .bad => .bad
noncomputable def sAli (j i k : Nat) (f : S) : S := fun st => match st.objAt j with
  | some r => match st.fld r i with
    | some (.own d) => ((f ((st.setF r i (.lent d)).set k (.lent d))).wp k).unF r i
    | _ => .bad
  | none => .bad
theorem FVR.toU {k : Nat} (z : Z a = some o) {q : Path} {x : FV} {v : V} (hq : q ≠ .loc k) (r : FVR Γ Z Lt g H q x v) : FVR Γ Z (ltU Lt k a) g H q x v := by
  cases x with
  | val d => exact r
  | own d => exact r
  | lent d =>
    obtain ⟨b, u, eb, k1, k2, k3⟩ := r
    exact ⟨b, u, eb, by rw [ltU_ne hq]; exact k1, k2, k3⟩
theorem FVR.ofU {k : Nat} {q : Path} {x : FV} {v : V} (hq : q ≠ .loc k) (r : FVR Γ Z (ltU Lt k a) g H q x v) : FVR Γ Z Lt g H q x v := by
  cases x with
  | val d => exact r
  | own d => exact r
  | lent d =>
    obtain ⟨b, u, eb, k1, k2, k3⟩ := r
    rw [ltU_ne hq] at k1
    exact ⟨b, u, eb, k1, k2, k3⟩
theorem SH.toU {k : Nat} (s : SH Γ Z Lt g h H) (z : Z a = some o) : SH Γ Z (ltU Lt k a) g h H := by
  refine ⟨s.gh, s.zh, s.gz, s.ml, s.mn, fun b m => ?_, fun r lo b e1 e2 => ?_, s.nd, fun q b e => ?_⟩
  · obtain ⟨m1, m2, m3⟩ := s.mf b m
    exact ⟨m1, fun u zu => by rw [ltU_ne (by simp)]; exact m2 u zu, m3⟩
  · have := s.ob r lo b e1 e2
    cases lo with
    | ins c fs =>
      obtain ⟨C, dx, ws, q1, q2, q3, q4⟩ := this
      exact ⟨C, dx, ws, q1, q2, q3, FR.mapf2 (fun i x v f => f.toU z (by simp)) q4⟩
    | cell d => exact this
    | lck d => obtain ⟨l, ob, u, k1, k2, k3⟩ := this; exact ⟨by rw [ltU_ne (by simp)]; exact l, ob, u, k1, k2, k3⟩
  · by_cases c : q = .loc k
    · subst c; rw [ltU_same] at e; cases e; exact ⟨o, z, trivial⟩
    · rw [ltU_ne c] at e; exact s.lz q b e
theorem SH.ofU {k : Nat} (s : SH Γ Z (ltU Lt k a) g h H) (lz : LzOk Lt Z) : SH Γ Z Lt g h H := by
  refine ⟨s.gh, s.zh, s.gz, s.ml, s.mn, fun b m => ?_, fun r lo b e1 e2 => ?_, s.nd, lz⟩
  · obtain ⟨m1, m2, m3⟩ := s.mf b m
    exact ⟨m1, fun u zu => by have := m2 u zu; rw [ltU_ne (by simp)] at this; exact this, m3⟩
  · have := s.ob r lo b e1 e2
    cases lo with
    | ins c fs =>
      obtain ⟨C, dx, ws, q1, q2, q3, q4⟩ := this
      exact ⟨C, dx, ws, q1, q2, q3, FR.mapf2 (fun i x v f => f.ofU (by simp)) q4⟩
    | cell d => exact this
    | lck d => obtain ⟨l, ob, u, k1, k2, k3⟩ := this; exact ⟨by rw [ltU_ne (by simp)] at l; exact l, ob, u, k1, k2, k3⟩
theorem SR.ofU {k : Nat} (s : SR Γ Z (ltU Lt k a) g st σ H) (lz : LzOk Lt Z) : SR Γ Z Lt g (st.wipe1 k) σ H := by
  refine ⟨s.sh.ofU lz, by simpa [LS.wipe1] using s.sl, fun j x e => ?_⟩
  have e : (st.s.set k none)[j]? = some (some x) := e
  by_cases c : j = k
  · subst c
    by_cases hl : j < st.s.length
    · rw [List.getElem?_set_self hl] at e; cases e
    · rw [List.getElem?_eq_none (by simpa using hl)] at e; cases e
  · rw [List.getElem?_set_ne (Ne.symm c)] at e
    obtain ⟨v, e1, f⟩ := s.sv j x e
    exact ⟨v, e1, f.ofU (by simpa using c)⟩
theorem SR.toU {k : Nat} (s : SR Γ Z Lt g st σ H) {d : D} (z : Z a = some o) (c : CRz Γ g d o) : SR Γ Z (ltU Lt k a) g (st.set k (.lent d)) (σ.set k (some (.ref a))) H := by
  refine ⟨s.sh.toU z, by simpa [LS.set] using s.sl, fun j x e => ?_⟩
  have e : (st.s.set k (some (.lent d)))[j]? = some (some x) := e
  by_cases hj : j = k
  · subst hj
    by_cases hl : j < st.s.length
    · rw [List.getElem?_set_self hl] at e
      cases e
      exact ⟨_, List.getElem?_set_self (by rw [s.sl]; exact hl), a, o, rfl, ltU_same, z, c⟩
    · rw [List.getElem?_eq_none (by simpa using hl)] at e; cases e
  · rw [List.getElem?_set_ne (Ne.symm hj)] at e
    obtain ⟨w, e1, f⟩ := s.sv j x e
    exact ⟨w, by rw [List.getElem?_set_ne (Ne.symm hj)]; exact e1, f.toU z (by simpa using hj)⟩
theorem putN_look {i : Nat} {x y : FV} : ∀ {fs : List (Nat × FV)}, fs.lookup i = some y → (putN i x fs).lookup i = some x
  | [], e => by simp at e
  | (j, z) :: fs, e => by
    rw [putN_cons]
    by_cases c : j = i
    · rw [if_pos c]; simp [List.lookup]
    · rw [if_neg c]
      have hb : (i == j) = false := by simpa using Ne.symm c
      rw [List.lookup, hb] at e ⊢
      exact putN_look e
theorem sts_ali {j i k : Nat} {x n : Str} {npos pos' : Pos} (hK : X.K = Γ.K) (hN : X.N.Nodup) (hi : X.N[k]? = some x) (hx : Loc X.env.scope x) (hn : Γ.nm[i]? = some n) (y : PD Γ W X e (eVar j))
    (hb : attributeBase e n X.env (eval e X.env) = eval e X.env) (z : PSts Γ W X sts f1) (hs : swapsWith (.Attribute e n npos) (some (.Name x pos')) pos.line X.env = pure false := by rfl)
    (hf : X.fn x = true ∨ X.env.scope.names.lookup x = some .local := by first | exact .inl rfl | exact .inr rfl | assumption) : PSts Γ W X (.Assign [.Name x pos'] (.Attribute e n npos) pos :: sts) (sAli j i k f1) := by
  refine ⟨(pss_cons (ps_set hN hi hx (pe_fld y.pe hb) hs hf) z.ps).csq fun D σ H ⟨Z, Lt, g, st, s, h⟩ => ?_⟩
  unfold sAli at h
  split at h
  · rename_i r ej
    obtain ⟨lb, hr⟩ := s.objM ej
    split at h
    · rename_i d ef
      obtain ⟨a, o, s', nz, ho, hl⟩ := s.lendF hr ef
      obtain ⟨c0, fs0, q1, q2, q3⟩ := fld_ins ef
      have hsl : (st.setF r i (.lent d)).s = st.s := by rw [q3]
      have ev : eVar j (st.setF r i (.lent d)) = .ok (.obj r) (st.setF r i (.lent d)) := by
        unfold eVar
        rw [hsl, objAt_eq ej]
      have fl : (st.setF r i (.lent d)).fld r i = some (.lent d) := by
        rw [q3]
        unfold LS.fld
        have hlt := (List.getElem?_eq_some_iff.mp q1).1
        simp only [List.getElem?_set_self hlt]
        exact putN_look q2
      refine ⟨_, _, g, _, s', ?_⟩
      rw [ev]
      intro g1 H1 s1 t1 w rw_
      obtain ⟨b0, rfl, hr1⟩ := RD.obj rw_
      obtain ⟨C, dx, ws, n', v, h1, h2, h3, h4, h5, h6⟩ := s1.fld hr1 fl
      rw [hn] at h3; cases h3
      rw [hK]
      refine ⟨b0, C, dx, ws, v, rfl, h1, h2, h4, h5, ?_⟩
      obtain ⟨b, u, rfl, k1, k2, k3⟩ := h6
      rw [ltP_same] at k1
      cases k1
      have lz1 : LzOk (ltP Lt (.fld r i) a) (upd Z a o) := s'.sh.lz
      refine ⟨_, _, g1, _, s1.toU (k := k) k2 k3, ?_⟩
      revert h
      cases f1 ((st.setF r i (.lent d)).set k (.lent d)) with
      | nx st1 =>
        intro h
        simp only [SRes.wp, SRes.unF] at h
        split at h
        · rename_i d1 e1
          intro σ' g2 H2 s2 t2
          obtain ⟨t, o2⟩ := (t1.trans t2).unl nz ho
          exact h σ' g2 H2 ((s2.ofU lz1).unlF (t.mAt hr) e1 nz hl o2 s.sh.lz) t
        · exact h.elim
      | bk st1 =>
        intro h
        simp only [SRes.wp, SRes.unF] at h
        split at h
        · rename_i d1 e1
          intro σ' g2 H2 s2 t2
          obtain ⟨t, o2⟩ := (t1.trans t2).unl nz ho
          exact h σ' g2 H2 ((s2.ofU lz1).unlF (t.mAt hr) e1 nz hl o2 s.sh.lz) t
        · exact h.elim
      | ct st1 =>
        intro h
        simp only [SRes.wp, SRes.unF] at h
        split at h
        · rename_i d1 e1
          intro σ' g2 H2 s2 t2
          obtain ⟨t, o2⟩ := (t1.trans t2).unl nz ho
          exact h σ' g2 H2 ((s2.ofU lz1).unlF (t.mAt hr) e1 nz hl o2 s.sh.lz) t
        · exact h.elim
      | exc x st1 =>
        intro h
        simp only [SRes.wp, SRes.unF] at h
        split at h
        · rename_i d1 e1
          intro cls dd σ' g2 H2 s2 t2 xr
          obtain ⟨t, o2⟩ := (t1.trans t2).unl nz ho
          exact h cls dd σ' g2 H2 ((s2.ofU lz1).unlF (t.mAt hr) e1 nz hl o2 s.sh.lz) t xr
        · exact h.elim
      | ret x st1 =>
        intro h
        simp only [SRes.wp, SRes.unF] at h
        split at h
        · rename_i d1 e1
          intro v g2 H2 s2 t2 r2
          obtain ⟨t, o2⟩ := (t1.trans t2).unl nz ho
          obtain ⟨c, fs, k1, k2, k3⟩ := fld_ins e1
          have s3 : SH Γ (upd Z a o) (ltP Lt (.fld r i) a) g2 (st1.wipe1 k).h H2 := s2.ofU lz1
          refine h v g2 H2 (by rw [k3]; exact s3.unlF (t.mAt hr) k1 k2 nz hl o2 s.sh.lz) t ?_
          cases x with
          | val d => exact r2
          | own d =>
            obtain ⟨b, eb, h1, h2, h3⟩ := r2
            refine ⟨b, eb, h1, ?_, h3⟩
            cases ez : Z b with
            | none => rfl
            | some u =>
              have ne : b ≠ a := ne_of_none ez nz
              rw [upd_ne ne, ez] at h2; cases h2
          | lent d => obtain ⟨b, u, eb, h1, h2⟩ := r2; cases h1
        · exact h.elim
      | bad => exact fun h => h
    · exact h.elim
  · exact h.elim
theorem xali {j i : Nat} (k : Nat) {x n : Str} {npos pos' : Pos} (hN : X.N.Nodup) (hn : Γ.nm[i]? = some n) (y : PD Γ W X e (eVar j)) (hb : attributeBase e n X.env (eval e X.env) = eval e X.env) (z : PSts Γ W X sts f1)
    (hK : X.K = Γ.K := by rfl) (hi : X.N[k]? = some x := by rfl) (hx : Loc X.env.scope x := by first | exact Or.inl rfl | exact Or.inr rfl) (hs : swapsWith (.Attribute e n npos) (some (.Name x pos')) pos.line X.env = pure false := by rfl)
    (hf : X.fn x = true ∨ X.env.scope.names.lookup x = some .local := by first | exact .inl rfl | exact .inr rfl) : PSts Γ W X (.Assign [.Name x pos'] (.Attribute e n npos) pos :: sts) (sAli j i k f1) := sts_ali hK hN hi hx hn y hb z hs hf
@[simp] theorem sAli_s (j i k : Nat) (f1 : S) (st : LS) : sAli j i k f1 st = match st.objAt j with
  | some r => match st.fld r i with
    | some (.own d) => ((f1 ((st.setF r i (.lent d)).set k (.lent d))).wp k).unF r i
    | _ => .bad
  | none => .bad := id rfl
@[simp] theorem wp_nx (k : Nat) (st : LS) : (SRes.nx st).wp k = .nx (st.wipe1 k) := rfl
@[simp] theorem wp_ret (k : Nat) (x : FV) (st : LS) : (SRes.ret x st).wp k = .ret x (st.wipe1 k) := rfl
@[simp] theorem wipe1_mk (k : Nat) (s : List (Option FV)) (h : List LO) : LS.wipe1 ⟨s, h⟩ k = ⟨s.set k none, h⟩ := rfl
end
end PL

namespace Gk43
open PySem PySem.Spec PyProof.Rows L2 PL
/-! ### the text by places, each def as a function of data -/
noncomputable abbrev Gm (K : PySem.W.Frag) (C0 C1 C3 C6 C7 C8 C9 C10 C12 : Addr) : Tab := ⟨K, fun i => ([some C0, some C1, none, some C3, none, none, some C6, some C7, some C8, some C9, some C10, none, some C12, none] : List (Option Addr)).getD i none, ["room", "reach", "clock", "boxes", "span", "sums", "total", "lost", "counts", "over", "under", "turns", "least", "most", "rungs", "arrivals", "level", "kept", "came", "went", "up", "down", "window", "seen", "balance", "many", "stacks", "puts", "takes", "line"]⟩
noncomputable def top (i : Nat) : Stmt := PySem.Challenge.pw_sketchbounds_k43_whole_never_more_boxes.main.body.getD i (.Pass ⟨0, 0, 0, 0⟩)
noncomputable abbrev s_cut_of : Stmt := top 6
noncomputable abbrev s_fallen : Stmt := top 7
noncomputable abbrev s_Frequent_init : Stmt := inClass (top 8) 0
noncomputable abbrev s_Frequent_add : Stmt := inClass (top 8) 1
noncomputable abbrev s_poured_frequent : Stmt := top 9
noncomputable abbrev s_settled_list : Stmt := top 11
noncomputable abbrev s_settle_rungs : Stmt := top 12
noncomputable abbrev s_Rungs_init : Stmt := inClass (top 13) 0
noncomputable abbrev s_Rungs_add : Stmt := inClass (top 13) 1
noncomputable abbrev s_lesser_of : Stmt := top 14
noncomputable abbrev s_greater_of : Stmt := top 15
noncomputable abbrev s_poured_rungs : Stmt := top 16
noncomputable abbrev s_settled_boxes : Stmt := top 18
noncomputable abbrev s_Window_init : Stmt := inClass (top 19) 0
noncomputable abbrev s_Window_add : Stmt := inClass (top 19) 1
noncomputable abbrev s_Window_idle : Stmt := inClass (top 19) 2
noncomputable abbrev s_followed : Stmt := top 20
noncomputable abbrev s_spread : Stmt := top 24
noncomputable abbrev s_mark : Stmt := top 25
noncomputable abbrev s_settled_level : Stmt := top 27
noncomputable abbrev s_Distinct_init : Stmt := inClass (top 28) 0
noncomputable abbrev s_Distinct_add : Stmt := inClass (top 28) 1
noncomputable abbrev s_poured_distinct : Stmt := top 29
noncomputable abbrev s_moved_sums : Stmt := top 31
noncomputable abbrev s_Balance_init : Stmt := inClass (top 32) 0
noncomputable abbrev s_Balance_put : Stmt := inClass (top 32) 1
noncomputable abbrev s_Balance_take : Stmt := inClass (top 32) 2
noncomputable abbrev s_poured_balance : Stmt := top 33
noncomputable abbrev s_Keepsake_init : Stmt := inClass (top 35) 0
noncomputable abbrev s_Keepsake_put : Stmt := inClass (top 35) 1
noncomputable abbrev s_Keepsake_take : Stmt := inClass (top 35) 2
noncomputable abbrev s_Keepsake_idle : Stmt := inClass (top 35) 3
noncomputable abbrev s_empty_like : Stmt := top 36
noncomputable abbrev s_poured : Stmt := top 37
noncomputable abbrev s_mix : Stmt := top 39
noncomputable abbrev s_far_back : Stmt := top 40
noncomputable abbrev s_thing_by : Stmt := top 41
noncomputable abbrev s_weight_by : Stmt := top 42
noncomputable abbrev s_row_by : Stmt := top 43
noncomputable abbrev s_done : Stmt := top 44
noncomputable abbrev s_shape_by : Stmt := top 45
noncomputable abbrev s_counts_few : Stmt := top 46
noncomputable abbrev s_rungs_few : Stmt := top 47
noncomputable abbrev s_boxes_few : Stmt := top 48
noncomputable abbrev s_few : Stmt := top 49
noncomputable abbrev s_totals_by : Stmt := top 50
noncomputable abbrev s_law : Stmt := top 51
noncomputable abbrev N_cut_of : List Str := ["counts", "room"]
noncomputable abbrev N_fallen : List Str := ["counts", "cut", "left", "thing", "count"]
noncomputable abbrev N_Frequent_init : List Str := ["self", "room"]
noncomputable abbrev N_Frequent_add : List Str := ["self", "thing", "weight", "cut"]
noncomputable abbrev N_poured_frequent : List Str := ["one", "other", "counts", "thing", "count", "cut", "made"]
noncomputable abbrev N_settled_list : List Str := ["things", "greater", "pairs", "goes", "k"]
noncomputable abbrev N_settle_rungs : List Str := ["kept", "h", "greater", "stays", "goes"]
noncomputable abbrev N_Rungs_init : List Str := ["self", "room"]
noncomputable abbrev N_Rungs_add : List Str := ["self", "thing", "weight", "h"]
noncomputable abbrev N_lesser_of : List Str := ["one", "other"]
noncomputable abbrev N_greater_of : List Str := ["one", "other"]
noncomputable abbrev N_poured_rungs : List Str := ["one", "other", "made", "things", "h"]
noncomputable abbrev N_settled_boxes : List Str := ["boxes", "room", "edge", "told", "newer", "hand", "box"]
noncomputable abbrev N_Window_init : List Str := ["self", "room", "reach"]
noncomputable abbrev N_Window_add : List Str := ["self", "weight", "boxes"]
noncomputable abbrev N_Window_idle : List Str := ["self", "many"]
noncomputable abbrev N_followed : List Str := ["one", "other", "told", "moved", "first", "end", "part"]
noncomputable abbrev N_spread : List Str := ["thing"]
noncomputable abbrev N_mark : List Str := ["thing", "left", "halved"]
noncomputable abbrev N_settled_level : List Str := ["kept", "level", "room", "thing"]
noncomputable abbrev N_Distinct_init : List Str := ["self", "room"]
noncomputable abbrev N_Distinct_add : List Str := ["self", "thing", "kept", "level"]
noncomputable abbrev N_poured_distinct : List Str := ["one", "other", "told", "level", "both", "thing", "kept", "settled"]
noncomputable abbrev N_moved_sums : List Str := ["sums", "thing", "weight", "told", "power", "part"]
noncomputable abbrev N_Balance_init : List Str := ["self", "span"]
noncomputable abbrev N_Balance_put : List Str := ["self", "thing", "weight"]
noncomputable abbrev N_Balance_take : List Str := ["self", "thing", "weight"]
noncomputable abbrev N_poured_balance : List Str := ["one", "other", "told", "j"]
noncomputable abbrev N_Keepsake_init : List Str := ["self", "room", "reach", "span"]
noncomputable abbrev N_Keepsake_put : List Str := ["self", "thing", "weight"]
noncomputable abbrev N_Keepsake_take : List Str := ["self", "thing", "weight"]
noncomputable abbrev N_Keepsake_idle : List Str := ["self", "many"]
noncomputable abbrev N_empty_like : List Str := ["keepsake"]
noncomputable abbrev N_poured : List Str := ["one", "other", "told"]
noncomputable abbrev N_mix : List Str := ["_law_cell", "_law_factor", "_law_prime"]
noncomputable abbrev N_far_back : List Str := ["_law_way", "_law_turn"]
noncomputable abbrev N_thing_by : List Str := ["_law_cell", "_law_how", "_law_high"]
noncomputable abbrev N_weight_by : List Str := ["_law_cell"]
noncomputable abbrev N_row_by : List Str := ["_law_cell", "_law_kind", "_law_thing", "_law_weight"]
noncomputable abbrev N_done : List Str := ["_law_keepsake", "_law_row"]
noncomputable abbrev N_shape_by : List Str := ["_law_cell", "_law_room", "_law_reach", "_law_span"]
noncomputable abbrev N_counts_few : List Str := ["_law_frequent", "_law_room", "_law_total", "_law_counts", "_law_count"]
@[irreducible] noncomputable def F_counts_few : Fn := fn 5 <|
  sSeq (sSet 3 (eUn mListV (cFld 8 (eVar 0)))) <|
  sSeq (sIf (bOr (tst (eBin mGt (eUn mLen (cVar 3)) (vVar 1))) (bOr (tst (eBin mNe (vFld 6 (eVar 0)) (vVar 2))) (tst (eBin mGt (eUn mLen (eLc [4] (iVal (vVar 3)) (tgN 4) (tst (eBin mLt (vVar 4) (eC (.int 1)))) (eVar 4))) (eC (.int 0)))))) (sRet (eC (.bl false))) (sNx)) <|
  sRet (eAnd (eBin mGe (vFld 7 (eVar 0)) (eC (.int 0))) (eBin mLe (eBin mAdd (eUn mSum (cVar 3)) (eBin mMul (eBin mAdd (vVar 1) (eC (.int 1))) (vFld 7 (eVar 0)))) (vVar 2)))
noncomputable abbrev N_rungs_few : List Str := ["_law_rungs", "_law_room", "_law_total", "_law_lists", "_law_weight", "_law_h"]
@[irreducible] noncomputable def B_rungs_few_0 : S :=
  sSeq (sIf (bOr (tst (eBin mGt (eUn mLen (eBin mIx (vVar 3) (vVar 5))) (vVar 1))) (tst (eBin mNe (eBin mIx (vVar 3) (vVar 5)) (eUn mSortedX (eBin mIx (vVar 3) (vVar 5)))))) (sRet (eC (.bl false))) (sNx)) <|
  sAug 4 mAddI (eBin mShl (eUn mLen (eBin mIx (vVar 3) (vVar 5))) (vVar 5))
@[irreducible] noncomputable def F_rungs_few : Fn := fn 6 <|
  sAli 0 14 3 <|
  sSeq (sSet 4 (eC (.int 0))) <|
  sSeq (sFor (iRg1 (eUn mLen (cVar 3))) (tgN 5) (B_rungs_few_0)) <|
  sSeq (sIf (bOr (tst (eBin mNe (vVar 4) (vVar 2))) (bOr (tst (eBin mNe (vFld 6 (eVar 0)) (vVar 2))) (tst (eBin mGt (eUn mLen (cVar 3)) (eUn mBits (cVar 2)))))) (sRet (eC (.bl false))) (sNx)) <|
  sSeq (sIf (bAnd (tst (eBin mGt (vVar 2) (eC (.int 0)))) (tst (eBin mEq (eUn mLen (eBin mIx (vVar 3) (eUn mNeg (eC (.int 1))))) (eC (.int 0))))) (sRet (eC (.bl false))) (sNx)) <|
  sRet (eBin mLe (eBin mMul (eBin mAdd (vFld 9 (eVar 0)) (vFld 10 (eVar 0))) (vVar 1)) (eBin mMul (vVar 2) (eBin mMax (eC (.int 0)) (eBin mSub (eUn mLen (cVar 3)) (eC (.int 1))))))
noncomputable abbrev N_boxes_few : List Str := ["_law_boxes", "_law_room", "_law_weight", "_law_box", "_law_grown", "_law_bound", "_law_pair"]
@[irreducible] noncomputable def B_boxes_few_0 : S :=
  sSeq (sSet 4 (eBin mMul (vVar 4) (eBin mAdd (vVar 1) (eC (.int 1))))) <|
  sSet 5 (eBin mMul (vVar 5) (vVar 1))
@[irreducible] noncomputable def F_boxes_few : Fn := fn 7 <|
  sSeq (sSet 2 (eUn mSum (eLc [3] (iVal (vVar 0)) (tgN 3) (tYes') (eBin mIx (vVar 3) (eC (.int 2)))))) <|
  sSeq (sSet 4 (eC (.int 1))) <|
  sSeq (sSet 5 (eVar 2)) <|
  sSeq (sFor (iRg1 (eBin mDiv (eBin mSub (eUn mLen (cVar 0)) (eC (.int 1))) (eC (.int 2)))) (tgN 6) (B_boxes_few_0)) <|
  sRet (eOr (eAnd (eBin mLt (eUn mLen (cVar 0)) (eC (.int 3))) (eBin mLe (eUn mLen (cVar 0)) (vVar 2))) (eBin mLt (vVar 4) (vVar 5)))
noncomputable abbrev N_few : List Str := ["_law_keepsake", "_law_totals", "_law_room"]
@[irreducible] noncomputable def F_few : Fn := fn 3 <|
  sSeq (sSet 2 (eFld 0 (eVar 0))) <|
  sSeq (sIf (bOr (bNot (tst (eCall F_counts_few (aCons (aF 18 (eVar 0)) (aCons (aL 2) (aCons (aV (eBin (Sem2.dr mIx) (vVar 1) (eC (.int 0)))) (aNil))))))) (bNot (tst (eCall F_counts_few (aCons (aF 19 (eVar 0)) (aCons (aL 2) (aCons (aV (eBin (Sem2.dr mIx) (vVar 1) (eC (.int 1)))) (aNil)))))))) (sRet (eC (.bl false))) (sNx)) <|
  sSeq (sIf (bOr (bNot (tst (eCall F_rungs_few (aCons (aF 20 (eVar 0)) (aCons (aL 2) (aCons (aV (eBin (Sem2.dr mIx) (vVar 1) (eC (.int 0)))) (aNil))))))) (bNot (tst (eCall F_rungs_few (aCons (aF 21 (eVar 0)) (aCons (aL 2) (aCons (aV (eBin (Sem2.dr mIx) (vVar 1) (eC (.int 1)))) (aNil)))))))) (sRet (eC (.bl false))) (sNx)) <|
  sSeq (sIf (bNot (tst (eCall F_boxes_few (aCons (aF 3 (eFld 22 (eVar 0))) (aCons (aL 2) (aNil)))))) (sRet (eC (.bl false))) (sNx)) <|
  sRet (eAnd (eBin mLe (eUn mLen (cFld 17 (eFld 23 (eVar 0)))) (vVar 2)) (eBin mEq (vFld 2 (eFld 22 (eVar 0))) (eBin (Sem2.dr mIx) (vVar 1) (eC (.int 2)))))
noncomputable abbrev N_totals_by : List Str := ["_law_totals", "_law_row", "_law_told"]
@[irreducible] noncomputable def F_totals_by : Fn := fn 3 <|
  sSeq (sSet 2 (eNewC (eUn mList (eDr (cVar 0))))) <|
  sSeq (sIf (tst (eBin mLt (eBin mIx (vVar 1) (eC (.int 0))) (eC (.int 2)))) (sAugC mAddI (eVar 2) (eBin mIx (vVar 1) (eC (.int 0))) (eBin mIx (vVar 1) (eC (.int 2)))) (sNx)) <|
  sSeq (sAugC mAddI (eVar 2) (eC (.int 2)) (eIf (tst (eBin mEq (eBin mIx (vVar 1) (eC (.int 0))) (eC (.int 2)))) (eBin mIx (vVar 1) (eC (.int 2))) (eC (.int 1)))) <|
  sRet (eVar 2)
noncomputable abbrev N_law : List Str := ["_law_script", "_law_shape", "_law_many", "_law_kept_ones", "_law_k", "_law_totals", "_law_pours", "_law_bursts", "_law_cell", "_law_at", "_law_other", "_law_rows", "_law_j", "_law_row"]
@[irreducible] noncomputable def B_law_1 : S :=
  sSeq (sEx (eLend 3 (eCall PX.F_kdone (aCons (aV (eBin mIx (vVar 3) (vVar 9))) (aCons (aL 13) (aNil)))))) <|
  sPut 5 (eVar 9) (eLend 5 (eCall F_totals_by (aCons (aV (eBin mIx (vVar 5) (vVar 9))) (aCons (aL 13) (aNil)))))
@[irreducible] noncomputable def B_law_0 : S :=
  sSeq (sSet 9 (eBin mMod (eCall PX.F_mix (aCons (aL 8) (aCons (aV (eC (.int 48271))) (aCons (aV (eC (.int 2147483647))) (aNil))))) (vVar 2))) <|
  sSeq (sSet 10 (eBin mMod (eCall PX.F_mix (aCons (aL 8) (aCons (aV (eC (.int 16807))) (aCons (aV (eC (.int 2147483399))) (aNil))))) (vVar 2))) <|
  sSeq (sIf (bAnd (tst (eBin mEq (eBin mMod (vVar 8) (eC (.int 4))) (eC (.int 3)))) (tst (eBin mLt (vVar 6) (eC (.int 8))))) (sSeq (sAug 6 mAddI (eC (.int 1))) <|
  sSeq (sPut 3 (eVar 9) (eLend 3 (eCall PX.F_poured (aCons (aV (eBin mIx (vVar 3) (vVar 9))) (aCons (aV (eBin mIx (vVar 3) (vVar 10))) (aNil)))))) <|
  sPut 5 (eVar 9) (eLend 5 (eNewC (eLc [4] (iRg1 (eC (.int 3))) (tgN 4) (tYes') (eBin mAdd (eBin (Sem2.dr mIx) (eBin mIx (vVar 5) (vVar 9)) (vVar 4)) (eBin (Sem2.dr mIx) (eBin mIx (vVar 5) (vVar 10)) (vVar 4))))))) (sSeq (sSet 11 (eLst (eCons (eCall PX.F_krow_by (aCons (aV (eBin mDiv (vVar 8) (eC (.int 4)))) (aNil))) (eNil)))) <|
  sSeq (sIf (bAnd (tst (eBin mEq (eBin mMod (vVar 8) (eC (.int 4))) (eC (.int 2)))) (bAnd (tst (eBin mEq (eBin mMod (eBin mDiv (vVar 8) (eC (.int 4))) (eC (.int 7))) (eC (.int 0)))) (tst (eBin mLt (vVar 7) (eC (.int 2)))))) (sSeq (sAug 7 mAddI (eC (.int 1))) <|
  sSet 11 (eLc [12] (iRg1 (eBin mAdd (eC (.int 66)) (eBin mMod (eBin mDiv (vVar 8) (eC (.int 28))) (eC (.int 8))))) (tgN 12) (tYes') (eCall PX.F_krow_by (aCons (aV (eBin mMul (eC (.int 28)) (eCall PX.F_mix (aCons (aV (eBin mAdd (vVar 8) (vVar 12))) (aCons (aV (eC (.int 39373))) (aCons (aV (eC (.int 2147483587))) (aNil))))))) (aNil))))) (sNx)) <|
  sFor (iVal (vVar 11)) (tgN 13) (B_law_1))) <|
  sIf (eLend 5 (eLend 3 (bNot (tst (eCall F_few (aCons (aV (eBin mIx (vVar 3) (vVar 9))) (aCons (aV (eBin mIx (vVar 5) (vVar 9))) (aNil)))))))) (sRet (eC (.bl false))) (sNx)
@[irreducible] noncomputable def F_law : Fn := fn 14 <|
  sSeq (sSet 1 (eCall PX.F_kshape_by (aCons (aV (eUn mSum (eSlc (vVar 0) (oNone) (oSome (eC (.int 1)))))) (aNil)))) <|
  sSeq (sSet 2 (eBin mAdd (eC (.int 1)) (eBin mMod (eUn mSum (eSlc (vVar 0) (oSome (eUn mNeg (eC (.int 1)))) (oNone))) (eC (.int 8))))) <|
  sSeq (sSetF 3 (eLc [4] (iRg1 (eVar 2)) (tgN 4) (tYes') (eMake 4 12 PX.F_Keepsake_init (aCons (aV (eBin mIx (vVar 1) (eC (.int 0)))) (aCons (aV (eBin mIx (vVar 1) (eC (.int 1)))) (aCons (aV (eBin mIx (vVar 1) (eC (.int 2)))) (aNil))))))) <|
  sSeq (sSetF 5 (eLc [4] (iRg1 (eVar 2)) (tgN 4) (tYes') (eNewC (eLst (eCons (eC (.int 0)) (eCons (eC (.int 0)) (eCons (eC (.int 0)) (eNil)))))))) <|
  sSeq (sSet 6 (eC (.int 0))) <|
  sSeq (sSet 7 (eC (.int 0))) <|
  sSeq (sFor (iVal (vVar 0)) (tgN 8) (B_law_0)) <|
  sRet (eC (.bl true))
end Gk43

namespace Gk43
open PySem L2 PL PX
theorem sqn {a b : S} {st s1 : LS} {r : SRes} (h1 : a st = .nx s1) (h2 : b s1 = r) : sSeq a b st = r := by
  rw [sSeq, h1]
  exact h2
theorem ifF {c : E Bool} {a b : S} {st s1 : LS} {r : SRes} (h1 : c st = .ok false s1) (h2 : b s1 = r) : sIf c a b st = r := by
  rw [sIf_s, h1]; exact h2
/-! ### what is few -/
theorem counts_few_v (c room : Nat) (F : Frq) (tr : Int → Int) (h : List LO) (hr : h[c]? = some (frqO room F)) (o : OkF room F tr) (hm : room ≤ 64) (hb : F.total < 2 ^ 100) :
    F_counts_few [.val (.obj c), .val (.int (room : Nat)), .val (.int F.total)] h = .ret (.val (.bl true)) h := by
  have sm := o.small 0
  have hsum := o.sum
  have hl := o.len
  have c1 : CMulX ((room : Int) + 1) F.lost := cmul_of 100 101 (by omega) (by omega)
  have ev := encC_vals F.fs
  have vm : (encC F.fs).map (·.2) = (F.fs.map (·.2)).map D.int := by unfold encC; simp
  have e : lcT [4] (tgN 4) (tst (eBin mLt (vVar 4) (eC (.int 1)))) (eVar 4) ((F.fs.map (·.2)).map D.int) [] ⟨[some (.val (.obj c)), some (.val (.int (room : Nat))), some (.val (.int F.total)), some (.val (.lst ((F.fs.map (·.2)).map D.int))), none], h⟩ =
      .ok [] ⟨[some (.val (.obj c)), some (.val (.int (room : Nat))), some (.val (.int F.total)), some (.val (.lst ((F.fs.map (·.2)).map D.int))), none], h⟩ := by
    rw [lcT_map _ (fun _ => false) (fun d => d) _ [] ?_ (by simp; omega)]
    · rw [List.nil_append, List.filter_eq_nil_iff.mpr (fun a _ => by simp)]; rfl
    · intro d m
      obtain ⟨i, mi, rfl⟩ := List.mem_map.mp m
      obtain ⟨p, mp, rfl⟩ := List.mem_map.mp mi
      have p1 := o.ok.pos p mp
      exact ⟨_, rfl, ⟨[some (.val (.obj c)), some (.val (.int (room : Nat))), some (.val (.int F.total)), some (.val (.lst ((F.fs.map (·.2)).map D.int))), some (.val (.int p.2))], h⟩, by simp [show ¬ p.2 < 1 by omega], fun q => by simp at q, fun _ => rfl⟩
  have i1 := intsD_map (F.fs.map (·.2))
  have ll : ((F.fs.map (·.2)).map D.int).length = F.fs.length := by simp
  have sm2 : (F.fs.map (·.2)).sum = sumC F.fs := rfl
  unfold frqO at hr
  generalize hV : (F.fs.map (·.2)).map D.int = V at *
  unfold F_counts_few
  simp [fn_s, hr, frq_lk, vm, hV, ll, e, i1, sm2, c1, show ¬ room < F.fs.length by omega, sm.2.1, hsum]
theorem rungs_few_v (u room : Nat) (a : RS) (rows : List (Int × Int)) (h : List LO) (hr : h[u]? = some (rsO room a)) (I : Ri room a.s rows) (ht : a.t = wt rows) (r1 : 1 ≤ room) (r3 : room ≤ 64) (hb : a.t ≤ 100000000000000000) :
    F_rungs_few [.val (.obj u), .val (.int (room : Nat)), .val (.int a.t)] h = .ret (.val (.bl true)) h := by
  have o := I.ok
  rw [← ht] at o
  have we := o.we
  unfold weightR at we
  have lo := fun n => Int.le_of_lt (p2p n)
  have t0 : 0 ≤ a.t := by rw [← we]; exact wsum_nn _ _ fun h r _ => Int.mul_nonneg (by omega) (lo h)
  have l60 := I.len
  have lens : ∀ i, i < a.s.R.length → lenG i (rowAt a.s.R i) ≤ a.t := fun i hi => by
    have e := wsum_set lenG a.s.R 0 i [] hi
    have nn : 0 ≤ wsum lenG 0 (a.s.R.set i []) := wsum_nn _ _ fun h r _ => Int.mul_nonneg (by omega) (lo h)
    rw [Nat.zero_add, lenG_nil] at e
    omega
  obtain ⟨H, hH⟩ : ∃ H, H = h.set u (.ins 9 [(0, .val (.int (room : Nat))), (6, .val (.int a.t)), (9, .val (.int a.s.ov)), (10, .val (.int a.s.un)), (11, .val (.int a.s.tu)), (12, .val (oD a.l)), (13, .val (oD a.m)), (14, .lent (.lst (a.s.R.map encL)))]) := ⟨_, rfl⟩
  have hu := hset hr (.ins 9 [(0, .val (.int (room : Nat))), (6, .val (.int a.t)), (9, .val (.int a.s.ov)), (10, .val (.int a.s.un)), (11, .val (.int a.s.tu)), (12, .val (oD a.l)), (13, .val (oD a.m)), (14, .lent (.lst (a.s.R.map encL)))])
  have hHu : H[u]? = some (.ins 9 [(0, .val (.int (room : Nat))), (6, .val (.int a.t)), (9, .val (.int a.s.ov)), (10, .val (.int a.s.un)), (11, .val (.int a.s.tu)), (12, .val (oD a.l)), (13, .val (oD a.m)), (14, .lent (.lst (a.s.R.map encL)))]) := by rw [hH]; exact hu
  have back : H.set u (rsO room a) = h := by rw [hH, List.set_set]; exact set_self hr
  obtain ⟨st', e, y5, rfl⟩ := range_inv (tg := tgN 5) (b := B_rungs_few_0) (fun i st => ∃ y5, st = ⟨[some (.val (.obj u)), some (.val (.int (room : Nat))), some (.val (.int a.t)), some (.lent (.lst (a.s.R.map encL))), some (.val (.int (wsum lenG 0 (a.s.R.take i)))), y5], H⟩) a.s.R.length
    (fun i st hi ⟨y5, e⟩ => by
      subst e
      refine ⟨_, rfl, ⟨[some (.val (.obj u)), some (.val (.int (room : Nat))), some (.val (.int a.t)), some (.lent (.lst (a.s.R.map encL))), some (.val (.int (wsum lenG 0 (a.s.R.take (i + 1))))), some (.val (.int (i : Nat)))], H⟩, .inl ?_, _, rfl⟩
      have ra : PL.atD (a.s.R.map encL) (i : Int) = some (encL (rowAt a.s.R i)) := by rw [atD_nat, row_at hi]
      have tk : wsum lenG 0 (a.s.R.take (i + 1)) = wsum lenG 0 (a.s.R.take i) + ((rowAt a.s.R i).length : Int) * 2 ^ i := by
        have e1 : a.s.R.take (i + 1) = a.s.R.take i ++ [rowAt a.s.R i] := by
          rw [List.take_add_one]
          unfold rowAt
          rw [List.getElem?_eq_getElem hi]; rfl
        rw [e1, wsum_app]
        simp only [wsum, List.length_take]
        rw [show 0 + min i a.s.R.length = i by omega]
        unfold lenG; omega
      have hl := lens i hi
      have p1 : (1 : Int) ≤ 2 ^ i := Int.pow_pos (by decide)
      have p2 : (2 : Int) ^ i ≤ 2 ^ 60 := by
        have h1 := Nat.pow_le_pow_right (show 0 < 2 by decide) (show i ≤ 60 by omega)
        have h2 : ((2 ^ i : Nat) : Int) = 2 ^ i := by push_cast; rfl
        omega
      have mr : rowAt a.s.R i ∈ a.s.R := by
        unfold rowAt
        rw [List.getElem?_eq_getElem hi]
        exact List.getElem_mem hi
      have rf := I.fit _ mr
      have sr : srt (rowAt a.s.R i) = rowAt a.s.R i := (srt_unique (List.Perm.refl _) (o.so _ mr)).symm
      have cc : CShl ((rowAt a.s.R i).length : Int) (i : Int) := cshl_ok 100 (by omega) (by omega) (by omega)
      have i1 := intsD_map (rowAt a.s.R i)
      have pl : plns 19 ((rowAt a.s.R i).map D.int) = true := plns_map (fun _ => rfl) _
      have dq := deqs_refl 19 _ pl
      have rl : ((rowAt a.s.R i).map D.int).length = (rowAt a.s.R i).length := by simp
      rw [tk]
      generalize wsum lenG 0 (a.s.R.take i) = ws at *
      unfold encL at ra ⊢
      generalize a.s.R.map (fun q => D.lst (q.map D.int)) = RM at *
      unfold B_rungs_few_0
      generalize hq : (rowAt a.s.R i).map D.int = rw_ at *
      simp [ra, rl, i1, sr, hq, pl, dq, cc, show ¬ room < (rowAt a.s.R i).length by omega])
    ⟨[some (.val (.obj u)), some (.val (.int (room : Nat))), some (.val (.int a.t)), some (.lent (.lst (a.s.R.map encL))), some (.val (.int 0)), none], H⟩ ⟨none, rfl⟩
  rw [List.take_length, we] at e
  have rm : (a.s.R.map encL).length = a.s.R.length := by simp
  have ph := phi_le a.s.R
  rw [show weightR a.s.R = a.t from we] at ph
  have sl := o.sl
  have ov := o.ov
  have un := o.un
  have hbits : a.s.R.length ≤ Builtin.Int.intBits a.t := by
    by_cases hne : a.s.R = []
    · rw [hne]; simp
    · have ll := lists_le (o.ne hne) hne
      rw [show weightR a.s.R = a.t from we] at ll
      have h1 : ¬ Builtin.Int.intBits a.t ≤ a.s.R.length - 1 := fun q => by
        have := lt_bits q
        have e : ((2 ^ (a.s.R.length - 1) : Nat) : Int) = 2 ^ (a.s.R.length - 1) := by push_cast; rfl
        omega
      omega
  have fin : (a.s.ov + a.s.un) * (room : Int) ≤ a.t * (if 1 < (a.s.R.length : Int) then (a.s.R.length : Int) - 1 else 0) := by
    split
    · rw [Int.mul_comm a.t]; omega
    · rename_i q
      have : ((a.s.R.length : Int) - 1) * a.t ≤ 0 := by
        rcases (show a.s.R.length = 0 ∨ a.s.R.length = 1 by omega) with z | z
        · rw [z]; simp; omega
        · rw [z]; simp
      omega
  have ob : (a.s.ov + a.s.un) * 1 ≤ (a.s.ov + a.s.un) * (room : Int) := Int.mul_le_mul_of_nonneg_left (by omega) (by omega)
  have fb : a.t * (if 1 < (a.s.R.length : Int) then (a.s.R.length : Int) - 1 else 0) ≤ a.t * 60 := Int.mul_le_mul_of_nonneg_left (by split <;> omega) t0
  have c1 : CMulX (a.s.ov + a.s.un) (room : Int) := cmul_of 100 100 (by omega) (by omega)
  have c2 : CMulX a.t (if 1 < (a.s.R.length : Int) then (a.s.R.length : Int) - 1 else 0) := cmul_of 100 100 (by omega) (by split <;> omega)
  have lst : 0 < a.t → PL.atD (a.s.R.map encL) (-1) = some (encL (rowAt a.s.R (a.s.R.length - 1))) ∧ (rowAt a.s.R (a.s.R.length - 1)).length ≠ 0 := fun q => by
    have hne : a.s.R ≠ [] := fun z => by rw [z] at we; simp [wsum] at we; omega
    have l1 : 1 ≤ a.s.R.length := by cases e : a.s.R with
      | nil => exact absurd e hne
      | cons => simp
    refine ⟨?_, fun z => o.ne hne (List.eq_nil_of_length_eq_zero z)⟩
    unfold PL.atD
    rw [if_neg (by decide), if_pos (by simp; omega)]
    have : (-1 + ((a.s.R.map encL).length : Int)).toNat = a.s.R.length - 1 := by simp; omega
    rw [this]
    exact row_at (by omega)
  unfold F_rungs_few
  unfold rsO rgO rgFs at *
  generalize a.s.R.map encL = RM at *
  by_cases q : 0 < a.t
  · obtain ⟨l1, l2⟩ := lst q
    have l3 : ((rowAt a.s.R (a.s.R.length - 1)).map D.int).length = (rowAt a.s.R (a.s.R.length - 1)).length := by simp
    have d0 : deq (.int ((rowAt a.s.R (a.s.R.length - 1)).length : Nat)) (.int 0) = false := by simp [deq]; exact fun z => l2 (by rw [z]; rfl)
    unfold encL at l1
    generalize rowAt a.s.R (a.s.R.length - 1) = rl at *
    generalize rl.map D.int = rld at *
    simp [fn_s, hr, rg_lk, ← hH, hHu, rm, e, back, q, l1, l3, d0, c1, c2, fin, show (a.s.R.length : Int) < 4611686018427387904 by omega, show ¬ Builtin.Int.intBits a.t < a.s.R.length by omega]
  · simp [fn_s, hr, rg_lk, ← hH, hHu, rm, e, back, q, c1, c2, fin, show (a.s.R.length : Int) < 4611686018427387904 by omega, show ¬ Builtin.Int.intBits a.t < a.s.R.length by omega]
theorem pow_small {room : Nat} (r3 : room ≤ 64) : ∀ i : Nat, (((room : Int) + 1) ^ i).natAbs < 2 ^ (7 * i + 1) ∧ (((room : Int)) ^ i).natAbs < 2 ^ (7 * i + 1) := by
  intro i
  have h1 : (room + 1) ^ i ≤ (2 ^ 7) ^ i := Nat.pow_le_pow_left (by omega) i
  have h2 : room ^ i ≤ (2 ^ 7) ^ i := Nat.pow_le_pow_left (by omega) i
  have e : (2 ^ 7) ^ i = 2 ^ (7 * i) := (Nat.pow_mul 2 7 i).symm
  have p : (2 : Nat) ^ (7 * i + 1) = 2 ^ (7 * i) * 2 := Nat.pow_succ 2 (7 * i)
  have q : 0 < (2 : Nat) ^ (7 * i) := Nat.pow_pos (by decide)
  have n1 : (((room : Int) + 1) ^ i).natAbs = (room + 1) ^ i := by
    rw [Int.natAbs_pow]; rfl
  have n2 : (((room : Int)) ^ i).natAbs = room ^ i := by
    rw [Int.natAbs_pow]; rfl
  rw [n1, n2, p]
  rw [e] at h1 h2
  omega
theorem boxes_few_v (room : Nat) (bs : List Box) (h : List LO) (r1 : 1 ≤ room) (r3 : room ≤ 64) (near : NearR (room : Int) 0 bs.reverse) (pos : ∀ b ∈ bs, 1 ≤ b.2.2) (hs : bsum bs < 2 ^ 100) (hl : bs.length ≤ 100000) :
    F_boxes_few [.val (.lst (bs.map encB)), .val (.int (room : Nat))] h = .ret (.val (.bl true)) h := by
  have e1 : lcT [3] (tgN 3) tYes' (eBin mIx (vVar 3) (eC (.int 2))) (bs.map encB) [] ⟨[some (.val (.lst (bs.map encB))), some (.val (.int (room : Nat))), none, none, none, none, none], h⟩ =
      .ok ((bs.map (·.2.2)).map D.int) ⟨[some (.val (.lst (bs.map encB))), some (.val (.int (room : Nat))), none, none, none, none, none], h⟩ := by
    rw [lcT_map _ (fun _ => true) (fun d => match d with | .tup [_, _, w] => w | _ => .non) _ [] ?_ (by simp; omega)]
    · rw [filter_true, List.nil_append, List.map_map, List.map_map]; rfl
    · intro d m
      obtain ⟨b, mb, rfl⟩ := List.mem_map.mp m
      have a3 := at3 (.int b.1) (.int b.2.1) (.int b.2.2)
      exact ⟨_, rfl, _, rfl, fun _ => ⟨⟨[some (.val (.lst (bs.map encB))), some (.val (.int (room : Nat))), none, some (.val (encB b)), none, none, none], h⟩, by unfold encB; simp [a3], rfl⟩, fun q => by simp at q⟩
  have es : (bs.map (·.2.2)).sum = bsum bs := by
    clear e1 near pos hs hl
    induction bs with
    | nil => rfl
    | cons b bs ih => rw [List.map_cons, List.sum_cons, ih]; rfl
  have i1 := intsD_map (bs.map (·.2.2))
  have bn : 0 ≤ bsum bs ∧ (bs.length : Int) ≤ bsum bs := by
    clear e1 near es i1 hs hl
    induction bs with
    | nil => simp [bsum]
    | cons b bs ih =>
      have := ih fun c m => pos c (by simp [m])
      have := pos b (by simp)
      simp only [bsum, List.length_cons]
      push_cast
      omega
  obtain ⟨p, hp⟩ : ∃ p : Nat, (((bs.length : Int) - 1) / 2).toNat = p := ⟨_, rfl⟩
  have hp2 : 2 * p ≤ bs.length := by omega
  have loop := range_inv (tg := tgN 6) (b := B_boxes_few_0) (fun i st => ∃ y6, st = ⟨[some (.val (.lst (bs.map encB))), some (.val (.int (room : Nat))), some (.val (.int (bsum bs))), none, some (.val (.int (((room : Int) + 1) ^ i))), some (.val (.int (bsum bs * (room : Int) ^ i))), y6], h⟩) p
    (fun i st hi ⟨y6, e⟩ => by
      subst e
      obtain ⟨q1, q2⟩ := pow_small r3 i
      have c1 : CMulX (((room : Int) + 1) ^ i) ((room : Int) + 1) := cmul_of (7 * i + 1) 100 q1 (by omega) (by omega)
      have q3 : (bsum bs * (room : Int) ^ i).natAbs < 2 ^ (100 + (7 * i + 1)) := bal_mul (by omega) q2
      have c2 : CMulX (bsum bs * (room : Int) ^ i) (room : Int) := cmul_of (100 + (7 * i + 1)) 100 q3 (by omega) (by omega)
      refine ⟨_, rfl, ⟨[some (.val (.lst (bs.map encB))), some (.val (.int (room : Nat))), some (.val (.int (bsum bs))), none, some (.val (.int (((room : Int) + 1) ^ (i + 1)))), some (.val (.int (bsum bs * (room : Int) ^ (i + 1)))), some (.val (.int (i : Nat)))], h⟩, .inl ?_, _, rfl⟩
      have m1 : ((room : Int) + 1) ^ i * ((room : Int) + 1) = ((room : Int) + 1) ^ (i + 1) := (Int.pow_succ _ _).symm
      have m2 : bsum bs * (room : Int) ^ i * (room : Int) = bsum bs * (room : Int) ^ (i + 1) := by rw [Int.pow_succ, Int.mul_assoc]
      clear q1 q2 q3
      generalize bs.map encB = BD at *
      generalize ((room : Int) + 1) ^ (i + 1) = g2 at *
      generalize bsum bs * (room : Int) ^ (i + 1) = b2 at *
      generalize ((room : Int) + 1) ^ i = g1 at *
      generalize bsum bs * (room : Int) ^ i = b1 at *
      unfold B_boxes_few_0
      simp [c1, c2, m1, m2])
    ⟨[some (.val (.lst (bs.map encB))), some (.val (.int (room : Nat))), some (.val (.int (bsum bs))), none, some (.val (.int 1)), some (.val (.int (bsum bs))), none], h⟩ ⟨none, by simp⟩
  obtain ⟨st', e2, y6, rfl⟩ := loop
  have bl : (bs.map encB).length = bs.length := by simp
  have big : ¬ (bs.length : Int) < 3 → ((room : Int) + 1) ^ p < bsum bs * (room : Int) ^ p := fun q => by
    obtain ⟨m, rfl⟩ : ∃ m, p = m + 1 := ⟨p - 1, by omega⟩
    rcases Int.lt_or_le (((room : Int) + 1) ^ (m + 1)) (bsum bs * (room : Int) ^ (m + 1)) with c | c
    · exact c
    · have := few (p := m) (show (1 : Int) ≤ room by omega) near pos c
      omega
  generalize ((room : Int) + 1) ^ p = g1 at *
  generalize bsum bs * (room : Int) ^ p = b1 at *
  generalize bs.map encB = BD at *
  generalize bs.map (·.2.2) = BW at *
  unfold F_boxes_few
  by_cases q : (bs.length : Int) < 3
  · have q' : bs.length < 3 := by omega
    simp [fn_s, e1, i1, es, bl, hp, e2, q, q', bn.2, show ((bs.length : Int) - 1) / 2 < 4611686018427387904 by omega, show -4611686018427387904 ≤ ((bs.length : Int) - 1) / 2 by omega]
  · have b := big q
    have q' : ¬ bs.length < 3 := by omega
    simp [fn_s, e1, i1, es, bl, hp, e2, q, q', b, show ((bs.length : Int) - 1) / 2 < 4611686018427387904 by omega, show -4611686018427387904 ≤ ((bs.length : Int) - 1) / 2 by omega]
section
variable {room : Nat} {reach span : Int} {K : KS} {r : Nat} {A : Ad} {h : List LO}
noncomputable def celT (rows : List R3) (ck : Int) : LO := .cell (.lst [.int (wt (kindR 0 rows)), .int (wt (kindR 1 rows)), .int ck])
theorem few_v (P : Kp room reach span K r A h) (r2 : 2 ≤ room) (r3 : room ≤ 64) {rows : List R3} (I : KI room reach span rows K) (c : Nat) (hc : h[c]? = some (celT rows K.ck)) : F_few [.val (.obj r), .val (.obj c)] h = .ret (.val (.bl true)) h := by
  have ln := I.len
  have k0 := kindR_len 0 rows
  have k1 := kindR_len 1 rows
  have w0 := (wt_bd I.ru.w1).2
  have w1 := (wt_bd I.rd.w1).2
  have f0 := counts_few_v A.c room K.fc _ h P.p.c I.fc r3 (by rw [I.tc]; omega)
  have f1 := counts_few_v A.w room K.fw _ h P.p.w I.fw r3 (by rw [I.tw]; omega)
  have g0 := rungs_few_v A.u room K.ru _ h P.p.u I.ru I.tu (by omega) r3 (by rw [I.tu]; omega)
  have g1 := rungs_few_v A.d room K.rd _ h P.p.d I.rd I.td (by omega) r3 (by rw [I.td]; omega)
  rw [I.tc] at f0
  rw [I.tw] at f1
  rw [I.tu] at g0
  rw [I.td] at g1
  have bx := I.wn.k.bx
  have bsm := bx.sum
  have bln := bx.len
  have pos : ∀ b ∈ K.bx, 1 ≤ b.2.2 := fun b m => (grp_box I.wn.k.grp I.wn.k.asc I.wn.k.pos b m).1
  have b0 := boxes_few_v room K.bx h (by omega) r3 I.wn.k.near pos (by omega) (by omega)
  have o := P.o
  have pn := P.p.n
  have ps := P.p.s
  have lk := ks_lk
  have lw := lkW
  have ld := dis_lk
  have kp := kept_len K.sn (lv room K.sn)
  have fit := (lv_spec room K.sn).2.2.1
  have a3 := at3 (.int (wt (kindR 0 rows))) (.int (wt (kindR 1 rows))) (.int K.ck)
  unfold celT at hc
  unfold ksO ksFs at o
  unfold winO at pn
  unfold disS disO at ps
  generalize wt (kindR 0 rows) = t0 at *
  generalize wt (kindR 1 rows) = t1 at *
  have kl : ((keptOf K.sn (lv room K.sn)).map D.int).length = (keptOf K.sn (lv room K.sn)).length := by simp
  generalize hKO : (keptOf K.sn (lv room K.sn)).map D.int = KO at *
  generalize K.bx.map encB = BD at *
  unfold F_few
  simp [fn_s, o, lk, hc, a3, f0, f1, g0, g1, pn, lw, b0, ps, ld, kl, kp, hKO, fit]
end
theorem wt_kind (k : Int) (rows : List R3) (q : R3) : wt (kindR k (rows ++ [q])) = wt (kindR k rows) + if q.1 = k then q.2.2 else 0 := by
  rw [kindR_app, wt_app, kindR_one]
  split <;> simp [wt]
theorem done_ck (room : Nat) (reach span : Int) (K : KS) (q : R3) (g : GRow q) : (K.done room reach span q).ck = K.ck + if q.1 = 2 then q.2.2 else 1 := by
  obtain ⟨a, x, w⟩ := q
  rcases g.k with e | e | e <;> simp only at e <;> subst e <;> simp [KS.done, KS.put, KS.take, KS.idle]
theorem done_sn (room : Nat) (reach span : Int) (K : KS) (q : R3) (x : Int) (m : x ∈ (K.done room reach span q).sn) : x ∈ K.sn ∨ x = q.2.1 := by
  unfold KS.done at m
  split at m
  · exact addT_mem m
  · split at m
    · exact .inl m
    · exact .inl m
theorem totals_v (c : Nat) (rows : List R3) (ck : Int) (q : R3) (g : GRow q) (h : List LO) (hc : h[c]? = some (celT rows ck)) :
    F_totals_by [.val (.obj c), .val (rowD q)] h = .ret (.val (.obj h.length)) (h ++ [celT (rows ++ [q]) (ck + if q.1 = 2 then q.2.2 else 1)]) := by
  have gt : ∀ x : LO, (h ++ [x])[h.length]? = some x := fun x => by simp
  have st : ∀ a b : LO, (h ++ [a]).set h.length b = h ++ [b] := fun a b => by simp
  have a3 := at3 (.int q.1) (.int q.2.1) (.int q.2.2)
  have b3 := fun x y z : Int => at3 (.int x) (.int y) (.int z)
  have s0 : ∀ x y z v : Int, [D.int x, .int y, .int z].set 0 (.int v) = [.int v, .int y, .int z] := fun x y z v => rfl
  have s1 : ∀ x y z v : Int, [D.int x, .int y, .int z].set 1 (.int v) = [.int x, .int v, .int z] := fun x y z v => rfl
  have s2 : ∀ x y z v : Int, [D.int x, .int y, .int z].set 2 (.int v) = [.int x, .int y, .int v] := fun x y z v => rfl
  unfold celT at hc ⊢
  rw [wt_kind, wt_kind]
  generalize wt (kindR 0 rows) = t0 at *
  generalize wt (kindR 1 rows) = t1 at *
  have i0 : ixD 3 0 = some 0 := rfl
  have i1 : ixD 3 1 = some 1 := rfl
  have i2 : ixD 3 2 = some 2 := rfl
  obtain ⟨a, x, w⟩ := q
  unfold F_totals_by rowD
  rcases g.k with e | e | e <;> simp only at e <;> subst e
  · have d : deq (.int 0) (.int 2) = false := rfl
    simp [fn_s, hc, gt, st, a3, b3, d, at3, i0, i1, i2]
  · have d : deq (.int 1) (.int 2) = false := rfl
    simp [fn_s, hc, gt, st, a3, b3, d, at3, i0, i1, i2]
  · have d : deq (.int 2) (.int 2) = true := rfl
    simp [fn_s, hc, gt, st, a3, b3, d, at3, i0, i1, i2]
/-! ### the keepsakes and their totals -/
structure E3 where
  p : Pc
  c : Nat
noncomputable def objE (Q : List E3) : List D := Q.map fun e => D.obj e.p.r
noncomputable def celE (Q : List E3) : List D := Q.map fun e => D.obj e.c
structure OkT (room : Nat) (reach span : Int) (e : E3) (h : List LO) : Prop where
  k : Kp room reach span e.p.K e.p.r e.p.A h
  i : KI room reach span e.p.rows e.p.K
  c : h[e.c]? = some (celT e.p.rows e.p.K.ck)
  nc : e.c ∉ e.p.A.all
structure Apt (e f : E3) : Prop where
  a : ∀ j ∈ f.p.A.all, j ∉ e.p.A.all
  r : f.p.r ∉ e.p.A.all
  c : f.c ∉ e.p.A.all
structure All (room : Nat) (reach span : Int) (Q : List E3) (U : List Int) (m : Nat) (h : List LO) : Prop where
  ok : ∀ e ∈ Q, OkT room reach span e h
  ap : ∀ (i j : Nat) (e f : E3), i ≠ j → Q[i]? = some e → Q[j]? = some f → Apt e f
  sn : ∀ e ∈ Q, ∀ x ∈ e.p.K.sn, x ∈ U
  len : ∀ e ∈ Q, e.p.rows.length ≤ m
theorem OkT.clt {room : Nat} {reach span : Int} {e : E3} {h : List LO} (o : OkT room reach span e h) : e.c < h.length := (List.getElem?_eq_some_iff.mp o.c).1
theorem OkT.app {room : Nat} {reach span : Int} {e : E3} {h : List LO} (o : OkT room reach span e h) (xs : List LO) : OkT room reach span e (h ++ xs) :=
  ⟨o.k.app xs, o.i, by rw [List.getElem?_append_left o.clt]; exact o.c, o.nc⟩
theorem in_set {Q : List E3} {a : Nat} {y f : E3} (m : f ∈ Q.set a y) (ha : a < Q.length) : f = y ∨ ∃ j, j ≠ a ∧ Q[j]? = some f := by
  obtain ⟨j, hj⟩ := List.mem_iff_getElem?.mp m
  by_cases c : j = a
  · subst c
    rw [List.getElem?_set_self ha] at hj
    exact .inl (Option.some.inj hj).symm
  · rw [List.getElem?_set_ne (Ne.symm c)] at hj
    exact .inr ⟨j, c, hj⟩
theorem objE_set {Q : List E3} {a : Nat} {e y : E3} (he : Q[a]? = some e) (hr : y.p.r = e.p.r) : objE (Q.set a y) = objE Q := by
  unfold objE
  rw [List.map_set, hr]
  refine List.ext_getElem? fun j => ?_
  by_cases c : a = j
  · subst c
    have : (Q.map fun e => D.obj e.p.r)[a]? = some (D.obj e.p.r) := by rw [List.getElem?_map, he]; rfl
    rw [List.getElem?_set_self (List.getElem?_eq_some_iff.mp this).1, this]
  · rw [List.getElem?_set_ne c]
section
variable {room : Nat} {reach span : Int} {Q : List E3} {U : List Int} {m : Nat} {h : List LO}
theorem row_step (S : Shp room reach span) (A : All room reach span Q U m h) (hm : m < 99999) {a : Nat} {e : E3} (he : Q[a]? = some e) (q : R3) (g : GRow q) :
    ∃ h1 h' e', F_kdone [.val (.obj e.p.r), .val (rowD q)] h = .ret (.val .non) h1 ∧ F_totals_by [.val (.obj e.c), .val (rowD q)] h1 = .ret (.val (.obj e'.c)) h' ∧ e'.p.r = e.p.r ∧ All room reach span (Q.set a e') (q.2.1 :: U) (m + 1) h' := by
  have r2 := S.r2
  have r3 := S.r3
  have al := (List.getElem?_eq_some_iff.mp he).1
  have me : e ∈ Q := List.mem_of_getElem? he
  have o := A.ok e me
  have ol := A.len e me
  obtain ⟨h1, e1, P1, f1⟩ := kp_done_v o.k (o.i.lim r2 r3 (by omega)) g
  have I1 := o.i.done S.r1 r2 g (by omega)
  have c1 : h1[e.c]? = some (celT e.p.rows e.p.K.ck) := by rw [f1.2 e.c o.nc]; exact o.c
  have e2 := totals_v e.c e.p.rows e.p.K.ck q g h1 c1
  have lt := o.k.p.lt
  have h1l := f1.1
  refine ⟨h1, _, ⟨⟨e.p.r, e.p.A, e.p.K.done room reach span q, e.p.rows ++ [q]⟩, h1.length⟩, e1, e2, rfl, ⟨fun f mf => ?_, fun i j ei ej hij hi hj => ?_, fun f mf x mx => ?_, fun f mf => ?_⟩⟩
  · rcases in_set mf al with rfl | ⟨j, hj, ej⟩
    · refine ⟨P1.app _, I1, ?_, fun z => ?_⟩
      · show (h1 ++ [_])[h1.length]? = _
        rw [done_ck _ _ _ _ _ g]
        simp
      · have := lt _ z
        simp only at this
        omega
    · have of_ := A.ok f (List.mem_of_getElem? ej)
      have ap := A.ap a j e f (Ne.symm hj) he ej
      exact OkT.app ⟨of_.k.other f1 ap.a ap.r, of_.i, by rw [f1.2 _ ap.c]; exact of_.c, of_.nc⟩ _
  · by_cases ci : i = a
    · subst ci
      rw [List.getElem?_set_self al] at hi
      rw [List.getElem?_set_ne hij] at hj
      have ap := A.ap i j e ej hij he hj
      rw [← Option.some.inj hi]
      exact ⟨ap.a, ap.r, ap.c⟩
    · rw [List.getElem?_set_ne (Ne.symm ci)] at hi
      by_cases cj : j = a
      · subst cj
        rw [List.getElem?_set_self al] at hj
        have ap := A.ap i j ei e hij hi he
        rw [← Option.some.inj hj]
        refine ⟨ap.a, ap.r, fun z => ?_⟩
        have := (A.ok ei (List.mem_of_getElem? hi)).k.p.lt _ z
        simp only at this
        omega
      · rw [List.getElem?_set_ne (Ne.symm cj)] at hj
        exact A.ap i j ei ej hij hi hj
  · rcases in_set mf al with rfl | ⟨j, hj, ej⟩
    · rcases done_sn _ _ _ _ _ _ mx with mx | rfl
      · exact List.mem_cons_of_mem _ (A.sn e me x mx)
      · exact List.mem_cons_self
    · exact List.mem_cons_of_mem _ (A.sn f (List.mem_of_getElem? ej) x mx)
  · rcases in_set mf al with rfl | ⟨j, hj, ej⟩
    · simp; omega
    · have := A.len f (List.mem_of_getElem? ej); omega
theorem pour_step (S : Shp room reach span) (A : All room reach span Q U m h) (hm : m ≤ 40000) (hu : U.length ≤ 1500) {a b : Nat} {e f : E3} (he : Q[a]? = some e) (hf : Q[b]? = some f) :
    ∃ H1 y, F_poured [.val (.obj e.p.r), .val (.obj f.p.r)] h = .ret (.val (.obj y.p.r)) H1 ∧ y.c = H1.length ∧ H1[e.c]? = some (celT e.p.rows e.p.K.ck) ∧ H1[f.c]? = some (celT f.p.rows f.p.K.ck) ∧
      y.p.rows = e.p.rows ++ f.p.rows ∧ y.p.K.ck = e.p.K.ck + f.p.K.ck ∧ All room reach span (Q.set a y) U (2 * m) (H1 ++ [celT (e.p.rows ++ f.p.rows) (e.p.K.ck + f.p.K.ck)]) := by
  have r2 := S.r2
  have r3 := S.r3
  have al := (List.getElem?_eq_some_iff.mp he).1
  have me : e ∈ Q := List.mem_of_getElem? he
  have mf : f ∈ Q := List.mem_of_getElem? hf
  have o := A.ok e me
  have p := A.ok f mf
  have ol := A.len e me
  have pl := A.len f mf
  have s1 := sub_len o.i.sn.nd (A.sn e me)
  have s2 := sub_len p.i.sn.nd (A.sn f mf)
  have pk : Pok room reach e.p.K f.p.K := ⟨o.i.lim r2 r3 (by omega), p.i.lim r2 r3 (by omega), (o.i.wn.k.bx.join p.i.wn.k.bx p.i.wn.c0 p.i.wn.pe).fit (by omega), by omega⟩
  obtain ⟨H1, xs, e1, w1, lx, Z⟩ := pour_exp o.k p.k pk
  have IZ := o.i.pour p.i S.r1 r2 (by omega)
  have H1l : H1.length = h.length + 15 := by rw [w1, List.length_append, lx]
  refine ⟨H1, ⟨⟨h.length, ad (h.length + 8), e.p.K.pour room reach f.p.K, e.p.rows ++ f.p.rows⟩, H1.length⟩, e1, rfl, by rw [w1, List.getElem?_append_left o.clt]; exact o.c, by rw [w1, List.getElem?_append_left p.clt]; exact p.c, rfl, rfl,
    ⟨fun g mg => ?_, fun i j ei ej hij hi hj => ?_, fun g mg x mx => ?_, fun g mg => ?_⟩⟩
  · rcases in_set mg al with rfl | ⟨j, hj, ej⟩
    · refine ⟨Z.app _, IZ, ?_, fun z => ?_⟩
      · show (H1 ++ [_])[H1.length]? = _
        simp [KS.pour]
      · have := Z.p.lt _ z
        simp only at this
        omega
    · have := (A.ok g (List.mem_of_getElem? ej)).app xs
      rw [← w1] at this
      exact this.app _
  · have newA : ∀ x, x < h.length → x ∉ (ad (h.length + 8)).all := fun x hx => ad_out (by omega)
    by_cases ci : i = a
    · subst ci
      rw [List.getElem?_set_self al] at hi
      rw [List.getElem?_set_ne hij] at hj
      have oj := A.ok ej (List.mem_of_getElem? hj)
      rw [← Option.some.inj hi]
      exact ⟨fun x mx => newA x (oj.k.p.lt x mx), newA _ oj.k.lt, newA _ oj.clt⟩
    · rw [List.getElem?_set_ne (Ne.symm ci)] at hi
      have oi := A.ok ei (List.mem_of_getElem? hi)
      by_cases cj : j = a
      · subst cj
        rw [List.getElem?_set_self al] at hj
        rw [← Option.some.inj hj]
        refine ⟨fun x mx z => ?_, fun z => ?_, fun z => ?_⟩
        · exact newA x (oi.k.p.lt x z) mx
        · have := oi.k.p.lt _ z
          simp only at this
          omega
        · have := oi.k.p.lt _ z
          simp only at this
          omega
      · rw [List.getElem?_set_ne (Ne.symm cj)] at hj
        exact A.ap i j ei ej hij hi hj
  · rcases in_set mg al with rfl | ⟨j, hj, ej⟩
    · rcases unT_mem.mp (show x ∈ unT e.p.K.sn f.p.K.sn from mx) with mx | mx
      · exact A.sn e me x mx
      · exact A.sn f mf x mx
    · exact A.sn g (List.mem_of_getElem? ej) x mx
  · rcases in_set mg al with rfl | ⟨j, hj, ej⟩
    · simp; omega
    · have := A.len g (List.mem_of_getElem? ej); omega
theorem rows_step (S : Shp room reach span) (X0 X1 X2 X4 X6 X7 X8 X10 X11 X12 : Option FV) (a : Nat) : ∀ (rows : List R3) (Q : List E3) (U : List Int) (m : Nat) (h : List LO) (x13 : Option FV), (∀ q ∈ rows, GRow q) → m + rows.length < 99999 → a < Q.length → All room reach span Q U m h →
    ∃ Q' U' h' y13, turns (tgN 13) B_law_1 (rows.map rowD) ⟨[X0, X1, X2, some (.own (.lst (objE Q))), X4, some (.own (.lst (celE Q))), X6, X7, X8, some (.val (.int (a : Nat))), X10, X11, X12, x13], h⟩ =
      .nx ⟨[X0, X1, X2, some (.own (.lst (objE Q'))), X4, some (.own (.lst (celE Q'))), X6, X7, X8, some (.val (.int (a : Nat))), X10, X11, X12, y13], h'⟩ ∧ All room reach span Q' U' (m + rows.length) h' ∧ Q'.length = Q.length ∧ U'.length = U.length + rows.length := by
  intro rows
  induction rows with
  | nil => intro Q U m h x13 _ _ _ A; exact ⟨Q, U, h, x13, rfl, A, rfl, rfl⟩
  | cons q rows ih =>
    intro Q U m h x13 g hm ha A
    rw [List.length_cons] at hm
    obtain ⟨e, he⟩ : ∃ e, Q[a]? = some e := ⟨Q[a], List.getElem?_eq_getElem ha⟩
    obtain ⟨h1, h2, e', e1, e2, er, A2⟩ := row_step S A (by omega) he q (g q (by simp))
    obtain ⟨Q', U', h', y13, e3, A3, l3, u3⟩ := ih (Q.set a e') (q.2.1 :: U) (m + 1) h2 (some (.val (rowD q))) (fun z mz => g z (by simp [mz])) (by omega) (by simpa using ha) A2
    refine ⟨Q', U', h', y13, ?_, by rw [List.length_cons, show m + (rows.length + 1) = m + 1 + rows.length by omega]; exact A3, by simpa using l3, by rw [u3]; simp; omega⟩
    rw [List.map_cons]
    refine turns_step rfl (.inl ?_) e3
    have g1 : PL.atD (objE Q) (a : Int) = some (.obj e.p.r) := by unfold objE; rw [atD_nat, List.getElem?_map, he]; rfl
    have g2 : PL.atD (celE Q) (a : Int) = some (.obj e.c) := by unfold celE; rw [atD_nat, List.getElem?_map, he]; rfl
    have k1 : (celE Q).length = Q.length := by simp [celE]
    have ix := ixD_nat ha
    have cs : celE (Q.set a e') = (celE Q).set a (.obj e'.c) := by unfold celE; rw [List.map_set]
    rw [objE_set he er, cs]
    generalize objE Q = OB at *
    generalize celE Q = CE at *
    unfold B_law_1
    simp [g1, e1, g2, e2, k1, ix]
end
theorem All.mono {room : Nat} {reach span : Int} {Q : List E3} {U : List Int} {m m' : Nat} {h : List LO} (A : All room reach span Q U m h) (hm : m ≤ m') : All room reach span Q U m' h :=
  ⟨A.ok, A.ap, A.sn, fun e me => Nat.le_trans (A.len e me) hm⟩
theorem two_le {p q : Nat} (h : p ≤ q) : (2 : Nat) ^ p ≤ 2 ^ q := Nat.pow_le_pow_right (by decide) h
theorem turn_v {room : Nat} {reach span : Int} (S : Shp room reach span) (X0 X1 : Option FV) (many : Nat) (m1 : 1 ≤ many) (m8 : many ≤ 8) (i p b : Nat) (hi : i ≤ 63) (hp : p ≤ 8) (hb : b ≤ 2) (Q : List E3) (U : List Int) (h : List LO) (hq : Q.length = many)
    (A : All room reach span Q U ((i + 73 * b) * 2 ^ p) h) (hu : U.length ≤ i + 73 * b) (z : Int) (c1 : CMulX z 48271) (c2 : CMulX z 16807) (f : R3) (ef : ∀ h : List LO, F_krow_by [.val (.int (z / 4))] h = .ret (.val (rowD f)) h) (gf : GRow f) (c3 : ∀ j : Int, 0 ≤ j → j < 100 → CMulX (z + j) 39373) (x9 x10 x11 x13 : Option FV) :
    ∃ Q' U' h' p' b' y9 y10 y11 y13, B_law_0 ⟨[X0, X1, some (.val (.int (many : Nat))), some (.own (.lst (objE Q))), none, some (.own (.lst (celE Q))), some (.val (.int (p : Nat))), some (.val (.int (b : Nat))), some (.val (.int z)), x9, x10, x11, none, x13], h⟩ =
      .nx ⟨[X0, X1, some (.val (.int (many : Nat))), some (.own (.lst (objE Q'))), none, some (.own (.lst (celE Q'))), some (.val (.int (p' : Nat))), some (.val (.int (b' : Nat))), some (.val (.int z)), y9, y10, y11, none, y13], h'⟩ ∧
      Q'.length = many ∧ p' ≤ 8 ∧ b' ≤ 2 ∧ All room reach span Q' U' ((i + 1 + 73 * b') * 2 ^ p') h' ∧ U'.length ≤ i + 1 + 73 * b' := by
  have r2 := S.r2
  have r3 := S.r3
  have e1 := mix_v z 48271 2147483647 h c1 (by decide)
  have e2 := mix_v z 16807 2147483399 h c2 (by decide)
  obtain ⟨a, ha⟩ : ∃ a : Nat, z * 48271 % 2147483647 % (many : Int) = (a : Int) := ⟨(z * 48271 % 2147483647 % (many : Int)).toNat, by have := Int.emod_nonneg (z * 48271 % 2147483647) (show (many : Int) ≠ 0 by omega); omega⟩
  have al : a < many := by have := Int.emod_lt_of_pos (z * 48271 % 2147483647) (show 0 < (many : Int) by omega); omega
  obtain ⟨o, ho⟩ : ∃ o : Nat, z * 16807 % 2147483399 % (many : Int) = (o : Int) := ⟨(z * 16807 % 2147483399 % (many : Int)).toNat, by have := Int.emod_nonneg (z * 16807 % 2147483399) (show (many : Int) ≠ 0 by omega); omega⟩
  have ol : o < many := by have := Int.emod_lt_of_pos (z * 16807 % 2147483399) (show 0 < (many : Int) by omega); omega
  have pw := two_le hp
  have pw1 : 1 ≤ 2 ^ p := Nat.pow_pos (by decide)
  have mb : (i + 73 * b) * 2 ^ p ≤ 209 * 2 ^ 8 := Nat.mul_le_mul (by omega) pw
  have last : ∀ (Q' : List E3) (U' : List Int) (m' : Nat) (h' : List LO), All room reach span Q' U' m' h' → a < Q'.length → ∀ x2 x6 x7 x8 x10 x11 x13 : Option FV,
      sIf (eLend 5 (eLend 3 (bNot (tst (eCall F_few (aCons (aV (eBin mIx (vVar 3) (vVar 9))) (aCons (aV (eBin mIx (vVar 5) (vVar 9))) (aNil)))))))) (sRet (eC (.bl false))) (sNx) ⟨[X0, X1, x2, some (.own (.lst (objE Q'))), none, some (.own (.lst (celE Q'))), x6, x7, x8, some (.val (.int (a : Nat))), x10, x11, none, x13], h'⟩ =
      .nx ⟨[X0, X1, x2, some (.own (.lst (objE Q'))), none, some (.own (.lst (celE Q'))), x6, x7, x8, some (.val (.int (a : Nat))), x10, x11, none, x13], h'⟩ := by
    intro Q' U' m' h' A' ha' x2 x6 x7 x8 x10 x11 x13
    obtain ⟨e, he⟩ : ∃ e, Q'[a]? = some e := ⟨Q'[a], List.getElem?_eq_getElem ha'⟩
    have oe := A'.ok e (List.mem_of_getElem? he)
    have fw := few_v oe.k r2 r3 oe.i e.c oe.c
    have g1 : PL.atD (objE Q') (a : Int) = some (.obj e.p.r) := by unfold objE; rw [atD_nat, List.getElem?_map, he]; rfl
    have g2 : PL.atD (celE Q') (a : Int) = some (.obj e.c) := by unfold celE; rw [atD_nat, List.getElem?_map, he]; rfl
    generalize objE Q' = OB at *
    generalize celE Q' = CE at *
    simp [g1, g2, fw]
  have st9 : (sSet 9 (eBin mMod (eCall PX.F_mix (aCons (aL 8) (aCons (aV (eC (.int 48271))) (aCons (aV (eC (.int 2147483647))) (aNil))))) (vVar 2))) ⟨[X0, X1, some (.val (.int (many : Nat))), some (.own (.lst (objE Q))), none, some (.own (.lst (celE Q))), some (.val (.int (p : Nat))), some (.val (.int (b : Nat))), some (.val (.int z)), x9, x10, x11, none, x13], h⟩ =
      .nx ⟨[X0, X1, some (.val (.int (many : Nat))), some (.own (.lst (objE Q))), none, some (.own (.lst (celE Q))), some (.val (.int (p : Nat))), some (.val (.int (b : Nat))), some (.val (.int z)), some (.val (.int (a : Nat))), x10, x11, none, x13], h⟩ := by
    simp [e1, ha, show 0 < many by omega]
  have st10 : (sSet 10 (eBin mMod (eCall PX.F_mix (aCons (aL 8) (aCons (aV (eC (.int 16807))) (aCons (aV (eC (.int 2147483399))) (aNil))))) (vVar 2))) ⟨[X0, X1, some (.val (.int (many : Nat))), some (.own (.lst (objE Q))), none, some (.own (.lst (celE Q))), some (.val (.int (p : Nat))), some (.val (.int (b : Nat))), some (.val (.int z)), some (.val (.int (a : Nat))), x10, x11, none, x13], h⟩ =
      .nx ⟨[X0, X1, some (.val (.int (many : Nat))), some (.own (.lst (objE Q))), none, some (.own (.lst (celE Q))), some (.val (.int (p : Nat))), some (.val (.int (b : Nat))), some (.val (.int z)), some (.val (.int (a : Nat))), some (.val (.int (o : Nat))), x11, none, x13], h⟩ := by
    simp [e2, ho, show 0 < many by omega]
  obtain ⟨e, he⟩ : ∃ e, Q[a]? = some e := ⟨Q[a], List.getElem?_eq_getElem (by omega)⟩
  obtain ⟨g, hg⟩ : ∃ g, Q[o]? = some g := ⟨Q[o], List.getElem?_eq_getElem (by omega)⟩
  have g1 : PL.atD (objE Q) (a : Int) = some (.obj e.p.r) := by unfold objE; rw [atD_nat, List.getElem?_map, he]; rfl
  have g2 : PL.atD (celE Q) (a : Int) = some (.obj e.c) := by unfold celE; rw [atD_nat, List.getElem?_map, he]; rfl
  have g3 : PL.atD (objE Q) (o : Int) = some (.obj g.p.r) := by unfold objE; rw [atD_nat, List.getElem?_map, hg]; rfl
  have g4 : PL.atD (celE Q) (o : Int) = some (.obj g.c) := by unfold celE; rw [atD_nat, List.getElem?_map, hg]; rfl
  have k1 : (objE Q).length = many := by simp [objE, hq]
  have k2 : (celE Q).length = many := by simp [celE, hq]
  have ix := ixD_nat (n := many) (p := a) al
  by_cases cp : z % 4 = 3 ∧ p < 8
  · have mb7 : (i + 73 * b) * 2 ^ p ≤ 209 * 2 ^ 7 := Nat.mul_le_mul (by omega) (two_le (by omega))
    obtain ⟨H1, y, ep, yc, ce, cg, yr, yk, A2⟩ := pour_step S A (by omega) (by omega) he hg
    have d3 : deq (.int (z % 4)) (.int 3) = true := by simp [deq, cp.1]
    have pl : (p : Int) < 8 := by omega
    have l2 := last (Q.set a y) U _ _ A2 (by rw [List.length_set]; omega)
    refine ⟨Q.set a y, U, _, p + 1, b, some (.val (.int (a : Nat))), some (.val (.int (o : Nat))), x11, x13, ?_, by rw [List.length_set]; exact hq, by omega, hb, A2.mono ?_, by omega⟩
    · have os : objE (Q.set a y) = (objE Q).set a (.obj y.p.r) := by unfold objE; rw [List.map_set]
      have cs : celE (Q.set a y) = (celE Q).set a (.obj H1.length) := by unfold celE; rw [List.map_set, yc]
      rw [os, cs] at l2 ⊢
      have h3 := rg3
      have b3 := fun x y z : Int => at3 (.int x) (.int y) (.int z)
      unfold celT at ce cg l2 ⊢
      rw [kindR_app, kindR_app, wt_app, wt_app] at l2 ⊢
      generalize wt (kindR 0 e.p.rows) = t0 at *
      generalize wt (kindR 1 e.p.rows) = t1 at *
      generalize wt (kindR 0 g.p.rows) = t2 at *
      generalize wt (kindR 1 g.p.rows) = t3 at *
      generalize objE Q = OB at *
      generalize celE Q = CE at *
      clear st9 st10 A A2
      unfold B_law_0
      refine sqn (s1 := ⟨[X0, X1, some (.val (.int (many : Nat))), some (.own (.lst OB)), none, some (.own (.lst CE)), some (.val (.int (p : Nat))), some (.val (.int (b : Nat))), some (.val (.int z)), some (.val (.int (a : Nat))), x10, x11, none, x13], h⟩) (by simp [e1, ha, show 0 < many by omega]) ?_
      refine sqn (s1 := ⟨[X0, X1, some (.val (.int (many : Nat))), some (.own (.lst OB)), none, some (.own (.lst CE)), some (.val (.int (p : Nat))), some (.val (.int (b : Nat))), some (.val (.int z)), some (.val (.int (a : Nat))), some (.val (.int (o : Nat))), x11, none, x13], h⟩) (by simp [e2, ho, show 0 < many by omega]) ?_
      refine sqn ?_ (l2 _ _ _ _ _ _ _)
      simp [d3, pl, k1, k2, g1, g2, g3, g4, ep, ix, h3, lcT, ce, cg, b3]
    · have : (2 : Nat) ^ (p + 1) = 2 * 2 ^ p := by rw [Nat.pow_succ]; omega
      rw [this]
      have h1 : (i + 73 * b) * 2 ^ p ≤ (i + 1 + 73 * b) * 2 ^ p := Nat.mul_le_mul_right _ (by omega)
      have h2 : (i + 1 + 73 * b) * (2 * 2 ^ p) = 2 * ((i + 1 + 73 * b) * 2 ^ p) := by rw [← Nat.mul_assoc, Nat.mul_comm (i + 1 + 73 * b) 2, Nat.mul_assoc]
      omega
  · -- rows
    have rowsC : ∀ (rows : List R3) (b' : Nat) (bD : Int), bD = (b' : Int) → b' ≤ 2 → b ≤ b' → (∀ q ∈ rows, GRow q) → rows.length ≤ 1 + 73 * (b' - b) →
        (sIf (bAnd (tst (eBin mEq (eBin mMod (vVar 8) (eC (.int 4))) (eC (.int 3)))) (tst (eBin mLt (vVar 6) (eC (.int 8))))) (sNx) (sNx) = sIf (bAnd (tst (eBin mEq (eBin mMod (vVar 8) (eC (.int 4))) (eC (.int 3)))) (tst (eBin mLt (vVar 6) (eC (.int 8))))) (sNx) (sNx)) →
        ∃ Q' U' h' y13, turns (tgN 13) B_law_1 (rows.map rowD) ⟨[X0, X1, some (.val (.int (many : Nat))), some (.own (.lst (objE Q))), none, some (.own (.lst (celE Q))), some (.val (.int (p : Nat))), some (.val (.int bD)), some (.val (.int z)), some (.val (.int (a : Nat))), some (.val (.int (o : Nat))), some (.val (.lst (rows.map rowD))), none, x13], h⟩ =
          .nx ⟨[X0, X1, some (.val (.int (many : Nat))), some (.own (.lst (objE Q'))), none, some (.own (.lst (celE Q'))), some (.val (.int (p : Nat))), some (.val (.int bD)), some (.val (.int z)), some (.val (.int (a : Nat))), some (.val (.int (o : Nat))), some (.val (.lst (rows.map rowD))), none, y13], h'⟩ ∧ Q'.length = many ∧ All room reach span Q' U' ((i + 1 + 73 * b') * 2 ^ p) h' ∧ U'.length ≤ i + 1 + 73 * b' := by
      intro rows b' bD hbD hb' hbb gr rl _
      obtain ⟨Q', U', h', y13, et, A', ql, ul⟩ := rows_step S X0 X1 (some (.val (.int (many : Nat)))) none (some (.val (.int (p : Nat)))) (some (.val (.int bD))) (some (.val (.int z))) (some (.val (.int (o : Nat)))) (some (.val (.lst (rows.map rowD)))) none a rows Q U _ h x13 gr (by omega) (by omega) A
      refine ⟨Q', U', h', y13, et, by omega, A'.mono ?_, by omega⟩
      have h1 : (i + 73 * b) * 2 ^ p + (1 + 73 * (b' - b)) * 2 ^ p = (i + 1 + 73 * b') * 2 ^ p := by
        rw [← Nat.add_mul]
        congr 1
        omega
      have h2 : (1 + 73 * (b' - b)) * 1 ≤ (1 + 73 * (b' - b)) * 2 ^ p := Nat.mul_le_mul_left _ pw1
      omega
    have cpI : ¬ (z % 4 = 3 ∧ (p : Int) < 8) := fun q => cp ⟨q.1, by omega⟩
    by_cases cb : z % 4 = 2 ∧ z / 4 % 7 = 0 ∧ b < 2
    · obtain ⟨n, hn⟩ : ∃ n : Nat, 66 + z / 28 % 8 = (n : Int) := ⟨(66 + z / 28 % 8).toNat, by omega⟩
      obtain ⟨r, hr⟩ := choose_fn (P := fun j => 0 ≤ j ∧ j < 100) (Q := fun j (q : R3) => (∀ h : List LO, F_krow_by [.val (.int (28 * ((z + j) * 39373 % 2147483587)))] h = .ret (.val (rowD q)) h) ∧ GRow q) (0, 0, 1) fun j hj => krow_u _ (by
        have := Int.emod_nonneg ((z + j) * 39373) (show (2147483587 : Int) ≠ 0 by decide)
        have := Int.emod_lt_of_pos ((z + j) * 39373) (show (0 : Int) < 2147483587 by decide)
        exact Nat.lt_of_lt_of_le (show (28 * ((z + j) * 39373 % 2147483587)).natAbs < 2 ^ 100 by omega) (Nat.pow_le_pow_right (by decide) (by decide)))
      obtain ⟨rows, hrows⟩ : ∃ rows : List R3, rows = (List.range n).map fun j : Nat => r (j : Int) := ⟨_, rfl⟩
      have rl : rows.length = n := by rw [hrows]; simp
      have gr : ∀ q ∈ rows, GRow q := fun q m => by
        rw [hrows] at m
        obtain ⟨j, mj, rfl⟩ := List.mem_map.mp m
        rw [List.mem_range] at mj
        exact (hr (j : Int) ⟨by omega, by omega⟩).2
      have lc : ∀ x3 x5 x6 x7 x9 x10 x11 x13 : Option FV, lcT [12] (tgN 12) (tYes') (eCall PX.F_krow_by (aCons (aV (eBin mMul (eC (.int 28)) (eCall PX.F_mix (aCons (aV (eBin mAdd (vVar 8) (vVar 12))) (aCons (aV (eC (.int 39373))) (aCons (aV (eC (.int 2147483587))) (aNil))))))) (aNil))) (rangeD 0 n) [] ⟨[X0, X1, some (.val (.int (many : Nat))), x3, none, x5, x6, x7, some (.val (.int z)), x9, x10, x11, none, x13], h⟩ =
          .ok (rows.map rowD) ⟨[X0, X1, some (.val (.int (many : Nat))), x3, none, x5, x6, x7, some (.val (.int z)), x9, x10, x11, none, x13], h⟩ := by
        intro x3 x5 x6 x7 x9 x10 x11 x13
        rw [lcT_map _ (fun _ => true) (fun d => match d with | .int j => rowD (r j) | _ => .non) _ [] ?_ (by simp [rangeD_len]; omega)]
        · rw [filter_true, List.nil_append, hrows]
          unfold rangeD
          rw [List.map_map, List.map_map]
          congr 1
          refine List.map_congr_left fun j mj => ?_
          simp
        · intro d m
          obtain ⟨j, hj, rfl⟩ := mem_range m
          have hj2 : (0 : Int) ≤ 0 + (j : Int) ∧ 0 + (j : Int) < 100 := by omega
          have cm := c3 (0 + (j : Int)) hj2.1 hj2.2
          have mx := mix_v (z + (0 + (j : Int))) 39373 2147483587 h cm (by decide)
          have rk := (hr (0 + (j : Int)) hj2).1 h
          have b0 := Int.emod_nonneg ((z + (0 + (j : Int))) * 39373) (show (2147483587 : Int) ≠ 0 by decide)
          have b1 := Int.emod_lt_of_pos ((z + (0 + (j : Int))) * 39373) (show (0 : Int) < 2147483587 by decide)
          have cm2 : CMulX 28 ((z + (0 + (j : Int))) * 39373 % 2147483587) := cmul_of 100 100 (by decide) (by omega)
          generalize (z + (0 + (j : Int))) * 39373 % 2147483587 = mv at *
          refine ⟨_, rfl, _, rfl, fun _ => ⟨⟨[X0, X1, some (.val (.int (many : Nat))), x3, none, x5, x6, x7, some (.val (.int z)), x9, x10, x11, some (.val (.int (0 + (j : Int)))), x13], h⟩, ?_, rfl⟩, fun q => by simp at q⟩
          simp at mx rk ⊢
          simp [mx, cm2, rk]
      obtain ⟨Q', U', h', y13, et, ql, A', ul⟩ := rowsC rows (b + 1) ((b : Int) + 1) (by omega) (by omega) (by omega) gr (by rw [rl]; omega) rfl
      have l2 := last Q' U' _ h' A' (by omega)
      refine ⟨Q', U', h', p, b + 1, some (.val (.int (a : Nat))), some (.val (.int (o : Nat))), some (.val (.lst (rows.map rowD))), y13, ?_, ql, hp, by omega, A', ul⟩
      have d3 : deq (.int (z % 4)) (.int 3) = false := by simp [deq, cb.1]
      have d2 : deq (.int (z % 4)) (.int 2) = true := by simp [deq, cb.1]
      have d0 : deq (.int (z / 4 % 7)) (.int 0) = true := by simp [deq, cb.2.1]
      have bl : (b : Int) < 2 := by omega
      have nn : (66 + z / 28 % 8).toNat = n := by omega
      have hbn : ((b + 1 : Nat) : Int) = (b : Int) + 1 := by omega
      rw [hbn]
      have ef := ef h
      generalize rows.map rowD = RD at *
      generalize objE Q = OB at *
      generalize celE Q = CE at *
      generalize objE Q' = OB2 at *
      generalize celE Q' = CE2 at *
      unfold B_law_0
      refine sqn st9 (sqn st10 (sqn ?_ (l2 _ _ _ _ _ _ _)))
      simp [d3, ef, d2, d0, bl, hn, lc, et, show (n : Int) < 4611686018427387904 by omega]
    · obtain ⟨Q', U', h', y13, et, ql, A', ul⟩ := rowsC [f] b (b : Int) rfl hb (Nat.le_refl _) (by intro q m; rw [List.mem_singleton.mp m]; exact gf) (by simp) rfl
      have l2 := last Q' U' _ h' A' (by omega)
      refine ⟨Q', U', h', p, b, some (.val (.int (a : Nat))), some (.val (.int (o : Nat))), some (.val (.lst ([f].map rowD))), y13, ?_, ql, hp, hb, A', ul⟩
      have ef := ef h
      have c0 : (sIf (bAnd (tst (eBin mEq (eBin mMod (vVar 8) (eC (.int 4))) (eC (.int 2)))) (bAnd (tst (eBin mEq (eBin mMod (eBin mDiv (vVar 8) (eC (.int 4))) (eC (.int 7))) (eC (.int 0)))) (tst (eBin mLt (vVar 7) (eC (.int 2)))))) (sSeq (sAug 7 mAddI (eC (.int 1))) <|
          sSet 11 (eLc [12] (iRg1 (eBin mAdd (eC (.int 66)) (eBin mMod (eBin mDiv (vVar 8) (eC (.int 28))) (eC (.int 8))))) (tgN 12) (tYes') (eCall PX.F_krow_by (aCons (aV (eBin mMul (eC (.int 28)) (eCall PX.F_mix (aCons (aV (eBin mAdd (vVar 8) (vVar 12))) (aCons (aV (eC (.int 39373))) (aCons (aV (eC (.int 2147483587))) (aNil))))))) (aNil))))) (sNx)) ⟨[X0, X1, some (.val (.int (many : Nat))), some (.own (.lst (objE Q))), none, some (.own (.lst (celE Q))), some (.val (.int (p : Nat))), some (.val (.int (b : Nat))), some (.val (.int z)), some (.val (.int (a : Nat))), some (.val (.int (o : Nat))), some (.val (.lst [rowD f])), none, x13], h⟩ =
          .nx ⟨[X0, X1, some (.val (.int (many : Nat))), some (.own (.lst (objE Q))), none, some (.own (.lst (celE Q))), some (.val (.int (p : Nat))), some (.val (.int (b : Nat))), some (.val (.int z)), some (.val (.int (a : Nat))), some (.val (.int (o : Nat))), some (.val (.lst [rowD f])), none, x13], h⟩ := by
        by_cases q1 : z % 4 = 2
        · have d2 : deq (.int (z % 4)) (.int 2) = true := by simp [deq, q1]
          by_cases q2 : z / 4 % 7 = 0
          · have d0 : deq (.int (z / 4 % 7)) (.int 0) = true := by simp [deq, q2]
            have bl : ¬ (b : Int) < 2 := fun q => cb ⟨q1, q2, by omega⟩
            simp [d2, d0, bl]
          · have d0 : deq (.int (z / 4 % 7)) (.int 0) = false := by simp [deq, q2]
            simp [d2, d0]
        · have d2 : deq (.int (z % 4)) (.int 2) = false := by simp [deq, q1]
          simp [d2]
      have er : [f].map rowD = [rowD f] := rfl
      rw [er] at et ⊢
      generalize rowD f = RF at *
      generalize objE Q = OB at *
      generalize celE Q = CE at *
      generalize objE Q' = OB2 at *
      generalize celE Q' = CE2 at *
      unfold B_law_0
      refine sqn st9 (sqn st10 (sqn (ifF (s1 := ⟨[X0, X1, some (.val (.int (many : Nat))), some (.own (.lst OB)), none, some (.own (.lst CE)), some (.val (.int (p : Nat))), some (.val (.int (b : Nat))), some (.val (.int z)), some (.val (.int (a : Nat))), some (.val (.int (o : Nat))), x11, none, x13], h⟩) ?_ (sqn (s1 := ⟨[X0, X1, some (.val (.int (many : Nat))), some (.own (.lst OB)), none, some (.own (.lst CE)), some (.val (.int (p : Nat))), some (.val (.int (b : Nat))), some (.val (.int z)), some (.val (.int (a : Nat))), some (.val (.int (o : Nat))), some (.val (.lst [RF])), none, x13], h⟩) (by simp [ef]) (sqn c0 ?_))) (l2 _ _ _ _ _ _ _)))
      · by_cases q1 : z % 4 = 3
        · have d3 : deq (.int (z % 4)) (.int 3) = true := by simp [deq, q1]
          have pl : ¬ (p : Int) < 8 := fun q => cpI ⟨q1, q⟩
          have pl' : ¬ p < 8 := by omega
          simp [d3, pl, pl']
        · have d3 : deq (.int (z % 4)) (.int 3) = false := by simp [deq, q1]
          simp [d3]
      · simp [et]
theorem pow_up2 {x y : Int} {n : Nat} (hn : 10 ≤ n) (hx : x.natAbs < 2 ^ n) (hy : y.natAbs ≤ 1023) : (x + y).natAbs < 2 ^ (n + 1) := by
  have h1 : (2 : Nat) ^ (n + 1) = 2 ^ n + 2 ^ n := by rw [Nat.pow_succ]; omega
  have h3 : 1024 ≤ (2 : Nat) ^ n := Nat.le_trans (show 1024 ≤ 2 ^ 10 by decide) (Nat.pow_le_pow_right (by decide) hn)
  omega
theorem small_j {j : Int} (h0 : 0 ≤ j) (h1 : j < 100) : j.natAbs ≤ 1023 := by omega
theorem make_v {room : Nat} {reach span : Int} (X0 X2 : Option FV) : ∀ (n i : Nat) (acc : List D) (h : List LO), h.length = 8 * i → acc.length + n ≤ 1000 →
    ∃ h', lcT [4] (tgN 4) (tYes') (eMake 4 12 PX.F_Keepsake_init (aCons (aV (eBin mIx (vVar 1) (eC (.int 0)))) (aCons (aV (eBin mIx (vVar 1) (eC (.int 1)))) (aCons (aV (eBin mIx (vVar 1) (eC (.int 2)))) (aNil))))) ((List.range' i n).map fun (j : Nat) => D.int (0 + (j : Int))) acc ⟨[X0, some (.val (.tup [.int (room : Nat), .int reach, .int span])), X2, none, none, none, none, none, none, none, none, none, none, none], h⟩ =
      .ok (acc ++ (List.range' i n).map fun j => D.obj (8 * j)) ⟨[X0, some (.val (.tup [.int (room : Nat), .int reach, .int span])), X2, none, none, none, none, none, none, none, none, none, none, none], h'⟩ ∧ h'.length = 8 * (i + n) ∧ (∀ j, j < h.length → h'[j]? = h[j]?) ∧ ∀ j, i ≤ j → j < i + n → Kp room reach span .zero (8 * j) (ad (8 * j + 1)) h' := by
  intro n
  induction n with
  | zero => intro i acc h hl _; exact ⟨h, by simp [lcT], by omega, fun _ _ => rfl, fun j a b => by omega⟩
  | succ n ih =>
    intro i acc h hl ha
    obtain ⟨H1, xs, e1, w1, l1, Z⟩ := make_ex room reach span h
    have H1l : H1.length = 8 * (i + 1) := by rw [w1, List.length_append, l1]; omega
    obtain ⟨h', e2, hl2, old, K⟩ := ih (i + 1) (acc ++ [.obj (8 * i)]) H1 H1l (by simp; omega)
    have old1 : ∀ j, j < h.length → H1[j]? = h[j]? := fun j lj => by rw [w1, List.getElem?_append_left lj]
    refine ⟨h', ?_, by omega, fun j lj => by rw [old j (by omega), old1 j lj], fun j a b => ?_⟩
    · have a3 := at3 (.int (room : Nat)) (.int reach) (.int span)
      rw [hl] at e1
      rw [List.range'_succ, List.map_cons, List.map_cons, lcT]
      simp [a3, hl, e1, show acc.length < 16777216 by omega]
      simp at e2
      rw [e2]
    · by_cases c : j = i
      · subst c
        rw [hl] at Z
        exact ⟨Z.p.move fun x m => old x (Z.p.lt x m), by rw [old _ Z.lt]; exact Z.o, Z.ni⟩
      · exact K j (by omega) (by omega)
theorem cells_v (X0 X1 X2 X3 : Option FV) : ∀ (n i : Nat) (acc : List D) (h : List LO), acc.length + n ≤ 1000 →
    lcT [4] (tgN 4) (tYes') (eNewC (eLst (eCons (eC (.int 0)) (eCons (eC (.int 0)) (eCons (eC (.int 0)) (eNil)))))) ((List.range' i n).map fun (j : Nat) => D.int (0 + (j : Int))) acc ⟨[X0, X1, X2, X3, none, none, none, none, none, none, none, none, none, none], h⟩ =
      .ok (acc ++ (List.range n).map fun j => D.obj (h.length + j)) ⟨[X0, X1, X2, X3, none, none, none, none, none, none, none, none, none, none], h ++ List.replicate n (celT [] 0)⟩ := by
  intro n
  induction n with
  | zero => intro i acc h _; simp [lcT]
  | succ n ih =>
    intro i acc h ha
    have e2 := ih (i + 1) (acc ++ [.obj h.length]) (h ++ [celT [] 0]) (by simp; omega)
    have c0 : celT [] 0 = .cell (.lst [.int 0, .int 0, .int 0]) := rfl
    rw [c0] at e2 ⊢
    rw [List.range'_succ, List.map_cons, lcT]
    simp [show acc.length < 16777216 by omega]
    simp at e2
    rw [e2, List.range_succ_eq_map]
    simp [List.replicate_succ, Function.comp_def, Nat.add_comm, Nat.add_left_comm]
theorem loop_v {room : Nat} {reach span : Int} (S : Shp room reach span) (f : Int → R3) (X0 X1 : Option FV) (many : Nat) (m1 : 1 ≤ many) (m8 : many ≤ 8) : ∀ (zs : List Int) (i p b : Nat) (Q : List E3) (U : List Int) (h : List LO) (x8 x9 x10 x11 x13 : Option FV),
    (∀ z ∈ zs, CMulX z 48271 ∧ CMulX z 16807 ∧ (∀ h : List LO, F_krow_by [.val (.int (z / 4))] h = .ret (.val (rowD (f z))) h) ∧ GRow (f z) ∧ ∀ j : Int, 0 ≤ j → j < 100 → CMulX (z + j) 39373) →
    i + zs.length ≤ 63 → p ≤ 8 → b ≤ 2 → Q.length = many → All room reach span Q U ((i + 73 * b) * 2 ^ p) h → U.length ≤ i + 73 * b →
    ∃ st', turns (tgN 8) B_law_0 (zs.map D.int) ⟨[X0, X1, some (.val (.int (many : Nat))), some (.own (.lst (objE Q))), none, some (.own (.lst (celE Q))), some (.val (.int (p : Nat))), some (.val (.int (b : Nat))), x8, x9, x10, x11, none, x13], h⟩ = .nx st' := by
  intro zs
  induction zs with
  | nil => intro i p b Q U h x8 x9 x10 x11 x13 _ _ _ _ _ _ _; exact ⟨_, rfl⟩
  | cons z zs ih =>
    intro i p b Q U h x8 x9 x10 x11 x13 hz hi hp hb hq A hu
    rw [List.length_cons] at hi
    obtain ⟨c1, c2, ef, gf, c3⟩ := hz z (by simp)
    obtain ⟨Q', U', h', p', b', y9, y10, y11, y13, e, q1, p1, b1, A', u1⟩ := turn_v S X0 X1 many m1 m8 i p b (by omega) hp hb Q U h hq A hu z c1 c2 (f z) ef gf c3 x9 x10 x11 x13
    obtain ⟨st', e2⟩ := ih (i + 1) p' b' Q' U' h' (some (.val (.int z))) y9 y10 y11 y13 (fun w m => hz w (by simp [m])) (by omega) p1 b1 q1 A' u1
    refine ⟨st', ?_⟩
    rw [List.map_cons]
    exact turns_step rfl (.inl e) e2
theorem law_true (ns : List Int) (hn : ns.length ≤ 63 ∧ ∀ z ∈ ns, Builtin.Int.intBits z ≤ 1048576) : ∃ h', F_law [.val (.lst (ns.map D.int))] [] = .ret (.val (.bl true)) h' := by
  obtain ⟨room, reach, span, esh, S⟩ := kshape_v (PL.cutD ns none (some 1)).sum []
  obtain ⟨f, hf⟩ := choose_fn (P := fun z => Builtin.Int.intBits z ≤ 1048576) (Q := fun z (r : R3) => (∀ h : List LO, F_krow_by [.val (.int (z / 4))] h = .ret (.val (rowD r)) h) ∧ GRow r) (0, 0, 1) fun z hz => krow_u (z / 4) (Nat.lt_trans (Nat.lt_of_le_of_lt (show (z / 4).natAbs ≤ z.natAbs by omega) (lt_bits hz)) (Nat.pow_lt_pow_right (by decide) (by decide)))
  obtain ⟨c, hc⟩ : ∃ c, c = (PL.cutD ns (some (-1)) none).sum := ⟨_, rfl⟩
  obtain ⟨many, hmany, m1, m8⟩ : ∃ many : Nat, 1 + c % 8 = (many : Int) ∧ 1 ≤ many ∧ many ≤ 8 := ⟨(1 + c % 8).toNat, by omega, by omega, by omega⟩
  obtain ⟨X0, hX0⟩ : ∃ X : Option FV, X = some (.val (.lst (ns.map D.int))) := ⟨_, rfl⟩
  obtain ⟨h1, e1, l1, _, K1⟩ := make_v (room := room) (reach := reach) (span := span) X0 (some (.val (.int (many : Nat)))) many 0 [] [] rfl (by simp; omega)
  rw [List.nil_append] at e1
  rw [Nat.zero_add] at l1
  have e2 := cells_v X0 (some (.val (.tup [.int (room : Nat), .int reach, .int span]))) (some (.val (.int (many : Nat)))) (some (.own (.lst ((List.range' 0 many).map fun j => D.obj (8 * j))))) many 0 [] h1 (by simp; omega)
  rw [List.nil_append] at e2
  obtain ⟨Q, hQ⟩ : ∃ Q : List E3, Q = (List.range many).map fun j => (⟨⟨8 * j, ad (8 * j + 1), .zero, []⟩, h1.length + j⟩ : E3) := ⟨_, rfl⟩
  have qo : objE Q = (List.range' 0 many).map fun j => D.obj (8 * j) := by rw [hQ]; unfold objE; rw [List.map_map, List.range_eq_range']; rfl
  have qc : celE Q = (List.range many).map fun j => D.obj (h1.length + j) := by rw [hQ]; unfold celE; rw [List.map_map]; rfl
  have ql : Q.length = many := by rw [hQ]; simp
  have qg : ∀ (j : Nat) (e : E3), Q[j]? = some e → j < many ∧ e = ⟨⟨8 * j, ad (8 * j + 1), .zero, []⟩, h1.length + j⟩ := fun j e he => by
    rw [hQ, List.getElem?_map] at he
    obtain ⟨k, hk, rfl⟩ := Option.map_eq_some_iff.mp he
    have hk2 := List.mem_range.mp (List.mem_of_getElem? hk)
    have lt := (List.getElem?_eq_some_iff.mp hk).1
    rw [List.getElem?_range (by simpa using lt)] at hk
    cases hk
    exact ⟨hk2, rfl⟩
  have Iz := KI.zero room reach span (show 0 ≤ reach by have := S.e0; omega)
  have A0 : All room reach span Q [] ((0 + 73 * 0) * 2 ^ 0) (h1 ++ List.replicate many (celT [] 0)) := by
    refine ⟨fun e me => ?_, fun i j e f hij hi hj => ?_, fun e me x mx => ?_, fun e me => ?_⟩
    · obtain ⟨j, hj⟩ := List.mem_iff_getElem?.mp me
      obtain ⟨jl, rfl⟩ := qg j e hj
      refine ⟨(K1 j (by omega) (by omega)).app _, Iz, ?_, ad_out (.inr (by simp only; omega))⟩
      show (h1 ++ List.replicate many (celT [] 0))[h1.length + j]? = some (celT [] 0)
      rw [List.getElem?_append_right (by omega), Nat.add_sub_cancel_left, List.getElem?_replicate, if_pos jl]
    · obtain ⟨il, rfl⟩ := qg i e hi
      obtain ⟨jl, rfl⟩ := qg j f hj
      refine ⟨fun x m => ad_out ?_, ad_out (by simp only; omega), ad_out (.inr (by simp only; omega))⟩
      simp only [ad_all, List.mem_cons, List.not_mem_nil, or_false] at m
      omega
    · obtain ⟨j, hj⟩ := List.mem_iff_getElem?.mp me
      obtain ⟨jl, rfl⟩ := qg j e hj
      simp [KS.zero] at mx
    · obtain ⟨j, hj⟩ := List.mem_iff_getElem?.mp me
      obtain ⟨jl, rfl⟩ := qg j e hj
      simp
  have cms : ∀ z ∈ ns, CMulX z 48271 ∧ CMulX z 16807 ∧ (∀ h : List LO, F_krow_by [.val (.int (z / 4))] h = .ret (.val (rowD (f z))) h) ∧ GRow (f z) ∧ ∀ j : Int, 0 ≤ j → j < 100 → CMulX (z + j) 39373 := fun z mz => by
    have hb := hn.2 z mz
    have hl := lt_bits hb
    exact ⟨cmul_of 1048576 100 hl (by decide), cmul_of 1048576 100 hl (by decide), (hf z hb).1, (hf z hb).2, fun j j0 j1 => cmul_of (1048576 + 1) 100 (pow_up2 (n := 1048576) (by decide) hl (small_j j0 j1)) (by decide)⟩
  obtain ⟨st', e3⟩ := loop_v S f X0 (some (.val (.tup [.int (room : Nat), .int reach, .int span]))) many m1 m8 ns 0 0 0 Q [] _ none none none none none cms (by omega) (by decide) (by decide) ql A0 (by simp)
  rw [qo, qc] at e3
  refine ⟨st'.h, ?_⟩
  have i1 := intsD_map (PL.cutD ns none (some 1))
  have i2 := intsD_map (PL.cutD ns (some (-1)) none)
  have cd := cutD_map ns none (some 1)
  have cm2 := cutD_map ns (some (-1)) none
  have hcs := hc.symm
  have er : rangeD 0 many = (List.range' 0 many).map fun (j : Nat) => D.int (0 + (j : Int)) := by unfold rangeD; rw [List.range_eq_range']
  rw [← er] at e1 e2
  clear cms
  subst hX0
  generalize (List.range' 0 many).map (fun j => D.obj (8 * j)) = OB at *
  generalize (List.range many).map (fun j => D.obj (h1.length + j)) = CE at *
  generalize h1 ++ List.replicate many (celT [] 0) = H at *
  generalize ns.map D.int = N at *
  unfold F_law
  simp at e3
  simp [fn_s, cd, cm2, i1, i2, esh, hcs, hmany, e1, e2, e3, show (many : Int) < 4611686018427387904 by omega]
end Gk43

namespace Gk43
open PySem PySem.Spec PyProof.Rows L2 PL
section
variable {K : PySem.W.Frag} {C0 C1 C3 C6 C7 C8 C9 C10 C12 : Addr} {P : Program} {w : World} {mg : Str → Option Value} {base : Heap}
theorem sc_cut_of : FnScope N_cut_of ["counts", "room"] (defScope s_cut_of) := ⟨rfl, rfl, rfl, by decide +kernel, rfl, by decide +kernel, by decide +kernel⟩
theorem ok_cut_of {f : Addr} {fd : FuncData} (Fu : Fun K "cut_of" "cut_of" s_cut_of f fd) (z_len : mg "len" = none) (z_sorted : mg "sorted" = none) : FnOk P w K mg base (L2.CX P w) 1 f fd ["counts", "room"] (spF (Gm K C0 C1 C3 C6 C7 C8 C9 C10 C12) 2 PX.F_cut_of) := by
  have nd := sc_cut_of.nd
  unfold PX.F_cut_of 
  refine def_ok Fu sc_cut_of rfl rfl fun cdv A outer s0 H X hr => ?_
  exact sts_cons (st_if (bcmp op_le holds_le (PD.pv (pd_len rfl rfl z_len (cv 0))) (vv 1)) (sts_one (st_ret (pd_int))) (sts_nil)) <|
  sts_one (st_ret (dix rfl (PD.pv (PF.pd (by refine pf_sortedVR ?_ ?_ ?_ ?_ ?_; exact rfl; exact rfl; exact rfl; exact z_sorted; exact (cv 0)))) (vv 1)))
theorem sc_fallen : FnScope N_fallen ["counts", "cut"] (defScope s_fallen) := ⟨rfl, rfl, rfl, by decide +kernel, rfl, by decide +kernel, by decide +kernel⟩
theorem ok_fallen {f : Addr} {fd : FuncData} (Fu : Fun K "fallen" "fallen" s_fallen f fd) : FnOk P w K mg base (L2.CX P w) 1 f fd ["counts", "cut"] (spF (Gm K C0 C1 C3 C6 C7 C8 C9 C10 C12) 2 PX.F_fallen) := by
  have nd := sc_fallen.nd
  unfold PX.F_fallen PX.B_fallen_0
  refine def_ok Fu sc_fallen rfl rfl fun cdv A outer s0 H X hr => ?_
  exact sts_cons (xsetF 2 nd (pf_dnew)) <|
  sts_cons (st_forI (passes_of rfl) rfl (lt_var 0) (tar_tup rfl rfl (tgc 3 nd (tgc 4 nd (tg_nil)))) (sts_one (st_if (bcmp op_gt holds_gt (vv 4) (vv 1)) (sts_one (st_dput (i := 2) hr.units rfl (by first | exact Or.inl rfl | exact Or.inr (Or.inl rfl) | exact Or.inr (Or.inr rfl)) (dv 3) (pd_sub (vv 4) (vv 1)))) (sts_nil)))) <|
  sts_one (retO 2)
theorem sc_Frequent_init : FnScope N_Frequent_init ["self", "room"] (defScope s_Frequent_init) := ⟨rfl, rfl, rfl, by decide +kernel, rfl, by decide +kernel, by decide +kernel⟩
theorem ok_Frequent_init {f : Addr} {fd : FuncData} (Fu : Fun K "__init__" "Frequent.__init__" s_Frequent_init f fd) (fo_counts : FldOk (Gm K C0 C1 C3 C6 C7 C8 C9 C10 C12) "counts" [8]) (fo_lost : FldOk (Gm K C0 C1 C3 C6 C7 C8 C9 C10 C12) "lost" [8]) (fo_room : FldOk (Gm K C0 C1 C3 C6 C7 C8 C9 C10 C12) "room" [6, 8, 9, 10, 12, 13]) (fo_total : FldOk (Gm K C0 C1 C3 C6 C7 C8 C9 C10 C12) "total" [8, 9]) : FnOk P w K mg base (L2.CX P w) 1 f fd ["self", "room"] (spF (Gm K C0 C1 C3 C6 C7 C8 C9 C10 C12) 2 PX.F_Frequent_init) := by
  have nd := sc_Frequent_init.nd
  unfold PX.F_Frequent_init 
  refine def_ok Fu sc_Frequent_init rfl rfl fun cdv A outer s0 H X hr => ?_
  exact sts_cons (st_fld rfl fo_room rfl (dv 0) (dv 1)) <|
  sts_cons (st_fld rfl fo_total rfl (dv 0) (pd_int)) <|
  sts_cons (st_fld rfl fo_lost rfl (dv 0) (pd_int)) <|
  sts_one (st_fldF rfl fo_counts rfl rfl (by first | exact Or.inl rfl | exact Or.inr (Or.inl rfl)) (pf_dnew))
theorem sc_Frequent_add : FnScope N_Frequent_add ["self", "thing", "weight"] (defScope s_Frequent_add) := ⟨rfl, rfl, rfl, by decide +kernel, rfl, by decide +kernel, by decide +kernel⟩
theorem ok_Frequent_add {f : Addr} {fd : FuncData} (Fu : Fun K "add" "Frequent.add" s_Frequent_add f fd) (fo_counts : FldOk (Gm K C0 C1 C3 C6 C7 C8 C9 C10 C12) "counts" [8]) (fo_lost : FldOk (Gm K C0 C1 C3 C6 C7 C8 C9 C10 C12) "lost" [8]) (fo_total : FldOk (Gm K C0 C1 C3 C6 C7 C8 C9 C10 C12) "total" [8, 9]) (d_cut_of : DefF (Gm K C0 C1 C3 C6 C7 C8 C9 C10 C12) P w mg base 1 "cut_of" 2 PX.F_cut_of) (d_fallen : DefF (Gm K C0 C1 C3 C6 C7 C8 C9 C10 C12) P w mg base 1 "fallen" 2 PX.F_fallen) : FnOk P w K mg base (L2.CX P w) 2 f fd ["self", "thing", "weight"] (spF (Gm K C0 C1 C3 C6 C7 C8 C9 C10 C12) 3 PX.F_Frequent_add) := by
  have nd := sc_Frequent_add.nd
  unfold PX.F_Frequent_add 
  refine def_ok Fu sc_Frequent_add rfl rfl fun cdv A outer s0 H X hr => ?_
  exact sts_cons (st_fldAug rfl fo_total rfl (dv 0) iop_add holds_int0 (PD.pv (dv 2))) <|
  sts_cons (st_dputF (i := 8) (j := 0) rfl rfl hr.units rfl (by first | exact Or.inl rfl | exact Or.inr (Or.inl rfl) | exact Or.inr (Or.inr rfl)) (dv 1) (pd_lendF 0 8 (pd_add rfl (PD.pv (pd_dget2 hr.units (pv_fld rfl (dv 0) rfl rfl) (dv 1) (pd_int))) (vv 2)))) <|
  sts_cons (xset 3 nd (pd_lendF 0 8 (dcall d_cut_of rfl (takes_of rfl rfl rfl rfl) (hr.mono (by decide)) (args_cons (pa_fld rfl (dv 0) rfl rfl) (args_cons (pa_fld rfl (dv 0) rfl rfl) (args_nil))) (len_cons (len_cons (len_nil)))))) <|
  sts_cons (st_fldAug rfl fo_lost rfl (dv 0) iop_add holds_int0 (PD.pv (dv 3))) <|
  sts_one (st_fldF rfl fo_counts rfl rfl (by first | exact Or.inl rfl | exact Or.inr (Or.inl rfl)) (pf_lendF 0 8 (fcall d_fallen rfl (takes_of rfl rfl rfl rfl) (hr.mono (by decide)) (args_cons (pa_fld rfl (dv 0) rfl rfl) (args_cons (lv 3) (args_nil))) (len_cons (len_cons (len_nil))))))
theorem sc_poured_frequent : FnScope N_poured_frequent ["one", "other"] (defScope s_poured_frequent) := ⟨rfl, rfl, rfl, by decide +kernel, rfl, by decide +kernel, by decide +kernel⟩
theorem ok_poured_frequent {f : Addr} {fd : FuncData} (Fu : Fun K "poured_frequent" "poured_frequent" s_poured_frequent f fd) (z_dict : mg "dict" = none) (fo_counts : FldOk (Gm K C0 C1 C3 C6 C7 C8 C9 C10 C12) "counts" [8]) (fo_lost : FldOk (Gm K C0 C1 C3 C6 C7 C8 C9 C10 C12) "lost" [8]) (fo_total : FldOk (Gm K C0 C1 C3 C6 C7 C8 C9 C10 C12) "total" [8, 9]) (x_Unlike : EDef (Gm K C0 C1 C3 C6 C7 C8 C9 C10 C12) mg "Unlike" 1) (d_cut_of : DefF (Gm K C0 C1 C3 C6 C7 C8 C9 C10 C12) P w mg base 1 "cut_of" 2 PX.F_cut_of) (d_fallen : DefF (Gm K C0 C1 C3 C6 C7 C8 C9 C10 C12) P w mg base 1 "fallen" 2 PX.F_fallen) (y_Frequent : CDef (Gm K C0 C1 C3 C6 C7 C8 C9 C10 C12) P w mg base 1 "Frequent" 8 2 PX.F_Frequent_init) : FnOk P w K mg base (L2.CX P w) 3 f fd ["one", "other"] (spF (Gm K C0 C1 C3 C6 C7 C8 C9 C10 C12) 2 PX.F_poured_frequent) := by
  have nd := sc_poured_frequent.nd
  unfold PX.F_poured_frequent PX.B_poured_frequent_0
  refine def_ok Fu sc_poured_frequent rfl rfl fun cdv A outer s0 H X hr => ?_
  exact sts_cons (st_if (bcmp (op_neD hr.units) (holds_ne rfl) (pv_fld rfl (dv 0) rfl rfl) (pv_fld rfl (dv 1) rfl rfl)) (sts_one (st_raise x_Unlike rfl rfl (takes_of rfl rfl rfl rfl))) (sts_nil)) <|
  sts_cons (xsetF 2 nd (pf_dictC rfl z_dict (pc_fld rfl (dv 0) rfl rfl))) <|
  sts_cons (st_lendF 1 8 (st_forI (passes_of rfl) rfl (lt_fld 1 8 rfl rfl) (tar_tup rfl rfl (tgc 3 nd (tgc 4 nd (tg_nil)))) (sts_one (st_dput (i := 2) hr.units rfl (by first | exact Or.inl rfl | exact Or.inr (Or.inl rfl) | exact Or.inr (Or.inr rfl)) (dv 3) (pd_lend 2 (pd_add rfl (PD.pv (pd_dget2 hr.units (vv 2) (dv 3) (pd_int))) (vv 4))))))) <|
  sts_cons (xset 5 nd (pd_lend 2 (dcall d_cut_of rfl (takes_of rfl rfl rfl rfl) (hr.mono (by decide)) (args_cons (lv 2) (args_cons (pa_fld rfl (dv 0) rfl rfl) (args_nil))) (len_cons (len_cons (len_nil)))))) <|
  sts_cons (xset 6 nd (dmake y_Frequent rfl (takes_of rfl rfl rfl rfl) (hr.mono (by decide)) (args_cons (pa_fld rfl (dv 0) rfl rfl) (args_nil)))) <|
  sts_cons (st_fld rfl fo_total rfl (dv 6) (pd_add rfl (pv_fld rfl (dv 0) rfl rfl) (pv_fld rfl (dv 1) rfl rfl))) <|
  sts_cons (st_fld rfl fo_lost rfl (dv 6) (pd_add rfl (PD.pv (pd_add rfl (pv_fld rfl (dv 0) rfl rfl) (pv_fld rfl (dv 1) rfl rfl))) (vv 5))) <|
  sts_cons (st_fldF rfl fo_counts rfl rfl (by first | exact Or.inl rfl | exact Or.inr (Or.inl rfl)) (pf_lend 2 (fcall d_fallen rfl (takes_of rfl rfl rfl rfl) (hr.mono (by decide)) (args_cons (lv 2) (args_cons (lv 5) (args_nil))) (len_cons (len_cons (len_nil)))))) <|
  sts_one (st_ret (dv 6))
theorem sc_settled_list : FnScope N_settled_list ["things", "greater"] (defScope s_settled_list) := ⟨rfl, rfl, rfl, by decide +kernel, rfl, by decide +kernel, by decide +kernel⟩
theorem ok_settled_list {f : Addr} {fd : FuncData} (Fu : Fun K "settled_list" "settled_list" s_settled_list f fd) (z_len : mg "len" = none) (z_range : mg "range" = none) : FnOk P w K mg base (L2.CX P w) 1 f fd ["things", "greater"] (spF (Gm K C0 C1 C3 C6 C7 C8 C9 C10 C12) 2 PX.F_settled_list) := by
  have nd := sc_settled_list.nd
  unfold PX.F_settled_list PX.B_settled_list_0
  refine def_ok Fu sc_settled_list rfl rfl fun cdv A outer s0 H X hr => ?_
  exact sts_cons (xset 2 nd (pd_div (PD.pv (pd_len rfl rfl z_len (cv 0))) (PD.pv (pd_int)))) <|
  sts_cons (xsetF 3 nd (pf_lst (pds_nil))) <|
  sts_cons (st_for (passes_of rfl) rfl (it_range1 rfl z_range (dv 2)) (tgn 4 nd) (sts_one (st_if (bval (cv 1)) (sts_one (xapp 3 rfl (dix rfl (vv 0) (PD.pv (pd_add rfl (PD.pv (pd_mul (PD.pv (pd_int)) (vv 4))) (PD.pv (pd_int))))))) (sts_one (xapp 3 rfl (dix rfl (vv 0) (PD.pv (pd_mul (PD.pv (pd_int)) (vv 4))))))))) <|
  sts_one (st_ret (pd_tup (pds_cons (PF.pd (pf_slc rfl (vv 0) (po_some' (pd_mul (PD.pv (pd_int)) (vv 2))) (po_none'))) (pds_cons (dv 3) (pds_nil)))))
theorem sc_settle_rungs : FnScope N_settle_rungs ["kept"] (defScope s_settle_rungs) := ⟨rfl, rfl, rfl, by decide +kernel, rfl, by decide +kernel, by decide +kernel⟩
theorem ok_settle_rungs {f : Addr} {fd : FuncData} (Fu : Fun K "settle_rungs" "settle_rungs" s_settle_rungs f fd) (z_len : mg "len" = none) (z_sorted : mg "sorted" = none) (fo_over : FldOk (Gm K C0 C1 C3 C6 C7 C8 C9 C10 C12) "over" [9]) (fo_turns : FldOk (Gm K C0 C1 C3 C6 C7 C8 C9 C10 C12) "turns" [9]) (fo_under : FldOk (Gm K C0 C1 C3 C6 C7 C8 C9 C10 C12) "under" [9]) (d_settled_list : DefF (Gm K C0 C1 C3 C6 C7 C8 C9 C10 C12) P w mg base 1 "settled_list" 2 PX.F_settled_list) : FnOk P w K mg base (L2.CX P w) 2 f fd ["kept"] (spF (Gm K C0 C1 C3 C6 C7 C8 C9 C10 C12) 1 PX.F_settle_rungs) := by
  have nd := sc_settle_rungs.nd
  unfold PX.F_settle_rungs PX.C_settle_rungs_0 PX.B_settle_rungs_0
  refine def_ok Fu sc_settle_rungs rfl rfl fun cdv A outer s0 H X hr => ?_
  exact sts_cons (xset 1 nd (pd_int)) <|
  sts_one (st_while (passes_of rfl) (bcmp op_lt holds_lt (vv 1) (PD.pv (pd_len rfl rfl z_len (pc_fld rfl (dv 0) rfl rfl)))) (sts_cons (st_if (pb_lendF 0 14 (bcmp op_gt holds_gt (PD.pv (pd_len rfl rfl z_len (PD.pc (dix rfl (pv_fld rfl (dv 0) rfl rfl) (vv 1))))) (pv_fld rfl (dv 0) rfl rfl))) (sts_cons (xset 2 nd (dcmp (op_eqD hr.units) (holds_eq rfl) (PD.pv (pd_mod (pv_fld rfl (dv 0) rfl rfl) (PD.pv (pd_int)))) (PD.pv (pd_int)))) <|
  sts_cons (st_unT rfl rfl (tgc 3 nd (tgc 4 nd (tg_nil))) (pd_lendF 0 14 (dcall d_settled_list rfl (takes_of rfl rfl rfl rfl) (hr.mono (by decide)) (args_cons (pa_val (dix rfl (pv_fld rfl (dv 0) rfl rfl) (vv 1))) (args_cons (lv 2) (args_nil))) (len_cons (len_cons (len_nil)))))) <|
  sts_cons (st_putF (i := 14) (j := 0) rfl rfl rfl (by first | exact Or.inl rfl | exact Or.inr (Or.inl rfl) | exact Or.inr (Or.inr rfl)) (dv 1) (dv 3)) <|
  sts_cons (st_if (bcmp (op_eqD hr.units) (holds_eq rfl) (PD.pv (pd_add rfl (vv 1) (PD.pv (pd_int)))) (PD.pv (pd_len rfl rfl z_len (pc_fld rfl (dv 0) rfl rfl)))) (sts_one (st_appF (i := 14) (j := 0) rfl rfl rfl (by first | exact Or.inl rfl | exact Or.inr (Or.inl rfl) | exact Or.inr (Or.inr rfl)) (PF.pd (pf_lst (pds_nil))))) (sts_nil)) <|
  sts_cons (st_putF (i := 14) (j := 0) rfl rfl rfl (by first | exact Or.inl rfl | exact Or.inr (Or.inl rfl) | exact Or.inr (Or.inr rfl)) (pd_add rfl (vv 1) (PD.pv (pd_int))) (pd_lendF 0 14 (PF.pd (pf_sortedX rfl rfl rfl z_sorted (PD.pc (pd_add rfl (PD.pv (dix rfl (pv_fld rfl (dv 0) rfl rfl) (PD.pv (pd_add rfl (vv 1) (PD.pv (pd_int)))))) (vv 4))))))) <|
  sts_cons (st_if (bval (cv 2)) (sts_one (st_fldAug rfl fo_under rfl (dv 0) iop_add holds_int0 (PD.pv (pd_shl (PD.pv (pd_int)) (vv 1))))) (sts_one (st_fldAug rfl fo_over rfl (dv 0) iop_add holds_int0 (PD.pv (pd_shl (PD.pv (pd_int)) (vv 1)))))) <|
  sts_one (st_fldAug rfl fo_turns rfl (dv 0) iop_add holds_int0 (PD.pv (pd_int)))) (sts_nil)) <|
  sts_one (xaug 1 nd iop_add holds_int0 (PD.pv (pd_int)))))
theorem sc_Rungs_init : FnScope N_Rungs_init ["self", "room"] (defScope s_Rungs_init) := ⟨rfl, rfl, rfl, by decide +kernel, rfl, by decide +kernel, by decide +kernel⟩
theorem ok_Rungs_init {f : Addr} {fd : FuncData} (Fu : Fun K "__init__" "Rungs.__init__" s_Rungs_init f fd) (fo_least : FldOk (Gm K C0 C1 C3 C6 C7 C8 C9 C10 C12) "least" [9]) (fo_most : FldOk (Gm K C0 C1 C3 C6 C7 C8 C9 C10 C12) "most" [9]) (fo_over : FldOk (Gm K C0 C1 C3 C6 C7 C8 C9 C10 C12) "over" [9]) (fo_room : FldOk (Gm K C0 C1 C3 C6 C7 C8 C9 C10 C12) "room" [6, 8, 9, 10, 12, 13]) (fo_rungs : FldOk (Gm K C0 C1 C3 C6 C7 C8 C9 C10 C12) "rungs" [9]) (fo_total : FldOk (Gm K C0 C1 C3 C6 C7 C8 C9 C10 C12) "total" [8, 9]) (fo_turns : FldOk (Gm K C0 C1 C3 C6 C7 C8 C9 C10 C12) "turns" [9]) (fo_under : FldOk (Gm K C0 C1 C3 C6 C7 C8 C9 C10 C12) "under" [9]) : FnOk P w K mg base (L2.CX P w) 1 f fd ["self", "room"] (spF (Gm K C0 C1 C3 C6 C7 C8 C9 C10 C12) 2 PX.F_Rungs_init) := by
  have nd := sc_Rungs_init.nd
  unfold PX.F_Rungs_init 
  refine def_ok Fu sc_Rungs_init rfl rfl fun cdv A outer s0 H X hr => ?_
  exact sts_cons (st_fld rfl fo_room rfl (dv 0) (dv 1)) <|
  sts_cons (st_fld rfl fo_total rfl (dv 0) (pd_int)) <|
  sts_cons (st_fld rfl fo_over rfl (dv 0) (pd_int)) <|
  sts_cons (st_fld rfl fo_under rfl (dv 0) (pd_int)) <|
  sts_cons (st_fld rfl fo_turns rfl (dv 0) (pd_int)) <|
  sts_cons (st_fld rfl fo_least rfl (dv 0) (pd_non)) <|
  sts_cons (st_fld rfl fo_most rfl (dv 0) (pd_non)) <|
  sts_one (st_fldF rfl fo_rungs rfl rfl (by first | exact Or.inl rfl | exact Or.inr (Or.inl rfl)) (pf_lst (pds_nil)))
theorem sc_Rungs_add : FnScope N_Rungs_add ["self", "thing", "weight"] (defScope s_Rungs_add) := ⟨rfl, rfl, rfl, by decide +kernel, rfl, by decide +kernel, by decide +kernel⟩
theorem ok_Rungs_add {f : Addr} {fd : FuncData} (Fu : Fun K "add" "Rungs.add" s_Rungs_add f fd) (z_len : mg "len" = none) (z_range : mg "range" = none) (z_sorted : mg "sorted" = none) (fo_least : FldOk (Gm K C0 C1 C3 C6 C7 C8 C9 C10 C12) "least" [9]) (fo_most : FldOk (Gm K C0 C1 C3 C6 C7 C8 C9 C10 C12) "most" [9]) (fo_total : FldOk (Gm K C0 C1 C3 C6 C7 C8 C9 C10 C12) "total" [8, 9]) (d_settle_rungs : DefF (Gm K C0 C1 C3 C6 C7 C8 C9 C10 C12) P w mg base 2 "settle_rungs" 1 PX.F_settle_rungs) : FnOk P w K mg base (L2.CX P w) 3 f fd ["self", "thing", "weight"] (spF (Gm K C0 C1 C3 C6 C7 C8 C9 C10 C12) 3 PX.F_Rungs_add) := by
  have nd := sc_Rungs_add.nd
  unfold PX.F_Rungs_add PX.B_Rungs_add_1 PX.C_Rungs_add_0 PX.B_Rungs_add_0
  refine def_ok Fu sc_Rungs_add rfl rfl fun cdv A outer s0 H X hr => ?_
  exact sts_cons (st_fldAug rfl fo_total rfl (dv 0) iop_add holds_int0 (PD.pv (dv 2))) <|
  sts_cons (st_if (PW.pb (pw_or' (pb_isN (pc_fld rfl (dv 0) rfl rfl)) (pw_or1' (bcmp op_lt holds_lt (vv 1) (pv_fld rfl (dv 0) rfl rfl))))) (sts_one (st_fld rfl fo_least rfl (dv 0) (dv 1))) (sts_nil)) <|
  sts_cons (st_if (PW.pb (pw_or' (pb_isN (pc_fld rfl (dv 0) rfl rfl)) (pw_or1' (bcmp op_gt holds_gt (vv 1) (pv_fld rfl (dv 0) rfl rfl))))) (sts_one (st_fld rfl fo_most rfl (dv 0) (dv 1))) (sts_nil)) <|
  sts_cons (st_while (passes_of rfl) (bcmp op_lt holds_lt (PD.pv (pd_len rfl rfl z_len (pc_fld rfl (dv 0) rfl rfl))) (PD.pv (pd_bits (cv 2)))) (sts_one (st_appF (i := 14) (j := 0) rfl rfl rfl (by first | exact Or.inl rfl | exact Or.inr (Or.inl rfl) | exact Or.inr (Or.inr rfl)) (PF.pd (pf_lst (pds_nil)))))) <|
  sts_cons (st_for (passes_of rfl) rfl (it_range1 rfl z_range (pd_bits (cv 2))) (tgn 3 nd) (sts_one (st_if (bcmp (op_eqD hr.units) (holds_eq rfl) (PD.pv (pd_bitand (PD.pv (pd_shr (vv 2) (vv 3))) (PD.pv (pd_int)))) (PD.pv (pd_int))) (sts_one (st_putF (i := 14) (j := 0) rfl rfl rfl (by first | exact Or.inl rfl | exact Or.inr (Or.inl rfl) | exact Or.inr (Or.inr rfl)) (dv 3) (pd_lendF 0 14 (PF.pd (pf_sortedX rfl rfl rfl z_sorted (PD.pc (pd_add rfl (PD.pv (dix rfl (pv_fld rfl (dv 0) rfl rfl) (vv 3))) (PD.pv (PF.pd (pf_lst (pds_cons (dv 1) (pds_nil)))))))))))) (sts_nil)))) <|
  sts_one (st_ex (dcall d_settle_rungs rfl (takes_of rfl rfl rfl rfl) (hr.mono (by decide)) (args_cons (lv 0) (args_nil)) (len_cons (len_nil))))
theorem sc_lesser_of : FnScope N_lesser_of ["one", "other"] (defScope s_lesser_of) := ⟨rfl, rfl, rfl, by decide +kernel, rfl, by decide +kernel, by decide +kernel⟩
theorem ok_lesser_of {f : Addr} {fd : FuncData} (Fu : Fun K "lesser_of" "lesser_of" s_lesser_of f fd) : FnOk P w K mg base (L2.CX P w) 1 f fd ["one", "other"] (spF (Gm K C0 C1 C3 C6 C7 C8 C9 C10 C12) 2 PX.F_lesser_of) := by
  have nd := sc_lesser_of.nd
  unfold PX.F_lesser_of 
  refine def_ok Fu sc_lesser_of rfl rfl fun cdv A outer s0 H X hr => ?_
  exact sts_cons (st_if (PW.pb (pw_or' (pb_isN (cv 0)) (pw_or1' (PW.pb (pw_and' (pb_notN (cv 1)) (pw_and1' (bcmp op_lt holds_lt (vv 1) (vv 0)))))))) (sts_one (st_ret (dv 1))) (sts_nil)) <|
  sts_one (st_ret (dv 0))
theorem sc_greater_of : FnScope N_greater_of ["one", "other"] (defScope s_greater_of) := ⟨rfl, rfl, rfl, by decide +kernel, rfl, by decide +kernel, by decide +kernel⟩
theorem ok_greater_of {f : Addr} {fd : FuncData} (Fu : Fun K "greater_of" "greater_of" s_greater_of f fd) : FnOk P w K mg base (L2.CX P w) 1 f fd ["one", "other"] (spF (Gm K C0 C1 C3 C6 C7 C8 C9 C10 C12) 2 PX.F_greater_of) := by
  have nd := sc_greater_of.nd
  unfold PX.F_greater_of 
  refine def_ok Fu sc_greater_of rfl rfl fun cdv A outer s0 H X hr => ?_
  exact sts_cons (st_if (PW.pb (pw_or' (pb_isN (cv 0)) (pw_or1' (PW.pb (pw_and' (pb_notN (cv 1)) (pw_and1' (bcmp op_gt holds_gt (vv 1) (vv 0)))))))) (sts_one (st_ret (dv 1))) (sts_nil)) <|
  sts_one (st_ret (dv 0))
theorem sc_poured_rungs : FnScope N_poured_rungs ["one", "other"] (defScope s_poured_rungs) := ⟨rfl, rfl, rfl, by decide +kernel, rfl, by decide +kernel, by decide +kernel⟩
theorem ok_poured_rungs {f : Addr} {fd : FuncData} (Fu : Fun K "poured_rungs" "poured_rungs" s_poured_rungs f fd) (z_enumerate : mg "enumerate" = none) (z_len : mg "len" = none) (z_list : mg "list" = none) (z_sorted : mg "sorted" = none) (fo_least : FldOk (Gm K C0 C1 C3 C6 C7 C8 C9 C10 C12) "least" [9]) (fo_most : FldOk (Gm K C0 C1 C3 C6 C7 C8 C9 C10 C12) "most" [9]) (fo_over : FldOk (Gm K C0 C1 C3 C6 C7 C8 C9 C10 C12) "over" [9]) (fo_total : FldOk (Gm K C0 C1 C3 C6 C7 C8 C9 C10 C12) "total" [8, 9]) (fo_turns : FldOk (Gm K C0 C1 C3 C6 C7 C8 C9 C10 C12) "turns" [9]) (fo_under : FldOk (Gm K C0 C1 C3 C6 C7 C8 C9 C10 C12) "under" [9]) (x_Unlike : EDef (Gm K C0 C1 C3 C6 C7 C8 C9 C10 C12) mg "Unlike" 1) (d_greater_of : DefF (Gm K C0 C1 C3 C6 C7 C8 C9 C10 C12) P w mg base 1 "greater_of" 2 PX.F_greater_of) (d_lesser_of : DefF (Gm K C0 C1 C3 C6 C7 C8 C9 C10 C12) P w mg base 1 "lesser_of" 2 PX.F_lesser_of) (d_settle_rungs : DefF (Gm K C0 C1 C3 C6 C7 C8 C9 C10 C12) P w mg base 2 "settle_rungs" 1 PX.F_settle_rungs) (y_Rungs : CDef (Gm K C0 C1 C3 C6 C7 C8 C9 C10 C12) P w mg base 1 "Rungs" 9 2 PX.F_Rungs_init) : FnOk P w K mg base (L2.CX P w) 3 f fd ["one", "other"] (spF (Gm K C0 C1 C3 C6 C7 C8 C9 C10 C12) 2 PX.F_poured_rungs) := by
  have nd := sc_poured_rungs.nd
  unfold PX.F_poured_rungs PX.B_poured_rungs_1 PX.B_poured_rungs_0
  refine def_ok Fu sc_poured_rungs rfl rfl fun cdv A outer s0 H X hr => ?_
  exact sts_cons (st_if (bcmp (op_neD hr.units) (holds_ne rfl) (pv_fld rfl (dv 0) rfl rfl) (pv_fld rfl (dv 1) rfl rfl)) (sts_one (st_raise x_Unlike rfl rfl (takes_of rfl rfl rfl rfl))) (sts_nil)) <|
  sts_cons (xset 2 nd (dmake y_Rungs rfl (takes_of rfl rfl rfl rfl) (hr.mono (by decide)) (args_cons (pa_fld rfl (dv 0) rfl rfl) (args_nil)))) <|
  sts_cons (st_fld rfl fo_total rfl (dv 2) (pd_add rfl (pv_fld rfl (dv 0) rfl rfl) (pv_fld rfl (dv 1) rfl rfl))) <|
  sts_cons (st_fld rfl fo_over rfl (dv 2) (pd_add rfl (pv_fld rfl (dv 0) rfl rfl) (pv_fld rfl (dv 1) rfl rfl))) <|
  sts_cons (st_fld rfl fo_under rfl (dv 2) (pd_add rfl (pv_fld rfl (dv 0) rfl rfl) (pv_fld rfl (dv 1) rfl rfl))) <|
  sts_cons (st_fld rfl fo_turns rfl (dv 2) (pd_add rfl (pv_fld rfl (dv 0) rfl rfl) (pv_fld rfl (dv 1) rfl rfl))) <|
  sts_cons (st_fld rfl fo_least rfl (dv 2) (dcall d_lesser_of rfl (takes_of rfl rfl rfl rfl) (hr.mono (by decide)) (args_cons (pa_fld rfl (dv 0) rfl rfl) (args_cons (pa_fld rfl (dv 1) rfl rfl) (args_nil))) (len_cons (len_cons (len_nil))))) <|
  sts_cons (st_fld rfl fo_most rfl (dv 2) (dcall d_greater_of rfl (takes_of rfl rfl rfl rfl) (hr.mono (by decide)) (args_cons (pa_fld rfl (dv 0) rfl rfl) (args_cons (pa_fld rfl (dv 1) rfl rfl) (args_nil))) (len_cons (len_cons (len_nil))))) <|
  sts_cons (st_lendF 0 14 (st_for (passes_of rfl) rfl (it_list rfl (pv_fld rfl (dv 0) rfl rfl)) (tgn 3 nd) (sts_one (st_appF (i := 14) (j := 2) rfl rfl rfl (by first | exact Or.inl rfl | exact Or.inr (Or.inl rfl) | exact Or.inr (Or.inr rfl)) (PF.pd (pf_list rfl rfl z_list (cv 3))))))) <|
  sts_cons (st_lendF 1 14 (st_for (passes_of rfl) rfl (it_enum rfl rfl z_enumerate (pv_fld rfl (dv 1) rfl rfl)) (tar_tup rfl rfl (tgc 4 nd (tgc 3 nd (tg_nil)))) (sts_cons (st_if (bcmp (op_eqD hr.units) (holds_eq rfl) (vv 4) (PD.pv (pd_len rfl rfl z_len (pc_fld rfl (dv 2) rfl rfl)))) (sts_one (st_appF (i := 14) (j := 2) rfl rfl rfl (by first | exact Or.inl rfl | exact Or.inr (Or.inl rfl) | exact Or.inr (Or.inr rfl)) (PF.pd (pf_lst (pds_nil))))) (sts_nil)) <|
  sts_one (st_putF (i := 14) (j := 2) rfl rfl rfl (by first | exact Or.inl rfl | exact Or.inr (Or.inl rfl) | exact Or.inr (Or.inr rfl)) (dv 4) (pd_lendF 2 14 (PF.pd (pf_sortedX rfl rfl rfl z_sorted (PD.pc (pd_add rfl (PD.pv (dix rfl (pv_fld rfl (dv 2) rfl rfl) (vv 4))) (vv 3)))))))))) <|
  sts_cons (st_ex (dcall d_settle_rungs rfl (takes_of rfl rfl rfl rfl) (hr.mono (by decide)) (args_cons (lv 2) (args_nil)) (len_cons (len_nil)))) <|
  sts_one (st_ret (dv 2))
theorem sc_settled_boxes : FnScope N_settled_boxes ["boxes", "room", "edge"] (defScope s_settled_boxes) := ⟨rfl, rfl, rfl, by decide +kernel, rfl, by decide +kernel, by decide +kernel⟩
theorem ok_settled_boxes {f : Addr} {fd : FuncData} (Fu : Fun K "settled_boxes" "settled_boxes" s_settled_boxes f fd) (z_list : mg "list" = none) (z_reversed : mg "reversed" = none) : FnOk P w K mg base (L2.CX P w) 1 f fd ["boxes", "room", "edge"] (spF (Gm K C0 C1 C3 C6 C7 C8 C9 C10 C12) 3 PX.F_settled_boxes) := by
  have nd := sc_settled_boxes.nd
  unfold PX.F_settled_boxes PX.B_settled_boxes_0
  refine def_ok Fu sc_settled_boxes rfl rfl fun cdv A outer s0 H X hr => ?_
  exact sts_cons (xsetF 3 nd (pf_lst (pds_nil))) <|
  sts_cons (xset 4 nd (pd_int)) <|
  sts_cons (xset 5 nd (pd_non)) <|
  sts_cons (st_for (passes_of rfl) rfl (it_rev rfl rfl z_reversed (vv 0)) (tgn 6 nd) (sts_cons (st_if (bcmp op_le holds_le (PD.pv (dix rfl (vv 6) (PD.pv (pd_int)))) (vv 2)) (sts_one (st_break)) (sts_nil)) <|
  sts_one (st_if (pb_isN (cv 5)) (sts_one (xset 5 nd (dv 6))) (sts_one (st_if (bcmp op_le holds_le (PD.pv (pd_mul (PD.pv (pd_add rfl (PD.pv (dix rfl (vv 5) (PD.pv (pd_int)))) (PD.pv (dix rfl (vv 6) (PD.pv (pd_int)))))) (vv 1))) (vv 4)) (sts_one (xset 5 nd (pd_tup (pds_cons (dix rfl (vv 6) (PD.pv (pd_int))) (pds_cons (dix rfl (vv 5) (PD.pv (pd_int))) (pds_cons (pd_add rfl (PD.pv (dix rfl (vv 6) (PD.pv (pd_int)))) (PD.pv (dix rfl (vv 5) (PD.pv (pd_int))))) (pds_nil))))))) (sts_cons (xapp 3 rfl (dv 5)) <|
  sts_cons (xaug 4 nd iop_add holds_int0 (PD.pv (dix rfl (vv 5) (PD.pv (pd_int))))) <|
  sts_one (xset 5 nd (dv 6)))))))) <|
  sts_cons (st_if (pb_notN (cv 5)) (sts_one (xapp 3 rfl (dv 5))) (sts_nil)) <|
  sts_one (st_retF (pf_listRev rfl rfl rfl z_list rfl z_reversed (cv 3)))
theorem sc_Window_init : FnScope N_Window_init ["self", "room", "reach"] (defScope s_Window_init) := ⟨rfl, rfl, rfl, by decide +kernel, rfl, by decide +kernel, by decide +kernel⟩
theorem ok_Window_init {f : Addr} {fd : FuncData} (Fu : Fun K "__init__" "Window.__init__" s_Window_init f fd) (fo_boxes : FldOk (Gm K C0 C1 C3 C6 C7 C8 C9 C10 C12) "boxes" [6]) (fo_clock : FldOk (Gm K C0 C1 C3 C6 C7 C8 C9 C10 C12) "clock" [6, 11]) (fo_reach : FldOk (Gm K C0 C1 C3 C6 C7 C8 C9 C10 C12) "reach" [6, 12, 13]) (fo_room : FldOk (Gm K C0 C1 C3 C6 C7 C8 C9 C10 C12) "room" [6, 8, 9, 10, 12, 13]) : FnOk P w K mg base (L2.CX P w) 1 f fd ["self", "room", "reach"] (spF (Gm K C0 C1 C3 C6 C7 C8 C9 C10 C12) 3 PX.F_Window_init) := by
  have nd := sc_Window_init.nd
  unfold PX.F_Window_init 
  refine def_ok Fu sc_Window_init rfl rfl fun cdv A outer s0 H X hr => ?_
  exact sts_cons (st_fld rfl fo_room rfl (dv 0) (dv 1)) <|
  sts_cons (st_fld rfl fo_reach rfl (dv 0) (dv 2)) <|
  sts_cons (st_fld rfl fo_clock rfl (dv 0) (pd_int)) <|
  sts_one (st_fld rfl fo_boxes rfl (dv 0) (PF.pd (pf_lst (pds_nil))))
theorem sc_Window_add : FnScope N_Window_add ["self", "weight"] (defScope s_Window_add) := ⟨rfl, rfl, rfl, by decide +kernel, rfl, by decide +kernel, by decide +kernel⟩
theorem ok_Window_add {f : Addr} {fd : FuncData} (Fu : Fun K "add" "Window.add" s_Window_add f fd) (fo_boxes : FldOk (Gm K C0 C1 C3 C6 C7 C8 C9 C10 C12) "boxes" [6]) (fo_clock : FldOk (Gm K C0 C1 C3 C6 C7 C8 C9 C10 C12) "clock" [6, 11]) (d_settled_boxes : DefF (Gm K C0 C1 C3 C6 C7 C8 C9 C10 C12) P w mg base 1 "settled_boxes" 3 PX.F_settled_boxes) : FnOk P w K mg base (L2.CX P w) 2 f fd ["self", "weight"] (spF (Gm K C0 C1 C3 C6 C7 C8 C9 C10 C12) 2 PX.F_Window_add) := by
  have nd := sc_Window_add.nd
  unfold PX.F_Window_add 
  refine def_ok Fu sc_Window_add rfl rfl fun cdv A outer s0 H X hr => ?_
  exact sts_cons (st_fldAug rfl fo_clock rfl (dv 0) iop_add holds_int0 (PD.pv (pd_int))) <|
  sts_cons (xset 2 nd (pd_add rfl (pv_fld rfl (dv 0) rfl rfl) (PD.pv (PF.pd (pf_lst (pds_cons (pd_tup (pds_cons (pd_fld rfl (dv 0) rfl rfl) (pds_cons (pd_fld rfl (dv 0) rfl rfl) (pds_cons (dv 1) (pds_nil))))) (pds_nil))))))) <|
  sts_one (st_fld rfl fo_boxes rfl (dv 0) (dcall d_settled_boxes rfl (takes_of rfl rfl rfl rfl) (hr.mono (by decide)) (args_cons (lv 2) (args_cons (pa_fld rfl (dv 0) rfl rfl) (args_cons (pa_val (pd_sub (pv_fld rfl (dv 0) rfl rfl) (pv_fld rfl (dv 0) rfl rfl))) (args_nil)))) (len_cons (len_cons (len_cons (len_nil))))))
theorem sc_Window_idle : FnScope N_Window_idle ["self", "many"] (defScope s_Window_idle) := ⟨rfl, rfl, rfl, by decide +kernel, rfl, by decide +kernel, by decide +kernel⟩
theorem ok_Window_idle {f : Addr} {fd : FuncData} (Fu : Fun K "idle" "Window.idle" s_Window_idle f fd) (fo_boxes : FldOk (Gm K C0 C1 C3 C6 C7 C8 C9 C10 C12) "boxes" [6]) (fo_clock : FldOk (Gm K C0 C1 C3 C6 C7 C8 C9 C10 C12) "clock" [6, 11]) (d_settled_boxes : DefF (Gm K C0 C1 C3 C6 C7 C8 C9 C10 C12) P w mg base 1 "settled_boxes" 3 PX.F_settled_boxes) : FnOk P w K mg base (L2.CX P w) 2 f fd ["self", "many"] (spF (Gm K C0 C1 C3 C6 C7 C8 C9 C10 C12) 2 PX.F_Window_idle) := by
  have nd := sc_Window_idle.nd
  unfold PX.F_Window_idle 
  refine def_ok Fu sc_Window_idle rfl rfl fun cdv A outer s0 H X hr => ?_
  exact sts_cons (st_fldAug rfl fo_clock rfl (dv 0) iop_add holds_int0 (PD.pv (dv 1))) <|
  sts_one (st_fld rfl fo_boxes rfl (dv 0) (dcall d_settled_boxes rfl (takes_of rfl rfl rfl rfl) (hr.mono (by decide)) (args_cons (pa_fld rfl (dv 0) rfl rfl) (args_cons (pa_fld rfl (dv 0) rfl rfl) (args_cons (pa_val (pd_sub (pv_fld rfl (dv 0) rfl rfl) (pv_fld rfl (dv 0) rfl rfl))) (args_nil)))) (len_cons (len_cons (len_cons (len_nil))))))
theorem sc_followed : FnScope N_followed ["one", "other"] (defScope s_followed) := ⟨rfl, rfl, rfl, by decide +kernel, rfl, by decide +kernel, by decide +kernel⟩
theorem ok_followed {f : Addr} {fd : FuncData} (Fu : Fun K "followed" "followed" s_followed f fd) (fo_boxes : FldOk (Gm K C0 C1 C3 C6 C7 C8 C9 C10 C12) "boxes" [6]) (fo_clock : FldOk (Gm K C0 C1 C3 C6 C7 C8 C9 C10 C12) "clock" [6, 11]) (x_Unlike : EDef (Gm K C0 C1 C3 C6 C7 C8 C9 C10 C12) mg "Unlike" 1) (d_settled_boxes : DefF (Gm K C0 C1 C3 C6 C7 C8 C9 C10 C12) P w mg base 1 "settled_boxes" 3 PX.F_settled_boxes) (y_Window : CDef (Gm K C0 C1 C3 C6 C7 C8 C9 C10 C12) P w mg base 1 "Window" 6 3 PX.F_Window_init) : FnOk P w K mg base (L2.CX P w) 3 f fd ["one", "other"] (spF (Gm K C0 C1 C3 C6 C7 C8 C9 C10 C12) 2 PX.F_followed) := by
  have nd := sc_followed.nd
  unfold PX.F_followed 
  refine def_ok Fu sc_followed rfl rfl fun cdv A outer s0 H X hr => ?_
  exact sts_cons (st_if (PW.pb (pw_or' (bcmp (op_neD hr.units) (holds_ne rfl) (pv_fld rfl (dv 0) rfl rfl) (pv_fld rfl (dv 1) rfl rfl)) (pw_or1' (bcmp (op_neD hr.units) (holds_ne rfl) (pv_fld rfl (dv 0) rfl rfl) (pv_fld rfl (dv 1) rfl rfl))))) (sts_one (st_raise x_Unlike rfl rfl (takes_of rfl rfl rfl rfl))) (sts_nil)) <|
  sts_cons (xset 2 nd (dmake y_Window rfl (takes_of rfl rfl rfl rfl) (hr.mono (by decide)) (args_cons (pa_fld rfl (dv 0) rfl rfl) (args_cons (pa_fld rfl (dv 0) rfl rfl) (args_nil))))) <|
  sts_cons (st_fld rfl fo_clock rfl (dv 2) (pd_add rfl (pv_fld rfl (dv 0) rfl rfl) (pv_fld rfl (dv 1) rfl rfl))) <|
  sts_cons (st_setLc [("first", 4), ("end", 5), ("part", 6)] rfl nd rfl rfl (sw_true rfl rfl rfl (by decide +kernel)) (it_list rfl (pv_fld rfl (dv 1) rfl rfl)) (blkOk_by (N := N_followed) (sc := defScope s_followed) (by decide +kernel)) (by decide) (fun _ _ _ _ _ => tar_tup rfl rfl (tgc 4 nd (tgc 5 nd (tgc 6 nd (tg_nil))))) (fun _ _ _ _ _ => ts_nil) (fun _ _ _ _ _ => pd_tup (pds_cons (pd_add rfl (vv 4) (pv_fld rfl (dv 0) rfl rfl)) (pds_cons (pd_add rfl (vv 5) (pv_fld rfl (dv 0) rfl rfl)) (pds_cons (dv 6) (pds_nil)))))) <|
  sts_cons (st_fld rfl fo_boxes rfl (dv 2) (dcall d_settled_boxes rfl (takes_of rfl rfl rfl rfl) (hr.mono (by decide)) (args_cons (pa_val (pd_add rfl (pv_fld rfl (dv 0) rfl rfl) (vv 3))) (args_cons (pa_fld rfl (dv 2) rfl rfl) (args_cons (pa_val (pd_sub (pv_fld rfl (dv 2) rfl rfl) (pv_fld rfl (dv 2) rfl rfl))) (args_nil)))) (len_cons (len_cons (len_cons (len_nil)))))) <|
  sts_one (st_ret (dv 2))
theorem sc_spread : FnScope N_spread ["thing"] (defScope s_spread) := ⟨rfl, rfl, rfl, by decide +kernel, rfl, by decide +kernel, by decide +kernel⟩
theorem ok_spread {f : Addr} {fd : FuncData} (Fu : Fun K "spread" "spread" s_spread f fd) {k_MOST : Tok} (c_MOST : mg "MOST" = some (.int 1152921504606846976 k_MOST)) {k_SPREAD : Tok} (c_SPREAD : mg "SPREAD" = some (.int 770093176312745717 k_SPREAD)) : FnOk P w K mg base (L2.CX P w) 1 f fd ["thing"] (spF (Gm K C0 C1 C3 C6 C7 C8 C9 C10 C12) 1 PX.F_spread) := by
  have nd := sc_spread.nd
  unfold PX.F_spread 
  refine def_ok Fu sc_spread rfl rfl fun cdv A outer s0 H X hr => ?_
  exact sts_one (st_ret (pd_mod (PD.pv (pd_mul (vv 0) (PD.pv (gI c_SPREAD)))) (PD.pv (gI c_MOST))))
theorem sc_mark : FnScope N_mark ["thing"] (defScope s_mark) := ⟨rfl, rfl, rfl, by decide +kernel, rfl, by decide +kernel, by decide +kernel⟩
theorem ok_mark {f : Addr} {fd : FuncData} (Fu : Fun K "mark" "mark" s_mark f fd) (d_spread : DefF (Gm K C0 C1 C3 C6 C7 C8 C9 C10 C12) P w mg base 1 "spread" 1 PX.F_spread) : FnOk P w K mg base (L2.CX P w) 2 f fd ["thing"] (spF (Gm K C0 C1 C3 C6 C7 C8 C9 C10 C12) 1 PX.F_mark) := by
  have nd := sc_mark.nd
  unfold PX.F_mark PX.C_mark_0 PX.B_mark_0
  refine def_ok Fu sc_mark rfl rfl fun cdv A outer s0 H X hr => ?_
  exact sts_cons (xset 1 nd (dcall d_spread rfl (takes_of rfl rfl rfl rfl) (hr.mono (by decide)) (args_cons (lv 0) (args_nil)) (len_cons (len_nil)))) <|
  sts_cons (st_if (bcmp (op_eqD hr.units) (holds_eq rfl) (vv 1) (PD.pv (pd_int))) (sts_one (st_ret (pd_int))) (sts_nil)) <|
  sts_cons (xset 2 nd (pd_int)) <|
  sts_cons (st_while (passes_of rfl) (bcmp (op_eqD hr.units) (holds_eq rfl) (PD.pv (pd_mod (vv 1) (PD.pv (pd_int)))) (PD.pv (pd_int))) (sts_cons (xset 1 nd (pd_div (vv 1) (PD.pv (pd_int)))) <|
  sts_one (xaug 2 nd iop_add holds_int0 (PD.pv (pd_int))))) <|
  sts_one (st_ret (dv 2))
theorem sc_settled_level : FnScope N_settled_level ["kept", "level", "room"] (defScope s_settled_level) := ⟨rfl, rfl, rfl, by decide +kernel, rfl, by decide +kernel, by decide +kernel⟩
theorem ok_settled_level {f : Addr} {fd : FuncData} (Fu : Fun K "settled_level" "settled_level" s_settled_level f fd) (z_len : mg "len" = none) (d_mark : DefF (Gm K C0 C1 C3 C6 C7 C8 C9 C10 C12) P w mg base 2 "mark" 1 PX.F_mark) : FnOk P w K mg base (L2.CX P w) 3 f fd ["kept", "level", "room"] (spF (Gm K C0 C1 C3 C6 C7 C8 C9 C10 C12) 3 PX.F_settled_level) := by
  have nd := sc_settled_level.nd
  unfold PX.F_settled_level PX.C_settled_level_0 PX.B_settled_level_0
  refine def_ok Fu sc_settled_level rfl rfl fun cdv A outer s0 H X hr => ?_
  exact sts_cons (st_while (passes_of rfl) (bcmp op_gt holds_gt (PD.pv (pd_len rfl rfl z_len (cv 0))) (vv 2)) (sts_cons (xaug 1 nd iop_add holds_int0 (PD.pv (pd_int))) <|
  sts_one (st_setLc [("thing", 3)] rfl nd rfl rfl (sw_true rfl rfl rfl (by decide +kernel)) (it_list rfl (vv 0)) (blkOk_by (N := N_settled_level) (sc := defScope s_settled_level) (by decide +kernel)) (by decide) (fun _ _ _ _ _ => tgn 3 nd) (fun _ _ _ _ _ => ts_one (bcmp op_ge holds_ge (PD.pv (dcall d_mark rfl takes0 (hr.mono (by decide)) (args_cons (lv 3) (args_nil)) (len_cons (len_nil)))) (vv 1))) (fun _ _ _ _ _ => dv 3)))) <|
  sts_one (st_ret (pd_tup (pds_cons (dv 0) (pds_cons (dv 1) (pds_nil)))))
theorem sc_Distinct_init : FnScope N_Distinct_init ["self", "room"] (defScope s_Distinct_init) := ⟨rfl, rfl, rfl, by decide +kernel, rfl, by decide +kernel, by decide +kernel⟩
theorem ok_Distinct_init {f : Addr} {fd : FuncData} (Fu : Fun K "__init__" "Distinct.__init__" s_Distinct_init f fd) (fo_arrivals : FldOk (Gm K C0 C1 C3 C6 C7 C8 C9 C10 C12) "arrivals" [10]) (fo_kept : FldOk (Gm K C0 C1 C3 C6 C7 C8 C9 C10 C12) "kept" [10]) (fo_level : FldOk (Gm K C0 C1 C3 C6 C7 C8 C9 C10 C12) "level" [10]) (fo_room : FldOk (Gm K C0 C1 C3 C6 C7 C8 C9 C10 C12) "room" [6, 8, 9, 10, 12, 13]) : FnOk P w K mg base (L2.CX P w) 1 f fd ["self", "room"] (spF (Gm K C0 C1 C3 C6 C7 C8 C9 C10 C12) 2 PX.F_Distinct_init) := by
  have nd := sc_Distinct_init.nd
  unfold PX.F_Distinct_init 
  refine def_ok Fu sc_Distinct_init rfl rfl fun cdv A outer s0 H X hr => ?_
  exact sts_cons (st_fld rfl fo_room rfl (dv 0) (dv 1)) <|
  sts_cons (st_fld rfl fo_arrivals rfl (dv 0) (pd_int)) <|
  sts_cons (st_fld rfl fo_level rfl (dv 0) (pd_int)) <|
  sts_one (st_fld rfl fo_kept rfl (dv 0) (PF.pd (pf_lst (pds_nil))))
theorem sc_Distinct_add : FnScope N_Distinct_add ["self", "thing"] (defScope s_Distinct_add) := ⟨rfl, rfl, rfl, by decide +kernel, rfl, by decide +kernel, by decide +kernel⟩
theorem ok_Distinct_add {f : Addr} {fd : FuncData} (Fu : Fun K "add" "Distinct.add" s_Distinct_add f fd) (z_sorted : mg "sorted" = none) (fo_arrivals : FldOk (Gm K C0 C1 C3 C6 C7 C8 C9 C10 C12) "arrivals" [10]) (fo_kept : FldOk (Gm K C0 C1 C3 C6 C7 C8 C9 C10 C12) "kept" [10]) (fo_level : FldOk (Gm K C0 C1 C3 C6 C7 C8 C9 C10 C12) "level" [10]) (d_mark : DefF (Gm K C0 C1 C3 C6 C7 C8 C9 C10 C12) P w mg base 2 "mark" 1 PX.F_mark) (d_settled_level : DefF (Gm K C0 C1 C3 C6 C7 C8 C9 C10 C12) P w mg base 3 "settled_level" 3 PX.F_settled_level) : FnOk P w K mg base (L2.CX P w) 4 f fd ["self", "thing"] (spF (Gm K C0 C1 C3 C6 C7 C8 C9 C10 C12) 2 PX.F_Distinct_add) := by
  have nd := sc_Distinct_add.nd
  unfold PX.F_Distinct_add 
  refine def_ok Fu sc_Distinct_add rfl rfl fun cdv A outer s0 H X hr => ?_
  exact sts_cons (st_fldAug rfl fo_arrivals rfl (dv 0) iop_add holds_int0 (PD.pv (pd_int))) <|
  sts_one (st_if (PW.pb (pw_and' (bcmp op_ge holds_ge (PD.pv (dcall d_mark rfl (takes_of rfl rfl rfl rfl) (hr.mono (by decide)) (args_cons (lv 1) (args_nil)) (len_cons (len_nil)))) (pv_fld rfl (dv 0) rfl rfl)) (pw_and1' (bcmp op_notIn_seq (holds_in rfl) (vv 1) (pv_fld rfl (dv 0) rfl rfl))))) (sts_cons (st_unT rfl rfl (tgc 2 nd (tgc 3 nd (tg_nil))) (dcall d_settled_level rfl (takes_of rfl rfl rfl rfl) (hr.mono (by decide)) (args_cons (pa_val (PF.pd (pf_sortedX rfl rfl rfl z_sorted (PD.pc (pd_add rfl (pv_fld rfl (dv 0) rfl rfl) (PD.pv (PF.pd (pf_lst (pds_cons (dv 1) (pds_nil)))))))))) (args_cons (pa_fld rfl (dv 0) rfl rfl) (args_cons (pa_fld rfl (dv 0) rfl rfl) (args_nil)))) (len_cons (len_cons (len_cons (len_nil)))))) <|
  sts_cons (st_fld rfl fo_kept rfl (dv 0) (dv 2)) <|
  sts_one (st_fld rfl fo_level rfl (dv 0) (dv 3))) (sts_nil))
theorem sc_poured_distinct : FnScope N_poured_distinct ["one", "other"] (defScope s_poured_distinct) := ⟨rfl, rfl, rfl, by decide +kernel, rfl, by decide +kernel, by decide +kernel⟩
theorem ok_poured_distinct {f : Addr} {fd : FuncData} (Fu : Fun K "poured_distinct" "poured_distinct" s_poured_distinct f fd) (z_max : mg "max" = none) (z_set : mg "set" = none) (z_sorted : mg "sorted" = none) (fo_arrivals : FldOk (Gm K C0 C1 C3 C6 C7 C8 C9 C10 C12) "arrivals" [10]) (fo_kept : FldOk (Gm K C0 C1 C3 C6 C7 C8 C9 C10 C12) "kept" [10]) (fo_level : FldOk (Gm K C0 C1 C3 C6 C7 C8 C9 C10 C12) "level" [10]) (x_Unlike : EDef (Gm K C0 C1 C3 C6 C7 C8 C9 C10 C12) mg "Unlike" 1) (d_mark : DefF (Gm K C0 C1 C3 C6 C7 C8 C9 C10 C12) P w mg base 2 "mark" 1 PX.F_mark) (d_settled_level : DefF (Gm K C0 C1 C3 C6 C7 C8 C9 C10 C12) P w mg base 3 "settled_level" 3 PX.F_settled_level) (y_Distinct : CDef (Gm K C0 C1 C3 C6 C7 C8 C9 C10 C12) P w mg base 1 "Distinct" 10 2 PX.F_Distinct_init) : FnOk P w K mg base (L2.CX P w) 4 f fd ["one", "other"] (spF (Gm K C0 C1 C3 C6 C7 C8 C9 C10 C12) 2 PX.F_poured_distinct) := by
  have nd := sc_poured_distinct.nd
  unfold PX.F_poured_distinct 
  refine def_ok Fu sc_poured_distinct rfl rfl fun cdv A outer s0 H X hr => ?_
  exact sts_cons (st_if (bcmp (op_neD hr.units) (holds_ne rfl) (pv_fld rfl (dv 0) rfl rfl) (pv_fld rfl (dv 1) rfl rfl)) (sts_one (st_raise x_Unlike rfl rfl (takes_of rfl rfl rfl rfl))) (sts_nil)) <|
  sts_cons (xset 2 nd (dmake y_Distinct rfl (takes_of rfl rfl rfl rfl) (hr.mono (by decide)) (args_cons (pa_fld rfl (dv 0) rfl rfl) (args_nil)))) <|
  sts_cons (st_fld rfl fo_arrivals rfl (dv 2) (pd_add rfl (pv_fld rfl (dv 0) rfl rfl) (pv_fld rfl (dv 1) rfl rfl))) <|
  sts_cons (xset 3 nd (pd_max2 rfl rfl z_max (pv_fld rfl (dv 0) rfl rfl) (pv_fld rfl (dv 1) rfl rfl))) <|
  sts_cons (st_setLc [("thing", 5)] rfl nd rfl rfl (sw_true rfl rfl rfl (by decide +kernel)) (it_list rfl (PD.pv (PF.pd (by refine pf_sortSet ?_ ?_ ?_ ?_ ?_ ?_ ?_; exact rfl; exact rfl; exact rfl; exact z_sorted; exact rfl; exact z_set; exact (PD.pc (pd_add rfl (pv_fld rfl (dv 0) rfl rfl) (pv_fld rfl (dv 1) rfl rfl))))))) (blkOk_by (N := N_poured_distinct) (sc := defScope s_poured_distinct) (by decide +kernel)) (by decide) (fun _ _ _ _ _ => tgn 5 nd) (fun _ _ _ _ _ => ts_one (bcmp op_ge holds_ge (PD.pv (dcall d_mark rfl takes0 (hr.mono (by decide)) (args_cons (lv 5) (args_nil)) (len_cons (len_nil)))) (vv 3))) (fun _ _ _ _ _ => dv 5)) <|
  sts_cons (st_unT rfl rfl (tgc 6 nd (tgc 7 nd (tg_nil))) (dcall d_settled_level rfl (takes_of rfl rfl rfl rfl) (hr.mono (by decide)) (args_cons (lv 4) (args_cons (lv 3) (args_cons (pa_fld rfl (dv 2) rfl rfl) (args_nil)))) (len_cons (len_cons (len_cons (len_nil)))))) <|
  sts_cons (st_fld rfl fo_kept rfl (dv 2) (dv 6)) <|
  sts_cons (st_fld rfl fo_level rfl (dv 2) (dv 7)) <|
  sts_one (st_ret (dv 2))
theorem sc_moved_sums : FnScope N_moved_sums ["sums", "thing", "weight"] (defScope s_moved_sums) := ⟨rfl, rfl, rfl, by decide +kernel, rfl, by decide +kernel, by decide +kernel⟩
theorem ok_moved_sums {f : Addr} {fd : FuncData} (Fu : Fun K "moved_sums" "moved_sums" s_moved_sums f fd) : FnOk P w K mg base (L2.CX P w) 1 f fd ["sums", "thing", "weight"] (spF (Gm K C0 C1 C3 C6 C7 C8 C9 C10 C12) 3 PX.F_moved_sums) := by
  have nd := sc_moved_sums.nd
  unfold PX.F_moved_sums PX.B_moved_sums_0
  refine def_ok Fu sc_moved_sums rfl rfl fun cdv A outer s0 H X hr => ?_
  exact sts_cons (xsetF 3 nd (pf_lst (pds_nil))) <|
  sts_cons (xset 4 nd (dv 2)) <|
  sts_cons (st_for (passes_of rfl) rfl (it_list rfl (vv 0)) (tgn 5 nd) (sts_cons (xapp 3 rfl (pd_add rfl (vv 5) (vv 4))) <|
  sts_one (xaug 4 nd iop_mulX holds_int (PD.pv (dv 1))))) <|
  sts_one (retO 3)
theorem sc_Balance_init : FnScope N_Balance_init ["self", "span"] (defScope s_Balance_init) := ⟨rfl, rfl, rfl, by decide +kernel, rfl, by decide +kernel, by decide +kernel⟩
theorem ok_Balance_init {f : Addr} {fd : FuncData} (Fu : Fun K "__init__" "Balance.__init__" s_Balance_init f fd) (fo_span : FldOk (Gm K C0 C1 C3 C6 C7 C8 C9 C10 C12) "span" [7, 12, 13]) (fo_sums : FldOk (Gm K C0 C1 C3 C6 C7 C8 C9 C10 C12) "sums" [7]) : FnOk P w K mg base (L2.CX P w) 1 f fd ["self", "span"] (spF (Gm K C0 C1 C3 C6 C7 C8 C9 C10 C12) 2 PX.F_Balance_init) := by
  have nd := sc_Balance_init.nd
  unfold PX.F_Balance_init 
  refine def_ok Fu sc_Balance_init rfl rfl fun cdv A outer s0 H X hr => ?_
  exact sts_cons (st_fld rfl fo_span rfl (dv 0) (dv 1)) <|
  sts_one (st_fld rfl fo_sums rfl (dv 0) (PF.pd (pf_lst (pds_cons (pd_int) (pds_cons (pd_int) (pds_cons (pd_int) (pds_cons (pd_int) (pds_nil))))))))
theorem sc_Balance_put : FnScope N_Balance_put ["self", "thing", "weight"] (defScope s_Balance_put) := ⟨rfl, rfl, rfl, by decide +kernel, rfl, by decide +kernel, by decide +kernel⟩
theorem ok_Balance_put {f : Addr} {fd : FuncData} (Fu : Fun K "put" "Balance.put" s_Balance_put f fd) (fo_sums : FldOk (Gm K C0 C1 C3 C6 C7 C8 C9 C10 C12) "sums" [7]) (d_moved_sums : DefF (Gm K C0 C1 C3 C6 C7 C8 C9 C10 C12) P w mg base 1 "moved_sums" 3 PX.F_moved_sums) : FnOk P w K mg base (L2.CX P w) 2 f fd ["self", "thing", "weight"] (spF (Gm K C0 C1 C3 C6 C7 C8 C9 C10 C12) 3 PX.F_Balance_put) := by
  have nd := sc_Balance_put.nd
  unfold PX.F_Balance_put 
  refine def_ok Fu sc_Balance_put rfl rfl fun cdv A outer s0 H X hr => ?_
  exact sts_one (st_fld rfl fo_sums rfl (dv 0) (dcall d_moved_sums rfl (takes_of rfl rfl rfl rfl) (hr.mono (by decide)) (args_cons (pa_fld rfl (dv 0) rfl rfl) (args_cons (lv 1) (args_cons (lv 2) (args_nil)))) (len_cons (len_cons (len_cons (len_nil))))))
theorem sc_Balance_take : FnScope N_Balance_take ["self", "thing", "weight"] (defScope s_Balance_take) := ⟨rfl, rfl, rfl, by decide +kernel, rfl, by decide +kernel, by decide +kernel⟩
theorem ok_Balance_take {f : Addr} {fd : FuncData} (Fu : Fun K "take" "Balance.take" s_Balance_take f fd) (fo_sums : FldOk (Gm K C0 C1 C3 C6 C7 C8 C9 C10 C12) "sums" [7]) (d_moved_sums : DefF (Gm K C0 C1 C3 C6 C7 C8 C9 C10 C12) P w mg base 1 "moved_sums" 3 PX.F_moved_sums) : FnOk P w K mg base (L2.CX P w) 2 f fd ["self", "thing", "weight"] (spF (Gm K C0 C1 C3 C6 C7 C8 C9 C10 C12) 3 PX.F_Balance_take) := by
  have nd := sc_Balance_take.nd
  unfold PX.F_Balance_take 
  refine def_ok Fu sc_Balance_take rfl rfl fun cdv A outer s0 H X hr => ?_
  exact sts_one (st_fld rfl fo_sums rfl (dv 0) (dcall d_moved_sums rfl (takes_of rfl rfl rfl rfl) (hr.mono (by decide)) (args_cons (pa_fld rfl (dv 0) rfl rfl) (args_cons (lv 1) (args_cons (pa_val (pd_neg (cv 2))) (args_nil)))) (len_cons (len_cons (len_cons (len_nil))))))
theorem sc_poured_balance : FnScope N_poured_balance ["one", "other"] (defScope s_poured_balance) := ⟨rfl, rfl, rfl, by decide +kernel, rfl, by decide +kernel, by decide +kernel⟩
theorem ok_poured_balance {f : Addr} {fd : FuncData} (Fu : Fun K "poured_balance" "poured_balance" s_poured_balance f fd) (z_range : mg "range" = none) (fo_sums : FldOk (Gm K C0 C1 C3 C6 C7 C8 C9 C10 C12) "sums" [7]) (x_Unlike : EDef (Gm K C0 C1 C3 C6 C7 C8 C9 C10 C12) mg "Unlike" 1) (y_Balance : CDef (Gm K C0 C1 C3 C6 C7 C8 C9 C10 C12) P w mg base 1 "Balance" 7 2 PX.F_Balance_init) : FnOk P w K mg base (L2.CX P w) 3 f fd ["one", "other"] (spF (Gm K C0 C1 C3 C6 C7 C8 C9 C10 C12) 2 PX.F_poured_balance) := by
  have nd := sc_poured_balance.nd
  unfold PX.F_poured_balance 
  refine def_ok Fu sc_poured_balance rfl rfl fun cdv A outer s0 H X hr => ?_
  exact sts_cons (st_if (bcmp (op_neD hr.units) (holds_ne rfl) (pv_fld rfl (dv 0) rfl rfl) (pv_fld rfl (dv 1) rfl rfl)) (sts_one (st_raise x_Unlike rfl rfl (takes_of rfl rfl rfl rfl))) (sts_nil)) <|
  sts_cons (xset 2 nd (dmake y_Balance rfl (takes_of rfl rfl rfl rfl) (hr.mono (by decide)) (args_cons (pa_fld rfl (dv 0) rfl rfl) (args_nil)))) <|
  sts_cons (st_fld rfl fo_sums rfl (dv 2) (PF.pd (pf_lc [("j", 3)] rfl nd (it_range1 rfl z_range (pd_int)) (blkOk_by (N := N_poured_balance) (sc := defScope s_poured_balance) (by decide +kernel)) (by decide) (fun _ _ _ _ _ => tgn 3 nd) (fun _ _ _ _ _ => ts_nil) (fun _ _ _ _ _ => pd_add rfl (PD.pv (dix rfl (pv_fld rfl (dv 0) rfl rfl) (vv 3))) (PD.pv (dix rfl (pv_fld rfl (dv 1) rfl rfl) (vv 3))))))) <|
  sts_one (st_ret (dv 2))
theorem sc_Keepsake_init : FnScope N_Keepsake_init ["self", "room", "reach", "span"] (defScope s_Keepsake_init) := ⟨rfl, rfl, rfl, by decide +kernel, rfl, by decide +kernel, by decide +kernel⟩
theorem ok_Keepsake_init {f : Addr} {fd : FuncData} (Fu : Fun K "__init__" "Keepsake.__init__" s_Keepsake_init f fd) (fo_balance : FldOk (Gm K C0 C1 C3 C6 C7 C8 C9 C10 C12) "balance" [12]) (fo_came : FldOk (Gm K C0 C1 C3 C6 C7 C8 C9 C10 C12) "came" [12]) (fo_down : FldOk (Gm K C0 C1 C3 C6 C7 C8 C9 C10 C12) "down" [12]) (fo_reach : FldOk (Gm K C0 C1 C3 C6 C7 C8 C9 C10 C12) "reach" [6, 12, 13]) (fo_room : FldOk (Gm K C0 C1 C3 C6 C7 C8 C9 C10 C12) "room" [6, 8, 9, 10, 12, 13]) (fo_seen : FldOk (Gm K C0 C1 C3 C6 C7 C8 C9 C10 C12) "seen" [12]) (fo_span : FldOk (Gm K C0 C1 C3 C6 C7 C8 C9 C10 C12) "span" [7, 12, 13]) (fo_up : FldOk (Gm K C0 C1 C3 C6 C7 C8 C9 C10 C12) "up" [12]) (fo_went : FldOk (Gm K C0 C1 C3 C6 C7 C8 C9 C10 C12) "went" [12]) (fo_window : FldOk (Gm K C0 C1 C3 C6 C7 C8 C9 C10 C12) "window" [12]) (y_Balance : CDef (Gm K C0 C1 C3 C6 C7 C8 C9 C10 C12) P w mg base 1 "Balance" 7 2 PX.F_Balance_init) (y_Distinct : CDef (Gm K C0 C1 C3 C6 C7 C8 C9 C10 C12) P w mg base 1 "Distinct" 10 2 PX.F_Distinct_init) (y_Frequent : CDef (Gm K C0 C1 C3 C6 C7 C8 C9 C10 C12) P w mg base 1 "Frequent" 8 2 PX.F_Frequent_init) (y_Rungs : CDef (Gm K C0 C1 C3 C6 C7 C8 C9 C10 C12) P w mg base 1 "Rungs" 9 2 PX.F_Rungs_init) (y_Window : CDef (Gm K C0 C1 C3 C6 C7 C8 C9 C10 C12) P w mg base 1 "Window" 6 3 PX.F_Window_init) : FnOk P w K mg base (L2.CX P w) 3 f fd ["self", "room", "reach", "span"] (spF (Gm K C0 C1 C3 C6 C7 C8 C9 C10 C12) 4 PX.F_Keepsake_init) := by
  have nd := sc_Keepsake_init.nd
  unfold PX.F_Keepsake_init 
  refine def_ok Fu sc_Keepsake_init rfl rfl fun cdv A outer s0 H X hr => ?_
  exact sts_cons (st_fld rfl fo_room rfl (dv 0) (dv 1)) <|
  sts_cons (st_fld rfl fo_reach rfl (dv 0) (dv 2)) <|
  sts_cons (st_fld rfl fo_span rfl (dv 0) (dv 3)) <|
  sts_cons (st_fld rfl fo_came rfl (dv 0) (dmake y_Frequent rfl (takes_of rfl rfl rfl rfl) (hr.mono (by decide)) (args_cons (lv 1) (args_nil)))) <|
  sts_cons (st_fld rfl fo_went rfl (dv 0) (dmake y_Frequent rfl (takes_of rfl rfl rfl rfl) (hr.mono (by decide)) (args_cons (lv 1) (args_nil)))) <|
  sts_cons (st_fld rfl fo_up rfl (dv 0) (dmake y_Rungs rfl (takes_of rfl rfl rfl rfl) (hr.mono (by decide)) (args_cons (lv 1) (args_nil)))) <|
  sts_cons (st_fld rfl fo_down rfl (dv 0) (dmake y_Rungs rfl (takes_of rfl rfl rfl rfl) (hr.mono (by decide)) (args_cons (lv 1) (args_nil)))) <|
  sts_cons (st_fld rfl fo_window rfl (dv 0) (dmake y_Window rfl (takes_of rfl rfl rfl rfl) (hr.mono (by decide)) (args_cons (lv 1) (args_cons (lv 2) (args_nil))))) <|
  sts_cons (st_fld rfl fo_seen rfl (dv 0) (dmake y_Distinct rfl (takes_of rfl rfl rfl rfl) (hr.mono (by decide)) (args_cons (lv 1) (args_nil)))) <|
  sts_one (st_fld rfl fo_balance rfl (dv 0) (dmake y_Balance rfl (takes_of rfl rfl rfl rfl) (hr.mono (by decide)) (args_cons (lv 3) (args_nil))))
theorem sc_Keepsake_put : FnScope N_Keepsake_put ["self", "thing", "weight"] (defScope s_Keepsake_put) := ⟨rfl, rfl, rfl, by decide +kernel, rfl, by decide +kernel, by decide +kernel⟩
theorem ok_Keepsake_put {f : Addr} {fd : FuncData} (Fu : Fun K "put" "Keepsake.put" s_Keepsake_put f fd) (m_Balance_put : MDef (Gm K C0 C1 C3 C6 C7 C8 C9 C10 C12) P w mg base 2 "put" 7 3 PX.F_Balance_put) (m_Distinct_add : MDef (Gm K C0 C1 C3 C6 C7 C8 C9 C10 C12) P w mg base 4 "add" 10 2 PX.F_Distinct_add) (m_Frequent_add : MDef (Gm K C0 C1 C3 C6 C7 C8 C9 C10 C12) P w mg base 2 "add" 8 3 PX.F_Frequent_add) (m_Rungs_add : MDef (Gm K C0 C1 C3 C6 C7 C8 C9 C10 C12) P w mg base 3 "add" 9 3 PX.F_Rungs_add) (m_Window_add : MDef (Gm K C0 C1 C3 C6 C7 C8 C9 C10 C12) P w mg base 2 "add" 6 2 PX.F_Window_add) : FnOk P w K mg base (L2.CX P w) 5 f fd ["self", "thing", "weight"] (spF (Gm K C0 C1 C3 C6 C7 C8 C9 C10 C12) 3 PX.F_Keepsake_put) := by
  have nd := sc_Keepsake_put.nd
  unfold PX.F_Keepsake_put 
  refine def_ok Fu sc_Keepsake_put rfl rfl fun cdv A outer s0 H X hr => ?_
  exact sts_cons (st_ex (dmeth (kk := 2) (allM_cons (m_Frequent_add.mono (by decide)) (allM_nil)) rfl (show ("add" : Str) ∉ (["room", "reach", "clock", "boxes", "span", "sums", "total", "lost", "counts", "over", "under", "turns", "least", "most", "rungs", "arrivals", "level", "kept", "came", "went", "up", "down", "window", "seen", "balance", "many", "stacks", "puts", "takes", "line"] : List Str) from by decide +kernel) (takes_of rfl rfl rfl rfl) (hr.mono (by decide)) (pd_fld rfl (dv 0) rfl rfl) (args_cons (lv 1) (args_cons (lv 2) (args_nil))))) <|
  sts_cons (st_ex (dmeth (kk := 3) (allM_cons (m_Rungs_add.mono (by decide)) (allM_nil)) rfl (show ("add" : Str) ∉ (["room", "reach", "clock", "boxes", "span", "sums", "total", "lost", "counts", "over", "under", "turns", "least", "most", "rungs", "arrivals", "level", "kept", "came", "went", "up", "down", "window", "seen", "balance", "many", "stacks", "puts", "takes", "line"] : List Str) from by decide +kernel) (takes_of rfl rfl rfl rfl) (hr.mono (by decide)) (pd_fld rfl (dv 0) rfl rfl) (args_cons (lv 1) (args_cons (lv 2) (args_nil))))) <|
  sts_cons (st_ex (dmeth (kk := 2) (allM_cons (m_Window_add.mono (by decide)) (allM_nil)) rfl (show ("add" : Str) ∉ (["room", "reach", "clock", "boxes", "span", "sums", "total", "lost", "counts", "over", "under", "turns", "least", "most", "rungs", "arrivals", "level", "kept", "came", "went", "up", "down", "window", "seen", "balance", "many", "stacks", "puts", "takes", "line"] : List Str) from by decide +kernel) (takes_of rfl rfl rfl rfl) (hr.mono (by decide)) (pd_fld rfl (dv 0) rfl rfl) (args_cons (lv 2) (args_nil)))) <|
  sts_cons (st_ex (dmeth (kk := 4) (allM_cons (m_Distinct_add.mono (by decide)) (allM_nil)) rfl (show ("add" : Str) ∉ (["room", "reach", "clock", "boxes", "span", "sums", "total", "lost", "counts", "over", "under", "turns", "least", "most", "rungs", "arrivals", "level", "kept", "came", "went", "up", "down", "window", "seen", "balance", "many", "stacks", "puts", "takes", "line"] : List Str) from by decide +kernel) (takes_of rfl rfl rfl rfl) (hr.mono (by decide)) (pd_fld rfl (dv 0) rfl rfl) (args_cons (lv 1) (args_nil)))) <|
  sts_one (st_if (bcmp op_lt holds_lt (vv 1) (pv_fld rfl (dv 0) rfl rfl)) (sts_one (st_ex (dmeth (kk := 2) (allM_cons (m_Balance_put.mono (by decide)) (allM_nil)) rfl (show ("put" : Str) ∉ (["room", "reach", "clock", "boxes", "span", "sums", "total", "lost", "counts", "over", "under", "turns", "least", "most", "rungs", "arrivals", "level", "kept", "came", "went", "up", "down", "window", "seen", "balance", "many", "stacks", "puts", "takes", "line"] : List Str) from by decide +kernel) (takes_of rfl rfl rfl rfl) (hr.mono (by decide)) (pd_fld rfl (dv 0) rfl rfl) (args_cons (lv 1) (args_cons (lv 2) (args_nil)))))) (sts_nil))
theorem sc_Keepsake_take : FnScope N_Keepsake_take ["self", "thing", "weight"] (defScope s_Keepsake_take) := ⟨rfl, rfl, rfl, by decide +kernel, rfl, by decide +kernel, by decide +kernel⟩
theorem ok_Keepsake_take {f : Addr} {fd : FuncData} (Fu : Fun K "take" "Keepsake.take" s_Keepsake_take f fd) (m_Balance_take : MDef (Gm K C0 C1 C3 C6 C7 C8 C9 C10 C12) P w mg base 2 "take" 7 3 PX.F_Balance_take) (m_Frequent_add : MDef (Gm K C0 C1 C3 C6 C7 C8 C9 C10 C12) P w mg base 2 "add" 8 3 PX.F_Frequent_add) (m_Rungs_add : MDef (Gm K C0 C1 C3 C6 C7 C8 C9 C10 C12) P w mg base 3 "add" 9 3 PX.F_Rungs_add) (m_Window_idle : MDef (Gm K C0 C1 C3 C6 C7 C8 C9 C10 C12) P w mg base 2 "idle" 6 2 PX.F_Window_idle) : FnOk P w K mg base (L2.CX P w) 4 f fd ["self", "thing", "weight"] (spF (Gm K C0 C1 C3 C6 C7 C8 C9 C10 C12) 3 PX.F_Keepsake_take) := by
  have nd := sc_Keepsake_take.nd
  unfold PX.F_Keepsake_take 
  refine def_ok Fu sc_Keepsake_take rfl rfl fun cdv A outer s0 H X hr => ?_
  exact sts_cons (st_ex (dmeth (kk := 2) (allM_cons (m_Frequent_add.mono (by decide)) (allM_nil)) rfl (show ("add" : Str) ∉ (["room", "reach", "clock", "boxes", "span", "sums", "total", "lost", "counts", "over", "under", "turns", "least", "most", "rungs", "arrivals", "level", "kept", "came", "went", "up", "down", "window", "seen", "balance", "many", "stacks", "puts", "takes", "line"] : List Str) from by decide +kernel) (takes_of rfl rfl rfl rfl) (hr.mono (by decide)) (pd_fld rfl (dv 0) rfl rfl) (args_cons (lv 1) (args_cons (lv 2) (args_nil))))) <|
  sts_cons (st_ex (dmeth (kk := 3) (allM_cons (m_Rungs_add.mono (by decide)) (allM_nil)) rfl (show ("add" : Str) ∉ (["room", "reach", "clock", "boxes", "span", "sums", "total", "lost", "counts", "over", "under", "turns", "least", "most", "rungs", "arrivals", "level", "kept", "came", "went", "up", "down", "window", "seen", "balance", "many", "stacks", "puts", "takes", "line"] : List Str) from by decide +kernel) (takes_of rfl rfl rfl rfl) (hr.mono (by decide)) (pd_fld rfl (dv 0) rfl rfl) (args_cons (lv 1) (args_cons (lv 2) (args_nil))))) <|
  sts_cons (st_ex (dmeth (kk := 2) (allM_cons (m_Window_idle.mono (by decide)) (allM_nil)) rfl (show ("idle" : Str) ∉ (["room", "reach", "clock", "boxes", "span", "sums", "total", "lost", "counts", "over", "under", "turns", "least", "most", "rungs", "arrivals", "level", "kept", "came", "went", "up", "down", "window", "seen", "balance", "many", "stacks", "puts", "takes", "line"] : List Str) from by decide +kernel) (takes_of rfl rfl rfl rfl) (hr.mono (by decide)) (pd_fld rfl (dv 0) rfl rfl) (args_cons (pa_val (pd_int)) (args_nil)))) <|
  sts_one (st_if (bcmp op_lt holds_lt (vv 1) (pv_fld rfl (dv 0) rfl rfl)) (sts_one (st_ex (dmeth (kk := 2) (allM_cons (m_Balance_take.mono (by decide)) (allM_nil)) rfl (show ("take" : Str) ∉ (["room", "reach", "clock", "boxes", "span", "sums", "total", "lost", "counts", "over", "under", "turns", "least", "most", "rungs", "arrivals", "level", "kept", "came", "went", "up", "down", "window", "seen", "balance", "many", "stacks", "puts", "takes", "line"] : List Str) from by decide +kernel) (takes_of rfl rfl rfl rfl) (hr.mono (by decide)) (pd_fld rfl (dv 0) rfl rfl) (args_cons (lv 1) (args_cons (lv 2) (args_nil)))))) (sts_nil))
theorem sc_Keepsake_idle : FnScope N_Keepsake_idle ["self", "many"] (defScope s_Keepsake_idle) := ⟨rfl, rfl, rfl, by decide +kernel, rfl, by decide +kernel, by decide +kernel⟩
theorem ok_Keepsake_idle {f : Addr} {fd : FuncData} (Fu : Fun K "idle" "Keepsake.idle" s_Keepsake_idle f fd) (m_Window_idle : MDef (Gm K C0 C1 C3 C6 C7 C8 C9 C10 C12) P w mg base 2 "idle" 6 2 PX.F_Window_idle) : FnOk P w K mg base (L2.CX P w) 3 f fd ["self", "many"] (spF (Gm K C0 C1 C3 C6 C7 C8 C9 C10 C12) 2 PX.F_Keepsake_idle) := by
  have nd := sc_Keepsake_idle.nd
  unfold PX.F_Keepsake_idle 
  refine def_ok Fu sc_Keepsake_idle rfl rfl fun cdv A outer s0 H X hr => ?_
  exact sts_one (st_ex (dmeth (kk := 2) (allM_cons (m_Window_idle.mono (by decide)) (allM_nil)) rfl (show ("idle" : Str) ∉ (["room", "reach", "clock", "boxes", "span", "sums", "total", "lost", "counts", "over", "under", "turns", "least", "most", "rungs", "arrivals", "level", "kept", "came", "went", "up", "down", "window", "seen", "balance", "many", "stacks", "puts", "takes", "line"] : List Str) from by decide +kernel) (takes_of rfl rfl rfl rfl) (hr.mono (by decide)) (pd_fld rfl (dv 0) rfl rfl) (args_cons (lv 1) (args_nil))))
theorem sc_empty_like : FnScope N_empty_like ["keepsake"] (defScope s_empty_like) := ⟨rfl, rfl, rfl, by decide +kernel, rfl, by decide +kernel, by decide +kernel⟩
theorem ok_empty_like {f : Addr} {fd : FuncData} (Fu : Fun K "empty_like" "empty_like" s_empty_like f fd) (y_Keepsake : CDef (Gm K C0 C1 C3 C6 C7 C8 C9 C10 C12) P w mg base 3 "Keepsake" 12 4 PX.F_Keepsake_init) : FnOk P w K mg base (L2.CX P w) 5 f fd ["keepsake"] (spF (Gm K C0 C1 C3 C6 C7 C8 C9 C10 C12) 1 PX.F_empty_like) := by
  have nd := sc_empty_like.nd
  unfold PX.F_empty_like 
  refine def_ok Fu sc_empty_like rfl rfl fun cdv A outer s0 H X hr => ?_
  exact sts_one (st_ret (dmake y_Keepsake rfl (takes_of rfl rfl rfl rfl) (hr.mono (by decide)) (args_cons (pa_fld rfl (dv 0) rfl rfl) (args_cons (pa_fld rfl (dv 0) rfl rfl) (args_cons (pa_fld rfl (dv 0) rfl rfl) (args_nil))))))
theorem sc_poured : FnScope N_poured ["one", "other"] (defScope s_poured) := ⟨rfl, rfl, rfl, by decide +kernel, rfl, by decide +kernel, by decide +kernel⟩
theorem ok_poured {f : Addr} {fd : FuncData} (Fu : Fun K "poured" "poured" s_poured f fd) (fo_balance : FldOk (Gm K C0 C1 C3 C6 C7 C8 C9 C10 C12) "balance" [12]) (fo_came : FldOk (Gm K C0 C1 C3 C6 C7 C8 C9 C10 C12) "came" [12]) (fo_down : FldOk (Gm K C0 C1 C3 C6 C7 C8 C9 C10 C12) "down" [12]) (fo_seen : FldOk (Gm K C0 C1 C3 C6 C7 C8 C9 C10 C12) "seen" [12]) (fo_up : FldOk (Gm K C0 C1 C3 C6 C7 C8 C9 C10 C12) "up" [12]) (fo_went : FldOk (Gm K C0 C1 C3 C6 C7 C8 C9 C10 C12) "went" [12]) (fo_window : FldOk (Gm K C0 C1 C3 C6 C7 C8 C9 C10 C12) "window" [12]) (x_Unlike : EDef (Gm K C0 C1 C3 C6 C7 C8 C9 C10 C12) mg "Unlike" 1) (d_empty_like : DefF (Gm K C0 C1 C3 C6 C7 C8 C9 C10 C12) P w mg base 5 "empty_like" 1 PX.F_empty_like) (d_followed : DefF (Gm K C0 C1 C3 C6 C7 C8 C9 C10 C12) P w mg base 3 "followed" 2 PX.F_followed) (d_poured_balance : DefF (Gm K C0 C1 C3 C6 C7 C8 C9 C10 C12) P w mg base 3 "poured_balance" 2 PX.F_poured_balance) (d_poured_distinct : DefF (Gm K C0 C1 C3 C6 C7 C8 C9 C10 C12) P w mg base 4 "poured_distinct" 2 PX.F_poured_distinct) (d_poured_frequent : DefF (Gm K C0 C1 C3 C6 C7 C8 C9 C10 C12) P w mg base 3 "poured_frequent" 2 PX.F_poured_frequent) (d_poured_rungs : DefF (Gm K C0 C1 C3 C6 C7 C8 C9 C10 C12) P w mg base 3 "poured_rungs" 2 PX.F_poured_rungs) : FnOk P w K mg base (L2.CX P w) 6 f fd ["one", "other"] (spF (Gm K C0 C1 C3 C6 C7 C8 C9 C10 C12) 2 PX.F_poured) := by
  have nd := sc_poured.nd
  unfold PX.F_poured 
  refine def_ok Fu sc_poured rfl rfl fun cdv A outer s0 H X hr => ?_
  exact sts_cons (st_if (bcmp (op_neD hr.units) (holds_ne rfl) (PD.pv (pd_tup (pds_cons (pd_fld rfl (dv 0) rfl rfl) (pds_cons (pd_fld rfl (dv 0) rfl rfl) (pds_cons (pd_fld rfl (dv 0) rfl rfl) (pds_nil)))))) (PD.pv (pd_tup (pds_cons (pd_fld rfl (dv 1) rfl rfl) (pds_cons (pd_fld rfl (dv 1) rfl rfl) (pds_cons (pd_fld rfl (dv 1) rfl rfl) (pds_nil))))))) (sts_one (st_raise x_Unlike rfl rfl (takes_of rfl rfl rfl rfl))) (sts_nil)) <|
  sts_cons (xset 2 nd (dcall d_empty_like rfl (takes_of rfl rfl rfl rfl) (hr.mono (by decide)) (args_cons (lv 0) (args_nil)) (len_cons (len_nil)))) <|
  sts_cons (st_fld rfl fo_came rfl (dv 2) (dcall d_poured_frequent rfl (takes_of rfl rfl rfl rfl) (hr.mono (by decide)) (args_cons (pa_fld rfl (dv 0) rfl rfl) (args_cons (pa_fld rfl (dv 1) rfl rfl) (args_nil))) (len_cons (len_cons (len_nil))))) <|
  sts_cons (st_fld rfl fo_went rfl (dv 2) (dcall d_poured_frequent rfl (takes_of rfl rfl rfl rfl) (hr.mono (by decide)) (args_cons (pa_fld rfl (dv 0) rfl rfl) (args_cons (pa_fld rfl (dv 1) rfl rfl) (args_nil))) (len_cons (len_cons (len_nil))))) <|
  sts_cons (st_fld rfl fo_up rfl (dv 2) (dcall d_poured_rungs rfl (takes_of rfl rfl rfl rfl) (hr.mono (by decide)) (args_cons (pa_fld rfl (dv 0) rfl rfl) (args_cons (pa_fld rfl (dv 1) rfl rfl) (args_nil))) (len_cons (len_cons (len_nil))))) <|
  sts_cons (st_fld rfl fo_down rfl (dv 2) (dcall d_poured_rungs rfl (takes_of rfl rfl rfl rfl) (hr.mono (by decide)) (args_cons (pa_fld rfl (dv 0) rfl rfl) (args_cons (pa_fld rfl (dv 1) rfl rfl) (args_nil))) (len_cons (len_cons (len_nil))))) <|
  sts_cons (st_fld rfl fo_window rfl (dv 2) (dcall d_followed rfl (takes_of rfl rfl rfl rfl) (hr.mono (by decide)) (args_cons (pa_fld rfl (dv 0) rfl rfl) (args_cons (pa_fld rfl (dv 1) rfl rfl) (args_nil))) (len_cons (len_cons (len_nil))))) <|
  sts_cons (st_fld rfl fo_seen rfl (dv 2) (dcall d_poured_distinct rfl (takes_of rfl rfl rfl rfl) (hr.mono (by decide)) (args_cons (pa_fld rfl (dv 0) rfl rfl) (args_cons (pa_fld rfl (dv 1) rfl rfl) (args_nil))) (len_cons (len_cons (len_nil))))) <|
  sts_cons (st_fld rfl fo_balance rfl (dv 2) (dcall d_poured_balance rfl (takes_of rfl rfl rfl rfl) (hr.mono (by decide)) (args_cons (pa_fld rfl (dv 0) rfl rfl) (args_cons (pa_fld rfl (dv 1) rfl rfl) (args_nil))) (len_cons (len_cons (len_nil))))) <|
  sts_one (st_ret (dv 2))
theorem sc_mix : FnScope N_mix ["_law_cell", "_law_factor", "_law_prime"] (defScope s_mix) := ⟨rfl, rfl, rfl, by decide +kernel, rfl, by decide +kernel, by decide +kernel⟩
theorem ok_mix {f : Addr} {fd : FuncData} (Fu : Fun K "_law_mix" "_law_mix" s_mix f fd) : FnOk P w K mg base (L2.CX P w) 1 f fd ["_law_cell", "_law_factor", "_law_prime"] (spF (Gm K C0 C1 C3 C6 C7 C8 C9 C10 C12) 3 PX.F_mix) := by
  have nd := sc_mix.nd
  unfold PX.F_mix 
  refine def_ok Fu sc_mix rfl rfl fun cdv A outer s0 H X hr => ?_
  exact sts_one (st_ret (pd_mod (PD.pv (pd_mul (vv 0) (vv 1))) (vv 2)))
theorem sc_far_back : FnScope N_far_back [] (defScope s_far_back) := ⟨rfl, rfl, rfl, by decide +kernel, rfl, by decide +kernel, by decide +kernel⟩
theorem ok_far_back {f : Addr} {fd : FuncData} (Fu : Fun K "_law_far_back" "_law_far_back" s_far_back f fd) (z_range : mg "range" = none) : FnOk P w K mg base (L2.CX P w) 1 f fd [] (spF (Gm K C0 C1 C3 C6 C7 C8 C9 C10 C12) 0 PX.F_kfar_back) := by
  have nd := sc_far_back.nd
  unfold PX.F_kfar_back PX.B_kfar_back_0
  refine def_ok Fu sc_far_back rfl rfl fun cdv A outer s0 H X hr => ?_
  exact sts_cons (xset 0 nd (pd_int)) <|
  sts_cons (st_for (passes_of rfl) rfl (it_range1 rfl z_range (pd_int)) (tgn 1 nd) (sts_one (xset 0 nd (pd_mod (PD.pv (pd_mul (vv 0) (PD.pv (pd_sub (PD.pv (pd_int)) (PD.pv (pd_mul (PD.pv (pd_int)) (vv 0))))))) (PD.pv (pd_int)))))) <|
  sts_one (st_ret (dv 0))
theorem sc_thing_by : FnScope N_thing_by ["_law_cell"] (defScope s_thing_by) := ⟨rfl, rfl, rfl, by decide +kernel, rfl, by decide +kernel, by decide +kernel⟩
theorem ok_thing_by {f : Addr} {fd : FuncData} (Fu : Fun K "_law_thing_by" "_law_thing_by" s_thing_by f fd) (d_far_back : DefF (Gm K C0 C1 C3 C6 C7 C8 C9 C10 C12) P w mg base 1 "_law_far_back" 0 PX.F_kfar_back) : FnOk P w K mg base (L2.CX P w) 2 f fd ["_law_cell"] (spF (Gm K C0 C1 C3 C6 C7 C8 C9 C10 C12) 1 PX.F_kthing_by) := by
  have nd := sc_thing_by.nd
  unfold PX.F_kthing_by 
  refine def_ok Fu sc_thing_by rfl rfl fun cdv A outer s0 H X hr => ?_
  exact sts_cons (xset 1 nd (pd_mod (vv 0) (PD.pv (pd_int)))) <|
  sts_cons (st_if (bcmp op_lt holds_lt (vv 1) (PD.pv (pd_int))) (sts_one (st_ret (pd_mod (PD.pv (pd_div (vv 0) (PD.pv (pd_int)))) (PD.pv (dix rfl (PD.pv (PF.pd (pf_lst (pds_cons (pd_int) (pds_cons (pd_int) (pds_nil)))))) (vv 1)))))) (sts_nil)) <|
  sts_cons (st_if (bcmp (op_eqD hr.units) (holds_eq rfl) (vv 1) (PD.pv (pd_int))) (sts_one (st_ret (pd_mod (PD.pv (pd_mul (PD.pv (pd_div (vv 0) (PD.pv (pd_int)))) (PD.pv (pd_int)))) (PD.pv (pd_int))))) (sts_nil)) <|
  sts_cons (xset 2 nd (pd_shl (PD.pv (pd_add rfl (PD.pv (pd_int)) (PD.pv (pd_mod (PD.pv (pd_div (vv 0) (PD.pv (pd_int)))) (PD.pv (pd_int)))))) (PD.pv (pd_mod (PD.pv (pd_div (vv 0) (PD.pv (pd_int)))) (PD.pv (pd_int)))))) <|
  sts_one (st_ret (pd_mod (PD.pv (pd_mul (vv 2) (PD.pv (dcall0 d_far_back rfl (takes_of rfl rfl rfl rfl) (hr.mono (by decide)) rfl)))) (PD.pv (pd_int))))
theorem sc_weight_by : FnScope N_weight_by ["_law_cell"] (defScope s_weight_by) := ⟨rfl, rfl, rfl, by decide +kernel, rfl, by decide +kernel, by decide +kernel⟩
theorem ok_weight_by {f : Addr} {fd : FuncData} (Fu : Fun K "_law_weight_by" "_law_weight_by" s_weight_by f fd) : FnOk P w K mg base (L2.CX P w) 1 f fd ["_law_cell"] (spF (Gm K C0 C1 C3 C6 C7 C8 C9 C10 C12) 1 PX.F_kweight_by) := by
  have nd := sc_weight_by.nd
  unfold PX.F_kweight_by 
  refine def_ok Fu sc_weight_by rfl rfl fun cdv A outer s0 H X hr => ?_
  exact sts_cons (st_if (bcmp (op_eqD hr.units) (holds_eq rfl) (PD.pv (pd_mod (vv 0) (PD.pv (pd_int)))) (PD.pv (pd_int))) (sts_one (st_ret (pd_add rfl (PD.pv (pd_int)) (PD.pv (pd_mod (PD.pv (pd_mul (PD.pv (pd_div (vv 0) (PD.pv (pd_int)))) (PD.pv (pd_int)))) (PD.pv (pd_int))))))) (sts_nil)) <|
  sts_one (st_ret (pd_add rfl (PD.pv (pd_int)) (PD.pv (pd_mod (PD.pv (pd_div (vv 0) (PD.pv (pd_int)))) (PD.pv (pd_int))))))
theorem sc_row_by : FnScope N_row_by ["_law_cell"] (defScope s_row_by) := ⟨rfl, rfl, rfl, by decide +kernel, rfl, by decide +kernel, by decide +kernel⟩
theorem ok_row_by {f : Addr} {fd : FuncData} (Fu : Fun K "_law_row_by" "_law_row_by" s_row_by f fd) (d_mix : DefF (Gm K C0 C1 C3 C6 C7 C8 C9 C10 C12) P w mg base 1 "_law_mix" 3 PX.F_mix) (d_thing_by : DefF (Gm K C0 C1 C3 C6 C7 C8 C9 C10 C12) P w mg base 2 "_law_thing_by" 1 PX.F_kthing_by) (d_weight_by : DefF (Gm K C0 C1 C3 C6 C7 C8 C9 C10 C12) P w mg base 1 "_law_weight_by" 1 PX.F_kweight_by) : FnOk P w K mg base (L2.CX P w) 3 f fd ["_law_cell"] (spF (Gm K C0 C1 C3 C6 C7 C8 C9 C10 C12) 1 PX.F_krow_by) := by
  have nd := sc_row_by.nd
  unfold PX.F_krow_by 
  refine def_ok Fu sc_row_by rfl rfl fun cdv A outer s0 H X hr => ?_
  exact sts_cons (xset 1 nd (dix rfl (PD.pv (PF.pd (pf_lst (pds_cons (pd_int) (pds_cons (pd_int) (pds_cons (pd_int) (pds_cons (pd_int) (pds_cons (pd_int) (pds_cons (pd_int) (pds_cons (pd_int) (pds_nil))))))))))) (PD.pv (pd_mod (vv 0) (PD.pv (pd_int)))))) <|
  sts_cons (xset 2 nd (dcall d_thing_by rfl (takes_of rfl rfl rfl rfl) (hr.mono (by decide)) (args_cons (pa_val (dcall d_mix rfl (takes_of rfl rfl rfl rfl) (hr.mono (by decide)) (args_cons (lv 0) (args_cons (pa_val (pd_int)) (args_cons (pa_val (pd_int)) (args_nil)))) (len_cons (len_cons (len_cons (len_nil)))))) (args_nil)) (len_cons (len_nil)))) <|
  sts_cons (xset 3 nd (dcall d_weight_by rfl (takes_of rfl rfl rfl rfl) (hr.mono (by decide)) (args_cons (pa_val (dcall d_mix rfl (takes_of rfl rfl rfl rfl) (hr.mono (by decide)) (args_cons (lv 0) (args_cons (pa_val (pd_int)) (args_cons (pa_val (pd_int)) (args_nil)))) (len_cons (len_cons (len_cons (len_nil)))))) (args_nil)) (len_cons (len_nil)))) <|
  sts_one (st_ret (pd_tup (pds_cons (dv 1) (pds_cons (dv 2) (pds_cons (dv 3) (pds_nil))))))
theorem sc_done : FnScope N_done ["_law_keepsake", "_law_row"] (defScope s_done) := ⟨rfl, rfl, rfl, by decide +kernel, rfl, by decide +kernel, by decide +kernel⟩
theorem ok_done {f : Addr} {fd : FuncData} (Fu : Fun K "_law_done" "_law_done" s_done f fd) (m_Keepsake_idle : MDef (Gm K C0 C1 C3 C6 C7 C8 C9 C10 C12) P w mg base 3 "idle" 12 2 PX.F_Keepsake_idle) (m_Keepsake_put : MDef (Gm K C0 C1 C3 C6 C7 C8 C9 C10 C12) P w mg base 5 "put" 12 3 PX.F_Keepsake_put) (m_Keepsake_take : MDef (Gm K C0 C1 C3 C6 C7 C8 C9 C10 C12) P w mg base 4 "take" 12 3 PX.F_Keepsake_take) : FnOk P w K mg base (L2.CX P w) 6 f fd ["_law_keepsake", "_law_row"] (spF (Gm K C0 C1 C3 C6 C7 C8 C9 C10 C12) 2 PX.F_kdone) := by
  have nd := sc_done.nd
  unfold PX.F_kdone 
  refine def_ok Fu sc_done rfl rfl fun cdv A outer s0 H X hr => ?_
  exact sts_one (st_if (bcmp (op_eqD hr.units) (holds_eq rfl) (PD.pv (dix rfl (vv 1) (PD.pv (pd_int)))) (PD.pv (pd_int))) (sts_one (st_ex (dmeth (kk := 5) (allM_cons (m_Keepsake_put.mono (by decide)) (allM_nil)) rfl (show ("put" : Str) ∉ (["room", "reach", "clock", "boxes", "span", "sums", "total", "lost", "counts", "over", "under", "turns", "least", "most", "rungs", "arrivals", "level", "kept", "came", "went", "up", "down", "window", "seen", "balance", "many", "stacks", "puts", "takes", "line"] : List Str) from by decide +kernel) (takes_of rfl rfl rfl rfl) (hr.mono (by decide)) (dv 0) (args_cons (pa_val (dix rfl (vv 1) (PD.pv (pd_int)))) (args_cons (pa_val (dix rfl (vv 1) (PD.pv (pd_int)))) (args_nil)))))) (sts_one (st_if (bcmp (op_eqD hr.units) (holds_eq rfl) (PD.pv (dix rfl (vv 1) (PD.pv (pd_int)))) (PD.pv (pd_int))) (sts_one (st_ex (dmeth (kk := 4) (allM_cons (m_Keepsake_take.mono (by decide)) (allM_nil)) rfl (show ("take" : Str) ∉ (["room", "reach", "clock", "boxes", "span", "sums", "total", "lost", "counts", "over", "under", "turns", "least", "most", "rungs", "arrivals", "level", "kept", "came", "went", "up", "down", "window", "seen", "balance", "many", "stacks", "puts", "takes", "line"] : List Str) from by decide +kernel) (takes_of rfl rfl rfl rfl) (hr.mono (by decide)) (dv 0) (args_cons (pa_val (dix rfl (vv 1) (PD.pv (pd_int)))) (args_cons (pa_val (dix rfl (vv 1) (PD.pv (pd_int)))) (args_nil)))))) (sts_one (st_ex (dmeth (kk := 3) (allM_cons (m_Keepsake_idle.mono (by decide)) (allM_nil)) rfl (show ("idle" : Str) ∉ (["room", "reach", "clock", "boxes", "span", "sums", "total", "lost", "counts", "over", "under", "turns", "least", "most", "rungs", "arrivals", "level", "kept", "came", "went", "up", "down", "window", "seen", "balance", "many", "stacks", "puts", "takes", "line"] : List Str) from by decide +kernel) (takes_of rfl rfl rfl rfl) (hr.mono (by decide)) (dv 0) (args_cons (pa_val (dix rfl (vv 1) (PD.pv (pd_int)))) (args_nil))))))))
theorem sc_shape_by : FnScope N_shape_by ["_law_cell"] (defScope s_shape_by) := ⟨rfl, rfl, rfl, by decide +kernel, rfl, by decide +kernel, by decide +kernel⟩
theorem ok_shape_by {f : Addr} {fd : FuncData} (Fu : Fun K "_law_shape_by" "_law_shape_by" s_shape_by f fd) : FnOk P w K mg base (L2.CX P w) 1 f fd ["_law_cell"] (spF (Gm K C0 C1 C3 C6 C7 C8 C9 C10 C12) 1 PX.F_kshape_by) := by
  have nd := sc_shape_by.nd
  unfold PX.F_kshape_by 
  refine def_ok Fu sc_shape_by rfl rfl fun cdv A outer s0 H X hr => ?_
  exact sts_cons (xset 1 nd (dix rfl (PD.pv (PF.pd (pf_lst (pds_cons (pd_int) (pds_cons (pd_int) (pds_cons (pd_int) (pds_cons (pd_int) (pds_cons (pd_int) (pds_cons (pd_int) (pds_nil)))))))))) (PD.pv (pd_mod (vv 0) (PD.pv (pd_int)))))) <|
  sts_cons (xset 2 nd (dix rfl (PD.pv (PF.pd (pf_lst (pds_cons (pd_int) (pds_cons (pd_add rfl (PD.pv (pd_int)) (PD.pv (pd_mod (PD.pv (pd_div (vv 0) (PD.pv (pd_int)))) (PD.pv (pd_int))))) (pds_cons (pd_add rfl (PD.pv (pd_int)) (PD.pv (pd_mod (PD.pv (pd_div (vv 0) (PD.pv (pd_int)))) (PD.pv (pd_int))))) (pds_nil))))))) (PD.pv (pd_mod (PD.pv (pd_div (vv 0) (PD.pv (pd_int)))) (PD.pv (pd_int)))))) <|
  sts_cons (xset 3 nd (dix rfl (PD.pv (PF.pd (pf_lst (pds_cons (pd_add rfl (PD.pv (pd_int)) (PD.pv (pd_mod (PD.pv (pd_div (vv 0) (PD.pv (pd_int)))) (PD.pv (pd_int))))) (pds_cons (pd_int) (pds_cons (pd_int) (pds_nil))))))) (PD.pv (pd_mod (PD.pv (pd_div (vv 0) (PD.pv (pd_int)))) (PD.pv (pd_int)))))) <|
  sts_one (st_ret (pd_tup (pds_cons (dv 1) (pds_cons (dv 2) (pds_cons (dv 3) (pds_nil))))))
theorem sc_counts_few : FnScope N_counts_few ["_law_frequent", "_law_room", "_law_total"] (defScope s_counts_few) := ⟨rfl, rfl, rfl, by decide +kernel, rfl, by decide +kernel, by decide +kernel⟩
theorem ok_counts_few {f : Addr} {fd : FuncData} (Fu : Fun K "_law_counts_few" "_law_counts_few" s_counts_few f fd) (z_len : mg "len" = none) (z_list : mg "list" = none) (z_sum : mg "sum" = none) : FnOk P w K mg base (L2.CX P w) 1 f fd ["_law_frequent", "_law_room", "_law_total"] (spF (Gm K C0 C1 C3 C6 C7 C8 C9 C10 C12) 3 F_counts_few) := by
  have nd := sc_counts_few.nd
  unfold F_counts_few 
  refine def_ok Fu sc_counts_few rfl rfl fun cdv A outer s0 H X hr => ?_
  exact sts_cons (xset 3 nd (PF.pd (pf_listV rfl rfl rfl z_list (pc_fld rfl (dv 0) rfl rfl)))) <|
  sts_cons (st_if (PW.pb (pw_or' (bcmp op_gt holds_gt (PD.pv (pd_len rfl rfl z_len (cv 3))) (vv 1)) (pw_or' (bcmp (op_neD hr.units) (holds_ne rfl) (pv_fld rfl (dv 0) rfl rfl) (vv 2)) (pw_or1' (bcmp op_gt holds_gt (PD.pv (pd_len rfl rfl z_len (PD.pc (PF.pd (pf_lc [("_law_count", 4)] rfl nd (it_list rfl (vv 3)) (blkOk_by (N := N_counts_few) (sc := defScope s_counts_few) (by decide +kernel)) (by decide) (fun _ _ _ _ _ => tgn 4 nd) (fun _ _ _ _ _ => ts_one (bcmp op_lt holds_lt (vv 4) (PD.pv (pd_int)))) (fun _ _ _ _ _ => dv 4)))))) (PD.pv (pd_int))))))) (sts_one (st_ret (pd_bl))) (sts_nil)) <|
  sts_one (st_ret (pd_and (dcmp op_ge holds_ge (pv_fld rfl (dv 0) rfl rfl) (PD.pv (pd_int))) (pd_one (dcmp op_le holds_le (PD.pv (pd_add rfl (PD.pv (pd_sum rfl rfl rfl z_sum (cv 3))) (PD.pv (pd_mul (PD.pv (pd_add rfl (vv 1) (PD.pv (pd_int)))) (pv_fld rfl (dv 0) rfl rfl))))) (vv 2)))))
theorem sc_rungs_few : FnScope N_rungs_few ["_law_rungs", "_law_room", "_law_total"] (defScope s_rungs_few) := ⟨rfl, rfl, rfl, by decide +kernel, rfl, by decide +kernel, by decide +kernel⟩
theorem ok_rungs_few {f : Addr} {fd : FuncData} (Fu : Fun K "_law_rungs_few" "_law_rungs_few" s_rungs_few f fd) (z_len : mg "len" = none) (z_max : mg "max" = none) (z_range : mg "range" = none) (z_sorted : mg "sorted" = none) : FnOk P w K mg base (L2.CX P w) 1 f fd ["_law_rungs", "_law_room", "_law_total"] (spF (Gm K C0 C1 C3 C6 C7 C8 C9 C10 C12) 3 F_rungs_few) := by
  have nd := sc_rungs_few.nd
  unfold F_rungs_few B_rungs_few_0
  refine def_ok Fu sc_rungs_few rfl rfl fun cdv A outer s0 H X hr => ?_
  exact xali 3 nd rfl (dv 0) rfl <|
  sts_cons (xset 4 nd (pd_int)) <|
  sts_cons (st_for (passes_of rfl) rfl (it_range1 rfl z_range (pd_len rfl rfl z_len (cv 3))) (tgn 5 nd) (sts_cons (st_if (PW.pb (pw_or' (bcmp op_gt holds_gt (PD.pv (pd_len rfl rfl z_len (PD.pc (dix rfl (vv 3) (vv 5))))) (vv 1)) (pw_or1' (bcmp (op_neD hr.units) (holds_ne rfl) (PD.pv (dix rfl (vv 3) (vv 5))) (PD.pv (PF.pd (pf_sortedX rfl rfl rfl z_sorted (PD.pc (dix rfl (vv 3) (vv 5)))))))))) (sts_one (st_ret (pd_bl))) (sts_nil)) <|
  sts_one (xaug 4 nd iop_add holds_int0 (PD.pv (pd_shl (PD.pv (pd_len rfl rfl z_len (PD.pc (dix rfl (vv 3) (vv 5))))) (vv 5)))))) <|
  sts_cons (st_if (PW.pb (pw_or' (bcmp (op_neD hr.units) (holds_ne rfl) (vv 4) (vv 2)) (pw_or' (bcmp (op_neD hr.units) (holds_ne rfl) (pv_fld rfl (dv 0) rfl rfl) (vv 2)) (pw_or1' (bcmp op_gt holds_gt (PD.pv (pd_len rfl rfl z_len (cv 3))) (PD.pv (pd_bits (cv 2)))))))) (sts_one (st_ret (pd_bl))) (sts_nil)) <|
  sts_cons (st_if (PW.pb (pw_and' (bcmp op_gt holds_gt (vv 2) (PD.pv (pd_int))) (pw_and1' (bcmp (op_eqD hr.units) (holds_eq rfl) (PD.pv (pd_len rfl rfl z_len (PD.pc (dix rfl (vv 3) (PD.pv (pd_neg (PD.pc (pd_int)))))))) (PD.pv (pd_int)))))) (sts_one (st_ret (pd_bl))) (sts_nil)) <|
  sts_one (st_ret (dcmp op_le holds_le (PD.pv (pd_mul (PD.pv (pd_add rfl (pv_fld rfl (dv 0) rfl rfl) (pv_fld rfl (dv 0) rfl rfl))) (vv 1))) (PD.pv (pd_mul (vv 2) (PD.pv (pd_max2 rfl rfl z_max (PD.pv (pd_int)) (PD.pv (pd_sub (PD.pv (pd_len rfl rfl z_len (cv 3))) (PD.pv (pd_int))))))))))
theorem sc_boxes_few : FnScope N_boxes_few ["_law_boxes", "_law_room"] (defScope s_boxes_few) := ⟨rfl, rfl, rfl, by decide +kernel, rfl, by decide +kernel, by decide +kernel⟩
theorem ok_boxes_few {f : Addr} {fd : FuncData} (Fu : Fun K "_law_boxes_few" "_law_boxes_few" s_boxes_few f fd) (z_len : mg "len" = none) (z_range : mg "range" = none) (z_sum : mg "sum" = none) : FnOk P w K mg base (L2.CX P w) 1 f fd ["_law_boxes", "_law_room"] (spF (Gm K C0 C1 C3 C6 C7 C8 C9 C10 C12) 2 F_boxes_few) := by
  have nd := sc_boxes_few.nd
  unfold F_boxes_few B_boxes_few_0
  refine def_ok Fu sc_boxes_few rfl rfl fun cdv A outer s0 H X hr => ?_
  exact sts_cons (xset 2 nd (pd_sum rfl rfl rfl z_sum (PD.pc (PF.pd (pf_lc [("_law_box", 3)] rfl nd (it_list rfl (vv 0)) (blkOk_by (N := N_boxes_few) (sc := defScope s_boxes_few) (by decide +kernel)) (by decide) (fun _ _ _ _ _ => tgn 3 nd) (fun _ _ _ _ _ => ts_nil) (fun _ _ _ _ _ => dix rfl (vv 3) (PD.pv (pd_int)))))))) <|
  sts_cons (xset 4 nd (pd_int)) <|
  sts_cons (xset 5 nd (dv 2)) <|
  sts_cons (st_for (passes_of rfl) rfl (it_range1 rfl z_range (pd_div (PD.pv (pd_sub (PD.pv (pd_len rfl rfl z_len (cv 0))) (PD.pv (pd_int)))) (PD.pv (pd_int)))) (tgn 6 nd) (sts_cons (xset 4 nd (pd_mul (vv 4) (PD.pv (pd_add rfl (vv 1) (PD.pv (pd_int)))))) <|
  sts_one (xset 5 nd (pd_mul (vv 5) (vv 1))))) <|
  sts_one (st_ret (pd_or (pd_and (dcmp op_lt holds_lt (PD.pv (pd_len rfl rfl z_len (cv 0))) (PD.pv (pd_int))) (pd_one (dcmp op_le holds_le (PD.pv (pd_len rfl rfl z_len (cv 0))) (vv 2)))) (pd_one (dcmp op_lt holds_lt (vv 4) (vv 5)))))
theorem sc_few : FnScope N_few ["_law_keepsake", "_law_totals"] (defScope s_few) := ⟨rfl, rfl, rfl, by decide +kernel, rfl, by decide +kernel, by decide +kernel⟩
theorem ok_few {f : Addr} {fd : FuncData} (Fu : Fun K "_law_few" "_law_few" s_few f fd) (z_len : mg "len" = none) (d_boxes_few : DefF (Gm K C0 C1 C3 C6 C7 C8 C9 C10 C12) P w mg base 1 "_law_boxes_few" 2 F_boxes_few) (d_counts_few : DefF (Gm K C0 C1 C3 C6 C7 C8 C9 C10 C12) P w mg base 1 "_law_counts_few" 3 F_counts_few) (d_rungs_few : DefF (Gm K C0 C1 C3 C6 C7 C8 C9 C10 C12) P w mg base 1 "_law_rungs_few" 3 F_rungs_few) : FnOk P w K mg base (L2.CX P w) 2 f fd ["_law_keepsake", "_law_totals"] (spF (Gm K C0 C1 C3 C6 C7 C8 C9 C10 C12) 2 F_few) := by
  have nd := sc_few.nd
  unfold F_few 
  refine def_ok Fu sc_few rfl rfl fun cdv A outer s0 H X hr => ?_
  exact sts_cons (xset 2 nd (pd_fld rfl (dv 0) rfl rfl)) <|
  sts_cons (st_if (PW.pb (pw_or' (pb_not (bval (PD.pc (dcall d_counts_few rfl (takes_of rfl rfl rfl rfl) (hr.mono (by decide)) (args_cons (pa_fld rfl (dv 0) rfl rfl) (args_cons (lv 2) (args_cons (pa_val (pd_ixC rfl (vv 1) (PD.pv (pd_int)))) (args_nil)))) (len_cons (len_cons (len_cons (len_nil)))))))) (pw_or1' (pb_not (bval (PD.pc (dcall d_counts_few rfl (takes_of rfl rfl rfl rfl) (hr.mono (by decide)) (args_cons (pa_fld rfl (dv 0) rfl rfl) (args_cons (lv 2) (args_cons (pa_val (pd_ixC rfl (vv 1) (PD.pv (pd_int)))) (args_nil)))) (len_cons (len_cons (len_cons (len_nil))))))))))) (sts_one (st_ret (pd_bl))) (sts_nil)) <|
  sts_cons (st_if (PW.pb (pw_or' (pb_not (bval (PD.pc (dcall d_rungs_few rfl (takes_of rfl rfl rfl rfl) (hr.mono (by decide)) (args_cons (pa_fld rfl (dv 0) rfl rfl) (args_cons (lv 2) (args_cons (pa_val (pd_ixC rfl (vv 1) (PD.pv (pd_int)))) (args_nil)))) (len_cons (len_cons (len_cons (len_nil)))))))) (pw_or1' (pb_not (bval (PD.pc (dcall d_rungs_few rfl (takes_of rfl rfl rfl rfl) (hr.mono (by decide)) (args_cons (pa_fld rfl (dv 0) rfl rfl) (args_cons (lv 2) (args_cons (pa_val (pd_ixC rfl (vv 1) (PD.pv (pd_int)))) (args_nil)))) (len_cons (len_cons (len_cons (len_nil))))))))))) (sts_one (st_ret (pd_bl))) (sts_nil)) <|
  sts_cons (st_if (pb_not (bval (PD.pc (dcall d_boxes_few rfl (takes_of rfl rfl rfl rfl) (hr.mono (by decide)) (args_cons (pa_fld rfl (pd_fld rfl (dv 0) rfl rfl) rfl rfl) (args_cons (lv 2) (args_nil))) (len_cons (len_cons (len_nil))))))) (sts_one (st_ret (pd_bl))) (sts_nil)) <|
  sts_one (st_ret (pd_and (dcmp op_le holds_le (PD.pv (pd_len rfl rfl z_len (pc_fld rfl (pd_fld rfl (dv 0) rfl rfl) rfl rfl))) (vv 2)) (pd_one (dcmp (op_eqD hr.units) (holds_eq rfl) (pv_fld rfl (pd_fld rfl (dv 0) rfl rfl) rfl rfl) (PD.pv (pd_ixC rfl (vv 1) (PD.pv (pd_int))))))))
theorem sc_totals_by : FnScope N_totals_by ["_law_totals", "_law_row"] (defScope s_totals_by) := ⟨rfl, rfl, rfl, by decide +kernel, rfl, by decide +kernel, by decide +kernel⟩
theorem ok_totals_by {f : Addr} {fd : FuncData} (Fu : Fun K "_law_totals_by" "_law_totals_by" s_totals_by f fd) (z_list : mg "list" = none) : FnOk P w K mg base (L2.CX P w) 1 f fd ["_law_totals", "_law_row"] (spF (Gm K C0 C1 C3 C6 C7 C8 C9 C10 C12) 2 F_totals_by) := by
  have nd := sc_totals_by.nd
  unfold F_totals_by 
  refine def_ok Fu sc_totals_by rfl rfl fun cdv A outer s0 H X hr => ?_
  exact sts_cons (xset 2 nd (pd_newC (pf_list rfl rfl z_list (pc_dr (cv 0))))) <|
  sts_cons (st_if (bcmp op_lt holds_lt (PD.pv (dix rfl (vv 1) (PD.pv (pd_int)))) (PD.pv (pd_int))) (sts_one (st_augC rfl iop_add holds_int0 (dv 2) (dix rfl (vv 1) (PD.pv (pd_int))) (PD.pv (dix rfl (vv 1) (PD.pv (pd_int)))))) (sts_nil)) <|
  sts_cons (st_augC rfl iop_add holds_int0 (dv 2) (pd_int) (PD.pv (pd_ifExp (bcmp (op_eqD hr.units) (holds_eq rfl) (PD.pv (dix rfl (vv 1) (PD.pv (pd_int)))) (PD.pv (pd_int))) (dix rfl (vv 1) (PD.pv (pd_int))) (pd_int)))) <|
  sts_one (st_ret (dv 2))
theorem sc_law : FnScope N_law ["_law_script"] (defScope s_law) := ⟨rfl, rfl, rfl, by decide +kernel, rfl, by decide +kernel, by decide +kernel⟩
theorem ok_law {f : Addr} {fd : FuncData} (Fu : Fun K "law" "law" s_law f fd) (z_range : mg "range" = none) (z_sum : mg "sum" = none) (d_done : DefF (Gm K C0 C1 C3 C6 C7 C8 C9 C10 C12) P w mg base 6 "_law_done" 2 PX.F_kdone) (d_few : DefF (Gm K C0 C1 C3 C6 C7 C8 C9 C10 C12) P w mg base 2 "_law_few" 2 F_few) (d_mix : DefF (Gm K C0 C1 C3 C6 C7 C8 C9 C10 C12) P w mg base 1 "_law_mix" 3 PX.F_mix) (d_row_by : DefF (Gm K C0 C1 C3 C6 C7 C8 C9 C10 C12) P w mg base 3 "_law_row_by" 1 PX.F_krow_by) (d_shape_by : DefF (Gm K C0 C1 C3 C6 C7 C8 C9 C10 C12) P w mg base 1 "_law_shape_by" 1 PX.F_kshape_by) (d_totals_by : DefF (Gm K C0 C1 C3 C6 C7 C8 C9 C10 C12) P w mg base 1 "_law_totals_by" 2 F_totals_by) (d_poured : DefF (Gm K C0 C1 C3 C6 C7 C8 C9 C10 C12) P w mg base 6 "poured" 2 PX.F_poured) (y_Keepsake : CDef (Gm K C0 C1 C3 C6 C7 C8 C9 C10 C12) P w mg base 3 "Keepsake" 12 4 PX.F_Keepsake_init) : FnOk P w K mg base (L2.CX P w) 7 f fd ["_law_script"] (spF (Gm K C0 C1 C3 C6 C7 C8 C9 C10 C12) 1 F_law) := by
  have nd := sc_law.nd
  unfold F_law B_law_0 B_law_1
  refine def_ok Fu sc_law rfl rfl fun cdv A outer s0 H X hr => ?_
  exact sts_cons (xset 1 nd (dcall d_shape_by rfl (takes_of rfl rfl rfl rfl) (hr.mono (by decide)) (args_cons (pa_val (pd_sum rfl rfl rfl z_sum (PD.pc (PF.pd (pf_slc rfl (vv 0) (po_none') (po_some' (pd_int))))))) (args_nil)) (len_cons (len_nil)))) <|
  sts_cons (xset 2 nd (pd_add rfl (PD.pv (pd_int)) (PD.pv (pd_mod (PD.pv (pd_sum rfl rfl rfl z_sum (PD.pc (PF.pd (pf_slc rfl (vv 0) (po_some' (pd_neg (PD.pc (pd_int)))) (po_none')))))) (PD.pv (pd_int)))))) <|
  sts_cons (st_setLcF [("_law_k", 4)] rfl nd rfl rfl (sw_true rfl rfl rfl (by decide +kernel)) (it_range1 rfl z_range (dv 2)) (blkOk_by (N := N_law) (sc := defScope s_law) (by decide +kernel)) (by decide) (fun _ _ _ _ _ => tgn 4 nd) (fun _ _ _ _ _ => ts_nil) (fun _ _ _ _ _ => dmake y_Keepsake rfl takes0 (hr.mono (by decide)) (args_cons (pa_val (dix rfl (vv 1) (PD.pv (pd_int)))) (args_cons (pa_val (dix rfl (vv 1) (PD.pv (pd_int)))) (args_cons (pa_val (dix rfl (vv 1) (PD.pv (pd_int)))) (args_nil)))))) <|
  sts_cons (xsetF 5 nd (pf_lc [("_law_k", 4)] rfl nd (it_range1 rfl z_range (dv 2)) (blkOk_by (N := N_law) (sc := defScope s_law) (by decide +kernel)) (by decide) (fun _ _ _ _ _ => tgn 4 nd) (fun _ _ _ _ _ => ts_nil) (fun _ _ _ _ _ => pd_newC (pf_lst (pds_cons (pd_int) (pds_cons (pd_int) (pds_cons (pd_int) (pds_nil)))))))) <|
  sts_cons (xset 6 nd (pd_int)) <|
  sts_cons (xset 7 nd (pd_int)) <|
  sts_cons (st_for (passes_of rfl) rfl (it_list rfl (vv 0)) (tgn 8 nd) (sts_cons (xset 9 nd (pd_mod (PD.pv (dcall d_mix rfl (takes_of rfl rfl rfl rfl) (hr.mono (by decide)) (args_cons (lv 8) (args_cons (pa_val (pd_int)) (args_cons (pa_val (pd_int)) (args_nil)))) (len_cons (len_cons (len_cons (len_nil)))))) (vv 2))) <|
  sts_cons (xset 10 nd (pd_mod (PD.pv (dcall d_mix rfl (takes_of rfl rfl rfl rfl) (hr.mono (by decide)) (args_cons (lv 8) (args_cons (pa_val (pd_int)) (args_cons (pa_val (pd_int)) (args_nil)))) (len_cons (len_cons (len_cons (len_nil)))))) (vv 2))) <|
  sts_cons (st_if (PW.pb (pw_and' (bcmp (op_eqD hr.units) (holds_eq rfl) (PD.pv (pd_mod (vv 8) (PD.pv (pd_int)))) (PD.pv (pd_int))) (pw_and1' (bcmp op_lt holds_lt (vv 6) (PD.pv (pd_int)))))) (sts_cons (xaug 6 nd iop_add holds_int0 (PD.pv (pd_int))) <|
  sts_cons (xput 3 (dv 9) (pd_lend 3 (dcall d_poured rfl (takes_of rfl rfl rfl rfl) (hr.mono (by decide)) (args_cons (pa_val (dix rfl (vv 3) (vv 9))) (args_cons (pa_val (dix rfl (vv 3) (vv 10))) (args_nil))) (len_cons (len_cons (len_nil)))))) <|
  sts_one (xput 5 (dv 9) (pd_lend 5 (pd_newC (pf_lc [("_law_k", 4)] rfl nd (it_range1 rfl z_range (pd_int)) (blkOk_by (N := N_law) (sc := defScope s_law) (by decide +kernel)) (by decide) (fun _ _ _ _ _ => tgn 4 nd) (fun _ _ _ _ _ => ts_nil) (fun _ _ _ _ _ => pd_add rfl (PD.pv (pd_ixC rfl (PD.pv (dix rfl (vv 5) (vv 9))) (vv 4))) (PD.pv (pd_ixC rfl (PD.pv (dix rfl (vv 5) (vv 10))) (vv 4))))))))) (sts_cons (xset 11 nd (PF.pd (pf_lst (pds_cons (dcall d_row_by rfl (takes_of rfl rfl rfl rfl) (hr.mono (by decide)) (args_cons (pa_val (pd_div (vv 8) (PD.pv (pd_int)))) (args_nil)) (len_cons (len_nil))) (pds_nil))))) <|
  sts_cons (st_if (PW.pb (pw_and' (bcmp (op_eqD hr.units) (holds_eq rfl) (PD.pv (pd_mod (vv 8) (PD.pv (pd_int)))) (PD.pv (pd_int))) (pw_and' (bcmp (op_eqD hr.units) (holds_eq rfl) (PD.pv (pd_mod (PD.pv (pd_div (vv 8) (PD.pv (pd_int)))) (PD.pv (pd_int)))) (PD.pv (pd_int))) (pw_and1' (bcmp op_lt holds_lt (vv 7) (PD.pv (pd_int))))))) (sts_cons (xaug 7 nd iop_add holds_int0 (PD.pv (pd_int))) <|
  sts_one (st_setLc [("_law_j", 12)] rfl nd rfl rfl (sw_true rfl rfl rfl (by decide +kernel)) (it_range1 rfl z_range (pd_add rfl (PD.pv (pd_int)) (PD.pv (pd_mod (PD.pv (pd_div (vv 8) (PD.pv (pd_int)))) (PD.pv (pd_int)))))) (blkOk_by (N := N_law) (sc := defScope s_law) (by decide +kernel)) (by decide) (fun _ _ _ _ _ => tgn 12 nd) (fun _ _ _ _ _ => ts_nil) (fun _ _ _ _ _ => dcall d_row_by rfl takes0 (hr.mono (by decide)) (args_cons (pa_val (pd_mul (PD.pv (pd_int)) (PD.pv (dcall d_mix rfl takes0 (hr.mono (by decide)) (args_cons (pa_val (pd_add rfl (vv 8) (vv 12))) (args_cons (pa_val (pd_int)) (args_cons (pa_val (pd_int)) (args_nil)))) (len_cons (len_cons (len_cons (len_nil)))))))) (args_nil)) (len_cons (len_nil))))) (sts_nil)) <|
  sts_one (st_for (passes_of rfl) rfl (it_list rfl (vv 11)) (tgn 13 nd) (sts_cons (st_ex (pd_lend 3 (dcall d_done rfl (takes_of rfl rfl rfl rfl) (hr.mono (by decide)) (args_cons (pa_val (dix rfl (vv 3) (vv 9))) (args_cons (lv 13) (args_nil))) (len_cons (len_cons (len_nil)))))) <|
  sts_one (xput 5 (dv 9) (pd_lend 5 (dcall d_totals_by rfl (takes_of rfl rfl rfl rfl) (hr.mono (by decide)) (args_cons (pa_val (dix rfl (vv 5) (vv 9))) (args_cons (lv 13) (args_nil))) (len_cons (len_cons (len_nil)))))))))) <|
  sts_one (st_if (pb_lend 5 (pb_lend 3 (pb_not (bval (PD.pc (dcall d_few rfl (takes_of rfl rfl rfl rfl) (hr.mono (by decide)) (args_cons (pa_val (dix rfl (vv 3) (vv 9))) (args_cons (pa_val (dix rfl (vv 5) (vv 9))) (args_nil))) (len_cons (len_cons (len_nil))))))))) (sts_one (st_ret (pd_bl))) (sts_nil)))) <|
  sts_one (st_ret (pd_bl))
end
/-! ### the top -/
theorem all_mk {l : PySem.W.OpenLaw} {w : World} {K : PySem.W.Frag} {h : Heap} {mg : Str → Option Value} {fa : Addr} {f0 f1 f2 f3 f4 f5 f6 f7 f8 f9 f10 f11 f12 f13 f14 f15 f16 f17 f18 f19 f20 f21 f22 f23 f24 f25 f26 f27 f28 f29 f30 f31 f32 f33 f34 f35 f36 f37 f38 f39 f40 f41 f42 f43 f44 f45 f46 : Addr} {C0 C1 C3 C6 C7 C8 C9 C10 C12 : Addr} (X : K.In h) (G : h.Ns mainGlobals mg) (hfa : mg "law" = some (.ref fa))
    {od0 an0 od1 an1 od2 an2 od3 an3 od4 an4 od5 an5 od6 an6 od7 an7 od8 an8 od9 an9 od10 an10 od11 an11 od12 an12 od13 an13 od14 an14 od15 an15 od16 an16 od17 an17 od18 an18 od19 an19 od20 an20 od21 an21 od22 an22 od23 an23 od24 an24 od25 an25 od26 an26 od27 an27 od28 an28 od29 an29 od30 an30 od31 an31 od32 an32 od33 an33 od34 an34 od35 an35 od36 an36 od37 an37 od38 an38 od39 an39 od40 an40 od41 an41 od42 an42 od43 an43 od44 an44 od45 an45 od46 an46 : Option Addr} {sl0 sl1 sl2 sl3 sl4 sl5 sl6 sl7 sl8 sl9 sl10 sl11 sl12 sl13 sl14 sl15 sl16 sl17 sl18 sl19 sl20 sl21 sl22 sl23 sl24 sl25 sl26 sl27 sl28 sl29 sl30 sl31 sl32 sl33 sl34 sl35 sl36 sl37 sl38 sl39 sl40 sl41 sl42 sl43 sl44 sl45 sl46 : Array (Option Value)} {oc0 kV0 dc0 pm0 cd0 ct0 oc1 kV1 dc1 pm1 cd1 ct1 oc2 kV2 dc2 pm2 cd2 ct2 oc3 kV3 dc3 pm3 cd3 ct3 oc4 kV4 dc4 pm4 cd4 ct4 oc5 kV5 dc5 pm5 cd5 ct5 oc6 kV6 dc6 pm6 cd6 ct6 oc7 kV7 dc7 pm7 cd7 ct7 oc8 kV8 dc8 pm8 cd8 ct8 oc9 kV9 dc9 pm9 cd9 ct9 oc10 kV10 dc10 pm10 cd10 ct10 oc11 kV11 dc11 pm11 cd11 ct11 oc12 kV12 dc12 pm12 cd12 ct12 oc13 kV13 dc13 pm13 cd13 ct13 oc14 kV14 dc14 pm14 cd14 ct14 oc15 kV15 dc15 pm15 cd15 ct15 oc16 kV16 dc16 pm16 cd16 ct16 oc17 kV17 dc17 pm17 cd17 ct17 oc18 kV18 dc18 pm18 cd18 ct18 oc19 kV19 dc19 pm19 cd19 ct19 oc20 kV20 dc20 pm20 cd20 ct20 oc21 kV21 dc21 pm21 cd21 ct21 oc22 kV22 dc22 pm22 cd22 ct22 oc23 kV23 dc23 pm23 cd23 ct23 oc24 kV24 dc24 pm24 cd24 ct24 oc25 kV25 dc25 pm25 cd25 ct25 oc26 kV26 dc26 pm26 cd26 ct26 oc27 kV27 dc27 pm27 cd27 ct27 oc28 kV28 dc28 pm28 cd28 ct28 oc29 kV29 dc29 pm29 cd29 ct29 oc30 kV30 dc30 pm30 cd30 ct30 oc31 kV31 dc31 pm31 cd31 ct31 oc32 kV32 dc32 pm32 cd32 ct32 oc33 kV33 dc33 pm33 cd33 ct33 oc34 kV34 dc34 pm34 cd34 ct34 oc35 kV35 dc35 pm35 cd35 ct35 oc36 kV36 dc36 pm36 cd36 ct36 oc37 kV37 dc37 pm37 cd37 ct37 oc38 kV38 dc38 pm38 cd38 ct38 oc39 kV39 dc39 pm39 cd39 ct39 oc40 kV40 dc40 pm40 cd40 ct40 oc41 kV41 dc41 pm41 cd41 ct41 oc42 kV42 dc42 pm42 cd42 ct42 oc43 kV43 dc43 pm43 cd43 ct43 oc44 kV44 dc44 pm44 cd44 ct44 oc45 kV45 dc45 pm45 cd45 ct45 oc46 kV46 dc46 pm46 cd46 ct46 : Value}
    {k_MOST k_SPREAD : Tok}
    (aC0 : PySem.W.nsIn K mainGlobals "KeepError" = some (some (.ref C0)))
    (aC1 : PySem.W.nsIn K mainGlobals "Unlike" = some (some (.ref C1)))
    (aC3 : PySem.W.nsIn K mainGlobals "OutOfReach" = some (some (.ref C3)))
    (aC6 : PySem.W.nsIn K mainGlobals "Window" = some (some (.ref C6)))
    (aC7 : PySem.W.nsIn K mainGlobals "Balance" = some (some (.ref C7)))
    (aC8 : PySem.W.nsIn K mainGlobals "Frequent" = some (some (.ref C8)))
    (aC9 : PySem.W.nsIn K mainGlobals "Rungs" = some (some (.ref C9)))
    (aC10 : PySem.W.nsIn K mainGlobals "Distinct" = some (some (.ref C10)))
    (aC12 : PySem.W.nsIn K mainGlobals "Keepsake" = some (some (.ref C12)))
    (a0 : PySem.W.nsIn K mainGlobals "cut_of" = some (some (.ref f0))) (l0 : K.lookup f0 = some ⟨oc0, od0, .func (PySem.W.fnOf "cut_of" "cut_of" (defArgs s_cut_of) (defBody s_cut_of) (defScope s_cut_of) .none kV0 dc0 pm0 an0 cd0 ct0), sl0⟩) (c0 : PySem.W.codeIn K cd0 "cut_of" = true) (k0 : PySem.W.keepIn K (.ref f0) = true)
    (a1 : PySem.W.nsIn K mainGlobals "fallen" = some (some (.ref f1))) (l1 : K.lookup f1 = some ⟨oc1, od1, .func (PySem.W.fnOf "fallen" "fallen" (defArgs s_fallen) (defBody s_fallen) (defScope s_fallen) .none kV1 dc1 pm1 an1 cd1 ct1), sl1⟩) (c1 : PySem.W.codeIn K cd1 "fallen" = true) (k1 : PySem.W.keepIn K (.ref f1) = true)
    (a2 : PySem.W.findIn K (.ref C8) "__init__" = some (some (.ref f2))) (i2 : PySem.W.isFn K (.ref f2) = true) (l2 : K.lookup f2 = some ⟨oc2, od2, .func (PySem.W.fnOf "__init__" "Frequent.__init__" (defArgs s_Frequent_init) (defBody s_Frequent_init) (defScope s_Frequent_init) .none kV2 dc2 pm2 an2 cd2 ct2), sl2⟩) (c2 : PySem.W.codeIn K cd2 "Frequent.__init__" = true) (k2 : PySem.W.keepIn K (.ref f2) = true)
    (a3 : PySem.W.findIn K (.ref C8) "add" = some (some (.ref f3))) (i3 : PySem.W.isFn K (.ref f3) = true) (l3 : K.lookup f3 = some ⟨oc3, od3, .func (PySem.W.fnOf "add" "Frequent.add" (defArgs s_Frequent_add) (defBody s_Frequent_add) (defScope s_Frequent_add) .none kV3 dc3 pm3 an3 cd3 ct3), sl3⟩) (c3 : PySem.W.codeIn K cd3 "Frequent.add" = true) (k3 : PySem.W.keepIn K (.ref f3) = true)
    (a4 : PySem.W.nsIn K mainGlobals "poured_frequent" = some (some (.ref f4))) (l4 : K.lookup f4 = some ⟨oc4, od4, .func (PySem.W.fnOf "poured_frequent" "poured_frequent" (defArgs s_poured_frequent) (defBody s_poured_frequent) (defScope s_poured_frequent) .none kV4 dc4 pm4 an4 cd4 ct4), sl4⟩) (c4 : PySem.W.codeIn K cd4 "poured_frequent" = true) (k4 : PySem.W.keepIn K (.ref f4) = true)
    (a5 : PySem.W.nsIn K mainGlobals "settled_list" = some (some (.ref f5))) (l5 : K.lookup f5 = some ⟨oc5, od5, .func (PySem.W.fnOf "settled_list" "settled_list" (defArgs s_settled_list) (defBody s_settled_list) (defScope s_settled_list) .none kV5 dc5 pm5 an5 cd5 ct5), sl5⟩) (c5 : PySem.W.codeIn K cd5 "settled_list" = true) (k5 : PySem.W.keepIn K (.ref f5) = true)
    (a6 : PySem.W.nsIn K mainGlobals "settle_rungs" = some (some (.ref f6))) (l6 : K.lookup f6 = some ⟨oc6, od6, .func (PySem.W.fnOf "settle_rungs" "settle_rungs" (defArgs s_settle_rungs) (defBody s_settle_rungs) (defScope s_settle_rungs) .none kV6 dc6 pm6 an6 cd6 ct6), sl6⟩) (c6 : PySem.W.codeIn K cd6 "settle_rungs" = true) (k6 : PySem.W.keepIn K (.ref f6) = true)
    (a7 : PySem.W.findIn K (.ref C9) "__init__" = some (some (.ref f7))) (i7 : PySem.W.isFn K (.ref f7) = true) (l7 : K.lookup f7 = some ⟨oc7, od7, .func (PySem.W.fnOf "__init__" "Rungs.__init__" (defArgs s_Rungs_init) (defBody s_Rungs_init) (defScope s_Rungs_init) .none kV7 dc7 pm7 an7 cd7 ct7), sl7⟩) (c7 : PySem.W.codeIn K cd7 "Rungs.__init__" = true) (k7 : PySem.W.keepIn K (.ref f7) = true)
    (a8 : PySem.W.findIn K (.ref C9) "add" = some (some (.ref f8))) (i8 : PySem.W.isFn K (.ref f8) = true) (l8 : K.lookup f8 = some ⟨oc8, od8, .func (PySem.W.fnOf "add" "Rungs.add" (defArgs s_Rungs_add) (defBody s_Rungs_add) (defScope s_Rungs_add) .none kV8 dc8 pm8 an8 cd8 ct8), sl8⟩) (c8 : PySem.W.codeIn K cd8 "Rungs.add" = true) (k8 : PySem.W.keepIn K (.ref f8) = true)
    (a9 : PySem.W.nsIn K mainGlobals "lesser_of" = some (some (.ref f9))) (l9 : K.lookup f9 = some ⟨oc9, od9, .func (PySem.W.fnOf "lesser_of" "lesser_of" (defArgs s_lesser_of) (defBody s_lesser_of) (defScope s_lesser_of) .none kV9 dc9 pm9 an9 cd9 ct9), sl9⟩) (c9 : PySem.W.codeIn K cd9 "lesser_of" = true) (k9 : PySem.W.keepIn K (.ref f9) = true)
    (a10 : PySem.W.nsIn K mainGlobals "greater_of" = some (some (.ref f10))) (l10 : K.lookup f10 = some ⟨oc10, od10, .func (PySem.W.fnOf "greater_of" "greater_of" (defArgs s_greater_of) (defBody s_greater_of) (defScope s_greater_of) .none kV10 dc10 pm10 an10 cd10 ct10), sl10⟩) (c10 : PySem.W.codeIn K cd10 "greater_of" = true) (k10 : PySem.W.keepIn K (.ref f10) = true)
    (a11 : PySem.W.nsIn K mainGlobals "poured_rungs" = some (some (.ref f11))) (l11 : K.lookup f11 = some ⟨oc11, od11, .func (PySem.W.fnOf "poured_rungs" "poured_rungs" (defArgs s_poured_rungs) (defBody s_poured_rungs) (defScope s_poured_rungs) .none kV11 dc11 pm11 an11 cd11 ct11), sl11⟩) (c11 : PySem.W.codeIn K cd11 "poured_rungs" = true) (k11 : PySem.W.keepIn K (.ref f11) = true)
    (a12 : PySem.W.nsIn K mainGlobals "settled_boxes" = some (some (.ref f12))) (l12 : K.lookup f12 = some ⟨oc12, od12, .func (PySem.W.fnOf "settled_boxes" "settled_boxes" (defArgs s_settled_boxes) (defBody s_settled_boxes) (defScope s_settled_boxes) .none kV12 dc12 pm12 an12 cd12 ct12), sl12⟩) (c12 : PySem.W.codeIn K cd12 "settled_boxes" = true) (k12 : PySem.W.keepIn K (.ref f12) = true)
    (a13 : PySem.W.findIn K (.ref C6) "__init__" = some (some (.ref f13))) (i13 : PySem.W.isFn K (.ref f13) = true) (l13 : K.lookup f13 = some ⟨oc13, od13, .func (PySem.W.fnOf "__init__" "Window.__init__" (defArgs s_Window_init) (defBody s_Window_init) (defScope s_Window_init) .none kV13 dc13 pm13 an13 cd13 ct13), sl13⟩) (c13 : PySem.W.codeIn K cd13 "Window.__init__" = true) (k13 : PySem.W.keepIn K (.ref f13) = true)
    (a14 : PySem.W.findIn K (.ref C6) "add" = some (some (.ref f14))) (i14 : PySem.W.isFn K (.ref f14) = true) (l14 : K.lookup f14 = some ⟨oc14, od14, .func (PySem.W.fnOf "add" "Window.add" (defArgs s_Window_add) (defBody s_Window_add) (defScope s_Window_add) .none kV14 dc14 pm14 an14 cd14 ct14), sl14⟩) (c14 : PySem.W.codeIn K cd14 "Window.add" = true) (k14 : PySem.W.keepIn K (.ref f14) = true)
    (a15 : PySem.W.findIn K (.ref C6) "idle" = some (some (.ref f15))) (i15 : PySem.W.isFn K (.ref f15) = true) (l15 : K.lookup f15 = some ⟨oc15, od15, .func (PySem.W.fnOf "idle" "Window.idle" (defArgs s_Window_idle) (defBody s_Window_idle) (defScope s_Window_idle) .none kV15 dc15 pm15 an15 cd15 ct15), sl15⟩) (c15 : PySem.W.codeIn K cd15 "Window.idle" = true) (k15 : PySem.W.keepIn K (.ref f15) = true)
    (a16 : PySem.W.nsIn K mainGlobals "followed" = some (some (.ref f16))) (l16 : K.lookup f16 = some ⟨oc16, od16, .func (PySem.W.fnOf "followed" "followed" (defArgs s_followed) (defBody s_followed) (defScope s_followed) .none kV16 dc16 pm16 an16 cd16 ct16), sl16⟩) (c16 : PySem.W.codeIn K cd16 "followed" = true) (k16 : PySem.W.keepIn K (.ref f16) = true)
    (a17 : PySem.W.nsIn K mainGlobals "spread" = some (some (.ref f17))) (l17 : K.lookup f17 = some ⟨oc17, od17, .func (PySem.W.fnOf "spread" "spread" (defArgs s_spread) (defBody s_spread) (defScope s_spread) .none kV17 dc17 pm17 an17 cd17 ct17), sl17⟩) (c17 : PySem.W.codeIn K cd17 "spread" = true) (k17 : PySem.W.keepIn K (.ref f17) = true)
    (a18 : PySem.W.nsIn K mainGlobals "mark" = some (some (.ref f18))) (l18 : K.lookup f18 = some ⟨oc18, od18, .func (PySem.W.fnOf "mark" "mark" (defArgs s_mark) (defBody s_mark) (defScope s_mark) .none kV18 dc18 pm18 an18 cd18 ct18), sl18⟩) (c18 : PySem.W.codeIn K cd18 "mark" = true) (k18 : PySem.W.keepIn K (.ref f18) = true)
    (a19 : PySem.W.nsIn K mainGlobals "settled_level" = some (some (.ref f19))) (l19 : K.lookup f19 = some ⟨oc19, od19, .func (PySem.W.fnOf "settled_level" "settled_level" (defArgs s_settled_level) (defBody s_settled_level) (defScope s_settled_level) .none kV19 dc19 pm19 an19 cd19 ct19), sl19⟩) (c19 : PySem.W.codeIn K cd19 "settled_level" = true) (k19 : PySem.W.keepIn K (.ref f19) = true)
    (a20 : PySem.W.findIn K (.ref C10) "__init__" = some (some (.ref f20))) (i20 : PySem.W.isFn K (.ref f20) = true) (l20 : K.lookup f20 = some ⟨oc20, od20, .func (PySem.W.fnOf "__init__" "Distinct.__init__" (defArgs s_Distinct_init) (defBody s_Distinct_init) (defScope s_Distinct_init) .none kV20 dc20 pm20 an20 cd20 ct20), sl20⟩) (c20 : PySem.W.codeIn K cd20 "Distinct.__init__" = true) (k20 : PySem.W.keepIn K (.ref f20) = true)
    (a21 : PySem.W.findIn K (.ref C10) "add" = some (some (.ref f21))) (i21 : PySem.W.isFn K (.ref f21) = true) (l21 : K.lookup f21 = some ⟨oc21, od21, .func (PySem.W.fnOf "add" "Distinct.add" (defArgs s_Distinct_add) (defBody s_Distinct_add) (defScope s_Distinct_add) .none kV21 dc21 pm21 an21 cd21 ct21), sl21⟩) (c21 : PySem.W.codeIn K cd21 "Distinct.add" = true) (k21 : PySem.W.keepIn K (.ref f21) = true)
    (a22 : PySem.W.nsIn K mainGlobals "poured_distinct" = some (some (.ref f22))) (l22 : K.lookup f22 = some ⟨oc22, od22, .func (PySem.W.fnOf "poured_distinct" "poured_distinct" (defArgs s_poured_distinct) (defBody s_poured_distinct) (defScope s_poured_distinct) .none kV22 dc22 pm22 an22 cd22 ct22), sl22⟩) (c22 : PySem.W.codeIn K cd22 "poured_distinct" = true) (k22 : PySem.W.keepIn K (.ref f22) = true)
    (a23 : PySem.W.nsIn K mainGlobals "moved_sums" = some (some (.ref f23))) (l23 : K.lookup f23 = some ⟨oc23, od23, .func (PySem.W.fnOf "moved_sums" "moved_sums" (defArgs s_moved_sums) (defBody s_moved_sums) (defScope s_moved_sums) .none kV23 dc23 pm23 an23 cd23 ct23), sl23⟩) (c23 : PySem.W.codeIn K cd23 "moved_sums" = true) (k23 : PySem.W.keepIn K (.ref f23) = true)
    (a24 : PySem.W.findIn K (.ref C7) "__init__" = some (some (.ref f24))) (i24 : PySem.W.isFn K (.ref f24) = true) (l24 : K.lookup f24 = some ⟨oc24, od24, .func (PySem.W.fnOf "__init__" "Balance.__init__" (defArgs s_Balance_init) (defBody s_Balance_init) (defScope s_Balance_init) .none kV24 dc24 pm24 an24 cd24 ct24), sl24⟩) (c24 : PySem.W.codeIn K cd24 "Balance.__init__" = true) (k24 : PySem.W.keepIn K (.ref f24) = true)
    (a25 : PySem.W.findIn K (.ref C7) "put" = some (some (.ref f25))) (i25 : PySem.W.isFn K (.ref f25) = true) (l25 : K.lookup f25 = some ⟨oc25, od25, .func (PySem.W.fnOf "put" "Balance.put" (defArgs s_Balance_put) (defBody s_Balance_put) (defScope s_Balance_put) .none kV25 dc25 pm25 an25 cd25 ct25), sl25⟩) (c25 : PySem.W.codeIn K cd25 "Balance.put" = true) (k25 : PySem.W.keepIn K (.ref f25) = true)
    (a26 : PySem.W.findIn K (.ref C7) "take" = some (some (.ref f26))) (i26 : PySem.W.isFn K (.ref f26) = true) (l26 : K.lookup f26 = some ⟨oc26, od26, .func (PySem.W.fnOf "take" "Balance.take" (defArgs s_Balance_take) (defBody s_Balance_take) (defScope s_Balance_take) .none kV26 dc26 pm26 an26 cd26 ct26), sl26⟩) (c26 : PySem.W.codeIn K cd26 "Balance.take" = true) (k26 : PySem.W.keepIn K (.ref f26) = true)
    (a27 : PySem.W.nsIn K mainGlobals "poured_balance" = some (some (.ref f27))) (l27 : K.lookup f27 = some ⟨oc27, od27, .func (PySem.W.fnOf "poured_balance" "poured_balance" (defArgs s_poured_balance) (defBody s_poured_balance) (defScope s_poured_balance) .none kV27 dc27 pm27 an27 cd27 ct27), sl27⟩) (c27 : PySem.W.codeIn K cd27 "poured_balance" = true) (k27 : PySem.W.keepIn K (.ref f27) = true)
    (a28 : PySem.W.findIn K (.ref C12) "__init__" = some (some (.ref f28))) (i28 : PySem.W.isFn K (.ref f28) = true) (l28 : K.lookup f28 = some ⟨oc28, od28, .func (PySem.W.fnOf "__init__" "Keepsake.__init__" (defArgs s_Keepsake_init) (defBody s_Keepsake_init) (defScope s_Keepsake_init) .none kV28 dc28 pm28 an28 cd28 ct28), sl28⟩) (c28 : PySem.W.codeIn K cd28 "Keepsake.__init__" = true) (k28 : PySem.W.keepIn K (.ref f28) = true)
    (a29 : PySem.W.findIn K (.ref C12) "put" = some (some (.ref f29))) (i29 : PySem.W.isFn K (.ref f29) = true) (l29 : K.lookup f29 = some ⟨oc29, od29, .func (PySem.W.fnOf "put" "Keepsake.put" (defArgs s_Keepsake_put) (defBody s_Keepsake_put) (defScope s_Keepsake_put) .none kV29 dc29 pm29 an29 cd29 ct29), sl29⟩) (c29 : PySem.W.codeIn K cd29 "Keepsake.put" = true) (k29 : PySem.W.keepIn K (.ref f29) = true)
    (a30 : PySem.W.findIn K (.ref C12) "take" = some (some (.ref f30))) (i30 : PySem.W.isFn K (.ref f30) = true) (l30 : K.lookup f30 = some ⟨oc30, od30, .func (PySem.W.fnOf "take" "Keepsake.take" (defArgs s_Keepsake_take) (defBody s_Keepsake_take) (defScope s_Keepsake_take) .none kV30 dc30 pm30 an30 cd30 ct30), sl30⟩) (c30 : PySem.W.codeIn K cd30 "Keepsake.take" = true) (k30 : PySem.W.keepIn K (.ref f30) = true)
    (a31 : PySem.W.findIn K (.ref C12) "idle" = some (some (.ref f31))) (i31 : PySem.W.isFn K (.ref f31) = true) (l31 : K.lookup f31 = some ⟨oc31, od31, .func (PySem.W.fnOf "idle" "Keepsake.idle" (defArgs s_Keepsake_idle) (defBody s_Keepsake_idle) (defScope s_Keepsake_idle) .none kV31 dc31 pm31 an31 cd31 ct31), sl31⟩) (c31 : PySem.W.codeIn K cd31 "Keepsake.idle" = true) (k31 : PySem.W.keepIn K (.ref f31) = true)
    (a32 : PySem.W.nsIn K mainGlobals "empty_like" = some (some (.ref f32))) (l32 : K.lookup f32 = some ⟨oc32, od32, .func (PySem.W.fnOf "empty_like" "empty_like" (defArgs s_empty_like) (defBody s_empty_like) (defScope s_empty_like) .none kV32 dc32 pm32 an32 cd32 ct32), sl32⟩) (c32 : PySem.W.codeIn K cd32 "empty_like" = true) (k32 : PySem.W.keepIn K (.ref f32) = true)
    (a33 : PySem.W.nsIn K mainGlobals "poured" = some (some (.ref f33))) (l33 : K.lookup f33 = some ⟨oc33, od33, .func (PySem.W.fnOf "poured" "poured" (defArgs s_poured) (defBody s_poured) (defScope s_poured) .none kV33 dc33 pm33 an33 cd33 ct33), sl33⟩) (c33 : PySem.W.codeIn K cd33 "poured" = true) (k33 : PySem.W.keepIn K (.ref f33) = true)
    (a34 : PySem.W.nsIn K mainGlobals "_law_mix" = some (some (.ref f34))) (l34 : K.lookup f34 = some ⟨oc34, od34, .func (PySem.W.fnOf "_law_mix" "_law_mix" (defArgs s_mix) (defBody s_mix) (defScope s_mix) .none kV34 dc34 pm34 an34 cd34 ct34), sl34⟩) (c34 : PySem.W.codeIn K cd34 "_law_mix" = true) (k34 : PySem.W.keepIn K (.ref f34) = true)
    (a35 : PySem.W.nsIn K mainGlobals "_law_far_back" = some (some (.ref f35))) (l35 : K.lookup f35 = some ⟨oc35, od35, .func (PySem.W.fnOf "_law_far_back" "_law_far_back" (defArgs s_far_back) (defBody s_far_back) (defScope s_far_back) .none kV35 dc35 pm35 an35 cd35 ct35), sl35⟩) (c35 : PySem.W.codeIn K cd35 "_law_far_back" = true) (k35 : PySem.W.keepIn K (.ref f35) = true)
    (a36 : PySem.W.nsIn K mainGlobals "_law_thing_by" = some (some (.ref f36))) (l36 : K.lookup f36 = some ⟨oc36, od36, .func (PySem.W.fnOf "_law_thing_by" "_law_thing_by" (defArgs s_thing_by) (defBody s_thing_by) (defScope s_thing_by) .none kV36 dc36 pm36 an36 cd36 ct36), sl36⟩) (c36 : PySem.W.codeIn K cd36 "_law_thing_by" = true) (k36 : PySem.W.keepIn K (.ref f36) = true)
    (a37 : PySem.W.nsIn K mainGlobals "_law_weight_by" = some (some (.ref f37))) (l37 : K.lookup f37 = some ⟨oc37, od37, .func (PySem.W.fnOf "_law_weight_by" "_law_weight_by" (defArgs s_weight_by) (defBody s_weight_by) (defScope s_weight_by) .none kV37 dc37 pm37 an37 cd37 ct37), sl37⟩) (c37 : PySem.W.codeIn K cd37 "_law_weight_by" = true) (k37 : PySem.W.keepIn K (.ref f37) = true)
    (a38 : PySem.W.nsIn K mainGlobals "_law_row_by" = some (some (.ref f38))) (l38 : K.lookup f38 = some ⟨oc38, od38, .func (PySem.W.fnOf "_law_row_by" "_law_row_by" (defArgs s_row_by) (defBody s_row_by) (defScope s_row_by) .none kV38 dc38 pm38 an38 cd38 ct38), sl38⟩) (c38 : PySem.W.codeIn K cd38 "_law_row_by" = true) (k38 : PySem.W.keepIn K (.ref f38) = true)
    (a39 : PySem.W.nsIn K mainGlobals "_law_done" = some (some (.ref f39))) (l39 : K.lookup f39 = some ⟨oc39, od39, .func (PySem.W.fnOf "_law_done" "_law_done" (defArgs s_done) (defBody s_done) (defScope s_done) .none kV39 dc39 pm39 an39 cd39 ct39), sl39⟩) (c39 : PySem.W.codeIn K cd39 "_law_done" = true) (k39 : PySem.W.keepIn K (.ref f39) = true)
    (a40 : PySem.W.nsIn K mainGlobals "_law_shape_by" = some (some (.ref f40))) (l40 : K.lookup f40 = some ⟨oc40, od40, .func (PySem.W.fnOf "_law_shape_by" "_law_shape_by" (defArgs s_shape_by) (defBody s_shape_by) (defScope s_shape_by) .none kV40 dc40 pm40 an40 cd40 ct40), sl40⟩) (c40 : PySem.W.codeIn K cd40 "_law_shape_by" = true) (k40 : PySem.W.keepIn K (.ref f40) = true)
    (a41 : PySem.W.nsIn K mainGlobals "_law_counts_few" = some (some (.ref f41))) (l41 : K.lookup f41 = some ⟨oc41, od41, .func (PySem.W.fnOf "_law_counts_few" "_law_counts_few" (defArgs s_counts_few) (defBody s_counts_few) (defScope s_counts_few) .none kV41 dc41 pm41 an41 cd41 ct41), sl41⟩) (c41 : PySem.W.codeIn K cd41 "_law_counts_few" = true) (k41 : PySem.W.keepIn K (.ref f41) = true)
    (a42 : PySem.W.nsIn K mainGlobals "_law_rungs_few" = some (some (.ref f42))) (l42 : K.lookup f42 = some ⟨oc42, od42, .func (PySem.W.fnOf "_law_rungs_few" "_law_rungs_few" (defArgs s_rungs_few) (defBody s_rungs_few) (defScope s_rungs_few) .none kV42 dc42 pm42 an42 cd42 ct42), sl42⟩) (c42 : PySem.W.codeIn K cd42 "_law_rungs_few" = true) (k42 : PySem.W.keepIn K (.ref f42) = true)
    (a43 : PySem.W.nsIn K mainGlobals "_law_boxes_few" = some (some (.ref f43))) (l43 : K.lookup f43 = some ⟨oc43, od43, .func (PySem.W.fnOf "_law_boxes_few" "_law_boxes_few" (defArgs s_boxes_few) (defBody s_boxes_few) (defScope s_boxes_few) .none kV43 dc43 pm43 an43 cd43 ct43), sl43⟩) (c43 : PySem.W.codeIn K cd43 "_law_boxes_few" = true) (k43 : PySem.W.keepIn K (.ref f43) = true)
    (a44 : PySem.W.nsIn K mainGlobals "_law_few" = some (some (.ref f44))) (l44 : K.lookup f44 = some ⟨oc44, od44, .func (PySem.W.fnOf "_law_few" "_law_few" (defArgs s_few) (defBody s_few) (defScope s_few) .none kV44 dc44 pm44 an44 cd44 ct44), sl44⟩) (c44 : PySem.W.codeIn K cd44 "_law_few" = true) (k44 : PySem.W.keepIn K (.ref f44) = true)
    (a45 : PySem.W.nsIn K mainGlobals "_law_totals_by" = some (some (.ref f45))) (l45 : K.lookup f45 = some ⟨oc45, od45, .func (PySem.W.fnOf "_law_totals_by" "_law_totals_by" (defArgs s_totals_by) (defBody s_totals_by) (defScope s_totals_by) .none kV45 dc45 pm45 an45 cd45 ct45), sl45⟩) (c45 : PySem.W.codeIn K cd45 "_law_totals_by" = true) (k45 : PySem.W.keepIn K (.ref f45) = true)
    (a46 : PySem.W.nsIn K mainGlobals "law" = some (some (.ref f46))) (l46 : K.lookup f46 = some ⟨oc46, od46, .func (PySem.W.fnOf "law" "law" (defArgs s_law) (defBody s_law) (defScope s_law) .none kV46 dc46 pm46 an46 cd46 ct46), sl46⟩) (c46 : PySem.W.codeIn K cd46 "law" = true) (k46 : PySem.W.keepIn K (.ref f46) = true)
    (pg8 : PySem.W.plainGet K C8 Str.empty = true) (hd8 : PySem.W.hasDictIn K C8 = true) (po8 : PySem.W.plainOver K C8 = true) (sa8 : PySem.W.findIn K (.ref C8) "__setattr__" = some (some (.builtin "object.__setattr__"))) (mk8 : PySem.W.makesIn K C8 = true) (kc8 : PySem.W.keepIn K (.ref C8) = true)
    (pg9 : PySem.W.plainGet K C9 Str.empty = true) (hd9 : PySem.W.hasDictIn K C9 = true) (po9 : PySem.W.plainOver K C9 = true) (sa9 : PySem.W.findIn K (.ref C9) "__setattr__" = some (some (.builtin "object.__setattr__"))) (mk9 : PySem.W.makesIn K C9 = true) (kc9 : PySem.W.keepIn K (.ref C9) = true)
    (pg6 : PySem.W.plainGet K C6 Str.empty = true) (hd6 : PySem.W.hasDictIn K C6 = true) (po6 : PySem.W.plainOver K C6 = true) (sa6 : PySem.W.findIn K (.ref C6) "__setattr__" = some (some (.builtin "object.__setattr__"))) (mk6 : PySem.W.makesIn K C6 = true) (kc6 : PySem.W.keepIn K (.ref C6) = true)
    (pg10 : PySem.W.plainGet K C10 Str.empty = true) (hd10 : PySem.W.hasDictIn K C10 = true) (po10 : PySem.W.plainOver K C10 = true) (sa10 : PySem.W.findIn K (.ref C10) "__setattr__" = some (some (.builtin "object.__setattr__"))) (mk10 : PySem.W.makesIn K C10 = true) (kc10 : PySem.W.keepIn K (.ref C10) = true)
    (pg7 : PySem.W.plainGet K C7 Str.empty = true) (hd7 : PySem.W.hasDictIn K C7 = true) (po7 : PySem.W.plainOver K C7 = true) (sa7 : PySem.W.findIn K (.ref C7) "__setattr__" = some (some (.builtin "object.__setattr__"))) (mk7 : PySem.W.makesIn K C7 = true) (kc7 : PySem.W.keepIn K (.ref C7) = true)
    (pg12 : PySem.W.plainGet K C12 Str.empty = true) (hd12 : PySem.W.hasDictIn K C12 = true) (po12 : PySem.W.plainOver K C12 = true) (sa12 : PySem.W.findIn K (.ref C12) "__setattr__" = some (some (.builtin "object.__setattr__"))) (mk12 : PySem.W.makesIn K C12 = true) (kc12 : PySem.W.keepIn K (.ref C12) = true)
    (n_arrivals_10 : PySem.W.findIn K (.ref C10) "arrivals" = some none)
    (n_balance_12 : PySem.W.findIn K (.ref C12) "balance" = some none)
    (n_boxes_6 : PySem.W.findIn K (.ref C6) "boxes" = some none)
    (n_came_12 : PySem.W.findIn K (.ref C12) "came" = some none)
    (n_clock_6 : PySem.W.findIn K (.ref C6) "clock" = some none)
    (n_counts_8 : PySem.W.findIn K (.ref C8) "counts" = some none)
    (n_down_12 : PySem.W.findIn K (.ref C12) "down" = some none)
    (n_kept_10 : PySem.W.findIn K (.ref C10) "kept" = some none)
    (n_least_9 : PySem.W.findIn K (.ref C9) "least" = some none)
    (n_level_10 : PySem.W.findIn K (.ref C10) "level" = some none)
    (n_lost_8 : PySem.W.findIn K (.ref C8) "lost" = some none)
    (n_most_9 : PySem.W.findIn K (.ref C9) "most" = some none)
    (n_over_9 : PySem.W.findIn K (.ref C9) "over" = some none)
    (n_reach_6 : PySem.W.findIn K (.ref C6) "reach" = some none)
    (n_reach_12 : PySem.W.findIn K (.ref C12) "reach" = some none)
    (n_room_6 : PySem.W.findIn K (.ref C6) "room" = some none)
    (n_room_8 : PySem.W.findIn K (.ref C8) "room" = some none)
    (n_room_9 : PySem.W.findIn K (.ref C9) "room" = some none)
    (n_room_10 : PySem.W.findIn K (.ref C10) "room" = some none)
    (n_room_12 : PySem.W.findIn K (.ref C12) "room" = some none)
    (n_rungs_9 : PySem.W.findIn K (.ref C9) "rungs" = some none)
    (n_seen_12 : PySem.W.findIn K (.ref C12) "seen" = some none)
    (n_span_7 : PySem.W.findIn K (.ref C7) "span" = some none)
    (n_span_12 : PySem.W.findIn K (.ref C12) "span" = some none)
    (n_sums_7 : PySem.W.findIn K (.ref C7) "sums" = some none)
    (n_total_8 : PySem.W.findIn K (.ref C8) "total" = some none)
    (n_total_9 : PySem.W.findIn K (.ref C9) "total" = some none)
    (n_turns_9 : PySem.W.findIn K (.ref C9) "turns" = some none)
    (n_under_9 : PySem.W.findIn K (.ref C9) "under" = some none)
    (n_up_12 : PySem.W.findIn K (.ref C12) "up" = some none)
    (n_went_12 : PySem.W.findIn K (.ref C12) "went" = some none)
    (n_window_12 : PySem.W.findIn K (.ref C12) "window" = some none)
    (ke1 : PySem.W.keepIn K (.ref C1) = true)
    (be1 : PySem.W.subIn K (.ref C1) (.type "BaseException") = some true)
    (te1 : PySem.W.typeIn K (.ref C1) = some (.type "type"))
    (xe1 : PySem.W.excIn K C1 [.type "ValueError", .type "Exception", .type "BaseException", .type "object"] "ValueError.__new__" = true)
    (g_MOST : PySem.W.nsIn K mainGlobals "MOST" = some (some (.int 1152921504606846976 k_MOST)))
    (g_SPREAD : PySem.W.nsIn K mainGlobals "SPREAD" = some (some (.int 770093176312745717 k_SPREAD)))
    (z_dict : PySem.W.nsIn K mainGlobals "dict" = some none)
    (z_enumerate : PySem.W.nsIn K mainGlobals "enumerate" = some none)
    (z_len : PySem.W.nsIn K mainGlobals "len" = some none)
    (z_list : PySem.W.nsIn K mainGlobals "list" = some none)
    (z_max : PySem.W.nsIn K mainGlobals "max" = some none)
    (z_range : PySem.W.nsIn K mainGlobals "range" = some none)
    (z_reversed : PySem.W.nsIn K mainGlobals "reversed" = some none)
    (z_set : PySem.W.nsIn K mainGlobals "set" = some none)
    (z_sorted : PySem.W.nsIn K mainGlobals "sorted" = some none)
    (z_sum : PySem.W.nsIn K mainGlobals "sum" = some none)
    (T : ∀ ns : List Int, (ns.length ≤ 63 ∧ ∀ z ∈ ns, Builtin.Int.intBits z ≤ 1048576) → ∃ h', F_law [.val (.lst (ns.map D.int))] [] = .ret (.val (.bl true)) h') :
    ∃ fd : FuncData, (∀ (s : Shared) (v : Value), BindsTo s fd ⟨[v], []⟩ [("_law_script", v)]) ∧ ∀ base : Heap, K.In base → base.Ns mainGlobals mg → FnOk l.prog w K mg base (L2.CX l.prog w) 7 fa fd ["_law_script"] (spL K) := by
  have e := hfa.symm.trans (PySem.W.mg_of X G a46)
  cases e
  have F0 := fun_mk (st := s_cut_of) l0 c0 k0
  have b0 := F0.binds (ps := ["counts", "room"]) fun _ _ _ _ _ _ us hl => match us, hl with | [_, _], _ => rfl
  have F1 := fun_mk (st := s_fallen) l1 c1 k1
  have b1 := F1.binds (ps := ["counts", "cut"]) fun _ _ _ _ _ _ us hl => match us, hl with | [_, _], _ => rfl
  have F2 := fun_mk (st := s_Frequent_init) l2 c2 k2
  have b2 := F2.binds (ps := ["self", "room"]) fun _ _ _ _ _ _ us hl => match us, hl with | [_, _], _ => rfl
  have F3 := fun_mk (st := s_Frequent_add) l3 c3 k3
  have b3 := F3.binds (ps := ["self", "thing", "weight"]) fun _ _ _ _ _ _ us hl => match us, hl with | [_, _, _], _ => rfl
  have F4 := fun_mk (st := s_poured_frequent) l4 c4 k4
  have b4 := F4.binds (ps := ["one", "other"]) fun _ _ _ _ _ _ us hl => match us, hl with | [_, _], _ => rfl
  have F5 := fun_mk (st := s_settled_list) l5 c5 k5
  have b5 := F5.binds (ps := ["things", "greater"]) fun _ _ _ _ _ _ us hl => match us, hl with | [_, _], _ => rfl
  have F6 := fun_mk (st := s_settle_rungs) l6 c6 k6
  have b6 := F6.binds (ps := ["kept"]) fun _ _ _ _ _ _ us hl => match us, hl with | [_], _ => rfl
  have F7 := fun_mk (st := s_Rungs_init) l7 c7 k7
  have b7 := F7.binds (ps := ["self", "room"]) fun _ _ _ _ _ _ us hl => match us, hl with | [_, _], _ => rfl
  have F8 := fun_mk (st := s_Rungs_add) l8 c8 k8
  have b8 := F8.binds (ps := ["self", "thing", "weight"]) fun _ _ _ _ _ _ us hl => match us, hl with | [_, _, _], _ => rfl
  have F9 := fun_mk (st := s_lesser_of) l9 c9 k9
  have b9 := F9.binds (ps := ["one", "other"]) fun _ _ _ _ _ _ us hl => match us, hl with | [_, _], _ => rfl
  have F10 := fun_mk (st := s_greater_of) l10 c10 k10
  have b10 := F10.binds (ps := ["one", "other"]) fun _ _ _ _ _ _ us hl => match us, hl with | [_, _], _ => rfl
  have F11 := fun_mk (st := s_poured_rungs) l11 c11 k11
  have b11 := F11.binds (ps := ["one", "other"]) fun _ _ _ _ _ _ us hl => match us, hl with | [_, _], _ => rfl
  have F12 := fun_mk (st := s_settled_boxes) l12 c12 k12
  have b12 := F12.binds (ps := ["boxes", "room", "edge"]) fun _ _ _ _ _ _ us hl => match us, hl with | [_, _, _], _ => rfl
  have F13 := fun_mk (st := s_Window_init) l13 c13 k13
  have b13 := F13.binds (ps := ["self", "room", "reach"]) fun _ _ _ _ _ _ us hl => match us, hl with | [_, _, _], _ => rfl
  have F14 := fun_mk (st := s_Window_add) l14 c14 k14
  have b14 := F14.binds (ps := ["self", "weight"]) fun _ _ _ _ _ _ us hl => match us, hl with | [_, _], _ => rfl
  have F15 := fun_mk (st := s_Window_idle) l15 c15 k15
  have b15 := F15.binds (ps := ["self", "many"]) fun _ _ _ _ _ _ us hl => match us, hl with | [_, _], _ => rfl
  have F16 := fun_mk (st := s_followed) l16 c16 k16
  have b16 := F16.binds (ps := ["one", "other"]) fun _ _ _ _ _ _ us hl => match us, hl with | [_, _], _ => rfl
  have F17 := fun_mk (st := s_spread) l17 c17 k17
  have b17 := F17.binds (ps := ["thing"]) fun _ _ _ _ _ _ us hl => match us, hl with | [_], _ => rfl
  have F18 := fun_mk (st := s_mark) l18 c18 k18
  have b18 := F18.binds (ps := ["thing"]) fun _ _ _ _ _ _ us hl => match us, hl with | [_], _ => rfl
  have F19 := fun_mk (st := s_settled_level) l19 c19 k19
  have b19 := F19.binds (ps := ["kept", "level", "room"]) fun _ _ _ _ _ _ us hl => match us, hl with | [_, _, _], _ => rfl
  have F20 := fun_mk (st := s_Distinct_init) l20 c20 k20
  have b20 := F20.binds (ps := ["self", "room"]) fun _ _ _ _ _ _ us hl => match us, hl with | [_, _], _ => rfl
  have F21 := fun_mk (st := s_Distinct_add) l21 c21 k21
  have b21 := F21.binds (ps := ["self", "thing"]) fun _ _ _ _ _ _ us hl => match us, hl with | [_, _], _ => rfl
  have F22 := fun_mk (st := s_poured_distinct) l22 c22 k22
  have b22 := F22.binds (ps := ["one", "other"]) fun _ _ _ _ _ _ us hl => match us, hl with | [_, _], _ => rfl
  have F23 := fun_mk (st := s_moved_sums) l23 c23 k23
  have b23 := F23.binds (ps := ["sums", "thing", "weight"]) fun _ _ _ _ _ _ us hl => match us, hl with | [_, _, _], _ => rfl
  have F24 := fun_mk (st := s_Balance_init) l24 c24 k24
  have b24 := F24.binds (ps := ["self", "span"]) fun _ _ _ _ _ _ us hl => match us, hl with | [_, _], _ => rfl
  have F25 := fun_mk (st := s_Balance_put) l25 c25 k25
  have b25 := F25.binds (ps := ["self", "thing", "weight"]) fun _ _ _ _ _ _ us hl => match us, hl with | [_, _, _], _ => rfl
  have F26 := fun_mk (st := s_Balance_take) l26 c26 k26
  have b26 := F26.binds (ps := ["self", "thing", "weight"]) fun _ _ _ _ _ _ us hl => match us, hl with | [_, _, _], _ => rfl
  have F27 := fun_mk (st := s_poured_balance) l27 c27 k27
  have b27 := F27.binds (ps := ["one", "other"]) fun _ _ _ _ _ _ us hl => match us, hl with | [_, _], _ => rfl
  have F28 := fun_mk (st := s_Keepsake_init) l28 c28 k28
  have b28 := F28.binds (ps := ["self", "room", "reach", "span"]) fun _ _ _ _ _ _ us hl => match us, hl with | [_, _, _, _], _ => rfl
  have F29 := fun_mk (st := s_Keepsake_put) l29 c29 k29
  have b29 := F29.binds (ps := ["self", "thing", "weight"]) fun _ _ _ _ _ _ us hl => match us, hl with | [_, _, _], _ => rfl
  have F30 := fun_mk (st := s_Keepsake_take) l30 c30 k30
  have b30 := F30.binds (ps := ["self", "thing", "weight"]) fun _ _ _ _ _ _ us hl => match us, hl with | [_, _, _], _ => rfl
  have F31 := fun_mk (st := s_Keepsake_idle) l31 c31 k31
  have b31 := F31.binds (ps := ["self", "many"]) fun _ _ _ _ _ _ us hl => match us, hl with | [_, _], _ => rfl
  have F32 := fun_mk (st := s_empty_like) l32 c32 k32
  have b32 := F32.binds (ps := ["keepsake"]) fun _ _ _ _ _ _ us hl => match us, hl with | [_], _ => rfl
  have F33 := fun_mk (st := s_poured) l33 c33 k33
  have b33 := F33.binds (ps := ["one", "other"]) fun _ _ _ _ _ _ us hl => match us, hl with | [_, _], _ => rfl
  have F34 := fun_mk (st := s_mix) l34 c34 k34
  have b34 := F34.binds (ps := ["_law_cell", "_law_factor", "_law_prime"]) fun _ _ _ _ _ _ us hl => match us, hl with | [_, _, _], _ => rfl
  have F35 := fun_mk (st := s_far_back) l35 c35 k35
  have b35 := F35.binds (ps := []) fun _ _ _ _ _ _ us hl => match us, hl with | [], _ => rfl
  have F36 := fun_mk (st := s_thing_by) l36 c36 k36
  have b36 := F36.binds (ps := ["_law_cell"]) fun _ _ _ _ _ _ us hl => match us, hl with | [_], _ => rfl
  have F37 := fun_mk (st := s_weight_by) l37 c37 k37
  have b37 := F37.binds (ps := ["_law_cell"]) fun _ _ _ _ _ _ us hl => match us, hl with | [_], _ => rfl
  have F38 := fun_mk (st := s_row_by) l38 c38 k38
  have b38 := F38.binds (ps := ["_law_cell"]) fun _ _ _ _ _ _ us hl => match us, hl with | [_], _ => rfl
  have F39 := fun_mk (st := s_done) l39 c39 k39
  have b39 := F39.binds (ps := ["_law_keepsake", "_law_row"]) fun _ _ _ _ _ _ us hl => match us, hl with | [_, _], _ => rfl
  have F40 := fun_mk (st := s_shape_by) l40 c40 k40
  have b40 := F40.binds (ps := ["_law_cell"]) fun _ _ _ _ _ _ us hl => match us, hl with | [_], _ => rfl
  have F41 := fun_mk (st := s_counts_few) l41 c41 k41
  have b41 := F41.binds (ps := ["_law_frequent", "_law_room", "_law_total"]) fun _ _ _ _ _ _ us hl => match us, hl with | [_, _, _], _ => rfl
  have F42 := fun_mk (st := s_rungs_few) l42 c42 k42
  have b42 := F42.binds (ps := ["_law_rungs", "_law_room", "_law_total"]) fun _ _ _ _ _ _ us hl => match us, hl with | [_, _, _], _ => rfl
  have F43 := fun_mk (st := s_boxes_few) l43 c43 k43
  have b43 := F43.binds (ps := ["_law_boxes", "_law_room"]) fun _ _ _ _ _ _ us hl => match us, hl with | [_, _], _ => rfl
  have F44 := fun_mk (st := s_few) l44 c44 k44
  have b44 := F44.binds (ps := ["_law_keepsake", "_law_totals"]) fun _ _ _ _ _ _ us hl => match us, hl with | [_, _], _ => rfl
  have F45 := fun_mk (st := s_totals_by) l45 c45 k45
  have b45 := F45.binds (ps := ["_law_totals", "_law_row"]) fun _ _ _ _ _ _ us hl => match us, hl with | [_, _], _ => rfl
  have F46 := fun_mk (st := s_law) l46 c46 k46
  have cl8 : Cls K C8 := ⟨pg8, hd8, po8, sa8⟩
  have cl9 : Cls K C9 := ⟨pg9, hd9, po9, sa9⟩
  have cl6 : Cls K C6 := ⟨pg6, hd6, po6, sa6⟩
  have cl10 : Cls K C10 := ⟨pg10, hd10, po10, sa10⟩
  have cl7 : Cls K C7 := ⟨pg7, hd7, po7, sa7⟩
  have cl12 : Cls K C12 := ⟨pg12, hd12, po12, sa12⟩
  have fo_arrivals : FldOk (Gm K C0 C1 C3 C6 C7 C8 C9 C10 C12) "arrivals" [10] := by
    intro c hc C e
    simp only [List.mem_cons, List.not_mem_nil, or_false] at hc
    subst hc; cases e; exact n_arrivals_10
  have fo_balance : FldOk (Gm K C0 C1 C3 C6 C7 C8 C9 C10 C12) "balance" [12] := by
    intro c hc C e
    simp only [List.mem_cons, List.not_mem_nil, or_false] at hc
    subst hc; cases e; exact n_balance_12
  have fo_boxes : FldOk (Gm K C0 C1 C3 C6 C7 C8 C9 C10 C12) "boxes" [6] := by
    intro c hc C e
    simp only [List.mem_cons, List.not_mem_nil, or_false] at hc
    subst hc; cases e; exact n_boxes_6
  have fo_came : FldOk (Gm K C0 C1 C3 C6 C7 C8 C9 C10 C12) "came" [12] := by
    intro c hc C e
    simp only [List.mem_cons, List.not_mem_nil, or_false] at hc
    subst hc; cases e; exact n_came_12
  have fo_clock : FldOk (Gm K C0 C1 C3 C6 C7 C8 C9 C10 C12) "clock" [6, 11] := by
    intro c hc C e
    simp only [List.mem_cons, List.not_mem_nil, or_false] at hc
    rcases hc with rfl | rfl
    · cases e; exact n_clock_6
    · cases e
  have fo_counts : FldOk (Gm K C0 C1 C3 C6 C7 C8 C9 C10 C12) "counts" [8] := by
    intro c hc C e
    simp only [List.mem_cons, List.not_mem_nil, or_false] at hc
    subst hc; cases e; exact n_counts_8
  have fo_down : FldOk (Gm K C0 C1 C3 C6 C7 C8 C9 C10 C12) "down" [12] := by
    intro c hc C e
    simp only [List.mem_cons, List.not_mem_nil, or_false] at hc
    subst hc; cases e; exact n_down_12
  have fo_kept : FldOk (Gm K C0 C1 C3 C6 C7 C8 C9 C10 C12) "kept" [10] := by
    intro c hc C e
    simp only [List.mem_cons, List.not_mem_nil, or_false] at hc
    subst hc; cases e; exact n_kept_10
  have fo_least : FldOk (Gm K C0 C1 C3 C6 C7 C8 C9 C10 C12) "least" [9] := by
    intro c hc C e
    simp only [List.mem_cons, List.not_mem_nil, or_false] at hc
    subst hc; cases e; exact n_least_9
  have fo_level : FldOk (Gm K C0 C1 C3 C6 C7 C8 C9 C10 C12) "level" [10] := by
    intro c hc C e
    simp only [List.mem_cons, List.not_mem_nil, or_false] at hc
    subst hc; cases e; exact n_level_10
  have fo_lost : FldOk (Gm K C0 C1 C3 C6 C7 C8 C9 C10 C12) "lost" [8] := by
    intro c hc C e
    simp only [List.mem_cons, List.not_mem_nil, or_false] at hc
    subst hc; cases e; exact n_lost_8
  have fo_most : FldOk (Gm K C0 C1 C3 C6 C7 C8 C9 C10 C12) "most" [9] := by
    intro c hc C e
    simp only [List.mem_cons, List.not_mem_nil, or_false] at hc
    subst hc; cases e; exact n_most_9
  have fo_over : FldOk (Gm K C0 C1 C3 C6 C7 C8 C9 C10 C12) "over" [9] := by
    intro c hc C e
    simp only [List.mem_cons, List.not_mem_nil, or_false] at hc
    subst hc; cases e; exact n_over_9
  have fo_reach : FldOk (Gm K C0 C1 C3 C6 C7 C8 C9 C10 C12) "reach" [6, 12, 13] := by
    intro c hc C e
    simp only [List.mem_cons, List.not_mem_nil, or_false] at hc
    rcases hc with rfl | rfl | rfl
    · cases e; exact n_reach_6
    · cases e; exact n_reach_12
    · cases e
  have fo_room : FldOk (Gm K C0 C1 C3 C6 C7 C8 C9 C10 C12) "room" [6, 8, 9, 10, 12, 13] := by
    intro c hc C e
    simp only [List.mem_cons, List.not_mem_nil, or_false] at hc
    rcases hc with rfl | rfl | rfl | rfl | rfl | rfl
    · cases e; exact n_room_6
    · cases e; exact n_room_8
    · cases e; exact n_room_9
    · cases e; exact n_room_10
    · cases e; exact n_room_12
    · cases e
  have fo_rungs : FldOk (Gm K C0 C1 C3 C6 C7 C8 C9 C10 C12) "rungs" [9] := by
    intro c hc C e
    simp only [List.mem_cons, List.not_mem_nil, or_false] at hc
    subst hc; cases e; exact n_rungs_9
  have fo_seen : FldOk (Gm K C0 C1 C3 C6 C7 C8 C9 C10 C12) "seen" [12] := by
    intro c hc C e
    simp only [List.mem_cons, List.not_mem_nil, or_false] at hc
    subst hc; cases e; exact n_seen_12
  have fo_span : FldOk (Gm K C0 C1 C3 C6 C7 C8 C9 C10 C12) "span" [7, 12, 13] := by
    intro c hc C e
    simp only [List.mem_cons, List.not_mem_nil, or_false] at hc
    rcases hc with rfl | rfl | rfl
    · cases e; exact n_span_7
    · cases e; exact n_span_12
    · cases e
  have fo_sums : FldOk (Gm K C0 C1 C3 C6 C7 C8 C9 C10 C12) "sums" [7] := by
    intro c hc C e
    simp only [List.mem_cons, List.not_mem_nil, or_false] at hc
    subst hc; cases e; exact n_sums_7
  have fo_total : FldOk (Gm K C0 C1 C3 C6 C7 C8 C9 C10 C12) "total" [8, 9] := by
    intro c hc C e
    simp only [List.mem_cons, List.not_mem_nil, or_false] at hc
    rcases hc with rfl | rfl
    · cases e; exact n_total_8
    · cases e; exact n_total_9
  have fo_turns : FldOk (Gm K C0 C1 C3 C6 C7 C8 C9 C10 C12) "turns" [9] := by
    intro c hc C e
    simp only [List.mem_cons, List.not_mem_nil, or_false] at hc
    subst hc; cases e; exact n_turns_9
  have fo_under : FldOk (Gm K C0 C1 C3 C6 C7 C8 C9 C10 C12) "under" [9] := by
    intro c hc C e
    simp only [List.mem_cons, List.not_mem_nil, or_false] at hc
    subst hc; cases e; exact n_under_9
  have fo_up : FldOk (Gm K C0 C1 C3 C6 C7 C8 C9 C10 C12) "up" [12] := by
    intro c hc C e
    simp only [List.mem_cons, List.not_mem_nil, or_false] at hc
    subst hc; cases e; exact n_up_12
  have fo_went : FldOk (Gm K C0 C1 C3 C6 C7 C8 C9 C10 C12) "went" [12] := by
    intro c hc C e
    simp only [List.mem_cons, List.not_mem_nil, or_false] at hc
    subst hc; cases e; exact n_went_12
  have fo_window : FldOk (Gm K C0 C1 C3 C6 C7 C8 C9 C10 C12) "window" [12] := by
    intro c hc C e
    simp only [List.mem_cons, List.not_mem_nil, or_false] at hc
    subst hc; cases e; exact n_window_12
  have x_Unlike : EDef (Gm K C0 C1 C3 C6 C7 C8 C9 C10 C12) mg "Unlike" 1 := ⟨C1, rfl, PySem.W.mg_of X G aC1, ke1, xe1, be1, te1⟩
  refine ⟨PySem.W.fnOf "law" "law" (defArgs s_law) (defBody s_law) (defScope s_law) .none kV46 dc46 pm46 an46 cd46 ct46, fun s v => .of_eq rfl, fun base _ _ => ?_⟩
  have D_cut_of : DefF (Gm K C0 C1 C3 C6 C7 C8 C9 C10 C12) l.prog w mg base 1 "cut_of" 2 PX.F_cut_of := ⟨_, _, _, ok_cut_of (C0 := C0) (C1 := C1) (C3 := C3) (C6 := C6) (C7 := C7) (C8 := C8) (C9 := C9) (C10 := C10) (C12 := C12) F0 (PySem.W.mg_none_of X G z_len) (PySem.W.mg_none_of X G z_sorted), PySem.W.mg_of X G a0, k0, b0⟩
  have D_fallen : DefF (Gm K C0 C1 C3 C6 C7 C8 C9 C10 C12) l.prog w mg base 1 "fallen" 2 PX.F_fallen := ⟨_, _, _, ok_fallen (C0 := C0) (C1 := C1) (C3 := C3) (C6 := C6) (C7 := C7) (C8 := C8) (C9 := C9) (C10 := C10) (C12 := C12) F1, PySem.W.mg_of X G a1, k1, b1⟩
  have O_Frequent_init := ok_Frequent_init (C0 := C0) (C1 := C1) (C3 := C3) (C6 := C6) (C7 := C7) (C8 := C8) (C9 := C9) (C10 := C10) (C12 := C12) (P := l.prog) (w := w) (mg := mg) (base := base) F2 fo_counts fo_lost fo_room fo_total
  have M_Frequent_init : MDef (Gm K C0 C1 C3 C6 C7 C8 C9 C10 C12) l.prog w mg base 1 "__init__" 8 2 PX.F_Frequent_init := ⟨C8, _, _, _, rfl, ⟨a2, i2, k2⟩, O_Frequent_init, b2⟩
  have Y_Frequent : CDef (Gm K C0 C1 C3 C6 C7 C8 C9 C10 C12) l.prog w mg base 1 "Frequent" 8 2 PX.F_Frequent_init := ⟨C8, _, _, _, rfl, PySem.W.mg_of X G aC8, cl8, ⟨mk8, a2, i2, kc8⟩, O_Frequent_init, b2⟩
  have O_Frequent_add := ok_Frequent_add (C0 := C0) (C1 := C1) (C3 := C3) (C6 := C6) (C7 := C7) (C8 := C8) (C9 := C9) (C10 := C10) (C12 := C12) (P := l.prog) (w := w) (mg := mg) (base := base) F3 fo_counts fo_lost fo_total D_cut_of D_fallen
  have M_Frequent_add : MDef (Gm K C0 C1 C3 C6 C7 C8 C9 C10 C12) l.prog w mg base 2 "add" 8 3 PX.F_Frequent_add := ⟨C8, _, _, _, rfl, ⟨a3, i3, k3⟩, O_Frequent_add, b3⟩
  have D_poured_frequent : DefF (Gm K C0 C1 C3 C6 C7 C8 C9 C10 C12) l.prog w mg base 3 "poured_frequent" 2 PX.F_poured_frequent := ⟨_, _, _, ok_poured_frequent (C0 := C0) (C1 := C1) (C3 := C3) (C6 := C6) (C7 := C7) (C8 := C8) (C9 := C9) (C10 := C10) (C12 := C12) F4 (PySem.W.mg_none_of X G z_dict) fo_counts fo_lost fo_total x_Unlike D_cut_of D_fallen Y_Frequent, PySem.W.mg_of X G a4, k4, b4⟩
  have D_settled_list : DefF (Gm K C0 C1 C3 C6 C7 C8 C9 C10 C12) l.prog w mg base 1 "settled_list" 2 PX.F_settled_list := ⟨_, _, _, ok_settled_list (C0 := C0) (C1 := C1) (C3 := C3) (C6 := C6) (C7 := C7) (C8 := C8) (C9 := C9) (C10 := C10) (C12 := C12) F5 (PySem.W.mg_none_of X G z_len) (PySem.W.mg_none_of X G z_range), PySem.W.mg_of X G a5, k5, b5⟩
  have D_settle_rungs : DefF (Gm K C0 C1 C3 C6 C7 C8 C9 C10 C12) l.prog w mg base 2 "settle_rungs" 1 PX.F_settle_rungs := ⟨_, _, _, ok_settle_rungs (C0 := C0) (C1 := C1) (C3 := C3) (C6 := C6) (C7 := C7) (C8 := C8) (C9 := C9) (C10 := C10) (C12 := C12) F6 (PySem.W.mg_none_of X G z_len) (PySem.W.mg_none_of X G z_sorted) fo_over fo_turns fo_under D_settled_list, PySem.W.mg_of X G a6, k6, b6⟩
  have O_Rungs_init := ok_Rungs_init (C0 := C0) (C1 := C1) (C3 := C3) (C6 := C6) (C7 := C7) (C8 := C8) (C9 := C9) (C10 := C10) (C12 := C12) (P := l.prog) (w := w) (mg := mg) (base := base) F7 fo_least fo_most fo_over fo_room fo_rungs fo_total fo_turns fo_under
  have M_Rungs_init : MDef (Gm K C0 C1 C3 C6 C7 C8 C9 C10 C12) l.prog w mg base 1 "__init__" 9 2 PX.F_Rungs_init := ⟨C9, _, _, _, rfl, ⟨a7, i7, k7⟩, O_Rungs_init, b7⟩
  have Y_Rungs : CDef (Gm K C0 C1 C3 C6 C7 C8 C9 C10 C12) l.prog w mg base 1 "Rungs" 9 2 PX.F_Rungs_init := ⟨C9, _, _, _, rfl, PySem.W.mg_of X G aC9, cl9, ⟨mk9, a7, i7, kc9⟩, O_Rungs_init, b7⟩
  have O_Rungs_add := ok_Rungs_add (C0 := C0) (C1 := C1) (C3 := C3) (C6 := C6) (C7 := C7) (C8 := C8) (C9 := C9) (C10 := C10) (C12 := C12) (P := l.prog) (w := w) (mg := mg) (base := base) F8 (PySem.W.mg_none_of X G z_len) (PySem.W.mg_none_of X G z_range) (PySem.W.mg_none_of X G z_sorted) fo_least fo_most fo_total D_settle_rungs
  have M_Rungs_add : MDef (Gm K C0 C1 C3 C6 C7 C8 C9 C10 C12) l.prog w mg base 3 "add" 9 3 PX.F_Rungs_add := ⟨C9, _, _, _, rfl, ⟨a8, i8, k8⟩, O_Rungs_add, b8⟩
  have D_lesser_of : DefF (Gm K C0 C1 C3 C6 C7 C8 C9 C10 C12) l.prog w mg base 1 "lesser_of" 2 PX.F_lesser_of := ⟨_, _, _, ok_lesser_of (C0 := C0) (C1 := C1) (C3 := C3) (C6 := C6) (C7 := C7) (C8 := C8) (C9 := C9) (C10 := C10) (C12 := C12) F9, PySem.W.mg_of X G a9, k9, b9⟩
  have D_greater_of : DefF (Gm K C0 C1 C3 C6 C7 C8 C9 C10 C12) l.prog w mg base 1 "greater_of" 2 PX.F_greater_of := ⟨_, _, _, ok_greater_of (C0 := C0) (C1 := C1) (C3 := C3) (C6 := C6) (C7 := C7) (C8 := C8) (C9 := C9) (C10 := C10) (C12 := C12) F10, PySem.W.mg_of X G a10, k10, b10⟩
  have D_poured_rungs : DefF (Gm K C0 C1 C3 C6 C7 C8 C9 C10 C12) l.prog w mg base 3 "poured_rungs" 2 PX.F_poured_rungs := ⟨_, _, _, ok_poured_rungs (C0 := C0) (C1 := C1) (C3 := C3) (C6 := C6) (C7 := C7) (C8 := C8) (C9 := C9) (C10 := C10) (C12 := C12) F11 (PySem.W.mg_none_of X G z_enumerate) (PySem.W.mg_none_of X G z_len) (PySem.W.mg_none_of X G z_list) (PySem.W.mg_none_of X G z_sorted) fo_least fo_most fo_over fo_total fo_turns fo_under x_Unlike D_greater_of D_lesser_of D_settle_rungs Y_Rungs, PySem.W.mg_of X G a11, k11, b11⟩
  have D_settled_boxes : DefF (Gm K C0 C1 C3 C6 C7 C8 C9 C10 C12) l.prog w mg base 1 "settled_boxes" 3 PX.F_settled_boxes := ⟨_, _, _, ok_settled_boxes (C0 := C0) (C1 := C1) (C3 := C3) (C6 := C6) (C7 := C7) (C8 := C8) (C9 := C9) (C10 := C10) (C12 := C12) F12 (PySem.W.mg_none_of X G z_list) (PySem.W.mg_none_of X G z_reversed), PySem.W.mg_of X G a12, k12, b12⟩
  have O_Window_init := ok_Window_init (C0 := C0) (C1 := C1) (C3 := C3) (C6 := C6) (C7 := C7) (C8 := C8) (C9 := C9) (C10 := C10) (C12 := C12) (P := l.prog) (w := w) (mg := mg) (base := base) F13 fo_boxes fo_clock fo_reach fo_room
  have M_Window_init : MDef (Gm K C0 C1 C3 C6 C7 C8 C9 C10 C12) l.prog w mg base 1 "__init__" 6 3 PX.F_Window_init := ⟨C6, _, _, _, rfl, ⟨a13, i13, k13⟩, O_Window_init, b13⟩
  have Y_Window : CDef (Gm K C0 C1 C3 C6 C7 C8 C9 C10 C12) l.prog w mg base 1 "Window" 6 3 PX.F_Window_init := ⟨C6, _, _, _, rfl, PySem.W.mg_of X G aC6, cl6, ⟨mk6, a13, i13, kc6⟩, O_Window_init, b13⟩
  have O_Window_add := ok_Window_add (C0 := C0) (C1 := C1) (C3 := C3) (C6 := C6) (C7 := C7) (C8 := C8) (C9 := C9) (C10 := C10) (C12 := C12) (P := l.prog) (w := w) (mg := mg) (base := base) F14 fo_boxes fo_clock D_settled_boxes
  have M_Window_add : MDef (Gm K C0 C1 C3 C6 C7 C8 C9 C10 C12) l.prog w mg base 2 "add" 6 2 PX.F_Window_add := ⟨C6, _, _, _, rfl, ⟨a14, i14, k14⟩, O_Window_add, b14⟩
  have O_Window_idle := ok_Window_idle (C0 := C0) (C1 := C1) (C3 := C3) (C6 := C6) (C7 := C7) (C8 := C8) (C9 := C9) (C10 := C10) (C12 := C12) (P := l.prog) (w := w) (mg := mg) (base := base) F15 fo_boxes fo_clock D_settled_boxes
  have M_Window_idle : MDef (Gm K C0 C1 C3 C6 C7 C8 C9 C10 C12) l.prog w mg base 2 "idle" 6 2 PX.F_Window_idle := ⟨C6, _, _, _, rfl, ⟨a15, i15, k15⟩, O_Window_idle, b15⟩
  have D_followed : DefF (Gm K C0 C1 C3 C6 C7 C8 C9 C10 C12) l.prog w mg base 3 "followed" 2 PX.F_followed := ⟨_, _, _, ok_followed (C0 := C0) (C1 := C1) (C3 := C3) (C6 := C6) (C7 := C7) (C8 := C8) (C9 := C9) (C10 := C10) (C12 := C12) F16 fo_boxes fo_clock x_Unlike D_settled_boxes Y_Window, PySem.W.mg_of X G a16, k16, b16⟩
  have D_spread : DefF (Gm K C0 C1 C3 C6 C7 C8 C9 C10 C12) l.prog w mg base 1 "spread" 1 PX.F_spread := ⟨_, _, _, ok_spread (C0 := C0) (C1 := C1) (C3 := C3) (C6 := C6) (C7 := C7) (C8 := C8) (C9 := C9) (C10 := C10) (C12 := C12) F17 (PySem.W.mg_of X G g_MOST) (PySem.W.mg_of X G g_SPREAD), PySem.W.mg_of X G a17, k17, b17⟩
  have D_mark : DefF (Gm K C0 C1 C3 C6 C7 C8 C9 C10 C12) l.prog w mg base 2 "mark" 1 PX.F_mark := ⟨_, _, _, ok_mark (C0 := C0) (C1 := C1) (C3 := C3) (C6 := C6) (C7 := C7) (C8 := C8) (C9 := C9) (C10 := C10) (C12 := C12) F18 D_spread, PySem.W.mg_of X G a18, k18, b18⟩
  have D_settled_level : DefF (Gm K C0 C1 C3 C6 C7 C8 C9 C10 C12) l.prog w mg base 3 "settled_level" 3 PX.F_settled_level := ⟨_, _, _, ok_settled_level (C0 := C0) (C1 := C1) (C3 := C3) (C6 := C6) (C7 := C7) (C8 := C8) (C9 := C9) (C10 := C10) (C12 := C12) F19 (PySem.W.mg_none_of X G z_len) D_mark, PySem.W.mg_of X G a19, k19, b19⟩
  have O_Distinct_init := ok_Distinct_init (C0 := C0) (C1 := C1) (C3 := C3) (C6 := C6) (C7 := C7) (C8 := C8) (C9 := C9) (C10 := C10) (C12 := C12) (P := l.prog) (w := w) (mg := mg) (base := base) F20 fo_arrivals fo_kept fo_level fo_room
  have M_Distinct_init : MDef (Gm K C0 C1 C3 C6 C7 C8 C9 C10 C12) l.prog w mg base 1 "__init__" 10 2 PX.F_Distinct_init := ⟨C10, _, _, _, rfl, ⟨a20, i20, k20⟩, O_Distinct_init, b20⟩
  have Y_Distinct : CDef (Gm K C0 C1 C3 C6 C7 C8 C9 C10 C12) l.prog w mg base 1 "Distinct" 10 2 PX.F_Distinct_init := ⟨C10, _, _, _, rfl, PySem.W.mg_of X G aC10, cl10, ⟨mk10, a20, i20, kc10⟩, O_Distinct_init, b20⟩
  have O_Distinct_add := ok_Distinct_add (C0 := C0) (C1 := C1) (C3 := C3) (C6 := C6) (C7 := C7) (C8 := C8) (C9 := C9) (C10 := C10) (C12 := C12) (P := l.prog) (w := w) (mg := mg) (base := base) F21 (PySem.W.mg_none_of X G z_sorted) fo_arrivals fo_kept fo_level D_mark D_settled_level
  have M_Distinct_add : MDef (Gm K C0 C1 C3 C6 C7 C8 C9 C10 C12) l.prog w mg base 4 "add" 10 2 PX.F_Distinct_add := ⟨C10, _, _, _, rfl, ⟨a21, i21, k21⟩, O_Distinct_add, b21⟩
  have D_poured_distinct : DefF (Gm K C0 C1 C3 C6 C7 C8 C9 C10 C12) l.prog w mg base 4 "poured_distinct" 2 PX.F_poured_distinct := ⟨_, _, _, ok_poured_distinct (C0 := C0) (C1 := C1) (C3 := C3) (C6 := C6) (C7 := C7) (C8 := C8) (C9 := C9) (C10 := C10) (C12 := C12) F22 (PySem.W.mg_none_of X G z_max) (PySem.W.mg_none_of X G z_set) (PySem.W.mg_none_of X G z_sorted) fo_arrivals fo_kept fo_level x_Unlike D_mark D_settled_level Y_Distinct, PySem.W.mg_of X G a22, k22, b22⟩
  have D_moved_sums : DefF (Gm K C0 C1 C3 C6 C7 C8 C9 C10 C12) l.prog w mg base 1 "moved_sums" 3 PX.F_moved_sums := ⟨_, _, _, ok_moved_sums (C0 := C0) (C1 := C1) (C3 := C3) (C6 := C6) (C7 := C7) (C8 := C8) (C9 := C9) (C10 := C10) (C12 := C12) F23, PySem.W.mg_of X G a23, k23, b23⟩
  have O_Balance_init := ok_Balance_init (C0 := C0) (C1 := C1) (C3 := C3) (C6 := C6) (C7 := C7) (C8 := C8) (C9 := C9) (C10 := C10) (C12 := C12) (P := l.prog) (w := w) (mg := mg) (base := base) F24 fo_span fo_sums
  have M_Balance_init : MDef (Gm K C0 C1 C3 C6 C7 C8 C9 C10 C12) l.prog w mg base 1 "__init__" 7 2 PX.F_Balance_init := ⟨C7, _, _, _, rfl, ⟨a24, i24, k24⟩, O_Balance_init, b24⟩
  have Y_Balance : CDef (Gm K C0 C1 C3 C6 C7 C8 C9 C10 C12) l.prog w mg base 1 "Balance" 7 2 PX.F_Balance_init := ⟨C7, _, _, _, rfl, PySem.W.mg_of X G aC7, cl7, ⟨mk7, a24, i24, kc7⟩, O_Balance_init, b24⟩
  have O_Balance_put := ok_Balance_put (C0 := C0) (C1 := C1) (C3 := C3) (C6 := C6) (C7 := C7) (C8 := C8) (C9 := C9) (C10 := C10) (C12 := C12) (P := l.prog) (w := w) (mg := mg) (base := base) F25 fo_sums D_moved_sums
  have M_Balance_put : MDef (Gm K C0 C1 C3 C6 C7 C8 C9 C10 C12) l.prog w mg base 2 "put" 7 3 PX.F_Balance_put := ⟨C7, _, _, _, rfl, ⟨a25, i25, k25⟩, O_Balance_put, b25⟩
  have O_Balance_take := ok_Balance_take (C0 := C0) (C1 := C1) (C3 := C3) (C6 := C6) (C7 := C7) (C8 := C8) (C9 := C9) (C10 := C10) (C12 := C12) (P := l.prog) (w := w) (mg := mg) (base := base) F26 fo_sums D_moved_sums
  have M_Balance_take : MDef (Gm K C0 C1 C3 C6 C7 C8 C9 C10 C12) l.prog w mg base 2 "take" 7 3 PX.F_Balance_take := ⟨C7, _, _, _, rfl, ⟨a26, i26, k26⟩, O_Balance_take, b26⟩
  have D_poured_balance : DefF (Gm K C0 C1 C3 C6 C7 C8 C9 C10 C12) l.prog w mg base 3 "poured_balance" 2 PX.F_poured_balance := ⟨_, _, _, ok_poured_balance (C0 := C0) (C1 := C1) (C3 := C3) (C6 := C6) (C7 := C7) (C8 := C8) (C9 := C9) (C10 := C10) (C12 := C12) F27 (PySem.W.mg_none_of X G z_range) fo_sums x_Unlike Y_Balance, PySem.W.mg_of X G a27, k27, b27⟩
  have O_Keepsake_init := ok_Keepsake_init (C0 := C0) (C1 := C1) (C3 := C3) (C6 := C6) (C7 := C7) (C8 := C8) (C9 := C9) (C10 := C10) (C12 := C12) (P := l.prog) (w := w) (mg := mg) (base := base) F28 fo_balance fo_came fo_down fo_reach fo_room fo_seen fo_span fo_up fo_went fo_window Y_Balance Y_Distinct Y_Frequent Y_Rungs Y_Window
  have M_Keepsake_init : MDef (Gm K C0 C1 C3 C6 C7 C8 C9 C10 C12) l.prog w mg base 3 "__init__" 12 4 PX.F_Keepsake_init := ⟨C12, _, _, _, rfl, ⟨a28, i28, k28⟩, O_Keepsake_init, b28⟩
  have Y_Keepsake : CDef (Gm K C0 C1 C3 C6 C7 C8 C9 C10 C12) l.prog w mg base 3 "Keepsake" 12 4 PX.F_Keepsake_init := ⟨C12, _, _, _, rfl, PySem.W.mg_of X G aC12, cl12, ⟨mk12, a28, i28, kc12⟩, O_Keepsake_init, b28⟩
  have O_Keepsake_put := ok_Keepsake_put (C0 := C0) (C1 := C1) (C3 := C3) (C6 := C6) (C7 := C7) (C8 := C8) (C9 := C9) (C10 := C10) (C12 := C12) (P := l.prog) (w := w) (mg := mg) (base := base) F29 M_Balance_put M_Distinct_add M_Frequent_add M_Rungs_add M_Window_add
  have M_Keepsake_put : MDef (Gm K C0 C1 C3 C6 C7 C8 C9 C10 C12) l.prog w mg base 5 "put" 12 3 PX.F_Keepsake_put := ⟨C12, _, _, _, rfl, ⟨a29, i29, k29⟩, O_Keepsake_put, b29⟩
  have O_Keepsake_take := ok_Keepsake_take (C0 := C0) (C1 := C1) (C3 := C3) (C6 := C6) (C7 := C7) (C8 := C8) (C9 := C9) (C10 := C10) (C12 := C12) (P := l.prog) (w := w) (mg := mg) (base := base) F30 M_Balance_take M_Frequent_add M_Rungs_add M_Window_idle
  have M_Keepsake_take : MDef (Gm K C0 C1 C3 C6 C7 C8 C9 C10 C12) l.prog w mg base 4 "take" 12 3 PX.F_Keepsake_take := ⟨C12, _, _, _, rfl, ⟨a30, i30, k30⟩, O_Keepsake_take, b30⟩
  have O_Keepsake_idle := ok_Keepsake_idle (C0 := C0) (C1 := C1) (C3 := C3) (C6 := C6) (C7 := C7) (C8 := C8) (C9 := C9) (C10 := C10) (C12 := C12) (P := l.prog) (w := w) (mg := mg) (base := base) F31 M_Window_idle
  have M_Keepsake_idle : MDef (Gm K C0 C1 C3 C6 C7 C8 C9 C10 C12) l.prog w mg base 3 "idle" 12 2 PX.F_Keepsake_idle := ⟨C12, _, _, _, rfl, ⟨a31, i31, k31⟩, O_Keepsake_idle, b31⟩
  have D_empty_like : DefF (Gm K C0 C1 C3 C6 C7 C8 C9 C10 C12) l.prog w mg base 5 "empty_like" 1 PX.F_empty_like := ⟨_, _, _, ok_empty_like (C0 := C0) (C1 := C1) (C3 := C3) (C6 := C6) (C7 := C7) (C8 := C8) (C9 := C9) (C10 := C10) (C12 := C12) F32 Y_Keepsake, PySem.W.mg_of X G a32, k32, b32⟩
  have D_poured : DefF (Gm K C0 C1 C3 C6 C7 C8 C9 C10 C12) l.prog w mg base 6 "poured" 2 PX.F_poured := ⟨_, _, _, ok_poured (C0 := C0) (C1 := C1) (C3 := C3) (C6 := C6) (C7 := C7) (C8 := C8) (C9 := C9) (C10 := C10) (C12 := C12) F33 fo_balance fo_came fo_down fo_seen fo_up fo_went fo_window x_Unlike D_empty_like D_followed D_poured_balance D_poured_distinct D_poured_frequent D_poured_rungs, PySem.W.mg_of X G a33, k33, b33⟩
  have D_mix : DefF (Gm K C0 C1 C3 C6 C7 C8 C9 C10 C12) l.prog w mg base 1 "_law_mix" 3 PX.F_mix := ⟨_, _, _, ok_mix (C0 := C0) (C1 := C1) (C3 := C3) (C6 := C6) (C7 := C7) (C8 := C8) (C9 := C9) (C10 := C10) (C12 := C12) F34, PySem.W.mg_of X G a34, k34, b34⟩
  have D_far_back : DefF (Gm K C0 C1 C3 C6 C7 C8 C9 C10 C12) l.prog w mg base 1 "_law_far_back" 0 PX.F_kfar_back := ⟨_, _, _, ok_far_back (C0 := C0) (C1 := C1) (C3 := C3) (C6 := C6) (C7 := C7) (C8 := C8) (C9 := C9) (C10 := C10) (C12 := C12) F35 (PySem.W.mg_none_of X G z_range), PySem.W.mg_of X G a35, k35, b35⟩
  have D_thing_by : DefF (Gm K C0 C1 C3 C6 C7 C8 C9 C10 C12) l.prog w mg base 2 "_law_thing_by" 1 PX.F_kthing_by := ⟨_, _, _, ok_thing_by (C0 := C0) (C1 := C1) (C3 := C3) (C6 := C6) (C7 := C7) (C8 := C8) (C9 := C9) (C10 := C10) (C12 := C12) F36 D_far_back, PySem.W.mg_of X G a36, k36, b36⟩
  have D_weight_by : DefF (Gm K C0 C1 C3 C6 C7 C8 C9 C10 C12) l.prog w mg base 1 "_law_weight_by" 1 PX.F_kweight_by := ⟨_, _, _, ok_weight_by (C0 := C0) (C1 := C1) (C3 := C3) (C6 := C6) (C7 := C7) (C8 := C8) (C9 := C9) (C10 := C10) (C12 := C12) F37, PySem.W.mg_of X G a37, k37, b37⟩
  have D_row_by : DefF (Gm K C0 C1 C3 C6 C7 C8 C9 C10 C12) l.prog w mg base 3 "_law_row_by" 1 PX.F_krow_by := ⟨_, _, _, ok_row_by (C0 := C0) (C1 := C1) (C3 := C3) (C6 := C6) (C7 := C7) (C8 := C8) (C9 := C9) (C10 := C10) (C12 := C12) F38 D_mix D_thing_by D_weight_by, PySem.W.mg_of X G a38, k38, b38⟩
  have D_done : DefF (Gm K C0 C1 C3 C6 C7 C8 C9 C10 C12) l.prog w mg base 6 "_law_done" 2 PX.F_kdone := ⟨_, _, _, ok_done (C0 := C0) (C1 := C1) (C3 := C3) (C6 := C6) (C7 := C7) (C8 := C8) (C9 := C9) (C10 := C10) (C12 := C12) F39 M_Keepsake_idle M_Keepsake_put M_Keepsake_take, PySem.W.mg_of X G a39, k39, b39⟩
  have D_shape_by : DefF (Gm K C0 C1 C3 C6 C7 C8 C9 C10 C12) l.prog w mg base 1 "_law_shape_by" 1 PX.F_kshape_by := ⟨_, _, _, ok_shape_by (C0 := C0) (C1 := C1) (C3 := C3) (C6 := C6) (C7 := C7) (C8 := C8) (C9 := C9) (C10 := C10) (C12 := C12) F40, PySem.W.mg_of X G a40, k40, b40⟩
  have D_counts_few : DefF (Gm K C0 C1 C3 C6 C7 C8 C9 C10 C12) l.prog w mg base 1 "_law_counts_few" 3 F_counts_few := ⟨_, _, _, ok_counts_few (C0 := C0) (C1 := C1) (C3 := C3) (C6 := C6) (C7 := C7) (C8 := C8) (C9 := C9) (C10 := C10) (C12 := C12) F41 (PySem.W.mg_none_of X G z_len) (PySem.W.mg_none_of X G z_list) (PySem.W.mg_none_of X G z_sum), PySem.W.mg_of X G a41, k41, b41⟩
  have D_rungs_few : DefF (Gm K C0 C1 C3 C6 C7 C8 C9 C10 C12) l.prog w mg base 1 "_law_rungs_few" 3 F_rungs_few := ⟨_, _, _, ok_rungs_few (C0 := C0) (C1 := C1) (C3 := C3) (C6 := C6) (C7 := C7) (C8 := C8) (C9 := C9) (C10 := C10) (C12 := C12) F42 (PySem.W.mg_none_of X G z_len) (PySem.W.mg_none_of X G z_max) (PySem.W.mg_none_of X G z_range) (PySem.W.mg_none_of X G z_sorted), PySem.W.mg_of X G a42, k42, b42⟩
  have D_boxes_few : DefF (Gm K C0 C1 C3 C6 C7 C8 C9 C10 C12) l.prog w mg base 1 "_law_boxes_few" 2 F_boxes_few := ⟨_, _, _, ok_boxes_few (C0 := C0) (C1 := C1) (C3 := C3) (C6 := C6) (C7 := C7) (C8 := C8) (C9 := C9) (C10 := C10) (C12 := C12) F43 (PySem.W.mg_none_of X G z_len) (PySem.W.mg_none_of X G z_range) (PySem.W.mg_none_of X G z_sum), PySem.W.mg_of X G a43, k43, b43⟩
  have D_few : DefF (Gm K C0 C1 C3 C6 C7 C8 C9 C10 C12) l.prog w mg base 2 "_law_few" 2 F_few := ⟨_, _, _, ok_few (C0 := C0) (C1 := C1) (C3 := C3) (C6 := C6) (C7 := C7) (C8 := C8) (C9 := C9) (C10 := C10) (C12 := C12) F44 (PySem.W.mg_none_of X G z_len) D_boxes_few D_counts_few D_rungs_few, PySem.W.mg_of X G a44, k44, b44⟩
  have D_totals_by : DefF (Gm K C0 C1 C3 C6 C7 C8 C9 C10 C12) l.prog w mg base 1 "_law_totals_by" 2 F_totals_by := ⟨_, _, _, ok_totals_by (C0 := C0) (C1 := C1) (C3 := C3) (C6 := C6) (C7 := C7) (C8 := C8) (C9 := C9) (C10 := C10) (C12 := C12) F45 (PySem.W.mg_none_of X G z_list), PySem.W.mg_of X G a45, k45, b45⟩
  have L := ok_law (C0 := C0) (C1 := C1) (C3 := C3) (C6 := C6) (C7 := C7) (C8 := C8) (C9 := C9) (C10 := C10) (C12 := C12) (P := l.prog) (w := w) (base := base) F46 (PySem.W.mg_none_of X G z_range) (PySem.W.mg_none_of X G z_sum) D_done D_few D_mix D_row_by D_shape_by D_totals_by D_poured Y_Keepsake
  exact L.imp (law_imp (Γ := (Gm K C0 C1 C3 C6 C7 C8 C9 C10 C12)) (show List.Nodup (["room", "reach", "clock", "boxes", "span", "sums", "total", "lost", "counts", "over", "under", "turns", "least", "most", "rungs", "arrivals", "level", "kept", "came", "went", "up", "down", "window", "seen", "balance", "many", "stacks", "puts", "takes", "line"] : List Str) from by decide +kernel) T)
end Gk43

open PySem PySem.W PyProof.Rows in
set_option maxRecDepth 100000 in
set_option maxHeartbeats 0 in
theorem PySem.Challenge.cw_sketchbounds_k43_whole_never_more_boxes_holds : PySem.Challenge.rw_sketchbounds_k43_whole_never_more_boxes.Holds := by
  w_on; o_law; k_head; (case hw => w_witness2)
  k_fill
  refine PL.law_walk (k := 7) (x := "_law_script") (l := PySem.Challenge.rw_sketchbounds_k43_whole_never_more_boxes) rfl rfl ⟨rfl, by decide, by decide⟩ (fun w h Y => PySem.W.kIn_of Y) ?F
  case F =>
    intro w mg fa h KX G hmg
    refine' Gk43.all_mk KX G hmg ?aC0 ?aC1 ?aC3 ?aC6 ?aC7 ?aC8 ?aC9 ?aC10 ?aC12 ?a0 ?l0 ?c0 ?k0 ?a1 ?l1 ?c1 ?k1 ?a2 ?i2 ?l2 ?c2 ?k2 ?a3 ?i3 ?l3 ?c3 ?k3 ?a4 ?l4 ?c4 ?k4 ?a5 ?l5 ?c5 ?k5 ?a6 ?l6 ?c6 ?k6 ?a7 ?i7 ?l7 ?c7 ?k7 ?a8 ?i8 ?l8 ?c8 ?k8 ?a9 ?l9 ?c9 ?k9 ?a10 ?l10 ?c10 ?k10 ?a11 ?l11 ?c11 ?k11 ?a12 ?l12 ?c12 ?k12 ?a13 ?i13 ?l13 ?c13 ?k13 ?a14 ?i14 ?l14 ?c14 ?k14 ?a15 ?i15 ?l15 ?c15 ?k15 ?a16 ?l16 ?c16 ?k16 ?a17 ?l17 ?c17 ?k17 ?a18 ?l18 ?c18 ?k18 ?a19 ?l19 ?c19 ?k19 ?a20 ?i20 ?l20 ?c20 ?k20 ?a21 ?i21 ?l21 ?c21 ?k21 ?a22 ?l22 ?c22 ?k22 ?a23 ?l23 ?c23 ?k23 ?a24 ?i24 ?l24 ?c24 ?k24 ?a25 ?i25 ?l25 ?c25 ?k25 ?a26 ?i26 ?l26 ?c26 ?k26 ?a27 ?l27 ?c27 ?k27 ?a28 ?i28 ?l28 ?c28 ?k28 ?a29 ?i29 ?l29 ?c29 ?k29 ?a30 ?i30 ?l30 ?c30 ?k30 ?a31 ?i31 ?l31 ?c31 ?k31 ?a32 ?l32 ?c32 ?k32 ?a33 ?l33 ?c33 ?k33 ?a34 ?l34 ?c34 ?k34 ?a35 ?l35 ?c35 ?k35 ?a36 ?l36 ?c36 ?k36 ?a37 ?l37 ?c37 ?k37 ?a38 ?l38 ?c38 ?k38 ?a39 ?l39 ?c39 ?k39 ?a40 ?l40 ?c40 ?k40 ?a41 ?l41 ?c41 ?k41 ?a42 ?l42 ?c42 ?k42 ?a43 ?l43 ?c43 ?k43 ?a44 ?l44 ?c44 ?k44 ?a45 ?l45 ?c45 ?k45 ?a46 ?l46 ?c46 ?k46 ?pg8 ?hd8 ?po8 ?sa8 ?mk8 ?kc8 ?pg9 ?hd9 ?po9 ?sa9 ?mk9 ?kc9 ?pg6 ?hd6 ?po6 ?sa6 ?mk6 ?kc6 ?pg10 ?hd10 ?po10 ?sa10 ?mk10 ?kc10 ?pg7 ?hd7 ?po7 ?sa7 ?mk7 ?kc7 ?pg12 ?hd12 ?po12 ?sa12 ?mk12 ?kc12 ?n_arrivals_10 ?n_balance_12 ?n_boxes_6 ?n_came_12 ?n_clock_6 ?n_counts_8 ?n_down_12 ?n_kept_10 ?n_least_9 ?n_level_10 ?n_lost_8 ?n_most_9 ?n_over_9 ?n_reach_6 ?n_reach_12 ?n_room_6 ?n_room_8 ?n_room_9 ?n_room_10 ?n_room_12 ?n_rungs_9 ?n_seen_12 ?n_span_7 ?n_span_12 ?n_sums_7 ?n_total_8 ?n_total_9 ?n_turns_9 ?n_under_9 ?n_up_12 ?n_went_12 ?n_window_12 ?ke1 ?be1 ?te1 ?xe1 ?g_MOST ?g_SPREAD ?z_dict ?z_enumerate ?z_len ?z_list ?z_max ?z_range ?z_reversed ?z_set ?z_sorted ?z_sum Gk43.law_true
    (case aC0 => k_is)
    (case aC1 => k_is)
    (case aC3 => k_is)
    (case aC6 => k_is)
    (case aC7 => k_is)
    (case aC8 => k_is)
    (case aC9 => k_is)
    (case aC10 => k_is)
    (case aC12 => k_is)
    (case a0 => k_is)
    (case l0 => k_is)
    (case c0 => k_is)
    (case k0 => k_is)
    (case a1 => k_is)
    (case l1 => k_is)
    (case c1 => k_is)
    (case k1 => k_is)
    (case a2 => k_is)
    (case i2 => k_is)
    (case l2 => k_is)
    (case c2 => k_is)
    (case k2 => k_is)
    (case a3 => k_is)
    (case i3 => k_is)
    (case l3 => k_is)
    (case c3 => k_is)
    (case k3 => k_is)
    (case a4 => k_is)
    (case l4 => k_is)
    (case c4 => k_is)
    (case k4 => k_is)
    (case a5 => k_is)
    (case l5 => k_is)
    (case c5 => k_is)
    (case k5 => k_is)
    (case a6 => k_is)
    (case l6 => k_is)
    (case c6 => k_is)
    (case k6 => k_is)
    (case a7 => k_is)
    (case i7 => k_is)
    (case l7 => k_is)
    (case c7 => k_is)
    (case k7 => k_is)
    (case a8 => k_is)
    (case i8 => k_is)
    (case l8 => k_is)
    (case c8 => k_is)
    (case k8 => k_is)
    (case a9 => k_is)
    (case l9 => k_is)
    (case c9 => k_is)
    (case k9 => k_is)
    (case a10 => k_is)
    (case l10 => k_is)
    (case c10 => k_is)
    (case k10 => k_is)
    (case a11 => k_is)
    (case l11 => k_is)
    (case c11 => k_is)
    (case k11 => k_is)
    (case a12 => k_is)
    (case l12 => k_is)
    (case c12 => k_is)
    (case k12 => k_is)
    (case a13 => k_is)
    (case i13 => k_is)
    (case l13 => k_is)
    (case c13 => k_is)
    (case k13 => k_is)
    (case a14 => k_is)
    (case i14 => k_is)
    (case l14 => k_is)
    (case c14 => k_is)
    (case k14 => k_is)
    (case a15 => k_is)
    (case i15 => k_is)
    (case l15 => k_is)
    (case c15 => k_is)
    (case k15 => k_is)
    (case a16 => k_is)
    (case l16 => k_is)
    (case c16 => k_is)
    (case k16 => k_is)
    (case a17 => k_is)
    (case l17 => k_is)
    (case c17 => k_is)
    (case k17 => k_is)
    (case a18 => k_is)
    (case l18 => k_is)
    (case c18 => k_is)
    (case k18 => k_is)
    (case a19 => k_is)
    (case l19 => k_is)
    (case c19 => k_is)
    (case k19 => k_is)
    (case a20 => k_is)
    (case i20 => k_is)
    (case l20 => k_is)
    (case c20 => k_is)
    (case k20 => k_is)
    (case a21 => k_is)
    (case i21 => k_is)
    (case l21 => k_is)
    (case c21 => k_is)
    (case k21 => k_is)
    (case a22 => k_is)
    (case l22 => k_is)
    (case c22 => k_is)
    (case k22 => k_is)
    (case a23 => k_is)
    (case l23 => k_is)
    (case c23 => k_is)
    (case k23 => k_is)
    (case a24 => k_is)
    (case i24 => k_is)
    (case l24 => k_is)
    (case c24 => k_is)
    (case k24 => k_is)
    (case a25 => k_is)
    (case i25 => k_is)
    (case l25 => k_is)
    (case c25 => k_is)
    (case k25 => k_is)
    (case a26 => k_is)
    (case i26 => k_is)
    (case l26 => k_is)
    (case c26 => k_is)
    (case k26 => k_is)
    (case a27 => k_is)
    (case l27 => k_is)
    (case c27 => k_is)
    (case k27 => k_is)
    (case a28 => k_is)
    (case i28 => k_is)
    (case l28 => k_is)
    (case c28 => k_is)
    (case k28 => k_is)
    (case a29 => k_is)
    (case i29 => k_is)
    (case l29 => k_is)
    (case c29 => k_is)
    (case k29 => k_is)
    (case a30 => k_is)
    (case i30 => k_is)
    (case l30 => k_is)
    (case c30 => k_is)
    (case k30 => k_is)
    (case a31 => k_is)
    (case i31 => k_is)
    (case l31 => k_is)
    (case c31 => k_is)
    (case k31 => k_is)
    (case a32 => k_is)
    (case l32 => k_is)
    (case c32 => k_is)
    (case k32 => k_is)
    (case a33 => k_is)
    (case l33 => k_is)
    (case c33 => k_is)
    (case k33 => k_is)
    (case a34 => k_is)
    (case l34 => k_is)
    (case c34 => k_is)
    (case k34 => k_is)
    (case a35 => k_is)
    (case l35 => k_is)
    (case c35 => k_is)
    (case k35 => k_is)
    (case a36 => k_is)
    (case l36 => k_is)
    (case c36 => k_is)
    (case k36 => k_is)
    (case a37 => k_is)
    (case l37 => k_is)
    (case c37 => k_is)
    (case k37 => k_is)
    (case a38 => k_is)
    (case l38 => k_is)
    (case c38 => k_is)
    (case k38 => k_is)
    (case a39 => k_is)
    (case l39 => k_is)
    (case c39 => k_is)
    (case k39 => k_is)
    (case a40 => k_is)
    (case l40 => k_is)
    (case c40 => k_is)
    (case k40 => k_is)
    (case a41 => k_is)
    (case l41 => k_is)
    (case c41 => k_is)
    (case k41 => k_is)
    (case a42 => k_is)
    (case l42 => k_is)
    (case c42 => k_is)
    (case k42 => k_is)
    (case a43 => k_is)
    (case l43 => k_is)
    (case c43 => k_is)
    (case k43 => k_is)
    (case a44 => k_is)
    (case l44 => k_is)
    (case c44 => k_is)
    (case k44 => k_is)
    (case a45 => k_is)
    (case l45 => k_is)
    (case c45 => k_is)
    (case k45 => k_is)
    (case a46 => k_is)
    (case l46 => k_is)
    (case c46 => k_is)
    (case k46 => k_is)
    (case pg8 => k_is)
    (case hd8 => k_is)
    (case po8 => k_is)
    (case sa8 => k_is)
    (case mk8 => k_is)
    (case kc8 => k_is)
    (case pg9 => k_is)
    (case hd9 => k_is)
    (case po9 => k_is)
    (case sa9 => k_is)
    (case mk9 => k_is)
    (case kc9 => k_is)
    (case pg6 => k_is)
    (case hd6 => k_is)
    (case po6 => k_is)
    (case sa6 => k_is)
    (case mk6 => k_is)
    (case kc6 => k_is)
    (case pg10 => k_is)
    (case hd10 => k_is)
    (case po10 => k_is)
    (case sa10 => k_is)
    (case mk10 => k_is)
    (case kc10 => k_is)
    (case pg7 => k_is)
    (case hd7 => k_is)
    (case po7 => k_is)
    (case sa7 => k_is)
    (case mk7 => k_is)
    (case kc7 => k_is)
    (case pg12 => k_is)
    (case hd12 => k_is)
    (case po12 => k_is)
    (case sa12 => k_is)
    (case mk12 => k_is)
    (case kc12 => k_is)
    (case n_arrivals_10 => k_is)
    (case n_balance_12 => k_is)
    (case n_boxes_6 => k_is)
    (case n_came_12 => k_is)
    (case n_clock_6 => k_is)
    (case n_counts_8 => k_is)
    (case n_down_12 => k_is)
    (case n_kept_10 => k_is)
    (case n_least_9 => k_is)
    (case n_level_10 => k_is)
    (case n_lost_8 => k_is)
    (case n_most_9 => k_is)
    (case n_over_9 => k_is)
    (case n_reach_6 => k_is)
    (case n_reach_12 => k_is)
    (case n_room_6 => k_is)
    (case n_room_8 => k_is)
    (case n_room_9 => k_is)
    (case n_room_10 => k_is)
    (case n_room_12 => k_is)
    (case n_rungs_9 => k_is)
    (case n_seen_12 => k_is)
    (case n_span_7 => k_is)
    (case n_span_12 => k_is)
    (case n_sums_7 => k_is)
    (case n_total_8 => k_is)
    (case n_total_9 => k_is)
    (case n_turns_9 => k_is)
    (case n_under_9 => k_is)
    (case n_up_12 => k_is)
    (case n_went_12 => k_is)
    (case n_window_12 => k_is)
    (case ke1 => k_is)
    (case be1 => k_is)
    (case te1 => k_is)
    (case xe1 => k_exc)
    (case g_MOST => k_is)
    (case g_SPREAD => k_is)
    (case z_dict => k_is)
    (case z_enumerate => k_is)
    (case z_len => k_is)
    (case z_list => k_is)
    (case z_max => k_is)
    (case z_range => k_is)
    (case z_reversed => k_is)
    (case z_set => k_is)
    (case z_sorted => k_is)
    (case z_sum => k_is)
