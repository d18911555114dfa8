import PyProof.Rows.All
import Wide.All
import OpenK.AllK
import Wide.FinOn
import HandS.ForMost
import HandS.Conv
import HandS.TupAny
import HandS.IsInst
import HandS.ForExc
import HandS.Defaults
import HandS.HeadHook1
import HandS.HeadHook2
import HandS.Codes
import KE.KeyNested
import KE.KDictKeyed
import HandS.ClsMeth
import HandS.CallRecv
import HandS.Lambda
import HandS.ExcIs
import HandS.EndTab
import HandS.Head0
import HandS.Head1
import HandS.Head2
import HandS.HeadEnd
import HandS.HeadHook4
import HandS.HeadWalk
import PySem.Challenge.RW_tilelaw_k23_whole_many_tiles
set_option Elab.async false
set_option linter.all false
set_option maxRecDepth 100000
set_option maxHeartbeats 4000000
/-! Evaluation over a base heap B: what B does not know stays hidden, what is new is known. -/
namespace TL
open PySem L2

def Ex (H H' : Hp) : Prop := ∀ a o, H a = some o → H' a = some o
theorem Ex.refl (H : Hp) : Ex H H := fun _ _ h => h
theorem Ex.trans {H H1 H2 : Hp} (a : Ex H H1) (b : Ex H1 H2) : Ex H H2 := fun x o h => b x o (a x o h)
theorem Ex.new {H : Hp} {p : Addr} {o : HO} (h : H p = none) : Ex H (upd H p o) := fun a u e => by
  rw [upd_ne (ne_of_none e h)]
  exact e
theorem Ex.none {H H' : Hp} {p : Addr} (e : Ex H H') (h : H' p = none) : H p = none := by
  cases h1 : H p with
  | none => rfl
  | some o =>
    rw [e p o h1] at h
    cases h
theorem Ex.upd {B H : Hp} {p : Addr} {o : HO} (e : Ex B H) : Ex (upd B p o) (upd H p o) := fun a u h => by
  by_cases z : a = p
  · subst z
    rw [upd_same] at h ⊢
    exact h
  · rw [upd_ne z] at h ⊢
    exact e a u h
theorem Ex.poke {B H : Hp} {p : Addr} {o : HO} (e : Ex B H) (h : B p = Option.none) : Ex B (L2.upd H p o) := fun a u ha => by
  rw [upd_ne (ne_of_none ha h)]
  exact e a u ha
theorem Ex.seq {K : PySem.W.Frag} {H H' : Hp} {a : Addr} {xs : List V} (e : Ex H H') (h : SqL K H a xs) : SqL K H' a xs := by
  rcases h with (h | ⟨o, h⟩) | h
  · exact .inl (.inl (e _ _ h))
  · exact .inl (.inr ⟨o, e _ _ h⟩)
  · exact .inr h
theorem Ex.seqT {K : PySem.W.Frag} {H H' : Hp} {a : Addr} {xs : List V} (e : Ex H H') (h : SqT K H a xs) : SqT K H' a xs := by
  rcases h with (h | ⟨o, h⟩) | h
  · exact .inl (.inl (e _ _ h))
  · exact .inl (.inr ⟨o, e _ _ h⟩)
  · exact .inr h
def joinH (B1 B2 : Hp) : Hp := fun a => match B1 a with
  | some o => some o
  | none => B2 a
theorem joinH_l {B1 B2 : Hp} : Ex B1 (joinH B1 B2) := fun a o h => by
  unfold joinH
  rw [h]
theorem joinH_r {B1 B2 H : Hp} (e1 : Ex B1 H) (e2 : Ex B2 H) : Ex B2 (joinH B1 B2) := fun a o h => by
  unfold joinH
  cases h1 : B1 a with
  | none => exact h
  | some o' =>
    have := e1 a o' h1
    rw [e2 a o h] at this
    cases this
    rfl
theorem joinH_in {B1 B2 H : Hp} (e1 : Ex B1 H) (e2 : Ex B2 H) : Ex (joinH B1 B2) H := fun a o h => by
  unfold joinH at h
  cases h1 : B1 a with
  | none =>
    rw [h1] at h
    exact e2 a o h
  | some o' =>
    rw [h1] at h
    cases h
    exact e1 a _ h1

/-- from the base B in the heap H to B', H': all stays, what was hidden stays hidden -/
structure Step (B H B' H' : Hp) : Prop where
  eb : Ex B B'
  bh : Ex B' H'
  eh : Ex H H'
  hid : ∀ a, H a ≠ none → B a = none → B' a = none
theorem Step.refl {B H : Hp} (e : Ex B H) : Step B H B H := ⟨Ex.refl B, e, Ex.refl H, fun _ _ h => h⟩
theorem Step.trans {B H B1 H1 B2 H2 : Hp} (s : Step B H B1 H1) (t : Step B1 H1 B2 H2) : Step B H B2 H2 :=
  ⟨s.eb.trans t.eb, t.bh, s.eh.trans t.eh, fun a h1 h2 => t.hid a (by
    cases q : H a with
    | none => exact absurd q h1
    | some o =>
      rw [s.eh a o q]
      exact fun z => by cases z) (s.hid a h1 h2)⟩
theorem Step.new {B H : Hp} {p : Addr} {o : HO} (e : Ex B H) (h : H p = none) : Step B H (upd B p o) (upd H p o) :=
  ⟨Ex.new (e.none h), e.upd, Ex.new h, fun a h1 h2 => by
    have z : a ≠ p := fun z => h1 (by rw [z]; exact h)
    rw [upd_ne z]
    exact h2⟩
/-- the base may grow by what was known before -/
theorem Step.widen {B B1 H B' H' : Hp} (s : Step B H B' H') (e1 : Ex B B1) (e2 : Ex B1 H) : ∃ B1', Ex B' B1' ∧ Step B1 H B1' H' :=
  ⟨joinH B1 B', joinH_r (e2.trans s.eh) s.bh, ⟨joinH_l, joinH_in (e2.trans s.eh) s.bh, s.eh, fun a h1 h2 => by
    unfold joinH
    rw [h2]
    exact s.hid a h1 (e1.none h2)⟩⟩
/-- what is hidden, and was not there at the start, is written -/
theorem Step.poke {B H B' H' : Hp} {p : Addr} {o : HO} (s : Step B H B' H') (h0 : H p = none) (h : B' p = none) : Step B H B' (upd H' p o) :=
  ⟨s.eb, s.bh.poke h, s.eh.poke h0, s.hid⟩
/-- what was hidden, and was not there at the start, is known from now on -/
theorem Step.show_ {B H B' H' : Hp} {p : Addr} {o : HO} (s : Step B H B' H') (h0 : H p = none) (h : B' p = none) (ho : H' p = some o) : Step B H (upd B' p o) H' :=
  ⟨s.eb.trans (Ex.new h), fun a u ha => by
    by_cases z : a = p
    · subst z
      rw [upd_same] at ha
      rw [ho]
      exact ha
    · rw [upd_ne z] at ha
      exact s.bh a u ha, s.eh, fun a h1 h2 => by
    have z : a ≠ p := fun z => h1 (by rw [z]; exact h0)
    rw [upd_ne z]
    exact s.hid a h1 h2⟩
theorem Step.hide {B H B' H' : Hp} {p : Addr} {o : HO} (s : Step B H B' H') (h : B p = none) (ho : H p = some o) : B' p = none ∧ H' p = some o :=
  ⟨s.hid p (by rw [ho]; exact fun z => by cases z) h, s.eh p o ho⟩

/-! ### what is known of a value -/
structure VP where
  p : Hp → V → Prop
  m : ∀ {B B' : Hp} {v : V}, Ex B B' → p B v → p B' v
mutual
/-- data: all its lists and tuples are tracked -/
inductive Dt (H : Hp) : V → PyData → Prop
  | non : Dt H .non .none
  | bl (b : Bool) : Dt H (.bl b) (.bool b)
  | int (i : Int) : Dt H (.int i) (.int i)
  | str (x : Str) : Dt H (.str x) (.str x)
  | lst {a : Addr} {xs : List V} {ds : List PyData} : H a = some (.lst xs) → DtAll H xs ds → Dt H (.ref a) (.list ds)
  | tup {a : Addr} {xs : List V} {ds : List PyData} : H a = some (.tup xs) → DtAll H xs ds → Dt H (.ref a) (.tuple ds)
inductive DtAll (H : Hp) : List V → List PyData → Prop
  | nil : DtAll H [] []
  | cons {v : V} {vs : List V} {d : PyData} {ds : List PyData} : Dt H v d → DtAll H vs ds → DtAll H (v :: vs) (d :: ds)
end
mutual
theorem Dt.m {H H' : Hp} (e : Ex H H') : ∀ (d : PyData) (v : V), Dt H v d → Dt H' v d
  | .none, _, h => by cases h; exact .non
  | .bool b, _, h => by cases h; exact .bl b
  | .int i, _, h => by cases h; exact .int i
  | .str x, _, h => by cases h; exact .str x
  | .list ds, _, h => by
    cases h with
    | lst h1 h2 => exact .lst (e _ _ h1) (Dt.mAll e ds _ h2)
  | .tuple ds, _, h => by
    cases h with
    | tup h1 h2 => exact .tup (e _ _ h1) (Dt.mAll e ds _ h2)
  | .dict _, _, h => by cases h
theorem Dt.mAll {H H' : Hp} (e : Ex H H') : ∀ (ds : List PyData) (vs : List V), DtAll H vs ds → DtAll H' vs ds
  | [], _, h => by cases h; exact .nil
  | d :: ds, _, h => by
    cases h with
    | cons h1 h2 => exact .cons (Dt.m e d _ h1) (Dt.mAll e ds _ h2)
end
mutual
theorem Dt.dp {K : PySem.W.Frag} {H : Hp} : ∀ (d : PyData) (v : V), Dt H v d → Dp K H v d
  | .none, _, h => by cases h; exact .non
  | .bool b, _, h => by cases h; exact .bl b
  | .int i, _, h => by cases h; exact .int i
  | .str x, _, h => by cases h; exact .str x
  | .list ds, _, h => by
    cases h with
    | lst h1 h2 => exact .lst (SqL.of h1) (Dt.dpAll ds _ h2)
  | .tuple ds, _, h => by
    cases h with
    | tup h1 h2 => exact .tup (SqT.of h1) (Dt.dpAll ds _ h2)
  | .dict _, _, h => by cases h
theorem Dt.dpAll {K : PySem.W.Frag} {H : Hp} : ∀ (ds : List PyData) (vs : List V), DtAll H vs ds → DpAll K H vs ds
  | [], _, h => by cases h; exact .nil
  | d :: ds, _, h => by
    cases h with
    | cons h1 h2 => exact .cons (Dt.dp d _ h1) (Dt.dpAll ds _ h2)
end
/-- a datum -/
def dp (d : PyData) : VP := ⟨fun B v => Dt B v d, fun e h => Dt.m e d _ h⟩
/-- this very value -/
def isV (x : V) : VP := ⟨fun _ v => v = x, fun _ h => h⟩
def all2 (B : Hp) : List V → List VP → Prop
  | [], [] => True
  | v :: vs, P :: Ps => P.p B v ∧ all2 B vs Ps
  | _, _ => False
theorem all2_m {B B' : Hp} (e : Ex B B') : ∀ {vs : List V} {Ps : List VP}, all2 B vs Ps → all2 B' vs Ps
  | [], [], _ => True.intro
  | _ :: _, P :: _, ⟨h1, h2⟩ => ⟨P.m e h1, all2_m e h2⟩
  | [], _ :: _, h => h.elim
  | _ :: _, [], h => h.elim
theorem all2_len {B : Hp} : ∀ {vs : List V} {Ps : List VP}, all2 B vs Ps → vs.length = Ps.length
  | [], [], _ => rfl
  | _ :: vs, _ :: Ps, ⟨_, h2⟩ => congrArg (· + 1) (all2_len (vs := vs) (Ps := Ps) h2)
  | [], _ :: _, h => h.elim
  | _ :: _, [], h => h.elim
theorem all2_snoc {B : Hp} {v : V} {P : VP} : ∀ {vs : List V} {Ps : List VP}, all2 B vs Ps → P.p B v → all2 B (vs ++ [v]) (Ps ++ [P])
  | [], [], _, h => ⟨h, True.intro⟩
  | _ :: vs, _ :: Ps, ⟨h1, h2⟩, h => ⟨h1, all2_snoc (vs := vs) (Ps := Ps) h2 h⟩
  | [], _ :: _, h, _ => h.elim
  | _ :: _, [], h, _ => h.elim
theorem all2_get {B : Hp} : ∀ {vs : List V} {Ps : List VP} {i : Nat} {P : VP}, all2 B vs Ps → Ps[i]? = some P → ∃ v, vs[i]? = some v ∧ P.p B v
  | [], [], i, P, _, e => by simp at e
  | v :: vs, Q :: Ps, 0, P, ⟨h1, h2⟩, e => by
    simp at e
    subst e
    exact ⟨v, rfl, h1⟩
  | v :: vs, Q :: Ps, i + 1, P, ⟨h1, h2⟩, e => by
    obtain ⟨u, a, b⟩ := all2_get (i := i) h2 (by simpa using e)
    exact ⟨u, by simpa using a, b⟩
  | [], _ :: _, _, _, h, _ => h.elim
  | _ :: _, [], _, _, h, _ => h.elim
theorem all2_at {B : Hp} {vs : List V} {Ps : List VP} {i : Nat} {v : V} (h : all2 B vs Ps) (e : vs[i]? = some v) : ∃ P, Ps[i]? = some P ∧ P.p B v := by
  have l := all2_len h
  have hi : i < vs.length := (List.getElem?_eq_some_iff.mp e).1
  have hp : Ps[i]? = some (Ps[i]'(l ▸ hi)) := List.getElem?_eq_getElem _
  obtain ⟨u, a, b⟩ := all2_get h hp
  rw [e] at a
  cases a
  exact ⟨_, hp, b⟩
theorem all2_dt {B : Hp} : ∀ {vs : List V} {ds : List PyData}, all2 B vs (ds.map dp) ↔ DtAll B vs ds
  | [], [] => ⟨fun _ => .nil, fun _ => True.intro⟩
  | v :: vs, d :: ds => ⟨fun ⟨h1, h2⟩ => .cons h1 ((all2_dt (vs := vs) (ds := ds)).mp h2), fun h => by
    cases h with
    | cons h1 h2 => exact ⟨h1, (all2_dt (vs := vs) (ds := ds)).mpr h2⟩⟩
  | [], _ :: _ => ⟨fun h => h.elim, fun h => by cases h⟩
  | _ :: _, [] => ⟨fun h => h.elim, fun h => by cases h⟩
/-- a list of such; a tuple of such -/
def lst (Ps : List VP) : VP := ⟨fun B v => ∃ a xs, v = .ref a ∧ B a = some (.lst xs) ∧ all2 B xs Ps, fun e ⟨a, xs, h1, h2, h3⟩ => ⟨a, xs, h1, e _ _ h2, all2_m e h3⟩⟩
def tup (Ps : List VP) : VP := ⟨fun B v => ∃ a xs, v = .ref a ∧ B a = some (.tup xs) ∧ all2 B xs Ps, fun e ⟨a, xs, h1, h2, h3⟩ => ⟨a, xs, h1, e _ _ h2, all2_m e h3⟩⟩
theorem lst_dp {B : Hp} {v : V} {ds : List PyData} : (lst (ds.map dp)).p B v ↔ (dp (.list ds)).p B v :=
  ⟨fun ⟨a, xs, h1, h2, h3⟩ => by subst h1; exact .lst h2 (all2_dt.mp h3), fun h => by
    cases h with
    | lst h1 h2 => exact ⟨_, _, rfl, h1, all2_dt.mpr h2⟩⟩
theorem tup_dp {B : Hp} {v : V} {ds : List PyData} : (tup (ds.map dp)).p B v ↔ (dp (.tuple ds)).p B v :=
  ⟨fun ⟨a, xs, h1, h2, h3⟩ => by subst h1; exact .tup h2 (all2_dt.mp h3), fun h => by
    cases h with
    | tup h1 h2 => exact ⟨_, _, rfl, h1, all2_dt.mpr h2⟩⟩
theorem dp_int {B : Hp} {v : V} {i : Int} : (dp (.int i)).p B v ↔ v = .int i := ⟨fun h => by cases h; rfl, fun h => by subst h; exact .int i⟩
theorem dp_bl {B : Hp} {v : V} {i : Bool} : (dp (.bool i)).p B v ↔ v = .bl i := ⟨fun h => by cases h; rfl, fun h => by subst h; exact .bl i⟩
theorem dp_str {B : Hp} {v : V} {i : Str} : (dp (.str i)).p B v ↔ v = .str i := ⟨fun h => by cases h; rfl, fun h => by subst h; exact .str i⟩
theorem dp_non {B : Hp} {v : V} : (dp .none).p B v ↔ v = .non := ⟨fun h => by cases h; rfl, fun h => by subst h; exact .non⟩
end TL
set_option maxHeartbeats 4000000
/-! What an expression evaluates to. -/
namespace TL
open PySem L2

def EvP (te : TE) (σ : L2.St) (B : Hp) (P : VP) : Prop := ∀ H, Ex B H → ∀ Q : VK, (∀ v B' H', Step B H B' H' → P.p B' v → Q v H') → te σ H Q
def EvB (tt : TT) (σ : L2.St) (B : Hp) (b : Bool) : Prop := ∀ H, Ex B H → ∀ Q : Bool → Hp → Prop, (∀ B' H', Step B H B' H' → Q b H') → tt σ H Q
def EvL (ta : TA) (σ : L2.St) (B : Hp) (Ps : List VP) : Prop := ∀ H, Ex B H → ∀ Q : List V → Hp → Prop, (∀ vs B' H', Step B H B' H' → all2 B' vs Ps → Q vs H') → ta σ H Q
def RV (r : R2) (x y : V) (B : Hp) (P : VP) : Prop := ∀ H, Ex B H → ∀ Q : VK, (∀ v B' H', Step B H B' H' → P.p B' v → Q v H') → r x y H Q
def RU (r : V → Hp → VK → Prop) (x : V) (B : Hp) (P : VP) : Prop := ∀ H, Ex B H → ∀ Q : VK, (∀ v B' H', Step B H B' H' → P.p B' v → Q v H') → r x H Q
def RC (r : List V → Hp → VK → Prop) (xs : List V) (B : Hp) (P : VP) : Prop := ∀ H, Ex B H → ∀ Q : VK, (∀ v B' H', Step B H B' H' → P.p B' v → Q v H') → r xs H Q
section
variable {K : PySem.W.Frag} {σ : L2.St} {B B1 H : Hp} {ta tb te tx : TE} {t u : TT} {P Pa Pb : VP} {r : R2}
theorem EvP.mono (h : EvP te σ B P) (e : Ex B B1) : EvP te σ B1 P := fun H e1 Q q => h H (e.trans e1) Q fun v B' H' s p => by
  obtain ⟨B2, e2, s2⟩ := s.widen e e1
  exact q v B2 H' s2 (P.m e2 p)
theorem EvB.mono {b : Bool} (h : EvB t σ B b) (e : Ex B B1) : EvB t σ B1 b := fun H e1 Q q => h H (e.trans e1) Q fun B' H' s => by
  obtain ⟨B2, e2, s2⟩ := s.widen e e1
  exact q B2 H' s2
theorem EvL.mono {ta : TA} {Ps : List VP} (h : EvL ta σ B Ps) (e : Ex B B1) : EvL ta σ B1 Ps := fun H e1 Q q => h H (e.trans e1) Q fun v B' H' s p => by
  obtain ⟨B2, e2, s2⟩ := s.widen e e1
  exact q v B2 H' s2 (all2_m e2 p)
theorem EvP.imp (h : EvP te σ B P) (i : ∀ B' v, Ex B B' → P.p B' v → Pa.p B' v) : EvP te σ B Pa := fun H e1 Q q => h H e1 Q fun v B' H' s p => q v B' H' s (i B' v s.eb p)
theorem EvP.to (h : EvP te σ B P) (e : P = Pa) : EvP te σ B Pa := e ▸ h
theorem EvB.to {a b : Bool} (h : EvB t σ B a) (e : a = b) : EvB t σ B b := e ▸ h
/-- nothing new: the value is known -/
theorem ev_now (h : ∀ H, Ex B H → ∀ Q : VK, (∀ v, P.p B v → Q v H) → te σ H Q) : EvP te σ B P := fun H e Q q => h H e Q fun v p => q v B H (Step.refl e) p
theorem ev_var {i : Nat} {v : V} (h : σ[i]? = some (some v)) (p : P.p B v) : EvP (tVar i) σ B P := fun H e Q q => ⟨v, h, q v B H (Step.refl e) p⟩
theorem ev_c {v : V} (p : P.p B v) : EvP (tC v) σ B P := fun H e Q q => q v B H (Step.refl e) p
theorem ev_int {i : Int} : EvP (tC (.int i)) σ B (dp (.int i)) := ev_c (.int i)
theorem ev_bl {i : Bool} : EvP (tC (.bl i)) σ B (dp (.bool i)) := ev_c (.bl i)
theorem ev_str {i : Str} : EvP (tC (.str i)) σ B (dp (.str i)) := ev_c (.str i)
theorem ev_non : EvP (tC .non) σ B (dp .none) := ev_c .non
theorem ev_op (ha : EvP ta σ B Pa) (hb : EvP tb σ B Pb) (hr : ∀ B' x y, Ex B B' → Pa.p B' x → Pb.p B' y → RV r x y B' P) : EvP (tOp r ta tb) σ B P := fun H e Q q =>
  ha H e _ fun x B1 H1 s1 p1 => hb.mono s1.eb H1 s1.bh _ fun y B2 H2 s2 p2 => hr B2 x y (s1.eb.trans s2.eb) (Pa.m s2.eb p1) p2 H2 s2.bh Q fun v B3 H3 s3 p3 => q v B3 H3 ((s1.trans s2).trans s3) p3
theorem ev_un {r : V → Hp → VK → Prop} (ha : EvP ta σ B Pa) (hr : ∀ B' x, Ex B B' → Pa.p B' x → RU r x B' P) : EvP (tUn r ta) σ B P := fun H e Q q =>
  ha H e _ fun x B1 H1 s1 p1 => hr B1 x s1.eb p1 H1 s1.bh Q fun v B3 H3 s3 p3 => q v B3 H3 (s1.trans s3) p3
/-- a value that is there -/
theorem rv_now {x y : V} (h : ∀ H, Ex B H → ∀ Q : VK, (∀ v, P.p B v → Q v H) → r x y H Q) : RV r x y B P := fun H e Q q => h H e Q fun v p => q v B H (Step.refl e) p

/-! ### whole numbers -/
theorem ev_opI {g : Int → Int → V} {i j : Int} (ha : EvP ta σ B (dp (.int i))) (hb : EvP tb σ B (dp (.int j))) (hp : ∀ B', P.p B' (g i j)) : EvP (tOp (rI0 g) ta tb) σ B P :=
  ev_op ha hb fun B' x y _ hx hy => by
    cases dp_int.mp hx
    cases dp_int.mp hy
    exact fun H e Q q => ⟨i, j, rfl, rfl, q _ B' H (Step.refl e) (hp B')⟩
theorem ev_opC {C : Int → Int → Prop} {g : Int → Int → V} {i j : Int} (ha : EvP ta σ B (dp (.int i))) (hb : EvP tb σ B (dp (.int j))) (hc : C i j) (hp : ∀ B', P.p B' (g i j)) : EvP (tOp (rI C g) ta tb) σ B P :=
  ev_op ha hb fun B' x y _ hx hy => by
    cases dp_int.mp hx
    cases dp_int.mp hy
    exact fun H e Q q => ⟨i, j, rfl, rfl, hc, q _ B' H (Step.refl e) (hp B')⟩
theorem ev_add {i j : Int} (ha : EvP ta σ B (dp (.int i))) (hb : EvP tb σ B (dp (.int j))) : EvP (tOp (rI0 fun i j => .int (i + j)) ta tb) σ B (dp (.int (i + j))) := ev_opI ha hb fun _ => .int _
theorem ev_sub {i j : Int} (ha : EvP ta σ B (dp (.int i))) (hb : EvP tb σ B (dp (.int j))) : EvP (tOp (rI0 fun i j => .int (i - j)) ta tb) σ B (dp (.int (i - j))) := ev_opI ha hb fun _ => .int _
theorem ev_mul {i j : Int} (ha : EvP ta σ B (dp (.int i))) (hb : EvP tb σ B (dp (.int j))) (hc : CMul i j) : EvP (tOp (rI CMul fun i j => .int (i * j)) ta tb) σ B (dp (.int (i * j))) := ev_opC ha hb hc fun _ => .int _
theorem ev_mod {i j : Int} (ha : EvP ta σ B (dp (.int i))) (hb : EvP tb σ B (dp (.int j))) (hc : 0 < j) : EvP (tOp (rI (fun _ j => 0 < j) fun i j => .int (i % j)) ta tb) σ B (dp (.int (i % j))) := ev_opC ha hb hc fun _ => .int _
theorem ev_fdiv {i j : Int} (ha : EvP ta σ B (dp (.int i))) (hb : EvP tb σ B (dp (.int j))) (hc : CDiv i j) : EvP (tOp (rI CDiv fun i j => .int (i / j)) ta tb) σ B (dp (.int (i / j))) := ev_opC ha hb hc fun _ => .int _
theorem ev_lt {i j : Int} (ha : EvP ta σ B (dp (.int i))) (hb : EvP tb σ B (dp (.int j))) : EvP (tOp (rI0 fun i j => .bl (decide (i < j))) ta tb) σ B (dp (.bool (decide (i < j)))) := ev_opI ha hb fun _ => .bl _
theorem ev_le {i j : Int} (ha : EvP ta σ B (dp (.int i))) (hb : EvP tb σ B (dp (.int j))) : EvP (tOp (rI0 fun i j => .bl (decide (i ≤ j))) ta tb) σ B (dp (.bool (decide (i ≤ j)))) := ev_opI ha hb fun _ => .bl _
theorem ev_gt {i j : Int} (ha : EvP ta σ B (dp (.int i))) (hb : EvP tb σ B (dp (.int j))) : EvP (tOp (rI0 fun i j => .bl (decide (j < i))) ta tb) σ B (dp (.bool (decide (j < i)))) := ev_opI ha hb fun _ => .bl _
theorem ev_ge {i j : Int} (ha : EvP ta σ B (dp (.int i))) (hb : EvP tb σ B (dp (.int j))) : EvP (tOp (rI0 fun i j => .bl (decide (j ≤ i))) ta tb) σ B (dp (.bool (decide (j ≤ i)))) := ev_opI ha hb fun _ => .bl _
theorem ev_neg {i : Int} (ha : EvP ta σ B (dp (.int i))) : EvP (tUn (rU fun i => .int (-i)) ta) σ B (dp (.int (-i))) := ev_un ha fun B' x _ hx => by
  cases dp_int.mp hx
  exact fun H e Q q => ⟨i, rfl, q _ B' H (Step.refl e) (.int _)⟩
/-- == and != of scalars -/
theorem ev_eqV {x y : V} (ha : EvP ta σ B (isV x)) (hb : EvP tb σ B (isV y)) (hs : scal x y = true) : EvP (tOp rEq ta tb) σ B (dp (.bool (decide (x = y)))) := ev_op ha hb fun B' x' y' _ hx hy => by
  cases (show x' = x from hx)
  cases (show y' = y from hy)
  exact fun H e Q q => ⟨hs, q _ B' H (Step.refl e) (.bl _)⟩
theorem ev_neV {x y : V} (ha : EvP ta σ B (isV x)) (hb : EvP tb σ B (isV y)) (hs : scal x y = true) : EvP (tOp rNe ta tb) σ B (dp (.bool (!decide (x = y)))) := ev_op ha hb fun B' x' y' _ hx hy => by
  cases (show x' = x from hx)
  cases (show y' = y from hy)
  exact fun H e Q q => ⟨hs, q _ B' H (Step.refl e) (.bl _)⟩
theorem EvP.i {i : Int} (h : EvP te σ B (dp (.int i))) : EvP te σ B (isV (.int i)) := h.imp fun _ _ _ p => dp_int.mp p
theorem EvP.b {i : Bool} (h : EvP te σ B (dp (.bool i))) : EvP te σ B (isV (.bl i)) := h.imp fun _ _ _ p => dp_bl.mp p
theorem EvP.s {i : Str} (h : EvP te σ B (dp (.str i))) : EvP te σ B (isV (.str i)) := h.imp fun _ _ _ p => dp_str.mp p
theorem ev_eq {i j : Int} (ha : EvP ta σ B (dp (.int i))) (hb : EvP tb σ B (dp (.int j))) : EvP (tOp rEq ta tb) σ B (dp (.bool (decide (i = j)))) := (ev_eqV ha.i hb.i rfl).to (by rw [dec_int, Bool.beq_eq_decide_eq])
theorem ev_ne {i j : Int} (ha : EvP ta σ B (dp (.int i))) (hb : EvP tb σ B (dp (.int j))) : EvP (tOp rNe ta tb) σ B (dp (.bool (!decide (i = j)))) := (ev_neV ha.i hb.i rfl).to (by rw [dec_int, Bool.beq_eq_decide_eq])
theorem ev_eqB {i j : Bool} (ha : EvP ta σ B (dp (.bool i))) (hb : EvP tb σ B (dp (.bool j))) : EvP (tOp rEq ta tb) σ B (dp (.bool (i == j))) := (ev_eqV ha.b hb.b rfl).to (by rw [dec_bl])
theorem ev_neB {i j : Bool} (ha : EvP ta σ B (dp (.bool i))) (hb : EvP tb σ B (dp (.bool j))) : EvP (tOp rNe ta tb) σ B (dp (.bool (!(i == j)))) := (ev_neV ha.b hb.b rfl).to (by rw [dec_bl])
theorem ev_eqS {i j : Str} (ha : EvP ta σ B (dp (.str i))) (hb : EvP tb σ B (dp (.str j))) : EvP (tOp rEq ta tb) σ B (dp (.bool (i == j))) := (ev_eqV ha.s hb.s rfl).to (by rw [dec_str])
theorem ev_neS {i j : Str} (ha : EvP ta σ B (dp (.str i))) (hb : EvP tb σ B (dp (.str j))) : EvP (tOp rNe ta tb) σ B (dp (.bool (!(i == j)))) := (ev_neV ha.s hb.s rfl).to (by rw [dec_str])

/-! ### tests -/
theorem eb_test {b : Bool} (h : EvP te σ B (dp (.bool b))) : EvB (tTest te) σ B b := fun H e Q q => h H e _ fun v B' H' s p => ⟨b, dp_bl.mp p, q B' H' s⟩
theorem eb_B {b : Bool} (h : EvP te σ B (dp (.bool b))) : EvB (tB te) σ B b := fun H e Q q => h H e _ fun v B' H' s p => ⟨b, dp_bl.mp p, q B' H' s⟩
theorem eb_and {a b : Bool} (h1 : EvB t σ B a) (h2 : a = true → EvB u σ B b) : EvB (tAnd t u) σ B (a && b) := fun H e Q q => h1 H e _ fun B1 H1 s1 => by
  cases a with
  | true => exact (h2 rfl).mono s1.eb H1 s1.bh Q fun B2 H2 s2 => q B2 H2 (s1.trans s2)
  | false => exact q B1 H1 s1
theorem eb_or {a b : Bool} (h1 : EvB t σ B a) (h2 : a = false → EvB u σ B b) : EvB (tOr t u) σ B (a || b) := fun H e Q q => h1 H e _ fun B1 H1 s1 => by
  cases a with
  | true => exact q B1 H1 s1
  | false => exact (h2 rfl).mono s1.eb H1 s1.bh Q fun B2 H2 s2 => q B2 H2 (s1.trans s2)
theorem eb_not {a : Bool} (h1 : EvB t σ B a) : EvB (tNot t) σ B (!a) := fun H e Q q => h1 H e _ fun B1 H1 s1 => q B1 H1 s1
theorem ev_andV {a b : Bool} (h1 : EvP ta σ B (dp (.bool a))) (h2 : a = true → EvP tb σ B (dp (.bool b))) : EvP (tAndV ta tb) σ B (dp (.bool (a && b))) := fun H e Q q => h1 H e _ fun v B1 H1 s1 p1 => by
  cases dp_bl.mp p1
  refine ⟨a, rfl, ?_⟩
  cases a with
  | true => exact (h2 rfl).mono s1.eb H1 s1.bh Q fun v B2 H2 s2 p2 => q v B2 H2 (s1.trans s2) p2
  | false => exact q _ B1 H1 s1 (.bl _)
theorem ev_orV {a b : Bool} (h1 : EvP ta σ B (dp (.bool a))) (h2 : a = false → EvP tb σ B (dp (.bool b))) : EvP (tOrV ta tb) σ B (dp (.bool (a || b))) := fun H e Q q => h1 H e _ fun v B1 H1 s1 p1 => by
  cases dp_bl.mp p1
  refine ⟨a, rfl, ?_⟩
  cases a with
  | true => exact q _ B1 H1 s1 (.bl _)
  | false => exact (h2 rfl).mono s1.eb H1 s1.bh Q fun v B2 H2 s2 p2 => q v B2 H2 (s1.trans s2) p2
theorem ev_notV {a : Bool} (h1 : EvP ta σ B (dp (.bool a))) : EvP (tNotV ta) σ B (dp (.bool (!a))) := fun H e Q q => h1 H e _ fun v B1 H1 s1 p1 => ⟨a, dp_bl.mp p1, q _ B1 H1 s1 (.bl _)⟩
theorem ev_if {b : Bool} (h : EvB t σ B b) (h1 : b = true → EvP ta σ B P) (h2 : b = false → EvP tb σ B P) : EvP (tIf t ta tb) σ B P := fun H e Q q => h H e _ fun B1 H1 s1 => by
  cases b with
  | true => exact (h1 rfl).mono s1.eb H1 s1.bh Q fun v B2 H2 s2 p2 => q v B2 H2 (s1.trans s2) p2
  | false => exact (h2 rfl).mono s1.eb H1 s1.bh Q fun v B2 H2 s2 p2 => q v B2 H2 (s1.trans s2) p2
/-- is None, is not None -/
theorem ev_isN {x : V} (ha : EvP ta σ B (isV x)) : EvP (tIsN ta) σ B (dp (.bool (decide (x = .non)))) := fun H e Q q => ha H e _ fun v B1 H1 s1 p1 => by
  cases (show v = x from p1)
  exact q _ B1 H1 s1 (.bl _)
theorem ev_chain {r' : R2} {tc : TE} {Pc : VP} {a b : Bool} (ha : EvP ta σ B Pa) (hb : EvP tb σ B Pb) (hc : a = true → EvP tc σ B Pc) (hr : ∀ B' x y, Ex B B' → Pa.p B' x → Pb.p B' y → RV r x y B' (dp (.bool a))) (hr' : a = true → ∀ B' x y, Ex B B' → Pb.p B' x → Pc.p B' y → RV r' x y B' (dp (.bool b))) :
    EvP (tChain r r' ta tb tc) σ B (dp (.bool (a && b))) := fun H e Q q =>
  ha H e _ fun x B1 H1 s1 p1 => hb.mono s1.eb H1 s1.bh _ fun y B2 H2 s2 p2 => hr B2 x y (s1.eb.trans s2.eb) (Pa.m s2.eb p1) p2 H2 s2.bh _ fun v B3 H3 s3 p3 => by
    cases dp_bl.mp p3
    refine ⟨a, rfl, ?_⟩
    have s13 := (s1.trans s2).trans s3
    cases a with
    | true => exact (hc rfl).mono s13.eb H3 s13.bh _ fun z B4 H4 s4 p4 => hr' rfl B4 y z (s13.eb.trans s4.eb) (Pb.m (s3.eb.trans s4.eb) p2) p4 H4 s4.bh Q fun v B5 H5 s5 p5 => q v B5 H5 ((s13.trans s4).trans s5) p5
    | false => exact q _ B3 H3 s13 (.bl _)
theorem ev_le3 {i j k : Int} {tc : TE} (ha : EvP ta σ B (dp (.int i))) (hb : EvP tb σ B (dp (.int j))) (hc : EvP tc σ B (dp (.int k))) : EvP (tChain (rI0 fun i j => .bl (decide (i ≤ j))) (rI0 fun i j => .bl (decide (i ≤ j))) ta tb tc) σ B (dp (.bool (decide (i ≤ j) && decide (j ≤ k)))) :=
  ev_chain ha hb (fun _ => hc) (fun B' x y _ hx hy H e Q q => by
    cases dp_int.mp hx
    cases dp_int.mp hy
    exact ⟨i, j, rfl, rfl, q _ B' H (Step.refl e) (.bl _)⟩) fun _ B' x y _ hx hy H e Q q => by
    cases dp_int.mp hx
    cases dp_int.mp hy
    exact ⟨j, k, rfl, rfl, q _ B' H (Step.refl e) (.bl _)⟩

/-! ### arguments, displays -/
theorem el_nil : EvL tNil σ B [] := fun H e Q q => q [] B H (Step.refl e) True.intro
theorem el_cons {tr : TA} {Ps : List VP} (h : EvP ta σ B P) (hr : EvL tr σ B Ps) : EvL (tCons ta tr) σ B (P :: Ps) := fun H e Q q =>
  h H e _ fun x B1 H1 s1 p1 => hr.mono s1.eb H1 s1.bh _ fun xs B2 H2 s2 p2 => q _ B2 H2 (s1.trans s2) ⟨P.m s2.eb p1, p2⟩
theorem sz_le {n : Nat} (h : n ≤ 1000000) : n ≤ sizeLine := Nat.le_trans h (by decide)
theorem sz_lt {n : Nat} (h : n < 1000000) : n < sizeLine := Nat.lt_of_lt_of_le h (by decide)
theorem ev_tup {ta : TA} {Ps : List VP} (h : EvL ta σ B Ps) (hl : Ps.length ≤ 1000000) : EvP (tTup ta) σ B (tup Ps) := fun H e Q q =>
  h H e _ fun xs B1 H1 s1 p1 => ⟨sz_le (by rw [all2_len p1]; exact hl), fun p hp => q _ _ _ (s1.trans (Step.new s1.bh hp)) ⟨p, xs, rfl, upd_same, all2_m (Ex.new (s1.bh.none hp)) p1⟩⟩
theorem ev_lst {ta : TA} {Ps : List VP} (h : EvL ta σ B Ps) (hl : Ps.length ≤ 1000000) : EvP (tLst ta) σ B (lst Ps) := fun H e Q q =>
  h H e _ fun xs B1 H1 s1 p1 => ⟨sz_le (by rw [all2_len p1]; exact hl), fun p hp => q _ _ _ (s1.trans (Step.new s1.bh hp)) ⟨p, xs, rfl, upd_same, all2_m (Ex.new (s1.bh.none hp)) p1⟩⟩
theorem EvP.tupD {ds : List PyData} (h : EvP te σ B (tup (ds.map dp))) : EvP te σ B (dp (.tuple ds)) := h.imp fun _ _ _ p => tup_dp.mp p
theorem EvP.lstD {ds : List PyData} (h : EvP te σ B (lst (ds.map dp))) : EvP te σ B (dp (.list ds)) := h.imp fun _ _ _ p => lst_dp.mp p
theorem EvP.dTup {ds : List PyData} (h : EvP te σ B (dp (.tuple ds))) : EvP te σ B (tup (ds.map dp)) := h.imp fun _ _ _ p => tup_dp.mpr p
theorem EvP.dLst {ds : List PyData} (h : EvP te σ B (dp (.list ds))) : EvP te σ B (lst (ds.map dp)) := h.imp fun _ _ _ p => lst_dp.mpr p
/-! ### subscripts -/
theorem all2_atI {B : Hp} {vs : List V} {Ps : List VP} {i : Int} {P : VP} (h : all2 B vs Ps) (e : atI Ps i = some P) : ∃ v, atI vs i = some v ∧ P.p B v := by
  unfold atI at e ⊢
  rw [all2_len h]
  cases q : ixN Ps.length i with
  | none =>
    rw [q] at e
    cases e
  | some j =>
    rw [q] at e
    exact all2_get h e
theorem ev_ixL {Ps : List VP} {i : Int} (ha : EvP ta σ B (lst Ps)) (hb : EvP tb σ B (dp (.int i))) (hi : atI Ps i = some P) : EvP (tOp (rIxL K) ta tb) σ B P := ev_op ha hb fun B' x y _ hx hy H e Q q => by
  obtain ⟨a, xs, rfl, h1, h2⟩ := hx
  cases dp_int.mp hy
  obtain ⟨v, h3, h4⟩ := all2_atI h2 hi
  exact ⟨a, xs, i, v, rfl, rfl, SqL.of (e _ _ h1), h3, q v B' H (Step.refl e) h4⟩
theorem ev_ixT {Ps : List VP} {i : Int} (ha : EvP ta σ B (tup Ps)) (hb : EvP tb σ B (dp (.int i))) (hi : atI Ps i = some P) : EvP (tOp (rIxT K) ta tb) σ B P := ev_op ha hb fun B' x y _ hx hy H e Q q => by
  obtain ⟨a, xs, rfl, h1, h2⟩ := hx
  cases dp_int.mp hy
  obtain ⟨v, h3, h4⟩ := all2_atI h2 hi
  exact ⟨a, xs, i, v, rfl, rfl, SqT.of (e _ _ h1), h3, q v B' H (Step.refl e) h4⟩
theorem atI_map {α β : Type} (f : α → β) {l : List α} {i : Int} {x : α} (h : atI l i = some x) : atI (l.map f) i = some (f x) := by
  unfold atI at h ⊢
  rw [List.length_map]
  cases q : ixN l.length i with
  | none =>
    rw [q] at h
    cases h
  | some j =>
    rw [q] at h
    have h' : l[j]? = some x := h
    show (l.map f)[j]? = some (f x)
    rw [List.getElem?_map, h']
    rfl
theorem ev_ixLd {ds : List PyData} {d : PyData} {i : Int} (ha : EvP ta σ B (dp (.list ds))) (hb : EvP tb σ B (dp (.int i))) (hi : atI ds i = some d) : EvP (tOp (rIxL K) ta tb) σ B (dp d) := ev_ixL ha.dLst hb (atI_map dp hi)
theorem ev_ixTd {ds : List PyData} {d : PyData} {i : Int} (ha : EvP ta σ B (dp (.tuple ds))) (hb : EvP tb σ B (dp (.int i))) (hi : atI ds i = some d) : EvP (tOp (rIxT K) ta tb) σ B (dp d) := ev_ixT ha.dTup hb (atI_map dp hi)
/-! ### == of data -/
theorem ev_eqD {d e : PyData} (ha : EvP ta σ B (dp d)) (hb : EvP tb σ B (dp e)) (hd : SeqAt.shaped d = true) (he : SeqAt.shaped e = true) : EvP (tOp (rEqD K) ta tb) σ B (dp (.bool (PyData.eqv d e))) := ev_op ha hb fun B' x y _ hx hy H ex Q q =>
  ⟨d, e, Dt.dp d _ (Dt.m ex _ _ hx), Dt.dp e _ (Dt.m ex _ _ hy), hd, he, q _ B' H (Step.refl ex) (.bl _)⟩
theorem ev_neD {d e : PyData} (ha : EvP ta σ B (dp d)) (hb : EvP tb σ B (dp e)) (hd : SeqAt.shaped d = true) (he : SeqAt.shaped e = true) : EvP (tOp (rNeD K) ta tb) σ B (dp (.bool (!PyData.eqv d e))) := ev_op ha hb fun B' x y _ hx hy H ex Q q =>
  ⟨d, e, Dt.dp d _ (Dt.m ex _ _ hx), Dt.dp e _ (Dt.m ex _ _ hy), hd, he, q _ B' H (Step.refl ex) (.bl _)⟩
/-! ### built-in calls -/
theorem ev_cb {r : List V → Hp → VK → Prop} {ta : TA} {Ps : List VP} (h : EvL ta σ B Ps) (hr : ∀ B' xs, Ex B B' → all2 B' xs Ps → RC r xs B' P) : EvP (tCB r ta) σ B P := fun H e Q q =>
  h H e _ fun xs B1 H1 s1 p1 => hr B1 xs s1.eb p1 H1 s1.bh Q fun v B2 H2 s2 p2 => q v B2 H2 (s1.trans s2) p2
theorem all2_1 {B : Hp} {xs : List V} {P : VP} (h : all2 B xs [P]) : ∃ x, xs = [x] ∧ P.p B x := by
  match xs, h with
  | [x], ⟨h1, _⟩ => exact ⟨x, rfl, h1⟩
theorem all2_2 {B : Hp} {xs : List V} {P P2 : VP} (h : all2 B xs [P, P2]) : ∃ x y, xs = [x, y] ∧ P.p B x ∧ P2.p B y := by
  match xs, h with
  | [x, y], ⟨h1, h2, _⟩ => exact ⟨x, y, rfl, h1, h2⟩
theorem all2_3 {B : Hp} {xs : List V} {P P2 P3 : VP} (h : all2 B xs [P, P2, P3]) : ∃ x y z, xs = [x, y, z] ∧ P.p B x ∧ P2.p B y ∧ P3.p B z := by
  match xs, h with
  | [x, y, z], ⟨h1, h2, h3, _⟩ => exact ⟨x, y, z, rfl, h1, h2, h3⟩
/-- len of a list, of a tuple (by call_len_seq) -/
def rLenS (K : PySem.W.Frag) : List V → Hp → VK → Prop := fun xs H Q => ∃ p ys, xs = [.ref p] ∧ (SqL K H p ys ∨ SqT K H p ys) ∧ Q (.int ys.length) H
theorem ev_lenL {Ps : List VP} (ha : EvP ta σ B (lst Ps)) : EvP (tCB (rLenS K) (tCons ta tNil)) σ B (dp (.int Ps.length)) := ev_cb (el_cons ha el_nil) fun B' xs _ h H e Q q => by
  obtain ⟨x, rfl, a, ys, rfl, h1, h2⟩ := all2_1 h
  exact ⟨a, ys, rfl, .inl (SqL.of (e _ _ h1)), q _ B' H (Step.refl e) (dp_int.mpr (by rw [all2_len h2]))⟩
theorem ev_lenT {Ps : List VP} (ha : EvP ta σ B (tup Ps)) : EvP (tCB (rLenS K) (tCons ta tNil)) σ B (dp (.int Ps.length)) := ev_cb (el_cons ha el_nil) fun B' xs _ h H e Q q => by
  obtain ⟨x, rfl, a, ys, rfl, h1, h2⟩ := all2_1 h
  exact ⟨a, ys, rfl, .inr (SqT.of (e _ _ h1)), q _ B' H (Step.refl e) (dp_int.mpr (by rw [all2_len h2]))⟩
theorem ev_lenLd {ds : List PyData} (ha : EvP ta σ B (dp (.list ds))) : EvP (tCB (rLenS K) (tCons ta tNil)) σ B (dp (.int ds.length)) := (ev_lenL ha.dLst).to (by rw [List.length_map])
theorem ev_lenTd {ds : List PyData} (ha : EvP ta σ B (dp (.tuple ds))) : EvP (tCB (rLenS K) (tCons ta tNil)) σ B (dp (.int ds.length)) := (ev_lenT ha.dTup).to (by rw [List.length_map])
/-- list(xs) -/
def rListS (K : PySem.W.Frag) : List V → Hp → VK → Prop := fun xs H Q => ∃ p ys, xs = [.ref p] ∧ (SqL K H p ys ∨ SqT K H p ys) ∧ ∀ l, H l = none → Q (.ref l) (upd H l (.lst ys))
theorem ev_list {Ps : List VP} (ha : EvP ta σ B (lst Ps)) : EvP (tCB (rListS K) (tCons ta tNil)) σ B (lst Ps) := ev_cb (el_cons ha el_nil) fun B' xs _ h H e Q q => by
  obtain ⟨x, rfl, a, ys, rfl, h1, h2⟩ := all2_1 h
  exact ⟨a, ys, rfl, .inl (SqL.of (e _ _ h1)), fun l hl => q _ _ _ (Step.new e hl) ⟨l, ys, rfl, upd_same, all2_m (Ex.new (e.none hl)) h2⟩⟩
/-- tuple(xs), xs a list -/
def rTupS (K : PySem.W.Frag) : List V → Hp → VK → Prop := fun xs H Q => ∃ p ys, xs = [.ref p] ∧ ((SqL K H p ys ∧ ∀ l, H l = none → Q (.ref l) (upd H l (.tup ys))) ∨ (SqT K H p ys ∧ Q (.ref p) H))
theorem ev_tuple {Ps : List VP} (ha : EvP ta σ B (lst Ps)) : EvP (tCB (rTupS K) (tCons ta tNil)) σ B (tup Ps) := ev_cb (el_cons ha el_nil) fun B' xs _ h H e Q q => by
  obtain ⟨x, rfl, a, ys, rfl, h1, h2⟩ := all2_1 h
  exact ⟨a, ys, rfl, .inl ⟨SqL.of (e _ _ h1), fun l hl => q _ _ _ (Step.new e hl) ⟨l, ys, rfl, upd_same, all2_m (Ex.new (e.none hl)) h2⟩⟩⟩
theorem ev_listD {ds : List PyData} (ha : EvP ta σ B (dp (.list ds))) : EvP (tCB (rListS K) (tCons ta tNil)) σ B (dp (.list ds)) := (ev_list ha.dLst).lstD
theorem ev_tupleD {ds : List PyData} (ha : EvP ta σ B (dp (.list ds))) : EvP (tCB (rTupS K) (tCons ta tNil)) σ B (dp (.tuple ds)) := (ev_tuple ha.dLst).tupD
end
end TL
set_option maxHeartbeats 4000000
/-! Calls, fields, statements, loops, comprehensions. -/
namespace TL
open PySem L2

/-! ### promises -/
/-- a def that changes nothing that is known: R is what is known of its value -/
def spP (Dom : List V → Hp → VP → Prop) : Sp := fun vs H Q _ => ∃ B R, Ex B H ∧ Dom vs B R ∧ ∀ v B' H', Step B H B' H' → R.p B' v → Q v H'
section
variable {K : PySem.W.Frag} {σ : L2.St} {B B1 H : Hp} {ta tb te tx tl : TE} {t u : TT} {P Pa Pb : VP} {r : R2}
theorem ev_call {Dom : List V → Hp → VP → Prop} {E : XK} {ta : TA} {As : List VP} (h : EvL ta σ B As) (hd : ∀ vs B', Ex B B' → all2 B' vs As → Dom vs B' P) : EvP (tCall (spP Dom) [] E ta) σ B P := fun H e Q q =>
  h H e _ fun vs B1 H1 s1 p1 => ⟨B1, P, s1.bh, (by rw [List.append_nil]; exact hd vs B1 s1.eb p1), fun v B2 H2 s2 p2 => q v B2 H2 (s1.trans s2) p2⟩

/-! ### instances -/
def insAt (C : Addr) (Fs : List (Str × VP)) (B : Hp) (v : V) : Prop := ∃ (a dx : Addr) (fs : List (Str × V)), v = .ref a ∧ B a = some (.ins C dx fs) ∧ fs.map (·.1) = Fs.map (·.1) ∧ all2 B (fs.map (·.2)) (Fs.map (·.2))
def ins (C : Addr) (Fs : List (Str × VP)) : VP := ⟨insAt C Fs, fun e ⟨a, dx, fs, h1, h2, h3, h4⟩ => ⟨a, dx, fs, h1, e _ _ h2, h3, all2_m e h4⟩⟩
theorem lookup_all2 {f : Str} : ∀ {fs : List (Str × V)} {Fs : List (Str × VP)} {P : VP}, fs.map (·.1) = Fs.map (·.1) → all2 B (fs.map (·.2)) (Fs.map (·.2)) → Fs.lookup f = some P → ∃ v, fs.lookup f = some v ∧ P.p B v
  | [], [], _, _, _, h => by simp at h
  | [], _ :: _, _, h, _, _ => by simp at h
  | _ :: _, [], _, h, _, _ => by simp at h
  | (k, v) :: fs, (k', P') :: Fs, P, h1, ⟨h2, h3⟩, h => by
    simp only [List.map_cons, List.cons.injEq] at h1
    obtain ⟨e, h1⟩ := h1
    subst e
    rw [List.lookup_cons] at h ⊢
    cases q : (f == k) with
    | true =>
      rw [q] at h
      cases h
      exact ⟨v, rfl, h2⟩
    | false =>
      rw [q] at h
      exact lookup_all2 h1 h3 h
theorem lookup_none {f : Str} : ∀ {fs : List (Str × V)} {Fs : List (Str × VP)}, fs.map (·.1) = Fs.map (·.1) → Fs.lookup f = none → fs.lookup f = none
  | [], _, _, _ => rfl
  | _ :: _, [], h, _ => by simp at h
  | (k, v) :: fs, (k', P') :: Fs, h1, h => by
    simp only [List.map_cons, List.cons.injEq] at h1
    obtain ⟨e, h1⟩ := h1
    subst e
    rw [List.lookup_cons] at h ⊢
    cases q : (f == k) with
    | true =>
      rw [q] at h
      cases h
    | false =>
      rw [q] at h
      exact lookup_none h1 h
theorem ev_fld {C : Addr} {Fs : List (Str × VP)} {f : Str} (ha : EvP ta σ B (ins C Fs)) (c : Cls K C) (n : NoAttr K C f) (hf : Fs.lookup f = some P) : EvP (tFld K ta f) σ B P := fun H e Q q => ha H e _ fun v B1 H1 s1 p1 => by
  obtain ⟨a, dx, fs, rfl, h2, h3, h4⟩ := p1
  obtain ⟨v, h5, h6⟩ := lookup_all2 h3 h4 hf
  exact ⟨a, C, dx, fs, v, rfl, s1.bh _ _ h2, c, n, h5, q v B1 H1 s1 h6⟩
theorem ev_meth {C : Addr} {Fs : List (Str × VP)} {m : Str} {Dom : List V → Hp → VP → Prop} {E : XK} {t : TA} {As : List VP} (ha : EvP ta σ B (ins C Fs)) (hm : Fs.lookup m = none) (h : EvL t σ B As)
    (hd : ∀ x vs B', Ex B B' → (ins C Fs).p B' x → all2 B' vs As → Dom (x :: vs) B' P) : EvP (tMeth C m (spP Dom) [] E ta t) σ B P := fun H e Q q => ha H e _ fun v B1 H1 s1 p1 => by
  obtain ⟨a, dx, fs, rfl, h2, h3, h4⟩ := id p1
  refine ⟨a, dx, fs, rfl, s1.bh _ _ h2, lookup_none h3 hm, h.mono s1.eb H1 s1.bh _ fun vs B2 H2 s2 p2 => ?_⟩
  rw [List.append_nil]
  exact ⟨B2, P, s2.bh, hd _ vs B2 (s1.eb.trans s2.eb) ((ins C Fs).m s2.eb p1) p2, fun v B3 H3 s3 p3 => q v B3 H3 ((s1.trans s2).trans s3) p3⟩
/-- as Step, but the object at x may change -/
structure StepX (x : Addr) (B H B' H' : Hp) : Prop where
  eb : Ex B B'
  bh : Ex B' H'
  eh : ∀ a o, a ≠ x → H a = some o → H' a = some o
  hid : ∀ a, a ≠ x → H a ≠ none → B a = none → B' a = none
theorem Step.x {B H B' H' : Hp} (s : Step B H B' H') (x : Addr) : StepX x B H B' H' := ⟨s.eb, s.bh, fun a o _ h => s.eh a o h, fun a _ => s.hid a⟩
theorem StepX.trans {x : Addr} {B H B1 H1 B2 H2 : Hp} (s : StepX x B H B1 H1) (t : StepX x B1 H1 B2 H2) : StepX x B H B2 H2 :=
  ⟨fun a o h => t.eb a o (s.eb a o h), t.bh, fun a o z h => t.eh a o z (s.eh a o z h), fun a z h1 h2 => t.hid a z (by
    cases q : H a with
    | none => exact absurd q h1
    | some o =>
      rw [s.eh a o z q]
      exact fun z => by cases z) (s.hid a z h1 h2)⟩
theorem StepX.poke {x : Addr} {B H B' H' : Hp} {o : HO} (s : StepX x B H B' H') (h : B' x = none) : StepX x B H B' (upd H' x o) :=
  ⟨s.eb, s.bh.poke h, fun a u z e => by
    rw [upd_ne z]
    exact s.eh a u z e, s.hid⟩
theorem StepX.show_ {x : Addr} {B H B' H' : Hp} {o : HO} (s : StepX x B H B' H') (h : B' x = none) (ho : H' x = some o) : StepX x B H (upd B' x o) H' :=
  ⟨s.eb.trans (Ex.new h), fun a u ha => by
    by_cases z : a = x
    · subst z
      rw [upd_same] at ha
      rw [ho]
      exact ha
    · rw [upd_ne z] at ha
      exact s.bh a u ha, s.eh, fun a z h1 h2 => by
    rw [upd_ne z]
    exact s.hid a z h1 h2⟩
/-- behind a maker that failed -/
theorem StepX.lost {x dx : Addr} {o : HO} {B H1 B' H' : Hp} {C : Addr} (hx : H1 x = none) (hd : H1 dx = none) (s : StepX x B (upd (upd H1 dx o) x (.ins C dx [])) B' H') : Step B H1 B' H' := by
  refine ⟨s.eb, s.bh, fun a u h => ?_, fun a h3 h4 => ?_⟩
  · have n1 : a ≠ x := ne_of_none h hx
    refine s.eh a u n1 ?_
    rw [upd_ne n1, upd_ne (ne_of_none h hd)]
    exact h
  · have n1 : a ≠ x := fun z => h3 (by rw [z]; exact hx)
    have n2 : a ≠ dx := fun z => h3 (by rw [z]; exact hd)
    exact s.hid a n1 (by rw [upd_ne n1, upd_ne n2]; exact h3) h4
/-- __init__ of a class: what its fields become -/
def spMk (C : Addr) (Dom : List V → Hp → List (Str × VP) → Prop) : Sp := fun vs H Q _ => ∃ B x dx as Fs, vs = .ref x :: as ∧ Ex B H ∧ B x = none ∧ H x = some (.ins C dx []) ∧ Dom as B Fs ∧
  ∀ B' H' fs, StepX x B H B' H' → H' x = some (.ins C dx fs) → fs.map (·.1) = Fs.map (·.1) → all2 B' (fs.map (·.2)) (Fs.map (·.2)) → Q .non H'
theorem ins_made {C x dx : Addr} {B H1 B' H' : Hp} {fs : List (Str × V)} {Fs : List (Str × VP)} (hx : H1 x = none) (hd : H1 dx = none)
    (s : StepX x B (upd (upd H1 dx (.own x)) x (.ins C dx [])) B' H') (ho : H' x = some (.ins C dx fs)) (h1 : fs.map (·.1) = Fs.map (·.1)) (h2 : all2 B' (fs.map (·.2)) (Fs.map (·.2))) :
    ∃ B2, Step B H1 B2 H' ∧ (ins C Fs).p B2 (.ref x) ∧ Ex B' B2 ∧ ∀ p, p ≠ x → B2 p = B' p := by
  have s1 := s.lost hx hd
  have up : Ex B' (upd B' x (.ins C dx fs)) := fun a u ha => by
    by_cases z : a = x
    · subst z
      rw [upd_same]
      have := s1.bh _ _ ha
      rw [ho] at this
      exact this
    · rw [upd_ne z]
      exact ha
  refine ⟨upd B' x (.ins C dx fs), ⟨s1.eb.trans up, fun a u ha => ?_, s1.eh, fun a h3 h4 => ?_⟩, ⟨x, dx, fs, rfl, upd_same, h1, all2_m up h2⟩, up, fun p hp => upd_ne hp⟩
  · by_cases z : a = x
    · subst z
      rw [upd_same] at ha
      rw [ho]
      exact ha
    · rw [upd_ne z] at ha
      exact s1.bh a u ha
  · have n1 : a ≠ x := fun z => h3 (by rw [z]; exact hx)
    rw [upd_ne n1]
    exact s1.hid a h3 h4
theorem ev_make {C : Addr} {Dom : List V → Hp → List (Str × VP) → Prop} {E : XK} {t : TA} {As : List VP} {Fs : List (Str × VP)} (h : EvL t σ B As) (hd : ∀ vs B', Ex B B' → all2 B' vs As → Dom vs B' Fs) :
    EvP (tMake C (spMk C Dom) [] E t) σ B (ins C Fs) := fun H e Q q => h H e _ fun vs B1 H1 s1 p1 x dx hx hdx hne => by
  rw [List.append_nil]
  have b1 : B1 x = none := s1.bh.none hx
  have b2 : B1 dx = none := s1.bh.none hdx
  refine ⟨B1, x, dx, vs, Fs, rfl, (s1.bh.poke b2).poke b1, b1, upd_same, hd vs B1 s1.eb p1, fun B' H' fs s ho k1 k2 => ⟨rfl, ?_⟩⟩
  obtain ⟨B2, s2, p2, _⟩ := ins_made hx hdx s ho k1 k2
  exact q _ B2 H' (s1.trans s2) p2

/-! ### statements -/
variable {D : Ends} {tu tw tz : TS} {g : TG}
theorem q (h : tu { D with nx := tz D } σ H) : tSeq tu tz D σ H := h
theorem s_asg {i : Nat} (e : Ex B H) (h : EvP te σ B P) (k : ∀ v B' H', Step B H B' H' → P.p B' v → D.nx (σ.set i (some v)) H') : tAsg te (gName i) D σ H := h H e _ fun v B' H' s p => k v B' H' s p
theorem s_ret (e : Ex B H) (h : EvP te σ B P) (k : ∀ v B' H', Step B H B' H' → P.p B' v → D.rt v H') : tRet te D σ H := h H e _ k
theorem s_drop (e : Ex B H) (h : EvP te σ B P) (k : ∀ v B' H', Step B H B' H' → P.p B' v → D.nx σ H') : tDrop te D σ H := h H e _ k
theorem s_if {b : Bool} (e : Ex B H) (h : EvB t σ B b) (h1 : b = true → ∀ B' H', Step B H B' H' → tu D σ H') (h2 : b = false → ∀ B' H', Step B H B' H' → tw D σ H') : tIfS t tu tw D σ H := h H e _ fun B' H' s => by
  cases b with
  | true => exact h1 rfl B' H' s
  | false => exact h2 rfl B' H' s
theorem s_when {b : Bool} (e : Ex B H) (h : EvB t σ B b) (h1 : b = true → ∀ B' H', Step B H B' H' → tu D σ H') (h2 : b = false → ∀ B' H', Step B H B' H' → D.nx σ H') : tIfS t tu tNext D σ H := s_if e h h1 h2
/-- o.f = e, o the object at x that is hidden -/
theorem s_fld {x C dx : Addr} {fs : List (Str × V)} {f : Str} (e : Ex B H) (hv : EvP te σ B P) (hx : B x = none) (ho : H x = some (.ins C dx fs)) (ha : EvP ta σ B (isV (.ref x))) (c : Cls K C) (n : NoAttr K C f) (hl : fs.length < 1000)
    (k : ∀ v B' H', Step B H B' H' → P.p B' v → B' x = none → H' x = some (.ins C dx fs) → D.nx σ (upd H' x (.ins C dx (putF f v fs)))) : sFld K ta te f D σ H := hv H e _ fun v B' H' s p => by
  refine ha.mono s.eb H' s.bh _ fun v2 B2 H2 s2 p2 => ?_
  cases (show v2 = .ref x from p2)
  obtain ⟨b, o⟩ := (s.trans s2).hide hx ho
  exact ⟨x, C, dx, fs, rfl, o, c, n, hl, k v B2 H2 (s.trans s2) (P.m s2.eb p) b o⟩
theorem now_var {i : Nat} {v : V} (h : σ[i]? = some (some v)) : ∀ (H' : Hp) (Q : VK), Q v H' → tVar i σ H' Q := fun _ _ q => ⟨v, h, q⟩
/-- a list that is being made at p -/
structure Acc (p : Addr) (Ps : List VP) (B H : Hp) : Prop where
  b : B p = none
  ex : ∃ xs, H p = some (.lst xs) ∧ all2 B xs Ps
theorem Acc.new {p : Addr} {B H : Hp} (hp : B p = none) : Acc p [] B (upd H p (.lst [])) := ⟨hp, [], upd_same, True.intro⟩
theorem Acc.step {p : Addr} {Ps : List VP} {B H B' H' : Hp} (a : Acc p Ps B H) (s : Step B H B' H') : Acc p Ps B' H' := by
  obtain ⟨h1, xs, h2, h3⟩ := a
  obtain ⟨h4, h5⟩ := s.hide h1 h2
  exact ⟨h4, xs, h5, all2_m s.eb h3⟩
/-- the list is known from now on -/
theorem Acc.done {p : Addr} {Ps : List VP} {B0 H0 B H : Hp} (a : Acc p Ps B H) (s : Step B0 H0 B H) (h0 : H0 p = none) : ∃ B', Step B0 H0 B' H ∧ Ex B B' ∧ (lst Ps).p B' (.ref p) := by
  obtain ⟨h1, xs, h2, h3⟩ := a
  exact ⟨_, s.show_ h0 h1 h2, Ex.new h1, p, xs, rfl, upd_same, all2_m (Ex.new h1) h3⟩
/-- e where [] stands: a new list, being made -/
theorem s_new {i : Nat} (k : ∀ p, H p = none → D.nx (σ.set i (some (.ref p))) (upd H p (.lst []))) : tAsg (tLst tNil) (gName i) D σ H := ⟨Nat.zero_le _, k⟩
/-- xs.append(e) -/
theorem s_app {p : Addr} {Ps : List VP} (e : Ex B H) (a : Acc p Ps B H) (ha : EvP ta σ B (isV (.ref p))) (h : EvP te σ B P) (hz : Ps.length < 1000000)
    (k : ∀ B' H', Ex B B' → Ex B' H' → Acc p (Ps ++ [P]) B' H' → (∃ H1, Step B H B' H1 ∧ ∃ o, H' = upd H1 p o) → D.nx σ H') : tDrop (tBM K "list" rAppend ta (tCons te tNil)) D σ H := ha H e _ fun v0 B0 H0 s0 p0 => by
  cases (show v0 = .ref p from p0)
  obtain ⟨h1, xs, h2, h3⟩ := a.step s0
  refine ⟨.inl ⟨rfl, xs, SqL.of h2⟩, h.mono s0.eb H0 s0.bh _ fun v B' H' s p' => ?_⟩
  obtain ⟨h4, h5⟩ := s.hide h1 h2
  exact ⟨p, xs, v, rfl, rfl, h5, sz_lt (by rw [all2_len h3]; exact hz), k B' _ (s0.eb.trans s.eb) (s.bh.poke h4) ⟨h4, _, upd_same, all2_snoc (all2_m s.eb h3) p'⟩ ⟨H', s0.trans s, _, rfl⟩⟩

/-! ### loops: I is told of (turn, slots, base, heap); Bl, Hl: the base and the heap at the loop's entry -/
abbrev Nx (Bl : Hp) (I : L2.St → Hp → Hp → Prop) : L2.St → Hp → Prop := fun σ2 H2 => ∃ B2, Ex Bl B2 ∧ Ex B2 H2 ∧ I σ2 B2 H2
theorem s_forLg {Ps : List VP} (e : Ex B H) (hl : EvP tl σ B (lst Ps)) (I : Nat → L2.St → Hp → Hp → Prop) (h0 : ∀ Bl Hl, Step B H Bl Hl → I 0 σ Bl Hl)
    (hs : ∀ Bl Hl, Step B H Bl Hl → ∀ i P v σ' B1 H1, Ps[i]? = some P → Ex Bl B1 → Ex B1 H1 → P.p B1 v → I i σ' B1 H1 → g v σ' H1 fun σ2 H2 => tu { D with nx := Nx Bl (I (i + 1)), ct := Nx Bl (I (i + 1)), bk := D.nx } σ2 H2)
    (hd : ∀ σ' B1 H1, Ex B B1 → Ex B1 H1 → I Ps.length σ' B1 H1 → D.nx σ' H1) : tFor (iList K tl) g tu D σ H := hl H e _ fun v Bl Hl sl pl => by
  obtain ⟨a, xs, rfl, hb, hx⟩ := pl
  have len := all2_len hx
  refine ⟨a, rfl, ⟨xs, SqL.of (sl.bh _ _ hb)⟩, for_list (xs := xs) (fun i => Nx Bl (I i)) ⟨Bl, Ex.refl _, sl.bh, h0 Bl Hl sl⟩ (fun i σ' H' _ ⟨B1, e1, e2, _⟩ => SqL.of (e2 _ _ (e1 _ _ hb))) ?_ ?_⟩
  · rintro i x σ' H' hi ⟨B1, e1, e2, hI⟩
    obtain ⟨P, hP, hp⟩ := all2_at (all2_m e1 hx) hi
    exact hs Bl Hl sl i P x σ' B1 H' hP e1 e2 hp hI
  · rintro σ' H' ⟨B1, e1, e2, hI⟩
    exact hd σ' B1 H' (sl.eb.trans e1) e2 (len ▸ hI)
theorem s_forL {j : Nat} {Ps : List VP} (e : Ex B H) (hl : EvP tl σ B (lst Ps)) (I : Nat → L2.St → Hp → Hp → Prop) (h0 : ∀ Bl Hl, Step B H Bl Hl → I 0 σ Bl Hl)
    (hs : ∀ Bl Hl, Step B H Bl Hl → ∀ i P v σ' B1 H1, Ps[i]? = some P → Ex Bl B1 → Ex B1 H1 → P.p B1 v → I i σ' B1 H1 → tu { D with nx := Nx Bl (I (i + 1)), ct := Nx Bl (I (i + 1)), bk := D.nx } (σ'.set j (some v)) H1)
    (hd : ∀ σ' B1 H1, Ex B B1 → Ex B1 H1 → I Ps.length σ' B1 H1 → D.nx σ' H1) : tFor (iList K tl) (gName j) tu D σ H := s_forLg e hl I h0 hs hd
theorem s_forT {j : Nat} {Ps : List VP} (e : Ex B H) (hl : EvP tl σ B (tup Ps)) (I : Nat → L2.St → Hp → Hp → Prop) (h0 : ∀ Bl Hl, Step B H Bl Hl → I 0 σ Bl Hl)
    (hs : ∀ Bl Hl, Step B H Bl Hl → ∀ i P v σ' B1 H1, Ps[i]? = some P → Ex Bl B1 → Ex B1 H1 → P.p B1 v → I i σ' B1 H1 → tu { D with nx := Nx Bl (I (i + 1)), ct := Nx Bl (I (i + 1)), bk := D.nx } (σ'.set j (some v)) H1)
    (hd : ∀ σ' B1 H1, Ex B B1 → Ex B1 H1 → I Ps.length σ' B1 H1 → D.nx σ' H1) : tFor (iTup K tl) (gName j) tu D σ H := hl H e _ fun v Bl Hl sl pl => by
  obtain ⟨a, xs, rfl, hb, hx⟩ := pl
  have len := all2_len hx
  refine ⟨a, rfl, ⟨xs, SqT.of (sl.bh _ _ hb)⟩, for_tup (xs := xs) (fun i => Nx Bl (I i)) ⟨Bl, Ex.refl _, sl.bh, h0 Bl Hl sl⟩ (fun i σ' H' _ ⟨B1, e1, e2, _⟩ => SqT.of (e2 _ _ (e1 _ _ hb))) ?_ ?_⟩
  · rintro i x σ' H' hi ⟨B1, e1, e2, hI⟩
    obtain ⟨P, hP, hp⟩ := all2_at (all2_m e1 hx) hi
    exact hs Bl Hl sl i P x σ' B1 H' hP e1 e2 hp hI
  · rintro σ' H' ⟨B1, e1, e2, hI⟩
    exact hd σ' B1 H' (sl.eb.trans e1) e2 (len ▸ hI)
/-- for i in range(n) -/
theorem s_forR {j : Nat} {ta : TA} {n : Nat} (e : Ex B H) (hl : EvL ta σ B [dp (.int n)]) (hn : n < 1000000) (I : Nat → L2.St → Hp → Hp → Prop) (h0 : ∀ Bl Hl, Step B H Bl Hl → I 0 σ Bl Hl)
    (hs : ∀ Bl Hl, Step B H Bl Hl → ∀ (i : Nat) σ' B1 H1, i < n → Ex Bl B1 → Ex B1 H1 → I i σ' B1 H1 → tu { D with nx := Nx Bl (I (i + 1)), ct := Nx Bl (I (i + 1)), bk := D.nx } (σ'.set j (some (.int (i : Int)))) H1)
    (hd : ∀ σ' B1 H1, Ex B B1 → Ex B1 H1 → I n σ' B1 H1 → D.nx σ' H1) : tFor (iRng1 ta) (gName j) tu D σ H := hl H e _ fun vs Bl Hl sl pl => by
  obtain ⟨x, rfl, hx⟩ := all2_1 pl
  cases dp_int.mp hx
  refine ⟨(n : Int), rfl, by omega, by omega, ?_⟩
  rw [Int.toNat_natCast]
  refine for_range (lo := 0) (n := n) (fun i => Nx Bl (I i)) ⟨Bl, Ex.refl _, sl.bh, h0 Bl Hl sl⟩ ?_ ?_
  · rintro i σ' H' hi ⟨B1, e1, e2, hI⟩
    have z : (0 : Int) + (i : Int) = (i : Int) := Int.zero_add _
    rw [z]
    exact hs Bl Hl sl i σ' B1 H' hi e1 e2 hI
  · rintro σ' H' ⟨B1, e1, e2, hI⟩
    exact hd σ' B1 H' (sl.eb.trans e1) e2 hI
theorem s_while {tc : TT} (I : Nat → L2.St → Hp → Hp → Prop) (m0 : Nat) (e : Ex B H) (h0 : I m0 σ B H)
    (hs : ∀ m σ' B1 H1, Ex B B1 → Ex B1 H1 → I m σ' B1 H1 → ∃ b, EvB tc σ' B1 b ∧ ∀ B2 H2, Step B1 H1 B2 H2 → if b = true then
      tu { D with nx := fun σ' H' => ∃ m', m' < m ∧ Nx B (I m') σ' H', ct := fun σ' H' => ∃ m', m' < m ∧ Nx B (I m') σ' H', bk := D.nx } σ' H2 else D.nx σ' H2) : tWhile tc tu D σ H := by
  refine ⟨fun m => Nx B (I m), ⟨m0, B, Ex.refl _, e, h0⟩, ?_⟩
  rintro m σ' H' ⟨B1, e1, e2, hI⟩
  obtain ⟨b, hb, hk⟩ := hs m σ' B1 H' e1 e2 hI
  refine hb H' e2 _ fun B2 H2 s2 => ?_
  have := hk B2 H2 s2
  cases b with
  | true => exact ⟨_, fun σ' H' q => q, this⟩
  | false => exact this

/-- a new list, not known yet: it may still be changed -/
def EvN (te : TE) (σ : L2.St) (B : Hp) (Ps : List VP) : Prop := ∀ H, Ex B H → ∀ Q : VK, (∀ p B' H', H p = none → Step B H B' H' → Acc p Ps B' H' → Q (.ref p) H') → te σ H Q
theorem EvN.toP {Ps : List VP} (h : EvN te σ B Ps) : EvP te σ B (lst Ps) := fun H e Q q => h H e Q fun p B' H' hp s a => by
  obtain ⟨B2, s2, _, p2⟩ := a.done s hp
  exact q _ B2 H' s2 p2
theorem s_asgN {i : Nat} {Ps : List VP} (e : Ex B H) (h : EvN te σ B Ps) (k : ∀ p B' H', H p = none → Step B H B' H' → Acc p Ps B' H' → D.nx (σ.set i (some (.ref p))) H') : tAsg te (gName i) D σ H := h H e _ k
theorem q_asgN {i : Nat} {Ps : List VP} (e : Ex B H) (h : EvN te σ B Ps) (k : ∀ p B' H', H p = none → Step B H B' H' → Acc p Ps B' H' → tz D (σ.set i (some (.ref p))) H') : tSeq (tAsg te (gName i)) tz D σ H := h H e _ k
/-! ### comprehensions -/
def cw (B1 H1 : Hp) (D : Addr) (Ps : List VP) (H' : Hp) : Prop := ∃ B', Step B1 H1 B' H' ∧ Acc D Ps B' H'
theorem cw_turn {B1 H1 H' : Hp} {D : Addr} {Ps : List VP} {σ2 : L2.St} {b : Bool} (w : cw B1 H1 D Ps H') (h0 : H1 D = none) (hz : Ps.length < 1000000) {Pn : Hp → Prop} (ht : ∀ B', Ex B1 B' → EvB t σ2 B' b) (he : b = true → ∀ B', Ex B1 B' → EvP te σ2 B' P)
    (hy : b = true → ∀ H', cw B1 H1 D (Ps ++ [P]) H' → Pn H') (hn : b = false → ∀ H', cw B1 H1 D Ps H' → Pn H') :
    t σ2 H' fun b H3 => if b = true then te σ2 H3 fun y H4 => ∃ acc, H4 D = some (.lst acc) ∧ acc.length < sizeLine ∧ Pn (upd H4 D (.lst (acc ++ [y]))) else Pn H3 := by
  obtain ⟨B', s, a⟩ := w
  refine ht B' s.eb H' s.bh _ fun B2 H2 s2 => ?_
  have a2 := a.step s2
  cases b with
  | true =>
    show te σ2 H2 fun y H4 => ∃ acc, H4 D = some (.lst acc) ∧ acc.length < sizeLine ∧ Pn (upd H4 D (.lst (acc ++ [y])))
    refine he rfl B2 (s.eb.trans s2.eb) H2 s2.bh _ fun v B3 H3 s3 p3 => ?_
    obtain ⟨k1, xs, k2, k3⟩ := a2.step s3
    exact ⟨xs, k2, sz_lt (by rw [all2_len k3]; exact hz), hy rfl _ ⟨B3, ((s.trans s2).trans s3).poke h0 k1, k1, _, upd_same, all2_snoc k3 p3⟩⟩
  | false => exact hn rfl H2 ⟨B2, s.trans s2, a2⟩
theorem filt_yes {α β : Type} {f : α → Bool} {g : α → β} {l : List α} {i : Nat} {y : α} (h : l[i]? = some y) (hf : f y = true) : ((l.take (i + 1)).filter f).map g = ((l.take i).filter f).map g ++ [g y] := by
  have e : l.take (i + 1) = l.take i ++ [y] := by rw [List.take_add_one, h]; rfl
  rw [e, List.filter_append, List.map_append, List.filter_cons, if_pos hf]
  rfl
theorem filt_no {α β : Type} {f : α → Bool} {g : α → β} {l : List α} {i : Nat} {y : α} (h : l[i]? = some y) (hf : f y = false) : ((l.take (i + 1)).filter f).map g = ((l.take i).filter f).map g := by
  have e : l.take (i + 1) = l.take i ++ [y] := by rw [List.take_add_one, h]; rfl
  rw [e, List.filter_append, List.map_append, List.filter_cons, if_neg (by rw [hf]; decide)]
  exact List.append_nil _
theorem filt_len {α β : Type} {f : α → Bool} {g : α → β} {l : List α} {i : Nat} : (((l.take i).filter f).map g).length ≤ l.length := by
  rw [List.length_map]
  exact Nat.le_trans (List.length_filter_le _ _) (by rw [List.length_take]; exact Nat.min_le_right _ _)
theorem en_lcL {α : Type} {j : Nat} {ws : List Nat} (ys : List α) (enc : α → VP) (f : α → Bool) (gv : α → VP) (hl : EvP tl σ B (lst (ys.map enc))) (hz : ys.length < 1000000) (hw : ∀ x, wipe ((wipe σ ws).set j (some x)) ws = wipe σ ws)
    (ht : ∀ y v B', y ∈ ys → Ex B B' → (enc y).p B' v → EvB t ((wipe σ ws).set j (some v)) B' (f y))
    (he : ∀ y v B', y ∈ ys → f y = true → Ex B B' → (enc y).p B' v → EvP te ((wipe σ ws).set j (some v)) B' (gv y)) :
    EvN (tLc (iList K tl) (gName j) t te ws) σ B ((ys.filter f).map gv) := fun H e Q q => hl H e _ fun v B1 H1 s1 p1 => by
  obtain ⟨a, xs, rfl, hb, hx⟩ := p1
  have len := all2_len hx
  rw [List.length_map] at len
  refine ⟨a, rfl, ⟨xs, SqL.of (s1.bh _ _ hb)⟩, fun D hD => ?_⟩
  refine lc_list (xs := xs) (fun i H' => cw B1 H1 D (((ys.take i).filter f).map gv) H') ⟨B1, (Step.refl s1.bh).poke hD (s1.bh.none hD), Acc.new (s1.bh.none hD)⟩ (fun i H' _ ⟨B', s, _⟩ => SqL.of (s.bh _ _ (s.eb _ _ hb))) ?_ ?_
  · intro i x H' hi hw'
    obtain ⟨P', hP, hp⟩ := all2_at hx hi
    rw [List.getElem?_map] at hP
    obtain ⟨y, hy, rfl⟩ : ∃ y, ys[i]? = some y ∧ enc y = P' := by
      cases z : ys[i]? with
      | none => rw [z] at hP; cases hP
      | some y => rw [z] at hP; exact ⟨y, rfl, Option.some.inj hP⟩
    have hm : y ∈ ys := List.mem_of_getElem? hy
    have hi' : i < ys.length := (List.getElem?_eq_some_iff.mp hy).1
    refine ⟨hw x, cw_turn (b := f y) (P := gv y) hw' hD (Nat.lt_of_le_of_lt filt_len hz) (fun B' e' => ht y x B' hm (s1.eb.trans e') ((enc y).m e' hp)) (fun hf B' e' => he y x B' hm hf (s1.eb.trans e') ((enc y).m e' hp)) (fun hf H' k => ?_) (fun hf H' k => ?_)⟩
    · rw [filt_yes hy hf]; exact k
    · rw [filt_no hy hf]; exact k
  · rintro H' ⟨B', s, a'⟩
    rw [len, List.take_length] at a'
    exact q D B' H' (s1.eh.none hD) (s1.trans s) a'
theorem ev_lcL {α : Type} {j : Nat} {ws : List Nat} (ys : List α) (enc : α → VP) (f : α → Bool) (gv : α → VP) (hl : EvP tl σ B (lst (ys.map enc))) (hz : ys.length < 1000000) (hw : ∀ x, wipe ((wipe σ ws).set j (some x)) ws = wipe σ ws)
    (ht : ∀ y v B', y ∈ ys → Ex B B' → (enc y).p B' v → EvB t ((wipe σ ws).set j (some v)) B' (f y))
    (he : ∀ y v B', y ∈ ys → f y = true → Ex B B' → (enc y).p B' v → EvP te ((wipe σ ws).set j (some v)) B' (gv y)) :
    EvP (tLc (iList K tl) (gName j) t te ws) σ B (lst ((ys.filter f).map gv)) := (en_lcL ys enc f gv hl hz hw ht he).toP
theorem en_lcT {α : Type} {j : Nat} {ws : List Nat} (ys : List α) (enc : α → VP) (f : α → Bool) (gv : α → VP) (hl : EvP tl σ B (tup (ys.map enc))) (hz : ys.length < 1000000) (hw : ∀ x, wipe ((wipe σ ws).set j (some x)) ws = wipe σ ws)
    (ht : ∀ y v B', y ∈ ys → Ex B B' → (enc y).p B' v → EvB t ((wipe σ ws).set j (some v)) B' (f y))
    (he : ∀ y v B', y ∈ ys → f y = true → Ex B B' → (enc y).p B' v → EvP te ((wipe σ ws).set j (some v)) B' (gv y)) :
    EvN (tLc (iTup K tl) (gName j) t te ws) σ B ((ys.filter f).map gv) := fun H e Q q => hl H e _ fun v B1 H1 s1 p1 => by
  obtain ⟨a, xs, rfl, hb, hx⟩ := p1
  have len := all2_len hx
  rw [List.length_map] at len
  refine ⟨a, rfl, ⟨xs, SqT.of (s1.bh _ _ hb)⟩, fun D hD => ?_⟩
  refine lc_tup (xs := xs) (fun i H' => cw B1 H1 D (((ys.take i).filter f).map gv) H') ⟨B1, (Step.refl s1.bh).poke hD (s1.bh.none hD), Acc.new (s1.bh.none hD)⟩ (fun i H' _ ⟨B', s, _⟩ => SqT.of (s.bh _ _ (s.eb _ _ hb))) ?_ ?_
  · intro i x H' hi hw'
    obtain ⟨P', hP, hp⟩ := all2_at hx hi
    rw [List.getElem?_map] at hP
    obtain ⟨y, hy, rfl⟩ : ∃ y, ys[i]? = some y ∧ enc y = P' := by
      cases z : ys[i]? with
      | none => rw [z] at hP; cases hP
      | some y => rw [z] at hP; exact ⟨y, rfl, Option.some.inj hP⟩
    have hm : y ∈ ys := List.mem_of_getElem? hy
    refine ⟨hw x, cw_turn (b := f y) (P := gv y) hw' hD (Nat.lt_of_le_of_lt filt_len hz) (fun B' e' => ht y x B' hm (s1.eb.trans e') ((enc y).m e' hp)) (fun hf B' e' => he y x B' hm hf (s1.eb.trans e') ((enc y).m e' hp)) (fun hf H' k => ?_) (fun hf H' k => ?_)⟩
    · rw [filt_yes hy hf]; exact k
    · rw [filt_no hy hf]; exact k
  · rintro H' ⟨B', s, a'⟩
    rw [len, List.take_length] at a'
    exact q D B' H' (s1.eh.none hD) (s1.trans s) a'
theorem ev_lcT {α : Type} {j : Nat} {ws : List Nat} (ys : List α) (enc : α → VP) (f : α → Bool) (gv : α → VP) (hl : EvP tl σ B (tup (ys.map enc))) (hz : ys.length < 1000000) (hw : ∀ x, wipe ((wipe σ ws).set j (some x)) ws = wipe σ ws)
    (ht : ∀ y v B', y ∈ ys → Ex B B' → (enc y).p B' v → EvB t ((wipe σ ws).set j (some v)) B' (f y))
    (he : ∀ y v B', y ∈ ys → f y = true → Ex B B' → (enc y).p B' v → EvP te ((wipe σ ws).set j (some v)) B' (gv y)) :
    EvP (tLc (iTup K tl) (gName j) t te ws) σ B (lst ((ys.filter f).map gv)) := (en_lcT ys enc f gv hl hz hw ht he).toP
theorem en_lcR {j : Nat} {ws : List Nat} {ta : TA} {n : Nat} (f : Nat → Bool) (gv : Nat → VP) (hl : EvL ta σ B [dp (.int n)]) (hz : n < 1000000) (hw : ∀ x, wipe ((wipe σ ws).set j (some x)) ws = wipe σ ws)
    (ht : ∀ (y : Nat) B', y < n → Ex B B' → EvB t ((wipe σ ws).set j (some (.int (y : Int)))) B' (f y))
    (he : ∀ (y : Nat) B', y < n → f y = true → Ex B B' → EvP te ((wipe σ ws).set j (some (.int (y : Int)))) B' (gv y)) :
    EvN (tLc (iRng1 ta) (gName j) t te ws) σ B (((List.range n).filter f).map gv) := fun H e Q q => hl H e _ fun vs B1 H1 s1 p1 => by
  obtain ⟨x, rfl, hx⟩ := all2_1 p1
  cases dp_int.mp hx
  refine ⟨(n : Int), rfl, by omega, by omega, fun D hD => ?_⟩
  rw [Int.toNat_natCast]
  refine lc_range (lo := 0) (n := n) (fun i H' => cw B1 H1 D ((((List.range n).take i).filter f).map gv) H') ⟨B1, (Step.refl s1.bh).poke hD (s1.bh.none hD), Acc.new (s1.bh.none hD)⟩ ?_ ?_
  · intro i H' hi hw'
    have z : (0 : Int) + (i : Int) = (i : Int) := Int.zero_add _
    rw [z]
    have hy : (List.range n)[i]? = some i := by rw [List.getElem?_range hi]
    refine ⟨hw _, cw_turn (b := f i) (P := gv i) hw' hD (Nat.lt_of_le_of_lt filt_len (by rw [List.length_range]; exact hz)) (fun B' e' => ht i B' hi (s1.eb.trans e')) (fun hf B' e' => he i B' hi hf (s1.eb.trans e')) (fun hf H' k => ?_) (fun hf H' k => ?_)⟩
    · rw [filt_yes hy hf]; exact k
    · rw [filt_no hy hf]; exact k
  · rintro H' ⟨B', s, a'⟩
    have l : (List.range n).take n = List.range n := List.take_of_length_le (by rw [List.length_range]; exact Nat.le_refl _)
    rw [l] at a'
    exact q D B' H' (s1.eh.none hD) (s1.trans s) a'
theorem ev_lcR {j : Nat} {ws : List Nat} {ta : TA} {n : Nat} (f : Nat → Bool) (gv : Nat → VP) (hl : EvL ta σ B [dp (.int n)]) (hz : n < 1000000) (hw : ∀ x, wipe ((wipe σ ws).set j (some x)) ws = wipe σ ws)
    (ht : ∀ (y : Nat) B', y < n → Ex B B' → EvB t ((wipe σ ws).set j (some (.int (y : Int)))) B' (f y))
    (he : ∀ (y : Nat) B', y < n → f y = true → Ex B B' → EvP te ((wipe σ ws).set j (some (.int (y : Int)))) B' (gv y)) :
    EvP (tLc (iRng1 ta) (gName j) t te ws) σ B (lst (((List.range n).filter f).map gv)) := (en_lcR f gv hl hz hw ht he).toP
theorem eb_yes : EvB tYes σ B true := fun H e Q q => q B H (Step.refl e)
end
end TL
set_option maxHeartbeats 4000000
/-! The text by places; what the top has left; defs, methods, classes as they are called. -/
namespace TL
open PySem L2
def top (i : Nat) : Stmt := PySem.Challenge.pw_tilelaw_k23_whole_many_tiles.main.body.getD i (.Pass ⟨0, 0, 0, 0⟩)
abbrev FnP (K : PySem.W.Frag) (x qual : Str) (st : Stmt) (f : Addr) (fd : FuncData) : Prop := FunD K x qual (defArgs st) (defBody st) (defScope st) [] [] f fd
/-- the address of a class -/
abbrev ca (K : PySem.W.Frag) (x : Str) : Addr := He.ga K x

/-- a def that is called by its name -/
structure Cl (P : Program) (w : World) (K : PySem.W.Frag) (mg : Str → Option Value) (base : Heap) (CX : CXT) (k : Nat) (x : Str) (sp : Sp) : Prop where
  ex : ∃ (f : Addr) (fd : FuncData) (ps : List Str), FnOk P w K mg base CX k f fd ps sp ∧ mg x = some (.ref f) ∧ PySem.W.keepIn K (.ref f) = true ∧ Binds K fd ps []
/-- a method of the class at C -/
structure Mt (P : Program) (w : World) (K : PySem.W.Frag) (mg : Str → Option Value) (base : Heap) (CX : CXT) (k : Nat) (C : Addr) (m : Str) (sp : Sp) : Prop where
  ex : ∃ (f : Addr) (fd : FuncData) (ps : List Str), Cls K C ∧ Meth K C m f ∧ FnOk P w K mg base CX k f fd ps sp ∧ Binds K fd ps []
/-- a class that is made by its name -/
structure Mr (P : Program) (w : World) (K : PySem.W.Frag) (mg : Str → Option Value) (base : Heap) (CX : CXT) (k : Nat) (x : Str) (C : Addr) (sp : Sp) : Prop where
  ex : ∃ (f : Addr) (fd : FuncData) (ps : List Str), Mk K C f ∧ mg x = some (.ref C) ∧ FnOk P w K mg base CX k f fd ps sp ∧ Binds K fd ps []
section
variable {X : Cx} {CX : CXT} {j k : Nat} {C : Addr} {x m : Str} {sp : Sp} {E : XK} {p pos apos : Pos} {e o : Expr} {es : List Expr} {ta : TE} {t : TA}
theorem pe_cl (c : Cl X.prog X.w X.K X.mg X.base CX k x sp) (hr : Room j X.A) (hk : k ≤ j) (hg : Gl X x) (hx : Passes CX X E) (ha : PA X (e :: es) t)
    (hdb : (x == ("__debug__" : Str)) = false := by decide) (he : starEach (e :: es) X.env = (false, eval e X.env) :: starEach es X.env := by rfl) (hpl : (backTo pos (starEach es X.env)).any (·.1) = false := by rfl) :
    PE X (.Call (.Name x p) (e :: es) [] pos) (tCall sp [] E t) := by
  obtain ⟨f, fd, ps, F, hm, kp, b⟩ := c.ex
  exact pe_call F (hr.mono hk) hg hm kp b .nil hx ha hdb he hpl
theorem pe_mr (c : Mr X.prog X.w X.K X.mg X.base CX k x C sp) (hr : Room j X.A) (hk : k + 1 ≤ j) (hg : Gl X x) (hx : Passes CX X E) (ha : PA X (e :: es) t)
    (hdb : (x == ("__debug__" : Str)) = false := by decide) (he : starEach (e :: es) X.env = (false, eval e X.env) :: starEach es X.env := by rfl) (hpl : (backTo pos (starEach es X.env)).any (·.1) = false := by rfl) :
    PE X (.Call (.Name x p) (e :: es) [] pos) (tMake C sp [] E t) := by
  obtain ⟨f, fd, ps, M, hm, F, b⟩ := c.ex
  exact pe_make M F (hr.mono hk) hg hm b .nil hx ha hdb he hpl
theorem pe_ml {pl : Sem Bool} (c : Mt X.prog X.w X.K X.mg X.base CX k C m sp) (hr : Room j X.A) (hk : k ≤ j) (hx : Passes CX X E) (he : PE X o ta) (ha : PA X (e :: es) t)
    (hst : starEach (e :: es) X.env = (false, eval e X.env) :: starEach es X.env := by rfl) (hpl : (backTo pos (starEach es X.env)).any (·.1) = false := by rfl)
    (ht : eval (.Call (.Attribute o m apos) (e :: es) [] pos) X.env = (do
      let ov ← eval o X.env
      standAt apos.atName
      let (f, first) ← holding [ov] (getMethod ov m pl)
      callWith pos f first (backTo pos (starEach (e :: es) X.env)) (backToKw pos (keywordEach [] X.env))) := by rfl) :
    PE X (.Call (.Attribute o m apos) (e :: es) [] pos) (tMeth C m sp [] E ta t) := by
  obtain ⟨f, fd, ps, hc, hm, F, b⟩ := c.ex
  exact pe_meth (pl := pl) he hc hm F (hr.mono hk) b .nil hx ha hst hpl ht
theorem pe_ml0 {pl : Sem Bool} (c : Mt X.prog X.w X.K X.mg X.base CX k C m sp) (hr : Room j X.A) (hk : k ≤ j) (hx : Passes CX X E) (he : PE X o ta)
    (ht : eval (.Call (.Attribute o m apos) [] [] pos) X.env = (do
      let ov ← eval o X.env
      standAt apos.atName
      let (f, first) ← holding [ov] (getMethod ov m pl)
      callWith pos f first (backTo pos (starEach [] X.env)) (backToKw pos (keywordEach [] X.env))) := by rfl) :
    PE X (.Call (.Attribute o m apos) [] [] pos) (tMeth C m sp [] E ta tNil) := by
  obtain ⟨f, fd, ps, hc, hm, F, b⟩ := c.ex
  exact pe_meth0 (pl := pl) he hc hm F (hr.mono hk) b .nil hx ht
end
/-- built-ins that nobody has hidden -/
structure TB (mg : Str → Option Value) : Prop where
  len : mg "len" = none
  range : mg "range" = none
  list : mg "list" = none
  tuple : mg "tuple" = none
  dict : mg "dict" = none
  int : mg "int" = none
  str : mg "str" = none
  bool : mg "bool" = none
  max : mg "max" = none
  sum : mg "sum" = none
  isinstance : mg "isinstance" = none
end TL
set_option maxHeartbeats 4000000
namespace TL
open PySem L2
section
variable {K : PySem.W.Frag} {σ : L2.St} {B B1 H : Hp} {ta tb te tx tl : TE} {t u : TT} {P Pa Pb : VP} {r : R2} {D : Ends} {tu tw tz : TS} {g : TG}
theorem s_skip (e : Ex B H) (h : EvB t σ B false) (k : ∀ B' H', Step B H B' H' → D.nx σ H') : tIfS t tu tNext D σ H := s_when e h (fun z => by cases z) fun _ => k
theorem s_no (e : Ex B H) (h : EvB t σ B false) (k : ∀ B' H', Step B H B' H' → tw D σ H') : tIfS t tu tw D σ H := s_if e h (fun z => by cases z) fun _ => k
theorem s_yes (e : Ex B H) (h : EvB t σ B true) (k : ∀ B' H', Step B H B' H' → tu D σ H') : tIfS t tu tw D σ H := s_if e h (fun _ => k) (fun z => by cases z)
theorem dF {p : Prop} [Decidable p] (h : ¬ p) : decide p = false := decide_eq_false h
theorem dT {p : Prop} [Decidable p] (h : p) : decide p = true := decide_eq_true h
theorem get_map {α β : Type} {f : α → β} {l : List α} {i : Nat} {P : β} (h : (l.map f)[i]? = some P) : ∃ y, l[i]? = some y ∧ f y = P := by
  rw [List.getElem?_map] at h
  cases z : l[i]? with
  | none => rw [z] at h; cases h
  | some y => rw [z] at h; exact ⟨y, rfl, Option.some.inj h⟩
theorem get_lt {α : Type} {l : List α} {i : Nat} {y : α} (h : l[i]? = some y) : i < l.length := (List.getElem?_eq_some_iff.mp h).1
theorem lt_get {α : Type} {l : List α} {i : Nat} (h : i < l.length) : ∃ y, l[i]? = some y := ⟨l[i], List.getElem?_eq_getElem h⟩
theorem get_take {α : Type} {l : List α} {i : Nat} {y : α} (h : l[i]? = some y) : l.take (i + 1) = l.take i ++ [y] := by rw [List.take_add_one, h]; rfl
theorem all2_1d {B : Hp} {xs : List V} {i : Int} (h : all2 B xs [dp (.int i)]) : xs = [.int i] := by
  obtain ⟨x, rfl, hx⟩ := all2_1 h
  cases dp_int.mp hx
  rfl
end
end TL
namespace TL
open PySem L2
section
variable {K : PySem.W.Frag} {σ : L2.St} {B B1 H : Hp} {ta tb te tx tl : TE} {t u : TT} {P Pa Pb : VP} {r : R2} {D : Ends} {tu tw tz : TS} {g : TG}
theorem q_asg {i : Nat} (e : Ex B H) (h : EvP te σ B P) (k : ∀ v B' H', Step B H B' H' → P.p B' v → tz D (σ.set i (some v)) H') : tSeq (tAsg te (gName i)) tz D σ H := s_asg (D := { D with nx := tz D }) e h k
theorem q_drop (e : Ex B H) (h : EvP te σ B P) (k : ∀ v B' H', Step B H B' H' → P.p B' v → tz D σ H') : tSeq (tDrop te) tz D σ H := s_drop (D := { D with nx := tz D }) e h k
theorem q_new {i : Nat} (k : ∀ p, H p = none → tz D (σ.set i (some (.ref p))) (upd H p (.lst []))) : tSeq (tAsg (tLst tNil) (gName i)) tz D σ H := s_new (D := { D with nx := tz D }) k
theorem q_skip (e : Ex B H) (h : EvB t σ B false) (k : ∀ B' H', Step B H B' H' → tz D σ H') : tSeq (tIfS t tu tNext) tz D σ H := s_skip (D := { D with nx := tz D }) e h k
theorem q_if {b : Bool} (e : Ex B H) (h : EvB t σ B b) (h1 : b = true → ∀ B' H', Step B H B' H' → tu { D with nx := tz D } σ H') (h2 : b = false → ∀ B' H', Step B H B' H' → tw { D with nx := tz D } σ H') : tSeq (tIfS t tu tw) tz D σ H := s_if (D := { D with nx := tz D }) e h h1 h2
theorem q_when {b : Bool} (e : Ex B H) (h : EvB t σ B b) (h1 : b = true → ∀ B' H', Step B H B' H' → tu { D with nx := tz D } σ H') (h2 : b = false → ∀ B' H', Step B H B' H' → tz D σ H') : tSeq (tIfS t tu tNext) tz D σ H := s_when (D := { D with nx := tz D }) e h h1 h2
theorem q_app {p : Addr} {Ps : List VP} (e : Ex B H) (a : Acc p Ps B H) (ha : EvP ta σ B (isV (.ref p))) (h : EvP te σ B P) (hz : Ps.length < 1000000)
    (k : ∀ B' H', Ex B B' → Ex B' H' → Acc p (Ps ++ [P]) B' H' → (∃ H1, Step B H B' H1 ∧ ∃ o, H' = upd H1 p o) → tz D σ H') : tSeq (tDrop (tBM K "list" rAppend ta (tCons te tNil))) tz D σ H := s_app (D := { D with nx := tz D }) e a ha h hz k
theorem q_forL {j : Nat} {Ps : List VP} (e : Ex B H) (hl : EvP tl σ B (lst Ps)) (I : Nat → L2.St → Hp → Hp → Prop) (h0 : ∀ Bl Hl, Step B H Bl Hl → I 0 σ Bl Hl)
    (hs : ∀ Bl Hl, Step B H Bl Hl → ∀ i P v σ' B1 H1, Ps[i]? = some P → Ex Bl B1 → Ex B1 H1 → P.p B1 v → I i σ' B1 H1 → tu { D with nx := Nx Bl (I (i + 1)), ct := Nx Bl (I (i + 1)), bk := tz D } (σ'.set j (some v)) H1)
    (hd : ∀ σ' B1 H1, Ex B B1 → Ex B1 H1 → I Ps.length σ' B1 H1 → tz D σ' H1) : tSeq (tFor (iList K tl) (gName j) tu) tz D σ H := s_forL (D := { D with nx := tz D }) e hl I h0 hs hd
theorem q_forT {j : Nat} {Ps : List VP} (e : Ex B H) (hl : EvP tl σ B (tup Ps)) (I : Nat → L2.St → Hp → Hp → Prop) (h0 : ∀ Bl Hl, Step B H Bl Hl → I 0 σ Bl Hl)
    (hs : ∀ Bl Hl, Step B H Bl Hl → ∀ i P v σ' B1 H1, Ps[i]? = some P → Ex Bl B1 → Ex B1 H1 → P.p B1 v → I i σ' B1 H1 → tu { D with nx := Nx Bl (I (i + 1)), ct := Nx Bl (I (i + 1)), bk := tz D } (σ'.set j (some v)) H1)
    (hd : ∀ σ' B1 H1, Ex B B1 → Ex B1 H1 → I Ps.length σ' B1 H1 → tz D σ' H1) : tSeq (tFor (iTup K tl) (gName j) tu) tz D σ H := s_forT (D := { D with nx := tz D }) e hl I h0 hs hd
theorem q_forR {j : Nat} {ta : TA} {n : Nat} (e : Ex B H) (hl : EvL ta σ B [dp (.int n)]) (hn : n < 1000000) (I : Nat → L2.St → Hp → Hp → Prop) (h0 : ∀ Bl Hl, Step B H Bl Hl → I 0 σ Bl Hl)
    (hs : ∀ Bl Hl, Step B H Bl Hl → ∀ (i : Nat) σ' B1 H1, i < n → Ex Bl B1 → Ex B1 H1 → I i σ' B1 H1 → tu { D with nx := Nx Bl (I (i + 1)), ct := Nx Bl (I (i + 1)), bk := tz D } (σ'.set j (some (.int (i : Int)))) H1)
    (hd : ∀ σ' B1 H1, Ex B B1 → Ex B1 H1 → I n σ' B1 H1 → tz D σ' H1) : tSeq (tFor (iRng1 ta) (gName j) tu) tz D σ H := s_forR (D := { D with nx := tz D }) e hl hn I h0 hs hd
theorem q_while {tc : TT} (I : Nat → L2.St → Hp → Hp → Prop) (m0 : Nat) (e : Ex B H) (h0 : I m0 σ B H)
    (hs : ∀ m σ' B1 H1, Ex B B1 → Ex B1 H1 → I m σ' B1 H1 → ∃ b, EvB tc σ' B1 b ∧ ∀ B2 H2, Step B1 H1 B2 H2 → if b = true then
      tu { D with nx := fun σ' H' => ∃ m', m' < m ∧ Nx B (I m') σ' H', ct := fun σ' H' => ∃ m', m' < m ∧ Nx B (I m') σ' H', bk := tz D } σ' H2 else tz D σ' H2) : tSeq (tWhile tc tu) tz D σ H := s_while (D := { D with nx := tz D }) I m0 e h0 hs
end
end TL
namespace TL
open PySem L2
section
variable {K : PySem.W.Frag} {σ : L2.St} {B B1 H : Hp} {ta tb te tx tl : TE}
theorem all2_app {B : Hp} : ∀ {vs ws : List V} {Ps Qs : List VP}, all2 B vs Ps → all2 B ws Qs → all2 B (vs ++ ws) (Ps ++ Qs)
  | [], _, [], _, _, h => h
  | _ :: vs, _, _ :: Ps, _, ⟨h1, h2⟩, h => ⟨h1, all2_app (vs := vs) (Ps := Ps) h2 h⟩
  | [], _, _ :: _, _, h, _ => h.elim
  | _ :: _, _, [], _, h, _ => h.elim
/-- t + u, u not empty -/
theorem ev_cat {Ps Qs : List VP} (ha : EvP ta σ B (tup Ps)) (hb : EvP tb σ B (tup Qs)) (hq : Qs ≠ []) (hz : Ps.length < 100000) (hz2 : Qs.length < 100000) : EvP (tOp (rCatA K) ta tb) σ B (tup (Ps ++ Qs)) := ev_op ha hb fun B' x y _ hx hy H e Q q => by
  obtain ⟨a, xs, rfl, h1, h2⟩ := hx
  obtain ⟨b, ys, rfl, h3, h4⟩ := hy
  have l1 := all2_len h2
  have l2 := all2_len h4
  have ny : ys ≠ [] := fun z => hq (by rw [z] at l2; exact List.eq_nil_of_length_eq_zero l2.symm)
  refine ⟨a, b, xs, ys, rfl, rfl, SqT.of (e _ _ h1), SqT.of (e _ _ h3), sz_le (by omega), fun z => ?_, fun _ z => absurd z ny, fun _ _ p hp => ?_⟩
  · subst z
    cases Ps with
    | nil => exact q _ B' H (Step.refl e) ⟨b, ys, rfl, h3, h4⟩
    | cons _ _ => exact h2.elim
  · exact q _ _ _ (Step.new e hp) ⟨p, xs ++ ys, rfl, upd_same, all2_m (Ex.new (e.none hp)) (all2_app h2 h4)⟩
theorem ev_catD {ds es fs : List PyData} (ha : EvP ta σ B (dp (.tuple ds))) (hb : EvP tb σ B (dp (.tuple es))) (hq : es ≠ []) (hz : ds.length < 100000) (hf : PyData.tuple fs = PyData.tuple (ds ++ es)) (hz2 : es.length < 100000 := by decide) : EvP (tOp (rCatA K) ta tb) σ B (dp (.tuple fs)) := by
  rw [hf]
  refine EvP.tupD ?_
  rw [List.map_append]
  exact ev_cat ha.dTup hb.dTup (fun z => hq (List.map_eq_nil_iff.mp z)) (by rw [List.length_map]; exact hz) (by rw [List.length_map]; exact hz2)
end
end TL
set_option maxHeartbeats 4000000
/-! Stores into a list that is being made; sums; repeated lists. -/
namespace TL
open PySem L2
section
variable {K : PySem.W.Frag} {σ : L2.St} {B B1 H : Hp} {ta tb te tx tl : TE} {t u : TT} {P Pa Pb : VP} {r : R2} {D : Ends} {tu tw tz : TS} {g : TG}
theorem all2_set {B : Hp} {v : V} {P : VP} : ∀ {vs : List V} {Ps : List VP} (j : Nat), all2 B vs Ps → P.p B v → all2 B (vs.set j v) (Ps.set j P)
  | [], [], _, _, _ => True.intro
  | _ :: vs, _ :: Ps, 0, ⟨_, h2⟩, h => ⟨h, h2⟩
  | _ :: vs, _ :: Ps, j + 1, ⟨h1, h2⟩, h => ⟨h1, all2_set (vs := vs) (Ps := Ps) j h2 h⟩
  | [], _ :: _, _, h, _ => h.elim
  | _ :: _, [], _, h, _ => h.elim
/-- what is hidden at p is looked at; the value is flat -/
theorem peek {p : Addr} {Ps : List VP} {v : V} (e : Ex B H) (a : Acc p Ps B H) (h : ∀ B', Ex B B' → (lst Ps).p B' (.ref p) → EvP te σ B' (isV v)) {Q : VK} (q : ∀ H', Step B H B H' → Acc p Ps B H' → Q v H') : te σ H Q := by
  obtain ⟨h1, xs, h2, h3⟩ := a
  have e' : Ex (upd B p (.lst xs)) H := fun a u ha => by
    by_cases z : a = p
    · subst z
      rw [upd_same] at ha
      rw [h2]
      exact ha
    · rw [upd_ne z] at ha
      exact e a u ha
  refine h _ (Ex.new h1) ⟨p, xs, rfl, upd_same, all2_m (Ex.new h1) h3⟩ H e' _ fun v' B' H' s p' => ?_
  cases (show v' = v from p')
  exact q H' ⟨Ex.refl B, e.trans s.eh, s.eh, fun _ _ h => h⟩ ⟨h1, xs, s.eh _ _ h2, h3⟩
theorem ixN_nat {n j : Nat} (hj : j < n) : ixN n (j : Int) = some j := by
  unfold ixN
  rw [if_pos (by omega), if_pos (by omega)]
  simp
/-- xs[j] = e, xs being made -/
theorem s_store {p : Addr} {Ps : List VP} {v : V} {j : Nat} (e : Ex B H) (a : Acc p Ps B H) (h : ∀ B', Ex B B' → (lst Ps).p B' (.ref p) → EvP te σ B' (isV v)) (ho : EvP ta σ B (isV (.ref p))) (hi : EvP tb σ B (dp (.int (j : Nat)))) (hj : j < Ps.length) (hv : ∀ B', P.p B' v)
    (k : ∀ B' H', Ex B B' → Ex B' H' → Acc p (Ps.set j P) B' H' → (∃ H1, Step B H B' H1 ∧ ∃ o, H' = upd H1 p o) → D.nx σ H') : tAsg te (gSub ta tb rSetL) D σ H := peek e a h fun H1 s1 a1 => by
  refine ho H1 s1.bh _ fun v2 B2 H2 s2 p2 => ?_
  cases (show v2 = .ref p from p2)
  refine hi.mono s2.eb H2 s2.bh _ fun v3 B3 H3 s3 p3 => ?_
  cases dp_int.mp p3
  obtain ⟨h1, xs, h2, h3⟩ := (a1.step s2).step s3
  have len := all2_len h3
  exact ⟨p, xs, _, j, rfl, rfl, h2, ixN_nat (by omega), k B3 _ (s2.eb.trans s3.eb) (s3.bh.poke h1) ⟨h1, _, upd_same, all2_set j h3 (hv B3)⟩ ⟨H3, (s1.trans s2).trans s3, _, rfl⟩⟩
/-- sum of whole numbers -/
theorem all2_ints {B : Hp} : ∀ {vs : List V} {l : List Int}, all2 B vs (l.map fun i => dp (.int i)) → vs = l.map V.int
  | [], [], _ => rfl
  | v :: vs, i :: l, ⟨h1, h2⟩ => by
    rw [dp_int.mp h1, all2_ints (vs := vs) (l := l) h2]
    rfl
  | [], _ :: _, h => h.elim
  | _ :: _, [], h => h.elim
theorem ints_dp {B : Hp} {v : V} {l : List Int} : (lst (l.map fun i => dp (.int i))).p B v ↔ (dp (.list (l.map .int))).p B v := by
  rw [← lst_dp, List.map_map]
  rfl
theorem ev_sum {l : List Int} (ha : EvP ta σ B (dp (.list (l.map .int)))) : EvP (tCB (rSum K) (tCons ta tNil)) σ B (dp (.int l.sum)) := ev_cb (el_cons ha el_nil) fun B' xs _ h H e Q q => by
  obtain ⟨x, rfl, hx⟩ := all2_1 h
  obtain ⟨a, ys, rfl, h1, h2⟩ := ints_dp.mpr hx
  have := all2_ints h2
  subst this
  exact ⟨a, l, rfl, SqL.of (e _ _ h1), q _ B' H (Step.refl e) (.int _)⟩
/-- [v, ..] * k -/
theorem en_rep {v : V} {n : Nat} (ha : EvN ta σ B [P]) (hb : ∀ B', Ex B B' → EvP tb σ B' (dp (.int (n : Nat)))) (hn : n ≤ 1000000) : EvN (tOp rRep ta tb) σ B (List.replicate n P) := fun H e Q q =>
  ha H e _ fun p B1 H1 hp s1 a1 => hb B1 s1.eb H1 s1.bh _ fun y B2 H2 s2 p2 => by
    cases dp_int.mp p2
    obtain ⟨h1, xs, h2, h3⟩ := a1.step s2
    obtain ⟨x, rfl, hx⟩ := all2_1 h3
    refine ⟨p, n, [x], rfl, rfl, h2, by omega, by omega, by rw [Int.toNat_natCast]; exact sz_le (by simpa using hn), fun l hl => ?_⟩
    have s3 := s1.trans s2
    refine q l B2 _ (s3.eh.none hl) (s3.poke (s3.eh.none hl) (s3.bh.none hl)) ⟨s3.bh.none hl, _, upd_same, ?_⟩
    rw [Int.toNat_natCast]
    have : ∀ m : Nat, all2 B2 (List.replicate m [x]).flatten (List.replicate m P) := fun m => by
      induction m with
      | zero => exact True.intro
      | succ m ih => exact ⟨hx, ih⟩
    exact this n
theorem en_lst {ta : TA} {Ps : List VP} (h : EvL ta σ B Ps) (hl : Ps.length ≤ 1000000) : EvN (tLst ta) σ B Ps := fun H e Q q =>
  h H e _ fun xs B1 H1 s1 p1 => ⟨sz_le (by rw [all2_len p1]; exact hl), fun p hp => q p B1 _ (s1.eh.none hp) (s1.poke (s1.eh.none hp) (s1.bh.none hp)) ⟨s1.bh.none hp, _, upd_same, p1⟩⟩
end
end TL
set_option maxHeartbeats 4000000
/-! The rules that lean on the written part, with that part named (a comprehension's block has the same one). -/
namespace TL
open PySem L2
section
variable {X : Cx} {K : PySem.W.Frag} {e o : Expr} {es : List Expr} {f m : Str} {pos apos cpos : Pos} {ta te to : TE} {t : TA} {tg l : Expr} {tl : TE}
theorem kfld (hK : X.K = K) (he : PE X e ta) (hb : attributeBase e f X.env (eval e X.env) = eval e X.env) : PE X (.Attribute e f pos) (tFld K ta f) := hK ▸ pe_fld he hb
theorem kix_list (hK : X.K = K) : IxR X (rIxL K) := hK ▸ ix_list
theorem kix_tup (hK : X.K = K) : IxR X (rIxT K) := hK ▸ ix_tup
theorem ksl_list (hK : X.K = K) : SlR X (rSlL K) := hK ▸ sl_list
theorem ksl_tup (hK : X.K = K) : SlR X (rSlA K) := hK ▸ sl_tupA
theorem kop_cat (hK : X.K = K) : OpR X (binaryOp .Add) (rCatA K) := hK ▸ op_catA
theorem kop_eqD (hK : X.K = K) (hu : X.A.units + 64 < cLine) : OpR X (compareOp .Eq) (rEqD K) := hK ▸ op_eqD hu
theorem kop_neD (hK : X.K = K) (hu : X.A.units + 64 < cLine) : OpR X (compareOp .NotEq) (rNeD K) := hK ▸ op_neD hu
theorem kop_in (hK : X.K = K) : OpR X (compareOp .In) (rIn K false) := hK ▸ op_in_seq
theorem kop_notIn (hK : X.K = K) : OpR X (compareOp .NotIn) (rIn K true) := hK ▸ op_notIn_seq
theorem kcall_len (hK : X.K = K) : CallR X (.builtin "len") (rLenS K) := hK ▸ call_len_seq
theorem kcall_list (hK : X.K = K) : CallR X (.type "list") (rListS K) := hK ▸ call_list_of
theorem kcall_tuple (hK : X.K = K) : CallR X (.type "tuple") (rTupS K) := hK ▸ call_tuple_of
theorem kcr_sum (hK : X.K = K) (hc : X.calm = true) : CallR X (.builtin "sum") (rSum K) := hK ▸ cr_sum hc
theorem kcall_isi (hK : X.K = K) : CallR X (.builtin "isinstance") (rIsi K) := hK ▸ call_isi
theorem kmt_index (hK : X.K = K) : MtR X "list.index" (rIndex K) := hK ▸ mt_index
theorem kpi_list (hK : X.K = K) (hl : PE X l tl) : PI X tg l (iList K tl) := hK ▸ pi_list hl
theorem kpi_tup (hK : X.K = K) (hl : PE X l tl) : PI X tg l (iTup K tl) := hK ▸ pi_tup hl
theorem kbm {T id : String} {name : Str} {r : V → List V → Hp → VK → Prop} (hK : X.K = K) (pa : PlainAttrs T) (slot : Slot T name id) (hty : typeOf (.builtin id) = pure (.type "method_descriptor")) (hm : MtR X id r) (ho : PE X o to) (ha : PA X (e :: es) t)
    (hbase : attributeBase o name X.env (eval o X.env) = eval o X.env := by rfl)
    (hfew : ((backTo cpos (starEach (e :: es) X.env)).all (fun x => !x.1) && (backToKw cpos (keywordEach [] X.env)).all (fun x => x.1.isSome)
      && decide ((e :: es).length + ([] : List Keyword).length + (if ([] : List Keyword).isEmpty then 0 else 1) < 30)) = true := by rfl)
    (hline : (apos.endLine == cpos.line) = true := by rfl) (hs : starEach (e :: es) X.env = (false, eval e X.env) :: starEach es X.env := by rfl) (hplain : (backTo cpos (starEach es X.env)).any (·.1) = false := by rfl) :
    PE X (.Call (.Attribute o name apos) (e :: es) [] cpos) (tBM K T r to t) := hK ▸ pe_bm pa slot hty hm ho ha hbase hfew hline hs hplain
theorem kbm0 {T id : String} {name : Str} {r : V → List V → Hp → VK → Prop} (hK : X.K = K) (pa : PlainAttrs T) (slot : Slot T name id) (hty : typeOf (.builtin id) = pure (.type "method_descriptor")) (hm : MtR X id r) (ho : PE X o to)
    (hbase : attributeBase o name X.env (eval o X.env) = eval o X.env := by rfl) (hline : (apos.endLine == cpos.line) = true := by rfl) : PE X (.Call (.Attribute o name apos) [] [] cpos) (tBM0 K T r to) := hK ▸ pe_bm0 pa slot hty hm ho hbase hline
end
end TL
set_option maxHeartbeats 4000000
/-! Tiles as data. -/
namespace TL
open PySem L2
structure Tile where
  n : Int
  e : Int
  s : Int
  w : Int
deriving DecidableEq
def Tile.l (t : Tile) : List Int := [t.n, t.e, t.s, t.w]
def Tile.d (t : Tile) : PyData := .tuple [.int t.n, .int t.e, .int t.s, .int t.w]
def rowsD (rs : List Tile) : PyData := .list (rs.map Tile.d)
def intsD (l : List Int) : PyData := .list (l.map .int)
def natsD (l : List Nat) : PyData := .list (l.map fun n : Nat => .int (n : Int))
def natsT (l : List Nat) : PyData := .tuple (l.map fun n : Nat => .int (n : Int))
abbrev tilesF (rs : List Tile) : List (Str × VP) := [("squares", dp (rowsD rs))]
abbrev tilesV (K : PySem.W.Frag) (rs : List Tile) : VP := ins (ca K "Tiles") (tilesF rs)
def okMark (m : Int) : Prop := 0 ≤ m ∧ m < 1000000000000
def okTiles (rs : List Tile) : Prop := 1 ≤ rs.length ∧ rs.length ≤ 200 ∧ ∀ t ∈ rs, okMark t.n ∧ okMark t.e ∧ okMark t.s ∧ okMark t.w
/-- what the top has left of Tiles -/
structure TT (K : PySem.W.Frag) (mg : Str → Option Value) : Prop where
  cl : Cls K (ca K "Tiles")
  na : NoAttr K (ca K "Tiles") "squares"
theorem at_rows {rs : List Tile} {i : Nat} {t : Tile} (h : rs[i]? = some t) : atI (rs.map Tile.d) (i : Int) = some t.d := atI_nat (by rw [List.getElem?_map, h]; rfl)
theorem at_n {t : Tile} : atI [PyData.int t.n, .int t.e, .int t.s, .int t.w] 0 = some (.int t.n) := rfl
theorem at_e {t : Tile} : atI [PyData.int t.n, .int t.e, .int t.s, .int t.w] 1 = some (.int t.e) := rfl
theorem at_s {t : Tile} : atI [PyData.int t.n, .int t.e, .int t.s, .int t.w] 2 = some (.int t.s) := rfl
theorem at_w {t : Tile} : atI [PyData.int t.n, .int t.e, .int t.s, .int t.w] 3 = some (.int t.w) := rfl
end TL
set_option maxHeartbeats 4000000
/-! class Tiles -/
namespace TL
open PySem L2
section
variable {P : Program} {w : World} {K : PySem.W.Frag} {mg : Str → Option Value} {base : Heap} {f : Addr} {fd : FuncData}
/-! ### tiles, many, is_beside, is_below -/
abbrev s_Tiles_tiles : Stmt := inClass (top 11) 1
abbrev N_Tiles_tiles : List Str := ["self"]
abbrev P_Tiles_tiles : List Str := ["self"]
theorem sc_Tiles_tiles : FnScope N_Tiles_tiles P_Tiles_tiles (defScope s_Tiles_tiles) := ⟨rfl, rfl, rfl, by decide +kernel, rfl, by decide +kernel, by decide +kernel⟩
abbrev spTiles (K : PySem.W.Frag) : Sp := spP fun vs B R => ∃ rs x, vs = [x] ∧ (tilesV K rs).p B x ∧ R = dp (rowsD rs)
theorem ok_tiles (T : TB mg) (t : TT K mg) (F : FnP K "tiles" "Tiles.tiles" s_Tiles_tiles f fd) : FnOk P w K mg base CX0 1 f fd P_Tiles_tiles (spTiles K) := by
  refine F.ok sc_Tiles_tiles (fun vs H Q E h => ?_) (fun cdv A outer s H vs Q E hr h => ?_)
  · obtain ⟨B, R, e, ⟨rs, x, rfl, _⟩, _⟩ := h
    rfl
  · obtain ⟨B, R, e, ⟨rs, x, rfl, hx, rfl⟩, k⟩ := h
    refine ⟨_, PSs.nox (pss_one (ps_ret (pe_callTy (kcall_list (K := K) rfl) (by rfl) T.list (by decide +kernel) (pa_cons (kfld (K := K) rfl (pv 0) rfl) pa_nil)))), ?_⟩
    exact s_ret e (ev_listD (ev_fld (ev_var rfl hx) t.cl t.na rfl)) k
abbrev s_Tiles_many : Stmt := inClass (top 11) 2
abbrev N_Tiles_many : List Str := ["self"]
abbrev P_Tiles_many : List Str := ["self"]
theorem sc_Tiles_many : FnScope N_Tiles_many P_Tiles_many (defScope s_Tiles_many) := ⟨rfl, rfl, rfl, by decide +kernel, rfl, by decide +kernel, by decide +kernel⟩
abbrev spMany (K : PySem.W.Frag) : Sp := spP fun vs B R => ∃ rs x, vs = [x] ∧ (tilesV K rs).p B x ∧ R = dp (.int rs.length)
theorem ok_many (T : TB mg) (t : TT K mg) (F : FnP K "many" "Tiles.many" s_Tiles_many f fd) : FnOk P w K mg base CX0 1 f fd P_Tiles_many (spMany K) := by
  refine F.ok sc_Tiles_many (fun vs H Q E h => ?_) (fun cdv A outer s H vs Q E hr h => ?_)
  · obtain ⟨B, R, e, ⟨rs, x, rfl, _⟩, _⟩ := h
    rfl
  · obtain ⟨B, R, e, ⟨rs, x, rfl, hx, rfl⟩, k⟩ := h
    refine ⟨_, PSs.nox (pss_one (ps_ret (pe_callB (kcall_len (K := K) rfl) (by rfl) T.len PySem.boot_len (pa_cons (kfld (K := K) rfl (pv 0) rfl) pa_nil)))), ?_⟩
    exact s_ret e ((ev_lenLd (ev_fld (ev_var rfl hx) t.cl t.na rfl)).to (by rw [List.length_map])) k
abbrev s_Tiles_is_beside : Stmt := inClass (top 11) 3
abbrev N_Tiles_is_beside : List Str := ["self", "one", "other"]
abbrev P_Tiles_is_beside : List Str := ["self", "one", "other"]
theorem sc_Tiles_is_beside : FnScope N_Tiles_is_beside P_Tiles_is_beside (defScope s_Tiles_is_beside) := ⟨rfl, rfl, rfl, by decide +kernel, rfl, by decide +kernel, by decide +kernel⟩
abbrev spBeside (K : PySem.W.Frag) : Sp := spP fun vs B R => ∃ rs x i j a b, vs = [x, .int (i : Nat), .int (j : Nat)] ∧ (tilesV K rs).p B x ∧ rs[i]? = some a ∧ rs[j]? = some b ∧ R = dp (.bool (decide (a.e = b.w)))
theorem ok_is_beside (T : TB mg) (t : TT K mg) (F : FnP K "is_beside" "Tiles.is_beside" s_Tiles_is_beside f fd) : FnOk P w K mg base CX0 1 f fd P_Tiles_is_beside (spBeside K) := by
  refine F.ok sc_Tiles_is_beside (fun vs H Q E h => ?_) (fun cdv A outer s H vs Q E hr h => ?_)
  · obtain ⟨B, R, e, ⟨rs, x, i, j, a, b, rfl, _⟩, _⟩ := h
    rfl
  · obtain ⟨B, R, e, ⟨rs, x, i, j, a, b, rfl, hx, h1, h2, rfl⟩, k⟩ := h
    refine ⟨_, PSs.nox (pss_one (ps_ret (pe_cmpR op_eq (pe_ix (kix_tup (K := K) rfl) (pe_ix (kix_list (K := K) rfl) (kfld (K := K) rfl (pv 0) rfl) (pv 1) (fun _ _ => rfl)) pe_int (fun _ _ => rfl)) (pe_ix (kix_tup (K := K) rfl) (pe_ix (kix_list (K := K) rfl) (kfld (K := K) rfl (pv 0) rfl) (pv 2) (fun _ _ => rfl)) pe_int (fun _ _ => rfl)) (nomark _)))), ?_⟩
    have hs : EvP (tFld K (tVar 0) "squares") (start N_Tiles_is_beside [x, .int (i : Nat), .int (j : Nat)]) B (dp (rowsD rs)) := ev_fld (ev_var rfl hx) t.cl t.na rfl
    exact s_ret e (ev_eq (ev_ixTd (ev_ixLd hs (ev_var rfl (.int _)) (at_rows h1)) ev_int at_e) (ev_ixTd (ev_ixLd hs (ev_var rfl (.int _)) (at_rows h2)) ev_int at_w)) k
abbrev s_Tiles_is_below : Stmt := inClass (top 11) 4
abbrev N_Tiles_is_below : List Str := ["self", "one", "other"]
abbrev P_Tiles_is_below : List Str := ["self", "one", "other"]
theorem sc_Tiles_is_below : FnScope N_Tiles_is_below P_Tiles_is_below (defScope s_Tiles_is_below) := ⟨rfl, rfl, rfl, by decide +kernel, rfl, by decide +kernel, by decide +kernel⟩
abbrev spBelow (K : PySem.W.Frag) : Sp := spP fun vs B R => ∃ rs x i j a b, vs = [x, .int (i : Nat), .int (j : Nat)] ∧ (tilesV K rs).p B x ∧ rs[i]? = some a ∧ rs[j]? = some b ∧ R = dp (.bool (decide (a.s = b.n)))
theorem ok_is_below (T : TB mg) (t : TT K mg) (F : FnP K "is_below" "Tiles.is_below" s_Tiles_is_below f fd) : FnOk P w K mg base CX0 1 f fd P_Tiles_is_below (spBelow K) := by
  refine F.ok sc_Tiles_is_below (fun vs H Q E h => ?_) (fun cdv A outer s H vs Q E hr h => ?_)
  · obtain ⟨B, R, e, ⟨rs, x, i, j, a, b, rfl, _⟩, _⟩ := h
    rfl
  · obtain ⟨B, R, e, ⟨rs, x, i, j, a, b, rfl, hx, h1, h2, rfl⟩, k⟩ := h
    refine ⟨_, PSs.nox (pss_one (ps_ret (pe_cmpR op_eq (pe_ix (kix_tup (K := K) rfl) (pe_ix (kix_list (K := K) rfl) (kfld (K := K) rfl (pv 0) rfl) (pv 1) (fun _ _ => rfl)) pe_int (fun _ _ => rfl)) (pe_ix (kix_tup (K := K) rfl) (pe_ix (kix_list (K := K) rfl) (kfld (K := K) rfl (pv 0) rfl) (pv 2) (fun _ _ => rfl)) pe_int (fun _ _ => rfl)) (nomark _)))), ?_⟩
    have hs : EvP (tFld K (tVar 0) "squares") (start N_Tiles_is_below [x, .int (i : Nat), .int (j : Nat)]) B (dp (rowsD rs)) := ev_fld (ev_var rfl hx) t.cl t.na rfl
    exact s_ret e (ev_eq (ev_ixTd (ev_ixLd hs (ev_var rfl (.int _)) (at_rows h1)) ev_int at_s) (ev_ixTd (ev_ixLd hs (ev_var rfl (.int _)) (at_rows h2)) ev_int at_n)) k
end
end TL
set_option maxHeartbeats 4000000
namespace TL
open PySem L2
section
variable {P : Program} {w : World} {K : PySem.W.Frag} {mg : Str → Option Value} {base : Heap} {f : Addr} {fd : FuncData}
abbrev s_Tiles___init__ : Stmt := inClass (top 11) 0
abbrev N_Tiles___init__ : List Str := ["self", "rows", "at", "mark"]
abbrev P_Tiles___init__ : List Str := ["self", "rows"]
theorem sc_Tiles___init__ : FnScope N_Tiles___init__ P_Tiles___init__ (defScope s_Tiles___init__) := ⟨rfl, rfl, rfl, by decide +kernel, rfl, by decide +kernel, by decide +kernel⟩
abbrev spTilesI (K : PySem.W.Frag) : Sp := spMk (ca K "Tiles") fun as B Fs => ∃ rs v, as = [v] ∧ (dp (rowsD rs)).p B v ∧ okTiles rs ∧ Fs = tilesF rs
theorem ok_tilesI (T : TB mg) (t : TT K mg) (g_MOST_TILES : ∃ u, mg "MOST_TILES" = some u ∧ RelV (.int 200) u) (g_MOST_MARK : ∃ u, mg "MOST_MARK" = some u ∧ RelV (.int 1000000000000) u)
    (F : FnP K "__init__" "Tiles.__init__" s_Tiles___init__ f fd) : FnOk P w K mg base CX0 1 f fd P_Tiles___init__ (spTilesI K) := by
  refine F.ok sc_Tiles___init__ (fun vs H Q E h => ?_) (fun cdv A outer s H vs Q E hr h => ?_)
  · obtain ⟨B, x, dx, as, Fs, rfl, e, bx, hx, ⟨rs, v, rfl, _⟩, _⟩ := h
    rfl
  · obtain ⟨B, x, dx, as, Fs, rfl, e, bx, hx, ⟨rs, v, rfl, hv, ok, rfl⟩, k⟩ := h
    refine ⟨_, PSs.nox (pss_cons (ps_if (PW.pt (pw_or (pt_cmpR op_lt (pe_callB (kcall_len (K := K) rfl) (by rfl) T.len PySem.boot_len (pa_cons (pv 1) pa_nil)) pe_int (nomark _)) (pw_or1 (pt_cmpR op_gt (pe_callB (kcall_len (K := K) rfl) (by rfl) T.len PySem.boot_len (pa_cons (pv 1) pa_nil)) (C8.pe_gc rfl g_MOST_TILES) (nomark _))))) (pss_one ps_never) pss_nil)
      (pss_cons (ps_for PassesOwn.never rfl (pi_range1 (by rfl) T.range (pa_cons (pe_callB (kcall_len (K := K) rfl) (by rfl) T.len PySem.boot_len (pa_cons (pv 1) pa_nil)) pa_nil)) (pg_name (i := 2) sc_Tiles___init__.nd rfl (Or.inl rfl)) (pss_one (ps_for PassesOwn.never rfl (kpi_tup (K := K) rfl (pe_ix (kix_list (K := K) rfl) (pv 1) (pv 2) (fun _ _ => rfl))) (pg_name (i := 3) sc_Tiles___init__.nd rfl (Or.inl rfl)) (pss_one (ps_if (PW.pt (pw_or (pt_cmpR op_lt (pv 3) pe_int (nomark _)) (pw_or1 (pt_cmpR op_ge (pv 3) (C8.pe_gc rfl g_MOST_MARK) (nomark _))))) (pss_one ps_never) pss_nil)))))
      (pss_one (ps_fld (pv 0) (pe_callTy (kcall_list (K := K) rfl) (by rfl) T.list (by decide +kernel) (pa_cons (pv 1) pa_nil)) rfl)))), ?_⟩
    have hl : ∀ {σ : L2.St} {B' : Hp}, σ[1]? = some (some v) → Ex B B' → EvP (tVar 1) σ B' (dp (rowsD rs)) := fun h e => ev_var h ((dp _).m e hv)
    have hn : ∀ {σ : L2.St} {B' : Hp}, σ[1]? = some (some v) → Ex B B' → EvP (tCB (rLenS K) (tCons (tVar 1) tNil)) σ B' (dp (.int rs.length)) := fun h e => (ev_lenLd (hl h e)).to (by rw [List.length_map])
    refine q (s_skip e ((eb_or (eb_test (ev_lt (hn rfl (Ex.refl _)) ev_int)) fun _ => eb_test (ev_gt (hn rfl (Ex.refl _)) ev_int)).to ?_) fun B1 H1 s1 => ?_)
    · rw [dF (by have := ok.1; omega), dF (by have := ok.2.1; omega)]
      rfl
    refine q (s_forR s1.bh (el_cons (hn rfl s1.eb) el_nil) (by have := ok.2.1; omega) (fun i σ B' H' => ∃ a b, σ = [some (.ref x), some v, a, b] ∧ Step B H B' H')
      (fun Bl Hl sl => ⟨none, none, rfl, s1.trans sl⟩) ?_ ?_)
    · rintro Bl Hl sl i σ' B2 H2 hi e1 e2 ⟨a, b, rfl, s2⟩
      obtain ⟨y, hy⟩ := lt_get hi
      refine s_forT e2 (ev_ixLd (hl rfl s2.eb) (ev_var rfl (.int _)) (at_rows hy)).dTup (fun j σ B' H' => ∃ b, σ = [some (.ref x), some v, some (.int (i : Nat)), b] ∧ Step B H B' H') (fun Bl Hl sl => ⟨b, rfl, s2.trans sl⟩) ?_ ?_
      · rintro Bm Hm sm j Pj vj σ'' B3 H3 hj e3 e4 hp ⟨b', rfl, s3⟩
        obtain ⟨m, hm, rfl⟩ : ∃ m, okMark m ∧ Pj = dp (.int m) := by
          have hk := ok.2.2 y (List.mem_of_getElem? hy)
          match j, hj with
          | 0, hj => cases hj; exact ⟨_, hk.1, rfl⟩
          | 1, hj => cases hj; exact ⟨_, hk.2.1, rfl⟩
          | 2, hj => cases hj; exact ⟨_, hk.2.2.1, rfl⟩
          | 3, hj => cases hj; exact ⟨_, hk.2.2.2, rfl⟩
          | j + 4, hj => simp at hj
        refine s_skip e4 ((eb_or (eb_test (ev_lt (ev_var rfl hp) ev_int)) fun _ => eb_test (ev_ge (ev_var rfl hp) ev_int)).to ?_) fun B4 H4 s4 => ⟨B4, e3.trans s4.eb, s4.bh, _, rfl, s3.trans s4⟩
        rw [dF (by have := hm.1; omega), dF (by have := hm.2; omega)]
        rfl
      · rintro σ'' B3 H3 e3 e4 ⟨b', rfl, s3⟩
        exact ⟨B3, e1.trans e3, e4, _, _, rfl, s3⟩
    · rintro σ' B2 H2 e1 e2 ⟨a, b, rfl, s2⟩
      obtain ⟨b2, h2⟩ := s2.hide bx hx
      refine s_fld e2 (ev_listD (hl rfl s2.eb)) b2 h2 (ev_var rfl rfl) t.cl t.na (by decide) fun v' B3 H3 s3 p3 b3 h3 => ?_
      refine k B3 _ [("squares", v')] (((s2.trans s3).x x).poke b3) upd_same rfl ⟨p3, True.intro⟩
end
end TL
set_option maxHeartbeats 4000000
/-! need_size, goes_on, columns -/
namespace TL
open PySem L2
/-! ### plain -/
def gt (rs : List Tile) (i : Nat) : Tile := rs.getD i ⟨0, 0, 0, 0⟩
theorem gt_of {rs : List Tile} {i : Nat} {t : Tile} (h : rs[i]? = some t) : gt rs i = t := by
  unfold gt
  rw [List.getD_eq_getElem?_getD, h]
  rfl
theorem of_gt {rs : List Tile} {i : Nat} (h : i < rs.length) : rs[i]? = some (gt rs i) := by
  obtain ⟨t, e⟩ := lt_get h
  rw [gt_of e]
  exact e
def goesOn (rs : List Tile) (xs ys : List Nat) : Bool := decide (xs.map (fun i => (gt rs i).e) = ys.map (fun i => (gt rs i).w))
def below (rs : List Tile) (i j : Nat) : Bool := decide ((gt rs i).s = (gt rs j).n)
def extK (rs : List Tile) (place : Nat) (c : List Nat) : List (List Nat) := ((List.range rs.length).filter fun t => decide (place = 0) || below rs (c.getD (place - 1) 0) t).map fun t => c ++ [t]
def colsK (rs : List Tile) : Nat → List (List Nat)
  | 0 => [[]]
  | k + 1 => (colsK rs k).flatMap (extK rs k)
def colsD (cs : List (List Nat)) : PyData := .list (cs.map natsT)
/-- the columns of a place are as long, of tiles that are there -/
theorem colsK_ok (rs : List Tile) : ∀ k c, c ∈ colsK rs k → c.length = k ∧ ∀ t ∈ c, t < rs.length
  | 0, c, h => by
    have : c = [] := by simpa [colsK] using h
    subst this
    exact ⟨rfl, fun t ht => by cases ht⟩
  | k + 1, c, h => by
    obtain ⟨c0, h0, h1⟩ := List.mem_flatMap.mp h
    obtain ⟨t, ht, rfl⟩ := List.mem_map.mp h1
    obtain ⟨a, b⟩ := colsK_ok rs k c0 h0
    refine ⟨by rw [List.length_append, a]; rfl, fun u hu => ?_⟩
    rcases List.mem_append.mp hu with hu | hu
    · exact b u hu
    · rw [List.mem_singleton.mp hu]
      exact List.mem_range.mp (List.mem_filter.mp ht).1
theorem extK_len (rs : List Tile) (k : Nat) (c : List Nat) : (extK rs k c).length ≤ rs.length := by
  unfold extK
  rw [List.length_map]
  refine Nat.le_trans (List.length_filter_le _ _) ?_
  rw [List.length_range]
  exact Nat.le_refl _
theorem flat_len {α β : Type} {f : α → List β} {n : Nat} (h : ∀ a, (f a).length ≤ n) : ∀ l : List α, (l.flatMap f).length ≤ l.length * n
  | [] => by simp
  | a :: l => by
    rw [List.flatMap_cons, List.length_append, List.length_cons, Nat.succ_mul]
    have := flat_len h l
    have := h a
    omega
section
variable {P : Program} {w : World} {K : PySem.W.Frag} {mg : Str → Option Value} {base : Heap} {f : Addr} {fd : FuncData}
abbrev s_need_size : Stmt := top 12
abbrev N_need_size : List Str := ["high", "wide"]
abbrev P_need_size : List Str := ["high", "wide"]
theorem sc_need_size : FnScope N_need_size P_need_size (defScope s_need_size) := ⟨rfl, rfl, rfl, by decide +kernel, rfl, by decide +kernel, by decide +kernel⟩
abbrev spNeed : Sp := spP fun vs B R => ∃ h w : Int, vs = [.int h, .int w] ∧ (1 ≤ h ∧ h ≤ 12) ∧ (1 ≤ w ∧ w ≤ 12) ∧ R = dp .none
theorem ok_need_size (g_MOST_SIZE : ∃ u, mg "MOST_SIZE" = some u ∧ RelV (.int 12) u) (F : FnP K "need_size" "need_size" s_need_size f fd) : FnOk P w K mg base CX0 1 f fd P_need_size spNeed := by
  refine F.ok sc_need_size (fun vs H Q E h => ?_) (fun cdv A outer s H vs Q E hr h => ?_)
  · obtain ⟨B, R, e, ⟨a, b, rfl, _⟩, _⟩ := h
    rfl
  · obtain ⟨B, R, e, ⟨a, b, rfl, h1, h2, rfl⟩, k⟩ := h
    refine ⟨_, PSs.nox (pss_one (ps_if (PW.pt (pw_or (pt_not (pt_chain op_le op_le pe_int (pv 0) (C8.pe_gc rfl g_MOST_SIZE))) (pw_or1 (pt_not (pt_chain op_le op_le pe_int (pv 1) (C8.pe_gc rfl g_MOST_SIZE)))))) (pss_one ps_never) pss_nil)), ?_⟩
    refine s_skip e ((eb_or (eb_not (eb_test (ev_le3 ev_int (ev_var rfl (.int _)) (ev_c (.int _))))) fun _ => eb_not (eb_test (ev_le3 ev_int (ev_var rfl (.int _)) (ev_c (.int _))))).to ?_) fun B1 H1 s1 => k _ B1 H1 s1 .non
    rw [dT h1.1, dT h1.2, dT h2.1, dT h2.2]
    rfl
abbrev s_goes_on : Stmt := top 17
abbrev N_goes_on : List Str := ["tiles", "one", "other", "k"]
abbrev P_goes_on : List Str := ["tiles", "one", "other"]
theorem sc_goes_on : FnScope N_goes_on P_goes_on (defScope s_goes_on) := ⟨rfl, rfl, rfl, by decide +kernel, rfl, by decide +kernel, by decide +kernel⟩
abbrev spGoesOn (K : PySem.W.Frag) : Sp := spP fun vs B R => ∃ rs x a b xs ys, vs = [x, a, b] ∧ (tilesV K rs).p B x ∧ (dp (natsT xs)).p B a ∧ (dp (natsT ys)).p B b ∧ xs.length = ys.length ∧ xs.length ≤ 100 ∧ (∀ t ∈ xs, t < rs.length) ∧ (∀ t ∈ ys, t < rs.length) ∧ R = dp (.bool (goesOn rs xs ys))
theorem ok_goes_on (T : TB mg) (t : TT K mg) (m_Tiles_is_beside : Mt P w K mg base CX0 1 (ca K "Tiles") "is_beside" (spBeside K)) (F : FnP K "goes_on" "goes_on" s_goes_on f fd) : FnOk P w K mg base CX0 2 f fd P_goes_on (spGoesOn K) := by
  refine F.ok sc_goes_on (fun vs H Q E h => ?_) (fun cdv A outer s H vs Q E hr h => ?_)
  · obtain ⟨B, R, e, ⟨rs, x, a, b, xs, ys, rfl, _⟩, _⟩ := h
    rfl
  · obtain ⟨B, R, e, ⟨rs, x, a, b, xs, ys, rfl, hx, ha, hb, hl, h100, h1, h2, rfl⟩, k⟩ := h
    refine ⟨_, PSs.nox (pss_cons (ps_for PassesOwn.never rfl (pi_range1 (by rfl) T.range (pa_cons (pe_callB (kcall_len (K := K) rfl) (by rfl) T.len PySem.boot_len (pa_cons (pv 1) pa_nil)) pa_nil)) (pg_name (i := 3) sc_goes_on.nd rfl (Or.inl rfl)) (pss_one (ps_if (pt_not (pt_val (pe_ml m_Tiles_is_beside hr (by omega) pass0 (pv 0) (pa_cons (pe_ix (kix_tup (K := K) rfl) (pv 1) (pv 3) (fun _ _ => rfl)) (pa_cons (pe_ix (kix_tup (K := K) rfl) (pv 2) (pv 3) (fun _ _ => rfl)) pa_nil))))) (pss_one (ps_ret pe_bl)) pss_nil)))
      (pss_one (ps_ret pe_bl))), ?_⟩
    refine q (s_forR (n := xs.length) e (el_cons ((ev_lenTd (ev_var rfl ha)).to (by rw [List.length_map])) el_nil) (by omega)
      (fun i σ B' H' => (∃ c, σ = [some x, some a, some b, c]) ∧ Step B H B' H' ∧ ∀ j, j < i → (gt rs (xs.getD j 0)).e = (gt rs (ys.getD j 0)).w) (fun Bl Hl sl => ⟨⟨none, rfl⟩, sl, fun j hj => absurd hj (Nat.not_lt_zero _)⟩) ?_ ?_)
    · rintro Bl Hl sl i σ' B1 H1 hi e1 e2 ⟨⟨c, rfl⟩, s1, hq⟩
      obtain ⟨u, hu⟩ := lt_get hi
      obtain ⟨v, hv⟩ := lt_get (l := ys) (hl ▸ hi)
      have lu := h1 u (List.mem_of_getElem? hu)
      have lv := h2 v (List.mem_of_getElem? hv)
      have gu : xs.getD i 0 = u := by rw [List.getD_eq_getElem?_getD, hu]; rfl
      have gv : ys.getD i 0 = v := by rw [List.getD_eq_getElem?_getD, hv]; rfl
      refine s_when e2 (b := !decide ((gt rs u).e = (gt rs v).w)) (eb_not (eb_B (ev_meth (ev_var rfl ((tilesV K rs).m s1.eb hx)) rfl
        (el_cons (ev_ixTd (ev_var rfl ((dp _).m s1.eb ha)) (ev_var rfl (.int _)) (atI_nat (by rw [List.getElem?_map, hu]; rfl)))
          (el_cons (ev_ixTd (ev_var rfl ((dp _).m s1.eb hb)) (ev_var rfl (.int _)) (atI_nat (by rw [List.getElem?_map, hv]; rfl))) el_nil))
        fun y vs B2 e3 py pv => ?_))) (fun hne B2 H2 s2 => ?_) fun heq B2 H2 s2 => ⟨B2, e1.trans s2.eb, s2.bh, ⟨_, rfl⟩, s1.trans s2, fun j hj => ?_⟩
      · obtain ⟨p, q, rfl, p1, p2⟩ := all2_2 pv
        cases dp_int.mp p1
        cases dp_int.mp p2
        exact ⟨rs, y, u, v, _, _, rfl, py, of_gt lu, of_gt lv, rfl⟩
      · refine s_ret s2.bh ev_bl fun v' B3 H3 s3 p3 => ?_
        refine k v' B3 H3 ((s1.trans s2).trans s3) ?_
        have : goesOn rs xs ys = false := by
          refine decide_eq_false fun z => ?_
          have z2 := congrArg (fun l => l[i]?) z
          simp only [List.getElem?_map, hu, hv] at z2
          have z3 := Option.some.inj z2
          rw [dT z3] at hne
          cases hne
        rw [this]
        exact p3
      · rcases Nat.lt_or_eq_of_le (Nat.le_of_lt_succ hj) with h | h
        · exact hq j h
        · subst h
          rw [gu, gv]
          have : decide ((gt rs u).e = (gt rs v).w) = true := by
            cases z : decide ((gt rs u).e = (gt rs v).w) with
            | true => rfl
            | false => rw [z] at heq; cases heq
          exact of_decide_eq_true this
    · rintro σ' B1 H1 e1 e2 ⟨⟨c, rfl⟩, s1, hq⟩
      dsimp only
      refine s_ret e2 ev_bl fun v' B3 H3 s3 p3 => ?_
      refine k v' B3 H3 (s1.trans s3) ?_
      have : goesOn rs xs ys = true := by
        refine decide_eq_true (List.ext_getElem (by rw [List.length_map, List.length_map, hl]) fun i hi hi2 => ?_)
        rw [List.length_map] at hi hi2
        have := hq i hi
        rw [List.getElem_map, List.getElem_map]
        rw [List.getD_eq_getElem?_getD, List.getD_eq_getElem?_getD, List.getElem?_eq_getElem hi, List.getElem?_eq_getElem hi2] at this
        exact this
      rw [this]
      exact p3
end
end TL
set_option maxHeartbeats 4000000
namespace TL
open PySem L2
/-- what the top has left of TooMany -/
structure TM (K : PySem.W.Frag) (mg : Str → Option Value) : Prop where
  x : PySem.W.excIn K (ca K "TooMany") He.veBase "ValueError.__new__" = true
  g : mg "TooMany" = some (.ref (ca K "TooMany"))
  k : PySem.W.keepIn K (.ref (ca K "TooMany")) = true
  b : PySem.W.subIn K (.ref (ca K "TooMany")) (.type "BaseException") = some true
  t : PySem.W.typeIn K (.ref (ca K "TooMany")) = some (.type "type")
theorem lstC {B : Hp} {v : V} {cs : List (List Nat)} : (lst (cs.map fun c => dp (natsT c))).p B v ↔ (dp (colsD cs)).p B v := by
  unfold colsD
  rw [← lst_dp, List.map_map]
  rfl
def fewK (rs : List Tile) (high : Nat) : Prop := ∀ i, i ≤ high → (colsK rs i).length ≤ 500
section
variable {P : Program} {w : World} {K : PySem.W.Frag} {mg : Str → Option Value} {base : Heap} {f : Addr} {fd : FuncData}
abbrev s_columns : Stmt := top 16
abbrev N_columns : List Str := ["tiles", "high", "found", "place", "longer", "column", "tile"]
abbrev P_columns : List Str := ["tiles", "high"]
theorem sc_columns : FnScope N_columns P_columns (defScope s_columns) := ⟨rfl, rfl, rfl, by decide +kernel, rfl, by decide +kernel, by decide +kernel⟩
abbrev spColumns (K : PySem.W.Frag) : Sp := fun vs H Q E => ∃ B rs x high, Ex B H ∧ vs = [x, .int (high : Nat)] ∧ (tilesV K rs).p B x ∧ rs.length ≤ 200 ∧ 1 ≤ high ∧ high ≤ 12 ∧
  (fewK rs high → ∀ v B' H', Step B H B' H' → (dp (colsD (colsK rs high))).p B' v → Q v H') ∧ (¬ fewK rs high → ∀ B' H', Step B H B' H' → E (.ref (ca K "TooMany")) none H')
theorem ext_split (rs : List Tile) (k : Nat) {cs : List (List Nat)} {i : Nat} {c : List Nat} (h : cs[i]? = some c) : (cs.take (i + 1)).flatMap (extK rs k) = (cs.take i).flatMap (extK rs k) ++ extK rs k c := by
  rw [get_take h, List.flatMap_append]
  simp
theorem ok_columns (T : TB mg) (t : TT K mg) (tm : TM K mg) (g_MOST_COLUMNS : ∃ u, mg "MOST_COLUMNS" = some u ∧ RelV (.int 500) u) (c_need_size : Cl P w K mg base CX0 1 "need_size" spNeed) (m_Tiles_many : Mt P w K mg base CX0 1 (ca K "Tiles") "many" (spMany K))
    (m_Tiles_is_below : Mt P w K mg base CX0 1 (ca K "Tiles") "is_below" (spBelow K)) (F : FnP K "columns" "columns" s_columns f fd) : FnOk P w K mg base (L2.CX P w) 2 f fd P_columns (spColumns K) := by
  refine F.ok sc_columns (fun vs H Q E h => ?_) (fun cdv A outer s H vs Q E hr h => ?_)
  · obtain ⟨B, rs, x, high, e, rfl, _⟩ := h
    rfl
  · obtain ⟨B, rs, x, high, e, rfl, hx, h200, h1, h12, kq, ke⟩ := h
    refine ⟨_, (pss_cons (ps_expr (pe_cl c_need_size hr (by omega) rfl pass0 (pa_cons (pv 1) (pa_cons pe_int pa_nil))))
      (pss_cons (ps_set (i := 2) sc_columns.nd rfl (Or.inl rfl) (pe_lst (pa_cons (pe_tup pa_nil) pa_nil)))
      (pss_cons (ps_for (passes_of rfl) rfl (pi_range1 (by rfl) T.range (pa_cons (pv 1) pa_nil)) (pg_name (i := 3) sc_columns.nd rfl (Or.inl rfl)) (pss_cons (ps_set (i := 4) sc_columns.nd rfl (Or.inl rfl) (pe_lst pa_nil))
      (pss_cons (ps_for (passes_of rfl) rfl (kpi_list (K := K) rfl (pv 2)) (pg_name (i := 5) sc_columns.nd rfl (Or.inl rfl)) (pss_one (ps_for (passes_of rfl) rfl (pi_range1 (by rfl) T.range (pa_cons (pe_ml0 m_Tiles_many hr (by omega) pass0 (pv 0)) pa_nil)) (pg_name (i := 6) sc_columns.nd rfl (Or.inl rfl)) (pss_one (ps_if (PW.pt (pw_or (pt_cmpR op_eq (pv 3) pe_int (nomark _)) (pw_or1 (pt_val (pe_ml m_Tiles_is_below hr (by omega) pass0 (pv 0) (pa_cons (pe_ix (kix_tup (K := K) rfl) (pv 5) (pe_op op_sub (pv 3) pe_int) (fun _ _ => rfl)) (pa_cons (pv 6) pa_nil))))))) (pss_one (ps_expr (kbm (K := K) rfl PySem.F.plainAttrs_list PySem.F.slot_list_append PySem.F.type_list_append mt_append (pv 4) (pa_cons (pe_op (kop_cat (K := K) rfl) (pv 5) (pe_tup (pa_cons (pv 6) pa_nil))) pa_nil)))) pss_nil)))))
      (pss_cons (ps_if (pt_cmpR op_gt (pe_callB (kcall_len (K := K) rfl) (by rfl) T.len PySem.boot_len (pa_cons (pv 4) pa_nil)) (C8.pe_gc rfl g_MOST_COLUMNS) (nomark _)) (pss_one (ps_raise rfl (takes_of rfl rfl rfl rfl) (pmk_own PySem.F.excBase_ValueError tm.x tm.g tm.k (raises_own tm.b tm.t) rfl))) pss_nil)
      (pss_one (ps_set (i := 2) sc_columns.nd rfl (Or.inl rfl) (pv 4)))))))
      (pss_one (ps_ret (pv 2)))))), ?_⟩
    -- need_size(high, 1)
    refine q_drop (P := dp .none) e (ev_call (el_cons (ev_var rfl (P := dp (.int (high : Nat))) (.int _)) (el_cons ev_int el_nil)) fun vs B1 e1 p1 => ?_) fun v1 B1 H1 s1 _ => ?_
    · obtain ⟨a, b, rfl, pa, pb⟩ := all2_2 p1
      cases dp_int.mp pa
      cases dp_int.mp pb
      exact ⟨(high : Nat), 1, rfl, by omega, by omega, rfl⟩
    -- found = [()]
    refine q_asg s1.bh (ev_lst (el_cons (ev_tup el_nil (Nat.zero_le _)) el_nil) (by decide)) fun vf B2 H2 s2 p2 => ?_
    have pf : (dp (colsD (colsK rs 0))).p B2 vf := by
      obtain ⟨a, xs, rfl, h3, h4⟩ := p2
      obtain ⟨y, rfl, c, ys, rfl, h5, h6⟩ := all2_1 h4
      have : ys = [] := by cases ys with | nil => rfl | cons _ _ => exact h6.elim
      subst this
      exact .lst h3 (.cons (.tup h5 .nil) .nil)
    have tm' : ∀ {σ : L2.St} {B' : Hp}, σ[0]? = some (some x) → Ex B B' → EvP (tVar 0) σ B' (tilesV K rs) := fun h e => ev_var h ((tilesV K rs).m e hx)
    have st2 := s1.trans s2
    refine q_forR (n := high) s2.bh (el_cons (ev_var rfl (.int _)) el_nil) (by omega) (fun i σ B' H' => (∃ vf a b c d, σ = [some x, some (.int (high : Nat)), some vf, a, b, c, d] ∧ (dp (colsD (colsK rs i))).p B' vf) ∧ Step B H B' H' ∧ fewK rs i)
      (fun Bl Hl sl => ⟨⟨_, _, _, _, _, rfl, (dp _).m sl.eb pf⟩, st2.trans sl, fun i hi => by rw [Nat.le_zero.mp hi]; exact Nat.le_of_ble_eq_true rfl⟩) ?_ ?_
    · rintro Bl Hl sl i σ' B3 H3 hi e3 e4 ⟨⟨vf, a, b, c, d, rfl, pf⟩, s3, few⟩
      -- longer = []
      refine q_new fun p hp => ?_
      have bp := s3.bh.none hp
      have hp0 : H p = none := s3.eh.none hp
      have fewi := few i (Nat.le_refl i)
      refine q_forL (Ps := (colsK rs i).map fun c => dp (natsT c)) (e4.poke bp) (ev_var rfl (lstC.mpr pf)) (fun j σ B' H' => (∃ c d, σ = [some x, some (.int (high : Nat)), some vf, some (.int (i : Nat)), some (.ref p), c, d]) ∧ Step B H B' H' ∧ Acc p ((((colsK rs i).take j).flatMap (extK rs i)).map fun c => dp (natsT c)) B' H')
        (fun Bm Hm sm => ⟨⟨_, _, rfl⟩, (s3.poke hp0 bp).trans sm, (Acc.new bp).step sm⟩) ?_ ?_
      · rintro Bm Hm sm j Pj vc σ'' B4 H4 hj e5 e6 pc ⟨⟨c', d', rfl⟩, s4, ac⟩
        obtain ⟨cj, hcj, rfl⟩ := get_map hj
        obtain ⟨clen, cin⟩ := colsK_ok rs i cj (List.mem_of_getElem? hcj)
        have jlt : j < (colsK rs i).length := get_lt hcj
        refine s_forR (n := rs.length) e6 (el_cons (ev_meth (P := dp (.int rs.length)) (tm' rfl s4.eb) rfl el_nil fun y vs B5 e7 py pv => ?_) el_nil) (by omega)
          (fun m σ B' H' => (∃ d, σ = [some x, some (.int (high : Nat)), some vf, some (.int (i : Nat)), some (.ref p), some vc, d]) ∧ Step B H B' H' ∧
            Acc p ((((colsK rs i).take j).flatMap (extK rs i) ++ (((List.range m).filter fun t => decide (i = 0) || below rs (cj.getD (i - 1) 0) t).map fun t => cj ++ [t])).map fun c => dp (natsT c)) B' H')
          (fun Bn Hn sn => ⟨⟨_, rfl⟩, s4.trans sn, by rw [List.range_zero, List.filter_nil, List.map_nil, List.append_nil]; exact ac.step sn⟩) ?_ ?_
        · have : vs = [] := by cases vs with | nil => rfl | cons _ _ => exact pv.elim
          subst this
          exact ⟨rs, y, rfl, py, rfl⟩
        · rintro Bn Hn sn m σ3 B6 H6 hm e7 e8 ⟨⟨d2, rfl⟩, s6, ac6⟩
          have pcx : (dp (natsT cj)).p B6 vc := (dp _).m (sn.eb.trans e7) pc
          have lenb : ((((colsK rs i).take j).flatMap (extK rs i) ++ (((List.range m).filter fun t => decide (i = 0) || below rs (cj.getD (i - 1) 0) t).map fun t => cj ++ [t])).map fun c => dp (natsT c)).length < 1000000 := by
            rw [List.length_map, List.length_append, List.length_map]
            have l1 := flat_len (extK_len rs i) ((colsK rs i).take j)
            have l2 : ((colsK rs i).take j).length ≤ 500 := by rw [List.length_take]; omega
            have l3 := List.length_filter_le (fun t => decide (i = 0) || below rs (cj.getD (i - 1) 0) t) (List.range m)
            rw [List.length_range] at l3
            have l4 : ((colsK rs i).take j).length * rs.length ≤ 500 * 200 := Nat.mul_le_mul l2 h200
            omega
          have next : ∀ b, (decide (i = 0) || below rs (cj.getD (i - 1) 0) m) = b → (((List.range (m + 1)).filter fun t => decide (i = 0) || below rs (cj.getD (i - 1) 0) t).map fun t => cj ++ [t]) =
              (((List.range m).filter fun t => decide (i = 0) || below rs (cj.getD (i - 1) 0) t).map fun t => cj ++ [t]) ++ (if b = true then [cj ++ [m]] else []) := fun b hb => by
            rw [List.range_succ, List.filter_append, List.map_append]
            congr 1
            cases b with
            | true => rw [List.filter_cons, if_pos hb]; rfl
            | false => rw [List.filter_cons, if_neg (by rw [hb]; decide)]; rfl
          refine s_when (b := decide (i = 0) || below rs (cj.getD (i - 1) 0) m) e8 (eb_or ((eb_test (ev_eq (ev_var rfl (.int _)) ev_int)).to ?_) fun hi0 => eb_B (ev_meth (tm' rfl s6.eb) rfl
            (el_cons (ev_ixTd (d := .int ((cj.getD (i - 1) 0 : Nat) : Int)) (ev_var rfl pcx) (ev_sub (ev_var rfl (.int _)) ev_int) ?_) (el_cons (ev_var rfl (P := dp (.int (m : Nat))) (.int _)) el_nil)) fun y vs B7 e9 py pv => ?_)) (fun hb B7 H7 s7 => ?_) fun hb B7 H7 s7 => ?_
          · by_cases z : i = 0
            · subst z; rfl
            · rw [dF z, dF (by omega)]
          · have hi1 : i ≠ 0 := of_decide_eq_false hi0
            have hlt : i - 1 < cj.length := by omega
            obtain ⟨u, hu⟩ := lt_get hlt
            rw [show cj.getD (i - 1) 0 = u by rw [List.getD_eq_getElem?_getD, hu]; rfl]
            rw [show ((i : Int) - 1) = ((i - 1 : Nat) : Int) by omega]
            exact atI_nat (by rw [List.getElem?_map, hu]; rfl)
          · obtain ⟨p1, p2, rfl, q1, q2⟩ := all2_2 pv
            cases dp_int.mp q1
            cases dp_int.mp q2
            have hi1 : i ≠ 0 := of_decide_eq_false hi0
            have hlt : i - 1 < cj.length := by omega
            obtain ⟨u, hu⟩ := lt_get hlt
            have eu : cj.getD (i - 1) 0 = u := by rw [List.getD_eq_getElem?_getD, hu]; rfl
            exact ⟨rs, y, cj.getD (i - 1) 0, m, _, _, rfl, py, of_gt (by rw [eu]; exact cin u (List.mem_of_getElem? hu)), of_gt hm, rfl⟩
          · -- longer.append(column + (tile,))
            refine s_app s7.bh (ac6.step s7) (ev_var rfl rfl) (P := dp (natsT (cj ++ [m]))) (ev_catD (ev_var rfl ((dp _).m s7.eb pcx)) (EvP.tupD (ds := [.int (m : Nat)]) (ev_tup (el_cons (ev_var rfl (.int _)) el_nil) (Nat.le_of_ble_eq_true rfl))) (by simp) (by rw [List.length_map]; omega) (by simp [natsT]) (Nat.le_of_ble_eq_true rfl)) lenb fun B8 H8 e9 e10 ac8 hs8 => ?_
            obtain ⟨H9, s9, o, rfl⟩ := hs8
            refine ⟨B8, e7.trans (s7.eb.trans e9), e10, ⟨_, rfl⟩, ((s6.trans s7).trans s9).poke hp0 ac8.b, ?_⟩
            rw [next _ hb, ← List.append_assoc, List.map_append]
            exact ac8
          · refine ⟨B7, e7.trans s7.eb, s7.bh, ⟨_, rfl⟩, s6.trans s7, ?_⟩
            rw [next _ hb]
            simp only [Bool.false_eq_true, if_false, List.append_nil]
            exact ac6.step s7
        · rintro σ3 B6 H6 e7 e8 ⟨⟨d2, rfl⟩, s6, ac6⟩
          refine ⟨B6, e5.trans e7, e8, ⟨_, _, rfl⟩, s6, ?_⟩
          rw [ext_split rs i hcj]
          exact ac6
      · rintro σ'' B4 H4 e5 e6 ⟨⟨c', d', rfl⟩, s4, ac⟩
        rw [List.length_map, List.take_length] at ac
        -- if len(longer) > MOST_COLUMNS: raise
        have el : (((colsK rs i).flatMap (extK rs i)).map fun c => dp (natsT c)).length = (colsK rs (i + 1)).length := by rw [List.length_map]; rfl
        obtain ⟨B5, s5, e7, pl⟩ := ac.done s4 hp0
        refine q_when (b := decide (500 < (colsK rs (i + 1)).length)) s5.bh ((eb_test (ev_gt (ev_lenL (ev_var rfl pl)) (ev_c (.int _)))).to ?_) (fun hb B6 H6 s6 => ?_) fun hb B6 H6 s6 => ?_
        · rw [el]
          by_cases z : 500 < (colsK rs (i + 1)).length
          · rw [dT z, dT (by omega)]
          · rw [dF z, dF (by omega)]
        · refine ke (fun fw => ?_) B6 H6 (s5.trans s6)
          have := fw (i + 1) (by omega)
          have := of_decide_eq_true hb
          omega
        · refine s_asg s6.bh (ev_var rfl ((lst _).m s6.eb pl)) fun v7 B7 H7 s7 p7 => ⟨B7, e3.trans ((e5.trans e7).trans (s6.eb.trans s7.eb)), s7.bh, ⟨_, _, _, _, _, rfl, ?_⟩, (s5.trans s6).trans s7, fun j hj => ?_⟩
          · exact lstC.mp p7
          · rcases Nat.lt_or_eq_of_le hj with h | h
            · exact few j (by omega)
            · subst h
              have := of_decide_eq_false hb
              omega
    · rintro σ' B3 H3 e3 e4 ⟨⟨vf, a, b, c, d, rfl, pf⟩, s3, few⟩
      refine s_ret e4 (ev_var rfl pf) fun v' B4 H4 s4 p4 => ?_
      exact kq few v' B4 H4 (s3.trans s4) p4
end
end TL
set_option maxHeartbeats 4000000
/-! class Band -/
namespace TL
open PySem L2
def nextsC (rs : List Tile) (cols : List (List Nat)) : List (List Nat) := cols.map fun c => (List.range cols.length).filter fun k => goesOn rs c (cols.getD k [])
def nextsD (ns : List (List Nat)) : PyData := .list (ns.map natsD)
abbrev bandF (cols ns : List (List Nat)) : List (Str × VP) := [("columns", dp (colsD cols)), ("nexts", dp (nextsD ns))]
abbrev bandV (K : PySem.W.Frag) (cols ns : List (List Nat)) : VP := ins (ca K "Band") (bandF cols ns)
structure BT (K : PySem.W.Frag) (mg : Str → Option Value) : Prop where
  cl : Cls K (ca K "Band")
  c : NoAttr K (ca K "Band") "columns"
  n : NoAttr K (ca K "Band") "nexts"
theorem kcn : ¬ (("columns" : Str) = "nexts") := by decide +kernel
theorem nats_dp {B : Hp} {v : V} {l : List Nat} : (lst (l.map fun i : Nat => dp (.int (i : Int)))).p B v ↔ (dp (natsD l)).p B v := by
  unfold natsD
  rw [← lst_dp, List.map_map]
  rfl
section
variable {P : Program} {w : World} {K : PySem.W.Frag} {mg : Str → Option Value} {base : Heap} {f : Addr} {fd : FuncData}
abbrev s_Band___init__ : Stmt := inClass (top 18) 0
abbrev N_Band___init__ : List Str := ["self", "tiles", "high", "one", "row", "k"]
abbrev P_Band___init__ : List Str := ["self", "tiles", "high"]
theorem sc_Band___init__ : FnScope N_Band___init__ P_Band___init__ (defScope s_Band___init__) := ⟨rfl, rfl, rfl, by decide +kernel, rfl, by decide +kernel, by decide +kernel⟩
abbrev spBandI (K : PySem.W.Frag) : Sp := fun vs H Q E => ∃ B x dx tv rs high, vs = [.ref x, tv, .int (high : Nat)] ∧ Ex B H ∧ B x = none ∧ H x = some (.ins (ca K "Band") dx []) ∧ (tilesV K rs).p B tv ∧ rs.length ≤ 200 ∧ 1 ≤ high ∧ high ≤ 12 ∧
  (fewK rs high → ∀ B' H' fs, StepX x B H B' H' → H' x = some (.ins (ca K "Band") dx fs) → fs.map (·.1) = (bandF (colsK rs high) (nextsC rs (colsK rs high))).map (·.1) → all2 B' (fs.map (·.2)) ((bandF (colsK rs high) (nextsC rs (colsK rs high))).map (·.2)) → Q .non H') ∧
  (¬ fewK rs high → ∀ B' H', StepX x B H B' H' → E (.ref (ca K "TooMany")) none H')
theorem ok_bandI (T : TB mg) (t : TT K mg) (bt : BT K mg) (c_columns : Cl P w K mg base (L2.CX P w) 2 "columns" (spColumns K)) (c_goes_on : Cl P w K mg base CX0 2 "goes_on" (spGoesOn K)) (F : FnP K "__init__" "Band.__init__" s_Band___init__ f fd) : FnOk P w K mg base (L2.CX P w) 3 f fd P_Band___init__ (spBandI K) := by
  refine F.ok sc_Band___init__ (fun vs H Q E h => ?_) (fun cdv A outer s H vs Q E hr h => ?_)
  · obtain ⟨B, x, dx, tv, rs, high, rfl, _⟩ := h
    rfl
  · obtain ⟨B, x, dx, tv, rs, high, rfl, e, bx, hx, ht, h200, h1, h12, kq, ke⟩ := h
    refine ⟨_, (pss_cons (ps_fld (pv 0) (pe_cl c_columns hr (by omega) rfl (passes_call (takes_of rfl rfl rfl rfl) (fun _ _ _ _ h => h)) (pa_cons (pv 1) (pa_cons (pv 2) pa_nil))) rfl)
      (pss_cons (ps_fld (pv 0) (pe_lst pa_nil) rfl)
      (pss_one (ps_for (passes_of rfl) rfl (kpi_list (K := K) rfl (kfld (K := K) rfl (pv 0) rfl)) (pg_name (i := 3) sc_Band___init__.nd rfl (Or.inr rfl)) (pss_cons (ps_setLc (i := 4) (own := [("k", 5)]) (g := gName 5) (tt := _) rfl sc_Band___init__.nd rfl rfl (sw_true rfl rfl rfl (by decide +kernel)) (pi_range1 (by rfl) T.range (pa_cons (pe_callB (kcall_len (K := K) rfl) (by rfl) T.len PySem.boot_len (pa_cons (kfld (K := K) rfl (pv 0) rfl) pa_nil)) pa_nil)) (blkOk_by (N := N_Band___init__) (sc := defScope s_Band___init__) (by decide +kernel)) (fun _ _ _ _ _ => pg_name (i := 5) sc_Band___init__.nd rfl (Or.inl rfl)) (fun _ _ _ _ _ => (pts_one (pt_val (pe_cl c_goes_on hr (by omega) rfl pass0 (pa_cons (pv 1) (pa_cons (pv 3) (pa_cons (pe_ix (kix_list (K := K) rfl) (kfld (K := K) rfl (pv 0) rfl) (pv 5) (fun _ _ => rfl)) pa_nil))))))) (fun _ _ _ _ _ => (pv 5)))
      (pss_one (ps_expr (kbm (K := K) rfl PySem.F.plainAttrs_list PySem.F.slot_list_append PySem.F.type_list_append mt_append (kfld (K := K) rfl (pv 0) rfl) (pa_cons (pv 4) pa_nil))))))))), ?_⟩
    refine ⟨_, rfl, _, rfl, B, rs, tv, high, e, rfl, ht, h200, h1, h12, fun few v1 B1 H1 s1 p1 => ?_, fun nf B1 H1 s1 => ke nf B1 H1 (s1.x x)⟩
    obtain ⟨b1, x1⟩ := s1.hide bx hx
    refine ⟨_, rfl, x, _, dx, [], rfl, x1, bt.cl, bt.c, (by decide), ?_⟩
    refine ⟨Nat.zero_le _, fun p hp => ?_⟩
    have npx : p ≠ x := fun z => by
      subst z
      rw [upd_same] at hp
      cases hp
    have hp1 : H1 p = none := by rw [upd_ne npx] at hp; exact hp
    have hp0 : H p = none := s1.eh.none hp1
    have bp : B1 p = none := s1.bh.none hp1
    refine ⟨_, rfl, x, _, dx, [("columns", v1)], rfl, (by rw [upd_ne (Ne.symm npx)]; exact upd_same), bt.cl, bt.n, (Nat.le_of_ble_eq_true rfl), ?_⟩
    have ef : putF "nexts" (V.ref p) [("columns", v1)] = ([("columns", v1), ("nexts", V.ref p)] : List (Str × V)) := by
      show (if ("columns" : Str) = "nexts" then _ else (("columns" : Str), v1) :: putF "nexts" (V.ref p) []) = _
      rw [if_neg kcn]
      rfl
    rw [ef]
    have sx0 : StepX x B H B1 (upd (upd (upd H1 x (.ins (ca K "Band") dx (putF "columns" v1 []))) p (.lst [])) x (.ins (ca K "Band") dx [("columns", v1), ("nexts", V.ref p)])) := by
      refine StepX.poke ?_ b1
      have := (s1.x x).poke b1 (o := .ins (ca K "Band") dx (putF "columns" v1 []))
      exact ⟨this.eb, this.bh.poke bp, fun a u z h => by
        rw [upd_ne (fun y => by subst y; rw [hp0] at h; cases h)]
        exact this.eh a u z h, this.hid⟩
    have sx1 := sx0.show_ b1 upd_same
    generalize hB2 : upd B1 x (.ins (ca K "Band") dx [("columns", v1), ("nexts", V.ref p)]) = B2 at sx1
    have e12 : Ex B1 B2 := by rw [← hB2]; exact Ex.new b1
    dsimp only
    generalize hH2 : (upd (upd (upd H1 x (.ins (ca K "Band") dx (putF "columns" v1 []))) p (.lst [])) x (.ins (ca K "Band") dx [("columns", v1), ("nexts", V.ref p)])) = H2 at sx1 ⊢
    have ac0 : Acc p [] B2 H2 := ⟨by rw [← hB2, upd_ne npx]; exact bp, [], by rw [← hH2, upd_ne npx]; exact upd_same, True.intro⟩
    have hx2 : B2 x = some (.ins (ca K "Band") dx [("columns", v1), ("nexts", V.ref p)]) := by rw [← hB2]; exact upd_same
    have p2 := (dp _).m e12 p1
    generalize hcols : colsK rs high = cols at *
    have hc500 : cols.length ≤ 500 := by rw [← hcols]; exact few high (Nat.le_refl _)
    have cok := colsK_ok rs high
    rw [hcols] at cok
    have self : ∀ {σ : L2.St} {B' : Hp}, σ[0]? = some (some (.ref x)) → Ex B2 B' → EvP (tVar 0) σ B' (ins (ca K "Band") [("columns", dp (colsD cols)), ("nexts", isV (.ref p))]) := fun h e => ev_var h ⟨x, dx, _, rfl, e _ _ hx2, rfl, (dp _).m e p2, rfl, True.intro⟩
    have colE : ∀ {σ : L2.St} {B' : Hp}, σ[0]? = some (some (.ref x)) → Ex B2 B' → EvP (tFld K (tVar 0) "columns") σ B' (dp (colsD cols)) := fun h e => ev_fld (self h e) bt.cl bt.c rfl
    refine s_forL (Ps := cols.map fun c => dp (natsT c)) sx1.bh ((colE rfl (Ex.refl _)).imp fun _ _ _ z => lstC.mpr z) (fun i σ B' H' => (∃ a b c, σ = [some (.ref x), some tv, some (.int (high : Nat)), a, b, c]) ∧ Ex B2 B' ∧ StepX x B H B' H' ∧ Acc p (((nextsC rs cols).take i).map fun l => dp (natsD l)) B' H')
      (fun Bl Hl sl => ⟨⟨_, _, _, rfl⟩, sl.eb, sx1.trans (sl.x x), ac0.step sl⟩) ?_ ?_
    · rintro Bl Hl sl i Pi vo σ' B3 H3 hi e3 e4 po ⟨⟨a, b, c, rfl⟩, e23, s3, ac⟩
      obtain ⟨ci, hci, rfl⟩ := get_map hi
      obtain ⟨clen, cin⟩ := cok ci (List.mem_of_getElem? hci)
      have tvp : ∀ {B' : Hp}, Ex B2 B' → (tilesV K rs).p B' tv := fun e => (tilesV K rs).m (e12.trans e) ((tilesV K rs).m s1.eb ht)
      refine q_asg (P := dp (natsD ((List.range cols.length).filter fun k => goesOn rs ci (cols.getD k [])))) e4 ((ev_lcR (fun k => goesOn rs ci (cols.getD k [])) (fun k => dp (.int (k : Nat))) (el_cons ((ev_lenLd (colE rfl e23)).to (by rw [List.length_map])) el_nil) (by omega) (fun _ => rfl)
        (fun y B' hy e' => ?_) (fun y B' hy _ e' => ev_var rfl (.int _))).imp fun _ _ _ z => nats_dp.mp z) fun vr B4 H4 s4 p4 => ?_
      · obtain ⟨cy, hcy⟩ := lt_get hy
        have ecy : cols.getD y [] = cy := by rw [List.getD_eq_getElem?_getD, hcy]; rfl
        obtain ⟨ylen, yin⟩ := cok cy (List.mem_of_getElem? hcy)
        rw [ecy]
        refine eb_B (ev_call (el_cons (ev_var rfl (tvp (e23.trans e'))) (el_cons (ev_var rfl ((dp _).m e' po)) (el_cons (ev_ixLd (d := natsT cy) (colE rfl (e23.trans e')) (ev_var rfl (.int _)) (atI_nat (by rw [List.getElem?_map, hcy]; rfl))) el_nil))) fun vs B5 e5 p5 => ?_)
        obtain ⟨y1, y2, y3, rfl, q1, q2, q3⟩ := all2_3 p5
        exact ⟨rs, y1, y2, y3, ci, cy, rfl, q1, q2, q3, by omega, by omega, cin, yin, rfl⟩
      · have e24 := e23.trans s4.eb
        refine s_app s4.bh (ac.step s4) (ev_fld (self rfl e24) bt.cl bt.n rfl) (ev_var rfl p4) (by rw [List.length_map, List.length_take]; unfold nextsC; rw [List.length_map]; omega) fun B5 H5 e5 e6 ac5 hs => ?_
        obtain ⟨H6, s6, o, rfl⟩ := hs
        refine ⟨B5, e3.trans (s4.eb.trans e5), e6, ⟨_, _, _, rfl⟩, e24.trans e5, ?_, ?_⟩
        · have := (s3.trans (s4.x x)).trans (s6.x x)
          exact ⟨this.eb, e6, fun a u z h => by
            rw [upd_ne (fun y => by subst y; rw [hp0] at h; cases h)]
            exact this.eh a u z h, this.hid⟩
        · have hn : (nextsC rs cols)[i]? = some ((List.range cols.length).filter fun k => goesOn rs ci (cols.getD k [])) := by
            unfold nextsC
            rw [List.getElem?_map, hci]
            rfl
          rw [get_take hn, List.map_append]
          exact ac5
    · rintro σ' B3 H3 e3 e4 ⟨⟨a, b, c, rfl⟩, e23, s3, ac⟩
      dsimp only
      rw [List.length_map] at ac
      have hl : (nextsC rs cols).length = cols.length := by unfold nextsC; rw [List.length_map]
      rw [← hl, List.take_length] at ac
      obtain ⟨k1, xs, k2, k3⟩ := ac
      have nx : p ≠ x := npx
      refine kq few (upd B3 p (.lst xs)) H3 [("columns", v1), ("nexts", .ref p)] ⟨fun a o h => ?_, fun a o h => ?_, s3.eh, fun a z q1 q2 => ?_⟩ (s3.bh _ _ (e23 _ _ hx2)) rfl ⟨(dp _).m (e23.trans (Ex.new k1)) p2, ?_, True.intro⟩
      · exact Ex.new k1 a o (s3.eb a o h)
      · by_cases z : a = p
        · subst z
          rw [upd_same] at h
          rw [k2]
          exact h
        · rw [upd_ne z] at h
          exact s3.bh a o h
      · have : a ≠ p := fun y => by subst y; exact q1 hp0
        rw [upd_ne this]
        exact s3.hid a z q1 q2
      · unfold nextsD
        refine lst_dp.mp ?_
        rw [List.map_map]
        exact ⟨p, xs, rfl, upd_same, all2_m (Ex.new k1) k3⟩
end
end TL
set_option maxHeartbeats 4000000
/-! Band.step, counts, around -/
namespace TL
open PySem L2
/-! ### plain -/
def addAt (acc : List Int) (o : Nat) (w : Int) : List Int := acc.set o (acc.getD o 0 + w)
def addRow (acc : List Int) (row : List Nat) (w : Int) : List Int := row.foldl (fun acc o => addAt acc o w) acc
def stepM (n : Nat) (ns : List (List Nat)) (ws : List Int) : List Int := (List.range ws.length).foldl (fun acc k => addRow acc (ns.getD k []) (ws.getD k 0)) (List.replicate n 0)
theorem addAt_len (acc : List Int) (o : Nat) (w : Int) : (addAt acc o w).length = acc.length := by unfold addAt; rw [List.length_set]
theorem addRow_len (row : List Nat) (w : Int) : ∀ acc : List Int, (addRow acc row w).length = acc.length := by
  unfold addRow
  induction row with
  | nil => intro acc; rfl
  | cons o row ih => intro acc; rw [List.foldl_cons, ih, addAt_len]
theorem stepF_len (ns : List (List Nat)) (ws : List Int) : ∀ (l : List Nat) (acc : List Int), (l.foldl (fun acc k => addRow acc (ns.getD k []) (ws.getD k 0)) acc).length = acc.length
  | [], _ => rfl
  | k :: l, acc => by rw [List.foldl_cons, stepF_len ns ws l, addRow_len]
theorem stepM_len (n : Nat) (ns : List (List Nat)) (ws : List Int) : (stepM n ns ws).length = n := by
  unfold stepM
  rw [stepF_len, List.length_replicate]
def iterM {α : Type} (f : α → α) : Nat → α → α
  | 0, a => a
  | k + 1, a => f (iterM f k a)
theorem iter_len {n : Nat} {ns : List (List Nat)} {ws : List Int} (h : ws.length = n) : ∀ k, (iterM (stepM n ns) k ws).length = n
  | 0 => h
  | k + 1 => stepM_len n ns _
/-- the rows of a band lead to columns that are there -/
def okNexts (n : Nat) (ns : List (List Nat)) : Prop := ns.length = n ∧ ∀ row ∈ ns, row.length ≤ n ∧ ∀ o ∈ row, o < n
theorem nextsC_ok (rs : List Tile) (cols : List (List Nat)) : okNexts cols.length (nextsC rs cols) := by
  refine ⟨by unfold nextsC; rw [List.length_map], fun row hr => ?_⟩
  obtain ⟨c, _, rfl⟩ := List.mem_map.mp hr
  refine ⟨Nat.le_trans (List.length_filter_le _ _) (by rw [List.length_range]; exact Nat.le_refl _), fun o ho => List.mem_range.mp (List.mem_filter.mp ho).1⟩
def countsM (n : Nat) (ns : List (List Nat)) (wide : Nat) : Int := (iterM (stepM n ns) (wide - 1) (List.replicate n 1)).sum
def unitM (n b : Nat) : List Int := (List.range n).map fun k => if k = b then 1 else 0
def aroundM (n : Nat) (ns : List (List Nat)) (wide : Nat) : Int := ((List.range n).map fun b => (iterM (stepM n ns) wide (unitM n b)).getD b 0).sum
theorem at_nats {l : List Nat} {i n : Nat} (h : l[i]? = some n) : atI (l.map fun n : Nat => PyData.int (n : Int)) (i : Int) = some (.int (n : Int)) := atI_nat (by rw [List.getElem?_map, h]; rfl)
theorem at_ints {l : List Int} {i : Nat} {n : Int} (h : l[i]? = some n) : atI (l.map PyData.int) (i : Int) = some (.int n) := atI_nat (by rw [List.getElem?_map, h]; rfl)
theorem getD_of {α : Type} {l : List α} {i : Nat} {x d : α} (h : l[i]? = some x) : l.getD i d = x := by rw [List.getD_eq_getElem?_getD, h]; rfl
theorem of_getD {α : Type} {l : List α} {i : Nat} {d : α} (h : i < l.length) : l[i]? = some (l.getD i d) := by
  obtain ⟨x, e⟩ := lt_get h
  rw [getD_of e]
  exact e
abbrev intsP (l : List Int) : List VP := l.map fun i => dp (.int i)
theorem set_intsP (l : List Int) (j : Nat) (z : Int) : (intsP l).set j (dp (.int z)) = intsP (l.set j z) := by
  show (l.map _).set j _ = (l.set j z).map _
  rw [List.map_set]
section
variable {P : Program} {w : World} {K : PySem.W.Frag} {mg : Str → Option Value} {base : Heap} {f : Addr} {fd : FuncData}
abbrev s_Band_step : Stmt := inClass (top 18) 1
abbrev N_Band_step : List Str := ["self", "counts", "found", "k", "other", "column"]
abbrev P_Band_step : List Str := ["self", "counts"]
theorem sc_Band_step : FnScope N_Band_step P_Band_step (defScope s_Band_step) := ⟨rfl, rfl, rfl, by decide +kernel, rfl, by decide +kernel, by decide +kernel⟩
abbrev spStep (K : PySem.W.Frag) : Sp := spP fun vs B R => ∃ x r cols ns ws, vs = [x, r] ∧ (bandV K cols ns).p B x ∧ (dp (intsD ws)).p B r ∧ cols.length ≤ 500 ∧ ws.length = cols.length ∧ okNexts cols.length ns ∧ R = dp (intsD (stepM cols.length ns ws))
theorem ok_step (T : TB mg) (bt : BT K mg) (F : FnP K "step" "Band.step" s_Band_step f fd) : FnOk P w K mg base CX0 1 f fd P_Band_step (spStep K) := by
  refine F.ok sc_Band_step (fun vs H Q E h => ?_) (fun cdv A outer s H vs Q E hr h => ?_)
  · obtain ⟨B, R, e, ⟨x, r, cols, ns, ws, rfl, _⟩, _⟩ := h
    rfl
  · obtain ⟨B, R, e, ⟨x, r, cols, ns, ws, rfl, hx, hrr, h500, hl, ok, rfl⟩, k⟩ := h
    refine ⟨_, PSs.nox (pss_cons (ps_setLc (i := 2) (own := [("column", 5)]) (g := gName 5) (tt := tYes) rfl sc_Band_step.nd rfl rfl (sw_true rfl rfl rfl (by decide +kernel)) (kpi_list (K := K) rfl (kfld (K := K) rfl (pv 0) rfl)) (blkOk_by (N := N_Band_step) (sc := defScope s_Band_step) (by decide +kernel)) (fun _ _ _ _ _ => pg_name (i := 5) sc_Band_step.nd rfl (Or.inl rfl)) (fun _ _ _ _ _ => pts_nil) (fun _ _ _ _ _ => pe_int))
      (pss_cons (ps_for PassesOwn.never rfl (pi_range1 (by rfl) T.range (pa_cons (pe_callB (kcall_len (K := K) rfl) (by rfl) T.len PySem.boot_len (pa_cons (pv 1) pa_nil)) pa_nil)) (pg_name (i := 3) sc_Band_step.nd rfl (Or.inl rfl)) (pss_one (ps_for PassesOwn.never rfl (kpi_list (K := K) rfl (pe_ix (kix_list (K := K) rfl) (kfld (K := K) rfl (pv 0) rfl) (pv 3) (fun _ _ => rfl))) (pg_name (i := 4) sc_Band_step.nd rfl (Or.inl rfl)) (pss_one (ps_asg (pe_op op_add (pe_ix (kix_list (K := K) rfl) (pv 2) (pv 4) (fun _ _ => rfl)) (pe_ix (kix_list (K := K) rfl) (pv 1) (pv 3) (fun _ _ => rfl))) (pg_sub (pv 2) (pv 4) set_list))))))
      (pss_one (ps_ret (pv 2))))), ?_⟩
    have self : ∀ {σ : L2.St} {B' : Hp}, σ[0]? = some (some x) → Ex B B' → EvP (tVar 0) σ B' (bandV K cols ns) := fun h e => ev_var h ((bandV K cols ns).m e hx)
    have cnt : ∀ {σ : L2.St} {B' : Hp}, σ[1]? = some (some r) → Ex B B' → EvP (tVar 1) σ B' (dp (intsD ws)) := fun h e => ev_var h ((dp _).m e hrr)
    have nxt : ∀ {σ : L2.St} {B' : Hp}, σ[0]? = some (some x) → Ex B B' → EvP (tFld K (tVar 0) "nexts") σ B' (dp (nextsD ns)) := fun h e => ev_fld (self h e) bt.cl bt.n rfl
    have hz : ((cols.filter fun _ => true).map fun _ => dp (PyData.int 0)) = intsP (List.replicate cols.length 0) := by
      rw [List.filter_eq_self.mpr fun _ _ => rfl]
      show _ = (List.replicate cols.length (0 : Int)).map _
      rw [List.map_replicate]
      exact List.map_const' ..
    refine q_asgN e (en_lcL cols (fun c => dp (natsT c)) (fun _ => true) (fun _ => dp (.int 0)) ((ev_fld (self rfl (Ex.refl _)) bt.cl bt.c rfl).imp fun _ _ _ z => lstC.mpr z) (by omega) (fun _ => rfl) (fun _ _ _ _ _ _ => eb_yes) (fun _ _ _ _ _ _ _ => ev_int)) fun p B1 H1 hp s1 a1 => ?_
    rw [hz] at a1
    refine q_forR (n := ws.length) s1.bh (el_cons ((ev_lenLd (cnt rfl s1.eb)).to (by rw [List.length_map])) el_nil) (by omega)
      (fun i σ B' H' => (∃ a b c, σ = [some x, some r, some (.ref p), a, b, c]) ∧ Step B H B' H' ∧ Acc p (intsP ((List.range i).foldl (fun acc k => addRow acc (ns.getD k []) (ws.getD k 0)) (List.replicate cols.length 0))) B' H')
      (fun Bl Hl sl => ⟨⟨_, _, _, rfl⟩, s1.trans sl, a1.step sl⟩) ?_ ?_
    · rintro Bl Hl sl i σ' B2 H2 hi e1 e2 ⟨⟨a, b, c, rfl⟩, s2, a2⟩
      have hin : i < ns.length := by rw [ok.1, ← hl]; exact hi
      have hrow := of_getD (d := []) hin
      obtain ⟨rl, rin⟩ := ok.2 _ (List.mem_of_getElem? hrow)
      have hw := of_getD (d := 0) hi
      rw [List.range_succ, List.foldl_append]
      generalize hacc : (List.range i).foldl (fun acc k => addRow acc (ns.getD k []) (ws.getD k 0)) (List.replicate cols.length 0) = acc at a2 ⊢
      have lacc : acc.length = cols.length := by rw [← hacc, stepF_len, List.length_replicate]
      generalize hrow' : ns.getD i [] = row at hrow rl rin
      refine s_forL (Ps := row.map fun o : Nat => dp (.int (o : Int))) e2 ((ev_ixLd (nxt rfl s2.eb) (ev_var rfl (.int _)) (d := natsD row) (atI_nat (by rw [List.getElem?_map, hrow]; rfl))).imp fun _ _ _ z => nats_dp.mpr z)
        (fun j σ B' H' => (∃ b c, σ = [some x, some r, some (.ref p), some (.int (i : Nat)), b, c]) ∧ Step B H B' H' ∧ Acc p (intsP (addRow acc (row.take j) (ws.getD i 0))) B' H')
        (fun Bm Hm sm => ⟨⟨_, _, rfl⟩, s2.trans sm, a2.step sm⟩) ?_ ?_
      · rintro Bm Hm sm j Pj vo σ3 B3 H3 hj e3 e4 po ⟨⟨b', c', rfl⟩, s3, a3⟩
        obtain ⟨o, ho, rfl⟩ := get_map hj
        cases dp_int.mp po
        have hon := rin o (List.mem_of_getElem? ho)
        generalize hac2 : addRow acc (row.take j) (ws.getD i 0) = ac2 at a3
        have la2 : ac2.length = cols.length := by rw [← hac2, addRow_len, lacc]
        have hao := of_getD (d := 0) (show o < ac2.length by omega)
        refine s_store e4 a3 (v := .int (ac2.getD o 0 + ws.getD i 0)) (P := dp (.int (ac2.getD o 0 + ws.getD i 0))) (fun B' e' pl => (ev_add (ev_ixL (ev_var rfl pl) (ev_var rfl (.int _)) (atI_nat (by rw [List.getElem?_map, hao]; rfl))) (ev_ixLd (cnt rfl (s3.eb.trans e')) (ev_var rfl (.int _)) (at_ints hw))).i) (ev_var rfl rfl) (ev_var rfl (.int _)) (by rw [List.length_map]; omega) (fun _ => .int _) fun B4 H4 e5 e6 a4 hs => ?_
        obtain ⟨H5, s5, ob, rfl⟩ := hs
        refine ⟨B4, e3.trans e5, e6, ⟨_, _, rfl⟩, (s3.trans s5).poke hp a4.b, ?_⟩
        rw [set_intsP] at a4
        rw [get_take ho]
        unfold addRow at hac2 ⊢
        rw [List.foldl_append, hac2]
        exact a4
      · rintro σ3 B3 H3 e3 e4 ⟨⟨b', c', rfl⟩, s3, a3⟩
        rw [List.length_map, List.take_length] at a3
        refine ⟨B3, e1.trans e3, e4, ⟨_, _, _, rfl⟩, s3, ?_⟩
        rw [List.foldl_cons, List.foldl_nil, hrow']
        exact a3
    · rintro σ' B2 H2 e1 e2 ⟨⟨a, b, c, rfl⟩, s2, a2⟩
      obtain ⟨B3, s3, e3, p3⟩ := a2.done s2 hp
      refine s_ret s3.bh (ev_var rfl p3) fun v B4 H4 s4 p4 => ?_
      refine k v B4 H4 (s3.trans s4) ?_
      exact ints_dp.mp p4
end
end TL
set_option maxHeartbeats 4000000
namespace TL
open PySem L2
section
variable {P : Program} {w : World} {K : PySem.W.Frag} {mg : Str → Option Value} {base : Heap} {f : Addr} {fd : FuncData}
theorem q_band {σ : L2.St} {B H : Hp} {D : Ends} {tz : TS} {i : Nat} {ta : TA} {rs : List Tile} {high : Nat} {E : XK} (e : Ex B H) (ha : EvL ta σ B [tilesV K rs, dp (.int (high : Nat))]) (h200 : rs.length ≤ 200) (h1 : 1 ≤ high) (h12 : high ≤ 12)
    (kq : fewK rs high → ∀ v B' H', Step B H B' H' → (bandV K (colsK rs high) (nextsC rs (colsK rs high))).p B' v → tz D (σ.set i (some v)) H') (ke : ¬ fewK rs high → ∀ B' H', Step B H B' H' → E (.ref (ca K "TooMany")) none H') :
    tSeq (tAsg (tMake (ca K "Band") (spBandI K) [] E ta) (gName i)) tz D σ H := ha H e _ fun vs B1 H1 s1 p1 x dx hx hdx hne => by
  obtain ⟨tv, hv, rfl, q1, q2⟩ := all2_2 p1
  cases dp_int.mp q2
  have b1 : B1 x = none := s1.bh.none hx
  have b2 : B1 dx = none := s1.bh.none hdx
  refine ⟨B1, x, dx, tv, rs, high, rfl, (s1.bh.poke b2).poke b1, b1, upd_same, q1, h200, h1, h12, fun few B' H' fs s ho k1 k2 => ⟨rfl, ?_⟩, fun nf B' H' s => ke nf B' H' (s1.trans (s.lost hx hdx))⟩
  obtain ⟨B2, s2, p2, _⟩ := ins_made hx hdx s ho k1 k2
  exact kq few _ B2 H' (s1.trans s2) p2
abbrev s_counts : Stmt := top 19
abbrev N_counts : List Str := ["tiles", "high", "wide", "band", "row", "turn", "column"]
abbrev P_counts : List Str := ["tiles", "high", "wide"]
theorem sc_counts : FnScope N_counts P_counts (defScope s_counts) := ⟨rfl, rfl, rfl, by decide +kernel, rfl, by decide +kernel, by decide +kernel⟩
abbrev spCounts (K : PySem.W.Frag) : Sp := fun vs H Q E => ∃ B rs x high wide, Ex B H ∧ vs = [x, .int (high : Nat), .int (wide : Nat)] ∧ (tilesV K rs).p B x ∧ rs.length ≤ 200 ∧ (1 ≤ high ∧ high ≤ 12) ∧ (1 ≤ wide ∧ wide ≤ 12) ∧
  (fewK rs high → ∀ B' H', Step B H B' H' → Q (.int (countsM (colsK rs high).length (nextsC rs (colsK rs high)) wide)) H') ∧ (¬ fewK rs high → ∀ B' H', Step B H B' H' → E (.ref (ca K "TooMany")) none H')
theorem ones {α : Type} (l : List α) (z : Int) : ((l.filter fun _ => true).map fun _ => dp (PyData.int z)) = intsP (List.replicate l.length z) := by
  rw [List.filter_eq_self.mpr fun _ _ => rfl]
  show _ = (List.replicate l.length z).map _
  rw [List.map_replicate]
  exact List.map_const' ..
theorem ok_counts (T : TB mg) (bt : BT K mg) (c_need_size : Cl P w K mg base CX0 1 "need_size" spNeed) (c_Band : Mr P w K mg base (L2.CX P w) 3 "Band" (ca K "Band") (spBandI K)) (m_Band_step : Mt P w K mg base CX0 1 (ca K "Band") "step" (spStep K))
    (F : FnP K "counts" "counts" s_counts f fd) : FnOk P w K mg base (L2.CX P w) 5 f fd P_counts (spCounts K) := by
  refine F.ok sc_counts (fun vs H Q E h => ?_) (fun cdv A outer s H vs Q E hr h => ?_)
  · obtain ⟨B, rs, x, high, wide, e, rfl, _⟩ := h
    rfl
  · obtain ⟨B, rs, x, high, wide, e, rfl, hx, h200, hh, hw, kq, ke⟩ := h
    refine ⟨_, (pss_cons (ps_expr (pe_cl c_need_size hr (by omega) rfl pass0 (pa_cons (pv 1) (pa_cons (pv 2) pa_nil))))
      (pss_cons (ps_set (i := 3) sc_counts.nd rfl (Or.inl rfl) (pe_mr c_Band hr (by omega) rfl (passes_call (takes_of rfl rfl rfl rfl) (fun _ _ _ _ h => h)) (pa_cons (pv 0) (pa_cons (pv 1) pa_nil))))
      (pss_cons (ps_setLc (i := 4) (own := [("column", 6)]) (g := gName 6) (tt := tYes) rfl sc_counts.nd rfl rfl (sw_true rfl rfl rfl (by decide +kernel)) (kpi_list (K := K) rfl (kfld (K := K) rfl (pv 3) rfl)) (blkOk_by (N := N_counts) (sc := defScope s_counts) (by decide +kernel)) (fun _ _ _ _ _ => pg_name (i := 6) sc_counts.nd rfl (Or.inl rfl)) (fun _ _ _ _ _ => pts_nil) (fun _ _ _ _ _ => pe_int))
      (pss_cons (ps_for (passes_of rfl) rfl (pi_range1 (by rfl) T.range (pa_cons (pe_op op_sub (pv 2) pe_int) pa_nil)) (pg_name (i := 5) sc_counts.nd rfl (Or.inl rfl)) (pss_one (ps_set (i := 4) sc_counts.nd rfl (Or.inl rfl) (pe_ml m_Band_step hr (by omega) pass0 (pv 3) (pa_cons (pv 4) pa_nil)))))
      (pss_one (ps_ret (pe_callB (kcr_sum (K := K) rfl rfl) (by rfl) T.sum (by decide +kernel) (pa_cons (pv 4) pa_nil)))))))), ?_⟩
    refine q_drop (P := dp .none) e (ev_call (el_cons (ev_var rfl (P := dp (.int (high : Nat))) (.int _)) (el_cons (ev_var rfl (P := dp (.int (wide : Nat))) (.int _)) el_nil)) fun vs B1 e1 p1 => ?_) fun v1 B1 H1 s1 _ => ?_
    · obtain ⟨a, b, rfl, pa, pb⟩ := all2_2 p1
      cases dp_int.mp pa
      cases dp_int.mp pb
      exact ⟨(high : Nat), (wide : Nat), rfl, by omega, by omega, rfl⟩
    refine q_band (rs := rs) (high := high) s1.bh (el_cons (ev_var rfl ((tilesV K rs).m s1.eb hx)) (el_cons (ev_var rfl (.int _)) el_nil)) h200 hh.1 hh.2 (fun few v B2 H2 s2 pv => ?_) fun nf B2 H2 s2 => ke nf B2 H2 (s1.trans s2)
    have okn := nextsC_ok rs (colsK rs high)
    have hc := few high (Nat.le_refl _)
    have st2 := s1.trans s2
    have kq := kq few
    generalize colsK rs high = cols at *
    generalize nextsC rs cols = ns at *
    have bnd : ∀ {σ : L2.St} {B' : Hp}, σ[3]? = some (some v) → Ex B2 B' → EvP (tVar 3) σ B' (bandV K cols ns) := fun h e => ev_var h ((bandV K cols ns).m e pv)
    refine q_asg (P := dp (intsD (List.replicate cols.length 1))) s2.bh ((ev_lcL cols (fun c => dp (natsT c)) (fun _ => true) (fun _ => dp (.int 1)) ((ev_fld (bnd rfl (Ex.refl _)) bt.cl bt.c rfl).imp fun _ _ _ z => lstC.mpr z) (by omega) (fun _ => rfl) (fun _ _ _ _ _ _ => eb_yes) (fun _ _ _ _ _ _ _ => ev_int)).imp fun _ _ _ z => ?_) fun v3 B3 H3 s3 p3 => ?_
    · rw [ones] at z
      exact ints_dp.mp z
    refine q_forR (n := wide - 1) s3.bh (el_cons ((ev_sub (ev_var rfl (.int _)) ev_int).to (by congr 2; omega)) el_nil) (by omega)
      (fun i σ B' H' => (∃ a c d, σ = [some x, some (.int (high : Nat)), some (.int (wide : Nat)), some v, some a, c, d] ∧ (dp (intsD (iterM (stepM cols.length ns) i (List.replicate cols.length 1)))).p B' a) ∧ Step B H B' H' ∧ Ex B2 B')
      (fun Bl Hl sl => ⟨⟨_, _, _, rfl, (dp _).m sl.eb p3⟩, (st2.trans s3).trans sl, s3.eb.trans sl.eb⟩) ?_ ?_
    · rintro Bl Hl sl i σ' B4 H4 hi e1 e2 ⟨⟨a, c, d, rfl, pa⟩, s4, e24⟩
      refine s_asg (P := dp (intsD (iterM (stepM cols.length ns) (i + 1) (List.replicate cols.length 1)))) e2 (ev_meth (bnd rfl e24) rfl (el_cons (ev_var rfl pa) el_nil) fun y vs B5 e5 py pvs => ?_) fun v5 B5 H5 s5 p5 => ⟨B5, e1.trans s5.eb, s5.bh, ⟨_, _, _, rfl, p5⟩, s4.trans s5, e24.trans s5.eb⟩
      obtain ⟨z, rfl, pz⟩ := all2_1 pvs
      exact ⟨y, z, cols, ns, _, rfl, py, pz, hc, iter_len (by rw [List.length_replicate]) i, okn, rfl⟩
    · rintro σ' B4 H4 e1 e2 ⟨⟨a, c, d, rfl, pa⟩, s4, e24⟩
      refine s_ret e2 (ev_sum (ev_var rfl pa)) fun v5 B5 H5 s5 p5 => ?_
      cases dp_int.mp p5
      exact kq B5 H5 (s4.trans s5)
abbrev s_around : Stmt := top 20
abbrev N_around : List Str := ["tiles", "high", "wide", "band", "found", "begin", "row", "turn", "k"]
abbrev P_around : List Str := ["tiles", "high", "wide"]
theorem sc_around : FnScope N_around P_around (defScope s_around) := ⟨rfl, rfl, rfl, by decide +kernel, rfl, by decide +kernel, by decide +kernel⟩
abbrev spAround (K : PySem.W.Frag) : Sp := fun vs H Q E => ∃ B rs x high wide, Ex B H ∧ vs = [x, .int (high : Nat), .int (wide : Nat)] ∧ (tilesV K rs).p B x ∧ rs.length ≤ 200 ∧ (1 ≤ high ∧ high ≤ 12) ∧ (1 ≤ wide ∧ wide ≤ 12) ∧
  (fewK rs high → ∀ B' H', Step B H B' H' → Q (.int (aroundM (colsK rs high).length (nextsC rs (colsK rs high)) wide)) H') ∧ (¬ fewK rs high → ∀ B' H', Step B H B' H' → E (.ref (ca K "TooMany")) none H')
theorem sum_next (g : Nat → Int) (i : Nat) : ((List.range (i + 1)).map g).sum = ((List.range i).map g).sum + g i := by
  rw [List.range_succ, List.map_append, List.sum_append]
  simp
theorem ok_around (T : TB mg) (bt : BT K mg) (c_need_size : Cl P w K mg base CX0 1 "need_size" spNeed) (c_Band : Mr P w K mg base (L2.CX P w) 3 "Band" (ca K "Band") (spBandI K)) (m_Band_step : Mt P w K mg base CX0 1 (ca K "Band") "step" (spStep K))
    (F : FnP K "around" "around" s_around f fd) : FnOk P w K mg base (L2.CX P w) 5 f fd P_around (spAround K) := by
  refine F.ok sc_around (fun vs H Q E h => ?_) (fun cdv A outer s H vs Q E hr h => ?_)
  · obtain ⟨B, rs, x, high, wide, e, rfl, _⟩ := h
    rfl
  · obtain ⟨B, rs, x, high, wide, e, rfl, hx, h200, hh, hw, kq, ke⟩ := h
    refine ⟨_, (pss_cons (ps_expr (pe_cl c_need_size hr (by omega) rfl pass0 (pa_cons (pv 1) (pa_cons (pv 2) pa_nil))))
      (pss_cons (ps_set (i := 3) sc_around.nd rfl (Or.inl rfl) (pe_mr c_Band hr (by omega) rfl (passes_call (takes_of rfl rfl rfl rfl) (fun _ _ _ _ h => h)) (pa_cons (pv 0) (pa_cons (pv 1) pa_nil))))
      (pss_cons (ps_set (i := 4) sc_around.nd rfl (Or.inl rfl) pe_int)
      (pss_cons (ps_for (passes_of rfl) rfl (pi_range1 (by rfl) T.range (pa_cons (pe_callB (kcall_len (K := K) rfl) (by rfl) T.len PySem.boot_len (pa_cons (kfld (K := K) rfl (pv 3) rfl) pa_nil)) pa_nil)) (pg_name (i := 5) sc_around.nd rfl (Or.inr rfl)) (pss_cons (ps_setLc (i := 6) (own := [("k", 8)]) (g := gName 8) (tt := tYes) rfl sc_around.nd rfl rfl (sw_true rfl rfl rfl (by decide +kernel)) (pi_range1 (by rfl) T.range (pa_cons (pe_callB (kcall_len (K := K) rfl) (by rfl) T.len PySem.boot_len (pa_cons (kfld (K := K) rfl (pv 3) rfl) pa_nil)) pa_nil)) (blkOk_by (N := N_around) (sc := defScope s_around) (by decide +kernel)) (fun _ _ _ _ _ => pg_name (i := 8) sc_around.nd rfl (Or.inl rfl)) (fun _ _ _ _ _ => pts_nil) (fun _ _ _ _ _ => (pe_callTy call_int1 (by rfl) T.int (by decide +kernel) (pa_cons (pe_cmpR op_eq (pv 8) (pv 5) (nomark _)) pa_nil))))
      (pss_cons (ps_for (passes_of rfl) rfl (pi_range1 (by rfl) T.range (pa_cons (pv 2) pa_nil)) (pg_name (i := 7) sc_around.nd rfl (Or.inl rfl)) (pss_one (ps_set (i := 6) sc_around.nd rfl (Or.inl rfl) (pe_ml m_Band_step hr (by omega) pass0 (pv 3) (pa_cons (pv 6) pa_nil)))))
      (pss_one (ps_set (i := 4) sc_around.nd rfl (Or.inl rfl) (pe_op op_add (pv 4) (pe_ix (kix_list (K := K) rfl) (pv 6) (pv 5) (fun _ _ => rfl))))))))
      (pss_one (ps_ret (pv 4))))))), ?_⟩
    refine q_drop (P := dp .none) e (ev_call (el_cons (ev_var rfl (P := dp (.int (high : Nat))) (.int _)) (el_cons (ev_var rfl (P := dp (.int (wide : Nat))) (.int _)) el_nil)) fun vs B1 e1 p1 => ?_) fun v1 B1 H1 s1 _ => ?_
    · obtain ⟨a, b, rfl, pa, pb⟩ := all2_2 p1
      cases dp_int.mp pa
      cases dp_int.mp pb
      exact ⟨(high : Nat), (wide : Nat), rfl, by omega, by omega, rfl⟩
    refine q_band (rs := rs) (high := high) s1.bh (el_cons (ev_var rfl ((tilesV K rs).m s1.eb hx)) (el_cons (ev_var rfl (.int _)) el_nil)) h200 hh.1 hh.2 (fun few v B2 H2 s2 pv => ?_) fun nf B2 H2 s2 => ke nf B2 H2 (s1.trans s2)
    have okn := nextsC_ok rs (colsK rs high)
    have hc := few high (Nat.le_refl _)
    have st2 := s1.trans s2
    have kq := kq few
    generalize colsK rs high = cols at *
    generalize nextsC rs cols = ns at *
    have bnd : ∀ {σ : L2.St} {B' : Hp}, σ[3]? = some (some v) → Ex B2 B' → EvP (tVar 3) σ B' (bandV K cols ns) := fun h e => ev_var h ((bandV K cols ns).m e pv)
    have lenE : ∀ {σ : L2.St} {B' : Hp}, σ[3]? = some (some v) → Ex B2 B' → EvP (tCB (rLenS K) (tCons (tFld K (tVar 3) "columns") tNil)) σ B' (dp (.int cols.length)) := fun h e => (ev_lenLd (ev_fld (bnd h e) bt.cl bt.c rfl)).to (by rw [List.length_map])
    -- found = 0
    refine q_asg (P := dp (.int 0)) s2.bh ev_int fun v3 B3 H3 s3 p3 => ?_
    cases dp_int.mp p3
    refine q_forR (n := cols.length) s3.bh (el_cons (lenE rfl s3.eb) el_nil) (by omega)
      (fun i σ B' H' => (∃ a b c d, σ = [some x, some (.int (high : Nat)), some (.int (wide : Nat)), some v, some (.int ((List.range i).map fun b => (iterM (stepM cols.length ns) wide (unitM cols.length b)).getD b 0).sum), a, b, c, d]) ∧ Step B H B' H' ∧ Ex B2 B')
      (fun Bl Hl sl => ⟨⟨_, _, _, _, rfl⟩, (st2.trans s3).trans sl, s3.eb.trans sl.eb⟩) ?_ ?_
    · rintro Bl Hl sl i σ' B4 H4 hi e1 e2 ⟨⟨a, b, c, d, rfl⟩, s4, e24⟩
      refine q_asg (P := dp (intsD (unitM cols.length i))) e2 ((ev_lcR (fun _ => true) (fun k => dp (.int (if k = i then 1 else 0))) (el_cons (lenE rfl e24) el_nil) (by omega) (fun _ => rfl) (fun _ _ _ _ => eb_yes) (fun y B' hy _ e' => ?_)).imp fun _ _ _ z => ?_) fun v5 B5 H5 s5 p5 => ?_
      · refine ev_cb (el_cons (ev_eq (ev_var rfl (P := dp (.int (y : Nat))) (.int _)) (ev_var rfl (P := dp (.int (i : Nat))) (.int _))) el_nil) fun B6 xs e6 h H e Q q => ?_
        obtain ⟨x, rfl, hx⟩ := all2_1 h
        cases dp_bl.mp hx
        refine .inr ⟨_, rfl, q _ B6 H (Step.refl e) (dp_int.mpr ?_)⟩
        by_cases z : y = i
        · subst z
          rw [dT rfl, if_pos rfl, if_pos rfl]
        · rw [dF (by omega), if_neg z]
          rfl
      · rw [List.filter_eq_self.mpr fun _ _ => rfl] at z
        refine ints_dp.mp ?_
        unfold unitM
        rw [List.map_map]
        exact z
      refine q_forR (n := wide) s5.bh (el_cons (ev_var rfl (.int _)) el_nil) (by omega)
        (fun j σ B' H' => (∃ u c d, σ = [some x, some (.int (high : Nat)), some (.int (wide : Nat)), some v, some (.int ((List.range i).map fun b => (iterM (stepM cols.length ns) wide (unitM cols.length b)).getD b 0).sum), some (.int (i : Nat)), some u, c, d] ∧ (dp (intsD (iterM (stepM cols.length ns) j (unitM cols.length i)))).p B' u) ∧ Step B H B' H' ∧ Ex B2 B')
        (fun Bm Hm sm => ⟨⟨_, _, _, rfl, (dp _).m sm.eb p5⟩, (s4.trans s5).trans sm, e24.trans (s5.eb.trans sm.eb)⟩) ?_ ?_
      · rintro Bm Hm sm j σ3 B6 H6 hj e3 e4 ⟨⟨u, c', d', rfl, pu⟩, s6, e26⟩
        refine s_asg (P := dp (intsD (iterM (stepM cols.length ns) (j + 1) (unitM cols.length i)))) e4 (ev_meth (bnd rfl e26) rfl (el_cons (ev_var rfl pu) el_nil) fun y vs B7 e7 py pvs => ?_) fun v7 B7 H7 s7 p7 => ⟨B7, e3.trans s7.eb, s7.bh, ⟨_, _, _, rfl, p7⟩, s6.trans s7, e26.trans s7.eb⟩
        obtain ⟨z, rfl, pz⟩ := all2_1 pvs
        exact ⟨y, z, cols, ns, _, rfl, py, pz, hc, iter_len (by unfold unitM; rw [List.length_map, List.length_range]) j, okn, rfl⟩
      · rintro σ3 B6 H6 e3 e4 ⟨⟨u, c', d', rfl, pu⟩, s6, e26⟩
        have hlen : (iterM (stepM cols.length ns) wide (unitM cols.length i)).length = cols.length := iter_len (by unfold unitM; rw [List.length_map, List.length_range]) wide
        refine s_asg e4 (ev_add (ev_var rfl (.int _)) (ev_ixLd (ev_var rfl pu) (ev_var rfl (.int _)) (at_ints (of_getD (d := 0) (by rw [hlen]; exact hi))))) fun v7 B7 H7 s7 p7 => ?_
        cases dp_int.mp p7
        refine ⟨B7, e1.trans (s5.eb.trans (e3.trans s7.eb)), s7.bh, ⟨_, _, _, _, by rw [sum_next]; rfl⟩, s6.trans s7, e26.trans s7.eb⟩
    · rintro σ' B4 H4 e1 e2 ⟨⟨a, b, c, d, rfl⟩, s4, e24⟩
      refine s_ret e2 (P := dp (.int _)) (ev_var rfl (.int _)) fun v5 B5 H5 s5 p5 => ?_
      cases dp_int.mp p5
      exact kq B5 H5 (s4.trans s5)
end
end TL
set_option maxHeartbeats 4000000
/-! A list that methods change; membership. -/
namespace TL
open PySem L2
section
variable {K : PySem.W.Frag} {σ : L2.St} {B B1 H : Hp} {ta tb te tx tl : TE} {t u : L2.TT} {P Pa Pb : VP} {r : R2} {D : Ends} {tu tw tz : TS} {g : TG}
/-- what is hidden at p is looked at by a test -/
theorem peekB {p : Addr} {Ps : List VP} {b : Bool} (e : Ex B H) (a : Acc p Ps B H) (h : ∀ B', Ex B B' → (lst Ps).p B' (.ref p) → EvB t σ B' b) {Q : Bool → Hp → Prop} (q : ∀ H', Step B H B H' → Acc p Ps B H' → Q b H') : t σ H Q := by
  obtain ⟨h1, xs, h2, h3⟩ := a
  have e' : Ex (upd B p (.lst xs)) H := fun a u ha => by
    by_cases z : a = p
    · subst z
      rw [upd_same] at ha
      rw [h2]
      exact ha
    · rw [upd_ne z] at ha
      exact e a u ha
  refine h _ (Ex.new h1) ⟨p, xs, rfl, upd_same, all2_m (Ex.new h1) h3⟩ H e' _ fun B' H' s => ?_
  exact q H' ⟨Ex.refl B, e.trans s.eh, s.eh, fun _ _ h => h⟩ ⟨h1, xs, s.eh _ _ h2, h3⟩
theorem Acc.to {p : Addr} {Ps Qs : List VP} {B H : Hp} (a : Acc p Ps B H) (e : Ps = Qs) : Acc p Qs B H := e ▸ a
theorem Acc.of {p : Addr} {xs : List V} {Ps : List VP} {B H : Hp} (h1 : B p = none) (h2 : H p = some (.lst xs)) (h3 : all2 B xs Ps) : Acc p Ps B H := ⟨h1, xs, h2, h3⟩
theorem all2_drop {B : Hp} : ∀ {vs : List V} {Ps : List VP} {P : VP}, all2 B vs (Ps ++ [P]) → all2 B vs.dropLast Ps ∧ ∃ v, vs[vs.length - 1]? = some v
  | [], [], _, h => h.elim
  | [], _ :: _, _, h => h.elim
  | [v], [], P, ⟨h, _⟩ => ⟨True.intro, v, rfl⟩
  | v :: w :: vs, [], P, ⟨_, h⟩ => h.elim
  | [v], Q :: Ps, P, ⟨_, h⟩ => by
    cases Ps with
    | nil => exact h.elim
    | cons _ _ => exact h.elim
  | v :: w :: vs, Q :: Ps, P, ⟨h1, h2⟩ => by
    obtain ⟨a, z, hz⟩ := all2_drop (vs := w :: vs) (Ps := Ps) (P := P) h2
    exact ⟨⟨h1, a⟩, z, by simpa using hz⟩
/-- xs.pop() -/
theorem s_pop {p : Addr} {Ps : List VP} (e : Ex B H) (a : Acc p (Ps ++ [P]) B H) (ha : EvP ta σ B (isV (.ref p)))
    (k : ∀ B' H', Ex B B' → Ex B' H' → Acc p Ps B' H' → (∃ H1, Step B H B' H1 ∧ ∃ o, H' = upd H1 p o) → D.nx σ H') : tDrop (tBM0 K "list" rPop ta) D σ H := ha H e _ fun v0 B0 H0 s0 p0 => by
  cases (show v0 = .ref p from p0)
  obtain ⟨h1, xs, h2, h3⟩ := a.step s0
  obtain ⟨h4, y, hy⟩ := all2_drop h3
  exact ⟨.inl ⟨rfl, xs, SqL.of h2⟩, p, xs, y, rfl, rfl, h2, hy, k B0 _ s0.eb (s0.bh.poke h1) ⟨h1, _, upd_same, h4⟩ ⟨H0, s0, _, rfl⟩⟩
/-- whole numbers in lists -/
abbrev natP (l : List Nat) : List VP := l.map fun n : Nat => dp (.int (n : Int))
theorem all2_nats {B : Hp} : ∀ {vs : List V} {l : List Nat}, all2 B vs (natP l) → vs = l.map fun n : Nat => V.int (n : Int)
  | [], [], _ => rfl
  | v :: vs, i :: l, ⟨h1, h2⟩ => by
    rw [dp_int.mp h1, all2_nats (vs := vs) (l := l) h2]
    rfl
  | [], _ :: _, h => h.elim
  | _ :: _, [], h => h.elim
theorem flat_nats (l : List Nat) : (l.map fun n : Nat => V.int (n : Int)).all flatV = true := by
  rw [List.all_map]
  exact List.all_eq_true.mpr fun _ _ => rfl
theorem in_nats (n : Nat) : ∀ l : List Nat, inV (.int (n : Int)) (l.map fun n : Nat => V.int (n : Int)) = decide (n ∈ l)
  | [] => rfl
  | m :: l => by
    show (eqV (.int (m : Int)) (.int (n : Int)) || inV (.int (n : Int)) (l.map fun n : Nat => V.int (n : Int))) = _
    rw [in_nats n l]
    show (((m : Int) == (n : Int)) || _) = _
    by_cases z : n = m
    · subst z; simp
    · have z2 : ¬ (m : Int) = (n : Int) := fun y => z (Int.ofNat_inj.mp y).symm
      simp [z, z2]
theorem ev_notInN {n : Nat} {l : List Nat} (ha : EvP ta σ B (dp (.int (n : Nat)))) (hb : EvP tb σ B (lst (natP l))) : EvP (tOp (rIn K true) ta tb) σ B (dp (.bool (!decide (n ∈ l)))) := ev_op ha hb fun B' x y _ hx hy H e Q q => by
  cases dp_int.mp hx
  obtain ⟨a, xs, rfl, h1, h2⟩ := hy
  have := all2_nats h2
  subst this
  refine ⟨a, _, rfl, .inl (SqL.of (e _ _ h1)), rfl, flat_nats l, q _ B' H (Step.refl e) (dp_bl.mpr ?_)⟩
  rw [if_pos rfl, in_nats]
theorem StepX.ofApp {p : Addr} {B H B1 H1 B2 H2 H3 : Hp} (s : StepX p B H B1 H1) (t : Step B1 H1 B2 H2) (h : ∃ o, H3 = upd H2 p o) (e : Ex B2 H3) : StepX p B H B2 H3 := by
  obtain ⟨o, rfl⟩ := h
  have := s.trans (t.x p)
  exact ⟨this.eb, e, fun a u z h => by rw [upd_ne z]; exact this.eh a u z h, this.hid⟩
theorem StepX.refl {x : Addr} {B H : Hp} (e : Ex B H) : StepX x B H B H := (Step.refl e).x x
end
end TL
set_option maxHeartbeats 4000000
/-! class Matching -/
namespace TL
open PySem L2
/-! ### plain -/
def sideOf (t : Tile) (s : Nat) : Int := t.l.getD s 0
def sidePairs (rs ss : List Tile) (nm : List Nat) (sd : List Nat) : List (Int × Int) := (List.range nm.length).flatMap fun k => sd.map fun s => (sideOf (gt rs k) s, sideOf (gt ss (nm.getD k 0)) s)
def okPair (a b : Int × Int) : Bool := decide (a.1 = b.1) == decide (a.2 = b.2)
def okPairs (ps : List (Int × Int)) : Bool := ps.all fun a => ps.all fun b => okPair a b
def sideL : List (List Nat) := [[0, 2], [1, 3]]
def fitsM (rs ss : List Tile) (nm : List Nat) : Bool := sideL.all fun sd => okPairs (sidePairs rs ss nm sd)
def pairD (a : Int × Int) : PyData := .tuple [.int a.1, .int a.2]
def tryM (go : List Nat → Option (List Nat)) (rs ss : List Tile) (nm : List Nat) (t : Nat) : Option (List Nat) := if t ∈ nm then none else if fitsM rs ss (nm ++ [t]) = true then go (nm ++ [t]) else none
def goesM (rs ss : List Tile) : Nat → List Nat → Option (List Nat)
  | 0, nm => some nm
  | r + 1, nm => (List.range ss.length).findSome? (tryM (goesM rs ss r) rs ss nm)
theorem at_side {t : Tile} {s : Nat} (h : s < 4) : atI [PyData.int t.n, .int t.e, .int t.s, .int t.w] (s : Int) = some (.int (sideOf t s)) := by
  match s, h with
  | 0, _ => rfl
  | 1, _ => rfl
  | 2, _ => rfl
  | 3, _ => rfl
  | s + 4, h => omega
theorem side_lt {sd : List Nat} (h : sd ∈ sideL) : sd.length = 2 ∧ ∀ s ∈ sd, s < 4 := by
  have : sd = [0, 2] ∨ sd = [1, 3] := by simpa [sideL] using h
  rcases this with rfl | rfl <;> exact ⟨rfl, by decide⟩
theorem sidePairs_len (rs ss : List Tile) (nm sd : List Nat) : (sidePairs rs ss nm sd).length = nm.length * sd.length := by
  unfold sidePairs
  have : ∀ l : List Nat, (l.flatMap fun k => sd.map fun s => (sideOf (gt rs k) s, sideOf (gt ss (nm.getD k 0)) s)).length = l.length * sd.length := fun l => by
    induction l with
    | nil => simp
    | cons a l ih => rw [List.flatMap_cons, List.length_append, ih, List.length_map, List.length_cons, Nat.succ_mul, Nat.add_comm]
  rw [this, List.length_range]
theorem all_snoc {α : Type} {f : α → Bool} {l : List α} {i : Nat} {x : α} (h : l[i]? = some x) : (l.take (i + 1)).all f = ((l.take i).all f && f x) := by
  rw [get_take h, List.all_append]
  simp
structure MT (K : PySem.W.Frag) (mg : Str → Option Value) : Prop where
  cl : Cls K (ca K "Matching")
  o : NoAttr K (ca K "Matching") "one"
  t : NoAttr K (ca K "Matching") "other"
  n : NoAttr K (ca K "Matching") "names"
abbrev matchF (rs ss : List Tile) (N : VP) : List (Str × VP) := [("one", dp (rowsD rs)), ("other", dp (rowsD ss)), ("names", N)]
abbrev matchV (K : PySem.W.Frag) (rs ss : List Tile) (N : VP) : VP := ins (ca K "Matching") (matchF rs ss N)
section
variable {P : Program} {w : World} {K : PySem.W.Frag} {mg : Str → Option Value} {base : Heap} {f : Addr} {fd : FuncData}
abbrev s_Matching_fits : Stmt := inClass (top 22) 1
abbrev N_Matching_fits : List Str := ["self", "sides", "pairs", "k", "pair", "side", "beside"]
abbrev P_Matching_fits : List Str := ["self"]
theorem sc_Matching_fits : FnScope N_Matching_fits P_Matching_fits (defScope s_Matching_fits) := ⟨rfl, rfl, rfl, by decide +kernel, rfl, by decide +kernel, by decide +kernel⟩
abbrev spMFits (K : PySem.W.Frag) : Sp := spP fun vs B R => ∃ x rs ss nm, vs = [x] ∧ (matchV K rs ss (lst (natP nm))).p B x ∧ nm.length ≤ rs.length ∧ nm.length ≤ 200 ∧ (∀ t ∈ nm, t < ss.length) ∧ R = dp (.bool (fitsM rs ss nm))
theorem ok_mfits (T : TB mg) (mt : MT K mg) (F : FnP K "fits" "Matching.fits" s_Matching_fits f fd) : FnOk P w K mg base CX0 1 f fd P_Matching_fits (spMFits K) := by
  refine F.ok sc_Matching_fits (fun vs H Q E h => ?_) (fun cdv A outer s H vs Q E hr h => ?_)
  · obtain ⟨B, R, e, ⟨x, rs, ss, nm, rfl, _⟩, _⟩ := h
    rfl
  · obtain ⟨B, R, e, ⟨x, rs, ss, nm, rfl, hx, hl, h200, hin, rfl⟩, k⟩ := h
    refine ⟨_, PSs.nox (pss_cons (ps_for PassesOwn.never rfl (kpi_list (K := K) rfl (pe_lst (pa_cons (pe_tup (pa_cons pe_int (pa_cons pe_int pa_nil))) (pa_cons (pe_tup (pa_cons pe_int (pa_cons pe_int pa_nil))) pa_nil)))) (pg_name (i := 1) sc_Matching_fits.nd rfl (Or.inl rfl)) (pss_cons (ps_set (i := 2) sc_Matching_fits.nd rfl (Or.inl rfl) (pe_lst pa_nil))
      (pss_cons (ps_for PassesOwn.never rfl (pi_range1 (by rfl) T.range (pa_cons (pe_callB (kcall_len (K := K) rfl) (by rfl) T.len PySem.boot_len (pa_cons (kfld (K := K) rfl (pv 0) rfl) pa_nil)) pa_nil)) (pg_name (i := 3) sc_Matching_fits.nd rfl (Or.inl rfl)) (pss_one (ps_for PassesOwn.never rfl (kpi_tup (K := K) rfl (pv 1)) (pg_name (i := 5) sc_Matching_fits.nd rfl (Or.inl rfl)) (pss_one (ps_expr (kbm (K := K) rfl PySem.F.plainAttrs_list PySem.F.slot_list_append PySem.F.type_list_append mt_append (pv 2) (pa_cons (pe_tup (pa_cons (pe_ix (kix_tup (K := K) rfl) (pe_ix (kix_list (K := K) rfl) (kfld (K := K) rfl (pv 0) rfl) (pv 3) (fun _ _ => rfl)) (pv 5) (fun _ _ => rfl)) (pa_cons (pe_ix (kix_tup (K := K) rfl) (pe_ix (kix_list (K := K) rfl) (kfld (K := K) rfl (pv 0) rfl) (pe_ix (kix_list (K := K) rfl) (kfld (K := K) rfl (pv 0) rfl) (pv 3) (fun _ _ => rfl)) (fun _ _ => rfl)) (pv 5) (fun _ _ => rfl)) pa_nil))) pa_nil)))))))
      (pss_one (ps_for PassesOwn.never rfl (kpi_list (K := K) rfl (pv 2)) (pg_name (i := 4) sc_Matching_fits.nd rfl (Or.inl rfl)) (pss_one (ps_for PassesOwn.never rfl (kpi_list (K := K) rfl (pv 2)) (pg_name (i := 6) sc_Matching_fits.nd rfl (Or.inl rfl)) (pss_one (ps_if (pt_cmpR op_ne (pe_cmpR op_eq (pe_ix (kix_tup (K := K) rfl) (pv 4) pe_int (fun _ _ => rfl)) (pe_ix (kix_tup (K := K) rfl) (pv 6) pe_int (fun _ _ => rfl)) (nomark _)) (pe_cmpR op_eq (pe_ix (kix_tup (K := K) rfl) (pv 4) pe_int (fun _ _ => rfl)) (pe_ix (kix_tup (K := K) rfl) (pv 6) pe_int (fun _ _ => rfl)) (nomark _)) (nomark _)) (pss_one (ps_ret pe_bl)) pss_nil)))))))))
      (pss_one (ps_ret pe_bl))), ?_⟩
    have self : ∀ {σ : L2.St} {B' : Hp}, σ[0]? = some (some x) → Ex B B' → EvP (tVar 0) σ B' (matchV K rs ss (lst (natP nm))) := fun h e => ev_var h ((matchV K rs ss (lst (natP nm))).m e hx)
    have names : ∀ {σ : L2.St} {B' : Hp}, σ[0]? = some (some x) → Ex B B' → EvP (tFld K (tVar 0) "names") σ B' (lst (natP nm)) := fun h e => ev_fld (self h e) mt.cl mt.n rfl
    refine q_forL (Ps := sideL.map fun sd => tup (natP sd)) e (ev_lst (el_cons (ev_tup (el_cons ev_int (el_cons ev_int el_nil)) (by decide)) (el_cons (ev_tup (el_cons ev_int (el_cons ev_int el_nil)) (by decide)) el_nil)) (by decide))
      (fun i σ B' H' => (∃ a b c d e f, σ = [some x, a, b, c, d, e, f]) ∧ Step B H B' H' ∧ (sideL.take i).all (fun sd => okPairs (sidePairs rs ss nm sd)) = true)
      (fun Bl Hl sl => ⟨⟨_, _, _, _, _, _, rfl⟩, sl, rfl⟩) ?_ ?_
    · rintro Bl Hl sl i Pi vs σ' B1 H1 hi e1 e2 pv ⟨⟨a, b, c, d, e', f', rfl⟩, s1, hall⟩
      obtain ⟨sd, hsd, rfl⟩ := get_map hi
      obtain ⟨sdl, sd4⟩ := side_lt (List.mem_of_getElem? hsd)
      refine q_new fun p hp => ?_
      have bp := s1.bh.none hp
      have hp0 : H p = none := s1.eh.none hp
      have s1' := s1.poke (o := .lst []) hp0 bp
      have hps : ∀ j, j < nm.length → nm[j]? = some (nm.getD j 0) := fun j hj => of_getD hj
      -- the pairs
      refine q_forR (n := nm.length) s1'.bh (el_cons ((ev_lenL (names rfl s1.eb)).to (by rw [List.length_map])) el_nil) (by omega)
        (fun j σ B' H' => (∃ c d e f, σ = [some x, some vs, some (.ref p), c, d, e, f]) ∧ Step B H B' H' ∧ Ex B1 B' ∧ Acc p (((List.range j).flatMap fun k => sd.map fun s => (sideOf (gt rs k) s, sideOf (gt ss (nm.getD k 0)) s)).map fun a => dp (pairD a)) B' H')
        (fun Bm Hm sm => ⟨⟨_, _, _, _, rfl⟩, s1'.trans sm, sm.eb, (Acc.new bp).step sm⟩) ?_ ?_
      · rintro Bm Hm sm j σ2 B2 H2 hj e3 e4 ⟨⟨c, d, e', f', rfl⟩, s2, e12, a2⟩
        refine s_forT (Ps := natP sd) e4 (ev_var rfl ((tup _).m e12 pv)) (fun m σ B' H' => (∃ d e f, σ = [some x, some vs, some (.ref p), some (.int (j : Nat)), d, e, f]) ∧ Step B H B' H' ∧ Ex B1 B' ∧
          Acc p (((List.range j).flatMap fun k => sd.map fun s => (sideOf (gt rs k) s, sideOf (gt ss (nm.getD k 0)) s)).map (fun a => dp (pairD a)) ++ ((sd.take m).map fun s => (sideOf (gt rs j) s, sideOf (gt ss (nm.getD j 0)) s)).map fun a => dp (pairD a)) B' H')
          (fun Bn Hn sn => ⟨⟨_, _, _, rfl⟩, s2.trans sn, e12.trans sn.eb, by rw [List.take_zero, List.map_nil, List.map_nil, List.append_nil]; exact a2.step sn⟩) ?_ ?_
        · rintro Bn Hn sn m Pm vm σ3 B3 H3 hm e5 e6 pm ⟨⟨d, e', f', rfl⟩, s3, e13, a3⟩
          obtain ⟨sm', hsm, rfl⟩ := get_map hm
          have hs4 := sd4 sm' (List.mem_of_getElem? hsm)
          have jrs : j < rs.length := by omega
          have njs : nm.getD j 0 < ss.length := hin _ (List.mem_of_getElem? (hps j hj))
          refine s_app (P := dp (pairD (sideOf (gt rs j) sm', sideOf (gt ss (nm.getD j 0)) sm'))) e6 a3 (ev_var rfl rfl) (EvP.tupD (ds := [.int (sideOf (gt rs j) sm'), .int (sideOf (gt ss (nm.getD j 0)) sm')]) (ev_tup (el_cons
            (ev_ixTd (ev_ixLd (ev_fld (self rfl s3.eb) mt.cl mt.o rfl) (ev_var rfl (.int _)) (at_rows (of_gt jrs))) (ev_var rfl pm) (at_side hs4)) (el_cons
            (ev_ixTd (ev_ixLd (ev_fld (self rfl s3.eb) mt.cl mt.t rfl) (ev_ixL (names rfl s3.eb) (ev_var rfl (P := dp (.int (j : Nat))) (.int _)) (atI_nat (by rw [List.getElem?_map, hps j hj]; rfl))) (at_rows (of_gt njs))) (ev_var rfl pm) (at_side hs4)) el_nil)) (Nat.le_of_ble_eq_true rfl))) ?_ fun B4 H4 e7 e8 a4 hs => ?_
          · have l1 := sidePairs_len rs ss (nm.take j) sd
            have : ((List.range j).flatMap fun k => sd.map fun s => (sideOf (gt rs k) s, sideOf (gt ss (nm.getD k 0)) s)).length ≤ j * 2 := by
              refine Nat.le_trans (flat_len (n := 2) (fun k => by rw [List.length_map, sdl]; exact Nat.le_refl _) (List.range j)) (by rw [List.length_range]; exact Nat.le_refl _)
            rw [List.length_append, List.length_map, List.length_map, List.length_map, List.length_take]
            omega
          · obtain ⟨H5, s5, o, rfl⟩ := hs
            refine ⟨B4, e5.trans e7, e8, ⟨_, _, _, rfl⟩, (s3.trans s5).poke hp0 a4.b, e13.trans e7, ?_⟩
            rw [get_take hsm, List.map_append, List.map_append, ← List.append_assoc]
            exact a4
        · rintro σ3 B3 H3 e5 e6 ⟨⟨d, e', f', rfl⟩, s3, e13, a3⟩
          refine ⟨B3, e3.trans e5, e6, ⟨_, _, _, _, rfl⟩, s3, e13, ?_⟩
          rw [List.length_map, List.take_length] at a3
          rw [List.range_succ, List.flatMap_append, List.map_append]
          simpa using a3
      · rintro σ2 B2 H2 e3 e4 ⟨⟨c, d, e', f', rfl⟩, s2, e12, a2⟩
        obtain ⟨B3, s3, e5, p3⟩ := a2.done s2 hp0
        have hps' : (lst ((sidePairs rs ss nm sd).map fun a => dp (pairD a))).p B3 (.ref p) := p3
        generalize hq : sidePairs rs ss nm sd = ps at hps'
        have lps : ps.length ≤ 400 := by rw [← hq, sidePairs_len, sdl]; omega
        have pr : ∀ {σ : L2.St} {B' : Hp}, σ[2]? = some (some (.ref p)) → Ex B3 B' → EvP (tVar 2) σ B' (lst (ps.map fun a => dp (pairD a))) := fun h e => ev_var h ((lst _).m e hps')
        refine s_forL (Ps := ps.map fun a => dp (pairD a)) s3.bh (pr rfl (Ex.refl _)) (fun j σ B' H' => (∃ c d e f, σ = [some x, some vs, some (.ref p), c, d, e, f]) ∧ Step B H B' H' ∧ Ex B3 B' ∧ (ps.take j).all (fun a => ps.all fun b => okPair a b) = true)
          (fun Bm Hm sm => ⟨⟨_, _, _, _, rfl⟩, s3.trans sm, sm.eb, rfl⟩) ?_ ?_
        · rintro Bm Hm sm j Pj va σ4 B4 H4 hj e6 e7 pa ⟨⟨c, d, e', f', rfl⟩, s4, e34, h4⟩
          obtain ⟨a, ha, rfl⟩ := get_map hj
          refine s_forL (Ps := ps.map fun a => dp (pairD a)) e7 (pr rfl e34) (fun m σ B' H' => (∃ d f, σ = [some x, some vs, some (.ref p), c, some va, d, f]) ∧ Step B H B' H' ∧ Ex B3 B' ∧ Ex B4 B' ∧ (ps.take m).all (fun b => okPair a b) = true)
            (fun Bn Hn sn => ⟨⟨_, _, rfl⟩, s4.trans sn, e34.trans sn.eb, sn.eb, rfl⟩) ?_ ?_
          · rintro Bn Hn sn m Pm vb σ5 B5 H5 hm e8 e9 pb ⟨⟨d', f2, rfl⟩, s5, e35, e45, h5⟩
            obtain ⟨b, hb, rfl⟩ := get_map hm
            refine s_when (b := !(okPair a b)) e9 (eb_test (ev_neB (ev_eq (ev_ixTd (d := .int a.1) (ev_var rfl ((dp _).m e45 pa)) ev_int rfl) (ev_ixTd (d := .int b.1) (ev_var rfl pb) ev_int rfl)) (ev_eq (ev_ixTd (d := .int a.2) (ev_var rfl ((dp _).m e45 pa)) ev_int rfl) (ev_ixTd (d := .int b.2) (ev_var rfl pb) ev_int rfl)))) (fun hne B6 H6 s6 => ?_) fun heq B6 H6 s6 => ⟨B6, e8.trans s6.eb, s6.bh, ⟨_, _, rfl⟩, s5.trans s6, e35.trans s6.eb, e45.trans s6.eb, ?_⟩
            · refine s_ret s6.bh ev_bl fun v B7 H7 s7 p7 => ?_
              refine k v B7 H7 ((s5.trans s6).trans s7) ?_
              have : fitsM rs ss nm = false := by
                cases z : fitsM rs ss nm with
                | false => rfl
                | true =>
                  have z1 := List.all_eq_true.mp z sd (List.mem_of_getElem? hsd)
                  rw [hq] at z1
                  have z2 := List.all_eq_true.mp (List.all_eq_true.mp z1 a (List.mem_of_getElem? ha)) b (List.mem_of_getElem? hb)
                  rw [z2] at hne
                  cases hne
              rw [this]
              exact p7
            · rw [all_snoc hb, h5]
              cases z : okPair a b with
              | true => rfl
              | false => rw [z] at heq; cases heq
          · rintro σ5 B5 H5 e8 e9 ⟨⟨d', f2, rfl⟩, s5, e35, e45, h5⟩
            refine ⟨B5, e6.trans e8, e9, ⟨_, _, _, _, rfl⟩, s5, e35, ?_⟩
            rw [List.length_map, List.take_length] at h5
            rw [all_snoc ha, h4]
            exact h5
        · rintro σ4 B4 H4 e6 e7 ⟨⟨c, d, e', f', rfl⟩, s4, e34, h4⟩
          refine ⟨B4, e1.trans (e12.trans (e5.trans e6)), e7, ⟨_, _, _, _, _, _, rfl⟩, s4, ?_⟩
          rw [List.length_map, List.take_length] at h4
          rw [all_snoc hsd, hall, hq]
          exact h4
    · rintro σ' B1 H1 e1 e2 ⟨⟨a, b, c, d, e', f', rfl⟩, s1, hall⟩
      refine s_ret e2 ev_bl fun v B7 H7 s7 p7 => ?_
      refine k v B7 H7 (s1.trans s7) ?_
      have : fitsM rs ss nm = true := hall
      rw [this]
      exact p7
end
end TL
set_option maxHeartbeats 4000000
namespace TL
open PySem L2
theorem natP_snoc (l : List Nat) (i : Nat) : natP (l ++ [i]) = natP l ++ [dp (.int (i : Nat))] := by
  unfold natP
  rw [List.map_append]
  rfl
theorem find_none {α : Type} {f : Nat → Option α} : ∀ {n : Nat}, (∀ t, t < n → f t = none) → (List.range n).findSome? f = none
  | 0, _ => rfl
  | n + 1, h => by
    rw [List.range_succ, List.findSome?_append, find_none (fun t ht => h t (Nat.lt_succ_of_lt ht))]
    simp [h n (Nat.lt_succ_self n)]
theorem find_some {α : Type} {f : Nat → Option α} {i : Nat} {x : α} : ∀ {n : Nat}, i < n → (∀ t, t < i → f t = none) → f i = some x → (List.range n).findSome? f = some x
  | 0, h, _, _ => absurd h (Nat.not_lt_zero _)
  | n + 1, h, hn, hx => by
    rw [List.range_succ, List.findSome?_append]
    rcases Nat.lt_or_eq_of_le (Nat.le_of_lt_succ h) with h1 | h1
    · rw [find_some h1 hn hx]
      rfl
    · subst h1
      rw [find_none hn]
      simp [hx]
section
variable {P : Program} {w : World} {K : PySem.W.Frag} {mg : Str → Option Value} {base : Heap} {f : Addr} {fd : FuncData}
theorem matchV_show {rs ss : List Tile} {p : Addr} {Ps : List VP} {B : Hp} {x : V} (h : (matchV K rs ss (isV (.ref p))).p B x) (hl : (lst Ps).p B (.ref p)) : (matchV K rs ss (lst Ps)).p B x := by
  obtain ⟨a, dx, fs, h1, h2, h3, h4⟩ := h
  refine ⟨a, dx, fs, h1, h2, h3, ?_⟩
  match fs, h3, h4 with
  | [(_, v1), (_, v2), (_, v3)], _, ⟨q1, q2, q3, _⟩ =>
    cases (show v3 = .ref p from q3)
    exact ⟨q1, q2, hl, True.intro⟩
abbrev s_Matching_goes : Stmt := inClass (top 22) 2
abbrev N_Matching_goes : List Str := ["self", "tile"]
abbrev P_Matching_goes : List Str := ["self"]
theorem sc_Matching_goes : FnScope N_Matching_goes P_Matching_goes (defScope s_Matching_goes) := ⟨rfl, rfl, rfl, by decide +kernel, rfl, by decide +kernel, by decide +kernel⟩
abbrev spMG (K : PySem.W.Frag) (r : Nat) : Sp := fun vs H Q _ => ∃ B x p rs ss nm, vs = [x] ∧ Ex B H ∧ (matchV K rs ss (isV (.ref p))).p B x ∧ Acc p (natP nm) B H ∧ nm.length + r = rs.length ∧ rs.length ≤ 100 ∧ ss.length ≤ 100 ∧ (∀ t ∈ nm, t < ss.length) ∧
  ∀ B' H', StepX p B H B' H' → Acc p (natP ((goesM rs ss r nm).getD nm)) B' H' → Q (.bl (goesM rs ss r nm).isSome) H'
def spMGp (K : PySem.W.Frag) : Nat → Sp
  | 0 => fun _ _ _ _ => False
  | r + 1 => spMG K r
theorem fn_false {fd : FuncData} {ps : List Str} {k : Nat} : FnOk P w K mg base CX0 k f fd ps (fun _ _ _ _ => False) := ⟨fun _ _ _ _ h => h.elim, fun _ _ _ _ _ _ _ _ _ _ _ _ _ h => h.elim⟩
theorem mgoes_step (T : TB mg) (mt : MT K mg) (m_Matching_fits : Mt P w K mg base CX0 1 (ca K "Matching") "fits" (spMFits K)) (F : FnP K "goes" "Matching.goes" s_Matching_goes f fd) (r : Nat) (m_Matching_goes : Mt P w K mg base CX0 (1 + r) (ca K "Matching") "goes" (spMGp K r)) :
    FnOk P w K mg base CX0 (1 + r + 1) f fd P_Matching_goes (spMG K r) := by
  refine F.ok sc_Matching_goes (fun vs H Q E h => ?_) (fun cdv A outer s H vs Q E hr h => ?_)
  · obtain ⟨B, x, p, rs, ss, nm, rfl, _⟩ := h
    rfl
  · obtain ⟨B, x, p, rs, ss, nm, rfl, e, hx, ac, hlen, h100, s100, hin, k⟩ := h
    refine ⟨_, PSs.nox (pss_cons (ps_if (pt_cmpR op_eq (pe_callB (kcall_len (K := K) rfl) (by rfl) T.len PySem.boot_len (pa_cons (kfld (K := K) rfl (pv 0) rfl) pa_nil)) (pe_callB (kcall_len (K := K) rfl) (by rfl) T.len PySem.boot_len (pa_cons (kfld (K := K) rfl (pv 0) rfl) pa_nil)) (nomark _)) (pss_one (ps_ret pe_bl)) pss_nil)
      (pss_cons (ps_for PassesOwn.never rfl (pi_range1 (by rfl) T.range (pa_cons (pe_callB (kcall_len (K := K) rfl) (by rfl) T.len PySem.boot_len (pa_cons (kfld (K := K) rfl (pv 0) rfl) pa_nil)) pa_nil)) (pg_name (i := 1) sc_Matching_goes.nd rfl (Or.inl rfl)) (pss_one (ps_if (pt_cmpR (kop_notIn (K := K) rfl) (pv 1) (kfld (K := K) rfl (pv 0) rfl) (by rfl)) (pss_cons (ps_expr (kbm (K := K) rfl PySem.F.plainAttrs_list PySem.F.slot_list_append PySem.F.type_list_append mt_append (kfld (K := K) rfl (pv 0) rfl) (pa_cons (pv 1) pa_nil)))
      (pss_cons (ps_if (PW.pt (pw_and (pt_val (pe_ml0 m_Matching_fits hr (by omega) pass0 (pv 0))) (pw_and1 (pt_val (pe_ml0 m_Matching_goes hr (by omega) pass0 (pv 0)))))) (pss_one (ps_ret pe_bl)) pss_nil)
      (pss_one (ps_expr (kbm0 (K := K) rfl PySem.F.plainAttrs_list PySem.F.slot_list_pop PySem.F.type_list_pop mt_pop (kfld (K := K) rfl (pv 0) rfl)))))) pss_nil)))
      (pss_one (ps_ret pe_bl)))), ?_⟩
    have selfN : ∀ {σ : L2.St} {B' : Hp} {Ps : List VP}, σ[0]? = some (some x) → Ex B B' → (lst Ps).p B' (.ref p) → EvP (tVar 0) σ B' (matchV K rs ss (lst Ps)) := fun h e hl => ev_var h (matchV_show ((matchV K rs ss (isV (.ref p))).m e hx) hl)
    have self : ∀ {σ : L2.St} {B' : Hp}, σ[0]? = some (some x) → Ex B B' → EvP (tVar 0) σ B' (matchV K rs ss (isV (.ref p))) := fun h e => ev_var h ((matchV K rs ss (isV (.ref p))).m e hx)
    -- if len(self.names) == len(self.one): return True
    refine q (peekB (b := decide (r = 0)) e ac (fun B' e' pl => ((eb_test (ev_eq (ev_lenL (ev_fld (selfN rfl e' pl) mt.cl mt.n rfl)) (ev_lenLd (ev_fld (selfN rfl e' pl) mt.cl mt.o rfl)))).to ?_)) fun H1 s1 a1 => ?_)
    · rw [List.length_map, List.length_map]
      by_cases z : r = 0
      · rw [dT z, dT (by omega)]
      · rw [dF z, dF (by omega)]
    cases r with
    | zero => exact k B H1 (s1.x p) a1
    | succ r =>
      rw [show decide (r + 1 = 0) = false from dF (by omega)]
      refine iteF ?_
      dsimp only [tNext]
      have sx1 := s1.x p
      refine q_forR (n := ss.length) s1.bh (el_cons ((ev_lenLd (ev_fld (self rfl (Ex.refl _)) mt.cl mt.t rfl)).to (by rw [List.length_map])) el_nil) (by omega)
        (fun i σ B' H' => (∃ a, σ = [some x, a]) ∧ StepX p B H B' H' ∧ Acc p (natP nm) B' H' ∧ ∀ t, t < i → tryM (goesM rs ss r) rs ss nm t = none)
        (fun Bl Hl sl => ⟨⟨_, rfl⟩, sx1.trans (sl.x p), a1.step sl, fun t ht => absurd ht (Nat.not_lt_zero _)⟩) ?_ ?_
      · rintro Bl Hl sl i σ' B2 H2 hi e1 e2 ⟨⟨a, rfl⟩, s2, a2, hn⟩
        -- if tile not in self.names
        refine peekB (b := !decide (i ∈ nm)) e2 a2 (fun B' e' pl => eb_test (ev_notInN (ev_var rfl (.int _)) (ev_fld (selfN rfl (s2.eb.trans e') pl) mt.cl mt.n rfl))) fun H3 s3 a3 => ?_
        by_cases him : i ∈ nm
        · rw [dT him]
          refine iteF ?_
          dsimp only [tNext]
          refine ⟨B2, e1, s3.bh, ⟨_, rfl⟩, s2.trans (s3.x p), a3, fun t ht => ?_⟩
          rcases Nat.lt_or_eq_of_le (Nat.le_of_lt_succ ht) with h | h
          · exact hn t h
          · subst h
            exact if_pos him
        · rw [dF him]
          refine iteT ?_
          -- self.names.append(tile)
          refine q_app (P := dp (.int (i : Nat))) s3.bh a3 (ev_fld (self rfl s2.eb) mt.cl mt.n rfl) (ev_var rfl (.int _)) (by rw [List.length_map]; omega) fun B4 H4 e4 e4' a4 hs4 => ?_
          obtain ⟨H5, s5, o5⟩ := hs4
          have a4' : Acc p (natP (nm ++ [i])) B4 H4 := a4.to (natP_snoc _ _).symm
          have s4 : StepX p B H B4 H4 := (s2.trans (s3.x p)).ofApp s5 o5 e4'
          have hin' : ∀ t ∈ nm ++ [i], t < ss.length := fun t ht => by
            rcases List.mem_append.mp ht with h | h
            · exact hin t h
            · rw [List.mem_singleton.mp h]; exact hi
          have lnm : (nm ++ [i]).length = nm.length + 1 := by rw [List.length_append]; rfl
          -- the end of a turn that fails
          have back : ∀ {rt : VK} {bk ct : L2.St → Hp → Prop} B6 H6, Ex B4 B6 → Ex B6 H6 → StepX p B H B6 H6 → Acc p (natP (nm ++ [i])) B6 H6 → tryM (goesM rs ss r) rs ss nm i = none →
              tDrop (tBM0 K "list" rPop (tFld K (tVar 0) "names")) { nx := Nx Bl fun σ B' H' => (∃ a, σ = [some x, a]) ∧ StepX p B H B' H' ∧ Acc p (natP nm) B' H' ∧ ∀ t, t < i + 1 → tryM (goesM rs ss r) rs ss nm t = none, rt := rt, bk := bk, ct := ct } [some x, some (.int (i : Nat))] H6 := fun B6 H6 e6 e6' s6 a6 hnone => by
            refine s_pop (P := dp (.int (i : Nat))) e6' (a6.to (natP_snoc _ _)) (ev_fld (self rfl s6.eb) mt.cl mt.n rfl) fun B7 H7 e7 e7' a7 hs7 => ?_
            obtain ⟨H8, s8, o8⟩ := hs7
            refine ⟨B7, e1.trans (e4.trans (e6.trans e7)), e7', ⟨_, rfl⟩, s6.ofApp s8 o8 e7', a7, fun t ht => ?_⟩
            rcases Nat.lt_or_eq_of_le (Nat.le_of_lt_succ ht) with h | h
            · exact hn t h
            · subst h
              exact hnone
          -- if self.fits() and self.goes(): return True
          refine q (peekB (b := fitsM rs ss (nm ++ [i])) e4' a4' (fun B' e' pl => eb_B (ev_meth (selfN rfl (s4.eb.trans e') pl) rfl el_nil fun y vs B6 e6 py pv => ?_)) fun H6 s6 a6 => ?_)
          · have : vs = [] := by cases vs with | nil => rfl | cons _ _ => exact pv.elim
            subst this
            exact ⟨y, rs, ss, nm ++ [i], rfl, py, by omega, by omega, hin', rfl⟩
          cases hf : fitsM rs ss (nm ++ [i]) with
          | false =>
            refine iteF ?_
            refine iteF ?_
            dsimp only [tNext]
            refine back B4 H6 (Ex.refl _) s6.bh (s4.trans (s6.x p)) a6 ?_
            unfold tryM
            rw [if_neg him, if_neg (by rw [hf]; decide)]
          | true =>
            refine iteT ?_
            have hx6 := (matchV K rs ss (isV (.ref p))).m s4.eb hx
            obtain ⟨a0, dx, fs, ea, h2, h3, h4⟩ := id hx6
            refine ⟨x, rfl, a0, dx, fs, ea, s6.bh _ _ h2, lookup_none (Fs := matchF rs ss (isV (.ref p))) h3 rfl, B4, x, p, rs, ss, nm ++ [i], rfl, s6.bh, hx6, a6, by omega, h100, s100, hin', fun B7 H7 s7 a7 => ⟨_, rfl, ?_⟩⟩
            have try_ : tryM (goesM rs ss r) rs ss nm i = goesM rs ss r (nm ++ [i]) := by
              unfold tryM
              rw [if_neg him, if_pos hf]
            have s67 := (s4.trans (s6.x p)).trans s7
            cases hg : goesM rs ss r (nm ++ [i]) with
            | none =>
              rw [hg] at a7
              refine iteF ?_
              dsimp only [tNext]
              exact back B7 H7 s7.eb s7.bh s67 a7 (by rw [try_, hg])
            | some L =>
              rw [hg] at a7
              have hL : goesM rs ss (r + 1) nm = some L := find_some hi hn (by rw [try_, hg])
              have := k B7 H7 s67 (by rw [hL]; exact a7)
              rw [hL] at this
              refine iteT ?_
              exact this
      · rintro σ' B2 H2 e1 e2 ⟨⟨a, rfl⟩, s2, a2, hn⟩
        have hL : goesM rs ss (r + 1) nm = none := find_none hn
        have := k B2 H2 s2 (by rw [hL]; exact a2)
        rw [hL] at this
        exact this
theorem ok_mgoes (T : TB mg) (mt : MT K mg) (m_Matching_fits : Mt P w K mg base CX0 1 (ca K "Matching") "fits" (spMFits K)) (F : FnP K "goes" "Matching.goes" s_Matching_goes f fd) (hM : Meth K (ca K "Matching") "goes" f) (hb : Binds K fd P_Matching_goes []) :
    ∀ r, FnOk P w K mg base CX0 (1 + r + 1) f fd P_Matching_goes (spMG K r)
  | 0 => mgoes_step T mt m_Matching_fits F 0 ⟨f, fd, P_Matching_goes, mt.cl, hM, fn_false, hb⟩
  | r + 1 => mgoes_step T mt m_Matching_fits F (r + 1) ⟨f, fd, P_Matching_goes, mt.cl, hM, ok_mgoes T mt m_Matching_fits F hM hb r, hb⟩
end
end TL
set_option maxHeartbeats 4000000
namespace TL
open PySem L2
theorem kot : ¬ (("one" : Str) = "other") := by decide +kernel
theorem kon : ¬ (("one" : Str) = "names") := by decide +kernel
theorem ktn : ¬ (("other" : Str) = "names") := by decide +kernel
section
variable {P : Program} {w : World} {K : PySem.W.Frag} {mg : Str → Option Value} {base : Heap} {f : Addr} {fd : FuncData}
abbrev s_Matching___init__ : Stmt := inClass (top 22) 0
abbrev N_Matching___init__ : List Str := ["self", "one", "other"]
abbrev P_Matching___init__ : List Str := ["self", "one", "other"]
theorem sc_Matching___init__ : FnScope N_Matching___init__ P_Matching___init__ (defScope s_Matching___init__) := ⟨rfl, rfl, rfl, by decide +kernel, rfl, by decide +kernel, by decide +kernel⟩
abbrev spMInit (K : PySem.W.Frag) : Sp := fun vs H Q _ => ∃ B x dx a b rs ss, vs = [.ref x, a, b] ∧ Ex B H ∧ B x = none ∧ H x = some (.ins (ca K "Matching") dx []) ∧ (tilesV K rs).p B a ∧ (tilesV K ss).p B b ∧
  ∀ B' H' fs p, StepX x B H B' H' → H' x = some (.ins (ca K "Matching") dx fs) → fs.map (·.1) = (matchF rs ss (isV (.ref p))).map (·.1) → all2 B' (fs.map (·.2)) ((matchF rs ss (isV (.ref p))).map (·.2)) → H p = none → Acc p [] B' H' → Q .non H'
theorem ok_minit (T : TB mg) (mt : MT K mg) (m_Tiles_tiles : Mt P w K mg base CX0 1 (ca K "Tiles") "tiles" (spTiles K)) (F : FnP K "__init__" "Matching.__init__" s_Matching___init__ f fd) : FnOk P w K mg base CX0 2 f fd P_Matching___init__ (spMInit K) := by
  refine F.ok sc_Matching___init__ (fun vs H Q E h => ?_) (fun cdv A outer s H vs Q E hr h => ?_)
  · obtain ⟨B, x, dx, a, b, rs, ss, rfl, _⟩ := h
    rfl
  · obtain ⟨B, x, dx, a, b, rs, ss, rfl, e, bx, hx, ha, hb, k⟩ := h
    refine ⟨_, PSs.nox (pss_cons (ps_fld (pv 0) (pe_ml0 m_Tiles_tiles hr (by omega) pass0 (pv 1)) rfl)
      (pss_cons (ps_fld (pv 0) (pe_ml0 m_Tiles_tiles hr (by omega) pass0 (pv 2)) rfl)
      (pss_one (ps_fld (pv 0) (pe_lst pa_nil) rfl)))), ?_⟩
    have tl : ∀ {t : Nat} {v : V} {rs : List Tile} {σ : L2.St} {B' : Hp}, σ[t]? = some (some v) → (tilesV K rs).p B' v → EvP (tMeth (ca K "Tiles") "tiles" (spTiles K) [] E0 (tVar t) tNil) σ B' (dp (rowsD rs)) := fun h hv => ev_meth (ev_var h hv) rfl el_nil fun y vs B6 e6 py pv => by
      have : vs = [] := by cases vs with | nil => rfl | cons _ _ => exact pv.elim
      subst this
      exact ⟨_, y, rfl, py, rfl⟩
    refine q (s_fld e (tl rfl ha) bx hx (ev_var rfl rfl) mt.cl mt.o (by decide) fun v1 B1 H1 s1 p1 b1 h1 => ?_)
    have c1 := (s1.x x).poke b1 (o := .ins (ca K "Matching") dx (putF "one" v1 []))
    refine q (s_fld c1.bh (tl rfl ((tilesV K ss).m s1.eb hb)) b1 upd_same (ev_var rfl rfl) mt.cl mt.t (Nat.le_of_ble_eq_true rfl) fun v2 B2 H2 s2 p2 b2 h2 => ?_)
    have e2 : putF "other" v2 (putF "one" v1 []) = ([("one", v1), ("other", v2)] : List (Str × V)) := by
      show (if ("one" : Str) = "other" then _ else (("one" : Str), v1) :: putF "other" v2 []) = _
      rw [if_neg kot]
      rfl
    rw [e2]
    have c2 := (c1.trans (s2.x x)).poke b2 (o := .ins (ca K "Matching") dx [("one", v1), ("other", v2)])
    dsimp only
    refine ⟨Nat.zero_le _, fun p hp => ?_⟩
    have npx : p ≠ x := fun z => by
      subst z
      rw [upd_same] at hp
      cases hp
    have hp2 : H2 p = none := by rw [upd_ne npx] at hp; exact hp
    have bp : B2 p = none := s2.bh.none hp2
    have hp0 : H p = none := by
      have h1p := s2.eh.none hp2
      rw [upd_ne npx] at h1p
      exact s1.eh.none h1p
    refine ⟨_, rfl, x, _, dx, [("one", v1), ("other", v2)], rfl, (by rw [upd_ne (Ne.symm npx)]; exact upd_same), mt.cl, mt.n, (Nat.le_of_ble_eq_true rfl), ?_⟩
    have e3 : putF "names" (V.ref p) [("one", v1), ("other", v2)] = ([("one", v1), ("other", v2), ("names", V.ref p)] : List (Str × V)) := by
      show (if ("one" : Str) = "names" then _ else (("one" : Str), v1) :: (if ("other" : Str) = "names" then _ else (("other" : Str), v2) :: putF "names" (V.ref p) [])) = _
      rw [if_neg kon, if_neg ktn]
      rfl
    rw [e3]
    refine k B2 _ [("one", v1), ("other", v2), ("names", .ref p)] p (StepX.poke ⟨c2.eb, c2.bh.poke bp, fun a u z h => ?_, c2.hid⟩ b2) upd_same rfl ⟨(dp _).m s2.eb p1, p2, rfl, True.intro⟩ hp0 ⟨bp, [], ?_, True.intro⟩
    · rw [upd_ne (fun y => by subst y; rw [hp0] at h; cases h)]
      exact c2.eh a u z h
    · rw [upd_ne npx]
      exact upd_same
abbrev s_matched : Stmt := top 23
abbrev N_matched : List Str := ["one", "other", "matching"]
abbrev P_matched : List Str := ["one", "other"]
theorem sc_matched : FnScope N_matched P_matched (defScope s_matched) := ⟨rfl, rfl, rfl, by decide +kernel, rfl, by decide +kernel, by decide +kernel⟩
def matchedD : Option (List Nat) → PyData
  | some L => natsD L
  | none => .none
abbrev spMatched (K : PySem.W.Frag) : Sp := spP fun vs B R => ∃ a b rs ss, vs = [a, b] ∧ (tilesV K rs).p B a ∧ (tilesV K ss).p B b ∧ rs.length = ss.length ∧ rs.length ≤ 12 ∧ R = dp (matchedD (goesM rs ss rs.length []))
theorem ok_matched (T : TB mg) (mt : MT K mg) (m_Tiles_many : Mt P w K mg base CX0 1 (ca K "Tiles") "many" (spMany K)) (c_Matching : Mr P w K mg base CX0 2 "Matching" (ca K "Matching") (spMInit K)) (goes : ∀ r, Mt P w K mg base CX0 (1 + r + 1) (ca K "Matching") "goes" (spMG K r))
    (F : FnP K "matched" "matched" s_matched f fd) : FnOk P w K mg base CX0 15 f fd P_matched (spMatched K) := by
  refine F.ok sc_matched (fun vs H Q E h => ?_) (fun cdv A outer s H vs Q E hr h => ?_)
  · obtain ⟨B, R, e, ⟨a, b, rs, ss, rfl, _⟩, _⟩ := h
    rfl
  · obtain ⟨B, R, e, ⟨a, b, rs, ss, rfl, ha, hb, hl, h12, rfl⟩, k⟩ := h
    have m_Matching_goes := goes rs.length
    refine ⟨_, PSs.nox (pss_cons (ps_if (pt_cmpR op_ne (pe_ml0 m_Tiles_many hr (by omega) pass0 (pv 0)) (pe_ml0 m_Tiles_many hr (by omega) pass0 (pv 1)) (nomark _)) (pss_one (ps_ret pe_non)) pss_nil)
      (pss_cons (ps_set (i := 2) sc_matched.nd rfl (Or.inl rfl) (pe_mr c_Matching hr (by omega) rfl pass0 (pa_cons (pv 0) (pa_cons (pv 1) pa_nil))))
      (pss_cons (ps_if (pt_not (pt_val (pe_ml0 m_Matching_goes hr (by omega) pass0 (pv 2)))) (pss_one (ps_ret pe_non)) pss_nil)
      (pss_one (ps_ret (kfld (K := K) rfl (pv 2) rfl)))))), ?_⟩
    have mny : ∀ {t : Nat} {v : V} {rs : List Tile} {σ : L2.St} {B' : Hp}, σ[t]? = some (some v) → (tilesV K rs).p B' v → EvP (tMeth (ca K "Tiles") "many" (spMany K) [] E0 (tVar t) tNil) σ B' (dp (.int rs.length)) := fun h hv => ev_meth (ev_var h hv) rfl el_nil fun y vs B6 e6 py pv => by
      have : vs = [] := by cases vs with | nil => rfl | cons _ _ => exact pv.elim
      subst this
      exact ⟨_, y, rfl, py, rfl⟩
    refine q_skip e ((eb_test (ev_ne (mny rfl ha) (mny rfl hb))).to (by rw [dT (by omega)]; rfl)) fun B1 H1 s1 => ?_
    -- matching = Matching(one, other)
    refine ⟨_, rfl, _, rfl, fun x dx hx hdx hne => ?_⟩
    have b1 : B1 x = none := s1.bh.none hx
    have b2 : B1 dx = none := s1.bh.none hdx
    refine ⟨B1, x, dx, a, b, rs, ss, rfl, (s1.bh.poke b2).poke b1, b1, upd_same, (tilesV K rs).m s1.eb ha, (tilesV K ss).m s1.eb hb, fun B' H' fs p sx ho k1 k2 hp0 ac => ⟨rfl, ?_⟩⟩
    obtain ⟨B2, s2, p2, e2, n2⟩ := ins_made hx hdx sx ho k1 k2
    have hpx : p ≠ x := fun z => by subst z; rw [upd_same] at hp0; cases hp0
    have hpd : p ≠ dx := fun z => by subst z; rw [upd_ne hpx, upd_same] at hp0; cases hp0
    have hp1 : H1 p = none := by rw [upd_ne hpx, upd_ne hpd] at hp0; exact hp0
    obtain ⟨q1, xs, q2, q3⟩ := ac
    have ac2 : Acc p (natP []) B2 H' := ⟨by rw [n2 p hpx]; exact q1, xs, q2, all2_m e2 q3⟩
    obtain ⟨a0, dx0, fs0, ea, h2, h3, h4⟩ := id p2
    -- if not matching.goes(): return None
    refine ⟨_, rfl, a0, dx0, fs0, ea, s2.bh _ _ h2, lookup_none (Fs := matchF rs ss (isV (.ref p))) h3 rfl, B2, _, p, rs, ss, [], rfl, s2.bh, p2, ac2, by simp, by omega, by omega, (fun t ht => by cases ht), fun B3 H3 s3 a3 => ⟨_, rfl, ?_⟩⟩
    have s13 : StepX p B H B3 H3 := ((s1.trans s2).x p).trans s3
    have full : Step B H B3 H3 := ⟨s13.eb, s13.bh, fun c o h => s13.eh c o (fun z => by subst z; rw [s1.eh.none hp1] at h; cases h) h, fun c h1 h2 => by
      by_cases z : c = p
      · subst z; exact absurd (s1.eh.none hp1) h1
      · exact s13.hid c z h1 h2⟩
    cases hg : goesM rs ss rs.length [] with
    | none =>
      rw [hg] at k
      refine iteT ?_
      exact k .non B3 H3 full .non
    | some L =>
      rw [hg] at k a3
      refine iteF ?_
      dsimp only [tNext]
      obtain ⟨B4, s4, e4, p4⟩ := a3.done full (s1.eh.none hp1)
      refine s_ret s4.bh (ev_fld (ev_var rfl ((matchV K rs ss (isV (.ref p))).m (s3.eb.trans e4) p2)) mt.cl mt.n rfl) fun v B5 H5 s5 p5 => ?_
      cases (show v = .ref p from p5)
      exact k _ B5 H5 (s4.trans s5) (nats_dp.mp ((lst _).m s5.eb p4))
end
end TL
set_option maxHeartbeats 4000000
/-! A dict whose keys are (n, (n1, n2, ..)): tracked by what is true of its one object; the keys' tuples are tracked beside. -/
namespace TL
open PySem L2
def keyL (n : Int) (l : List Int) : NestedKey := .tup [.num n, .tup (l.map .num)]
def keyD (n : Int) (l : List Int) : PyData := .tuple [.int n, .tuple (l.map .int)]
theorem nums_inj : ∀ {l m : List Int}, l.map NestedKey.num = m.map NestedKey.num → l = m
  | [], [], _ => rfl
  | [], _ :: _, h => by cases h
  | _ :: _, [], h => by cases h
  | a :: l, b :: m, h => by
    injection h with h1 h2
    injection h1 with h1
    rw [h1, nums_inj h2]
theorem keyL_inj {n m : Int} {l k : List Int} (h : keyL n l = keyL m k) : n = m ∧ l = k := by
  injection h with h
  injection h with h1 h2
  injection h1 with h1
  injection h2 with h2 _
  injection h2 with h2
  exact ⟨h1, nums_inj h2⟩
abbrev NEnt := NestedKey × Addr × V
def NPhi (P : Program) (w : World) (p : Addr) (xs : List NEnt) (h : Heap) : Prop := (p == sysModules) = false ∧ xs.length ≤ sizeLine ∧ ∃ ys : List (NestedKey × Addr × Value),
  Paired (fun (x : NEnt) (y : NestedKey × Addr × Value) => x.1 = y.1 ∧ x.2.1 = y.2.1 ∧ RelV x.2.2 y.2.2) xs ys ∧ ∃ o es ep, h.get? p = some o ∧ o.ExactDict ∧ o.data = .dict es ep ∧ es.toList = ys.map (entryOfKey (nestedKind P w)) ∧ (ys.map (·.1)).Nodup
def NDict (P : Program) (w : World) (p : Addr) (xs : List NEnt) : HO := .ext (NPhi P w p xs)
section
variable {P : Program} {w : World} {H : Hp} {h h' : Heap} {p a : Addr} {xs : List NEnt}
theorem NPhi.stay (x : NPhi P w p xs h) (k : ∀ o, h.get? p = some o → h'.get? p = some o) : NPhi P w p xs h' := by
  obtain ⟨h1, h2, ys, h3, o, es, ep, h4, r⟩ := x
  exact ⟨h1, h2, ys, h3, o, es, ep, k _ h4, r⟩
theorem ndict_ok (x : NPhi P w p xs h) : ObjOk P w H h p (NDict P w p xs) := by
  refine ⟨x, ?_, fun h1 h2 y k => y.stay k⟩
  obtain ⟨_, _, _, _, o, _, _, h4, _⟩ := x
  exact ⟨o, h4⟩
theorem ndict_at (x : HOk P w H h) (e : H p = some (NDict P w p xs)) : NPhi P w p xs h := (x p _ e).1
/-- the keys stand in the heap -/
theorem nums_all {hh : HOk P w H h} : ∀ {l : List Int} {vs : List V} {us : List Value}, DtAll H vs (l.map .int) → Vals vs us → NestedAll h (l.map .num) us
  | [], _, _, d, r => by
    cases d
    cases r
    exact .nil
  | i :: l, _, _, d, r => by
    cases d with
    | cons d1 d2 =>
      cases r with
      | cons r1 r2 =>
        cases d1
        obtain ⟨t, rfl⟩ := r1
        exact .cons (.int i t) (nums_all (hh := hh) d2 r2)
theorem depth_nums : ∀ l : List Int, NestedKey.depthAll (l.map .num) = 0
  | [] => rfl
  | a :: l => by
    show max (NestedKey.depth (.num a)) (NestedKey.depthAll (l.map .num)) = 0
    rw [depth_nums l]
    rfl
theorem tup_at {xs : List V} (hh : HOk P w H h) (e : H a = some (.tup xs)) : ∃ its : List Value, Vals xs its ∧ ∃ o n, h.get? a = some o ∧ o.cls = .type "tuple" ∧ o.data = .seq its.toArray n := by
  obtain ⟨_, its, r, o, ho, hc, n, hd⟩ := hh a _ e
  exact ⟨its, r, o, n, ho, hc, hd⟩
theorem key_is {n : Int} {l : List Int} (hh : HOk P w H h) (d : Dt H (.ref a) (keyD n l)) : (nestedKind P w).is h (keyL n l) a := by
  refine ⟨?_, ?_⟩
  · cases d with
    | tup e d =>
      cases d with
      | cons d1 d =>
        cases d with
        | cons d2 d =>
          cases d
          cases d1
          cases d2 with
          | tup e2 d2 =>
            obtain ⟨its, r, o, m, ho, hc, hd⟩ := tup_at hh e
            obtain ⟨its2, r2, o2, m2, ho2, hc2, hd2⟩ := tup_at hh e2
            refine .tup ho hc hd ?_
            rw [List.toList_toArray]
            cases r with
            | cons ra r =>
              cases r with
              | cons rb r =>
                cases r
                obtain ⟨t, rfl⟩ := ra
                cases rb
                exact .cons (.int n t) (.cons (.tup ho2 hc2 hd2 (by rw [List.toList_toArray]; exact nums_all (hh := hh) d2 r2)) .nil)
  · show NestedKey.depth (.tup [.num n, .tup (l.map .num)]) ≤ 8
    simp [NestedKey.depth, NestedKey.depthAll, depth_nums]
/-- all of its keys -/
def NKeys (H : Hp) (xs : List NEnt) : Prop := ∀ e ∈ xs, ∃ n l, e.1 = keyL n l ∧ Dt H (.ref e.2.1) (keyD n l)
theorem NKeys.m {H' : Hp} (k : NKeys H xs) (e : Ex H H') : NKeys H' xs := fun x hx => by
  obtain ⟨n, l, h1, h2⟩ := k x hx
  exact ⟨n, l, h1, Dt.m e _ _ h2⟩
theorem nphi_dict (x : NPhi P w p xs h) (hh : HOk P w H h) (k : NKeys H xs) : ∃ ys : List (NestedKey × Addr × Value), Paired (fun (x : NEnt) (y : NestedKey × Addr × Value) => x.1 = y.1 ∧ x.2.1 = y.2.1 ∧ RelV x.2.2 y.2.2) xs ys ∧ h.DictOfH (nestedKind P w) p ys := by
  obtain ⟨_, _, ys, hp, o, es, ep, h1, h2, h3, h4, h5⟩ := x
  refine ⟨ys, hp, o, es, ep, h1, h2, h3, h4, ?_, h5⟩
  have : ∀ {xs : List NEnt} {ys : List (NestedKey × Addr × Value)}, Paired (fun (x : NEnt) (y : NestedKey × Addr × Value) => x.1 = y.1 ∧ x.2.1 = y.2.1 ∧ RelV x.2.2 y.2.2) xs ys → NKeys H xs → ∀ y ∈ ys, (nestedKind P w).is h y.1 y.2.1 := by
    intro xs ys hp
    induction hp with
    | nil => intro _ y hy; cases hy
    | @cons a b l1 l2 r t ih =>
      intro k y hy
      rcases List.mem_cons.mp hy with rfl | hy
      · obtain ⟨n, l, e1, e2⟩ := k a List.mem_cons_self
        rw [← r.1, ← r.2.1, e1]
        exact key_is hh e2
      · exact ih (fun x hx => k x (List.mem_cons_of_mem _ hx)) y hy
  exact this hp k
def nval (xs : List NEnt) (k : NestedKey) : Option V := (xs.find? fun x => decide (x.1 = k)).map fun x => x.2.2
theorem nval_rel : ∀ {xs : List NEnt} {ys : List (NestedKey × Addr × Value)} (k : NestedKey), Paired (fun (x : NEnt) (y : NestedKey × Addr × Value) => x.1 = y.1 ∧ x.2.1 = y.2.1 ∧ RelV x.2.2 y.2.2) xs ys → RelO (nval xs k) ((atKey ys k).map (·.2)) := by
  intro xs ys k hp
  induction hp with
  | nil => exact True.intro
  | @cons a b l1 l2 r t ih =>
    unfold nval atKey at ih ⊢
    rw [List.find?_cons, List.find?_cons, ← r.1]
    cases z : decide (a.1 = k) with
    | true => exact r.2.2
    | false => exact ih
theorem nval_none {xs : List NEnt} {k : NestedKey} (h : nval xs k = none) : ∀ e ∈ xs, e.1 ≠ k := fun e he z => by
  unfold nval at h
  rw [Option.map_eq_none_iff, List.find?_eq_none] at h
  have := h e he
  simp [z] at this
theorem nval_some {xs : List NEnt} {k : NestedKey} {v : V} (h : nval xs k = some v) : ∃ e ∈ xs, e.1 = k ∧ e.2.2 = v := by
  unfold nval at h
  obtain ⟨e, h1, h2⟩ := Option.map_eq_some_iff.mp h
  refine ⟨e, List.mem_of_find?_eq_some h1, ?_, h2⟩
  have := List.find?_some h1
  exact of_decide_eq_true this
theorem nval_snoc {xs : List NEnt} {k : NestedKey} {a : Addr} {v : V} (h : nval xs k = none) : nval (xs ++ [(k, a, v)]) k = some v := by
  unfold nval at h ⊢
  rw [Option.map_eq_none_iff] at h
  rw [List.find?_append, h]
  simp
end
section
variable {X : Cx} {P : Program} {w : World} {o i e value : Expr} {pos pos' : Pos} {td ty tv : TE}
/-- {} -/
def tNNew (P : Program) (w : World) : TE := fun _ H Q => ∀ p, H p = none → Q (.ref p) (upd H p (NDict P w p []))
theorem pe_nnew (hP : X.prog = P) (hw : X.w = w) : PE X (.Dict [] [] pos) (tNNew P w) := by
  subst hP hw
  exact ⟨fun pins s σ H Q I h => wpAny_Dict_empty ⟨.ref s.heap.objs.size, _, I.laid (a := s.heap.objs.size) (o := NDict X.prog X.w s.heap.objs.size []) (t' := s.toks) (fun _ _ q => Heap.get?_push_of_some _ q) (Nat.le_refl _)
    (ndict_ok ⟨beq_eq_false_iff_ne.mpr (Ne.symm (Nat.ne_of_lt I.big)), Nat.zero_le _, [], .nil, _, #[], 0, Heap.get?_push_size _ rfl, ⟨rfl, rfl, rfl⟩, rfl, rfl, List.nodup_nil⟩), rfl, h _ (I.hok.fresh (Nat.le_refl _))⟩⟩
/-- key in d -/
def tNIn (P : Program) (w : World) (neg : Bool) (ty td : TE) : TE := fun σ H Q => ty σ H fun y H1 => td σ H1 fun x H2 => ∃ p xs a n l, x = .ref p ∧ y = .ref a ∧ H2 p = some (NDict P w p xs) ∧ NKeys H2 xs ∧ Dt H2 (.ref a) (keyD n l) ∧ Q (.bl (if neg then !(nval xs (keyL n l)).isSome else (nval xs (keyL n l)).isSome)) H2
theorem pc_nin (hP : X.prog = P) (hw : X.w = w) (hu : X.A.units + 64 < cLine) (hi : PE X i ty) (ho : PE X o td) : PC X .In i o (tNIn P w false ty td) := by
  subst hP hw
  refine ⟨fun pins s σ H Q I h => ?_⟩
  refine thn (hi.run pins s σ H _ I h) fun iv s1 ⟨y, H1, I1, ry, q1⟩ => thn (ho.run pins s1 σ H1 _ I1 q1) fun u s2 ⟨x, H2, I2, rx, p, xs, a, n, l, ex, ey, e, ks, kd, q2⟩ => ?_
  subst ex ey
  obtain rfl : u = Value.ref p := rx
  obtain rfl : iv = Value.ref a := ry
  have ph := ndict_at I2.hok e
  obtain ⟨ys, hp, dd⟩ := nphi_dict ph I2.hok ks
  refine wpAny_in_heap (knd := nestedKind X.prog X.w) (show X.A.units + 1 + 8 < cLine by omega) (key_is I2.hok kd) ph.1 dd ?_
  have z := (nval_rel (keyL n l) hp).isSome_eq
  rw [Option.isSome_map] at z
  exact ⟨.bl (nval xs (keyL n l)).isSome, H2, I2.tok _, congrArg Value.bool z.symm, q2⟩
theorem pc_nnotin (hP : X.prog = P) (hw : X.w = w) (hu : X.A.units + 64 < cLine) (hi : PE X i ty) (ho : PE X o td) : PC X .NotIn i o (tNIn P w true ty td) := by
  subst hP hw
  refine ⟨fun pins s σ H Q I h => ?_⟩
  refine thn (hi.run pins s σ H _ I h) fun iv s1 ⟨y, H1, I1, ry, q1⟩ => thn (ho.run pins s1 σ H1 _ I1 q1) fun u s2 ⟨x, H2, I2, rx, p, xs, a, n, l, ex, ey, e, ks, kd, q2⟩ => ?_
  subst ex ey
  obtain rfl : u = Value.ref p := rx
  obtain rfl : iv = Value.ref a := ry
  have ph := ndict_at I2.hok e
  obtain ⟨ys, hp, dd⟩ := nphi_dict ph I2.hok ks
  show wpAny _ _ (do return Value.bool (!(← contains (.ref p) (.ref a)))) _ _ _
  refine wpAny_bind (wpAny_contains_heap (knd := nestedKind X.prog X.w) (show X.A.units + 1 + 8 < cLine by omega) (key_is I2.hok kd) ph.1 dd (wpAny_pure ?_))
  have z := (nval_rel (keyL n l) hp).isSome_eq
  rw [Option.isSome_map] at z
  exact ⟨.bl (!(nval xs (keyL n l)).isSome), H2, I2.tok _, congrArg (fun b => Value.bool (!b)) z.symm, q2⟩
/-- d[key], there -/
def tNGet (P : Program) (w : World) (td ty : TE) : TE := fun σ H Q => td σ H fun x H1 => ty σ H1 fun y H2 => ∃ p xs a n l v, x = .ref p ∧ y = .ref a ∧ H2 p = some (NDict P w p xs) ∧ NKeys H2 xs ∧ Dt H2 (.ref a) (keyD n l) ∧ nval xs (keyL n l) = some v ∧ Q v H2
theorem pe_nget (hP : X.prog = P) (hw : X.w = w) (hu : X.A.units + 64 < cLine) (ho : PE X o td) (hi : PE X i ty) (hs : NoSl i) : PE X (.Subscript o i pos) (tNGet P w td ty) := by
  subst hP hw
  refine ⟨fun pins s σ H Q I h => ?_⟩
  refine subD_of PySem.F.slot_dict_getitem.lookup hs (thn (ho.run pins s σ H _ I h) fun u s1 ⟨x, H1, I1, rx, q1⟩ => thn (hi.run pins s1 σ H1 _ I1 q1) fun iv s2 ⟨y, H2, I2, ry, p, xs, a, n, l, v, ex, ey, e, ks, kd, hv, q2⟩ => ?_)
  subst ex ey
  obtain rfl : u = Value.ref p := rx
  obtain rfl : iv = Value.ref a := ry
  have ph := ndict_at I2.hok e
  obtain ⟨ys, hp, dd⟩ := nphi_dict ph I2.hok ks
  have z := nval_rel (keyL n l) hp
  rw [hv] at z
  obtain ⟨w', hw, rw'⟩ := RelO.some_of z
  obtain ⟨q, hq, hq2⟩ := Option.map_eq_some_iff.mp hw
  refine ⟨dd.typeIs, wpAny_getItem_heap (knd := nestedKind X.prog X.w) (show X.A.units + 1 + 8 < cLine by omega) (key_is I2.hok kd) dd hq ?_⟩
  rw [hq2]
  exact ⟨v, H2, I2.tok _, rw', q2⟩
/-- d[key] = v, not there before -/
def sNPut (P : Program) (w : World) (td ty tv : TE) : TS := fun D σ H => tv σ H fun v H1 => td σ H1 fun x H2 => ty σ H2 fun y H3 => ∃ p xs a n l, x = .ref p ∧ y = .ref a ∧ H3 p = some (NDict P w p xs) ∧ NKeys H3 xs ∧ Dt H3 (.ref a) (keyD n l) ∧ nval xs (keyL n l) = none ∧ xs.length < sizeLine ∧
  D.nx σ (upd H3 p (NDict P w p (xs ++ [(keyL n l, a, v)])))
theorem paired_snoc {α β : Type} {R : α → β → Prop} {a : α} {b : β} {l : List α} {m : List β} (h : Paired R l m) (r : R a b) : Paired R (l ++ [a]) (m ++ [b]) := Paired.snoc h r
theorem ps_nput (hP : X.prog = P) (hw : X.w = w) (hu : X.A.units + 64 < cLine) (ho : PE X o td) (hi : PE X i ty) (hv : PE X value tv) (hs : swapsWith value (some (.Subscript o i pos')) pos.line X.env = pure false) :
    PS X (.Assign [.Subscript o i pos'] value pos) (sNPut P w td ty tv) := by
  subst hP hw
  refine ⟨fun pins s σ H D I h => ?_⟩
  refine wpAny_Assign_Subscript (thn (hv.run pins s σ H _ I h) fun r s1 ⟨v, H1, I1, rv, q1⟩ => thn (ho.run pins s1 σ H1 _ I1 q1) fun u s2 ⟨x, H2, I2, rx, q2⟩ => thn (hi.run pins s2 σ H2 _ I2 q2) fun iv s3 ⟨y, H3, I3, ry, p, xs, a, n, l, ex, ey, e, ks, kd, hn, hz, q3⟩ => ?_) hs
  subst ex ey
  obtain rfl : u = Value.ref p := rx
  obtain rfl : iv = Value.ref a := ry
  have ph := ndict_at I3.hok e
  obtain ⟨ys, hp, dd⟩ := nphi_dict ph I3.hok ks
  have lxy := Paired.length hp
  have hat : atKey ys (keyL n l) = none := by
    have z := nval_rel (keyL n l) hp
    rw [hn] at z
    have z2 := RelO.none_of z
    cases q : atKey ys (keyL n l) with
    | none => rfl
    | some _ => rw [q] at z2; cases z2
  refine wpAny_setItem_heap (knd := nestedKind X.prog X.w) (hsz := by rw [← lxy]; exact Nat.le_of_lt hz) (show X.A.units + 1 + 8 < cLine by omega) (key_is I3.hok kd) dd fun h' dd' hs' => ?_
  rw [storedH_new hat] at dd'
  obtain ⟨ob, es, ep, h1, h2, h3, h4, _, h5⟩ := dd'
  refine ⟨σ, _, d_write I3 (by rw [e]; exact True.intro) hs' ⟨ob, h1⟩ (ndict_ok ⟨ph.1, ?_, _, paired_snoc (a := (keyL n l, a, v)) (b := (keyL n l, a, r)) hp ⟨rfl, rfl, rv⟩, ob, es, ep, h1, h2, h3, h4, h5⟩), q3⟩
  rw [List.length_append]
  exact hz
end
end TL
set_option maxHeartbeats 4000000
/-! Several hidden objects; looks at them; a def read off a class; dict copies. -/
namespace TL
open PySem L2
section
variable {K : PySem.W.Frag} {σ : L2.St} {B B1 H : Hp} {ta tb te tx tl td ty : TE} {t u : L2.TT} {P Pa Pb : VP}
/-- as Step, but the objects in S may change -/
structure StepS (S : Addr → Prop) (B H B' H' : Hp) : Prop where
  eb : Ex B B'
  bh : Ex B' H'
  eh : ∀ a o, ¬ S a → H a = some o → H' a = some o
  hid : ∀ a, ¬ S a → H a ≠ none → B a = none → B' a = none
theorem Step.s {B H B' H' : Hp} (s : Step B H B' H') (S : Addr → Prop) : StepS S B H B' H' := ⟨s.eb, s.bh, fun a o _ h => s.eh a o h, fun a _ => s.hid a⟩
theorem StepS.refl {S : Addr → Prop} (e : Ex B H) : StepS S B H B H := (Step.refl e).s S
theorem StepS.trans {S : Addr → Prop} {B H B1 H1 B2 H2 : Hp} (s : StepS S B H B1 H1) (t : StepS S B1 H1 B2 H2) : StepS S B H B2 H2 :=
  ⟨s.eb.trans t.eb, t.bh, fun a o z h => t.eh a o z (s.eh a o z h), fun a z h1 h2 => t.hid a z (by
    cases q : H a with
    | none => exact absurd q h1
    | some o =>
      rw [s.eh a o z q]
      exact fun z => by cases z) (s.hid a z h1 h2)⟩
theorem StepS.poke {S : Addr → Prop} {x : Addr} {B H B' H' : Hp} {o : HO} (s : StepS S B H B' H') (hx : S x) (h : B' x = none) : StepS S B H B' (upd H' x o) :=
  ⟨s.eb, s.bh.poke h, fun a u z e => by
    rw [upd_ne (fun y => z (by rw [y]; exact hx))]
    exact s.eh a u z e, s.hid⟩
theorem StepS.ofApp {S : Addr → Prop} {p : Addr} {B H B1 H1 B2 H2 H3 : Hp} (hp : S p) (s : StepS S B H B1 H1) (t : Step B1 H1 B2 H2) (h : ∃ o, H3 = upd H2 p o) (e : Ex B2 H3) : StepS S B H B2 H3 := by
  obtain ⟨o, rfl⟩ := h
  have := s.trans (t.s S)
  exact ⟨this.eb, e, fun a u z h => by rw [upd_ne (fun y => z (by rw [y]; exact hp))]; exact this.eh a u z h, this.hid⟩
/-- all in S was not there at the start -/
theorem StepS.full {S : Addr → Prop} {B H B' H' : Hp} (s : StepS S B H B' H') (h0 : ∀ a, S a → H a = none) : Step B H B' H' :=
  ⟨s.eb, s.bh, fun a o h => s.eh a o (fun z => by rw [h0 a z] at h; cases h) h, fun a h1 h2 => s.hid a (fun z => h1 (h0 a z)) h1 h2⟩
theorem ex_show {p : Addr} {o : HO} (e : Ex B H) (hp : H p = some o) : Ex (upd B p o) H := fun a u ha => by
  by_cases z : a = p
  · subst z
    rw [upd_same] at ha
    rw [hp]
    exact ha
  · rw [upd_ne z] at ha
    exact e a u ha
/-- what is hidden at p is looked at; the value is flat -/
theorem peekO {p : Addr} {o : HO} {v : V} (e : Ex B H) (bp : B p = none) (hp : H p = some o) (h : EvP te σ (upd B p o) (isV v)) {Q : VK} (q : ∀ H', Step B H B H' → H' p = some o → Q v H') : te σ H Q := by
  refine h H (ex_show e hp) _ fun v' B' H' s p' => ?_
  cases (show v' = v from p')
  exact q H' ⟨Ex.refl B, e.trans s.eh, s.eh, fun _ _ h => h⟩ (s.eh _ _ hp)
theorem peekOB {p : Addr} {o : HO} {b : Bool} (e : Ex B H) (bp : B p = none) (hp : H p = some o) (h : EvB t σ (upd B p o) b) {Q : Bool → Hp → Prop} (q : ∀ H', Step B H B H' → H' p = some o → Q b H') : t σ H Q := by
  refine h H (ex_show e hp) _ fun B' H' s => ?_
  exact q H' ⟨Ex.refl B, e.trans s.eh, s.eh, fun _ _ h => h⟩ (s.eh _ _ hp)
mutual
/-- no list in it -/
def noL : PyData → Bool
  | .list _ => false
  | .tuple ds => noLs ds
  | .dict _ => false
  | _ => true
def noLs : List PyData → Bool
  | [] => true
  | d :: ds => noL d && noLs ds
end
def hideP (B : Hp) (p : Addr) : Hp := fun a => if a = p then none else B a
mutual
theorem Dt.hide {p : Addr} {xs : List V} {B : Hp} (hp : B p = some (.lst xs)) : ∀ (d : PyData) (v : V), noL d = true → Dt B v d → Dt (hideP B p) v d
  | .none, _, _, h => by cases h; exact .non
  | .bool b, _, _, h => by cases h; exact .bl b
  | .int i, _, _, h => by cases h; exact .int i
  | .str x, _, _, h => by cases h; exact .str x
  | .list ds, _, n, h => by cases n
  | .tuple ds, _, n, h => by
    cases h with
    | @tup a ys _ h1 h2 =>
      refine .tup ?_ (Dt.hides hp ds _ n h2)
      unfold hideP
      rw [if_neg (fun z => by subst z; rw [hp] at h1; cases h1)]
      exact h1
  | .dict _, _, _, h => by cases h
theorem Dt.hides {p : Addr} {xs : List V} {B : Hp} (hp : B p = some (.lst xs)) : ∀ (ds : List PyData) (vs : List V), noLs ds = true → DtAll B vs ds → DtAll (hideP B p) vs ds
  | [], _, _, h => by cases h; exact .nil
  | d :: ds, _, n, h => by
    cases h with
    | cons h1 h2 =>
      rw [noLs, Bool.and_eq_true] at n
      exact .cons (Dt.hide hp d _ n.1 h1) (Dt.hides hp ds _ n.2 h2)
end
/-- what is hidden at p is looked at; the value has no list in it -/
theorem peekT {p : Addr} {xs : List V} {d : PyData} (e : Ex B H) (bp : B p = none) (hp : H p = some (.lst xs)) (nl : noL d = true) (h : EvP te σ (upd B p (.lst xs)) (dp d)) {Q : VK} (q : ∀ v B' H', Step B H B' H' → H' p = some (.lst xs) → Dt B' v d → Q v H') : te σ H Q := by
  refine h H (ex_show e hp) _ fun v B' H' s p' => ?_
  have hb : B' p = some (.lst xs) := s.eb _ _ upd_same
  refine q v (hideP B' p) H' ⟨fun a u ha => ?_, fun a u ha => ?_, s.eh, fun a h1 h2 => ?_⟩ (s.eh _ _ hp) (Dt.hide hb d v nl p')
  · unfold hideP
    have z : a ≠ p := fun z => by subst z; rw [bp] at ha; cases ha
    rw [if_neg z]
    exact s.eb _ _ (by rw [upd_ne z]; exact ha)
  · unfold hideP at ha
    split at ha
    · cases ha
    · exact s.bh _ _ ha
  · unfold hideP
    split
    · rfl
    · rename_i z
      exact s.hid a h1 (by rw [upd_ne z]; exact h2)
/-! ### the nested dict -/
variable {P : Program} {w : World}
def ndV (P : Program) (w : World) (xs : List NEnt) : VP := ⟨fun B v => ∃ p, v = .ref p ∧ B p = some (NDict P w p xs) ∧ NKeys B xs, fun e ⟨p, h1, h2, h3⟩ => ⟨p, h1, e _ _ h2, h3.m e⟩⟩
structure Nd (P : Program) (w : World) (b : Addr) (xs : List NEnt) (B H : Hp) : Prop where
  hb : B b = none
  h : H b = some (NDict P w b xs)
  k : NKeys B xs
theorem Nd.step {b : Addr} {xs : List NEnt} {B H B' H' : Hp} (n : Nd P w b xs B H) (s : Step B H B' H') : Nd P w b xs B' H' := by
  obtain ⟨h4, h5⟩ := s.hide n.hb n.h
  exact ⟨h4, h5, n.k.m s.eb⟩
theorem Nd.shown {b : Addr} {xs : List NEnt} {B H : Hp} (n : Nd P w b xs B H) : (ndV P w xs).p (upd B b (NDict P w b xs)) (.ref b) := ⟨b, rfl, upd_same, n.k.m (Ex.new n.hb)⟩
theorem Acc.shown {p : Addr} {Ps : List VP} {B H : Hp} {xs : List V} (a : all2 B xs Ps) (b : B p = none) : (lst Ps).p (upd B p (.lst xs)) (.ref p) := ⟨p, xs, rfl, upd_same, all2_m (Ex.new b) a⟩
theorem eb_nin {n : Int} {l : List Int} {xs : List NEnt} (hy : EvP ty σ B (dp (keyD n l))) (hd : EvP td σ B (ndV P w xs)) : EvB (tB (tNIn P w false ty td)) σ B (nval xs (keyL n l)).isSome := fun H e Q q =>
  hy H e _ fun y B1 H1 s1 p1 => hd.mono s1.eb H1 s1.bh _ fun x B2 H2 s2 p2 => by
    obtain ⟨p, rfl, h2, h3⟩ := p2
    have p1' := (dp _).m s2.eb p1
    cases hy' : y with
    | ref a =>
      subst hy'
      exact ⟨p, xs, a, n, l, rfl, rfl, s2.bh _ _ h2, h3.m s2.bh, Dt.m s2.bh _ _ p1', _, rfl, q B2 H2 (s1.trans s2)⟩
    | _ => subst hy'; exact nomatch p1'
theorem eb_nnin {n : Int} {l : List Int} {xs : List NEnt} (hy : EvP ty σ B (dp (keyD n l))) (hd : EvP td σ B (ndV P w xs)) : EvB (tB (tNIn P w true ty td)) σ B (!(nval xs (keyL n l)).isSome) := fun H e Q q =>
  hy H e _ fun y B1 H1 s1 p1 => hd.mono s1.eb H1 s1.bh _ fun x B2 H2 s2 p2 => by
    obtain ⟨p, rfl, h2, h3⟩ := p2
    have p1' := (dp _).m s2.eb p1
    cases hy' : y with
    | ref a =>
      subst hy'
      exact ⟨p, xs, a, n, l, rfl, rfl, s2.bh _ _ h2, h3.m s2.bh, Dt.m s2.bh _ _ p1', _, rfl, q B2 H2 (s1.trans s2)⟩
    | _ => subst hy'; exact nomatch p1'
theorem ev_nget {n : Int} {l : List Int} {xs : List NEnt} {v : V} (hd : EvP td σ B (ndV P w xs)) (hy : EvP ty σ B (dp (keyD n l))) (hv : nval xs (keyL n l) = some v) : EvP (tNGet P w td ty) σ B (isV v) := fun H e Q q =>
  hd H e _ fun x B1 H1 s1 p1 => hy.mono s1.eb H1 s1.bh _ fun y B2 H2 s2 p2 => by
    obtain ⟨p, rfl, h2, h3⟩ := (ndV P w xs).m s2.eb p1
    cases hy' : y with
    | ref a =>
      subst hy'
      exact ⟨p, xs, a, n, l, v, rfl, rfl, s2.bh _ _ h2, h3.m s2.bh, Dt.m s2.bh _ _ p2, hv, q v B2 H2 (s1.trans s2) rfl⟩
    | _ => subst hy'; exact nomatch p2
/-- d[key] = v -/
theorem s_nput {D : Ends} {b : Addr} {n : Int} {l : List Int} {xs : List NEnt} {v : V} {tv : TE} (e : Ex B H) (nd : Nd P w b xs B H) (hv : EvP tv σ B (isV v)) (hd : EvP td σ B (isV (.ref b))) (hy : EvP ty σ B (dp (keyD n l))) (hn : nval xs (keyL n l) = none) (hz : xs.length ≤ 16000000)
    (k : ∀ a B' H1, Step B H B' H1 → Nd P w b (xs ++ [(keyL n l, a, v)]) B' (upd H1 b (NDict P w b (xs ++ [(keyL n l, a, v)]))) → D.nx σ (upd H1 b (NDict P w b (xs ++ [(keyL n l, a, v)])))) : sNPut P w td ty tv D σ H :=
  hv H e _ fun v' B1 H1 s1 p1 => by
    cases (show v' = v from p1)
    refine hd.mono s1.eb H1 s1.bh _ fun x B2 H2 s2 p2 => ?_
    cases (show x = .ref b from p2)
    have s12 := s1.trans s2
    refine hy.mono s12.eb H2 s12.bh _ fun y B3 H3 s3 p3 => ?_
    have s13 := s12.trans s3
    have n3 := nd.step s13
    cases hy' : y with
    | ref a =>
      subst hy'
      refine ⟨b, xs, a, n, l, rfl, rfl, n3.h, n3.k.m s13.bh, Dt.m s13.bh _ _ p3, hn, Nat.lt_of_le_of_lt hz (by decide), k a B3 H3 s13 ⟨n3.hb, upd_same, fun e he => ?_⟩⟩
      rcases List.mem_append.mp he with h | h
      · exact n3.k e h
      · cases List.mem_singleton.mp h
        exact ⟨n, l, rfl, p3⟩
    | _ => subst hy'; exact nomatch p3
/-! ### an empty dict whose keys are tuples -/
def edT : VP := ⟨fun B v => ∃ a, v = .ref a ∧ B a = some (.dT []), fun e ⟨a, h1, h2⟩ => ⟨a, h1, e _ _ h2⟩⟩
theorem ev_edT : EvP tDNewT σ B edT := fun H e Q q p hp => q _ _ _ (Step.new e hp) ⟨p, rfl, upd_same⟩
theorem ev_edGet {l : List Int} (hd : EvP td σ B edT) (hy : EvP ty σ B (dp (.tuple (l.map .int)))) {P2 : VP} (hx : EvP tx σ B P2) : EvP (tDGet2 td ty tx) σ B P2 := fun H e Q q =>
  hd H e _ fun x B1 H1 s1 p1 => by
    obtain ⟨a, rfl, ha⟩ := id p1
    refine ⟨a, rfl, .inr ⟨[], .inl (s1.bh _ _ ha)⟩, hy.mono s1.eb H1 s1.bh _ fun y B2 H2 s2 p2 => ?_⟩
    have s12 := s1.trans s2
    refine hx.mono s12.eb H2 s12.bh _ fun z B3 H3 s3 p3 => ?_
    cases hy' : y with
    | ref b =>
      subst hy'
      obtain ⟨_, ys, hb, h2, h3⟩ := (tup_dp (ds := l.map .int)).mpr p2
      cases hb
      have h4 := all2_ints (l := l) (by rw [List.map_map] at h3; exact h3)
      subst h4
      have g : DGet H3 a (.ref b) (valV ([] : List (List Key × V)) (l.map Sum.inl)) := DGet.t (s3.bh _ _ (s3.eb _ _ (s2.eb _ _ ha))) (by
        rw [List.map_map]
        exact s3.bh _ _ (s3.eb _ _ h2))
      exact ⟨_, g, q z B3 H3 (s12.trans s3) p3⟩
    | _ => subst hy'; exact nomatch p2
end
end TL
set_option maxHeartbeats 4000000
/-! class Laying: fits, __init__ -/
namespace TL
open PySem L2
section
variable {X : Cx} {CX : CXT} {j k : Nat} {C : Addr} {x m : Str} {sp : Sp} {E : XK} {p pos apos : Pos} {e : Expr} {es : List Expr} {t : TA}
/-- a def of the class x, read off the class -/
structure Un (P : Program) (w : World) (K : PySem.W.Frag) (mg : Str → Option Value) (base : Heap) (CX : CXT) (k : Nat) (x : Str) (C : Addr) (m : Str) (sp : Sp) : Prop where
  ex : ∃ (f : Addr) (fd : FuncData) (ps : List Str), mg x = some (.ref C) ∧ ClX.CRead K C (.type "type") ∧ PySem.W.findCls K (.ref C) (.type "type") m = some (.val (.ref f)) ∧ PySem.W.keepIn K (.ref f) = true ∧ FnOk P w K mg base CX k f fd ps sp ∧ Binds K fd ps []
theorem pe_un {pl : Sem Bool} (c : Un X.prog X.w X.K X.mg X.base CX k x C m sp) (hr : Room j X.A) (hk : k ≤ j) (hg : Gl X x) (hx : Passes CX X E) (ha : PA X (e :: es) t) (hd : (x == ("__debug__" : Str)) = false := by decide)
    (hst : starEach (e :: es) X.env = (false, eval e X.env) :: starEach es X.env := by rfl) (hpl : (backTo pos (starEach es X.env)).any (·.1) = false := by rfl)
    (ht : eval (.Call (.Attribute (.Name x p) m apos) (e :: es) [] pos) X.env = (do
      let ov ← eval (.Name x p) X.env
      standAt apos.atName
      let (f, first) ← holding [ov] (getMethod ov m pl)
      callWith pos f first (backTo pos (starEach (e :: es) X.env)) (backToKw pos (keywordEach [] X.env))) := by rfl) :
    PE X (.Call (.Attribute (.Name x p) m apos) (e :: es) [] pos) (tCall sp [] E t) := by
  obtain ⟨f, fd, ps, hm, cr, at_, kp, F, b⟩ := c.ex
  refine ⟨fun pins s σ H Q I h => ?_⟩
  refine PySem.W.methodCall_KW (pl := pl) (ld_glob I hg hm ?_ hd) ht
  refine PySem.W.method_cls I.kIn cr.ga (PySem.W.cls_value I.kIn cr.rd at_ rfl ?_)
  refine PySem.W.callWith_K (first := []) (h₀ := X.base) I.ok.mod.kin kp (thn (ha.run pos pins _ σ H _ (I.tok _) h) fun us s2 ⟨vs, H2, I2, r, q2⟩ => ⟨I2.kIn, ?_⟩) hst hpl
  exact run_fn (us := us) (vs := vs) F (hr.mono hk) b .nil hx I2 r q2
end
/-! ### plain -/
def fitsL (rs : List Tile) (row : List Nat) (t : Nat) : Bool := match row.getLast? with
  | none => true
  | some a => decide ((gt rs a).e = (gt rs t).w)
def tryL (go : List Nat → Option (List Nat)) (rs : List Tile) (row : List Nat) (t : Nat) : Option (List Nat) := if fitsL rs row t = true then go (row ++ [t]) else none
def goesL (rs : List Tile) : Nat → List Nat → Option (List Nat)
  | 0, row => some row
  | r + 1, row => (List.range rs.length).findSome? (tryL (goesL rs r) rs row)
/-- what the top has left of Laying, or of Filling -/
structure LT (K : PySem.W.Frag) (C : Addr) : Prop where
  cl : Cls K C
  kit : NoAttr K C "kit"
  high : NoAttr K C "high"
  wide : NoAttr K C "wide"
  fixed : NoAttr K C "fixed"
  row : NoAttr K C "row"
  bad : NoAttr K C "bad"
abbrev layF (K : PySem.W.Frag) (rs : List Tile) (wide : Nat) (R D : VP) (more : List (Str × VP)) : List (Str × VP) := (("kit" : Str), tilesV K rs) :: (("high" : Str), dp (.int 1)) :: (("wide" : Str), dp (.int (wide : Nat))) :: (("fixed" : Str), edT) :: (("row" : Str), R) :: (("bad" : Str), D) :: more
abbrev layV (K : PySem.W.Frag) (C : Addr) (rs : List Tile) (wide : Nat) (R D : VP) (more : List (Str × VP)) : VP := ins C (layF K rs wide R D more)
section
variable {P : Program} {w : World} {K : PySem.W.Frag} {mg : Str → Option Value} {base : Heap} {f : Addr} {fd : FuncData}
theorem layV_row {C : Addr} {rs : List Tile} {wide : Nat} {D R : VP} {more : List (Str × VP)} {p : Addr} {B : Hp} {x : V} (h : (layV K C rs wide (isV (.ref p)) D more).p B x) (hl : R.p B (.ref p)) : (layV K C rs wide R D more).p B x := by
  obtain ⟨a, dx, fs, h1, h2, h3, h4⟩ := h
  refine ⟨a, dx, fs, h1, h2, h3, ?_⟩
  match fs, h3, h4 with
  | (_, v1) :: (_, v2) :: (_, v3) :: (_, v4) :: (_, v5) :: (_, v6) :: fs, _, ⟨q1, q2, q3, q4, q5, q6, q7⟩ =>
    cases (show v5 = .ref p from q5)
    exact ⟨q1, q2, q3, q4, hl, q6, q7⟩
theorem layV_bad {C : Addr} {rs : List Tile} {wide : Nat} {D R : VP} {more : List (Str × VP)} {p : Addr} {B : Hp} {x : V} (h : (layV K C rs wide R (isV (.ref p)) more).p B x) (hl : D.p B (.ref p)) : (layV K C rs wide R D more).p B x := by
  obtain ⟨a, dx, fs, h1, h2, h3, h4⟩ := h
  refine ⟨a, dx, fs, h1, h2, h3, ?_⟩
  match fs, h3, h4 with
  | (_, v1) :: (_, v2) :: (_, v3) :: (_, v4) :: (_, v5) :: (_, v6) :: fs, _, ⟨q1, q2, q3, q4, q5, q6, q7⟩ =>
    cases (show v6 = .ref p from q6)
    exact ⟨q1, q2, q3, q4, q5, hl, q7⟩
abbrev s_Laying_fits : Stmt := inClass (top 25) 1
abbrev N_Laying_fits : List Str := ["self", "tile", "place", "spot"]
abbrev P_Laying_fits : List Str := ["self", "tile"]
theorem sc_Laying_fits : FnScope N_Laying_fits P_Laying_fits (defScope s_Laying_fits) := ⟨rfl, rfl, rfl, by decide +kernel, rfl, by decide +kernel, by decide +kernel⟩
abbrev spLFits (K : PySem.W.Frag) : Sp := spP fun vs B R => ∃ C x rs wide row t D more, LT K C ∧ vs = [x, .int (t : Nat)] ∧ (layV K C rs wide (lst (natP row)) D more).p B x ∧ row.length < wide ∧ wide ≤ 12 ∧ (∀ a ∈ row, a < rs.length) ∧ t < rs.length ∧ R = dp (.bool (fitsL rs row t))
theorem ok_lfits (T : TB mg) (m_Tiles_is_beside : Mt P w K mg base CX0 1 (ca K "Tiles") "is_beside" (spBeside K)) (m_Tiles_is_below : Mt P w K mg base CX0 1 (ca K "Tiles") "is_below" (spBelow K)) (F : FnP K "fits" "Laying.fits" s_Laying_fits f fd) : FnOk P w K mg base CX0 2 f fd P_Laying_fits (spLFits K) := by
  refine F.ok sc_Laying_fits (fun vs H Q E h => ?_) (fun cdv A outer s H vs Q E hr h => ?_)
  · obtain ⟨B, R, e, ⟨C, x, rs, wide, row, t, D, more, _, rfl, _⟩, _⟩ := h
    rfl
  · obtain ⟨B, R, e, ⟨C, x, rs, wide, row, t, D, more, lt, rfl, hx, hw, h12, hin, ht, rfl⟩, k⟩ := h
    have hu := hu_of hr
    refine ⟨_, PSs.nox (pss_cons (ps_set (i := 2) sc_Laying_fits.nd rfl (Or.inl rfl) (pe_callB (kcall_len (K := K) rfl) (by rfl) T.len PySem.boot_len (pa_cons (kfld (K := K) rfl (pv 0) rfl) pa_nil)))
      (pss_cons (ps_if (PW.pt (pw_and (pt_cmpR op_gt (pe_op op_mod (pv 2) (kfld (K := K) rfl (pv 0) rfl)) pe_int (nomark _)) (pw_and1 (pt_not (pt_val (pe_ml m_Tiles_is_beside hr (by omega) pass0 (kfld (K := K) rfl (pv 0) rfl) (pa_cons (pe_ix (kix_list (K := K) rfl) (kfld (K := K) rfl (pv 0) rfl) (pe_op op_sub (pv 2) pe_int) (fun _ _ => rfl)) (pa_cons (pv 1) pa_nil)))))))) (pss_one (ps_ret pe_bl)) pss_nil)
      (pss_cons (ps_if (PW.pt (pw_and (pt_cmpR op_ge (pv 2) (kfld (K := K) rfl (pv 0) rfl) (nomark _)) (pw_and1 (pt_not (pt_val (pe_ml m_Tiles_is_below hr (by omega) pass0 (kfld (K := K) rfl (pv 0) rfl) (pa_cons (pe_ix (kix_list (K := K) rfl) (kfld (K := K) rfl (pv 0) rfl) (pe_op op_sub (pv 2) (kfld (K := K) rfl (pv 0) rfl)) (fun _ _ => rfl)) (pa_cons (pv 1) pa_nil)))))))) (pss_one (ps_ret pe_bl)) pss_nil)
      (pss_cons (ps_set (i := 3) sc_Laying_fits.nd rfl (Or.inl rfl) (pe_tup (pa_cons (pe_op op_fdiv (pv 2) (kfld (K := K) rfl (pv 0) rfl)) (pa_cons (pe_op op_mod (pv 2) (kfld (K := K) rfl (pv 0) rfl)) pa_nil))))
      (pss_one (ps_ret (pe_cmpR op_eq (pe_dget2 hu (kfld (K := K) rfl (pv 0) rfl) (pv 3) (pv 1) ⟨rfl, rfl, rfl, rfl⟩) (pv 1) (nomark _)))))))), ?_⟩
    have self : ∀ {σ : L2.St} {B' : Hp}, σ[0]? = some (some x) → Ex B B' → EvP (tVar 0) σ B' (layV K C rs wide (lst (natP row)) D more) := fun h e => ev_var h ((layV K C rs wide (lst (natP row)) D more).m e hx)
    have rowE : ∀ {σ : L2.St} {B' : Hp}, σ[0]? = some (some x) → Ex B B' → EvP (tFld K (tVar 0) "row") σ B' (lst (natP row)) := fun h e => ev_fld (self h e) lt.cl lt.row rfl
    have wideE : ∀ {σ : L2.St} {B' : Hp}, σ[0]? = some (some x) → Ex B B' → EvP (tFld K (tVar 0) "wide") σ B' (dp (.int (wide : Nat))) := fun h e => ev_fld (self h e) lt.cl lt.wide rfl
    refine q_asg e ((ev_lenL (rowE rfl (Ex.refl _))).to (by rw [List.length_map])) fun vp B1 H1 s1 p1 => ?_
    cases dp_int.mp p1
    have pm : ((row.length : Nat) : Int) % (wide : Int) = (row.length : Nat) := Int.emod_eq_of_lt (by omega) (by omega)
    have pd : ((row.length : Nat) : Int) / (wide : Int) = 0 := Int.ediv_eq_zero_of_lt (by omega) (by omega)
    refine q_when (b := !(fitsL rs row t)) s1.bh ((eb_and (a := decide (0 < row.length)) (b := !(fitsL rs row t)) ((eb_test (ev_gt (ev_mod (ev_var rfl (.int _)) (wideE rfl s1.eb) (by omega)) ev_int)).to (by rw [pm]; simp)) fun hpos => eb_not (eb_B ?_)).to ?_) (fun hf B2 H2 s2 => ?_) fun hf B2 H2 s2 => ?_
    · have hpos' : 0 < row.length := of_decide_eq_true hpos
      obtain ⟨a, ha⟩ := lt_get (l := row) (i := row.length - 1) (by omega)
      have hla : row.getLast? = some a := by rw [List.getLast?_eq_getElem?]; exact ha
      have fa : fitsL rs row t = decide ((gt rs a).e = (gt rs t).w) := by unfold fitsL; rw [hla]
      rw [fa]
      refine ev_meth (ev_fld (self rfl s1.eb) lt.cl lt.kit rfl) rfl (el_cons (ev_ixL (P := dp (.int (a : Nat))) (rowE rfl s1.eb) ((ev_sub (ev_var rfl (.int _)) ev_int).to (Pa := dp (.int ((row.length - 1 : Nat) : Int))) (by rw [show ((row.length : Nat) : Int) - 1 = ((row.length - 1 : Nat) : Int) by omega])) (atI_nat (by rw [List.getElem?_map, ha]; rfl))) (el_cons (ev_var rfl (P := dp (.int (t : Nat))) (.int _)) el_nil)) fun y vs B6 e6 py pv => ?_
      obtain ⟨u1, u2, rfl, q1, q2⟩ := all2_2 pv
      cases dp_int.mp q1
      cases dp_int.mp q2
      exact ⟨rs, y, a, t, _, _, rfl, py, of_gt (hin a (List.mem_of_getElem? ha)), of_gt ht, rfl⟩
    · cases hl : row.getLast? with
      | none =>
        have : row = [] := List.getLast?_eq_none_iff.mp hl
        subst this
        rfl
      | some a =>
        have : 0 < row.length := List.length_pos_iff.mpr fun z => by subst z; cases hl
        rw [dT this, Bool.true_and]
    · refine s_ret s2.bh ev_bl fun v B3 H3 s3 p3 => ?_
      refine k v B3 H3 ((s1.trans s2).trans s3) ?_
      rw [show fitsL rs row t = false by cases z : fitsL rs row t with
        | false => rfl
        | true => rw [z] at hf; cases hf]
      exact p3
    · have s12 := s1.trans s2
      refine q_skip s2.bh ((eb_and (a := false) (b := false) ((eb_test (ev_ge (ev_var rfl (.int _)) (wideE rfl s12.eb))).to (by rw [dF (by omega)])) fun z => by cases z).to rfl) fun B3 H3 s3 => ?_
      have s13 := s12.trans s3
      refine q_asg s3.bh (EvP.tupD (ds := [.int ((row.length : Nat) / (wide : Int)), .int ((row.length : Nat) % (wide : Int))]) (ev_tup (el_cons (ev_fdiv (ev_var rfl (.int _)) (wideE rfl s13.eb) ⟨by omega, by omega⟩) (el_cons (ev_mod (ev_var rfl (.int _)) (wideE rfl s13.eb) (by omega)) el_nil)) (Nat.le_of_ble_eq_true rfl))) fun vs B4 H4 s4 p4 => ?_
      have s14 := s13.trans s4
      refine s_ret s4.bh (ev_eq (ev_edGet (l := [(row.length : Nat) / (wide : Int), (row.length : Nat) % (wide : Int)]) (ev_fld (self rfl s14.eb) lt.cl lt.fixed rfl) (ev_var rfl p4) (ev_var rfl (P := dp (.int (t : Nat))) (.int _))) (ev_var rfl (P := dp (.int (t : Nat))) (.int _))) fun v B5 H5 s5 p5 => ?_
      refine k v B5 H5 (s14.trans s5) ?_
      rw [show fitsL rs row t = true by cases z : fitsL rs row t with
        | true => rfl
        | false => rw [z] at hf; cases hf]
      rw [dT rfl] at p5
      exact p5
end
end TL
set_option maxHeartbeats 4000000
/-! Laying.__init__, Filling.__init__ -/
namespace TL
open PySem L2
theorem putF_new {f : Str} {v : V} : ∀ {fs : List (Str × V)}, fs.lookup f = none → putF f v fs = fs ++ [(f, v)]
  | [], _ => rfl
  | (k, u) :: fs, h => by
    rw [List.lookup_cons] at h
    cases q : (f == k) with
    | true => rw [q] at h; cases h
    | false =>
      rw [q] at h
      show (if k = f then _ else (k, u) :: putF f v fs) = _
      rw [if_neg (fun z => by subst z; simp at q), putF_new h]
      rfl
section
variable {K : PySem.W.Frag} {σ : L2.St} {B Bs Hs H : Hp} {ta te : TE} {P : VP} {D : Ends} {tz : TS} {P0 : Program} {w : World}
theorem s_fldX {x C dx : Addr} {fs : List (Str × V)} {f : Str} (c : StepX x Bs Hs B H) (bx : B x = none) (ho : H x = some (.ins C dx fs)) (hv : EvP te σ B P) (ha : EvP ta σ B (isV (.ref x))) (cl : Cls K C) (n : NoAttr K C f) (hl : fs.length < 1000) (hn : fs.lookup f = none)
    (k : ∀ v B' H', StepX x Bs Hs B' H' → Ex B B' → P.p B' v → B' x = none → H' x = some (.ins C dx (fs ++ [(f, v)])) → D.nx σ H') : sFld K ta te f D σ H :=
  s_fld c.bh hv bx ho ha cl n hl fun v B' H' s p b h => by
    rw [putF_new hn]
    exact k v B' _ ((c.trans (s.x x)).poke b) s.eb p b upd_same
theorem s_fldL {x C dx : Addr} {fs : List (Str × V)} {f : Str} (c : StepX x Bs Hs B H) (bx : B x = none) (ho : H x = some (.ins C dx fs)) (ha : σ[0]? = some (some (.ref x))) (cl : Cls K C) (n : NoAttr K C f) (hl : fs.length < 1000) (hn : fs.lookup f = none)
    (k : ∀ p H', Hs p = none → H p = none → p ≠ x → StepX x Bs Hs B H' → Acc p [] B H' → (∀ a, a ≠ x → a ≠ p → H' a = H a) → H' x = some (.ins C dx (fs ++ [(f, .ref p)])) → D.nx σ H') : sFld K (tVar 0) (tLst tNil) f D σ H := by
  refine ⟨Nat.zero_le _, fun p hp => ?_⟩
  have npx : p ≠ x := fun z => by subst z; rw [ho] at hp; cases hp
  have bp : B p = none := c.bh.none hp
  have hp0 : Hs p = none := by
    cases q : Hs p with
    | none => rfl
    | some o => rw [c.eh p o npx q] at hp; cases hp
  refine ⟨_, ha, x, C, dx, fs, rfl, by rw [upd_ne (Ne.symm npx)]; exact ho, cl, n, hl, ?_⟩
  rw [putF_new hn]
  refine k p _ hp0 hp npx (StepX.poke ⟨c.eb, c.bh.poke bp, fun a u z h => ?_, c.hid⟩ bx) ⟨bp, [], by rw [upd_ne npx, upd_same], True.intro⟩ (fun a z1 z2 => by rw [upd_ne z1, upd_ne z2]) upd_same
  rw [upd_ne (fun y => by subst y; rw [hp0] at h; cases h)]
  exact c.eh a u z h
theorem s_fldD {x C dx : Addr} {fs : List (Str × V)} {f : Str} (c : StepX x Bs Hs B H) (bx : B x = none) (ho : H x = some (.ins C dx fs)) (ha : σ[0]? = some (some (.ref x))) (cl : Cls K C) (n : NoAttr K C f) (hl : fs.length < 1000) (hn : fs.lookup f = none)
    (k : ∀ p H', Hs p = none → H p = none → p ≠ x → StepX x Bs Hs B H' → Nd P0 w p [] B H' → (∀ a, a ≠ x → a ≠ p → H' a = H a) → H' x = some (.ins C dx (fs ++ [(f, .ref p)])) → D.nx σ H') : sFld K (tVar 0) (tNNew P0 w) f D σ H := by
  refine fun p hp => ?_
  have npx : p ≠ x := fun z => by subst z; rw [ho] at hp; cases hp
  have bp : B p = none := c.bh.none hp
  have hp0 : Hs p = none := by
    cases q : Hs p with
    | none => rfl
    | some o => rw [c.eh p o npx q] at hp; cases hp
  refine ⟨_, ha, x, C, dx, fs, rfl, by rw [upd_ne (Ne.symm npx)]; exact ho, cl, n, hl, ?_⟩
  rw [putF_new hn]
  refine k p _ hp0 hp npx (StepX.poke ⟨c.eb, c.bh.poke bp, fun a u z h => ?_, c.hid⟩ bx) ⟨bp, by rw [upd_ne npx, upd_same], fun e he => by cases he⟩ (fun a z1 z2 => by rw [upd_ne z1, upd_ne z2]) upd_same
  rw [upd_ne (fun y => by subst y; rw [hp0] at h; cases h)]
  exact c.eh a u z h
end
section
variable {P : Program} {w : World} {K : PySem.W.Frag} {mg : Str → Option Value} {base : Heap} {f : Addr} {fd : FuncData}
abbrev s_Laying___init__ : Stmt := inClass (top 25) 0
abbrev N_Laying___init__ : List Str := ["self", "tiles", "high", "wide", "fixed"]
abbrev P_Laying___init__ : List Str := ["self", "tiles", "high", "wide", "fixed"]
theorem sc_Laying___init__ : FnScope N_Laying___init__ P_Laying___init__ (defScope s_Laying___init__) := ⟨rfl, rfl, rfl, by decide +kernel, rfl, by decide +kernel, by decide +kernel⟩
abbrev spLInit (P : Program) (w : World) (K : PySem.W.Frag) : Sp := fun vs H Q _ => ∃ C B x dx a fx rs wide, LT K C ∧ vs = [.ref x, a, .int 1, .int (wide : Nat), fx] ∧ Ex B H ∧ B x = none ∧ H x = some (.ins C dx []) ∧ (tilesV K rs).p B a ∧ edT.p B fx ∧ 1 ≤ wide ∧ wide ≤ 12 ∧
  ∀ B' H' fs p b, StepX x B H B' H' → H' x = some (.ins C dx fs) → fs.map (·.1) = (layF K rs wide (isV (.ref p)) (isV (.ref b)) []).map (·.1) → all2 B' (fs.map (·.2)) ((layF K rs wide (isV (.ref p)) (isV (.ref b)) []).map (·.2)) → B' x = none → H p = none → H b = none → p ≠ b → Acc p [] B' H' → Nd P w b [] B' H' → Q .non H'
theorem ok_linit (T : TB mg) (c_need_size : Cl P w K mg base CX0 1 "need_size" spNeed) (F : FnP K "__init__" "Laying.__init__" s_Laying___init__ f fd) : FnOk P w K mg base CX0 2 f fd P_Laying___init__ (spLInit P w K) := by
  refine F.ok sc_Laying___init__ (fun vs H Q E h => ?_) (fun cdv A outer s H vs Q E hr h => ?_)
  · obtain ⟨C, B, x, dx, a, fx, rs, wide, _, rfl, _⟩ := h
    rfl
  · obtain ⟨C, B, x, dx, a, fx, rs, wide, lt, rfl, e, bx, hx, ha, hf, w1, w12, k⟩ := h
    refine ⟨_, PSs.nox (pss_cons (ps_expr (pe_cl c_need_size hr (by omega) rfl pass0 (pa_cons (pv 2) (pa_cons (pv 3) pa_nil))))
      (pss_cons (ps_fld (pv 0) (pv 1) rfl)
      (pss_cons (ps_fld (pv 0) (pv 2) rfl)
      (pss_cons (ps_fld (pv 0) (pv 3) rfl)
      (pss_cons (ps_fld (pv 0) (pv 4) rfl)
      (pss_cons (ps_fld (pv 0) (pe_lst pa_nil) rfl)
      (pss_one (ps_fld (pv 0) (pe_nnew (P := P) (w := w) rfl rfl) rfl)))))))), ?_⟩
    refine q_drop (P := dp .none) e (ev_call (el_cons (ev_var rfl (P := dp (.int 1)) (.int _)) (el_cons (ev_var rfl (P := dp (.int (wide : Nat))) (.int _)) el_nil)) fun vs B1 e1 p1 => ?_) fun v1 B1 H1 s1 _ => ?_
    · obtain ⟨u1, u2, rfl, pa, pb⟩ := all2_2 p1
      cases dp_int.mp pa
      cases dp_int.mp pb
      exact ⟨1, (wide : Nat), rfl, by omega, by omega, rfl⟩
    obtain ⟨b1, h1⟩ := s1.hide bx hx
    refine q (s_fldX (s1.x x) b1 h1 (ev_var rfl ((tilesV K rs).m s1.eb ha)) (ev_var rfl rfl) lt.cl lt.kit (Nat.le_of_ble_eq_true rfl) rfl fun v1 B1 H1 c1 e1 p1 b1 h1 => ?_)
    refine q (s_fldX (P := dp (.int 1)) c1 b1 h1 (ev_var rfl (.int _)) (ev_var rfl rfl) lt.cl lt.high (Nat.le_of_ble_eq_true rfl) rfl fun v2 B2 H2 c2 e2 p2 b2 h2 => ?_)
    refine q (s_fldX (P := dp (.int (wide : Nat))) c2 b2 h2 (ev_var rfl (.int _)) (ev_var rfl rfl) lt.cl lt.wide (Nat.le_of_ble_eq_true rfl) rfl fun v3 B3 H3 c3 e3 p3 b3 h3 => ?_)
    refine q (s_fldX c3 b3 h3 (ev_var rfl (edT.m c3.eb hf)) (ev_var rfl rfl) lt.cl lt.fixed (Nat.le_of_ble_eq_true rfl) rfl fun v4 B4 H4 c4 e4 p4 b4 h4 => ?_)
    refine q (s_fldL c4 b4 h4 rfl lt.cl lt.row (Nat.le_of_ble_eq_true rfl) rfl fun p H5 hp hp4 npx c5 ac _ h5 => ?_)
    refine s_fldD c5 b4 h5 rfl lt.cl lt.bad (Nat.le_of_ble_eq_true rfl) rfl fun b H6 hb hb5 nbx c6 nd o6 h6 => ?_
    obtain ⟨a1, xs, a2, a3⟩ := ac
    have npb : p ≠ b := fun z => by subst z; rw [a2] at hb5; cases hb5
    refine k B4 H6 _ p b c6 h6 rfl ⟨(tilesV K rs).m (e2.trans (e3.trans e4)) p1, (dp _).m (e3.trans e4) p2, (dp _).m e4 p3, p4, rfl, rfl, True.intro⟩ b4 hp hb npb ⟨a1, xs, by rw [o6 p npx npb]; exact a2, a3⟩ nd
structure FT (K : PySem.W.Frag) (C : Addr) : Prop extends LT K C where
  known : NoAttr K C "known"
abbrev s_Filling___init__ : Stmt := inClass (top 29) 0
abbrev N_Filling___init__ : List Str := ["self", "tiles", "high", "wide", "fixed"]
abbrev P_Filling___init__ : List Str := ["self", "tiles", "high", "wide", "fixed"]
theorem sc_Filling___init__ : FnScope N_Filling___init__ P_Filling___init__ (defScope s_Filling___init__) := ⟨rfl, rfl, rfl, by decide +kernel, rfl, by decide +kernel, by decide +kernel⟩
abbrev spFInit (P : Program) (w : World) (K : PySem.W.Frag) : Sp := fun vs H Q _ => ∃ B x dx a fx rs wide, vs = [.ref x, a, .int 1, .int (wide : Nat), fx] ∧ Ex B H ∧ B x = none ∧ H x = some (.ins (ca K "Filling") dx []) ∧ (tilesV K rs).p B a ∧ edT.p B fx ∧ 1 ≤ wide ∧ wide ≤ 12 ∧
  ∀ B' H' fs p b c, StepX x B H B' H' → H' x = some (.ins (ca K "Filling") dx fs) → fs.map (·.1) = (layF K rs wide (isV (.ref p)) (isV (.ref b)) [("known", isV (.ref c))]).map (·.1) → all2 B' (fs.map (·.2)) ((layF K rs wide (isV (.ref p)) (isV (.ref b)) [("known", isV (.ref c))]).map (·.2)) →
    H p = none → H b = none → H c = none → p ≠ b → p ≠ c → b ≠ c → Acc p [] B' H' → Nd P w c [] B' H' → Q .non H'
theorem ok_finit (T : TB mg) (ft : FT K (ca K "Filling")) (u_Laying___init__ : Un P w K mg base CX0 2 "Laying" (ca K "Laying") "__init__" (spLInit P w K)) (F : FnP K "__init__" "Filling.__init__" s_Filling___init__ f fd) : FnOk P w K mg base CX0 3 f fd P_Filling___init__ (spFInit P w K) := by
  refine F.ok sc_Filling___init__ (fun vs H Q E h => ?_) (fun cdv A outer s H vs Q E hr h => ?_)
  · obtain ⟨B, x, dx, a, fx, rs, wide, rfl, _⟩ := h
    rfl
  · obtain ⟨B, x, dx, a, fx, rs, wide, rfl, e, bx, hx, ha, hf, w1, w12, k⟩ := h
    refine ⟨_, PSs.nox (pss_cons (ps_expr (pe_un u_Laying___init__ hr (by omega) rfl pass0 (pa_cons (pv 0) (pa_cons (pv 1) (pa_cons (pv 2) (pa_cons (pv 3) (pa_cons (pv 4) pa_nil)))))))
      (pss_one (ps_fld (pv 0) (pe_nnew (P := P) (w := w) rfl rfl) rfl))), ?_⟩
    refine ⟨_, rfl, _, rfl, _, rfl, _, rfl, _, rfl, ?_⟩
    refine ⟨ca K "Filling", B, x, dx, a, fx, rs, wide, ft.toLT, rfl, e, bx, hx, ha, hf, w1, w12, fun B1 H1 fs p b c1 h1 k1 k2 bx1 hp hb npb ac nb => ?_⟩
    have npx : p ≠ x := fun z => by subst z; rw [hx] at hp; cases hp
    have nbx : b ≠ x := fun z => by subst z; rw [hx] at hb; cases hb
    match fs, k1, k2 with
    | [(f1, v1), (f2, v2), (f3, v3), (f4, v4), (f5, v5), (f6, v6)], k1, k2 =>
      simp only [List.map_cons, List.map_nil, List.cons.injEq, and_true] at k1
      obtain ⟨rfl, rfl, rfl, rfl, rfl, rfl⟩ := k1
      refine s_fldD c1 bx1 h1 rfl ft.cl ft.known (Nat.le_of_ble_eq_true rfl) rfl fun c H6 hc hc5 ncx c6 nd o6 h6 => ?_
      obtain ⟨a1, xs, a2, a3⟩ := ac
      have npc : p ≠ c := fun z => by subst z; rw [a2] at hc5; cases hc5
      have nbc : b ≠ c := fun z => by subst z; rw [nb.h] at hc5; cases hc5
      obtain ⟨q1, q2, q3, q4, q5, q6, _⟩ := k2
      exact k B1 H6 _ p b c c6 h6 rfl ⟨q1, q2, q3, q4, q5, q6, rfl, True.intro⟩ hp hb hc npb npc nbc ⟨a1, xs, by rw [o6 p npx npc]; exact a2, a3⟩ nd
end
end TL
set_option maxHeartbeats 4000000
/-! Laying.goes -/
namespace TL
open PySem L2
def budget (n : Nat) : Nat → Nat
  | 0 => 0
  | r + 1 => n * budget n r + 1
def keyN (row : List Nat) : NestedKey := keyL (row.length : Nat) (row.map fun n : Nat => (n : Int))
theorem nats_inj : ∀ {l m : List Nat}, l.map (fun n : Nat => (n : Int)) = m.map (fun n : Nat => (n : Int)) → l = m
  | [], [], _ => rfl
  | [], _ :: _, h => by cases h
  | _ :: _, [], h => by cases h
  | a :: l, b :: m, h => by
    injection h with h1 h2
    rw [Int.ofNat_inj.mp h1, nats_inj h2]
theorem keyN_inj {l m : List Nat} (h : keyN l = keyN m) : l = m := nats_inj (keyL_inj h).2
/-- all that stands in bad has no way on -/
def badOk (rs : List Tile) (wide : Nat) (xs : List NEnt) : Prop := ∀ e ∈ xs, ∃ row, e.1 = keyN row ∧ row.length ≤ wide ∧ goesL rs (wide - row.length) row = none
theorem goesL_len {rs : List Tile} : ∀ {r : Nat} {row L : List Nat}, goesL rs r row = some L → L.length = row.length + r
  | 0, row, L, h => by cases h; rfl
  | r + 1, row, L, h => by
    obtain ⟨t, _, h⟩ := List.exists_of_findSome?_eq_some h
    unfold tryL at h
    split at h
    · have := goesL_len h
      rw [List.length_append] at this
      simp at this
      omega
    · cases h
theorem goesL_lt {rs : List Tile} : ∀ {r : Nat} {row L : List Nat}, (∀ a ∈ row, a < rs.length) → goesL rs r row = some L → ∀ a ∈ L, a < rs.length
  | 0, row, L, hr, h => by cases h; exact hr
  | r + 1, row, L, hr, h => by
    obtain ⟨t, ht, h⟩ := List.exists_of_findSome?_eq_some h
    unfold tryL at h
    split at h
    · refine goesL_lt (fun a ha => ?_) h
      rcases List.mem_append.mp ha with z | z
      · exact hr a z
      · rw [List.mem_singleton.mp z]; exact List.mem_range.mp ht
    · cases h
section
variable {K : PySem.W.Frag} {σ : L2.St} {B H : Hp} {ta tb : TE} {P : VP}
theorem ev_max0 {i j : Int} (ha : EvP ta σ B (dp (.int i))) (hb : EvP tb σ B (dp (.int j))) (h : j ≤ i) : EvP (tCB (fun xs H Q => ∃ i j, xs = [.int i, .int j] ∧ Q (.int (if j > i then j else i)) H) (tCons ta (tCons tb tNil))) σ B (dp (.int i)) := ev_cb (el_cons ha (el_cons hb el_nil)) fun B' xs _ h2 H e Q q => by
  obtain ⟨x, y, rfl, hx, hy⟩ := all2_2 h2
  cases dp_int.mp hx
  cases dp_int.mp hy
  exact ⟨i, j, rfl, q _ B' H (Step.refl e) (by rw [if_neg (by omega)]; exact .int _)⟩
/-- xs[0:] -/
theorem ev_slHead {Ps : List VP} (ha : EvP ta σ B (lst Ps)) (hb : EvP tb σ B (dp (.int 0))) : EvP (tSl (rSlL K) ta (tPart tb) tNoPart) σ B (lst Ps) := fun H e Q q => ha H e _ fun x B1 H1 s1 p1 => hb.mono s1.eb H1 s1.bh _ fun y B2 H2 s2 p2 => by
  cases dp_int.mp p2
  obtain ⟨a, xs, rfl, h1, h2⟩ := (lst Ps).m s2.eb p1
  refine ⟨0, rfl, a, xs, rfl, SqL.of (s2.bh _ _ h1), fun p hp => ?_⟩
  have : cutV xs (some 0) none = xs := by
    show (xs.drop (min 0 xs.length)).take (xs.length - min 0 xs.length) = xs
    rw [Nat.zero_min, List.drop_zero]
    exact List.take_length
  rw [this]
  exact q _ _ _ ((s1.trans s2).trans (Step.new s2.bh hp)) ⟨p, xs, rfl, upd_same, all2_m (Ex.new (s2.bh.none hp)) h2⟩
end
section
variable {P : Program} {w : World} {K : PySem.W.Frag} {mg : Str → Option Value} {base : Heap} {f : Addr} {fd : FuncData}
abbrev s_Laying_goes : Stmt := inClass (top 25) 2
abbrev N_Laying_goes : List Str := ["self", "place", "key", "tile"]
abbrev P_Laying_goes : List Str := ["self"]
theorem sc_Laying_goes : FnScope N_Laying_goes P_Laying_goes (defScope s_Laying_goes) := ⟨rfl, rfl, rfl, by decide +kernel, rfl, by decide +kernel, by decide +kernel⟩
abbrev Two (p b : Addr) : Addr → Prop := fun a => a = p ∨ a = b
abbrev layC (K : PySem.W.Frag) (rs : List Tile) (wide : Nat) (p b : Addr) : VP := layV K (ca K "Laying") rs wide (isV (.ref p)) (isV (.ref b)) []
abbrev spLG (P : Program) (w : World) (K : PySem.W.Frag) (r : Nat) : Sp := fun vs H Q _ => ∃ B x p b rs wide row xs, vs = [x] ∧ Ex B H ∧ (layC K rs wide p b).p B x ∧ Acc p (natP row) B H ∧ Nd P w b xs B H ∧ row.length + r = wide ∧ 1 ≤ wide ∧ wide ≤ 12 ∧ rs.length ≤ 200 ∧ (∀ t ∈ row, t < rs.length) ∧
  badOk rs wide xs ∧ xs.length + budget rs.length r ≤ 15000000 ∧
  ∀ B' H' xs', StepS (Two p b) B H B' H' → Acc p (natP ((goesL rs r row).getD row)) B' H' → Nd P w b xs' B' H' → badOk rs wide xs' → (∀ en ∈ xs', en ∈ xs ∨ ∃ row', en.1 = keyN row' ∧ row.length ≤ row'.length) → xs'.length ≤ xs.length + budget rs.length r → Q (.bl (goesL rs r row).isSome) H'
def spLGp (P : Program) (w : World) (K : PySem.W.Frag) : Nat → Sp
  | 0 => fun _ _ _ _ => False
  | r + 1 => spLG P w K r
theorem lgoes_step (T : TB mg) (lt : LT K (ca K "Laying")) (m_Tiles_many : Mt P w K mg base CX0 1 (ca K "Tiles") "many" (spMany K)) (m_Laying_fits : Mt P w K mg base CX0 2 (ca K "Laying") "fits" (spLFits K)) (F : FnP K "goes" "Laying.goes" s_Laying_goes f fd) (r : Nat) (m_Laying_goes : Mt P w K mg base CX0 (2 + r) (ca K "Laying") "goes" (spLGp P w K r)) :
    FnOk P w K mg base CX0 (2 + r + 1) f fd P_Laying_goes (spLG P w K r) := by
  refine F.ok sc_Laying_goes (fun vs H Q E h => ?_) (fun cdv A outer s H vs Q E hr h => ?_)
  · obtain ⟨B, x, p, b, rs, wide, row, xs, rfl, _⟩ := h
    rfl
  · obtain ⟨B, x, p, b, rs, wide, row, xs, rfl, e, hx, ac, nd, hlen, w1, w12, h200, hin, hbad, hbud, k⟩ := h
    refine ⟨_, PSs.nox (pss_cons (ps_set (i := 1) sc_Laying_goes.nd rfl (Or.inl rfl) (pe_callB (kcall_len (K := K) rfl) (by rfl) T.len PySem.boot_len (pa_cons (kfld (K := K) rfl (pv 0) rfl) pa_nil)))
      (pss_cons (ps_if (pt_cmpR op_eq (pv 1) (pe_op op_mul (kfld (K := K) rfl (pv 0) rfl) (kfld (K := K) rfl (pv 0) rfl)) (nomark _)) (pss_one (ps_ret pe_bl)) pss_nil)
      (pss_cons (ps_set (i := 2) sc_Laying_goes.nd rfl (Or.inl rfl) (pe_tup (pa_cons (pv 1) (pa_cons (pe_callTy (kcall_tuple (K := K) rfl) (by rfl) T.tuple (by decide +kernel) (pa_cons (pe_slice (ksl_list (K := K) rfl) (kfld (K := K) rfl (pv 0) rfl) (po_some (pe_callB (call_max2 rfl) (by rfl) T.max (by decide +kernel) (pa_cons pe_int (pa_cons (pe_op op_sub (pv 1) (kfld (K := K) rfl (pv 0) rfl)) pa_nil)))) po_none) pa_nil)) pa_nil))))
      (pss_cons (ps_if (pt_cmp (pc_nin (P := P) (w := w) rfl rfl hr.units (pv 2) (kfld (K := K) rfl (pv 0) rfl))) (pss_one (ps_ret pe_bl)) pss_nil)
      (pss_cons (ps_for PassesOwn.never rfl (pi_range1 (by rfl) T.range (pa_cons (pe_ml0 m_Tiles_many hr (by omega) pass0 (kfld (K := K) rfl (pv 0) rfl)) pa_nil)) (pg_name (i := 3) sc_Laying_goes.nd rfl (Or.inl rfl)) (pss_one (ps_if (pt_val (pe_ml m_Laying_fits hr (by omega) pass0 (pv 0) (pa_cons (pv 3) pa_nil))) (pss_cons (ps_expr (kbm (K := K) rfl PySem.F.plainAttrs_list PySem.F.slot_list_append PySem.F.type_list_append mt_append (kfld (K := K) rfl (pv 0) rfl) (pa_cons (pv 3) pa_nil)))
      (pss_cons (ps_if (pt_val (pe_ml0 m_Laying_goes hr (by omega) pass0 (pv 0))) (pss_one (ps_ret pe_bl)) pss_nil)
      (pss_one (ps_expr (kbm0 (K := K) rfl PySem.F.plainAttrs_list PySem.F.slot_list_pop PySem.F.type_list_pop mt_pop (kfld (K := K) rfl (pv 0) rfl)))))) pss_nil)))
      (pss_cons (ps_nput (P := P) (w := w) rfl rfl hr.units (kfld (K := K) rfl (pv 0) rfl) (pv 2) pe_bl rfl)
      (pss_one (ps_ret pe_bl)))))))), ?_⟩
    have npb : p ≠ b := fun z => by
      subst z
      obtain ⟨_, xs, a2, _⟩ := ac
      rw [nd.h] at a2
      cases a2
    have self : ∀ {σ : L2.St} {B' : Hp}, σ[0]? = some (some x) → Ex B B' → EvP (tVar 0) σ B' (layC K rs wide p b) := fun h e => ev_var h ((layC K rs wide p b).m e hx)
    have selfR : ∀ {σ : L2.St} {B' : Hp} {Ps : List VP}, σ[0]? = some (some x) → Ex B B' → (lst Ps).p B' (.ref p) → EvP (tVar 0) σ B' (layV K (ca K "Laying") rs wide (lst Ps) (isV (.ref b)) []) := fun h e hl => ev_var h (layV_row ((layC K rs wide p b).m e hx) hl)
    have selfB : ∀ {σ : L2.St} {B' : Hp} {D : VP}, σ[0]? = some (some x) → Ex B B' → D.p B' (.ref b) → EvP (tVar 0) σ B' (layV K (ca K "Laying") rs wide (isV (.ref p)) D []) := fun h e hl => ev_var h (layV_bad ((layC K rs wide p b).m e hx) hl)
    -- place = len(self.row)
    refine q (peek (v := .int (row.length : Nat)) e ac (fun B' e' pl => ((ev_lenL (ev_fld (selfR rfl e' pl) lt.cl lt.row rfl)).to (by rw [List.length_map])).i) fun H1 s1 a1 => ?_)
    have n1 := nd.step s1
    -- if place == self.high * self.wide: return True
    refine q_when (b := decide (r = 0)) s1.bh ((eb_test (ev_eq (ev_var rfl (.int _)) (ev_mul (ev_fld (self rfl (Ex.refl _)) lt.cl lt.high rfl) (ev_fld (self rfl (Ex.refl _)) lt.cl lt.wide rfl) (.inl ⟨by decide, by decide⟩)))).to ?_) (fun hr0 B2 H2 s2 => ?_) fun hr0 B2 H2 s2 => ?_
    · by_cases z : r = 0
      · rw [dT z, dT (by omega)]
      · rw [dF z, dF (by omega)]
    · have := of_decide_eq_true hr0
      subst this
      exact s_ret s2.bh ev_bl fun v B3 H3 s3 p3 => by
        cases dp_bl.mp p3
        have s13 := (s1.trans s2).trans s3
        exact k B3 H3 xs (s13.s _) (ac.step s13) (nd.step s13) hbad (fun en he => .inl he) (Nat.le_refl _)
    · cases r with
      | zero => cases hr0
      | succ r =>
        have s12 := s1.trans s2
        obtain ⟨bp, rx, hp2, hall2⟩ := ac.step s12
        have n2 := nd.step s12
        have kd : keyD (row.length : Nat) (row.map fun n : Nat => (n : Int)) = .tuple [.int (row.length : Nat), .tuple ((row.map fun n : Nat => (n : Int)).map .int)] := rfl
        -- key = ..
        refine q (peekT (d := keyD (row.length : Nat) (row.map fun n : Nat => (n : Int))) s2.bh bp hp2 (by
          show noLs [PyData.int (row.length : Nat), .tuple ((row.map fun n : Nat => (n : Int)).map .int)] = true
          have : ∀ l : List Int, noLs (l.map .int) = true := fun l => by
            induction l with
            | nil => rfl
            | cons a l ih => exact ih
          show (true && (noLs ((row.map fun n : Nat => (n : Int)).map .int) && true)) = true
          rw [this]
          rfl) ?_ fun vk B3 H3 s3 hp3 dk => ?_)
        · have pl := Acc.shown (H := H2) hall2 bp
          refine EvP.tupD (ds := [.int (row.length : Nat), .tuple ((row.map fun n : Nat => (n : Int)).map .int)]) (ev_tup (el_cons (ev_var rfl (.int _)) (el_cons ?_ el_nil)) (Nat.le_of_ble_eq_true rfl))
          refine EvP.tupD ?_
          rw [List.map_map, List.map_map]
          exact ev_tuple (ev_slHead (ev_fld (selfR rfl (s12.eb.trans (Ex.new bp)) pl) lt.cl lt.row rfl) (ev_max0 ev_int (ev_sub (ev_var rfl (.int _)) (ev_fld (selfR rfl (s12.eb.trans (Ex.new bp)) pl) lt.cl lt.wide rfl)) (by omega)))
        · have s13 := s12.trans s3
          have n3 := nd.step s13
          have a3 := ac.step s13
          have vkE : ∀ {σ : L2.St} {B' : Hp}, σ[2]? = some (some vk) → Ex B3 B' → EvP (tVar 2) σ B' (dp (keyD (row.length : Nat) (row.map fun n : Nat => (n : Int)))) := fun h e => ev_var h (Dt.m e _ _ dk)
          have keyNe : keyL (row.length : Nat) (row.map fun n : Nat => (n : Int)) = keyN row := rfl
          -- if key in self.bad: return False
          refine q (peekOB (b := (nval xs (keyN row)).isSome) s3.bh n3.hb n3.h (eb_nin (vkE rfl (Ex.new n3.hb)) (ev_fld (selfB rfl (s13.eb.trans (Ex.new n3.hb)) n3.shown) lt.cl lt.bad rfl)) fun H4 s4 h4 => ?_)
          have s14 := s13.trans s4
          have n4 := nd.step s14
          have a4 := ac.step s14
          cases hv : nval xs (keyN row) with
          | some v0 =>
            refine iteT ?_
            refine s_ret s4.bh ev_bl fun v B5 H5 s5 p5 => ?_
            cases dp_bl.mp p5
            have s15 := s14.trans s5
            have gn : goesL rs (r + 1) row = none := by
              obtain ⟨en, he, hk, _⟩ := nval_some hv
              obtain ⟨row', e1, e2, e3⟩ := hbad en he
              have := keyN_inj (hk.symm.trans e1)
              subst this
              rw [show wide - row.length = r + 1 by omega] at e3
              exact e3
            rw [gn] at k
            exact k B5 H5 xs (s15.s _) (ac.step s15) (nd.step s15) hbad (fun en he => .inl he) (Nat.le_add_right _ _)
          | none =>
            refine iteF ?_
            dsimp only [tNext]
            have mn : ∀ {σ : L2.St} {B' : Hp}, σ[0]? = some (some x) → Ex B B' → EvP (tMeth (ca K "Tiles") "many" (spMany K) [] E0 (tFld K (tVar 0) "kit") tNil) σ B' (dp (.int rs.length)) := fun h e => ev_meth (ev_fld (self h e) lt.cl lt.kit rfl) rfl el_nil fun y vs B6 e6 py pv => by
              have : vs = [] := by cases vs with | nil => rfl | cons _ _ => exact pv.elim
              subst this
              exact ⟨rs, y, rfl, py, rfl⟩
            refine q_forR (n := rs.length) s4.bh (el_cons (mn rfl s14.eb) el_nil) (by omega)
              (fun i σ B' H' => (∃ a, σ = [some x, some (.int (row.length : Nat)), some vk, a]) ∧ StepS (Two p b) B H B' H' ∧ Ex B3 B' ∧ Acc p (natP row) B' H' ∧ (∃ xs', Nd P w b xs' B' H' ∧ badOk rs wide xs' ∧ xs'.length ≤ xs.length + i * budget rs.length r ∧ (∀ en ∈ xs', en ∈ xs ∨ ∃ row', en.1 = keyN row' ∧ row.length < row'.length)) ∧ ∀ t, t < i → tryL (goesL rs r) rs row t = none)
              (fun Bl Hl sl => ⟨⟨_, rfl⟩, (s14.trans sl).s _, sl.eb, a4.step sl, ⟨xs, n4.step sl, hbad, (by omega), fun en he => .inl he⟩, fun t ht => absurd ht (Nat.not_lt_zero _)⟩) ?_ ?_
            · rintro Bl Hl sl i σ' B5 H5 hi e1 e2 ⟨⟨a, rfl⟩, s5, e35, a5, ⟨xs5, n5, bad5, len5, new5⟩, hn⟩
              obtain ⟨bp5, rx5, hp5, al5⟩ := id a5
              -- if self.fits(tile)
              refine peekOB (b := fitsL rs row i) e2 bp5 hp5 (eb_B (ev_meth (selfR rfl (s5.eb.trans (Ex.new bp5)) (Acc.shown (H := H5) al5 bp5)) rfl (el_cons (ev_var rfl (P := dp (.int (i : Nat))) (.int _)) el_nil) fun y vs B6 e6 py pv => ?_)) fun H6 s6 hp6 => ?_
              · obtain ⟨u, rfl, q1⟩ := all2_1 pv
                cases dp_int.mp q1
                exact ⟨_, y, rs, wide, row, i, _, [], lt, rfl, py, by omega, w12, hin, hi, rfl⟩
              have a6 := a5.step s6
              have n6 := n5.step s6
              cases hf : fitsL rs row i with
              | false =>
                refine iteF ?_
                dsimp only [tNext]
                refine ⟨B5, e1, s6.bh, ⟨_, rfl⟩, s5.trans (s6.s _), e35, a6, ⟨xs5, n6, bad5, by rw [Nat.succ_mul]; omega, new5⟩, fun t ht => ?_⟩
                rcases Nat.lt_or_eq_of_le (Nat.le_of_lt_succ ht) with h | h
                · exact hn t h
                · subst h
                  unfold tryL
                  rw [if_neg (by rw [hf]; decide)]
              | true =>
                refine iteT ?_
                have try_ : tryL (goesL rs r) rs row i = goesL rs r (row ++ [i]) := by
                  unfold tryL
                  rw [if_pos hf]
                -- self.row.append(tile)
                refine q_app (P := dp (.int (i : Nat))) s6.bh a6 (ev_fld (self rfl s5.eb) lt.cl lt.row rfl) (ev_var rfl (.int _)) (by rw [List.length_map]; omega) fun B7 H7 e7 e7' a7 hs7 => ?_
                obtain ⟨H8, s8, o8⟩ := hs7
                have a7' : Acc p (natP (row ++ [i])) B7 H7 := a7.to (natP_snoc _ _).symm
                have s7 : StepS (Two p b) B H B7 H7 := (s5.trans (s6.s _)).ofApp (.inl rfl) s8 o8 e7'
                have n7 : Nd P w b xs5 B7 H7 := by
                  have n8 := n6.step s8
                  obtain ⟨o, rfl⟩ := o8
                  exact ⟨n8.hb, by rw [upd_ne (Ne.symm npb)]; exact n8.h, n8.k⟩
                have hin' : ∀ t ∈ row ++ [i], t < rs.length := fun t ht => by
                  rcases List.mem_append.mp ht with h | h
                  · exact hin t h
                  · rw [List.mem_singleton.mp h]; exact hi
                have lrow : (row ++ [i]).length = row.length + 1 := by rw [List.length_append]; rfl
                have hx7 := (layC K rs wide p b).m s7.eb hx
                obtain ⟨a0, dx, fs, ea, h2, h3, h4'⟩ := id hx7
                have bsucc : budget rs.length (r + 1) = rs.length * budget rs.length r + 1 := rfl
                have bmul : (i + 1) * budget rs.length r ≤ rs.length * budget rs.length r := Nat.mul_le_mul_right _ hi
                rw [Nat.succ_mul] at bmul
                -- if self.goes(): return True
                refine ⟨x, rfl, a0, dx, fs, ea, e7' _ _ h2, lookup_none (Fs := layF K rs wide (isV (.ref p)) (isV (.ref b)) []) h3 rfl, B7, x, p, b, rs, wide, row ++ [i], xs5, rfl, e7', hx7, a7', n7, by omega, w1, w12, h200, hin', bad5, by omega, fun B9 H9 xs9 s9 a9 n9 bad9 new9 len9 => ⟨_, rfl, ?_⟩⟩
                have s79 := s7.trans s9
                cases hg : goesL rs r (row ++ [i]) with
                | none =>
                  rw [hg] at a9
                  refine iteF ?_
                  dsimp only [tNext]
                  refine s_pop (P := dp (.int (i : Nat))) s9.bh (a9.to (natP_snoc _ _)) (ev_fld (self rfl s79.eb) lt.cl lt.row rfl) fun B10 H10 e10 e10' a10 hs10 => ?_
                  obtain ⟨H11, s11, o11⟩ := hs10
                  refine ⟨B10, e1.trans (e7.trans (s9.eb.trans e10)), e10', ⟨_, rfl⟩, s79.ofApp (.inl rfl) s11 o11 e10', e35.trans (e7.trans (s9.eb.trans e10)), a10, ⟨xs9, ?_, bad9, by rw [Nat.succ_mul]; omega, fun en he => ?_⟩, fun t ht => ?_⟩
                  · have n11 := n9.step s11
                    obtain ⟨o, rfl⟩ := o11
                    exact ⟨n11.hb, by rw [upd_ne (Ne.symm npb)]; exact n11.h, n11.k⟩
                  · rcases new9 en he with h | ⟨row', q1, q2⟩
                    · exact new5 en h
                    · exact .inr ⟨row', q1, by omega⟩
                  · rcases Nat.lt_or_eq_of_le (Nat.le_of_lt_succ ht) with h | h
                    · exact hn t h
                    · subst h
                      rw [try_, hg]
                | some L =>
                  rw [hg] at a9
                  have hL : goesL rs (r + 1) row = some L := find_some hi hn (by rw [try_, hg])
                  have := k B9 H9 xs9 s79 (by rw [hL]; exact a9) n9 bad9 (fun en he => by
                    rcases new9 en he with h | ⟨row', q1, q2⟩
                    · rcases new5 en h with h | ⟨row', q1, q2⟩
                      · exact .inl h
                      · exact .inr ⟨row', q1, by omega⟩
                    · exact .inr ⟨row', q1, by omega⟩) (by omega)
                  rw [hL] at this
                  refine iteT ?_
                  exact this
            · rintro σ' B5 H5 e1 e2 ⟨⟨a, rfl⟩, s5, e35, a5, ⟨xs5, n5, bad5, len5, new5⟩, hn⟩
              have gn : goesL rs (r + 1) row = none := find_none hn
              have bsucc : budget rs.length (r + 1) = rs.length * budget rs.length r + 1 := rfl
              -- self.bad[key] = True
              refine q (s_nput (v := .bl true) e2 n5 (ev_c rfl) (ev_fld (self rfl s5.eb) lt.cl lt.bad rfl) (vkE rfl e35) ?_ (by omega) fun ak B6 H6 s6 n6 => ?_)
              · show nval xs5 (keyN row) = none
                cases z : nval xs5 (keyN row) with
                | none => rfl
                | some v =>
                  obtain ⟨en, he, hk, _⟩ := nval_some z
                  rcases new5 en he with h | ⟨row', q1, q2⟩
                  · exact absurd hk (nval_none hv en h)
                  · have := keyN_inj (hk.symm.trans q1)
                    subst this
                    omega
              · have s6' : StepS (Two p b) B H B6 (upd H6 b (NDict P w b (xs5 ++ [(keyL (row.length : Nat) (row.map fun n : Nat => (n : Int)), ak, V.bl true)]))) := (s5.trans (s6.s _)).poke (.inr rfl) n6.hb
                dsimp only
                refine s_ret s6'.bh ev_bl fun v B7 H7 s7 p7 => ?_
                cases dp_bl.mp p7
                have a6 : Acc p (natP row) B6 (upd H6 b (NDict P w b (xs5 ++ [(keyL (row.length : Nat) (row.map fun n : Nat => (n : Int)), ak, V.bl true)]))) := by
                  obtain ⟨q1, q2, q3, q4⟩ := a5.step s6
                  exact ⟨q1, q2, by rw [upd_ne npb]; exact q3, q4⟩
                rw [gn] at k
                refine k B7 H7 _ (s6'.trans (s7.s _)) (a6.step s7) (n6.step s7) (fun en he => ?_) (fun en he => ?_) ?_
                · rcases List.mem_append.mp he with h | h
                  · exact bad5 en h
                  · rw [List.mem_singleton.mp h]
                    exact ⟨row, rfl, by omega, by rw [show wide - row.length = r + 1 by omega]; exact gn⟩
                · rcases List.mem_append.mp he with h | h
                  · rcases new5 en h with h | ⟨row', q1, q2⟩
                    · exact .inl h
                    · exact .inr ⟨row', q1, by omega⟩
                  · rw [List.mem_singleton.mp h]
                    exact .inr ⟨row, rfl, Nat.le_refl _⟩
                · rw [List.length_append]
                  simp only [List.length_cons, List.length_nil]
                  omega
theorem ok_lgoes (T : TB mg) (lt : LT K (ca K "Laying")) (m_Tiles_many : Mt P w K mg base CX0 1 (ca K "Tiles") "many" (spMany K)) (m_Laying_fits : Mt P w K mg base CX0 2 (ca K "Laying") "fits" (spLFits K)) (F : FnP K "goes" "Laying.goes" s_Laying_goes f fd) (hM : Meth K (ca K "Laying") "goes" f) (hb : Binds K fd P_Laying_goes []) :
    ∀ r, FnOk P w K mg base CX0 (2 + r + 1) f fd P_Laying_goes (spLG P w K r)
  | 0 => lgoes_step T lt m_Tiles_many m_Laying_fits F 0 ⟨f, fd, P_Laying_goes, lt.cl, hM, fn_false, hb⟩
  | r + 1 => lgoes_step T lt m_Tiles_many m_Laying_fits F (r + 1) ⟨f, fd, P_Laying_goes, lt.cl, hM, ok_lgoes T lt m_Tiles_many m_Laying_fits F hM hb r, hb⟩
end
end TL
set_option maxHeartbeats 4000000
/-! Laying.rows, laid -/
namespace TL
open PySem L2
section
variable {K : PySem.W.Frag} {σ : L2.St} {B H : Hp} {ta tb tc : TE} {P : VP}
/-- xs[0:len(xs)] -/
theorem ev_slAll {Ps : List VP} (ha : EvP ta σ B (lst Ps)) (hb : EvP tb σ B (dp (.int 0))) (hc : EvP tc σ B (dp (.int (Ps.length : Nat)))) : EvP (tSl (rSlL K) ta (tPart tb) (tPart tc)) σ B (lst Ps) := fun H e Q q => ha H e _ fun x B1 H1 s1 p1 => hb.mono s1.eb H1 s1.bh _ fun y B2 H2 s2 p2 => by
  cases dp_int.mp p2
  have s12 := s1.trans s2
  refine ⟨0, rfl, hc.mono s12.eb H2 s12.bh _ fun z B3 H3 s3 p3 => ?_⟩
  cases dp_int.mp p3
  obtain ⟨a, xs, rfl, h1, h2⟩ := (lst Ps).m (s2.eb.trans s3.eb) p1
  refine ⟨_, rfl, a, xs, rfl, SqL.of (s3.bh _ _ h1), fun p hp => ?_⟩
  have len := all2_len h2
  have : cutV xs (some 0) (some (Ps.length : Nat)) = xs := by
    unfold cutV
    rw [HT.sIx_nat, show HT.sIx xs.length 0 (some 0) = 0 from Nat.zero_min xs.length, List.drop_zero, ← len, Nat.min_self, Nat.sub_zero]
    exact List.take_length
  rw [this]
  exact q _ _ _ ((s12.trans s3).trans (Step.new s3.bh hp)) ⟨p, xs, rfl, upd_same, all2_m (Ex.new (s3.bh.none hp)) h2⟩
end
section
variable {K : PySem.W.Frag} {σ : L2.St} {B H : Hp}
theorem mk_of {C : Addr} {sp : Sp} {E : XK} {t : TA} {g : TG} {D : Ends} {Ps : List VP} (e : Ex B H) (h : EvL t σ B Ps)
    (k : ∀ vs B1 H1, Step B H B1 H1 → all2 B1 vs Ps → tMake C sp [] E (fun _ H Q => Q vs H) σ H1 fun v H' => g v σ H' D.nx) : tAsg (tMake C sp [] E t) g D σ H := h H e _ k
end
section
variable {P : Program} {w : World} {K : PySem.W.Frag} {mg : Str → Option Value} {base : Heap} {f : Addr} {fd : FuncData}
abbrev s_Laying_rows : Stmt := inClass (top 25) 3
abbrev N_Laying_rows : List Str := ["self", "at"]
abbrev P_Laying_rows : List Str := ["self"]
theorem sc_Laying_rows : FnScope N_Laying_rows P_Laying_rows (defScope s_Laying_rows) := ⟨rfl, rfl, rfl, by decide +kernel, rfl, by decide +kernel, by decide +kernel⟩
abbrev spLRows (K : PySem.W.Frag) : Sp := spP fun vs B R => ∃ x rs wide L D, vs = [x] ∧ (layV K (ca K "Laying") rs wide (lst (natP L)) D []).p B x ∧ L.length = wide ∧ wide ≤ 12 ∧ R = dp (.list [natsT L])
theorem ok_lrows (T : TB mg) (lt : LT K (ca K "Laying")) (F : FnP K "rows" "Laying.rows" s_Laying_rows f fd) : FnOk P w K mg base CX0 1 f fd P_Laying_rows (spLRows K) := by
  refine F.ok sc_Laying_rows (fun vs H Q E h => ?_) (fun cdv A outer s H vs Q E hr h => ?_)
  · obtain ⟨B, R, e, ⟨x, rs, wide, L, D, rfl, _⟩, _⟩ := h
    rfl
  · obtain ⟨B, R, e, ⟨x, rs, wide, L, D, rfl, hx, hl, w12, rfl⟩, k⟩ := h
    refine ⟨_, PSs.nox (pss_one (ps_ret (pe_lc (own := [("at", 1)]) (g := gName 1) (tt := tYes) rfl sc_Laying_rows.nd (pi_range1 (by rfl) T.range (pa_cons (kfld (K := K) rfl (pv 0) rfl) pa_nil)) (blkOk_by (N := N_Laying_rows) (sc := defScope s_Laying_rows) (by decide +kernel)) (fun _ _ _ _ _ => pg_name (i := 1) sc_Laying_rows.nd rfl (Or.inl rfl)) (fun _ _ _ _ _ => pts_nil) (fun _ _ _ _ _ => (pe_callTy (kcall_tuple (K := K) rfl) (by rfl) T.tuple (by decide +kernel) (pa_cons (pe_slice (ksl_list (K := K) rfl) (kfld (K := K) rfl (pv 0) rfl) (po_some (pe_op op_mul (pv 1) (kfld (K := K) rfl (pv 0) rfl))) (po_some (pe_op op_add (pe_op op_mul (pv 1) (kfld (K := K) rfl (pv 0) rfl)) (kfld (K := K) rfl (pv 0) rfl)))) pa_nil)))))), ?_⟩
    have self : ∀ {σ : L2.St} {B' : Hp}, σ[0]? = some (some x) → Ex B B' → EvP (tVar 0) σ B' (layV K (ca K "Laying") rs wide (lst (natP L)) D []) := fun h e => ev_var h ((layV K (ca K "Laying") rs wide (lst (natP L)) D []).m e hx)
    refine s_ret (P := lst (((List.range 1).filter fun _ => true).map fun _ => dp (natsT L))) e (ev_lcR (n := 1) (fun _ => true) (fun _ => dp (natsT L)) (el_cons (ev_fld (self rfl (Ex.refl _)) lt.cl lt.high rfl) el_nil) (by decide) (fun _ => rfl) (fun y B' hy e' => eb_yes) fun y B' hy _ e' => ?_) fun v B1 H1 s1 p1 => k v B1 H1 s1 (lst_dp.mp p1)
    have : y = 0 := by omega
    subst this
    have wd : EvP (tFld K (tVar 0) "wide") (wipe (start N_Laying_rows [x]) [1] |>.set 1 (some (.int ((0 : Nat) : Int)))) B' (dp (.int (wide : Nat))) := ev_fld (self rfl e') lt.cl lt.wide rfl
    have mu := ev_mul (ev_var (i := 1) (σ := (wipe (start N_Laying_rows [x]) [1] |>.set 1 (some (.int ((0 : Nat) : Int))))) rfl (P := dp (.int ((0 : Nat) : Int))) (.int _)) wd (.inl ⟨by decide, by decide⟩)
    refine EvP.tupD ?_
    rw [List.map_map]
    exact ev_tuple (ev_slAll (Ps := natP L) (ev_fld (self rfl e') lt.cl lt.row rfl) (mu.to (by rw [show ((0 : Nat) : Int) * (wide : Int) = 0 by omega])) ((ev_add mu wd).to (by rw [show ((0 : Nat) : Int) * (wide : Int) + (wide : Int) = ((natP L).length : Nat) by rw [List.length_map]; omega])))
abbrev s_laid : Stmt := top 26
abbrev N_laid : List Str := ["tiles", "high", "wide", "laying"]
abbrev P_laid : List Str := ["tiles", "high", "wide"]
theorem sc_laid : FnScope N_laid P_laid (defScope s_laid) := ⟨rfl, rfl, rfl, by decide +kernel, rfl, by decide +kernel, by decide +kernel⟩
def laidD : Option (List Nat) → PyData
  | some L => .list [natsT L]
  | none => .none
abbrev spLaid (K : PySem.W.Frag) : Sp := spP fun vs B R => ∃ x rs wide, vs = [x, .int 1, .int (wide : Nat)] ∧ (tilesV K rs).p B x ∧ 1 ≤ wide ∧ wide ≤ 4 ∧ rs.length ≤ 200 ∧ R = dp (laidD (goesL rs wide []))
theorem budget_le {n : Nat} (h : n ≤ 200) : ∀ {r : Nat}, r ≤ 4 → budget n r ≤ 15000000 := fun {r} hr => by
  have mono : ∀ r, budget n r ≤ budget 200 r := fun r => by
    induction r with
    | zero => exact Nat.le_refl _
    | succ r ih => exact Nat.succ_le_succ (Nat.mul_le_mul h ih)
  refine Nat.le_trans (mono r) ?_
  match r, hr with
  | 0, _ => decide
  | 1, _ => decide
  | 2, _ => decide
  | 3, _ => decide
  | 4, _ => decide
  | r + 5, h => omega
theorem ok_laid (T : TB mg) (lt : LT K (ca K "Laying")) (c_Laying : Mr P w K mg base CX0 2 "Laying" (ca K "Laying") (spLInit P w K)) (goes : ∀ r, Mt P w K mg base CX0 (2 + r + 1) (ca K "Laying") "goes" (spLG P w K r)) (m_Laying_rows : Mt P w K mg base CX0 1 (ca K "Laying") "rows" (spLRows K))
    (F : FnP K "laid" "laid" s_laid f fd) : FnOk P w K mg base CX0 8 f fd P_laid (spLaid K) := by
  refine F.ok sc_laid (fun vs H Q E h => ?_) (fun cdv A outer s H vs Q E hr h => ?_)
  · obtain ⟨B, R, e, ⟨x, rs, wide, rfl, _⟩, _⟩ := h
    rfl
  · obtain ⟨B, R, e, ⟨a, rs, wide, rfl, ha, w1, w4, h200, rfl⟩, k⟩ := h
    have m_Laying_goes := goes wide
    refine ⟨_, PSs.nox (pss_cons (ps_set (i := 3) sc_laid.nd rfl (Or.inl rfl) (pe_mr c_Laying hr (by omega) rfl pass0 (pa_cons (pv 0) (pa_cons (pv 1) (pa_cons (pv 2) (pa_cons pe_dnewT pa_nil))))))
      (pss_cons (ps_if (pt_not (pt_val (pe_ml0 m_Laying_goes hr (by omega) pass0 (pv 3)))) (pss_one (ps_ret pe_non)) pss_nil)
      (pss_one (ps_ret (pe_ml0 m_Laying_rows hr (by omega) pass0 (pv 3)))))), ?_⟩
    have el : ∀ {σ : L2.St}, σ[0]? = some (some a) → σ[1]? = some (some (.int 1)) → σ[2]? = some (some (.int (wide : Nat))) → EvL (tCons (tVar 0) (tCons (tVar 1) (tCons (tVar 2) (tCons tDNewT tNil)))) σ B [tilesV K rs, dp (.int 1), dp (.int (wide : Nat)), edT] := fun h0 h1 h2 =>
      el_cons (ev_var h0 ha) (el_cons (ev_var h1 (.int _)) (el_cons (ev_var h2 (.int _)) (el_cons ev_edT el_nil)))
    refine q (mk_of e (el rfl rfl rfl) fun vs B1 H1 s1 pv => ?_)
    match vs, pv with
    | [v1, v2, v3, v4], ⟨p1, p2, p3, p4, _⟩ =>
    cases dp_int.mp p2
    cases dp_int.mp p3
    refine fun x dx hx hdx hne => ?_
    have b1 : B1 x = none := s1.bh.none hx
    have b2 : B1 dx = none := s1.bh.none hdx
    refine ⟨ca K "Laying", B1, x, dx, v1, v4, rs, wide, lt, rfl, (s1.bh.poke b2).poke b1, b1, upd_same, p1, p4, w1, by omega, fun B' H' fs p b sx ho k1 k2 bx' hp0 hb0 npb ac nd => ⟨rfl, ?_⟩⟩
    obtain ⟨B2, s2, px, e2, n2⟩ := ins_made hx hdx sx ho k1 k2
    have nw : ∀ p, (upd (upd H1 dx (.own x)) x (.ins (ca K "Laying") dx [])) p = none → p ≠ x ∧ H1 p = none := fun p hp => by
      have hpx : p ≠ x := fun z => by subst z; rw [upd_same] at hp; cases hp
      have hpd : p ≠ dx := fun z => by subst z; rw [upd_ne hpx, upd_same] at hp; cases hp
      exact ⟨hpx, by rw [upd_ne hpx, upd_ne hpd] at hp; exact hp⟩
    obtain ⟨hpx, hp1⟩ := nw p hp0
    obtain ⟨hbx, hb1⟩ := nw b hb0
    obtain ⟨q1, xs, q2, q3⟩ := ac
    have ac2 : Acc p (natP []) B2 H' := ⟨by rw [n2 p hpx]; exact q1, xs, q2, all2_m e2 q3⟩
    have nd2 : Nd P w b [] B2 H' := ⟨by rw [n2 b hbx]; exact nd.hb, nd.h, nd.k.m e2⟩
    obtain ⟨a0, dx0, fs0, ea, h2, h3, h4⟩ := id px
    -- if not laying.goes(): return None
    refine ⟨_, rfl, a0, dx0, fs0, ea, s2.bh _ _ h2, lookup_none (Fs := layF K rs wide (isV (.ref p)) (isV (.ref b)) []) h3 rfl, B2, _, p, b, rs, wide, [], [], rfl, s2.bh, px, ac2, nd2, by simp, w1, by omega, h200, (fun t ht => by cases ht), (fun t ht => by cases ht), (by have := budget_le h200 w4; simpa using this), fun B3 H3 xs3 s3 a3 n3 _ _ _ => ⟨_, rfl, ?_⟩⟩
    have full : Step B H B3 H3 := (((s1.trans s2).s _).trans s3).full fun c hc => by
      rcases hc with rfl | rfl
      · exact s1.eh.none hp1
      · exact s1.eh.none hb1
    cases hg : goesL rs wide [] with
    | none =>
      rw [hg] at k
      refine iteT ?_
      exact k .non B3 H3 full .non
    | some L =>
      rw [hg] at k a3
      refine iteF ?_
      dsimp only [tNext]
      obtain ⟨B4, s4, e4, p4⟩ := a3.done full (s1.eh.none hp1)
      have px4 := layV_row ((layC K rs wide p b).m (s3.eb.trans e4) px) p4
      refine s_ret s4.bh (ev_meth (ev_var rfl px4) rfl el_nil fun y vs B6 e6 py pv => ?_) fun v B5 H5 s5 p5 => k _ B5 H5 (s4.trans s5) p5
      have : vs = [] := by cases vs with | nil => rfl | cons _ _ => exact pv.elim
      subst this
      exact ⟨y, rs, wide, L, _, rfl, py, by rw [goesL_len hg]; simp, by omega, rfl⟩
end
end TL
set_option maxHeartbeats 4000000
/-! Filling.many, fillings: one place -/
namespace TL
open PySem L2
theorem s_noKeys {σ : L2.St} {H : Hp} {D : Ends} {i : Nat} {d : Addr} {g : TG} {tb : TS} (h : σ[i]? = some (some (.ref d))) (hd : H d = some (.dT [])) (k : D.nx σ H) : tLock (tFor (iKeys (tVar i)) g tb) D σ H := by
  refine ⟨d, .dT [], hd, True.intro, fun od => ⟨_, h, d, od, rfl, .inr ⟨[], upd_same, fun _ _ σ' H' => σ' = σ ∧ H' = upd H d (.frz od (.dT [])), ⟨0, rfl, rfl⟩, fun i m σ' H' z => .inl ⟨⟨?_, Nat.zero_le _⟩, ?_⟩⟩⟩⟩
  · rw [z.2]; exact upd_same
  · obtain ⟨rfl, rfl⟩ := z
    refine ⟨upd_same, ?_⟩
    have : upd (upd H d (.frz od (.dT []))) d (.dT []) = H := funext fun a => by
      by_cases q : a = d
      · subst q; rw [upd_same, hd]
      · rw [upd_ne q, upd_ne q]
    rw [this]
    exact k
theorem mk_ofR {C m : Addr} {nm : Str} {sp sp2 : Sp} {E E2 : XK} {σ : L2.St} {B H : Hp} {t : TA} {D : Ends} {Ps : List VP} (e : Ex B H) (h : EvL t σ B Ps)
    (k : ∀ vs B1 H1, Step B H B1 H1 → all2 B1 vs Ps → tMake C sp [] E (fun _ H Q => Q vs H) σ H1 fun v H' => ∃ a dx fs, v = .ref a ∧ H' a = some (.ins m dx fs) ∧ fs.lookup nm = none ∧ sp2 (v :: ([] ++ [])) H' (fun v H' => D.rt v H') E2) : tRet (tMeth m nm sp2 [] E2 (tMake C sp [] E t) tNil) D σ H := h H e _ k
/-- dict(d), d empty -/
def rCopyT : List V → Hp → VK → Prop := fun xs H Q => ∃ a, xs = [.ref a] ∧ H a = some (.dT []) ∧ ∀ p, H p = none → Q (.ref p) (upd H p (.dT []))
theorem call_copyT {X : Cx} : CallR X (.type "dict") rCopyT := by
  intro pins s σ H xs us Q I r h
  obtain ⟨a, rfl, e, q⟩ := h
  obtain ⟨u, rfl, ru⟩ := vals1 r
  obtain rfl : u = Value.ref a := ru
  obtain ⟨z, hd, vs, rel, dd⟩ := dt_rd I.hok (.inl e)
  cases rel
  obtain ⟨o, es, ep, h1, h2, h3, h4, h5, h6⟩ := dd
  have es0 : es = #[] := Array.toList_eq_nil_iff.mp h4
  subst es0
  have dk : s.heap.DictOf (mixKind X.prog X.w) a [] := ⟨o, #[], ep, h1, h2, h3, (fun _ hx => by simp at hx), .nil, List.nodup_nil⟩
  refine kt_call_dict (knd := mixKind X.prog X.w) hd dk (Nat.zero_le _) fun h' dd' hs => ?_
  obtain ⟨o', es', ep', g1, g2, g3, g4, g5, _⟩ := dd'
  have g6 : es'.toList = [] := by generalize es'.toList = l at g5; cases g5; rfl
  refine ⟨.ref s.heap.objs.size, _, (I.laid (a := s.heap.objs.size) (o := .dT []) (t' := s.toks) (fun b q hq => ?_) (Nat.le_refl _) ?_), rfl, q _ (I.hok.fresh (Nat.le_refl _))⟩
  · exact (hs.2 b (Nat.ne_of_lt (Heap.lt_size hq))).trans (Heap.get?_push_of_some _ hq)
  · exact ⟨Nat.zero_le _, beq_eq_false_iff_ne.mpr (Ne.symm (Nat.ne_of_lt I.big)), [], .nil, o', es', ep', g1, g2, g3, g6, List.nodup_nil⟩
section
variable {P : Program} {w : World} {K : PySem.W.Frag} {mg : Str → Option Value} {base : Heap} {f : Addr} {fd : FuncData}
abbrev s_need_fixed : Stmt := top 28
abbrev N_need_fixed : List Str := ["tiles", "high", "wide", "fixed", "at", "k"]
abbrev P_need_fixed : List Str := ["tiles", "high", "wide", "fixed"]
theorem sc_need_fixed : FnScope N_need_fixed P_need_fixed (defScope s_need_fixed) := ⟨rfl, rfl, rfl, by decide +kernel, rfl, by decide +kernel, by decide +kernel⟩
abbrev spNeedF (K : PySem.W.Frag) : Sp := spP fun vs B R => ∃ x fx, vs = [x, .int 1, .int 1, fx] ∧ edT.p B fx ∧ R = dp .none
theorem ok_need_fixed (T : TB mg) (m_Tiles_many : Mt P w K mg base CX0 1 (ca K "Tiles") "many" (spMany K)) (c_need_size : Cl P w K mg base CX0 1 "need_size" spNeed) (F : FnP K "need_fixed" "need_fixed" s_need_fixed f fd) : FnOk P w K mg base CX0 2 f fd P_need_fixed (spNeedF K) := by
  refine F.ok sc_need_fixed (fun vs H Q E h => ?_) (fun cdv A outer s H vs Q E hr h => ?_)
  · obtain ⟨B, R, e, ⟨x, fx, rfl, _⟩, _⟩ := h
    rfl
  · obtain ⟨B, R, e, ⟨x, fx, rfl, hf, rfl⟩, k⟩ := h
    have hu := hu_of hr
    refine ⟨_, PSs.nox (pss_cons (ps_expr (pe_cl c_need_size hr (by omega) rfl pass0 (pa_cons (pv 1) (pa_cons (pv 2) pa_nil))))
      (pss_one (ps_lock (ps_for PassesOwn.never rfl (pi_keys (pv 3)) (pg_tup rfl (pgs_cons (pg_name (i := 4) sc_need_fixed.nd rfl (Or.inl rfl)) (pgs_cons (pg_name (i := 5) sc_need_fixed.nd rfl (Or.inl rfl)) pgs_nil))) (pss_one (ps_if (PW.pt (pw_or (pt_not (pt_chain op_le op_lt pe_int (pv 4) (pv 1))) (pw_or (pt_not (pt_chain op_le op_lt pe_int (pv 5) (pv 2))) (pw_or1 (pt_not (pt_chain op_le op_lt pe_int (pe_dget hu (pv 3) (pe_tup (pa_cons (pv 4) (pa_cons (pv 5) pa_nil))) (fun _ _ => rfl)) (pe_ml0 m_Tiles_many hr (by omega) pass0 (pv 0)))))))) (pss_one ps_never) pss_nil)))))), ?_⟩
    refine q_drop (P := dp .none) e (ev_call (el_cons (ev_var rfl (P := dp (.int 1)) (.int _)) (el_cons (ev_var rfl (P := dp (.int 1)) (.int _)) el_nil)) fun vs B1 e1 p1 => ?_) fun v1 B1 H1 s1 _ => ?_
    · obtain ⟨u1, u2, rfl, pa, pb⟩ := all2_2 p1
      cases dp_int.mp pa
      cases dp_int.mp pb
      exact ⟨1, 1, rfl, by omega, by omega, rfl⟩
    · obtain ⟨d, rfl, hd⟩ := hf
      exact s_noKeys rfl (s1.bh _ _ (s1.eb _ _ hd)) (k .non B1 H1 s1 .non)
abbrev fillC (K : PySem.W.Frag) (rs : List Tile) (p b c : Addr) : VP := layV K (ca K "Filling") rs 1 (isV (.ref p)) (isV (.ref b)) [("known", isV (.ref c))]
theorem layV_known {C : Addr} {rs : List Tile} {wide : Nat} {D R D2 : VP} {p : Addr} {B : Hp} {x : V} (h : (layV K C rs wide R D [("known", isV (.ref p))]).p B x) (hl : D2.p B (.ref p)) : (layV K C rs wide R D [("known", D2)]).p B x := by
  obtain ⟨a, dx, fs, h1, h2, h3, h4⟩ := h
  refine ⟨a, dx, fs, h1, h2, h3, ?_⟩
  match fs, h3, h4 with
  | [(_, v1), (_, v2), (_, v3), (_, v4), (_, v5), (_, v6), (_, v7)], _, ⟨q1, q2, q3, q4, q5, q6, q7, _⟩ =>
    cases (show v7 = .ref p from q7)
    exact ⟨q1, q2, q3, q4, q5, q6, hl, True.intro⟩
abbrev s_Filling_many : Stmt := inClass (top 29) 1
abbrev N_Filling_many : List Str := ["self", "place", "key", "found", "tile"]
abbrev P_Filling_many : List Str := ["self"]
theorem sc_Filling_many : FnScope N_Filling_many P_Filling_many (defScope s_Filling_many) := ⟨rfl, rfl, rfl, by decide +kernel, rfl, by decide +kernel, by decide +kernel⟩
abbrev spFM (P : Program) (w : World) (K : PySem.W.Frag) (r : Nat) : Sp := fun vs H Q _ => ∃ B x p b c rs row xs, vs = [x] ∧ Ex B H ∧ (fillC K rs p b c).p B x ∧ Acc p (natP row) B H ∧ Nd P w c xs B H ∧ row.length + r = 1 ∧ rs.length ≤ 200 ∧ (r = 0 ∨ xs = []) ∧
  ∀ B' H' xs', StepS (Two p c) B H B' H' → Acc p (natP row) B' H' → Nd P w c xs' B' H' → (r = 0 → xs' = xs) → Q (.int ((if r = 0 then 1 else rs.length : Nat) : Int)) H'
def spFMp (P : Program) (w : World) (K : PySem.W.Frag) : Nat → Sp
  | 0 => fun _ _ _ _ => False
  | r + 1 => spFM P w K r
theorem fmany_step (T : TB mg) (ft : FT K (ca K "Filling")) (m_Tiles_many : Mt P w K mg base CX0 1 (ca K "Tiles") "many" (spMany K)) (m_Filling_fits : Mt P w K mg base CX0 2 (ca K "Filling") "fits" (spLFits K)) (F : FnP K "many" "Filling.many" s_Filling_many f fd) (r : Nat) (m_Filling_many : Mt P w K mg base CX0 (2 + r) (ca K "Filling") "many" (spFMp P w K r)) :
    FnOk P w K mg base CX0 (2 + r + 1) f fd P_Filling_many (spFM P w K r) := by
  refine F.ok sc_Filling_many (fun vs H Q E h => ?_) (fun cdv A outer s H vs Q E hr h => ?_)
  · obtain ⟨B, x, p, b, c, rs, row, xs, rfl, _⟩ := h
    rfl
  · obtain ⟨B, x, p, b, c, rs, row, xs, rfl, e, hx, ac, nd, hlen, h200, hr1, k⟩ := h
    refine ⟨_, PSs.nox (pss_cons (ps_set (i := 1) sc_Filling_many.nd rfl (Or.inl rfl) (pe_callB (kcall_len (K := K) rfl) (by rfl) T.len PySem.boot_len (pa_cons (kfld (K := K) rfl (pv 0) rfl) pa_nil)))
      (pss_cons (ps_if (pt_cmpR op_eq (pv 1) (pe_op op_mul (kfld (K := K) rfl (pv 0) rfl) (kfld (K := K) rfl (pv 0) rfl)) (nomark _)) (pss_one (ps_ret pe_int)) pss_nil)
      (pss_cons (ps_set (i := 2) sc_Filling_many.nd rfl (Or.inl rfl) (pe_tup (pa_cons (pv 1) (pa_cons (pe_callTy (kcall_tuple (K := K) rfl) (by rfl) T.tuple (by decide +kernel) (pa_cons (pe_slice (ksl_list (K := K) rfl) (kfld (K := K) rfl (pv 0) rfl) (po_some (pe_callB (call_max2 rfl) (by rfl) T.max (by decide +kernel) (pa_cons pe_int (pa_cons (pe_op op_sub (pv 1) (kfld (K := K) rfl (pv 0) rfl)) pa_nil)))) po_none) pa_nil)) pa_nil))))
      (pss_cons (ps_if (pt_cmp (pc_nnotin (P := P) (w := w) rfl rfl hr.units (pv 2) (kfld (K := K) rfl (pv 0) rfl))) (pss_cons (ps_set (i := 3) sc_Filling_many.nd rfl (Or.inl rfl) pe_int)
      (pss_cons (ps_for PassesOwn.never rfl (pi_range1 (by rfl) T.range (pa_cons (pe_ml0 m_Tiles_many hr (by omega) pass0 (kfld (K := K) rfl (pv 0) rfl)) pa_nil)) (pg_name (i := 4) sc_Filling_many.nd rfl (Or.inl rfl)) (pss_one (ps_if (pt_val (pe_ml m_Filling_fits hr (by omega) pass0 (pv 0) (pa_cons (pv 4) pa_nil))) (pss_cons (ps_expr (kbm (K := K) rfl PySem.F.plainAttrs_list PySem.F.slot_list_append PySem.F.type_list_append mt_append (kfld (K := K) rfl (pv 0) rfl) (pa_cons (pv 4) pa_nil)))
      (pss_cons (ps_set (i := 3) sc_Filling_many.nd rfl (Or.inl rfl) (pe_op op_add (pv 3) (pe_ml0 m_Filling_many hr (by omega) pass0 (pv 0))))
      (pss_one (ps_expr (kbm0 (K := K) rfl PySem.F.plainAttrs_list PySem.F.slot_list_pop PySem.F.type_list_pop mt_pop (kfld (K := K) rfl (pv 0) rfl)))))) pss_nil)))
      (pss_one (ps_nput (P := P) (w := w) rfl rfl hr.units (kfld (K := K) rfl (pv 0) rfl) (pv 2) (pv 3) rfl)))) pss_nil)
      (pss_one (ps_ret (pe_nget (P := P) (w := w) rfl rfl hr.units (kfld (K := K) rfl (pv 0) rfl) (pv 2) (fun _ _ => rfl)))))))), ?_⟩
    have lt := ft.toLT
    have npc : p ≠ c := fun z => by
      subst z
      obtain ⟨_, xs, a2, _⟩ := ac
      rw [nd.h] at a2
      cases a2
    have self : ∀ {σ : L2.St} {B' : Hp}, σ[0]? = some (some x) → Ex B B' → EvP (tVar 0) σ B' (fillC K rs p b c) := fun h e => ev_var h ((fillC K rs p b c).m e hx)
    have selfR : ∀ {σ : L2.St} {B' : Hp} {Ps : List VP}, σ[0]? = some (some x) → Ex B B' → (lst Ps).p B' (.ref p) → EvP (tVar 0) σ B' (layV K (ca K "Filling") rs 1 (lst Ps) (isV (.ref b)) [("known", isV (.ref c))]) := fun h e hl => ev_var h (layV_row ((fillC K rs p b c).m e hx) hl)
    have selfC : ∀ {σ : L2.St} {B' : Hp} {D : VP}, σ[0]? = some (some x) → Ex B B' → D.p B' (.ref c) → EvP (tVar 0) σ B' (layV K (ca K "Filling") rs 1 (isV (.ref p)) (isV (.ref b)) [("known", D)]) := fun h e hl => ev_var h (layV_known ((fillC K rs p b c).m e hx) hl)
    -- place = len(self.row)
    refine q (peek (v := .int (row.length : Nat)) e ac (fun B' e' pl => ((ev_lenL (ev_fld (selfR rfl e' pl) lt.cl lt.row rfl)).to (by rw [List.length_map])).i) fun H1 s1 a1 => ?_)
    have n1 := nd.step s1
    -- if place == self.high * self.wide: return 1
    refine q_when (b := decide (r = 0)) s1.bh ((eb_test (ev_eq (ev_var rfl (.int _)) (ev_mul (ev_fld (self rfl (Ex.refl _)) lt.cl lt.high rfl) (ev_fld (self rfl (Ex.refl _)) lt.cl lt.wide rfl) (.inl ⟨by decide, by decide⟩)))).to ?_) (fun hr0 B2 H2 s2 => ?_) fun hr0 B2 H2 s2 => ?_
    · by_cases z : r = 0
      · rw [dT z, dT (by omega)]
      · rw [dF z, dF (by omega)]
    · have := of_decide_eq_true hr0
      subst this
      exact s_ret s2.bh ev_int fun v B3 H3 s3 p3 => by
        cases dp_int.mp p3
        have s13 := (s1.trans s2).trans s3
        exact k B3 H3 xs (s13.s _) (ac.step s13) (nd.step s13) (fun _ => rfl)
    · cases r with
      | zero => cases hr0
      | succ r =>
        have r0 : r = 0 := by omega
        subst r0
        have row0 : row = [] := List.eq_nil_of_length_eq_zero (by omega)
        subst row0
        have xs0 : xs = [] := hr1.resolve_left (fun z => by cases z)
        subst xs0
        have s12 := s1.trans s2
        obtain ⟨bp, rx, hp2, hall2⟩ := ac.step s12
        have n2 := nd.step s12
        -- key = ..
        refine q (peekT (d := keyD 0 []) s2.bh bp hp2 rfl ?_ fun vk B3 H3 s3 hp3 dk => ?_)
        · have pl := Acc.shown (H := H2) hall2 bp
          refine EvP.tupD (ds := [.int 0, .tuple []]) (ev_tup (el_cons (ev_var rfl (.int _)) (el_cons ?_ el_nil)) (Nat.le_of_ble_eq_true rfl))
          refine EvP.tupD (ds := []) ?_
          exact ev_tuple (ev_slHead (ev_fld (selfR rfl (s12.eb.trans (Ex.new bp)) pl) lt.cl lt.row rfl) (ev_max0 ev_int (ev_sub (ev_var rfl (.int _)) (ev_fld (selfR rfl (s12.eb.trans (Ex.new bp)) pl) lt.cl lt.wide rfl)) (by decide)))
        · have s13 := s12.trans s3
          have n3 := nd.step s13
          have vkE : ∀ {σ : L2.St} {B' : Hp}, σ[2]? = some (some vk) → Ex B3 B' → EvP (tVar 2) σ B' (dp (keyD 0 [])) := fun h e => ev_var h (Dt.m e _ _ dk)
          -- if key not in self.known
          refine q (peekOB (b := true) s3.bh n3.hb n3.h (eb_nnin (vkE rfl (Ex.new n3.hb)) (ev_fld (selfC rfl (s13.eb.trans (Ex.new n3.hb)) n3.shown) lt.cl ft.known rfl)) fun H4 s4 h4 => ?_)
          have s14 := s13.trans s4
          have n4 := nd.step s14
          have a4 := ac.step s14
          refine iteT ?_
          -- found = 0
          refine q_asg s4.bh ev_int fun v0 B5 H5 s5 p5 => ?_
          cases dp_int.mp p5
          have s15 := s14.trans s5
          have mn : ∀ {σ : L2.St} {B' : Hp}, σ[0]? = some (some x) → Ex B B' → EvP (tMeth (ca K "Tiles") "many" (spMany K) [] E0 (tFld K (tVar 0) "kit") tNil) σ B' (dp (.int rs.length)) := fun h e => ev_meth (ev_fld (self h e) lt.cl lt.kit rfl) rfl el_nil fun y vs B6 e6 py pv => by
            have : vs = [] := by cases vs with | nil => rfl | cons _ _ => exact pv.elim
            subst this
            exact ⟨rs, y, rfl, py, rfl⟩
          refine q_forR (n := rs.length) s5.bh (el_cons (mn rfl s15.eb) el_nil) (by omega)
            (fun i σ B' H' => (∃ a, σ = [some x, some (.int 0), some vk, some (.int (i : Nat)), a]) ∧ StepS (Two p c) B H B' H' ∧ Ex B3 B' ∧ Acc p (natP []) B' H' ∧ Nd P w c [] B' H')
            (fun Bl Hl sl => ⟨⟨_, rfl⟩, (s15.trans sl).s _, s4.eb.trans (s5.eb.trans sl.eb), (a4.step s5).step sl, (n4.step s5).step sl⟩) ?_ ?_
          · rintro Bl Hl sl i σ' B5 H5 hi e1 e2 ⟨⟨a, rfl⟩, s5, e35, a5, n5⟩
            obtain ⟨bp5, rx5, hp5, al5⟩ := id a5
            -- if self.fits(tile)
            refine peekOB (b := true) e2 bp5 hp5 (eb_B (ev_meth (selfR rfl (s5.eb.trans (Ex.new bp5)) (Acc.shown (H := H5) al5 bp5)) rfl (el_cons (ev_var rfl (P := dp (.int (i : Nat))) (.int _)) el_nil) fun y vs B6 e6 py pv => ?_)) fun H6 s6 hp6 => ?_
            · obtain ⟨u, rfl, q1⟩ := all2_1 pv
              cases dp_int.mp q1
              exact ⟨_, y, rs, 1, [], i, _, _, lt, rfl, py, by decide, by decide, (fun a ha => by cases ha), hi, rfl⟩
            have a6 := a5.step s6
            have n6 := n5.step s6
            refine iteT ?_
            -- self.row.append(tile)
            refine q_app (P := dp (.int (i : Nat))) s6.bh a6 (ev_fld (self rfl s5.eb) lt.cl lt.row rfl) (ev_var rfl (.int _)) (by decide) fun B7 H7 e7 e7' a7 hs7 => ?_
            obtain ⟨H8, s8, o8⟩ := hs7
            have a7' : Acc p (natP [i]) B7 H7 := a7
            have s7 : StepS (Two p c) B H B7 H7 := (s5.trans (s6.s _)).ofApp (.inl rfl) s8 o8 e7'
            have n7 : Nd P w c [] B7 H7 := by
              have n8 := n6.step s8
              obtain ⟨o, rfl⟩ := o8
              exact ⟨n8.hb, by rw [upd_ne (Ne.symm npc)]; exact n8.h, n8.k⟩
            have hx7 := (fillC K rs p b c).m s7.eb hx
            obtain ⟨a0, dx, fs, ea, h2, h3, h4'⟩ := id hx7
            -- found = found + self.many()
            refine ⟨_, rfl, x, rfl, a0, dx, fs, ea, e7' _ _ h2, lookup_none (Fs := layF K rs 1 (isV (.ref p)) (isV (.ref b)) [("known", isV (.ref c))]) h3 rfl, B7, x, p, b, c, rs, [i], [], rfl, e7', hx7, a7', n7, rfl, h200, .inl rfl, fun B9 H9 xs9 s9 a9 n9 e9 => ?_⟩
            obtain rfl := e9 rfl
            refine ⟨_, _, rfl, rfl, ?_⟩
            have s79 := s7.trans s9
            refine s_pop (Ps := natP []) (P := dp (.int (i : Nat))) s9.bh a9 (ev_fld (self rfl s79.eb) lt.cl lt.row rfl) fun B10 H10 e10 e10' a10 hs10 => ?_
            obtain ⟨H11, s11, o11⟩ := hs10
            refine ⟨B10, e1.trans (e7.trans (s9.eb.trans e10)), e10', ⟨_, rfl⟩, s79.ofApp (.inl rfl) s11 o11 e10', e35.trans (e7.trans (s9.eb.trans e10)), a10, ?_⟩
            have n11 := n9.step s11
            obtain ⟨o, rfl⟩ := o11
            exact ⟨n11.hb, by rw [upd_ne (Ne.symm npc)]; exact n11.h, n11.k⟩
          · rintro σ' B5 H5 e1 e2 ⟨⟨a, rfl⟩, s5, e35, a5, n5⟩
            -- self.known[key] = found
            refine s_nput (v := .int (rs.length : Nat)) e2 n5 (ev_var rfl rfl) (ev_fld (self rfl s5.eb) lt.cl ft.known rfl) (vkE rfl e35) rfl (by decide) fun ak B6 H6 s6 n6 => ?_
            have s6' : StepS (Two p c) B H B6 (upd H6 c (NDict P w c ([] ++ [(keyL 0 [], ak, V.int (rs.length : Nat))]))) := (s5.trans (s6.s _)).poke (.inr rfl) n6.hb
            have a6 : Acc p (natP []) B6 (upd H6 c (NDict P w c ([] ++ [(keyL 0 [], ak, V.int (rs.length : Nat))]))) := by
              obtain ⟨q1, q2, q3, q4⟩ := a5.step s6
              exact ⟨q1, q2, by rw [upd_ne npc]; exact q3, q4⟩
            dsimp only
            -- return self.known[key]
            refine peekO (v := .int (rs.length : Nat)) s6'.bh n6.hb n6.h (ev_nget (ev_fld (selfC rfl (s6'.eb.trans (Ex.new n6.hb)) n6.shown) lt.cl ft.known rfl) (vkE rfl (e35.trans (s6.eb.trans (Ex.new n6.hb)))) (by simp [nval])) fun H7 s7 h7 => ?_
            exact k B6 H7 _ (s6'.trans (s7.s _)) (a6.step s7) (n6.step s7) (fun z => by cases z)
theorem ok_fmany0 (T : TB mg) (ft : FT K (ca K "Filling")) (m_Tiles_many : Mt P w K mg base CX0 1 (ca K "Tiles") "many" (spMany K)) (m_Filling_fits : Mt P w K mg base CX0 2 (ca K "Filling") "fits" (spLFits K)) (F : FnP K "many" "Filling.many" s_Filling_many f fd) (hM : Meth K (ca K "Filling") "many" f) (hb : Binds K fd P_Filling_many []) :
    ∀ r, FnOk P w K mg base CX0 (2 + r + 1) f fd P_Filling_many (spFM P w K r)
  | 0 => fmany_step T ft m_Tiles_many m_Filling_fits F 0 ⟨f, fd, P_Filling_many, ft.cl, hM, fn_false, hb⟩
  | r + 1 => fmany_step T ft m_Tiles_many m_Filling_fits F (r + 1) ⟨f, fd, P_Filling_many, ft.cl, hM, ok_fmany0 T ft m_Tiles_many m_Filling_fits F hM hb r, hb⟩
abbrev s_fillings : Stmt := top 30
abbrev N_fillings : List Str := ["tiles", "high", "wide", "fixed"]
abbrev P_fillings : List Str := ["tiles", "high", "wide", "fixed"]
theorem sc_fillings : FnScope N_fillings P_fillings (defScope s_fillings) := ⟨rfl, rfl, rfl, by decide +kernel, rfl, by decide +kernel, by decide +kernel⟩
abbrev spFillings (K : PySem.W.Frag) : Sp := spP fun vs B R => ∃ x rs fx, vs = [x, .int 1, .int 1, fx] ∧ (tilesV K rs).p B x ∧ edT.p B fx ∧ rs.length ≤ 200 ∧ R = dp (.int rs.length)
theorem ev_copyT {σ : L2.St} {B : Hp} {ta : TE} (h : EvP ta σ B edT) : EvP (tCB rCopyT (tCons ta tNil)) σ B edT := ev_cb (el_cons h el_nil) fun B' xs _ h2 H e Q q => by
  obtain ⟨x, rfl, a, rfl, ha⟩ := all2_1 h2
  exact ⟨a, rfl, e _ _ ha, fun p hp => q _ _ _ (Step.new e hp) ⟨p, rfl, upd_same⟩⟩
theorem ok_fillings (T : TB mg) (ft : FT K (ca K "Filling")) (c_need_fixed : Cl P w K mg base CX0 2 "need_fixed" (spNeedF K)) (c_Filling : Mr P w K mg base CX0 3 "Filling" (ca K "Filling") (spFInit P w K)) (m_Filling_many : Mt P w K mg base CX0 4 (ca K "Filling") "many" (spFM P w K 1))
    (F : FnP K "fillings" "fillings" s_fillings f fd) : FnOk P w K mg base CX0 5 f fd P_fillings (spFillings K) := by
  refine F.ok sc_fillings (fun vs H Q E h => ?_) (fun cdv A outer s H vs Q E hr h => ?_)
  · obtain ⟨B, R, e, ⟨x, rs, fx, rfl, _⟩, _⟩ := h
    rfl
  · obtain ⟨B, R, e, ⟨a, rs, fx, rfl, ha, hf, h200, rfl⟩, k⟩ := h
    refine ⟨_, PSs.nox (pss_cons (ps_expr (pe_cl c_need_fixed hr (by omega) rfl pass0 (pa_cons (pv 0) (pa_cons (pv 1) (pa_cons (pv 2) (pa_cons (pv 3) pa_nil))))))
      (pss_one (ps_ret (pe_ml0 m_Filling_many hr (by omega) pass0 (pe_mr c_Filling hr (by omega) rfl pass0 (pa_cons (pv 0) (pa_cons (pv 1) (pa_cons (pv 2) (pa_cons (pe_callTy call_copyT (by rfl) T.dict (by decide +kernel) (pa_cons (pv 3) pa_nil)) pa_nil))))))))), ?_⟩
    refine q_drop (P := dp .none) e (ev_call (el_cons (ev_var rfl ha) (el_cons (ev_var rfl (P := dp (.int 1)) (.int _)) (el_cons (ev_var rfl (P := dp (.int 1)) (.int _)) (el_cons (ev_var rfl hf) el_nil)))) fun vs B1 e1 pv => ?_) fun v1 B1 H1 s1 _ => ?_
    · match vs, pv with
      | [v1, v2, v3, v4], ⟨p1, p2, p3, p4, _⟩ =>
      cases dp_int.mp p2
      cases dp_int.mp p3
      exact ⟨_, _, rfl, p4, rfl⟩
    have el : ∀ {σ : L2.St}, σ[0]? = some (some a) → σ[1]? = some (some (.int 1)) → σ[2]? = some (some (.int 1)) → σ[3]? = some (some fx) → EvL (tCons (tVar 0) (tCons (tVar 1) (tCons (tVar 2) (tCons (tCB rCopyT (tCons (tVar 3) tNil)) tNil)))) σ B1 [tilesV K rs, dp (.int 1), dp (.int 1), edT] := fun h0 h1 h2 h3 =>
      el_cons (ev_var h0 ((tilesV K rs).m s1.eb ha)) (el_cons (ev_var h1 (.int _)) (el_cons (ev_var h2 (.int _)) (el_cons (ev_copyT (ev_var h3 (edT.m s1.eb hf))) el_nil)))
    refine mk_ofR s1.bh (el rfl rfl rfl rfl) fun vs B2 H2 s2 pv => ?_
    match vs, pv with
    | [v1, v2, v3, v4], ⟨p1, p2, p3, p4, _⟩ =>
    cases dp_int.mp p2
    cases dp_int.mp p3
    refine fun x dx hx hdx hne => ?_
    have b1 : B2 x = none := s2.bh.none hx
    have b2 : B2 dx = none := s2.bh.none hdx
    refine ⟨B2, x, dx, v1, v4, rs, 1, rfl, (s2.bh.poke b2).poke b1, b1, upd_same, p1, p4, by decide, by decide, fun B' H' fs p b c sx ho k1 k2 hp0 hb0 hc0 npb npc nbc ac nd => ⟨rfl, ?_⟩⟩
    obtain ⟨B3, s3, px, e3, n3⟩ := ins_made hx hdx sx ho k1 k2
    have nw : ∀ p, (upd (upd H2 dx (.own x)) x (.ins (ca K "Filling") dx [])) p = none → p ≠ x ∧ H2 p = none := fun p hp => by
      have hpx : p ≠ x := fun z => by subst z; rw [upd_same] at hp; cases hp
      have hpd : p ≠ dx := fun z => by subst z; rw [upd_ne hpx, upd_same] at hp; cases hp
      exact ⟨hpx, by rw [upd_ne hpx, upd_ne hpd] at hp; exact hp⟩
    obtain ⟨hpx, hp1⟩ := nw p hp0
    obtain ⟨hcx, hc1⟩ := nw c hc0
    obtain ⟨q1, xs, q2, q3⟩ := ac
    have ac2 : Acc p (natP []) B3 H' := ⟨by rw [n3 p hpx]; exact q1, xs, q2, all2_m e3 q3⟩
    have nd2 : Nd P w c [] B3 H' := ⟨by rw [n3 c hcx]; exact nd.hb, nd.h, nd.k.m e3⟩
    obtain ⟨a0, dx0, fs0, ea, h2, h3, h4⟩ := id px
    have s12 := s1.trans s2
    refine ⟨a0, dx0, fs0, ea, s3.bh _ _ h2, lookup_none (Fs := layF K rs 1 (isV (.ref p)) (isV (.ref b)) [("known", isV (.ref c))]) h3 rfl, B3, _, p, b, c, rs, [], [], rfl, s3.bh, px, ac2, nd2, rfl, h200, .inr rfl, fun B4 H4 xs4 s4 a4 n4 _ => ?_⟩
    have full : Step B H B4 H4 := (((s12.trans s3).s _).trans s4).full fun d hd => by
      rcases hd with rfl | rfl
      · exact s12.eh.none hp1
      · exact s12.eh.none hc1
    exact k _ B4 H4 full (.int _)
end
end TL
set_option maxHeartbeats 4000000
/-! is_laid, turned, mirrored -/
namespace TL
open PySem L2
def chainOk (rs : List Tile) (L : List Nat) : Prop := ∀ k, k + 1 < L.length → (gt rs (L.getD k 0)).e = (gt rs (L.getD (k + 1) 0)).w
def turnT (t : Tile) : Tile := ⟨t.e, t.s, t.w, t.n⟩
def mirT (t : Tile) : Tile := ⟨t.n, t.w, t.s, t.e⟩
theorem rows_lst {B : Hp} {v : V} {rs : List Tile} : (lst (rs.map fun t => dp t.d)).p B v ↔ (dp (rowsD rs)).p B v := by
  unfold rowsD
  rw [← lst_dp, List.map_map]
  rfl
section
variable {P : Program} {w : World} {K : PySem.W.Frag} {mg : Str → Option Value} {base : Heap} {f : Addr} {fd : FuncData}
abbrev s_is_laid : Stmt := top 13
abbrev N_is_laid : List Str := ["tiles", "rows", "at", "k"]
abbrev P_is_laid : List Str := ["tiles", "rows"]
theorem sc_is_laid : FnScope N_is_laid P_is_laid (defScope s_is_laid) := ⟨rfl, rfl, rfl, by decide +kernel, rfl, by decide +kernel, by decide +kernel⟩
abbrev spIsLaid (K : PySem.W.Frag) : Sp := spP fun vs B R => ∃ x v rs L, vs = [x, v] ∧ (tilesV K rs).p B x ∧ (dp (.list [natsT L])).p B v ∧ L.length ≤ 12 ∧ (∀ a ∈ L, a < rs.length) ∧ chainOk rs L ∧ R = dp (.bool true)
theorem ok_is_laid (T : TB mg) (m_Tiles_is_beside : Mt P w K mg base CX0 1 (ca K "Tiles") "is_beside" (spBeside K)) (m_Tiles_is_below : Mt P w K mg base CX0 1 (ca K "Tiles") "is_below" (spBelow K)) (F : FnP K "is_laid" "is_laid" s_is_laid f fd) : FnOk P w K mg base CX0 2 f fd P_is_laid (spIsLaid K) := by
  refine F.ok sc_is_laid (fun vs H Q E h => ?_) (fun cdv A outer s H vs Q E hr h => ?_)
  · obtain ⟨B, R, e, ⟨x, v, rs, L, rfl, _⟩, _⟩ := h
    rfl
  · obtain ⟨B, R, e, ⟨x, v, rs, L, rfl, hx, hv, h12, hin, hch, rfl⟩, k⟩ := h
    refine ⟨_, PSs.nox (pss_cons (ps_for PassesOwn.never rfl (pi_range1 (by rfl) T.range (pa_cons (pe_callB (kcall_len (K := K) rfl) (by rfl) T.len PySem.boot_len (pa_cons (pv 1) pa_nil)) pa_nil)) (pg_name (i := 2) sc_is_laid.nd rfl (Or.inl rfl)) (pss_one (ps_for PassesOwn.never rfl (pi_range1 (by rfl) T.range (pa_cons (pe_callB (kcall_len (K := K) rfl) (by rfl) T.len PySem.boot_len (pa_cons (pe_ix (kix_list (K := K) rfl) (pv 1) (pv 2) (fun _ _ => rfl)) pa_nil)) pa_nil)) (pg_name (i := 3) sc_is_laid.nd rfl (Or.inl rfl)) (pss_cons (ps_if (PW.pt (pw_and (pt_cmpR op_gt (pv 3) pe_int (nomark _)) (pw_and1 (pt_not (pt_val (pe_ml m_Tiles_is_beside hr (by omega) pass0 (pv 0) (pa_cons (pe_ix (kix_tup (K := K) rfl) (pe_ix (kix_list (K := K) rfl) (pv 1) (pv 2) (fun _ _ => rfl)) (pe_op op_sub (pv 3) pe_int) (fun _ _ => rfl)) (pa_cons (pe_ix (kix_tup (K := K) rfl) (pe_ix (kix_list (K := K) rfl) (pv 1) (pv 2) (fun _ _ => rfl)) (pv 3) (fun _ _ => rfl)) pa_nil)))))))) (pss_one (ps_ret pe_bl)) pss_nil)
      (pss_one (ps_if (PW.pt (pw_and (pt_cmpR op_gt (pv 2) pe_int (nomark _)) (pw_and1 (pt_not (pt_val (pe_ml m_Tiles_is_below hr (by omega) pass0 (pv 0) (pa_cons (pe_ix (kix_tup (K := K) rfl) (pe_ix (kix_list (K := K) rfl) (pv 1) (pe_op op_sub (pv 2) pe_int) (fun _ _ => rfl)) (pv 3) (fun _ _ => rfl)) (pa_cons (pe_ix (kix_tup (K := K) rfl) (pe_ix (kix_list (K := K) rfl) (pv 1) (pv 2) (fun _ _ => rfl)) (pv 3) (fun _ _ => rfl)) pa_nil)))))))) (pss_one (ps_ret pe_bl)) pss_nil))))))
      (pss_one (ps_ret pe_bl))), ?_⟩
    have rowsE : ∀ {σ : L2.St} {B' : Hp}, σ[1]? = some (some v) → Ex B B' → EvP (tVar 1) σ B' (dp (.list [natsT L])) := fun h e => ev_var h ((dp _).m e hv)
    refine q_forR (n := 1) e (el_cons (ev_lenLd (rowsE rfl (Ex.refl _))) el_nil) (by decide) (fun i σ B' H' => (∃ a b, σ = [some x, some v, a, b]) ∧ Step B H B' H') (fun Bl Hl sl => ⟨⟨_, _, rfl⟩, sl⟩) ?_ ?_
    · rintro Bl Hl sl i σ' B1 H1 hi e1 e2 ⟨⟨a, b, rfl⟩, s1⟩
      have : i = 0 := by omega
      subst this
      have rowE : ∀ {σ : L2.St} {B' : Hp}, σ[1]? = some (some v) → σ[2]? = some (some (.int ((0 : Nat) : Int))) → Ex B B' → EvP (tOp (rIxL K) (tVar 1) (tVar 2)) σ B' (dp (natsT L)) := fun h h2 e => ev_ixLd (rowsE h e) (ev_var h2 (.int _)) rfl
      refine s_forR (n := L.length) e2 (el_cons ((ev_lenTd (rowE rfl rfl s1.eb)).to (by rw [List.length_map])) el_nil) (by omega) (fun j σ B' H' => (∃ b, σ = [some x, some v, some (.int ((0 : Nat) : Int)), b]) ∧ Step B H B' H') (fun Bm Hm sm => ⟨⟨_, rfl⟩, s1.trans sm⟩) ?_ ?_
      · rintro Bm Hm sm j σ'' B2 H2 hj e3 e4 ⟨⟨b, rfl⟩, s2⟩
        have atL : ∀ (n : Nat), n < L.length → atI (L.map fun n : Nat => PyData.int (n : Int)) (n : Int) = some (.int ((L.getD n 0 : Nat) : Int)) := fun n hn => atI_nat (by rw [List.getElem?_map, of_getD (d := 0) hn]; rfl)
        refine q_skip e4 ((eb_and (a := decide (0 < j)) (b := false) ((eb_test (ev_gt (ev_var rfl (.int _)) ev_int)).to (by simp)) fun hpos => (eb_not (a := true) (eb_B ?_))).to (by simp)) fun B3 H3 s3 => ?_
        · have hpos' : 0 < j := of_decide_eq_true hpos
          have hc := hch (j - 1) (by omega)
          rw [show j - 1 + 1 = j by omega] at hc
          refine ev_meth (ev_var rfl ((tilesV K rs).m s2.eb hx)) rfl (el_cons (ev_ixTd (rowE rfl rfl s2.eb) ((ev_sub (ev_var rfl (.int _)) ev_int).to (Pa := dp (.int ((j - 1 : Nat) : Int))) (by rw [show ((j : Nat) : Int) - 1 = ((j - 1 : Nat) : Int) by omega])) (atL (j - 1) (by omega))) (el_cons (ev_ixTd (rowE rfl rfl s2.eb) (ev_var rfl (.int _)) (atL j hj)) el_nil)) fun y vs B6 e6 py pv => ?_
          obtain ⟨u1, u2, rfl, q1, q2⟩ := all2_2 pv
          cases dp_int.mp q1
          cases dp_int.mp q2
          exact ⟨rs, y, _, _, _, _, rfl, py, of_gt (hin _ (List.mem_of_getElem? (of_getD (l := L) (i := j - 1) (d := 0) (by omega)))), of_gt (hin _ (List.mem_of_getElem? (of_getD (d := 0) hj))), by rw [dT hc]⟩
        · refine s_skip s3.bh ((eb_and (a := false) (b := false) ((eb_test (ev_gt (ev_var rfl (.int _)) ev_int)).to rfl) fun z => by cases z).to rfl) fun B4 H4 s4 => ⟨B4, e3.trans (s3.eb.trans s4.eb), s4.bh, ⟨_, rfl⟩, (s2.trans s3).trans s4⟩
      · rintro σ'' B2 H2 e3 e4 ⟨⟨b, rfl⟩, s2⟩
        exact ⟨B2, e1.trans e3, e4, ⟨_, _, rfl⟩, s2⟩
    · rintro σ' B1 H1 e1 e2 ⟨⟨a, b, rfl⟩, s1⟩
      exact s_ret e2 ev_bl fun v B7 H7 s7 p7 => k v B7 H7 (s1.trans s7) p7
theorem ok_map {g : Tile → Tile} {rs : List Tile} (h : okTiles rs) (hg : ∀ t, okMark t.n ∧ okMark t.e ∧ okMark t.s ∧ okMark t.w → okMark (g t).n ∧ okMark (g t).e ∧ okMark (g t).s ∧ okMark (g t).w) : okTiles (rs.map g) := ⟨by rw [List.length_map]; exact h.1, by rw [List.length_map]; exact h.2.1, fun t ht => by
  obtain ⟨u, hu, rfl⟩ := List.mem_map.mp ht
  exact hg u (h.2.2 u hu)⟩
abbrev s_turned : Stmt := top 32
abbrev N_turned : List Str := ["tiles", "row"]
abbrev P_turned : List Str := ["tiles"]
theorem sc_turned : FnScope N_turned P_turned (defScope s_turned) := ⟨rfl, rfl, rfl, by decide +kernel, rfl, by decide +kernel, by decide +kernel⟩
abbrev spTurned (K : PySem.W.Frag) : Sp := spP fun vs B R => ∃ x rs, vs = [x] ∧ (tilesV K rs).p B x ∧ okTiles rs ∧ R = tilesV K (rs.map turnT)
theorem ok_turned (T : TB mg) (m_Tiles_tiles : Mt P w K mg base CX0 1 (ca K "Tiles") "tiles" (spTiles K)) (c_Tiles : Mr P w K mg base CX0 1 "Tiles" (ca K "Tiles") (spTilesI K)) (F : FnP K "turned" "turned" s_turned f fd) : FnOk P w K mg base CX0 3 f fd P_turned (spTurned K) := by
  refine F.ok sc_turned (fun vs H Q E h => ?_) (fun cdv A outer s H vs Q E hr h => ?_)
  · obtain ⟨B, R, e, ⟨x, rs, rfl, _⟩, _⟩ := h
    rfl
  · obtain ⟨B, R, e, ⟨x, rs, rfl, hx, ok, rfl⟩, k⟩ := h
    refine ⟨_, PSs.nox (pss_one (ps_ret (pe_mr c_Tiles hr (by omega) rfl pass0 (pa_cons (pe_lc (own := [("row", 1)]) (g := gName 1) (tt := tYes) rfl sc_turned.nd (kpi_list (K := K) rfl (pe_ml0 m_Tiles_tiles hr (by omega) pass0 (pv 0))) (blkOk_by (N := N_turned) (sc := defScope s_turned) (by decide +kernel)) (fun _ _ _ _ _ => pg_name (i := 1) sc_turned.nd rfl (Or.inl rfl)) (fun _ _ _ _ _ => pts_nil) (fun _ _ _ _ _ => (pe_tup (pa_cons (pe_ix (kix_tup (K := K) rfl) (pv 1) pe_int (fun _ _ => rfl)) (pa_cons (pe_ix (kix_tup (K := K) rfl) (pv 1) pe_int (fun _ _ => rfl)) (pa_cons (pe_ix (kix_tup (K := K) rfl) (pv 1) pe_int (fun _ _ => rfl)) (pa_cons (pe_ix (kix_tup (K := K) rfl) (pv 1) pe_int (fun _ _ => rfl)) pa_nil))))))) pa_nil)))), ?_⟩
    have tl : ∀ {σ : L2.St} {B' : Hp}, σ[0]? = some (some x) → Ex B B' → EvP (tMeth (ca K "Tiles") "tiles" (spTiles K) [] E0 (tVar 0) tNil) σ B' (dp (rowsD rs)) := fun h e => ev_meth (ev_var h ((tilesV K rs).m e hx)) rfl el_nil fun y vs B6 e6 py pv => by
      have : vs = [] := by cases vs with | nil => rfl | cons _ _ => exact pv.elim
      subst this
      exact ⟨_, y, rfl, py, rfl⟩
    have lc := ev_lcL (j := 1) (ws := [1]) (K := K) (t := tYes) (te := tTup (tCons (tOp (rIxT K) (tVar 1) (tC (.int 1))) (tCons (tOp (rIxT K) (tVar 1) (tC (.int 2))) (tCons (tOp (rIxT K) (tVar 1) (tC (.int 3))) (tCons (tOp (rIxT K) (tVar 1) (tC (.int 0))) (tNil)))))) (tl := tMeth (ca K "Tiles") "tiles" (spTiles K) [] E0 (tVar 0) tNil) (σ := start N_turned [x]) (B := B) rs (fun t => dp t.d) (fun _ => true) (fun t => dp (turnT t).d) ((tl rfl (Ex.refl _)).imp fun _ _ _ p => rows_lst.mpr p) (by have := ok.2.1; omega) (fun _ => rfl) (fun y v B' hy e' pv => eb_yes)
      (fun y v B' hy _ e' pv => EvP.tupD (ds := [.int y.e, .int y.s, .int y.w, .int y.n]) (ev_tup (el_cons (ev_ixTd (ev_var rfl pv) ev_int at_e) (el_cons (ev_ixTd (ev_var rfl pv) ev_int at_s) (el_cons (ev_ixTd (ev_var rfl pv) ev_int at_w) (el_cons (ev_ixTd (ev_var rfl pv) ev_int at_n) el_nil)))) (Nat.le_of_ble_eq_true rfl)))
    refine s_ret e (ev_make (Fs := tilesF (rs.map turnT)) (el_cons lc el_nil) fun vs B' e' pv => ?_) k
    obtain ⟨u, rfl, pu⟩ := all2_1 pv
    refine ⟨rs.map turnT, u, rfl, ?_, ok_map ok fun t h => ⟨h.2.1, h.2.2.1, h.2.2.2, h.1⟩, rfl⟩
    rw [List.filter_eq_self.mpr (fun _ _ => rfl)] at pu
    refine rows_lst.mp ?_
    rw [List.map_map]
    exact pu
abbrev s_mirrored : Stmt := top 33
abbrev N_mirrored : List Str := ["tiles", "row"]
abbrev P_mirrored : List Str := ["tiles"]
theorem sc_mirrored : FnScope N_mirrored P_mirrored (defScope s_mirrored) := ⟨rfl, rfl, rfl, by decide +kernel, rfl, by decide +kernel, by decide +kernel⟩
abbrev spMirrored (K : PySem.W.Frag) : Sp := spP fun vs B R => ∃ x rs, vs = [x] ∧ (tilesV K rs).p B x ∧ okTiles rs ∧ R = tilesV K (rs.map mirT)
theorem ok_mirrored (T : TB mg) (m_Tiles_tiles : Mt P w K mg base CX0 1 (ca K "Tiles") "tiles" (spTiles K)) (c_Tiles : Mr P w K mg base CX0 1 "Tiles" (ca K "Tiles") (spTilesI K)) (F : FnP K "mirrored" "mirrored" s_mirrored f fd) : FnOk P w K mg base CX0 3 f fd P_mirrored (spMirrored K) := by
  refine F.ok sc_mirrored (fun vs H Q E h => ?_) (fun cdv A outer s H vs Q E hr h => ?_)
  · obtain ⟨B, R, e, ⟨x, rs, rfl, _⟩, _⟩ := h
    rfl
  · obtain ⟨B, R, e, ⟨x, rs, rfl, hx, ok, rfl⟩, k⟩ := h
    refine ⟨_, PSs.nox (pss_one (ps_ret (pe_mr c_Tiles hr (by omega) rfl pass0 (pa_cons (pe_lc (own := [("row", 1)]) (g := gName 1) (tt := tYes) rfl sc_mirrored.nd (kpi_list (K := K) rfl (pe_ml0 m_Tiles_tiles hr (by omega) pass0 (pv 0))) (blkOk_by (N := N_mirrored) (sc := defScope s_mirrored) (by decide +kernel)) (fun _ _ _ _ _ => pg_name (i := 1) sc_mirrored.nd rfl (Or.inl rfl)) (fun _ _ _ _ _ => pts_nil) (fun _ _ _ _ _ => (pe_tup (pa_cons (pe_ix (kix_tup (K := K) rfl) (pv 1) pe_int (fun _ _ => rfl)) (pa_cons (pe_ix (kix_tup (K := K) rfl) (pv 1) pe_int (fun _ _ => rfl)) (pa_cons (pe_ix (kix_tup (K := K) rfl) (pv 1) pe_int (fun _ _ => rfl)) (pa_cons (pe_ix (kix_tup (K := K) rfl) (pv 1) pe_int (fun _ _ => rfl)) pa_nil))))))) pa_nil)))), ?_⟩
    have tl : ∀ {σ : L2.St} {B' : Hp}, σ[0]? = some (some x) → Ex B B' → EvP (tMeth (ca K "Tiles") "tiles" (spTiles K) [] E0 (tVar 0) tNil) σ B' (dp (rowsD rs)) := fun h e => ev_meth (ev_var h ((tilesV K rs).m e hx)) rfl el_nil fun y vs B6 e6 py pv => by
      have : vs = [] := by cases vs with | nil => rfl | cons _ _ => exact pv.elim
      subst this
      exact ⟨_, y, rfl, py, rfl⟩
    have lc := ev_lcL (j := 1) (ws := [1]) (K := K) (t := tYes) (te := tTup (tCons (tOp (rIxT K) (tVar 1) (tC (.int 0))) (tCons (tOp (rIxT K) (tVar 1) (tC (.int 3))) (tCons (tOp (rIxT K) (tVar 1) (tC (.int 2))) (tCons (tOp (rIxT K) (tVar 1) (tC (.int 1))) (tNil)))))) (tl := tMeth (ca K "Tiles") "tiles" (spTiles K) [] E0 (tVar 0) tNil) (σ := start N_mirrored [x]) (B := B) rs (fun t => dp t.d) (fun _ => true) (fun t => dp (mirT t).d) ((tl rfl (Ex.refl _)).imp fun _ _ _ p => rows_lst.mpr p) (by have := ok.2.1; omega) (fun _ => rfl) (fun y v B' hy e' pv => eb_yes)
      (fun y v B' hy _ e' pv => EvP.tupD (ds := [.int y.n, .int y.w, .int y.s, .int y.e]) (ev_tup (el_cons (ev_ixTd (ev_var rfl pv) ev_int at_n) (el_cons (ev_ixTd (ev_var rfl pv) ev_int at_w) (el_cons (ev_ixTd (ev_var rfl pv) ev_int at_s) (el_cons (ev_ixTd (ev_var rfl pv) ev_int at_e) el_nil)))) (Nat.le_of_ble_eq_true rfl)))
    refine s_ret e (ev_make (Fs := tilesF (rs.map mirT)) (el_cons lc el_nil) fun vs B' e' pv => ?_) k
    obtain ⟨u, rfl, pu⟩ := all2_1 pv
    refine ⟨rs.map mirT, u, rfl, ?_, ok_map ok fun t h => ⟨h.1, h.2.2.2, h.2.2.1, h.2.1⟩, rfl⟩
    rw [List.filter_eq_self.mpr (fun _ _ => rfl)] at pu
    refine rows_lst.mp ?_
    rw [List.map_map]
    exact pu
end
end TL
set_option maxHeartbeats 4000000
/-! has_neighbours, lean -/
namespace TL
open PySem L2
def sideB (rs : List Tile) (one : Nat) (l : List Nat) : Bool × Bool × Bool × Bool :=
  (l.any fun o => decide ((gt rs o).s = (gt rs one).n), l.any fun o => decide ((gt rs one).e = (gt rs o).w), l.any fun o => decide ((gt rs one).s = (gt rs o).n), l.any fun o => decide ((gt rs o).e = (gt rs one).w))
def hasN (rs : List Tile) (one : Nat) (l : List Nat) : Bool := let b := sideB rs one l; b.1 && (b.2.1 && (b.2.2.1 && b.2.2.2))
def filtN (rs : List Tile) (l : List Nat) : List Nat := l.filter fun one => hasN rs one l
def leanW (rs : List Tile) (l : List Nat) : List Nat := if (filtN rs l).length < l.length then leanW rs (filtN rs l) else l
termination_by l.length
section
variable {K : PySem.W.Frag} {σ : L2.St} {B H : Hp} {ta tb : TE}
theorem in_bools (b : Bool) : ∀ l : List Bool, inV (.bl b) (l.map fun b => V.bl b) = l.contains b
  | [] => rfl
  | c :: l => by
    show ((c == b) || inV (.bl b) (l.map fun b => V.bl b)) = _
    rw [in_bools b l, List.contains_cons]
    cases b <;> cases c <;> rfl
theorem all2_bools {B : Hp} : ∀ {vs : List V} {l : List Bool}, all2 B vs (l.map fun b => dp (.bool b)) → vs = l.map fun b => V.bl b
  | [], [], _ => rfl
  | v :: vs, i :: l, ⟨h1, h2⟩ => by
    rw [dp_bl.mp h1, all2_bools (vs := vs) (l := l) h2]
    rfl
  | [], _ :: _, h => h.elim
  | _ :: _, [], h => h.elim
theorem ev_inB {neg b : Bool} {l : List Bool} (ha : EvP ta σ B (dp (.bool b))) (hb : EvP tb σ B (lst (l.map fun b => dp (.bool b)))) : EvP (tOp (rIn K neg) ta tb) σ B (dp (.bool (if neg = true then !(l.contains b) else l.contains b))) := ev_op ha hb fun B' x y _ hx hy H e Q q => by
  cases dp_bl.mp hx
  obtain ⟨a, xs, rfl, h1, h2⟩ := hy
  have := all2_bools h2
  subst this
  refine ⟨a, _, rfl, .inl (SqL.of (e _ _ h1)), rfl, ?_, q _ B' H (Step.refl e) (dp_bl.mpr ?_)⟩
  · rw [List.all_map]
    exact List.all_eq_true.mpr fun _ _ => rfl
  · rw [in_bools]
theorem any_snoc {α : Type} {f : α → Bool} {l : List α} {i : Nat} {x : α} (h : l[i]? = some x) : (l.take (i + 1)).any f = ((l.take i).any f || f x) := by
  rw [get_take h, List.any_append]
  simp
theorem rgV_nat (n : Nat) : rgV 0 (n : Int) = (List.range n).map fun n : Nat => V.int (n : Int) := by
  unfold rgV
  simp
/-- list(range(n)) -/
theorem ev_listRg {n : Nat} (ha : EvP ta σ B (dp (.int (n : Nat)))) (hn : n < 1000000) : EvP (tLstRg (tRg1 ta)) σ B (lst (natP (List.range n))) := fun H e Q q => ha H e _ fun x B1 H1 s1 p1 => by
  cases dp_int.mp p1
  refine ⟨(n : Int), rfl, ⟨by omega, by omega, by omega, by omega, by omega⟩, fun p hp => ?_⟩
  rw [rgV_nat]
  refine q _ _ _ (s1.trans (Step.new s1.bh hp)) ⟨p, _, rfl, upd_same, ?_⟩
  have : ∀ l : List Nat, all2 (upd B1 p (.lst ((List.range n).map fun n : Nat => V.int (n : Int)))) (l.map fun n : Nat => V.int (n : Int)) (natP l) := fun l => by
    induction l with
    | nil => exact True.intro
    | cons a l ih => exact ⟨.int _, ih⟩
  exact this _
end
section
variable {P : Program} {w : World} {K : PySem.W.Frag} {mg : Str → Option Value} {base : Heap} {f : Addr} {fd : FuncData}
abbrev s_has_neighbours : Stmt := top 35
abbrev N_has_neighbours : List Str := ["tiles", "one", "left", "sides", "other"]
abbrev P_has_neighbours : List Str := ["tiles", "one", "left"]
theorem sc_has_neighbours : FnScope N_has_neighbours P_has_neighbours (defScope s_has_neighbours) := ⟨rfl, rfl, rfl, by decide +kernel, rfl, by decide +kernel, by decide +kernel⟩
abbrev spHasN (K : PySem.W.Frag) : Sp := spP fun vs B R => ∃ x one v rs l, vs = [x, .int (one : Nat), v] ∧ (tilesV K rs).p B x ∧ (lst (natP l)).p B v ∧ one < rs.length ∧ (∀ a ∈ l, a < rs.length) ∧ R = dp (.bool (hasN rs one l))
abbrev quadP (b : Bool × Bool × Bool × Bool) : List VP := [b.1, b.2.1, b.2.2.1, b.2.2.2].map fun b => dp (.bool b)
theorem ok_hasN (T : TB mg) (m_Tiles_is_beside : Mt P w K mg base CX0 1 (ca K "Tiles") "is_beside" (spBeside K)) (m_Tiles_is_below : Mt P w K mg base CX0 1 (ca K "Tiles") "is_below" (spBelow K)) (F : FnP K "has_neighbours" "has_neighbours" s_has_neighbours f fd) : FnOk P w K mg base CX0 2 f fd P_has_neighbours (spHasN K) := by
  refine F.ok sc_has_neighbours (fun vs H Q E h => ?_) (fun cdv A outer s H vs Q E hr h => ?_)
  · obtain ⟨B, R, e, ⟨x, one, v, rs, l, rfl, _⟩, _⟩ := h
    rfl
  · obtain ⟨B, R, e, ⟨x, one, v, rs, l, rfl, hx, hv, h1, hl, rfl⟩, k⟩ := h
    refine ⟨_, PSs.nox (pss_cons (ps_set (i := 3) sc_has_neighbours.nd rfl (Or.inl rfl) (pe_lst (pa_cons pe_bl (pa_cons pe_bl (pa_cons pe_bl (pa_cons pe_bl pa_nil))))))
      (pss_cons (ps_for PassesOwn.never rfl (kpi_list (K := K) rfl (pv 2)) (pg_name (i := 4) sc_has_neighbours.nd rfl (Or.inl rfl)) (pss_cons (ps_asg (pe_or (pe_ix (kix_list (K := K) rfl) (pv 3) pe_int (fun _ _ => rfl)) (pe_one (pe_ml m_Tiles_is_below hr (by omega) pass0 (pv 0) (pa_cons (pv 4) (pa_cons (pv 1) pa_nil))))) (pg_sub (pv 3) pe_int set_list))
      (pss_cons (ps_asg (pe_or (pe_ix (kix_list (K := K) rfl) (pv 3) pe_int (fun _ _ => rfl)) (pe_one (pe_ml m_Tiles_is_beside hr (by omega) pass0 (pv 0) (pa_cons (pv 1) (pa_cons (pv 4) pa_nil))))) (pg_sub (pv 3) pe_int set_list))
      (pss_cons (ps_asg (pe_or (pe_ix (kix_list (K := K) rfl) (pv 3) pe_int (fun _ _ => rfl)) (pe_one (pe_ml m_Tiles_is_below hr (by omega) pass0 (pv 0) (pa_cons (pv 1) (pa_cons (pv 4) pa_nil))))) (pg_sub (pv 3) pe_int set_list))
      (pss_one (ps_asg (pe_or (pe_ix (kix_list (K := K) rfl) (pv 3) pe_int (fun _ _ => rfl)) (pe_one (pe_ml m_Tiles_is_beside hr (by omega) pass0 (pv 0) (pa_cons (pv 4) (pa_cons (pv 1) pa_nil))))) (pg_sub (pv 3) pe_int set_list)))))))
      (pss_one (ps_ret (pe_cmpR (kop_notIn (K := K) rfl) pe_bl (pv 3) (by rfl)))))), ?_⟩
    refine q (s_asgN e (en_lst (el_cons ev_bl (el_cons ev_bl (el_cons ev_bl (el_cons ev_bl el_nil)))) (Nat.le_of_ble_eq_true rfl)) fun p B1 H1 hp s1 a1 => ?_)
    dsimp only
    refine q_forL (Ps := natP l) s1.bh (ev_var rfl ((lst _).m s1.eb hv)) (fun i σ B' H' => (∃ a, σ = [some x, some (.int (one : Nat)), some v, some (.ref p), a]) ∧ StepX p B H B' H' ∧ Acc p (quadP (sideB rs one (l.take i))) B' H')
      (fun Bl Hl sl => ⟨⟨_, rfl⟩, (s1.trans sl).x p, a1.step sl⟩) ?_ ?_
    · rintro Bl Hl sl i Pi vi σ' B2 H2 hi e1 e2 pv ⟨⟨a, rfl⟩, s2, a2⟩
      obtain ⟨o, ho, rfl⟩ := get_map hi
      cases dp_int.mp pv
      have hol := hl o (List.mem_of_getElem? ho)
      have below : ∀ {σ : L2.St} {B' : Hp} {i j : Nat} {t1 t2 : TE}, σ[0]? = some (some x) → Ex B B' → EvP t1 σ B' (dp (.int (i : Nat))) → EvP t2 σ B' (dp (.int (j : Nat))) → i < rs.length → j < rs.length → EvP (tMeth (ca K "Tiles") "is_below" (spBelow K) [] E0 (tVar 0) (tCons t1 (tCons t2 tNil))) σ B' (dp (.bool (decide ((gt rs i).s = (gt rs j).n)))) := fun h0 e h1 h2 hi hj =>
        ev_meth (ev_var h0 ((tilesV K rs).m e hx)) rfl (el_cons h1 (el_cons h2 el_nil)) fun y vs B6 e6 py pv => by
          obtain ⟨u1, u2, rfl, q1, q2⟩ := all2_2 pv
          cases dp_int.mp q1
          cases dp_int.mp q2
          exact ⟨rs, y, _, _, _, _, rfl, py, of_gt hi, of_gt hj, rfl⟩
      have beside : ∀ {σ : L2.St} {B' : Hp} {i j : Nat} {t1 t2 : TE}, σ[0]? = some (some x) → Ex B B' → EvP t1 σ B' (dp (.int (i : Nat))) → EvP t2 σ B' (dp (.int (j : Nat))) → i < rs.length → j < rs.length → EvP (tMeth (ca K "Tiles") "is_beside" (spBeside K) [] E0 (tVar 0) (tCons t1 (tCons t2 tNil))) σ B' (dp (.bool (decide ((gt rs i).e = (gt rs j).w)))) := fun h0 e h1 h2 hi hj =>
        ev_meth (ev_var h0 ((tilesV K rs).m e hx)) rfl (el_cons h1 (el_cons h2 el_nil)) fun y vs B6 e6 py pv => by
          obtain ⟨u1, u2, rfl, q1, q2⟩ := all2_2 pv
          cases dp_int.mp q1
          cases dp_int.mp q2
          exact ⟨rs, y, _, _, _, _, rfl, py, of_gt hi, of_gt hj, rfl⟩
      generalize hb : sideB rs one (l.take i) = b at a2
      obtain ⟨b0, b1, b2, b3⟩ := b
      refine q (s_store (Ps := quadP (b0, b1, b2, b3)) (j := 0) (P := dp (.bool (b0 || decide ((gt rs o).s = (gt rs one).n)))) e2 a2 (fun B' e' pl => (ev_orV (ev_ixL (ev_var rfl pl) ev_int rfl) fun _ => below rfl (s2.eb.trans e') (ev_var rfl (.int _)) (ev_var rfl (.int _)) hol h1).b) (ev_var rfl rfl) ev_int (Nat.le_of_ble_eq_true rfl) (fun _ => .bl _) fun B3 H3 e3 e3' a3 hs3 => ?_)
      obtain ⟨H4, s4, o4⟩ := hs3
      have s3 := s2.ofApp s4 o4 e3'
      refine q (s_store (Ps := [dp (.bool (b0 || decide ((gt rs o).s = (gt rs one).n))), dp (.bool b1), dp (.bool b2), dp (.bool b3)]) (j := 1) (P := dp (.bool (b1 || decide ((gt rs one).e = (gt rs o).w)))) e3' a3 (fun B' e' pl => (ev_orV (ev_ixL (ev_var rfl pl) ev_int rfl) fun _ => beside rfl (s3.eb.trans e') (ev_var rfl (.int _)) (ev_var rfl (.int _)) h1 hol).b) (ev_var rfl rfl) ev_int (Nat.le_of_ble_eq_true rfl) (fun _ => .bl _) fun B5 H5 e5 e5' a5 hs5 => ?_)
      obtain ⟨H6, s6, o6⟩ := hs5
      have s5 := s3.ofApp s6 o6 e5'
      refine q (s_store (Ps := [dp (.bool (b0 || decide ((gt rs o).s = (gt rs one).n))), dp (.bool (b1 || decide ((gt rs one).e = (gt rs o).w))), dp (.bool b2), dp (.bool b3)]) (j := 2) (P := dp (.bool (b2 || decide ((gt rs one).s = (gt rs o).n)))) e5' a5 (fun B' e' pl => (ev_orV (ev_ixL (ev_var rfl pl) ev_int rfl) fun _ => below rfl (s5.eb.trans e') (ev_var rfl (.int _)) (ev_var rfl (.int _)) h1 hol).b) (ev_var rfl rfl) ev_int (Nat.le_of_ble_eq_true rfl) (fun _ => .bl _) fun B7 H7 e7 e7' a7 hs7 => ?_)
      obtain ⟨H8, s8, o8⟩ := hs7
      have s7 := s5.ofApp s8 o8 e7'
      refine s_store (Ps := [dp (.bool (b0 || decide ((gt rs o).s = (gt rs one).n))), dp (.bool (b1 || decide ((gt rs one).e = (gt rs o).w))), dp (.bool (b2 || decide ((gt rs one).s = (gt rs o).n))), dp (.bool b3)]) (j := 3) (P := dp (.bool (b3 || decide ((gt rs o).e = (gt rs one).w)))) e7' a7 (fun B' e' pl => (ev_orV (ev_ixL (ev_var rfl pl) ev_int rfl) fun _ => beside rfl (s7.eb.trans e') (ev_var rfl (.int _)) (ev_var rfl (.int _)) hol h1).b) (ev_var rfl rfl) ev_int (Nat.le_of_ble_eq_true rfl) (fun _ => .bl _) fun B9 H9 e9 e9' a9 hs9 => ?_
      obtain ⟨H10, s10, o10⟩ := hs9
      refine ⟨B9, e1.trans (e3.trans (e5.trans (e7.trans e9))), e9', ⟨_, rfl⟩, s7.ofApp s10 o10 e9', a9.to ?_⟩
      unfold sideB at hb ⊢
      simp only [Prod.mk.injEq] at hb
      obtain ⟨rfl, rfl, rfl, rfl⟩ := hb
      simp only [any_snoc ho]
      rfl
    · rintro σ' B2 H2 e1 e2 ⟨⟨a, rfl⟩, s2, a2⟩
      have full : Step B H B2 H2 := ⟨s2.eb, s2.bh, fun c o h => s2.eh c o (fun z => by subst z; rw [hp] at h; cases h) h, fun c h1 h2 => by
        by_cases z : c = p
        · subst z; exact absurd hp h1
        · exact s2.hid c z h1 h2⟩
      obtain ⟨B3, s3, e3, p3⟩ := a2.done full hp
      rw [List.length_map, List.take_length] at p3
      refine s_ret s3.bh (ev_inB (neg := true) (l := [(sideB rs one l).1, (sideB rs one l).2.1, (sideB rs one l).2.2.1, (sideB rs one l).2.2.2]) ev_bl (ev_var rfl p3)) fun v B4 H4 s4 p4 => ?_
      refine k v B4 H4 (s3.trans s4) ?_
      have : (if true = true then !([(sideB rs one l).1, (sideB rs one l).2.1, (sideB rs one l).2.2.1, (sideB rs one l).2.2.2].contains false) else [(sideB rs one l).1, (sideB rs one l).2.1, (sideB rs one l).2.2.1, (sideB rs one l).2.2.2].contains false) = hasN rs one l := by
        rw [if_pos rfl]
        unfold hasN
        generalize sideB rs one l = b
        obtain ⟨b0, b1, b2, b3⟩ := b
        cases b0 <;> cases b1 <;> cases b2 <;> cases b3 <;> rfl
      rw [← this]
      exact p4
end
end TL
set_option maxHeartbeats 4000000
namespace TL
open PySem L2
theorem filtN_le (rs : List Tile) (l : List Nat) : (filtN rs l).length ≤ l.length := List.length_filter_le _ _
theorem filtN_eq {rs : List Tile} {l : List Nat} (h : (filtN rs l).length = l.length) : filtN rs l = l := (List.filter_sublist (l := l)).eq_of_length h
theorem leanW_go {rs : List Tile} {l : List Nat} (h : (filtN rs l).length < l.length) : leanW rs l = leanW rs (filtN rs l) := by
  rw [leanW, if_pos h]
theorem leanW_stop {rs : List Tile} {l : List Nat} (h : (filtN rs l).length = l.length) : leanW rs l = l := by
  rw [leanW, if_neg (by omega)]
section
variable {P : Program} {w : World} {K : PySem.W.Frag} {mg : Str → Option Value} {base : Heap} {f : Addr} {fd : FuncData}
abbrev s_lean : Stmt := top 34
abbrev N_lean : List Str := ["tiles", "left", "many", "one"]
abbrev P_lean : List Str := ["tiles"]
theorem sc_lean : FnScope N_lean P_lean (defScope s_lean) := ⟨rfl, rfl, rfl, by decide +kernel, rfl, by decide +kernel, by decide +kernel⟩
abbrev spLean (K : PySem.W.Frag) : Sp := spP fun vs B R => ∃ x rs, vs = [x] ∧ (tilesV K rs).p B x ∧ rs.length ≤ 200 ∧ R = dp (natsD (leanW rs (List.range rs.length)))
theorem ok_lean (T : TB mg) (m_Tiles_many : Mt P w K mg base CX0 1 (ca K "Tiles") "many" (spMany K)) (c_has_neighbours : Cl P w K mg base CX0 2 "has_neighbours" (spHasN K)) (F : FnP K "lean" "lean" s_lean f fd) : FnOk P w K mg base CX0 3 f fd P_lean (spLean K) := by
  refine F.ok sc_lean (fun vs H Q E h => ?_) (fun cdv A outer s H vs Q E hr h => ?_)
  · obtain ⟨B, R, e, ⟨x, rs, rfl, _⟩, _⟩ := h
    rfl
  · obtain ⟨B, R, e, ⟨x, rs, rfl, hx, h200, rfl⟩, k⟩ := h
    refine ⟨_, PSs.nox (pss_cons (ps_set (i := 1) sc_lean.nd rfl (Or.inr rfl) (pe_listRg rfl rfl T.list (prg_1 rfl T.range (pe_ml0 m_Tiles_many hr (by omega) pass0 (pv 0)))))
      (pss_cons (ps_set (i := 2) sc_lean.nd rfl (Or.inl rfl) (L2.pe_un un_neg pe_int))
      (pss_cons (ps_while PassesOwn.never (pt_cmpR op_ne (pv 2) (pe_callB (kcall_len (K := K) rfl) (by rfl) T.len PySem.boot_len (pa_cons (pv 1) pa_nil)) (nomark _)) (pss_cons (ps_set (i := 2) sc_lean.nd rfl (Or.inl rfl) (pe_callB (kcall_len (K := K) rfl) (by rfl) T.len PySem.boot_len (pa_cons (pv 1) pa_nil)))
      (pss_one (ps_set (i := 1) sc_lean.nd rfl (Or.inr rfl) (pe_lc (own := [("one", 3)]) (g := gName 3) (tt := _) rfl sc_lean.nd (kpi_list (K := K) rfl (pv 1)) (blkOk_by (N := N_lean) (sc := defScope s_lean) (by decide +kernel)) (fun _ _ _ _ _ => pg_name (i := 3) sc_lean.nd rfl (Or.inl rfl)) (fun _ _ _ _ _ => (pts_one (pt_val (pe_cl c_has_neighbours hr (by omega) rfl pass0 (pa_cons (pv 0) (pa_cons (pv 3) (pa_cons (pv 1) pa_nil))))))) (fun _ _ _ _ _ => (pv 3)))))))
      (pss_one (ps_ret (pv 1)))))), ?_⟩
    have mn : ∀ {σ : L2.St} {B' : Hp}, σ[0]? = some (some x) → Ex B B' → EvP (tMeth (ca K "Tiles") "many" (spMany K) [] E0 (tVar 0) tNil) σ B' (dp (.int rs.length)) := fun h e => ev_meth (ev_var h ((tilesV K rs).m e hx)) rfl el_nil fun y vs B6 e6 py pv => by
      have : vs = [] := by cases vs with | nil => rfl | cons _ _ => exact pv.elim
      subst this
      exact ⟨rs, y, rfl, py, rfl⟩
    refine q_asg e (ev_listRg (n := rs.length) (mn rfl (Ex.refl _)) (by omega)) fun vl B1 H1 s1 p1 => ?_
    refine q_asg s1.bh (ev_neg ev_int) fun vm B2 H2 s2 p2 => ?_
    cases dp_int.mp p2
    have s12 := s1.trans s2
    refine q_while (fun m σ B' H' => ∃ vl c l a, σ = [some x, some vl, some (.int c), a] ∧ Step B H B' H' ∧ (lst (natP l)).p B' vl ∧ l.length ≤ 200 ∧ (∀ a ∈ l, a < rs.length) ∧ (c = l.length → l = leanW rs (List.range rs.length)) ∧ (c ≠ l.length → leanW rs l = leanW rs (List.range rs.length)) ∧ m = if c = l.length then 0 else l.length + 1)
      (rs.length + 1) s2.bh ⟨vl, -1, List.range rs.length, _, rfl, s12, (lst _).m s2.eb p1, by rw [List.length_range]; exact h200, fun a ha => List.mem_range.mp ha, (fun z => by omega), (fun _ => rfl), by rw [List.length_range, if_neg (by omega)]⟩ ?_
    rintro m σ' B3 H3 e3 e3' ⟨vl, c, l, a, rfl, s3, pl, l200, lin, le1, le2, hm⟩
    refine ⟨!(decide (c = l.length)), eb_test (ev_ne (ev_var rfl (.int _)) ((ev_lenL (ev_var rfl pl)).to (by rw [List.length_map]))), fun B4 H4 s4 => ?_⟩
    by_cases hc : c = l.length
    · rw [dT hc]
      show tRet (tVar 1) _ _ _
      refine s_ret s4.bh (ev_var rfl ((lst _).m s4.eb pl)) fun v B5 H5 s5 p5 => ?_
      refine k v B5 H5 ((s3.trans s4).trans s5) (nats_dp.mp ?_)
      rw [← le1 hc]
      exact p5
    · rw [dF hc]
      rw [if_neg hc] at hm
      refine iteT ?_
      refine q_asg s4.bh ((ev_lenL (ev_var rfl ((lst _).m s4.eb pl))).to (by rw [List.length_map])) fun v5 B5 H5 s5 p5 => ?_
      cases dp_int.mp p5
      have pl5 := (lst _).m (s4.eb.trans s5.eb) pl
      have s35 := (s3.trans s4).trans s5
      refine s_asg s5.bh (ev_lcL l (fun n : Nat => dp (.int (n : Int))) (fun one => hasN rs one l) (fun n : Nat => dp (.int (n : Int))) (ev_var rfl pl5) (by omega) (fun _ => rfl) (fun y v B' hy e' pv => eb_B ?_) fun y v B' hy _ e' pv => ev_var rfl pv) fun v6 B6 H6 s6 p6 => ?_
      · cases dp_int.mp pv
        refine ev_call (el_cons (ev_var rfl ((tilesV K rs).m (s35.eb.trans e') hx)) (el_cons (ev_var rfl (P := dp (.int (y : Nat))) (.int _)) (el_cons (ev_var rfl ((lst _).m e' pl5)) el_nil))) fun vs B7 e7 pvs => ?_
        match vs, pvs with
        | [v1, v2, v3], ⟨q1, q2, q3, _⟩ =>
        cases dp_int.mp q2
        exact ⟨v1, y, v3, rs, l, rfl, q1, q3, lin y hy, lin, rfl⟩
      · have fl := filtN_le rs l
        refine ⟨_, ?_, B6, e3.trans (s4.eb.trans (s5.eb.trans s6.eb)), s6.bh, v6, l.length, filtN rs l, _, rfl, s35.trans s6, p6, by omega, fun a ha => lin a (List.mem_filter.mp ha).1, fun z => ?_, fun z => ?_, rfl⟩
        · rw [hm]
          split <;> omega
        · have z' : (filtN rs l).length = l.length := by omega
          rw [filtN_eq z', ← le2 hc, leanW_stop z']
        · rw [← le2 hc]
          exact (leanW_go (by omega)).symm
end
end TL
set_option maxHeartbeats 4000000
/-! written -/
namespace TL
open PySem L2
def rJoinS (K : PySem.W.Frag) : V → List V → Hp → VK → Prop := fun x xs H Q => ∃ a p, ∃ ys : List Str, x = .str a ∧ xs = [.ref p] ∧ (SqL K H p (ys.map V.str) ∨ SqT K H p (ys.map V.str)) ∧
      (ys.map (·.length)).sum + ys.length * a.length ≤ 16777216 ∧ Q (.str (Txt.join a ys)) H
theorem kjoin {X : Cx} {K : PySem.W.Frag} {o e : Expr} {to te : TE} {apos pos : Pos} (hK : X.K = K) (ho : PE X o to) (he : PE X e te) (hs : starEach [e] X.env = [(false, eval e X.env)] := by rfl) (hbase : attributeBase o "join" X.env (eval o X.env) = eval o X.env := by rfl) (hline : (apos.endLine == pos.line) = true := by rfl) :
    PE X (.Call (.Attribute o "join" apos) [e] [] pos) (tM1 (rJoinS K) to te) := hK ▸ pe_join ho he hs hbase hline
def markS (i : Int) : Str := toString i
def rowS (t : Tile) : Str := Txt.join " " (t.l.map markS)
def textS (rs : List Tile) : Str := Txt.join "\n" (rs.map rowS)
theorem joinL_len (S : List Nat) : ∀ ps : List (List Nat), (joinL S ps).length ≤ (ps.map List.length).sum + ps.length * S.length
  | [] => by simp [joinL]
  | [p] => by simp [joinL]
  | p :: q :: r => by
    have := joinL_len S (q :: r)
    show (p ++ (S ++ joinL S (q :: r))).length ≤ _
    rw [List.length_append, List.length_append, List.map_cons, List.sum_cons, List.length_cons (a := p), Nat.succ_mul]
    omega
theorem sum_le {α : Type} {f : α → Nat} {k : Nat} : ∀ {l : List α}, (∀ a ∈ l, f a ≤ k) → (l.map f).sum ≤ l.length * k
  | [], _ => by simp
  | a :: l, h => by
    have h1 := h a List.mem_cons_self
    have h2 := sum_le (l := l) fun b hb => h b (List.mem_cons_of_mem _ hb)
    rw [List.map_cons, List.sum_cons, List.length_cons, Nat.succ_mul]
    omega
theorem join_len (y : Str) (ps : List Str) : (Txt.join y ps).length ≤ (ps.map (·.length)).sum + ps.length * y.length := by
  rw [len_tl, join_eq, tl_join, len_tl y]
  have := joinL_len (tl y) (ps.map tl)
  rw [List.length_map, List.map_map] at this
  have e : (fun x : Str => x.length) = (List.length ∘ tl) := funext fun x => len_tl x
  rw [e]
  exact this
theorem markS_nat {i : Int} (h : okMark i) : ∃ n : Nat, i = (n : Int) ∧ n < 10 ^ 12 ∧ tl (markS i) = numL n := by
  obtain ⟨n, rfl⟩ := Int.eq_ofNat_of_zero_le h.1
  have := h.2
  exact ⟨n, rfl, by omega, tl_num n⟩
theorem markS_len {i : Int} (h : okMark i) : (markS i).length ≤ 12 := by
  obtain ⟨n, rfl, h1, h2⟩ := markS_nat h
  rw [len_tl, h2]
  exact numL_len (by decide) h1
abbrev okT (t : Tile) : Prop := okMark t.n ∧ okMark t.e ∧ okMark t.s ∧ okMark t.w
theorem okT_l {t : Tile} (h : okT t) : ∀ i ∈ t.l, okMark i := fun i hi => by
  obtain ⟨h1, h2, h3, h4⟩ := h
  unfold Tile.l at hi
  simp only [List.mem_cons, List.not_mem_nil, or_false] at hi
  rcases hi with rfl | rfl | rfl | rfl <;> assumption
theorem row_sum {t : Tile} (h : okT t) : ((t.l.map markS).map (·.length)).sum + (t.l.map markS).length * (Str.length " ") ≤ 52 := by
  have e : Str.length " " = 1 := by decide +kernel
  have := sum_le (f := fun x : Str => x.length) (k := 12) (l := t.l.map markS) fun a ha => by
    obtain ⟨i, hi, rfl⟩ := List.mem_map.mp ha
    exact markS_len (okT_l h i hi)
  rw [e]
  have l4 : (t.l.map markS).length = 4 := rfl
  omega
theorem rowS_len {t : Tile} (h : okT t) : (rowS t).length ≤ 52 := Nat.le_trans (join_len _ _) (row_sum h)
theorem text_sum {rs : List Tile} (h : okTiles rs) : ((rs.map rowS).map (·.length)).sum + (rs.map rowS).length * (Str.length "\n") ≤ 20000 := by
  have e : Str.length "\n" = 1 := by decide +kernel
  have := sum_le (f := fun x : Str => x.length) (k := 52) (l := rs.map rowS) fun a ha => by
    obtain ⟨i, hi, rfl⟩ := List.mem_map.mp ha
    exact rowS_len (h.2.2 i hi)
  rw [e]
  rw [List.length_map] at this ⊢
  have := h.2.1
  omega
theorem textS_len {rs : List Tile} (h : okTiles rs) : (textS rs).length ≤ 20000 := Nat.le_trans (join_len _ _) (text_sum h)
section
variable {K : PySem.W.Frag} {σ : L2.St} {B H : Hp} {ta tb : TE}
theorem all2_strs {B : Hp} : ∀ {vs : List V} {l : List Str}, all2 B vs (l.map fun b => dp (.str b)) → vs = l.map V.str
  | [], [], _ => rfl
  | v :: vs, i :: l, ⟨h1, h2⟩ => by
    rw [dp_str.mp h1, all2_strs (vs := vs) (l := l) h2]
    rfl
  | [], _ :: _, h => h.elim
  | _ :: _, [], h => h.elim
theorem ev_join {a : Str} {ys : List Str} (ha : EvP ta σ B (dp (.str a))) (hb : EvP tb σ B (lst (ys.map fun s => dp (.str s)))) (hz : (ys.map (·.length)).sum + ys.length * a.length ≤ 16777216) : EvP (tM1 (rJoinS K) ta tb) σ B (dp (.str (Txt.join a ys))) := fun H e Q q =>
  ha H e _ fun x B1 H1 s1 p1 => by
    cases dp_str.mp p1
    refine ⟨⟨a, rfl⟩, hb.mono s1.eb H1 s1.bh _ fun y B2 H2 s2 p2 => ?_⟩
    obtain ⟨p, xs, rfl, h1, h2⟩ := p2
    have := all2_strs h2
    subst this
    exact ⟨a, p, ys, rfl, rfl, .inl (SqL.of (s2.bh _ _ h1)), hz, q _ B2 H2 (s1.trans s2) (.str _)⟩
def rStrI : List V → Hp → VK → Prop := fun xs H Q => ∃ i, xs = [.int i] ∧ i.natAbs.log2 < 1920 ∧ Q (.str (toString i)) H
theorem ev_str1 {i : Int} (ha : EvP ta σ B (dp (.int i))) (h : okMark i) : EvP (tCB rStrI (tCons ta tNil)) σ B (dp (.str (markS i))) := ev_cb (el_cons ha el_nil) fun B' xs _ h2 H e Q q => by
  cases all2_1d h2
  refine ⟨i, rfl, ?_, q _ B' H (Step.refl e) (.str _)⟩
  have h1 := h.1
  have h3 := h.2
  have : i.natAbs < 2 ^ 1920 := Nat.lt_of_lt_of_le (m := 2 ^ 40) (by omega) (Nat.pow_le_pow_right (by decide) (by decide))
  by_cases z : i.natAbs = 0
  · rw [z]; decide
  · exact (Nat.log2_lt z).mpr this
theorem filter_true {α : Type} (l : List α) : l.filter (fun _ => true) = l := List.filter_eq_self.mpr fun _ _ => rfl
/-- '\n'.join([' '.join([str(mark) for mark in row]) for row in rows]) -/
theorem ev_textLc (rs : List Tile) {i j : Nat} {ws ws2 : List Nat} {tl : TE} (ok : okTiles rs) (hl : EvP tl σ B (dp (rowsD rs))) (hw : ∀ x, wipe ((wipe σ ws).set i (some x)) ws = wipe σ ws)
    (hw2 : ∀ x y, wipe ((wipe ((wipe σ ws).set i (some x)) ws2).set j (some y)) ws2 = wipe ((wipe σ ws).set i (some x)) ws2) (hi : ∀ x, ((wipe σ ws).set i (some x))[i]? = some (some x)) (hj : ∀ x y, ((wipe ((wipe σ ws).set i (some x)) ws2).set j (some y))[j]? = some (some y)) :
    EvP (tM1 (rJoinS K) (tC (.str "\n")) (tLc (iList K tl) (gName i) tYes (tM1 (rJoinS K) (tC (.str " ")) (tLc (iTup K (tVar i)) (gName j) tYes (tCB rStrI (tCons (tVar j) tNil)) ws2)) ws)) σ B (dp (.str (textS rs))) := by
  have lc := ev_lcL (K := K) (te := tM1 (rJoinS K) (tC (.str " ")) (tLc (iTup K (tVar i)) (gName j) tYes (tCB rStrI (tCons (tVar j) tNil)) ws2)) rs (fun t => dp t.d) (fun _ => true) (fun t => dp (.str (rowS t))) (hl.imp fun _ _ _ p => rows_lst.mpr p) (by have := ok.2.1; omega) hw (fun _ _ _ _ _ _ => eb_yes) fun t v B' ht _ e' pv => by
    have okt := ok.2.2 t ht
    have lc2 := ev_lcT (K := K) (te := tCB rStrI (tCons (tVar j) tNil)) (tl := tVar i) (t := tYes) t.l (fun i => dp (.int i)) (fun _ => true) (fun i => dp (.str (markS i))) (ev_var (hi v) (tup_dp (ds := [.int t.n, .int t.e, .int t.s, .int t.w]) |>.mpr pv)) (show 4 < 1000000 by decide) (hw2 v) (fun _ _ _ _ _ _ => eb_yes) fun m u B'' hm _ e'' pu => ev_str1 (ev_var (hj v u) pu) (okT_l okt m hm)
    rw [filter_true] at lc2
    exact ev_join (K := K) ev_str (lc2.to (by rw [List.map_map]; rfl)) (Nat.le_trans (row_sum okt) (by decide))
  rw [filter_true] at lc
  exact ev_join ev_str (lc.to (by rw [List.map_map]; rfl)) (Nat.le_trans (text_sum ok) (by decide))
end
section
variable {P : Program} {w : World} {K : PySem.W.Frag} {mg : Str → Option Value} {base : Heap} {f : Addr} {fd : FuncData}
abbrev s_written : Stmt := top 39
abbrev N_written : List Str := ["tiles", "row", "mark"]
abbrev P_written : List Str := ["tiles"]
theorem sc_written : FnScope N_written P_written (defScope s_written) := ⟨rfl, rfl, rfl, by decide +kernel, rfl, by decide +kernel, by decide +kernel⟩
abbrev spWritten (K : PySem.W.Frag) : Sp := spP fun vs B R => ∃ x rs, vs = [x] ∧ (tilesV K rs).p B x ∧ okTiles rs ∧ R = dp (.str (textS rs))
theorem ok_written (T : TB mg) (m_Tiles_tiles : Mt P w K mg base CX0 1 (ca K "Tiles") "tiles" (spTiles K)) (F : FnP K "written" "written" s_written f fd) : FnOk P w K mg base CX0 2 f fd P_written (spWritten K) := by
  refine F.ok sc_written (fun vs H Q E h => ?_) (fun cdv A outer s H vs Q E hr h => ?_)
  · obtain ⟨B, R, e, ⟨x, rs, rfl, _⟩, _⟩ := h
    rfl
  · obtain ⟨B, R, e, ⟨x, rs, rfl, hx, ok, rfl⟩, k⟩ := h
    refine ⟨_, PSs.nox (pss_one (ps_ret (kjoin (K := K) rfl pe_str (pe_lc (own := [("row", 1)]) (g := gName 1) (tt := tYes) rfl sc_written.nd (kpi_list (K := K) rfl (pe_ml0 m_Tiles_tiles hr (by omega) pass0 (pv 0))) (blkOk_by (N := N_written) (sc := defScope s_written) (by decide +kernel)) (fun _ _ _ _ _ => pg_name (i := 1) sc_written.nd rfl (Or.inl rfl)) (fun _ _ _ _ _ => pts_nil) (fun _ _ _ _ _ => (kjoin (K := K) rfl pe_str (pe_lc (own := [("mark", 2)]) (g := gName 2) (tt := tYes) rfl sc_written.nd (kpi_tup (K := K) rfl (pv 1)) (blkOk_by (by kernel_rfl)) (fun _ _ _ _ _ => pg_name (i := 2) sc_written.nd rfl (Or.inl rfl)) (fun _ _ _ _ _ => pts_nil) (fun _ _ _ _ _ => (pe_callTy call_str_int (by rfl) T.str (by decide +kernel) (pa_cons (pv 2) pa_nil)))))))))), ?_⟩
    refine s_ret e (ev_textLc rs ok (ev_meth (ev_var rfl hx) rfl el_nil fun y vs B6 e6 py pv => ?_) (fun _ => rfl) (fun _ _ => rfl) (fun _ => rfl) (fun _ _ => rfl)) k
    have : vs = [] := by cases vs with | nil => rfl | cons _ _ => exact pv.elim
    subst this
    exact ⟨_, y, rfl, py, rfl⟩
end
end TL
set_option maxHeartbeats 4000000
/-! number_of, read -/
namespace TL
open PySem L2
theorem for_signs {x : Str} {g : TG} {tb : TS} {D : Ends} {σ : L2.St} {H : Hp} (Pv : Nat → L2.St → Hp → Prop) (h0 : Pv 0 σ H)
    (hs : ∀ i c σ H, x.cps[i]? = some c → Pv i σ H → g (.str ⟨#[c]⟩) σ H fun σ2 H2 => tb { D with nx := Pv (i + 1), ct := Pv (i + 1), bk := D.nx } σ2 H2) (hd : ∀ σ H, Pv x.cps.size σ H → D.nx σ H) :
    ∃ W : Nat → Nat → L2.St → Hp → Prop, (∃ m, W 0 m σ H) ∧ ∀ i m σ H, W i m σ H →
      ((Its x).stop i H ∧ D.nx σ H) ∨ ((Its x).go i H ∧ ∃ N : L2.St → Hp → Prop, (∀ σ' H', N σ' H' → ∃ m', m' < m ∧ W (i + 1) m' σ' H') ∧ ∀ v H', (Its x).yld i H v H' → g v σ H' fun σ2 H2 => tb { D with nx := N, ct := N, bk := D.nx } σ2 H2) := by
  refine ⟨fun i m σ H => m = x.cps.size - i ∧ i ≤ x.cps.size ∧ Pv i σ H, ⟨_, rfl, Nat.zero_le _, h0⟩, ?_⟩
  rintro i m σ H ⟨rfl, hi, p⟩
  by_cases hlt : i < x.cps.size
  · refine .inr ⟨hlt, Pv (i + 1), fun σ' H' p' => ⟨x.cps.size - (i + 1), by omega, rfl, hlt, p'⟩, fun v H' y => ?_⟩
    obtain ⟨rfl, c, hc, rfl⟩ := y
    exact hs i c σ _ hc p
  · obtain rfl : i = x.cps.size := by omega
    exact .inl ⟨Nat.le_refl _, hd σ H p⟩
section
variable {K : PySem.W.Frag} {σ : L2.St} {B H : Hp} {ta tb te : TE} {D : Ends} {tu tz : TS}
theorem q_forS {j : Nat} {z : Str} (e : Ex B H) (hl : EvP te σ B (dp (.str z))) (I : L2.St → Hp → Hp → Prop) (h0 : ∀ Bl Hl, Step B H Bl Hl → I σ Bl Hl)
    (hs : ∀ Bl Hl, Step B H Bl Hl → ∀ c σ' B1 H1, c ∈ TL.tl z → Ex Bl B1 → Ex B1 H1 → I σ' B1 H1 → tu { D with nx := Nx Bl I, ct := Nx Bl I, bk := tz D } (σ'.set j (some (.str ⟨#[c]⟩))) H1)
    (hd : ∀ σ' B1 H1, Ex B B1 → Ex B1 H1 → I σ' B1 H1 → tz D σ' H1) : tSeq (tFor (iStr te) (gName j) tu) tz D σ H := hl H e _ fun v Bl Hl sl pl => by
  cases dp_str.mp pl
  refine ⟨z, rfl, for_signs (D := { D with nx := tz D }) (fun _ => Nx Bl I) ⟨Bl, Ex.refl _, sl.bh, h0 Bl Hl sl⟩ ?_ ?_⟩
  · rintro i c σ' H' hc ⟨B1, e1, e2, hI⟩
    exact hs Bl Hl sl c σ' B1 H' (by
      obtain ⟨h1, h2⟩ := Array.getElem?_eq_some_iff.mp hc
      rw [← h2]
      exact Array.mem_toList_iff.mpr (Array.getElem_mem h1)) e1 e2 hI
  · rintro σ' H' ⟨B1, e1, e2, hI⟩
    exact hd σ' B1 H' (sl.eb.trans e1) e2 hI
theorem ev_lenS {z : Str} (ha : EvP ta σ B (dp (.str z))) (hz : z.length ≤ 1000000) : EvP (tCB (fun xs H Q => ∃ z, xs = [.str z] ∧ z.length ≤ sizeLine ∧ Q (.int z.length) H) (tCons ta tNil)) σ B (dp (.int z.length)) := ev_cb (el_cons ha el_nil) fun B' xs _ h H e Q q => by
  obtain ⟨x, rfl, hx⟩ := all2_1 h
  cases dp_str.mp hx
  exact ⟨z, rfl, sz_le hz, q _ B' H (Step.refl e) (.int _)⟩
theorem ev_ixS {z : Str} {i : Int} {c : Nat} (ha : EvP ta σ B (dp (.str z))) (hb : EvP tb σ B (dp (.int i))) (hz : z.length ≤ 1000000) (hi : atI (TL.tl z) i = some c) : EvP (tOp rIxS ta tb) σ B (dp (.str ⟨#[c]⟩)) := ev_op ha hb fun B' x y _ hx hy H e Q q => by
  cases dp_str.mp hx
  cases dp_int.mp hy
  exact ⟨z, i, c, rfl, rfl, sz_le hz, hi, q _ B' H (Step.refl e) (.str _)⟩
theorem ev_notInS {c : Nat} {z : Str} (ha : EvP ta σ B (dp (.str ⟨#[c]⟩))) (hb : EvP tb σ B (dp (.str z))) : EvP (tOp (fun x y H Q => ∃ (c : Nat) (z : Str), x = .str ⟨#[c]⟩ ∧ y = .str z ∧ Q (.bl (!decide (c ∈ z.cps.toList))) H) ta tb) σ B (dp (.bool (!decide (c ∈ TL.tl z)))) := ev_op ha hb fun B' x y _ hx hy H e Q q => by
  cases dp_str.mp hx
  cases dp_str.mp hy
  exact ⟨c, z, rfl, rfl, q _ B' H (Step.refl e) (.bl _)⟩
theorem ev_intS {z : Str} {n : Int} (ha : EvP ta σ B (dp (.str z))) (h : PySem.intText? z = some n) (hl : z.length ≤ 640) : EvP (tCB (fun xs H Q => ∃ a n, xs = [.str a] ∧ PySem.intText? a = some n ∧ a.length ≤ 640 ∧ Q (.int n) H) (tCons ta tNil)) σ B (dp (.int n)) := ev_cb (el_cons ha el_nil) fun B' xs _ h2 H e Q q => by
  obtain ⟨x, rfl, hx⟩ := all2_1 h2
  cases dp_str.mp hx
  exact ⟨z, n, rfl, h, hl, q _ B' H (Step.refl e) (.int _)⟩
theorem all2_ofStrs {B : Hp} : ∀ ys : List Str, all2 B (ys.map V.str) (ys.map fun s => dp (.str s))
  | [] => True.intro
  | y :: ys => ⟨.str y, all2_ofStrs ys⟩
theorem ev_split {a b : Str} {ys : List Str} (ha : EvP ta σ B (dp (.str a))) (hb : EvP tb σ B (dp (.str b))) (h0 : (b.length == 0) = false) (hz : a.length ≤ 100000) (hy : Txt.split a b = ys) :
    EvP (tM1 (fun x xs H Q => ∃ a b, x = .str a ∧ xs = [.str b] ∧ (b.length == 0) = false ∧ a.length + 2 ≤ sizeLine ∧ rNewStrs (Txt.split a b) H Q) ta tb) σ B (lst (ys.map fun s => dp (.str s))) := fun H e Q q =>
  ha H e _ fun x B1 H1 s1 p1 => by
    cases dp_str.mp p1
    refine ⟨⟨a, rfl⟩, hb.mono s1.eb H1 s1.bh _ fun y B2 H2 s2 p2 => ?_⟩
    cases dp_str.mp p2
    refine ⟨a, b, rfl, rfl, h0, Nat.le_trans (Nat.add_le_add_right hz 2) (by decide), fun p hp => ?_⟩
    rw [hy]
    exact q _ _ _ ((s1.trans s2).trans (Step.new s2.bh hp)) ⟨p, _, rfl, upd_same, all2_ofStrs ys⟩
end
theorem numL_head {n : Nat} : ∀ (h : 1 ≤ n), (numL n).head? ≠ some 48 := by
  induction n using Nat.strongRecOn with
  | _ n ih =>
    intro h
    by_cases z : n < 10
    · rw [numL_lt z]
      simp
      omega
    · rw [numL_step (by omega)]
      have := ih (n / 10) (by omega) (by omega)
      cases q : numL (n / 10) with
      | nil => exact absurd q (numL_ne _)
      | cons a l =>
        rw [q] at this
        simpa using this
theorem figures : TL.tl "0123456789" = [48, 49, 50, 51, 52, 53, 54, 55, 56, 57] := by decide +kernel
section
variable {P : Program} {w : World} {K : PySem.W.Frag} {mg : Str → Option Value} {base : Heap} {f : Addr} {fd : FuncData}
abbrev s_number_of : Stmt := top 40
abbrev N_number_of : List Str := ["word", "row", "sign"]
abbrev P_number_of : List Str := ["word", "row"]
theorem sc_number_of : FnScope N_number_of P_number_of (defScope s_number_of) := ⟨rfl, rfl, rfl, by decide +kernel, rfl, by decide +kernel, by decide +kernel⟩
abbrev spNumber : Sp := spP fun vs B R => ∃ i r, vs = [.str (markS i), r] ∧ okMark i ∧ R = dp (.int i)
theorem ok_number_of (T : TB mg) (g_MOST_FIGURES : ∃ u, mg "MOST_FIGURES" = some u ∧ RelV (.int 12) u) (g_FIGURES : ∃ u, mg "FIGURES" = some u ∧ RelV (.str "0123456789") u) (F : FnP K "number_of" "number_of" s_number_of f fd) : FnOk P w K mg base CX0 1 f fd P_number_of spNumber := by
  refine F.ok sc_number_of (fun vs H Q E h => ?_) (fun cdv A outer s H vs Q E hr h => ?_)
  · obtain ⟨B, R, e, ⟨i, r, rfl, _⟩, _⟩ := h
    rfl
  · obtain ⟨B, R, e, ⟨i, r, rfl, ok, rfl⟩, k⟩ := h
    refine ⟨_, PSs.nox (pss_cons (ps_if (PW.pt (pw_or (pt_cmpR op_eq (pv 0) pe_str (nomark _)) (pw_or (pt_cmpR op_gt (pe_callB call_len_str (by rfl) T.len PySem.boot_len (pa_cons (pv 0) pa_nil)) (C8.pe_gc rfl g_MOST_FIGURES) (nomark _)) (pw_or1 (PW.pt (pw_and (pt_cmpR op_eq (pe_ix ix_str (pv 0) pe_int (fun _ _ => rfl)) pe_str (nomark _)) (pw_and1 (pt_cmpR op_ne (pv 0) pe_str (nomark _))))))))) (pss_one ps_never) pss_nil)
      (pss_cons (ps_for PassesOwn.never rfl (pi_str (pv 0)) (pg_name (i := 2) sc_number_of.nd rfl (Or.inl rfl)) (pss_one (ps_if (pt_cmpR op_notIn_sign (pv 2) (C8.pe_gc rfl g_FIGURES) rfl) (pss_one ps_never) pss_nil)))
      (pss_one (ps_ret (pe_callTy call_int_str (by rfl) T.int (by decide +kernel) (pa_cons (pv 0) pa_nil)))))), ?_⟩
    obtain ⟨n, hin, h12, htl⟩ := markS_nat ok
    have len := markS_len ok
    have w0 : ∀ {σ : L2.St} {B' : Hp}, σ[0]? = some (some (.str (markS i))) → EvP (tVar 0) σ B' (dp (.str (markS i))) := fun h => ev_var h (.str _)
    have ne : (markS i == ("" : Str)) = false := by
      refine beq_eq_false_iff_ne.mpr fun z => numL_ne n ?_
      rw [← htl, z]
      decide +kernel
    have hd0 : ∃ c, atI (TL.tl (markS i)) 0 = some c ∧ (c = 48 → n = 0) := by
      rw [htl]
      cases q : numL n with
      | nil => exact absurd q (numL_ne _)
      | cons c l =>
        refine ⟨c, atI_nat (j := 0) rfl, fun z => ?_⟩
        by_cases y : 1 ≤ n
        · have := numL_head y
          rw [q, z] at this
          exact absurd rfl this
        · omega
    obtain ⟨c, hc, hc0⟩ := hd0
    refine q_skip e ((eb_or (a := false) (b := false) ((eb_test (ev_eqS (w0 rfl) ev_str)).to ne) fun _ => (eb_or (a := false) (b := false) ((eb_test (ev_gt (ev_lenS (w0 rfl) (by omega)) ev_int)).to (by rw [dF (by omega)])) fun _ => (eb_and (eb_test (ev_eqS (ev_ixS (w0 rfl) ev_int (by omega) hc) ev_str)) fun _ => eb_test (ev_neS (w0 rfl) ev_str)).to ?_).to rfl).to rfl) fun B1 H1 s1 => ?_
    · by_cases z : n = 0
      · have : (markS i == ("0" : Str)) = true := by
          rw [hin, z]
          decide +kernel
        rw [this]
        simp
      · have : ((⟨#[c]⟩ : Str) == ("0" : Str)) = false := beq_eq_false_iff_ne.mpr fun y => z (hc0 (by
          have := congrArg TL.tl y
          have e0 : TL.tl "0" = [48] := by decide +kernel
          rw [e0] at this
          simpa [TL.tl] using this))
        rw [this]
        rfl
    · refine q_forS s1.bh (w0 rfl) (fun σ B' H' => (∃ a, σ = [some (.str (markS i)), some r, a]) ∧ Step B H B' H') (fun Bl Hl sl => ⟨⟨_, rfl⟩, s1.trans sl⟩) ?_ ?_
      · rintro Bl Hl sl c' σ' B2 H2 hc' e1 e2 ⟨⟨a, rfl⟩, s2⟩
        refine s_skip e2 ((eb_test (ev_notInS (ev_var rfl (.str _)) (ev_c (.str _)))).to ?_) fun B3 H3 s3 => ⟨B3, e1.trans s3.eb, s3.bh, ⟨_, rfl⟩, s2.trans s3⟩
        rw [htl] at hc'
        have := numL_digits n c' hc'
        rw [figures, dT]
        · rfl
        · simp only [List.mem_cons, List.not_mem_nil, or_false]
          omega
      · rintro σ' B2 H2 e1 e2 ⟨⟨a, rfl⟩, s2⟩
        refine s_ret e2 (ev_intS (n := i) (w0 rfl) ?_ (by omega)) fun v B3 H3 s3 p3 => k v B3 H3 (s2.trans s3) p3
        rw [hin]
        exact int_num (Nat.le_trans (numL_len (by decide) h12) (by decide))
theorem joinL_free {s : Nat} {S : List Nat} (hS : s ∉ S) : ∀ {ps : List (List Nat)}, (∀ p ∈ ps, s ∉ p) → s ∉ joinL S ps
  | [], _ => by simp [joinL]
  | [p], h => h p (List.mem_singleton.mpr rfl)
  | p :: q :: r, h => by
    show s ∉ p ++ (S ++ joinL S (q :: r))
    intro z
    rcases List.mem_append.mp z with z | z
    · exact h p List.mem_cons_self z
    · rcases List.mem_append.mp z with z | z
      · exact hS z
      · exact joinL_free hS (fun x hx => h x (List.mem_cons_of_mem _ hx)) z
theorem split_row {t : Tile} (h : okT t) : Txt.split (rowS t) " " = t.l.map markS := by
  refine split_join (s := 32) (S := []) (by decide +kernel) (by decide +kernel) (fun z => by cases z) fun p hp => ?_
  obtain ⟨i, hi, rfl⟩ := List.mem_map.mp hp
  obtain ⟨n, _, _, e⟩ := markS_nat (okT_l h i hi)
  rw [e]
  exact numL_free (.inl (by decide))
theorem split_text {rs : List Tile} (h : okTiles rs) : Txt.split (textS rs) "\n" = rs.map rowS := by
  refine split_join (s := 10) (S := []) (by decide +kernel) (by decide +kernel) (fun z => ?_) fun p hp => ?_
  · have e := congrArg List.length z
    rw [List.length_map, List.length_nil] at e
    have h1 := h.1
    omega
  · obtain ⟨t, ht, rfl⟩ := List.mem_map.mp hp
    unfold rowS
    rw [join_eq, tl_join, show TL.tl " " = [32] by decide +kernel]
    refine joinL_free (by decide) fun q hq => ?_
    obtain ⟨x, hx, rfl⟩ := List.mem_map.mp hq
    obtain ⟨i, hi, rfl⟩ := List.mem_map.mp hx
    obtain ⟨n, _, _, e⟩ := markS_nat (okT_l (h.2.2 t ht) i hi)
    rw [e]
    exact numL_free (.inl (by decide))
abbrev s_read : Stmt := top 41
abbrev N_read : List Str := ["text", "rows", "lines", "at", "words", "word"]
abbrev P_read : List Str := ["text"]
theorem sc_read : FnScope N_read P_read (defScope s_read) := ⟨rfl, rfl, rfl, by decide +kernel, rfl, by decide +kernel, by decide +kernel⟩
abbrev spRead (K : PySem.W.Frag) : Sp := spP fun vs B R => ∃ rs, vs = [.str (textS rs)] ∧ okTiles rs ∧ R = tilesV K rs
theorem ok_read (T : TB mg) (c_number_of : Cl P w K mg base CX0 1 "number_of" spNumber) (c_Tiles : Mr P w K mg base CX0 1 "Tiles" (ca K "Tiles") (spTilesI K)) (F : FnP K "read" "read" s_read f fd) : FnOk P w K mg base CX0 3 f fd P_read (spRead K) := by
  refine F.ok sc_read (fun vs H Q E h => ?_) (fun cdv A outer s H vs Q E hr h => ?_)
  · obtain ⟨B, R, e, ⟨rs, rfl, _⟩, _⟩ := h
    rfl
  · obtain ⟨B, R, e, ⟨rs, rfl, ok, rfl⟩, k⟩ := h
    refine ⟨_, PSs.nox (pss_cons (ps_set (i := 1) sc_read.nd rfl (Or.inl rfl) (pe_lst pa_nil))
      (pss_cons (ps_set (i := 2) sc_read.nd rfl (Or.inl rfl) (pe_split (pv 0) pe_str))
      (pss_cons (ps_for PassesOwn.never rfl (pi_range1 (by rfl) T.range (pa_cons (pe_callB (kcall_len (K := K) rfl) (by rfl) T.len PySem.boot_len (pa_cons (pv 2) pa_nil)) pa_nil)) (pg_name (i := 3) sc_read.nd rfl (Or.inr rfl)) (pss_cons (ps_set (i := 4) sc_read.nd rfl (Or.inl rfl) (pe_split (pe_ix (kix_list (K := K) rfl) (pv 2) (pv 3) (fun _ _ => rfl)) pe_str))
      (pss_cons (ps_if (pt_cmpR op_ne (pe_callB (kcall_len (K := K) rfl) (by rfl) T.len PySem.boot_len (pa_cons (pv 4) pa_nil)) pe_int (nomark _)) (pss_one ps_never) pss_nil)
      (pss_one (ps_expr (kbm (K := K) rfl PySem.F.plainAttrs_list PySem.F.slot_list_append PySem.F.type_list_append mt_append (pv 1) (pa_cons (pe_callTy (kcall_tuple (K := K) rfl) (by rfl) T.tuple (by decide +kernel) (pa_cons (pe_lc (own := [("word", 5)]) (g := gName 5) (tt := tYes) rfl sc_read.nd (kpi_list (K := K) rfl (pv 4)) (blkOk_by (N := N_read) (sc := defScope s_read) (by decide +kernel)) (fun _ _ _ _ _ => pg_name (i := 5) sc_read.nd rfl (Or.inl rfl)) (fun _ _ _ _ _ => pts_nil) (fun _ _ _ _ _ => (pe_cl c_number_of hr (by omega) rfl pass0 (pa_cons (pv 5) (pa_cons (pv 3) pa_nil))))) pa_nil)) pa_nil)))))))
      (pss_one (ps_ret (pe_mr c_Tiles hr (by omega) rfl pass0 (pa_cons (pv 1) pa_nil))))))), ?_⟩
    refine q_new fun p hp => ?_
    have bp := e.none hp
    have s0 := (Step.refl e).poke (o := .lst []) hp bp
    refine q_asg s0.bh (ev_split (ev_var rfl (.str _)) ev_str (by decide +kernel) (Nat.le_trans (textS_len ok) (by decide)) (split_text ok)) fun vl B1 H1 s1 pl => ?_
    have s01 := s0.trans s1
    have h200 := ok.2.1
    refine q_forR (n := rs.length) s1.bh (el_cons ((ev_lenL (ev_var rfl pl)).to (by rw [List.length_map, List.length_map])) el_nil) (by omega)
      (fun i σ B' H' => (∃ a b c, σ = [some (.str (textS rs)), some (.ref p), some vl, a, b, c]) ∧ Step B H B' H' ∧ Ex B1 B' ∧ Acc p ((rs.take i).map fun t => dp t.d) B' H')
      (fun Bl Hl sl => ⟨⟨_, _, _, rfl⟩, s01.trans sl, sl.eb, ((Acc.new bp).step s1).step sl⟩) ?_ ?_
    · rintro Bl Hl sl i σ' B2 H2 hi e1 e2 ⟨⟨a, b, c, rfl⟩, s2, e12, a2⟩
      obtain ⟨t, ht⟩ := lt_get hi
      have okt := ok.2.2 t (List.mem_of_getElem? ht)
      refine q_asg e2 (ev_split (a := rowS t) (ev_ixL (P := dp (.str (rowS t))) (ev_var rfl ((lst _).m e12 pl)) (ev_var rfl (P := dp (.int (i : Nat))) (.int _)) (atI_nat (by rw [List.getElem?_map, List.getElem?_map, ht]; rfl))) ev_str (by decide +kernel) (Nat.le_trans (rowS_len okt) (by decide)) (split_row okt)) fun vw B3 H3 s3 pw => ?_
      refine q_skip s3.bh ((eb_test (ev_ne (ev_lenL (ev_var rfl pw)) ev_int)).to rfl) fun B4 H4 s4 => ?_
      have s34 := s3.trans s4
      have s24 := s2.trans s34
      have lc := ev_lcL (K := K) (j := 5) (ws := [5]) (t := tYes) (te := tCall spNumber [] E0 (tCons (tVar 5) (tCons (tVar 3) tNil))) (tl := tVar 4) (σ := [some (.str (textS rs)), some (.ref p), some vl, some (.int (i : Nat)), some vw, c]) (B := B4) t.l (fun i => dp (.str (markS i))) (fun _ => true) (fun i => dp (.int i)) (ev_var rfl ((lst _).m s4.eb (show (lst (t.l.map fun i => dp (.str (markS i)))).p B3 vw from pw))) (show 4 < 1000000 by decide) (fun _ => rfl) (fun _ _ _ _ _ _ => eb_yes) fun m v B' hm _ e' pv => by
        cases dp_str.mp pv
        refine ev_call (el_cons (ev_var rfl (P := dp (.str (markS m))) (.str _)) (el_cons (ev_var rfl (P := dp (.int (i : Nat))) (.int _)) el_nil)) fun vs B7 e7 pvs => ?_
        obtain ⟨u1, u2, rfl, q1, q2⟩ := all2_2 pvs
        cases dp_str.mp q1
        exact ⟨m, u2, rfl, okT_l okt m hm, rfl⟩
      rw [filter_true] at lc
      refine s_app (P := dp t.d) s4.bh (a2.step s34) (ev_var rfl rfl) (EvP.tupD (ds := [.int t.n, .int t.e, .int t.s, .int t.w]) (ev_tuple lc)) (by rw [List.length_map, List.length_take]; omega) fun B5 H5 e5 e5' a5 hs => ?_
      obtain ⟨H6, s6, o, rfl⟩ := hs
      refine ⟨B5, e1.trans (s34.eb.trans e5), e5', ⟨_, _, _, rfl⟩, (s24.trans s6).poke hp a5.b, e12.trans (s34.eb.trans e5), ?_⟩
      rw [get_take ht, List.map_append]
      exact a5
    · rintro σ' B2 H2 e1 e2 ⟨⟨a, b, c, rfl⟩, s2, e12, a2⟩
      obtain ⟨B3, s3, e3, p3⟩ := a2.done s2 hp
      rw [List.take_length] at p3
      refine s_ret s3.bh (ev_make (Fs := tilesF rs) (el_cons (ev_var rfl (rows_lst.mp p3)) el_nil) fun vs B' e' pv => ?_) fun v B4 H4 s4 p4 => k v B4 H4 (s3.trans s4) p4
      obtain ⟨u, rfl, pu⟩ := all2_1 pv
      exact ⟨rs, u, rfl, pu, ok, rfl⟩
end
end TL
set_option maxHeartbeats 4000000
/-! _law_dice, _law_next -/
namespace TL
open PySem L2
section
variable {K : PySem.W.Frag} {σ : L2.St} {B H : Hp} {ta tb tl te : TE} {D : Ends} {tu tz : TS}
/-- a list of whole numbers that nobody writes -/
def sqI (K : PySem.W.Frag) (l : List Int) : VP := ⟨fun B v => ∃ a, v = .ref a ∧ SqL K B a (l.map V.int), fun e ⟨a, h1, h2⟩ => ⟨a, h1, e.seq h2⟩⟩
theorem ev_lenQ {l : List Int} (ha : EvP ta σ B (sqI K l)) : EvP (tCB (rLenS K) (tCons ta tNil)) σ B (dp (.int l.length)) := ev_cb (el_cons ha el_nil) fun B' xs _ h H e Q q => by
  obtain ⟨x, rfl, a, rfl, h1⟩ := all2_1 h
  exact ⟨a, _, rfl, .inl (e.seq h1), q _ B' H (Step.refl e) (dp_int.mpr (by rw [List.length_map]))⟩
theorem ev_ixQ {l : List Int} {i x : Int} (ha : EvP ta σ B (sqI K l)) (hb : EvP tb σ B (dp (.int i))) (hi : atI l i = some x) : EvP (tOp (rIxL K) ta tb) σ B (dp (.int x)) := ev_op ha hb fun B' u y _ hx hy H e Q q => by
  obtain ⟨a, rfl, h1⟩ := hx
  cases dp_int.mp hy
  exact ⟨a, _, i, _, rfl, rfl, e.seq h1, atI_map V.int hi, q _ B' H (Step.refl e) (.int _)⟩
theorem q_forQ {j : Nat} {l : List Int} (e : Ex B H) (hl : EvP tl σ B (sqI K l)) (I : L2.St → Hp → Hp → Prop) (h0 : ∀ Bl Hl, Step B H Bl Hl → I σ Bl Hl)
    (hs : ∀ Bl Hl, Step B H Bl Hl → ∀ (x : Int) σ' B1 H1, Ex Bl B1 → Ex B1 H1 → I σ' B1 H1 → tu { D with nx := Nx Bl I, ct := Nx Bl I, bk := tz D } (σ'.set j (some (.int x))) H1)
    (hd : ∀ σ' B1 H1, Ex B B1 → Ex B1 H1 → I σ' B1 H1 → tz D σ' H1) : tSeq (tFor (iList K tl) (gName j) tu) tz D σ H := hl H e _ fun v Bl Hl sl pl => by
  obtain ⟨a, rfl, hb⟩ := pl
  refine ⟨a, rfl, ⟨_, sl.bh.seq hb⟩, for_list (xs := l.map V.int) (D := { D with nx := tz D }) (fun _ => Nx Bl I) ⟨Bl, Ex.refl _, sl.bh, h0 Bl Hl sl⟩ (fun i σ' H' _ ⟨B1, e1, e2, _⟩ => e2.seq (e1.seq hb)) ?_ ?_⟩
  · rintro i x σ' H' hi ⟨B1, e1, e2, hI⟩
    obtain ⟨y, _, rfl⟩ := get_map hi
    exact hs Bl Hl sl y σ' B1 H' e1 e2 hI
  · rintro σ' H' ⟨B1, e1, e2, hI⟩
    exact hd σ' B1 H' (sl.eb.trans e1) e2 hI
theorem ev_int1 {b : Bool} (ha : EvP ta σ B (dp (.bool b))) : EvP (tCB (fun xs H Q => (∃ i, xs = [.int i] ∧ Q (.int i) H) ∨ ∃ k, xs = [.bl k] ∧ Q (.int (if k then 1 else 0)) H) (tCons ta tNil)) σ B (dp (.int (if b then 1 else 0))) := ev_cb (el_cons ha el_nil) fun B' xs _ h H e Q q => by
  obtain ⟨x, rfl, hx⟩ := all2_1 h
  cases dp_bl.mp hx
  exact .inr ⟨b, rfl, q _ B' H (Step.refl e) (.int _)⟩
theorem ev_pow {i j : Int} (ha : EvP ta σ B (dp (.int i))) (hb : EvP tb σ B (dp (.int j))) (hc : CPow i j) : EvP (tOp (rI CPow fun i j => .int (i ^ j.toNat)) ta tb) σ B (dp (.int (i ^ j.toNat))) := ev_opC ha hb hc fun _ => .int _
end
abbrev stP (K : PySem.W.Frag) (scr : List Int) (a b c : Int) : List VP := [sqI K scr, dp (.int a), dp (.int b), dp (.int c)]
/-- the dice stand at p -/
def DS (K : PySem.W.Frag) (p : Addr) (B H : Hp) : Prop := ∃ scr a b c, 0 ≤ a ∧ Acc p (stP K scr a b c) B H
theorem DS.step {K : PySem.W.Frag} {p : Addr} {B H B' H' : Hp} (d : DS K p B H) (s : Step B H B' H') : DS K p B' H' := by
  obtain ⟨scr, a, b, c, h, ac⟩ := d
  exact ⟨scr, a, b, c, h, ac.step s⟩
section
variable {P : Program} {w : World} {K : PySem.W.Frag} {mg : Str → Option Value} {base : Heap} {f : Addr} {fd : FuncData}
abbrev s_w_dice : Stmt := top 43
abbrev N_w_dice : List Str := ["_law_script", "_law_mixed", "_law_cell"]
abbrev P_w_dice : List Str := ["_law_script"]
theorem sc_w_dice : FnScope N_w_dice P_w_dice (defScope s_w_dice) := ⟨rfl, rfl, rfl, by decide +kernel, rfl, by decide +kernel, by decide +kernel⟩
abbrev spDice (K : PySem.W.Frag) : Sp := fun vs H Q _ => ∃ B v scr, vs = [v] ∧ Ex B H ∧ (sqI K scr).p B v ∧ ∀ p B' H', H p = none → Step B H B' H' → DS K p B' H' → Q (.ref p) H'
theorem ok_dice (T : TB mg) (F : FnP K "_law_dice" "_law_dice" s_w_dice f fd) : FnOk P w K mg base CX0 1 f fd P_w_dice (spDice K) := by
  refine F.ok sc_w_dice (fun vs H Q E h => ?_) (fun cdv A outer s H vs Q E hr h => ?_)
  · obtain ⟨B, v, scr, rfl, _⟩ := h
    rfl
  · obtain ⟨B, v, scr, rfl, e, hv, k⟩ := h
    refine ⟨_, PSs.nox (pss_cons (ps_set (i := 1) sc_w_dice.nd rfl (Or.inl rfl) pe_int)
      (pss_cons (ps_for PassesOwn.never rfl (kpi_list (K := K) rfl (pv 0)) (pg_name (i := 2) sc_w_dice.nd rfl (Or.inl rfl)) (pss_one (ps_set (i := 1) sc_w_dice.nd rfl (Or.inl rfl) (pe_op op_mod (pe_op op_add (pe_op op_add (pe_op op_mul (pv 1) pe_int) (pe_op op_mul (pe_op op_mod (pv 2) pe_int) pe_int)) pe_int) pe_int))))
      (pss_one (ps_ret (pe_lst (pa_cons (pv 0) (pa_cons pe_int (pa_cons (pe_op op_mul (pv 1) (pe_callTy call_int1 (by rfl) T.int (by decide +kernel) (pa_cons (pe_cmpR op_gt (pe_callB (kcall_len (K := K) rfl) (by rfl) T.len PySem.boot_len (pa_cons (pv 0) pa_nil)) pe_int (nomark _)) pa_nil))) (pa_cons pe_int pa_nil))))))))), ?_⟩
    refine q_asg e ev_int fun v0 B1 H1 s1 p1 => ?_
    cases dp_int.mp p1
    have sE : ∀ {σ : L2.St} {B' : Hp}, σ[0]? = some (some v) → Ex B B' → EvP (tVar 0) σ B' (sqI K scr) := fun h e => ev_var h ((sqI K scr).m e hv)
    refine q_forQ s1.bh (sE rfl s1.eb) (fun σ B' H' => (∃ m a, σ = [some v, some (.int m), a]) ∧ Step B H B' H') (fun Bl Hl sl => ⟨⟨_, _, rfl⟩, s1.trans sl⟩) ?_ ?_
    · rintro Bl Hl sl x σ' B2 H2 e1 e2 ⟨⟨m, a, rfl⟩, s2⟩
      refine s_asg e2 (ev_mod (ev_add (ev_add (ev_mul (ev_var rfl (P := dp (.int m)) (.int _)) ev_int (.inr ⟨by decide, by decide⟩)) (ev_mul (ev_mod (ev_var rfl (P := dp (.int x)) (.int _)) ev_int (by decide)) ev_int (.inr ⟨by decide, by decide⟩))) ev_int) ev_int (by decide)) fun v3 B3 H3 s3 p3 => ?_
      cases dp_int.mp p3
      exact ⟨B3, e1.trans s3.eb, s3.bh, ⟨_, _, rfl⟩, s2.trans s3⟩
    · rintro σ' B2 H2 e1 e2 ⟨⟨m, a, rfl⟩, s2⟩
      refine en_lst (el_cons (sE rfl s2.eb) (el_cons ev_int (el_cons (ev_mul (ev_var rfl (P := dp (.int m)) (.int _)) (ev_int1 (ev_gt (ev_lenQ (sE rfl s2.eb)) ev_int)) (.inr ⟨?_, ?_⟩)) (el_cons ev_int el_nil)))) (Nat.le_of_ble_eq_true rfl) H2 e2 _ fun p B3 H3 hp s3 a3 => ?_
      · split <;> decide
      · split <;> decide
      · exact k p B3 H3 (s2.eh.none hp) (s2.trans s3) ⟨scr, _, _, _, by decide, a3⟩
abbrev s_w_next : Stmt := top 44
abbrev N_w_next : List Str := ["_law_dice_here", "_law_many_here", "_law_found", "_law_cell"]
abbrev P_w_next : List Str := ["_law_dice_here", "_law_many_here"]
theorem sc_w_next : FnScope N_w_next P_w_next (defScope s_w_next) := ⟨rfl, rfl, rfl, by decide +kernel, rfl, by decide +kernel, by decide +kernel⟩
abbrev spNext (K : PySem.W.Frag) : Sp := fun vs H Q _ => ∃ B p many, vs = [.ref p, .int (many : Nat)] ∧ Ex B H ∧ DS K p B H ∧ 0 < many ∧ many < 1000000 ∧ ∀ (n : Nat) B' H', n < many → StepX p B H B' H' → DS K p B' H' → Q (.int (n : Int)) H'
theorem ok_next (T : TB mg) (F : FnP K "_law_next" "_law_next" s_w_next f fd) : FnOk P w K mg base CX0 1 f fd P_w_next (spNext K) := by
  refine F.ok sc_w_next (fun vs H Q E h => ?_) (fun cdv A outer s H vs Q E hr h => ?_)
  · obtain ⟨B, p, many, rfl, _⟩ := h
    rfl
  · obtain ⟨B, p, many, rfl, e, ⟨scr, a, b, c, ha, ac⟩, m0, m1, k⟩ := h
    refine ⟨_, PSs.nox (pss_cons (ps_if (pt_cmpR op_gt (pe_ix (kix_list (K := K) rfl) (pv 0) pe_int (fun _ _ => rfl)) pe_int (nomark _)) (pss_cons (ps_set (i := 2) sc_w_next.nd rfl (Or.inl rfl) (pe_op op_mod (pe_ix (kix_list (K := K) rfl) (pv 0) pe_int (fun _ _ => rfl)) (pv 1)))
      (pss_cons (ps_asg (pe_op op_fdiv (pe_ix (kix_list (K := K) rfl) (pv 0) pe_int (fun _ _ => rfl)) (pv 1)) (pg_sub (pv 0) pe_int set_list))
      (pss_one (ps_ret (pv 2))))) pss_nil)
      (pss_cons (ps_asg (pe_op op_add (pe_ix (kix_list (K := K) rfl) (pv 0) pe_int (fun _ _ => rfl)) pe_int) (pg_sub (pv 0) pe_int set_list))
      (pss_cons (ps_if (pt_cmpR op_le (pe_ix (kix_list (K := K) rfl) (pv 0) pe_int (fun _ _ => rfl)) (pe_callB (kcall_len (K := K) rfl) (by rfl) T.len PySem.boot_len (pa_cons (pe_ix (kix_list (K := K) rfl) (pv 0) pe_int (fun _ _ => rfl)) pa_nil)) (nomark _)) (pss_cons (ps_set (i := 3) sc_w_next.nd rfl (Or.inl rfl) (pe_ix (kix_list (K := K) rfl) (pe_ix (kix_list (K := K) rfl) (pv 0) pe_int (fun _ _ => rfl)) (pe_op op_sub (pe_ix (kix_list (K := K) rfl) (pv 0) pe_int (fun _ _ => rfl)) pe_int) (fun _ _ => rfl)))
      (pss_cons (ps_asg (pe_ifExp (pt_cmpR op_ge (pv 3) (pe_op op_pow pe_int pe_int) (nomark _)) (pe_op op_fdiv (pv 3) (pv 1)) pe_int) (pg_sub (pv 0) pe_int set_list))
      (pss_one (ps_ret (pe_op op_mod (pv 3) (pv 1)))))) pss_nil)
      (pss_cons (ps_asg (pe_op op_mod (pe_op op_mul (pe_ix (kix_list (K := K) rfl) (pv 0) pe_int (fun _ _ => rfl)) pe_int) pe_int) (pg_sub (pv 0) pe_int set_list))
      (pss_one (ps_ret (pe_op op_mod (pe_op op_fdiv (pe_ix (kix_list (K := K) rfl) (pv 0) pe_int (fun _ _ => rfl)) pe_int) (pv 1)))))))), ?_⟩
    have mpos : (0 : Int) < (many : Nat) := by omega
    have mE : ∀ {σ : L2.St} {B' : Hp}, σ[1]? = some (some (.int (many : Nat))) → EvP (tVar 1) σ B' (dp (.int (many : Nat))) := fun h => ev_var h (.int _)
    have dE : ∀ {σ : L2.St} {B' : Hp} {a b c : Int} {P : VP} {i : Int}, σ[0]? = some (some (.ref p)) → (lst (stP K scr a b c)).p B' (.ref p) → atI (stP K scr a b c) i = some P → EvP (tOp (rIxL K) (tVar 0) (tC (.int i))) σ B' P := fun h pl hi => ev_ixL (ev_var h pl) ev_int hi
    have out : ∀ {x : Int} {B' H'}, StepX p B H B' H' → DS K p B' H' → Q (.int (x % (many : Nat))) H' := fun {x B' H'} s d => by
      have h1 := Int.emod_nonneg x (show (many : Int) ≠ 0 by omega)
      have h2 := Int.emod_lt_of_pos x mpos
      have := k (x % (many : Nat)).toNat B' H' (by omega) s d
      rw [show (((x % (many : Nat)).toNat : Nat) : Int) = x % (many : Nat) by omega] at this
      exact this
    -- if d[3] > 0
    refine q (peekB (b := decide ((0 : Int) < c)) e ac (fun B' e' pl => eb_test (ev_gt (dE rfl pl rfl) ev_int)) fun H1 s1 a1 => ?_)
    by_cases hc : 0 < c
    · rw [dT hc]
      refine iteT ?_
      refine q (peek (v := .int (c % (many : Nat))) s1.bh a1 (fun B' e' pl => (ev_mod (dE rfl pl rfl) (mE rfl) mpos).i) fun H2 s2 a2 => ?_)
      refine q (s_store (Ps := stP K scr a b c) (j := 3) (v := .int (c / (many : Nat))) (P := dp (.int (c / (many : Nat)))) s2.bh a2 (fun B' e' pl => (ev_fdiv (dE rfl pl rfl) (mE rfl) ⟨mpos, by omega⟩).i) (ev_var rfl rfl) ev_int (Nat.le_of_ble_eq_true rfl) (fun _ => .int _) fun B3 H3 e3 e3' a3 hs3 => ?_)
      obtain ⟨H4, s4, o4⟩ := hs3
      dsimp only
      refine ⟨_, rfl, ?_⟩
      exact out (((s1.trans s2).x p).ofApp s4 o4 e3') ⟨scr, a, b, _, ha, a3⟩
    · rw [dF hc]
      refine iteF ?_
      dsimp only [tNext]
      -- d[1] = d[1] + 1
      refine q (s_store (Ps := stP K scr a b c) (j := 1) (v := .int (a + 1)) (P := dp (.int (a + 1))) s1.bh a1 (fun B' e' pl => (ev_add (dE rfl pl rfl) ev_int).i) (ev_var rfl rfl) ev_int (Nat.le_of_ble_eq_true rfl) (fun _ => .int _) fun B3 H3 e3 e3' a3 hs3 => ?_)
      obtain ⟨H4, s4, o4⟩ := hs3
      have a3' : Acc p (stP K scr (a + 1) b c) B3 H3 := a3
      have s3 := (s1.x p).ofApp s4 o4 e3'
      -- if d[1] <= len(d[0])
      refine q (peekB (b := decide (a + 1 ≤ (scr.length : Int))) e3' a3' (fun B' e' pl => eb_test (ev_le (dE rfl pl rfl) (ev_lenQ (dE rfl pl rfl)))) fun H5 s5 a5 => ?_)
      by_cases hl : a + 1 ≤ (scr.length : Int)
      · rw [dT hl]
        refine iteT ?_
        obtain ⟨x, hx⟩ := lt_get (l := scr) (i := a.toNat) (by omega)
        have hx' : atI scr (a + 1 - 1) = some x := by
          rw [show a + 1 - 1 = ((a.toNat : Nat) : Int) by omega]
          exact atI_nat hx
        refine q (peek (v := .int x) s5.bh a5 (fun B' e' pl => (ev_ixQ (dE rfl pl rfl) (ev_sub (dE rfl pl rfl) ev_int) hx').i) fun H6 s6 a6 => ?_)
        have s36 := s3.trans ((s5.trans s6).x p)
        obtain ⟨z, hz⟩ : ∃ z : Int, ∀ B', EvP (tIf (tTest (tOp (rI0 fun i j => .bl (decide (j ≤ i))) (tVar 3) (tOp (rI CPow fun i j => .int (i ^ j.toNat)) (tC (.int 10)) (tC (.int 18))))) (tOp (rI CDiv fun i j => .int (i / j)) (tVar 3) (tVar 1)) (tC (.int 0))) [some (.ref p), some (.int (many : Nat)), none, some (.int x)] B' (dp (.int z)) := by
          by_cases y : (10 : Int) ^ (18 : Int).toNat ≤ x
          · exact ⟨x / (many : Nat), fun B' => ev_if ((eb_test (ev_ge (ev_var rfl (.int _)) (ev_pow ev_int ev_int ⟨by decide, by decide, by decide⟩))).to (dT y)) (fun _ => ev_fdiv (ev_var rfl (.int _)) (mE rfl) ⟨mpos, by omega⟩) fun z => by cases z⟩
          · exact ⟨0, fun B' => ev_if ((eb_test (ev_ge (ev_var rfl (.int _)) (ev_pow ev_int ev_int ⟨by decide, by decide, by decide⟩))).to (dF y)) (fun z => by cases z) fun _ => ev_int⟩
        refine q (s_store (Ps := stP K scr (a + 1) b c) (j := 3) (v := .int z) (P := dp (.int z)) s6.bh a6 (fun B' e' pl => (hz B').i) (ev_var rfl rfl) ev_int (Nat.le_of_ble_eq_true rfl) (fun _ => .int _) fun B7 H7 e7 e7' a7 hs7 => ?_)
        obtain ⟨H8, s8, o8⟩ := hs7
        dsimp only
        have s7 := s36.ofApp s8 o8 e7'
        refine s_ret e7' (ev_mod (ev_var rfl (P := dp (.int x)) (.int _)) (mE rfl) mpos) fun v B9 H9 s9 p9 => ?_
        cases dp_int.mp p9
        exact out (s7.trans (s9.x p)) ⟨scr, a + 1, b, z, by omega, Acc.step a7 s9⟩
      · rw [dF hl]
        refine iteF ?_
        dsimp only [tNext]
        have s35 := s3.trans (s5.x p)
        refine q (s_store (Ps := stP K scr (a + 1) b c) (j := 2) (v := .int (b * 48271 % 2147483647)) (P := dp (.int (b * 48271 % 2147483647))) s5.bh a5 (fun B' e' pl => (ev_mod (ev_mul (dE rfl pl rfl) ev_int (.inr ⟨by decide, by decide⟩)) ev_int (by decide)).i) (ev_var rfl rfl) ev_int (Nat.le_of_ble_eq_true rfl) (fun _ => .int _) fun B7 H7 e7 e7' a7 hs7 => ?_)
        obtain ⟨H8, s8, o8⟩ := hs7
        dsimp only
        have s7 := s35.ofApp s8 o8 e7'
        have a7' : Acc p (stP K scr (a + 1) (b * 48271 % 2147483647) c) B7 H7 := a7
        refine peek (v := .int (b * 48271 % 2147483647 / 7 % (many : Nat))) e7' a7' (fun B' e' pl => (ev_mod (ev_fdiv (dE rfl pl rfl) ev_int ⟨by decide, by decide⟩) (mE rfl) mpos).i) fun H9 s9 a9 => ?_
        exact out (s7.trans (s9.x p)) ⟨scr, _, _, _, by omega, a9⟩
end
end TL
set_option maxHeartbeats 4000000
/-! expressions that throw the dice; _law_many -/
namespace TL
open PySem L2
/-- te throws the dice at p -/
def EvD (K : PySem.W.Frag) (p : Addr) (te : TE) (σ : L2.St) (B : Hp) (P : VP) : Prop := ∀ B1 H, Ex B B1 → Ex B1 H → DS K p B1 H → ∀ Q : VK, (∀ v B' H', StepX p B1 H B' H' → DS K p B' H' → P.p B' v → Q v H') → te σ H Q
def ElD (K : PySem.W.Frag) (p : Addr) (ta : TA) (σ : L2.St) (B : Hp) (Ps : List VP) : Prop := ∀ B1 H, Ex B B1 → Ex B1 H → DS K p B1 H → ∀ Q : List V → Hp → Prop, (∀ v B' H', StepX p B1 H B' H' → DS K p B' H' → all2 B' v Ps → Q v H') → ta σ H Q
/-- a whole number below n -/
def rgN (n : Nat) : VP := ⟨fun _ v => ∃ m : Nat, m < n ∧ v = .int (m : Int), fun _ h => h⟩
section
variable {K : PySem.W.Frag} {σ : L2.St} {B B0 H : Hp} {ta tb tc te : TE} {tl tm : TA} {p : Addr} {P Pa Pb : VP} {Ps : List VP} {r : R2}
theorem DS.poke {B H : Hp} {D : Addr} {o : HO} (d : DS K p B H) (h : D ≠ p) : DS K p B (upd H D o) := by
  obtain ⟨scr, a, b, c, h0, h1, xs, h2, h3⟩ := d
  exact ⟨scr, a, b, c, h0, h1, xs, by rw [upd_ne (Ne.symm h)]; exact h2, h3⟩
theorem DS.shown {B H : Hp} {D : Addr} {o : HO} (d : DS K p B H) (h : D ≠ p) (hb : B D = none) : DS K p (upd B D o) H := by
  obtain ⟨scr, a, b, c, h0, h1, xs, h2, h3⟩ := d
  exact ⟨scr, a, b, c, h0, by rw [upd_ne (Ne.symm h)]; exact h1, xs, h2, all2_m (Ex.new hb) h3⟩
theorem StepX.shown {x D : Addr} {o : HO} {B H B' H' : Hp} (s : StepX x B H B' H') (h0 : H D = none) (hb : B' D = none) (ho : H' D = some o) : StepX x B H (upd B' D o) H' :=
  ⟨s.eb.trans (Ex.new hb), ex_show s.bh ho, s.eh, fun a z h1 h2 => by
    rw [upd_ne (fun y => by subst y; exact h1 h0)]
    exact s.hid a z h1 h2⟩
theorem DS.ne {B H : Hp} {D : Addr} (d : DS K p B H) (h : H D = none) : D ≠ p := fun z => by
  subst z
  obtain ⟨scr, a, b, c, _, _, xs, h2, _⟩ := d
  rw [h] at h2
  cases h2
theorem StepX.ext {B H B' H' : Hp} {x : Addr} (s : StepX x B H B' H') : Ex B B' := s.eb
theorem EvP.d (h : EvP te σ B P) : EvD K p te σ B P := fun B1 H e1 e2 d Q q => h.mono e1 H e2 Q fun v B' H' s pv => q v B' H' (s.x p) (d.step s) pv
theorem EvD.mono (h : EvD K p te σ B P) (e : Ex B B0) : EvD K p te σ B0 P := fun B1 H e1 e2 => h B1 H (e.trans e1) e2
theorem ElD.mono (h : ElD K p tl σ B Ps) (e : Ex B B0) : ElD K p tl σ B0 Ps := fun B1 H e1 e2 => h B1 H (e.trans e1) e2
theorem EvD.imp (h : EvD K p te σ B P) (i : ∀ B' v, P.p B' v → Pa.p B' v) : EvD K p te σ B Pa := fun B1 H e1 e2 d Q q => h B1 H e1 e2 d Q fun v B' H' s d' pv => q v B' H' s d' (i B' v pv)
theorem eld_nil : ElD K p tNil σ B [] := fun B1 H e1 e2 d Q q => q [] B1 H (StepX.refl e2) d True.intro
theorem eld_cons (h : EvD K p ta σ B P) (hr : ElD K p tl σ B Ps) : ElD K p (tCons ta tl) σ B (P :: Ps) := fun B1 H e1 e2 d Q q =>
  h B1 H e1 e2 d _ fun v B2 H2 s2 d2 p2 => hr B2 H2 (e1.trans s2.eb) s2.bh d2 _ fun vs B3 H3 s3 d3 p3 => q _ B3 H3 (s2.trans s3) d3 ⟨P.m s3.eb p2, p3⟩
theorem evd_op (ha : EvD K p ta σ B Pa) (hb : EvD K p tb σ B Pb) (hr : ∀ B' x y, Ex B B' → Pa.p B' x → Pb.p B' y → RV r x y B' P) : EvD K p (tOp r ta tb) σ B P := fun B1 H e1 e2 d Q q =>
  ha B1 H e1 e2 d _ fun x B2 H2 s2 d2 p2 => hb B2 H2 (e1.trans s2.eb) s2.bh d2 _ fun y B3 H3 s3 d3 p3 => hr B3 x y (e1.trans (s2.eb.trans s3.eb)) (Pa.m s3.eb p2) p3 H3 s3.bh Q fun v B4 H4 s4 p4 => q v B4 H4 ((s2.trans s3).trans (s4.x p)) (d3.step s4) p4
theorem step_new {B1 H1 : Hp} {q : Addr} {o : HO} (e : Ex B1 H1) (hq : H1 q = none) : Step B1 H1 (upd B1 q o) (upd H1 q o) := Step.new e hq
theorem evd_tup (h : ElD K p tl σ B Ps) (hl : Ps.length ≤ 1000000) : EvD K p (tTup tl) σ B (tup Ps) := fun B1 H e1 e2 d Q q =>
  h B1 H e1 e2 d _ fun vs B2 H2 s2 d2 p2 => ⟨sz_le (by rw [all2_len p2]; exact hl), fun a ha => q _ _ _ (s2.trans ((step_new s2.bh ha).x p)) (d2.step (step_new s2.bh ha)) ⟨a, vs, rfl, upd_same, all2_m (Ex.new (s2.bh.none ha)) p2⟩⟩
theorem evd_lst (h : ElD K p tl σ B Ps) (hl : Ps.length ≤ 1000000) : EvD K p (tLst tl) σ B (lst Ps) := fun B1 H e1 e2 d Q q =>
  h B1 H e1 e2 d _ fun vs B2 H2 s2 d2 p2 => ⟨sz_le (by rw [all2_len p2]; exact hl), fun a ha => q _ _ _ (s2.trans ((step_new s2.bh ha).x p)) (d2.step (step_new s2.bh ha)) ⟨a, vs, rfl, upd_same, all2_m (Ex.new (s2.bh.none ha)) p2⟩⟩
theorem evd_tuple (ha : EvD K p ta σ B (lst Ps)) : EvD K p (tCB (rTupS K) (tCons ta tNil)) σ B (tup Ps) := fun B1 H e1 e2 d Q q =>
  ha B1 H e1 e2 d _ fun v B2 H2 s2 d2 p2 => by
    obtain ⟨a, ys, rfl, h1, h2⟩ := p2
    refine ⟨a, ys, rfl, .inl ⟨SqL.of (s2.bh _ _ h1), fun l hl => q _ _ _ (s2.trans ((step_new s2.bh hl).x p)) (d2.step (step_new s2.bh hl)) ⟨l, ys, rfl, upd_same, all2_m (Ex.new (s2.bh.none hl)) h2⟩⟩⟩
/-- _law_next(d, n) -/
theorem evd_next {n : Nat} (hp : EvP ta σ B (isV (.ref p))) (hn : EvP tb σ B (dp (.int (n : Nat)))) (n0 : 0 < n) (n1 : n < 1000000) : EvD K p (tCall (spNext K) [] E0 (tCons ta (tCons tb tNil))) σ B (rgN n) := fun B1 H e1 e2 d Q q =>
  hp.mono e1 H e2 _ fun x B2 H2 s2 p2 => by
    cases (show x = .ref p from p2)
    refine hn.mono (e1.trans s2.eb) H2 s2.bh _ fun y B3 H3 s3 p3 => ?_
    cases dp_int.mp p3
    have s23 := s2.trans s3
    exact ⟨B3, p, n, rfl, s23.bh, d.step s23, n0, n1, fun m B' H' hm s' d' => q _ B' H' ((s23.x p).trans s') d' ⟨m, hm, rfl⟩⟩
/-- xs[next] -/
theorem evd_pick {n : Nat} {Q' : VP} (ha : EvD K p ta σ B (lst Ps)) (hb : EvD K p tb σ B (rgN n)) (hn : n = Ps.length) (hq : ∀ P ∈ Ps, ∀ B' v, P.p B' v → Q'.p B' v) : EvD K p (tOp (rIxL K) ta tb) σ B Q' := evd_op ha hb fun B' x y _ hx hy H e Q q => by
  obtain ⟨a, xs, rfl, h1, h2⟩ := hx
  obtain ⟨m, hm, rfl⟩ := hy
  have len := all2_len h2
  obtain ⟨v, hv⟩ := lt_get (l := xs) (i := m) (by omega)
  obtain ⟨P, hP, hp⟩ := all2_at h2 hv
  exact ⟨a, xs, (m : Int), v, rfl, rfl, SqL.of (e _ _ h1), atI_nat hv, q v B' H (Step.refl e) (hq P (List.mem_of_getElem? hP) B' v hp)⟩
/-- [.. for i in range(n)], each throws the dice -/
theorem evd_lcR {j : Nat} {ws : List Nat} {n : Nat} (hl : EvP tc σ B (dp (.int (n : Nat)))) (hz : n < 1000000) (hw : ∀ x, wipe ((wipe σ ws).set j (some x)) ws = wipe σ ws)
    (he : ∀ (y : Nat) B', y < n → Ex B B' → EvD K p te ((wipe σ ws).set j (some (.int (y : Int)))) B' P) : EvD K p (tLc (iRng1 (tCons tc tNil)) (gName j) tYes te ws) σ B (lst (List.replicate n P)) := fun B1 H e1 e2 d Q q => hl.mono e1 H e2 _ fun x B2 H2 s2 p2 => by
  cases dp_int.mp p2
  refine ⟨(n : Int), rfl, by omega, by omega, fun D hD => ?_⟩
  rw [Int.toNat_natCast]
  have d2 := d.step s2
  have hDp : D ≠ p := d2.ne hD
  refine lc_range (lo := 0) (n := n) (fun i H' => ∃ B', StepX p B1 H B' H' ∧ DS K p B' H' ∧ Acc D (List.replicate i P) B' H' ∧ Ex B2 B') ⟨B2, ((s2.poke (s2.eh.none hD) (s2.bh.none hD))).x p, ?_, Acc.new (s2.bh.none hD), Ex.refl _⟩ ?_ ?_
  · exact d2.step ((Step.refl s2.bh).poke hD (s2.bh.none hD))
  · rintro i H' hi ⟨B', s', d', a', e'⟩
    have z : (0 : Int) + (i : Int) = (i : Int) := Int.zero_add _
    rw [z]
    refine ⟨hw _, ?_⟩
    show (te ((wipe σ ws).set j (some (.int (i : Int)))) H' fun y H4 => _)
    refine he i B' hi (e1.trans s'.eb) B' H' (Ex.refl _) s'.bh d' _ fun v B3 H3 s3 d3 p3 => ?_
    obtain ⟨k1, xs, k2, k3⟩ := a'
    have k4 : B3 D = none := s3.hid D hDp (by rw [k2]; exact fun z => by cases z) k1
    have k5 : H3 D = some (.lst xs) := s3.eh D _ hDp k2
    refine ⟨xs, k5, sz_lt (by rw [all2_len (all2_m s3.eb k3), List.length_replicate]; omega), B3, ?_, ?_, ⟨k4, _, upd_same, ?_⟩, e'.trans s3.eb⟩
    · have s13 := s'.trans s3
      exact ⟨s13.eb, s13.bh.poke k4, fun a u z h => by
        rw [upd_ne (fun y => by subst y; rw [s2.eh.none hD] at h; cases h)]
        exact s13.eh a u z h, s13.hid⟩
    · exact d3.poke hDp
    · rw [List.replicate_succ']
      exact all2_snoc (all2_m s3.eb k3) p3
  · rintro H' ⟨B', s', d', a', e'⟩
    obtain ⟨k1, xs, k2, k3⟩ := a'
    exact q _ _ H' (s'.shown (s2.eh.none hD) k1 k2) (d'.shown hDp k1) ⟨D, xs, rfl, upd_same, all2_m (Ex.new k1) k3⟩
/-- a tuple that throws the dice goes to two names -/
theorem s_asg2D {D : Ends} {i j : Nat} {P1 P2 : VP} (e : Ex B H) (d : DS K p B H) (h : ElD K p tl σ B [P1, P2])
    (k : ∀ v1 v2 B' H', StepX p B H B' H' → DS K p B' H' → P1.p B' v1 → P2.p B' v2 → D.nx ((σ.set i (some v1)).set j (some v2)) H') : tAsg (tTup tl) (gTup K 2 (gCons (gName i) (gCons (gName j) gNil))) D σ H :=
  h B H (Ex.refl _) e d _ fun vs B2 H2 s2 d2 p2 => ⟨sz_le (by rw [all2_len p2]; exact Nat.le_of_ble_eq_true rfl), fun a ha => by
    obtain ⟨v1, v2, rfl, q1, q2⟩ := all2_2 p2
    refine ⟨a, [v1, v2], rfl, SqT.of upd_same, rfl, v1, [v2], rfl, v2, [], rfl, rfl, ?_⟩
    have st := step_new (o := .tup [v1, v2]) s2.bh ha
    exact k v1 v2 _ _ (s2.trans (st.x p)) (d2.step st) (P1.m st.eb q1) (P2.m st.eb q2)⟩
theorem s_asgD {D : Ends} {i : Nat} (e : Ex B H) (d : DS K p B H) (h : EvD K p te σ B P) (k : ∀ v B' H', StepX p B H B' H' → DS K p B' H' → P.p B' v → D.nx (σ.set i (some v)) H') : tAsg te (gName i) D σ H := h B H (Ex.refl _) e d _ k
theorem s_retD {D : Ends} (e : Ex B H) (d : DS K p B H) (h : EvD K p te σ B P) (k : ∀ v B' H', StepX p B H B' H' → DS K p B' H' → P.p B' v → D.rt v H') : tRet te D σ H := h B H (Ex.refl _) e d _ k
end
/-- rows as the law makes them -/
def anyRows : VP := ⟨fun B v => ∃ rs, okTiles rs ∧ (dp (rowsD rs)).p B v, fun e ⟨rs, h1, h2⟩ => ⟨rs, h1, (dp _).m e h2⟩⟩
def markV : VP := ⟨fun _ v => ∃ m : Int, okMark m ∧ v = .int m, fun _ h => h⟩
def oneOf (l : List Int) : VP := ⟨fun _ v => ∃ m ∈ l, v = .int m, fun _ h => h⟩
section
variable {P : Program} {w : World} {K : PySem.W.Frag} {mg : Str → Option Value} {base : Heap} {f : Addr} {fd : FuncData}
theorem row_of {B : Hp} {xs : List V} (h : all2 B xs [markV, markV, markV, markV]) : ∃ t : Tile, okT t ∧ all2 B xs ([PyData.int t.n, .int t.e, .int t.s, .int t.w].map dp) := by
  cases xs with
  | nil => exact h.elim
  | cons a1 xs =>
    cases xs with
    | nil => exact h.2.elim
    | cons a2 xs =>
      cases xs with
      | nil => exact h.2.2.elim
      | cons a3 xs =>
        cases xs with
        | nil => exact h.2.2.2.elim
        | cons a4 xs =>
          obtain ⟨h1, h2, h3, h4, h5⟩ := h
          obtain ⟨m1, o1, rfl⟩ := h1
          obtain ⟨m2, o2, rfl⟩ := h2
          obtain ⟨m3, o3, rfl⟩ := h3
          obtain ⟨m4, o4, rfl⟩ := h4
          cases xs with
          | nil => exact ⟨⟨m1, m2, m3, m4⟩, ⟨o1, o2, o3, o4⟩, .int _, .int _, .int _, .int _, True.intro⟩
          | cons _ _ => exact h5.elim
theorem rows_of {B : Hp} : ∀ {n : Nat} {vs : List V}, all2 B vs (List.replicate n (tup (List.replicate 4 markV))) → ∃ rs : List Tile, rs.length = n ∧ (∀ t ∈ rs, okT t) ∧ all2 B vs (rs.map fun t => dp t.d)
  | 0, [], _ => ⟨[], rfl, (fun t ht => by cases ht), True.intro⟩
  | 0, _ :: _, h => h.elim
  | n + 1, [], h => h.elim
  | n + 1, v :: vs, ⟨h1, h2⟩ => by
    obtain ⟨rs, l, ok, h3⟩ := rows_of h2
    obtain ⟨a, xs, rfl, q1, q2⟩ := h1
    obtain ⟨t, ok', ht⟩ := row_of q2
    refine ⟨t :: rs, by rw [List.length_cons, l], fun u hu => ?_, ⟨tup_dp.mp ⟨a, xs, rfl, q1, ht⟩, h3⟩⟩
    rcases List.mem_cons.mp hu with rfl | hu
    · exact ok'
    · exact ok u hu
abbrev s_w_many : Stmt := top 46
abbrev N_w_many : List Str := ["_law_d", "_law_size", "_law_wide", "_law_step", "_law_tile", "_law_side"]
abbrev P_w_many : List Str := ["_law_d"]
theorem sc_w_many : FnScope N_w_many P_w_many (defScope s_w_many) := ⟨rfl, rfl, rfl, by decide +kernel, rfl, by decide +kernel, by decide +kernel⟩
abbrev spWMany (K : PySem.W.Frag) : Sp := fun vs H Q _ => ∃ B p, vs = [.ref p] ∧ Ex B H ∧ DS K p B H ∧ ∀ v B' H', StepX p B H B' H' → DS K p B' H' → anyRows.p B' v → Q v H'
theorem ok_wmany (T : TB mg) (c__law_next : Cl P w K mg base CX0 1 "_law_next" (spNext K)) (F : FnP K "_law_many" "_law_many" s_w_many f fd) : FnOk P w K mg base CX0 2 f fd P_w_many (spWMany K) := by
  refine F.ok sc_w_many (fun vs H Q E h => ?_) (fun cdv A outer s H vs Q E hr h => ?_)
  · obtain ⟨B, p, rfl, _⟩ := h
    rfl
  · obtain ⟨B, p, rfl, e, d, k⟩ := h
    refine ⟨_, PSs.nox (pss_cons (ps_asg (pe_tup (pa_cons (pe_ix (kix_list (K := K) rfl) (pe_lst (pa_cons pe_int (pa_cons pe_int (pa_cons pe_int pa_nil)))) (pe_cl c__law_next hr (by omega) rfl pass0 (pa_cons (pv 0) (pa_cons pe_int pa_nil))) (fun _ _ => rfl)) (pa_cons (pe_ix (kix_list (K := K) rfl) (pe_lst (pa_cons pe_int (pa_cons pe_int (pa_cons (pe_op op_pow pe_int pe_int) pa_nil)))) (pe_cl c__law_next hr (by omega) rfl pass0 (pa_cons (pv 0) (pa_cons pe_int pa_nil))) (fun _ _ => rfl)) pa_nil))) (pg_tup rfl (pgs_cons (pg_name (i := 2) sc_w_many.nd rfl (Or.inr rfl)) (pgs_cons (pg_name (i := 3) sc_w_many.nd rfl (Or.inr rfl)) pgs_nil))))
      (pss_cons (ps_set (i := 1) sc_w_many.nd rfl (Or.inl rfl) (pe_ix (kix_list (K := K) rfl) (pe_lst (pa_cons pe_int (pa_cons (pe_op op_add pe_int (pe_cl c__law_next hr (by omega) rfl pass0 (pa_cons (pv 0) (pa_cons pe_int pa_nil)))) pa_nil))) (pe_cl c__law_next hr (by omega) rfl pass0 (pa_cons (pv 0) (pa_cons pe_int pa_nil))) (fun _ _ => rfl)))
      (pss_one (ps_ret (pe_lc (own := [("_law_tile", 4)]) (g := gName 4) (tt := tYes) rfl sc_w_many.nd (pi_range1 (by rfl) T.range (pa_cons (pv 1) pa_nil)) (blkOk_by (N := N_w_many) (sc := defScope s_w_many) (by decide +kernel)) (fun _ _ _ _ _ => pg_name (i := 4) sc_w_many.nd rfl (Or.inl rfl)) (fun _ _ _ _ _ => pts_nil) (fun _ _ _ _ _ => (pe_callTy (kcall_tuple (K := K) rfl) (by rfl) T.tuple (by decide +kernel) (pa_cons (pe_lc (own := [("_law_side", 5)]) (g := gName 5) (tt := tYes) rfl sc_w_many.nd (pi_range1 (by rfl) T.range (pa_cons pe_int pa_nil)) (blkOk_by (by kernel_rfl)) (fun _ _ _ _ _ => pg_name (i := 5) sc_w_many.nd rfl (Or.inl rfl)) (fun _ _ _ _ _ => pts_nil) (fun _ _ _ _ _ => (pe_op op_mul (pe_cl c__law_next hr (by omega) rfl pass0 (pa_cons (pv 0) (pa_cons (pv 2) pa_nil))) (pv 3)))) pa_nil)))))))), ?_⟩
    have thr : ∀ {σ : L2.St} {B' : Hp} {n : Nat} {t : TE}, σ[0]? = some (some (.ref p)) → EvP t σ B' (dp (.int (n : Nat))) → 0 < n → n < 1000000 → EvD K p (tCall (spNext K) [] E0 (tCons (tVar 0) (tCons t tNil))) σ B' (rgN n) := fun h ht n0 n1 => evd_next (ev_var h rfl) ht n0 n1
    refine q (s_asg2D (P1 := oneOf [6, 20, 90]) (P2 := oneOf [1, 1, 10000000000]) e d (eld_cons (evd_pick (n := 3) (Ps := [dp (.int 6), dp (.int 20), dp (.int 90)]) (ev_lst (el_cons ev_int (el_cons ev_int (el_cons ev_int el_nil))) (Nat.le_of_ble_eq_true rfl)).d (thr rfl ev_int (by decide) (by decide)) rfl ?_)
      (eld_cons (evd_pick (n := 3) (Ps := [dp (.int 1), dp (.int 1), dp (.int 10000000000)]) (ev_lst (el_cons ev_int (el_cons ev_int (el_cons ((ev_pow ev_int ev_int ⟨by decide, by decide, by decide⟩).to (by rfl)) el_nil))) (Nat.le_of_ble_eq_true rfl)).d (thr rfl ev_int (by decide) (by decide)) rfl ?_) eld_nil)) fun v1 v2 B1 H1 s1 d1 p1 p2 => ?_)
    · intro P' hP B' v hv
      simp only [List.mem_cons, List.not_mem_nil, or_false] at hP
      rcases hP with rfl | rfl | rfl <;> (cases dp_int.mp hv; exact ⟨_, by simp, rfl⟩)
    · intro P' hP B' v hv
      simp only [List.mem_cons, List.not_mem_nil, or_false] at hP
      rcases hP with rfl | rfl | rfl <;> (cases dp_int.mp hv; exact ⟨_, by simp, rfl⟩)
    obtain ⟨wd, hwd, rfl⟩ := p1
    obtain ⟨sp, hsp, rfl⟩ := p2
    obtain ⟨wn, hwn, w0, w90⟩ : ∃ n : Nat, wd = (n : Int) ∧ 0 < n ∧ n ≤ 90 := by
      simp only [List.mem_cons, List.not_mem_nil, or_false] at hwd
      rcases hwd with rfl | rfl | rfl
      · exact ⟨6, rfl, by decide, by decide⟩
      · exact ⟨20, rfl, by decide, by decide⟩
      · exact ⟨90, rfl, by decide, by decide⟩
    subst hwn
    have hsp' : 0 ≤ sp ∧ sp ≤ 10000000000 := by
      simp only [List.mem_cons, List.not_mem_nil, or_false] at hsp
      rcases hsp with rfl | rfl | rfl <;> decide
    -- _law_size
    let szV : VP := ⟨fun _ v => ∃ n : Nat, 60 ≤ n ∧ n ≤ 200 ∧ v = .int (n : Int), fun _ h => h⟩
    refine q (s_asgD (P := szV) s1.bh d1 (evd_pick (n := 2) (Ps := [dp (.int 200), szV]) (evd_lst (eld_cons ev_int.d (eld_cons (evd_op (Pa := dp (.int 60)) (Pb := rgN 141) ev_int.d (thr rfl ev_int (by decide) (by decide)) ?_) eld_nil)) (Nat.le_of_ble_eq_true rfl)) (thr rfl ev_int (by decide) (by decide)) rfl ?_) fun v3 B2 H2 s2 d2 p3 => ?_)
    · intro B' x y _ hx hy H' e' Q' q'
      cases dp_int.mp hx
      obtain ⟨m, hm, rfl⟩ := hy
      exact ⟨60, (m : Int), rfl, rfl, q' _ B' H' (Step.refl e') ⟨60 + m, by omega, by omega, congrArg V.int (show (60 : Int) + (m : Int) = ((60 + m : Nat) : Int) by omega)⟩⟩
    · intro P' hP B' v hv
      simp only [List.mem_cons, List.not_mem_nil, or_false] at hP
      rcases hP with rfl | rfl
      · cases dp_int.mp hv
        exact ⟨200, by decide, by decide, rfl⟩
      · exact hv
    obtain ⟨n, n60, n200, rfl⟩ := p3
    dsimp only
    refine s_retD s2.bh d2 (evd_lcR (n := n) (P := tup (List.replicate 4 markV)) (ev_var rfl (.int _)) (by omega) (fun _ => rfl) fun y B' hy e' => evd_tuple (evd_lcR (n := 4) ev_int (by decide) (fun _ => rfl) fun z B'' hz e'' => evd_op (Pa := rgN wn) (Pb := dp (.int sp)) (thr rfl (ev_var rfl (P := dp (.int (wn : Nat))) (.int _)) w0 (by omega)) (ev_var rfl (P := dp (.int sp)) (.int _)).d ?_)) fun v B3 H3 s3 d3 p3 => ?_
    · intro B' x y _ hx hy H' e' Q' q'
      obtain ⟨m, hm, rfl⟩ := hx
      cases dp_int.mp hy
      refine ⟨(m : Int), sp, rfl, rfl, .inl ⟨by omega, by omega⟩, q' _ B' H' (Step.refl e') ⟨_, ⟨?_, ?_⟩, rfl⟩⟩
      · exact Int.mul_nonneg (by omega) hsp'.1
      · have : (m : Int) * sp ≤ 89 * 10000000000 := Int.mul_le_mul (by omega) hsp'.2 hsp'.1 (by decide)
        omega
    · have s13 := (s1.trans s2).trans s3
      refine k v B3 H3 s13 d3 ?_
      obtain ⟨a, xs, rfl, q1, q2⟩ := p3
      obtain ⟨rs, l, ok, q3⟩ := rows_of q2
      exact ⟨rs, ⟨by omega, by omega, ok⟩, rows_lst.mp ⟨a, xs, rfl, q1, q3⟩⟩
end
end TL
set_option maxHeartbeats 4000000
/-! == of data; _law_steps, _law_columns_of -/
namespace TL
open PySem L2
theorem canLay_map {α : Type} {f : α → PyData} (h : ∀ a, PyData.canLay0 (f a) = true) : ∀ l : List α, PyData.canLayAll0 (l.map f) = true
  | [] => by simp [PyData.canLayAll0]
  | a :: l => by
    rw [List.map_cons, PyData.canLayAll0, h a, canLay_map h l]
    rfl
theorem depth_map {α : Type} {f : α → PyData} {k : Nat} (h : ∀ a, PyData.depth (f a) ≤ k) : ∀ l : List α, PyData.depthAll (l.map f) ≤ k
  | [] => by simp [PyData.depthAll]
  | a :: l => by
    rw [List.map_cons, PyData.depthAll]
    exact Nat.max_le.mpr ⟨h a, depth_map h l⟩
theorem shaped_map {α : Type} {f : α → PyData} (h : ∀ a, PyData.canLay0 (f a) = true) (hd : ∀ a, PyData.depth (f a) ≤ 20) (l : List α) : SeqAt.shaped (.list (l.map f)) = true := by
  unfold SeqAt.shaped
  rw [PyData.canLay0, canLay_map h l, PyData.depth, decide_eq_true (by have := depth_map hd l; omega)]
  rfl
theorem shaped_ints (l : List Int) : SeqAt.shaped (intsD l) = true := shaped_map (fun _ => by simp [PyData.canLay0]) (fun _ => by simp [PyData.depth]) l
theorem shaped_nats (l : List Nat) : SeqAt.shaped (natsD l) = true := shaped_map (fun _ => by simp [PyData.canLay0]) (fun _ => by simp [PyData.depth]) l
theorem shaped_rows (rs : List Tile) : SeqAt.shaped (rowsD rs) = true := shaped_map (fun t => by simp [Tile.d, PyData.canLay0, PyData.canLayAll0]) (fun t => by simp [Tile.d, PyData.depth, PyData.depthAll]) rs
theorem eqv_ints : ∀ a b : List Int, PyData.eqvAll (a.map .int) (b.map .int) = decide (a = b)
  | [], [] => by simp [PyData.eqvAll]
  | [], b :: bs => by simp [PyData.eqvAll]
  | a :: as, [] => by simp [PyData.eqvAll]
  | a :: as, b :: bs => by
    rw [List.map_cons, List.map_cons, PyData.eqvAll, eqv_ints as bs, PyData.eqv]
    by_cases z : a = b
    · subst z; simp
    · simp [z]
theorem nats_ints (l : List Nat) : natsD l = intsD (l.map fun n : Nat => (n : Int)) := by
  unfold natsD intsD
  rw [List.map_map]
  rfl
theorem eqv_intsD (a b : List Int) : PyData.eqv (intsD a) (intsD b) = decide (a = b) := by
  unfold intsD
  rw [PyData.eqv, eqv_ints]
theorem eqv_natsD (a b : List Nat) : PyData.eqv (natsD a) (natsD b) = decide (a = b) := by
  rw [nats_ints, nats_ints, eqv_intsD]
  by_cases z : a = b
  · subst z; simp
  · rw [dF z, dF fun y => z (nats_inj y)]
mutual
theorem eqv_self : ∀ d : PyData, PyData.canLay0 d = true → PyData.eqv d d = true
  | .none, _ => by simp [PyData.eqv]
  | .bool b, _ => by simp [PyData.eqv]
  | .int i, _ => by simp [PyData.eqv]
  | .str x, _ => by simp [PyData.eqv]
  | .list xs, h => by
    rw [PyData.canLay0] at h
    rw [PyData.eqv]
    exact eqv_selfs xs h
  | .tuple xs, h => by
    rw [PyData.canLay0] at h
    rw [PyData.eqv]
    exact eqv_selfs xs h
  | .dict _, h => by simp [PyData.canLay0] at h
theorem eqv_selfs : ∀ ds : List PyData, PyData.canLayAll0 ds = true → PyData.eqvAll ds ds = true
  | [], _ => by simp [PyData.eqvAll]
  | d :: ds, h => by
    rw [PyData.canLayAll0, Bool.and_eq_true] at h
    rw [PyData.eqvAll, eqv_self d h.1, eqv_selfs ds h.2]
    rfl
end
theorem eqv_same {d : PyData} (h : SeqAt.shaped d = true) : PyData.eqv d d = true := eqv_self d (SeqAt.canLay_of_shaped h)
theorem cols_lst {B : Hp} {v : V} {cs : List (List Nat)} : (lst (cs.map fun c => dp (natsT c))).p B v ↔ (dp (colsD cs)).p B v := by
  unfold colsD
  rw [← lst_dp, List.map_map]
  rfl
theorem nexts_lst {B : Hp} {v : V} {cs : List (List Nat)} : (lst (cs.map fun c => dp (natsD c))).p B v ↔ (dp (nextsD cs)).p B v := by
  unfold nextsD
  rw [← lst_dp, List.map_map]
  rfl
theorem at_cols {cs : List (List Nat)} {i : Nat} {c : List Nat} (h : cs[i]? = some c) : atI (cs.map natsT) (i : Int) = some (natsT c) := atI_nat (by rw [List.getElem?_map, h]; rfl)
theorem ints_of {l : List Nat} {f : Nat → Int} : intsD (l.map f) = .list ((l.map fun n => PyData.int (f n))) := by
  unfold intsD
  rw [List.map_map]
  rfl
section
variable {P : Program} {w : World} {K : PySem.W.Frag} {mg : Str → Option Value} {base : Heap} {f : Addr} {fd : FuncData}
abbrev s_w_steps : Stmt := top 47
abbrev N_w_steps : List Str := ["_law_rows", "_law_some", "_law_others", "_law_found", "_law_one", "_law_marks", "_law_tile", "_law_k"]
abbrev P_w_steps : List Str := ["_law_rows", "_law_some", "_law_others"]
theorem sc_w_steps : FnScope N_w_steps P_w_steps (defScope s_w_steps) := ⟨rfl, rfl, rfl, by decide +kernel, rfl, by decide +kernel, by decide +kernel⟩
abbrev spSteps : Sp := spP fun vs B R => ∃ a b c rs cs, vs = [a, b, c] ∧ (dp (rowsD rs)).p B a ∧ (dp (colsD cs)).p B b ∧ (dp (colsD cs)).p B c ∧ cs.length ≤ 500 ∧ (∀ c ∈ cs, c.length ≤ 12 ∧ ∀ t ∈ c, t < rs.length) ∧ R = dp (nextsD (nextsC rs cs))
theorem ok_wsteps (T : TB mg) (F : FnP K "_law_steps" "_law_steps" s_w_steps f fd) : FnOk P w K mg base CX0 1 f fd P_w_steps spSteps := by
  refine F.ok sc_w_steps (fun vs H Q E h => ?_) (fun cdv A outer s H vs Q E hr h => ?_)
  · obtain ⟨B, R, e, ⟨a, b, c, rs, cs, rfl, _⟩, _⟩ := h
    rfl
  · obtain ⟨B, R, e, ⟨a, b, c, rs, cs, rfl, ha, hb, hc, h500, hcs, rfl⟩, k⟩ := h
    refine ⟨_, PSs.nox (pss_cons (ps_set (i := 3) sc_w_steps.nd rfl (Or.inl rfl) (pe_lst pa_nil))
      (pss_cons (ps_for PassesOwn.never rfl (kpi_list (K := K) rfl (pv 1)) (pg_name (i := 4) sc_w_steps.nd rfl (Or.inl rfl)) (pss_cons (ps_set (i := 5) sc_w_steps.nd rfl (Or.inr rfl) (pe_lc (own := [("_law_tile", 6)]) (g := gName 6) (tt := tYes) rfl sc_w_steps.nd (kpi_tup (K := K) rfl (pv 4)) (blkOk_by (N := N_w_steps) (sc := defScope s_w_steps) (by decide +kernel)) (fun _ _ _ _ _ => pg_name (i := 6) sc_w_steps.nd rfl (Or.inl rfl)) (fun _ _ _ _ _ => pts_nil) (fun _ _ _ _ _ => (pe_ix (kix_tup (K := K) rfl) (pe_ix (kix_list (K := K) rfl) (pv 0) (pv 6) (fun _ _ => rfl)) pe_int (fun _ _ => rfl)))))
      (pss_one (ps_expr (kbm (K := K) rfl PySem.F.plainAttrs_list PySem.F.slot_list_append PySem.F.type_list_append mt_append (pv 3) (pa_cons (pe_lc (own := [("_law_k", 7)]) (g := gName 7) (tt := _) rfl sc_w_steps.nd (pi_range1 (by rfl) T.range (pa_cons (pe_callB (kcall_len (K := K) rfl) (by rfl) T.len PySem.boot_len (pa_cons (pv 2) pa_nil)) pa_nil)) (blkOk_by (N := N_w_steps) (sc := defScope s_w_steps) (by decide +kernel)) (fun _ _ _ _ _ => pg_name (i := 7) sc_w_steps.nd rfl (Or.inl rfl)) (fun _ _ _ _ _ => (pts_one (pt_cmpR (kop_eqD (K := K) rfl hr.units) (pe_lc (own := [("_law_tile", 6)]) (g := gName 6) (tt := tYes) rfl sc_w_steps.nd (kpi_tup (K := K) rfl (pe_ix (kix_list (K := K) rfl) (pv 2) (pv 7) (fun _ _ => rfl))) (blkOk_by (by kernel_rfl)) (fun _ _ _ _ _ => pg_name (i := 6) sc_w_steps.nd rfl (Or.inl rfl)) (fun _ _ _ _ _ => pts_nil) (fun _ _ _ _ _ => (pe_ix (kix_tup (K := K) rfl) (pe_ix (kix_list (K := K) rfl) (pv 0) (pv 6) (fun _ _ => rfl)) pe_int (fun _ _ => rfl)))) (pv 5) (nomark _)))) (fun _ _ _ _ _ => (pv 7))) pa_nil))))))
      (pss_one (ps_ret (pv 3))))), ?_⟩
    have rE : ∀ {σ : L2.St} {B' : Hp}, σ[0]? = some (some a) → Ex B B' → EvP (tVar 0) σ B' (dp (rowsD rs)) := fun h e => ev_var h ((dp _).m e ha)
    have oE : ∀ {σ : L2.St} {B' : Hp}, σ[2]? = some (some c) → Ex B B' → EvP (tVar 2) σ B' (dp (colsD cs)) := fun h e => ev_var h ((dp _).m e hc)
    refine q_new fun p hp => ?_
    have bp := e.none hp
    have s0 := (Step.refl e).poke (o := .lst []) hp bp
    refine q_forL (Ps := cs.map fun c => dp (natsT c)) s0.bh (ev_var rfl (cols_lst.mpr hb)) (fun i σ B' H' => (∃ d1 d2 d3 d4, σ = [some a, some b, some c, some (.ref p), d1, d2, d3, d4]) ∧ Step B H B' H' ∧ Acc p ((cs.take i).map fun c => dp (natsD ((List.range cs.length).filter fun k => goesOn rs c (cs.getD k [])))) B' H')
      (fun Bl Hl sl => ⟨⟨_, _, _, _, rfl⟩, s0.trans sl, (Acc.new bp).step sl⟩) ?_ ?_
    · rintro Bl Hl sl i Pi vi σ' B1 H1 hi e1 e2 pv ⟨⟨d1, d2, d3, d4, rfl⟩, s1, a1⟩
      obtain ⟨one, ho, rfl⟩ := get_map hi
      obtain ⟨o12, olt⟩ := hcs one (List.mem_of_getElem? ho)
      have mk : ∀ {σ : L2.St} {B' : Hp} {i j : Nat} {ws : List Nat} {tl tr : TE} {c : List Nat} (s : Nat) (g : Tile → Int), (∀ t ∈ c, t < rs.length) → c.length ≤ 12 → s < 4 → (∀ t, sideOf t s = g t) → EvP tl σ B' (dp (natsT c)) → (∀ x, wipe ((wipe σ ws).set i (some x)) ws = wipe σ ws) → (∀ x, ((wipe σ ws).set i (some x))[i]? = some (some x)) → (∀ x B'', Ex B' B'' → EvP tr ((wipe σ ws).set i (some x)) B'' (dp (rowsD rs))) →
          EvP (tLc (iTup K tl) (gName i) tYes (tOp (rIxT K) (tOp (rIxL K) tr (tVar i)) (tC (.int (s : Nat)))) ws) σ B' (dp (intsD (c.map fun t => g (gt rs t)))) := fun {σ B' i j ws tl tr c} s g hlt h12 h4 hg hl hw hv hr => by
        have lc := ev_lcT (K := K) (j := i) (ws := ws) (t := tYes) (te := tOp (rIxT K) (tOp (rIxL K) tr (tVar i)) (tC (.int (s : Nat)))) (tl := tl) (σ := σ) (B := B') c (fun n : Nat => dp (.int (n : Int))) (fun _ => true) (fun t => dp (.int (g (gt rs t)))) (hl.imp fun _ _ _ p => by
          have := tup_dp.mpr p
          rw [List.map_map] at this
          exact this) (by omega) hw (fun _ _ _ _ _ _ => eb_yes) fun t v B'' ht _ e'' pv => by
          rw [← hg]
          exact ev_ixTd (ev_ixLd (hr v B'' e'') (ev_var (hv v) pv) (at_rows (of_gt (hlt t ht)))) ev_int (at_side h4)
        rw [filter_true] at lc
        refine lc.imp fun _ _ _ p => ?_
        rw [ints_of]
        refine lst_dp.mp ?_
        rw [List.map_map]
        exact p
      refine q_asg e2 (mk (j := 0) 1 Tile.e olt o12 (by decide) (fun _ => rfl) (ev_var rfl pv) (fun _ => rfl) (fun _ => rfl) fun x B'' e'' => rE rfl (s1.eb.trans e'')) fun vm B2 H2 s2 pm => ?_
      have s12 := s1.trans s2
      refine s_app (P := dp (natsD ((List.range cs.length).filter fun k => goesOn rs one (cs.getD k [])))) s2.bh (a1.step s2) (ev_var rfl rfl) (((ev_lcR (n := cs.length) (fun k => goesOn rs one (cs.getD k [])) (fun n : Nat => dp (.int (n : Int))) (el_cons ((ev_lenLd (oE rfl s12.eb)).to (by rw [List.length_map])) el_nil) (by omega) (fun _ => rfl) (fun y B' hy e' => eb_test ?_) fun y B' hy _ e' => ev_var rfl (.int _))).imp fun _ _ _ p => nats_dp.mp p) (by rw [List.length_map, List.length_take]; omega) fun B5 H5 e5 e5' a5 hs => ?_
      · have hy' := of_getD (l := cs) (d := []) hy
        obtain ⟨y12, ylt⟩ := hcs _ (List.mem_of_getElem? hy')
        refine (ev_eqD (mk (j := 0) 3 Tile.w ylt y12 (by decide) (fun _ => rfl) (ev_ixLd (oE rfl (s12.eb.trans e')) (ev_var rfl (.int _)) (at_cols hy')) (fun _ => rfl) (fun _ => rfl) fun x B'' e'' => rE rfl (s12.eb.trans (e'.trans e''))) (ev_var rfl ((dp _).m e' pm)) (shaped_ints _) (shaped_ints _)).to ?_
        rw [eqv_intsD]
        unfold goesOn
        exact congrArg (fun b => dp (.bool b)) (decide_eq_decide.mpr eq_comm)
      · obtain ⟨H6, s6, o, rfl⟩ := hs
        refine ⟨B5, e1.trans (s2.eb.trans e5), e5', ⟨_, _, _, _, rfl⟩, (s12.trans s6).poke hp a5.b, ?_⟩
        rw [get_take ho, List.map_append]
        exact a5
    · rintro σ' B1 H1 e1 e2 ⟨⟨d1, d2, d3, d4, rfl⟩, s1, a1⟩
      obtain ⟨B3, s3, e3, p3⟩ := a1.done s1 hp
      rw [List.length_map, List.take_length] at p3
      refine s_ret s3.bh (ev_var rfl p3) fun v B4 H4 s4 p4 => k v B4 H4 (s3.trans s4) (nexts_lst.mp ?_)
      unfold nextsC
      rw [List.map_map]
      exact p4
end
end TL
set_option maxHeartbeats 4000000
namespace TL
open PySem L2
theorem cols1 (rs : List Tile) : colsK rs 1 = (List.range rs.length).map fun t => [t] := by
  show (colsK rs 0).flatMap (extK rs 0) = _
  show [[]].flatMap (extK rs 0) = _
  rw [List.flatMap_cons, List.flatMap_nil, List.append_nil]
  unfold extK
  rw [List.filter_eq_self.mpr (fun _ _ => by simp)]
  rfl
theorem cols2 (rs : List Tile) : colsK rs 2 = (List.range rs.length).flatMap fun one => ((List.range rs.length).filter fun t => decide ((gt rs t).n = (gt rs one).s)).map fun t => [one, t] := by
  show (colsK rs 1).flatMap (extK rs 1) = _
  rw [cols1, List.flatMap_map]
  refine congrArg (fun f => (List.range rs.length).flatMap f) (funext fun one => ?_)
  unfold extK
  show ((List.range rs.length).filter fun t => decide (1 = 0) || below rs ([one].getD (1 - 1) 0) t).map _ = _
  refine congrArg (List.map fun t => [one, t]) (List.filter_congr fun t _ => ?_)
  show (false || decide ((gt rs one).s = (gt rs t).n)) = _
  rw [Bool.false_or]
  exact decide_eq_decide.mpr eq_comm
section
variable {K : PySem.W.Frag} {σ : L2.St} {B H : Hp} {ta tb tc te : TE} {D : Ends}
/-- xs.extend(e), xs being made -/
theorem s_ext {p : Addr} {Ps Qs : List VP} (e : Ex B H) (a : Acc p Ps B H) (ha : EvP ta σ B (isV (.ref p))) (h : EvP te σ B (lst Qs)) (hz : Ps.length + Qs.length ≤ 1000000)
    (k : ∀ B' H', Ex B B' → Ex B' H' → Acc p (Ps ++ Qs) B' H' → (∃ H1, Step B H B' H1 ∧ ∃ o, H' = upd H1 p o) → D.nx σ H') : tDrop (tBM K "list" rExtend ta (tCons te tNil)) D σ H := ha H e _ fun v0 B0 H0 s0 p0 => by
  cases (show v0 = .ref p from p0)
  obtain ⟨h1, xs, h2, h3⟩ := a.step s0
  refine ⟨.inl ⟨rfl, xs, SqL.of h2⟩, h.mono s0.eb H0 s0.bh _ fun v B' H' s p' => ?_⟩
  obtain ⟨h4, h5⟩ := s.hide h1 h2
  obtain ⟨b, zs, rfl, h6, h7⟩ := p'
  refine ⟨p, b, xs, zs, rfl, rfl, h5, s.bh _ _ h6, sz_le (by rw [all2_len h3, all2_len h7]; exact hz), k B' _ (s0.eb.trans s.eb) (s.bh.poke h4) ⟨h4, _, upd_same, all2_app (all2_m s.eb h3) h7⟩ ⟨H', s0.trans s, _, rfl⟩⟩
end
section
variable {P : Program} {w : World} {K : PySem.W.Frag} {mg : Str → Option Value} {base : Heap} {f : Addr} {fd : FuncData}
abbrev s_w_columns_of : Stmt := top 48
abbrev N_w_columns_of : List Str := ["_law_rows", "_law_high", "_law_found", "_law_one", "_law_tile", "_law_other"]
abbrev P_w_columns_of : List Str := ["_law_rows", "_law_high"]
theorem sc_w_columns_of : FnScope N_w_columns_of P_w_columns_of (defScope s_w_columns_of) := ⟨rfl, rfl, rfl, by decide +kernel, rfl, by decide +kernel, by decide +kernel⟩
abbrev spColsOf : Sp := spP fun vs B R => ∃ a high rs, vs = [a, .int (high : Nat)] ∧ (dp (rowsD rs)).p B a ∧ (high = 1 ∨ high = 2) ∧ rs.length ≤ 200 ∧ R = dp (colsD (colsK rs high))
theorem ok_wcols (T : TB mg) (F : FnP K "_law_columns_of" "_law_columns_of" s_w_columns_of f fd) : FnOk P w K mg base CX0 1 f fd P_w_columns_of spColsOf := by
  refine F.ok sc_w_columns_of (fun vs H Q E h => ?_) (fun cdv A outer s H vs Q E hr h => ?_)
  · obtain ⟨B, R, e, ⟨a, high, rs, rfl, _⟩, _⟩ := h
    rfl
  · obtain ⟨B, R, e, ⟨a, high, rs, rfl, ha, hh, h200, rfl⟩, k⟩ := h
    refine ⟨_, PSs.nox (pss_cons (ps_if (pt_cmpR op_eq (pv 1) pe_int (nomark _)) (pss_one (ps_ret (pe_lc (own := [("_law_tile", 4)]) (g := gName 4) (tt := tYes) rfl sc_w_columns_of.nd (pi_range1 (by rfl) T.range (pa_cons (pe_callB (kcall_len (K := K) rfl) (by rfl) T.len PySem.boot_len (pa_cons (pv 0) pa_nil)) pa_nil)) (blkOk_by (N := N_w_columns_of) (sc := defScope s_w_columns_of) (by decide +kernel)) (fun _ _ _ _ _ => pg_name (i := 4) sc_w_columns_of.nd rfl (Or.inl rfl)) (fun _ _ _ _ _ => pts_nil) (fun _ _ _ _ _ => (pe_tup (pa_cons (pv 4) pa_nil)))))) pss_nil)
      (pss_cons (ps_set (i := 2) sc_w_columns_of.nd rfl (Or.inl rfl) (pe_lst pa_nil))
      (pss_cons (ps_for PassesOwn.never rfl (pi_range1 (by rfl) T.range (pa_cons (pe_callB (kcall_len (K := K) rfl) (by rfl) T.len PySem.boot_len (pa_cons (pv 0) pa_nil)) pa_nil)) (pg_name (i := 3) sc_w_columns_of.nd rfl (Or.inr rfl)) (pss_one (ps_expr (kbm (K := K) rfl PySem.F.plainAttrs_list PySem.F.slot_list_extend PySem.F.type_list_extend mt_extend (pv 2) (pa_cons (pe_lc (own := [("_law_other", 5)]) (g := gName 5) (tt := _) rfl sc_w_columns_of.nd (pi_range1 (by rfl) T.range (pa_cons (pe_callB (kcall_len (K := K) rfl) (by rfl) T.len PySem.boot_len (pa_cons (pv 0) pa_nil)) pa_nil)) (blkOk_by (N := N_w_columns_of) (sc := defScope s_w_columns_of) (by decide +kernel)) (fun _ _ _ _ _ => pg_name (i := 5) sc_w_columns_of.nd rfl (Or.inl rfl)) (fun _ _ _ _ _ => (pts_one (pt_cmpR op_eq (pe_ix (kix_tup (K := K) rfl) (pe_ix (kix_list (K := K) rfl) (pv 0) (pv 5) (fun _ _ => rfl)) pe_int (fun _ _ => rfl)) (pe_ix (kix_tup (K := K) rfl) (pe_ix (kix_list (K := K) rfl) (pv 0) (pv 3) (fun _ _ => rfl)) pe_int (fun _ _ => rfl)) (nomark _)))) (fun _ _ _ _ _ => (pe_tup (pa_cons (pv 3) (pa_cons (pv 5) pa_nil))))) pa_nil)))))
      (pss_one (ps_ret (pv 2)))))), ?_⟩
    have rE : ∀ {σ : L2.St} {B' : Hp}, σ[0]? = some (some a) → Ex B B' → EvP (tVar 0) σ B' (dp (rowsD rs)) := fun h e => ev_var h ((dp _).m e ha)
    have nE : ∀ {σ : L2.St} {B' : Hp}, σ[0]? = some (some a) → Ex B B' → EvL (tCons (tCB (rLenS K) (tCons (tVar 0) tNil)) tNil) σ B' [dp (.int (rs.length : Nat))] := fun h e => el_cons ((ev_lenLd (rE h e)).to (by rw [List.length_map])) el_nil
    rcases hh with rfl | rfl
    · -- high == 1
      refine q (s_yes e ((eb_test (ev_eq (ev_var rfl (.int _)) ev_int)).to rfl) fun B1 H1 s1 => ?_)
      refine s_ret s1.bh (ev_lcR (n := rs.length) (fun _ => true) (fun t => dp (natsT [t])) (nE rfl s1.eb) (by omega) (fun _ => rfl) (fun _ _ _ _ => eb_yes) fun y B' hy _ e' => EvP.tupD (ds := [.int (y : Nat)]) (ev_tup (el_cons (ev_var rfl (.int _)) el_nil) (Nat.le_of_ble_eq_true rfl))) fun v B2 H2 s2 p2 => k v B2 H2 (s1.trans s2) (cols_lst.mp ?_)
      rw [filter_true] at p2
      rw [cols1, List.map_map]
      exact p2
    · refine q (s_no (tu := tRet _) e ((eb_test (ev_eq (ev_var rfl (.int _)) ev_int)).to rfl) fun B1 H1 s1 => ?_)
      dsimp only [tNext]
      refine q_new fun p hp => ?_
      have bp := s1.bh.none hp
      have hp0 := s1.eh.none hp
      have s0 := s1.poke (o := .lst []) hp0 bp
      let ext : Nat → List (List Nat) := fun one => ((List.range rs.length).filter fun t => decide ((gt rs t).n = (gt rs one).s)).map fun t => [one, t]
      have le : ∀ i, i ≤ rs.length → ((List.range i).flatMap ext).length ≤ 200 * 200 := fun i hi => by
        refine Nat.le_trans (flat_len (n := 200) (fun one => ?_) _) (by rw [List.length_range]; omega)
        show (((List.range rs.length).filter _).map _).length ≤ 200
        rw [List.length_map]
        exact Nat.le_trans (List.length_filter_le _ _) (by rw [List.length_range]; omega)
      refine q_forR (n := rs.length) s0.bh (nE rfl s0.eb) (by omega) (fun i σ B' H' => (∃ d1 d2 d3, σ = [some a, some (.int 2), some (.ref p), d1, d2, d3]) ∧ Step B H B' H' ∧ Acc p (((List.range i).flatMap ext).map fun c => dp (natsT c)) B' H')
        (fun Bl Hl sl => ⟨⟨_, _, _, rfl⟩, s0.trans sl, (Acc.new bp).step sl⟩) ?_ ?_
      · rintro Bl Hl sl i σ' B2 H2 hi e1 e2 ⟨⟨d1, d2, d3, rfl⟩, s2, a2⟩
        refine s_ext e2 a2 (ev_var rfl rfl) (ev_lcR (n := rs.length) (fun t => decide ((gt rs t).n = (gt rs i).s)) (fun t => dp (natsT [i, t])) (nE rfl s2.eb) (by omega) (fun _ => rfl) (fun y B' hy e' => eb_test (ev_eq (ev_ixTd (ev_ixLd (rE rfl (s2.eb.trans e')) (ev_var rfl (.int _)) (at_rows (of_gt hy))) ev_int at_n) (ev_ixTd (ev_ixLd (rE rfl (s2.eb.trans e')) (ev_var rfl (.int _)) (at_rows (of_gt hi))) ev_int at_s))) fun y B' hy _ e' => EvP.tupD (ds := [.int (i : Nat), .int (y : Nat)]) (ev_tup (el_cons (ev_var rfl (.int _)) (el_cons (ev_var rfl (.int _)) el_nil)) (Nat.le_of_ble_eq_true rfl))) ?_ fun B5 H5 e5 e5' a5 hs => ?_
        · rw [List.length_map, List.length_map]
          have h1 := le i (by omega)
          have h2 : ((List.range rs.length).filter fun t => decide ((gt rs t).n = (gt rs i).s)).length ≤ 200 := Nat.le_trans (List.length_filter_le _ _) (by rw [List.length_range]; omega)
          omega
        · obtain ⟨H6, s6, o, rfl⟩ := hs
          refine ⟨B5, e1.trans e5, e5', ⟨_, _, _, rfl⟩, (s2.trans s6).poke hp0 a5.b, a5.to ?_⟩
          rw [List.range_succ, List.flatMap_append, List.map_append]
          simp only [List.flatMap_cons, List.flatMap_nil, List.append_nil, ext, List.map_map]
          rfl
      · rintro σ' B2 H2 e1 e2 ⟨⟨d1, d2, d3, rfl⟩, s2, a2⟩
        obtain ⟨B3, s3, e3, p3⟩ := a2.done s2 hp0
        refine s_ret s3.bh (ev_var rfl p3) fun v B4 H4 s4 p4 => k v B4 H4 (s3.trans s4) (cols_lst.mp ?_)
        rw [cols2]
        exact p4
end
end TL
set_option maxHeartbeats 4000000
namespace TL
open PySem L2
theorem reps (n : Nat) (x : Int) : List.replicate n (dp (.int x)) = intsP (List.replicate n x) := by
  show _ = (List.replicate n x).map _
  rw [List.map_replicate]
section
variable {P : Program} {w : World} {K : PySem.W.Frag} {mg : Str → Option Value} {base : Heap} {f : Addr} {fd : FuncData}
abbrev s_w_counted : Stmt := top 49
abbrev N_w_counted : List Str := ["_law_steps_here", "_law_wide", "_law_ways", "_law_turn", "_law_later", "_law_k", "_law_other"]
abbrev P_w_counted : List Str := ["_law_steps_here", "_law_wide"]
theorem sc_w_counted : FnScope N_w_counted P_w_counted (defScope s_w_counted) := ⟨rfl, rfl, rfl, by decide +kernel, rfl, by decide +kernel, by decide +kernel⟩
abbrev spCounted : Sp := spP fun vs B R => ∃ a ns n wide, vs = [a, .int (wide : Nat)] ∧ (dp (nextsD ns)).p B a ∧ okNexts n ns ∧ n ≤ 500 ∧ 1 ≤ wide ∧ wide ≤ 12 ∧ R = dp (.int (countsM n ns wide))
theorem ok_wcounted (T : TB mg) (F : FnP K "_law_counted" "_law_counted" s_w_counted f fd) : FnOk P w K mg base CX0 1 f fd P_w_counted spCounted := by
  refine F.ok sc_w_counted (fun vs H Q E h => ?_) (fun cdv A outer s H vs Q E hr h => ?_)
  · obtain ⟨B, R, e, ⟨a, ns, n, wide, rfl, _⟩, _⟩ := h
    rfl
  · obtain ⟨B, R, e, ⟨a, ns, n, wide, rfl, ha, ok, h500, hw1, hw12, rfl⟩, k⟩ := h
    refine ⟨_, PSs.nox (pss_cons (ps_set (i := 2) sc_w_counted.nd rfl (Or.inl rfl) (pe_op op_rep (pe_lst (pa_cons pe_int pa_nil)) (pe_callB (kcall_len (K := K) rfl) (by rfl) T.len PySem.boot_len (pa_cons (pv 0) pa_nil))))
      (pss_cons (ps_for PassesOwn.never rfl (pi_range1 (by rfl) T.range (pa_cons (pe_op op_sub (pv 1) pe_int) pa_nil)) (pg_name (i := 3) sc_w_counted.nd rfl (Or.inl rfl)) (pss_cons (ps_set (i := 4) sc_w_counted.nd rfl (Or.inl rfl) (pe_op op_rep (pe_lst (pa_cons pe_int pa_nil)) (pe_callB (kcall_len (K := K) rfl) (by rfl) T.len PySem.boot_len (pa_cons (pv 0) pa_nil))))
      (pss_cons (ps_for PassesOwn.never rfl (pi_range1 (by rfl) T.range (pa_cons (pe_callB (kcall_len (K := K) rfl) (by rfl) T.len PySem.boot_len (pa_cons (pv 0) pa_nil)) pa_nil)) (pg_name (i := 5) sc_w_counted.nd rfl (Or.inl rfl)) (pss_one (ps_for PassesOwn.never rfl (kpi_list (K := K) rfl (pe_ix (kix_list (K := K) rfl) (pv 0) (pv 5) (fun _ _ => rfl))) (pg_name (i := 6) sc_w_counted.nd rfl (Or.inl rfl)) (pss_one (ps_asg (pe_op op_add (pe_ix (kix_list (K := K) rfl) (pv 4) (pv 6) (fun _ _ => rfl)) (pe_ix (kix_list (K := K) rfl) (pv 2) (pv 5) (fun _ _ => rfl))) (pg_sub (pv 4) (pv 6) set_list))))))
      (pss_one (ps_set (i := 2) sc_w_counted.nd rfl (Or.inl rfl) (pv 4))))))
      (pss_one (ps_ret (pe_callB (kcr_sum (K := K) rfl rfl) (by rfl) T.sum (by decide +kernel) (pa_cons (pv 2) pa_nil)))))), ?_⟩
    have nxt : ∀ {σ : L2.St} {B' : Hp}, σ[0]? = some (some a) → Ex B B' → EvP (tVar 0) σ B' (dp (nextsD ns)) := fun h e => ev_var h ((dp _).m e ha)
    have len : ∀ {σ : L2.St} {B' : Hp}, σ[0]? = some (some a) → Ex B B' → EvP (tCB (rLenS K) (tCons (tVar 0) tNil)) σ B' (dp (.int (n : Nat))) := fun h e => (ev_lenLd (nxt h e)).to (by rw [List.length_map, ok.1])
    refine q_asg (P := lst (intsP (List.replicate n 1))) e ((en_rep (v := .non) (n := n) (en_lst (el_cons ev_int el_nil) (Nat.le_of_ble_eq_true rfl)) (fun B' e' => len rfl e') (by omega)).toP.to (by rw [reps])) fun v1 B1 H1 s1 p1 => ?_
    refine q_forR (n := wide - 1) s1.bh (el_cons ((ev_sub (ev_var rfl (.int _)) ev_int).to (by congr 2; omega)) el_nil) (by omega)
      (fun i σ B' H' => (∃ u c d e f, σ = [some a, some (.int (wide : Nat)), some u, c, d, e, f] ∧ (dp (intsD (iterM (stepM n ns) i (List.replicate n 1)))).p B' u) ∧ Step B H B' H')
      (fun Bl Hl sl => ⟨⟨_, _, _, _, _, rfl, (dp _).m sl.eb (ints_dp.mp p1)⟩, s1.trans sl⟩) ?_ ?_
    · rintro Bl Hl sl t σ' B2 H2 ht e1 e2 ⟨⟨u, c, d, e', f', rfl, pu⟩, s2⟩
      have lws : (iterM (stepM n ns) t (List.replicate n 1)).length = n := iter_len (by rw [List.length_replicate]) t
      show tSeq _ _ _ _ _
      have step1 : iterM (stepM n ns) (t + 1) (List.replicate n 1) = stepM n ns (iterM (stepM n ns) t (List.replicate n 1)) := rfl
      rw [step1]
      generalize iterM (stepM n ns) t (List.replicate n 1) = ws at pu lws ⊢
      refine q_asgN e2 (en_rep (v := .non) (n := n) (en_lst (el_cons ev_int el_nil) (Nat.le_of_ble_eq_true rfl)) (fun B' e' => len rfl (s2.eb.trans e')) (by omega)) fun p B3 H3 hp s3 a3 => ?_
      rw [reps] at a3
      have s23 := s2.trans s3
      have hp0 : H p = none := s2.eh.none hp
      have wsE : ∀ {σ : L2.St} {B' : Hp}, σ[2]? = some (some u) → Ex B2 B' → EvP (tVar 2) σ B' (dp (intsD ws)) := fun h e => ev_var h ((dp _).m e pu)
      refine q_forR (n := n) s3.bh (el_cons (len rfl s23.eb) el_nil) (by omega)
        (fun i σ B' H' => (∃ b c, σ = [some a, some (.int (wide : Nat)), some u, some (.int (t : Nat)), some (.ref p), b, c]) ∧ Step B H B' H' ∧ Ex B2 B' ∧ Acc p (intsP ((List.range i).foldl (fun acc k => addRow acc (ns.getD k []) (ws.getD k 0)) (List.replicate n 0))) B' H')
        (fun Bl Hl sl => ⟨⟨_, _, rfl⟩, s23.trans sl, s3.eb.trans sl.eb, a3.step sl⟩) ?_ ?_
      · rintro Bm Hm sm i σ' B4 H4 hi e3 e4 ⟨⟨b, c, rfl⟩, s4, e24, a4⟩
        have hin : i < ns.length := by rw [ok.1]; exact hi
        have hrow := of_getD (d := []) hin
        obtain ⟨rl, rin⟩ := ok.2 _ (List.mem_of_getElem? hrow)
        have hw := of_getD (l := ws) (d := 0) (show i < ws.length by omega)
        rw [List.range_succ, List.foldl_append]
        generalize hacc : (List.range i).foldl (fun acc k => addRow acc (ns.getD k []) (ws.getD k 0)) (List.replicate n 0) = acc at a4 ⊢
        have lacc : acc.length = n := by rw [← hacc, stepF_len, List.length_replicate]
        generalize hrow' : ns.getD i [] = row at hrow rl rin
        refine s_forL (Ps := row.map fun o : Nat => dp (.int (o : Int))) e4 ((ev_ixLd (nxt rfl s4.eb) (ev_var rfl (.int _)) (d := natsD row) (atI_nat (by rw [List.getElem?_map, hrow]; rfl))).imp fun _ _ _ z => nats_dp.mpr z)
          (fun j σ B' H' => (∃ c, σ = [some a, some (.int (wide : Nat)), some u, some (.int (t : Nat)), some (.ref p), some (.int (i : Nat)), c]) ∧ Step B H B' H' ∧ Ex B2 B' ∧ Acc p (intsP (addRow acc (row.take j) (ws.getD i 0))) B' H')
          (fun Bm Hm sm => ⟨⟨_, rfl⟩, s4.trans sm, e24.trans sm.eb, a4.step sm⟩) ?_ ?_
        · rintro Bo Ho so j Pj vo σ3 B5 H5 hj e5 e6 po ⟨⟨c', rfl⟩, s5, e25, a5⟩
          obtain ⟨o, ho, rfl⟩ := get_map hj
          cases dp_int.mp po
          have hon := rin o (List.mem_of_getElem? ho)
          generalize hac2 : addRow acc (row.take j) (ws.getD i 0) = ac2 at a5
          have la2 : ac2.length = n := by rw [← hac2, addRow_len, lacc]
          have hao := of_getD (d := 0) (show o < ac2.length by omega)
          refine s_store e6 a5 (v := .int (ac2.getD o 0 + ws.getD i 0)) (P := dp (.int (ac2.getD o 0 + ws.getD i 0))) (fun B' e' pl => (ev_add (ev_ixL (ev_var rfl pl) (ev_var rfl (.int _)) (atI_nat (by rw [List.getElem?_map, hao]; rfl))) (ev_ixLd (wsE rfl (e25.trans e')) (ev_var rfl (.int _)) (at_ints hw))).i) (ev_var rfl rfl) (ev_var rfl (.int _)) (by rw [List.length_map]; omega) (fun _ => .int _) fun B6 H6 e7 e8 a6 hs => ?_
          obtain ⟨H7, s7, ob, rfl⟩ := hs
          refine ⟨B6, e5.trans e7, e8, ⟨_, rfl⟩, (s5.trans s7).poke hp0 a6.b, e25.trans e7, ?_⟩
          rw [set_intsP] at a6
          rw [get_take ho]
          unfold addRow at hac2 ⊢
          rw [List.foldl_append, hac2]
          exact a6
        · rintro σ3 B5 H5 e5 e6 ⟨⟨c', rfl⟩, s5, e25, a5⟩
          rw [List.length_map, List.take_length] at a5
          refine ⟨B5, e3.trans e5, e6, ⟨_, _, rfl⟩, s5, e25, ?_⟩
          rw [List.foldl_cons, List.foldl_nil, hrow']
          exact a5
      · rintro σ' B4 H4 e3 e4 ⟨⟨b, c, rfl⟩, s4, e24, a4⟩
        obtain ⟨B5, s5, e5, p5⟩ := a4.done s4 hp0
        refine s_asg s5.bh (ev_var rfl p5) fun v6 B6 H6 s6 p6 => ⟨B6, e1.trans (e24.trans (e5.trans s6.eb)), s6.bh, ⟨_, _, _, _, _, rfl, ?_⟩, s5.trans s6⟩
        unfold stepM
        rw [lws]
        exact ints_dp.mp p6
    · rintro σ' B4 H4 e1 e2 ⟨⟨u, c, d, e', f', rfl, pu⟩, s4⟩
      exact s_ret e2 (ev_sum (ev_var rfl pu)) fun v5 B5 H5 s5 p5 => k v5 B5 H5 (s4.trans s5) p5
end
end TL
set_option maxHeartbeats 4000000
/-! sums over sparse and dense vectors -/
namespace TL
open PySem L2
def sumR (n : Nat) (g : Nat → Int) : Int := ((List.range n).map g).sum
theorem sumR_succ (n : Nat) (g : Nat → Int) : sumR (n + 1) g = sumR n g + g n := sum_next g n
theorem sumR_congr {n : Nat} {g h : Nat → Int} (e : ∀ k, k < n → g k = h k) : sumR n g = sumR n h := by
  induction n with
  | zero => rfl
  | succ n ih =>
    rw [sumR_succ, sumR_succ, ih fun k hk => e k (Nat.lt_succ_of_lt hk), e n (Nat.lt_succ_self n)]
theorem sumR_add (n : Nat) (g h : Nat → Int) : sumR n (fun k => g k + h k) = sumR n g + sumR n h := by
  induction n with
  | zero => rfl
  | succ n ih =>
    rw [sumR_succ, sumR_succ, sumR_succ, ih]
    omega
theorem sumR_zero (n : Nat) : sumR n (fun _ => 0) = 0 := by
  induction n with
  | zero => rfl
  | succ n ih => rw [sumR_succ, ih]; rfl
theorem sumR_one {n a : Nat} (x : Int) (h : a < n) : sumR n (fun k => if k = a then x else 0) = x := by
  induction n with
  | zero => omega
  | succ n ih =>
    rw [sumR_succ]
    by_cases z : a = n
    · subst z
      rw [if_pos rfl, sumR_congr (h := fun _ => 0) fun k hk => if_neg (by omega), sumR_zero]
      omega
    · rw [if_neg (fun y => z y.symm), ih (by omega)]
      omega
theorem sum_keys {n : Nat} (g : Nat → Int) : ∀ {l : List Nat}, l.Nodup → (∀ k ∈ l, k < n) → (l.map g).sum = sumR n fun k => if k ∈ l then g k else 0
  | [], _, _ => by
    rw [sumR_congr (h := fun _ => 0) fun k _ => if_neg (by simp), sumR_zero]
    rfl
  | a :: l, hn, hl => by
    obtain ⟨h1, h2⟩ := List.nodup_cons.mp hn
    rw [List.map_cons, List.sum_cons, sum_keys g h2 fun k hk => hl k (List.mem_cons_of_mem _ hk), ← sumR_one (g a) (hl a List.mem_cons_self), ← sumR_add]
    refine sumR_congr fun k _ => ?_
    by_cases z : k = a
    · subst z
      rw [if_pos rfl, if_neg h1, if_pos List.mem_cons_self]
      omega
    · rw [if_neg z]
      by_cases y : k ∈ l
      · rw [if_pos y, if_pos (List.mem_cons_of_mem _ y)]
        omega
      · rw [if_neg y, if_neg (by simp [z, y])]
        omega
theorem sumR_le {n : Nat} {g : Nat → Int} (h : ∀ k, g k ≤ 1) : sumR n g ≤ n := by
  induction n with
  | zero => exact Int.le_refl _
  | succ n ih =>
    rw [sumR_succ]
    have := h n
    omega
theorem sum_ones : ∀ l : List Nat, (l.map fun _ => (1 : Int)).sum = l.length
  | [] => rfl
  | a :: l => by
    rw [List.map_cons, List.sum_cons, sum_ones l, List.length_cons]
    omega
theorem nodup_len {n : Nat} {l : List Nat} (h : l.Nodup) (hl : ∀ k ∈ l, k < n) : l.length ≤ n := by
  have e := sum_keys (fun _ => (1 : Int)) h hl
  rw [sum_ones] at e
  have := sumR_le (n := n) (g := fun k => if k ∈ l then (1 : Int) else 0) fun k => by split <;> omega
  omega
/-- how often -/
def cnt (o : Nat) (row : List Nat) : Int := (row.count o : Nat)
theorem cnt_snoc (o x : Nat) (l : List Nat) : cnt o (l ++ [x]) = cnt o l + if x = o then 1 else 0 := by
  unfold cnt
  rw [List.count_append, List.count_singleton]
  by_cases z : x = o
  · subst z; simp
  · have : (x == o) = false := beq_eq_false_iff_ne.mpr z
    rw [this, if_neg z]
    simp
theorem addAt_at {acc : List Int} {o k : Nat} {w : Int} (ho : o < acc.length) : (addAt acc o w).getD k 0 = acc.getD k 0 + if o = k then w else 0 := by
  unfold addAt
  rw [List.getD_eq_getElem?_getD, List.getD_eq_getElem?_getD, List.getElem?_set]
  by_cases z : o = k
  · subst z
    rw [if_pos rfl, if_pos ho, if_pos rfl]
    simp
  · rw [if_neg z, if_neg z]
    simp
theorem addRow_at {k : Nat} {w : Int} : ∀ {row : List Nat} {acc : List Int}, (∀ o ∈ row, o < acc.length) → (addRow acc row w).getD k 0 = acc.getD k 0 + w * cnt k row
  | [], acc, _ => by
    show acc.getD k 0 = _
    unfold cnt
    simp
  | o :: row, acc, h => by
    show (addRow (addAt acc o w) row w).getD k 0 = _
    rw [addRow_at (row := row) fun x hx => by rw [addAt_len]; exact h x (List.mem_cons_of_mem _ hx), addAt_at (h o List.mem_cons_self)]
    unfold cnt
    rw [List.count_cons]
    by_cases z : o = k
    · subst z
      rw [if_pos rfl]
      have : (o == o) = true := beq_self_eq_true o
      rw [this, if_pos rfl]
      have : w * ((List.count o row + 1 : Nat) : Int) = w * ((List.count o row : Nat) : Int) + w := by
        rw [Int.natCast_add, Int.mul_add]
        simp
      omega
    · have : (o == k) = false := beq_eq_false_iff_ne.mpr z
      rw [if_neg z, this]
      simp
theorem foldl_at {n : Nat} {ns : List (List Nat)} {ws : List Int} (ok : okNexts n ns) (o : Nat) : ∀ i, i ≤ n → (((List.range i).foldl (fun acc k => addRow acc (ns.getD k []) (ws.getD k 0)) (List.replicate n 0)).getD o 0) = sumR i fun k => ws.getD k 0 * cnt o (ns.getD k [])
  | 0, _ => by
    show (List.replicate n (0 : Int)).getD o 0 = 0
    rw [List.getD_eq_getElem?_getD, List.getElem?_replicate]
    split <;> rfl
  | i + 1, h => by
    rw [List.range_succ, List.foldl_append, List.foldl_cons, List.foldl_nil, sumR_succ, addRow_at, foldl_at ok o i (by omega)]
    intro x hx
    rw [stepF_len, List.length_replicate]
    exact (ok.2 _ (List.mem_of_getElem? (of_getD (l := ns) (d := []) (by rw [ok.1]; omega)))).2 x hx
theorem stepM_at {n : Nat} {ns : List (List Nat)} {ws : List Int} (ok : okNexts n ns) (hl : ws.length = n) (o : Nat) : (stepM n ns ws).getD o 0 = sumR n fun k => ws.getD k 0 * cnt o (ns.getD k []) := by
  unfold stepM
  rw [hl]
  exact foldl_at ok o n (Nat.le_refl n)
/-! ### sparse vectors -/
def spE (ks : List Nat) (f : Nat → Int) : List (Key × V) := ks.map fun k : Nat => ((Sum.inl (k : Int) : Key), V.int (f k))
structure SD (n : Nat) (ks : List Nat) (f : Nat → Int) : Prop where
  nd : ks.Nodup
  lt : ∀ k ∈ ks, k < n
  off : ∀ k, k ∉ ks → f k = 0
theorem SD.len {n : Nat} {ks : List Nat} {f : Nat → Int} (s : SD n ks f) : ks.length ≤ n := nodup_len s.nd s.lt
theorem spE_get (f : Nat → Int) (k : Nat) : ∀ ks : List Nat, valV (spE ks f) (.inl (k : Int)) = if k ∈ ks then some (.int (f k)) else none
  | [] => by
    rw [if_neg (by simp)]
    rfl
  | a :: ks => by
    by_cases z : a = k
    · subst z
      rw [if_pos List.mem_cons_self]
      exact valV_pos (p := ((Sum.inl (a : Int) : Key), V.int (f a))) (r := spE ks f) rfl
    · have : ¬ (Sum.inl (a : Int) : Key) = Sum.inl (k : Int) := fun y => z (Int.ofNat_inj.mp (Sum.inl.inj y))
      have e : valV (spE (a :: ks) f) (.inl (k : Int)) = valV (spE ks f) (.inl (k : Int)) := valV_neg (p := ((Sum.inl (a : Int) : Key), V.int (f a))) (r := spE ks f) this
      rw [e, spE_get f k ks]
      by_cases y : k ∈ ks
      · rw [if_pos y, if_pos (List.mem_cons_of_mem _ y)]
      · rw [if_neg y, if_neg fun h => (List.mem_cons.mp h).elim (fun e => z e.symm) y]
def putN (ks : List Nat) (o : Nat) : List Nat := if o ∈ ks then ks else ks ++ [o]
def putF' (f : Nat → Int) (o : Nat) (x : Int) : Nat → Int := fun k => if k = o then x else f k
theorem spE_put (ks : List Nat) (f : Nat → Int) (o : Nat) (x : Int) : putK (spE ks f) (.inl (o : Int)) (.int x) = spE (putN ks o) (putF' f o x) := by
  unfold putK putN
  rw [valV_any, spE_get]
  by_cases z : o ∈ ks
  · rw [if_pos z, if_pos z, if_pos (show (some (V.int (f o))).isSome = true from rfl)]
    unfold spE
    rw [List.map_map]
    refine List.map_congr_left fun k _ => ?_
    show (if (Sum.inl (k : Int) : Key) = Sum.inl (o : Int) then _ else _) = _
    unfold putF'
    by_cases y : k = o
    · subst y; rw [if_pos rfl, if_pos rfl]
    · rw [if_neg fun h => y (Int.ofNat_inj.mp (Sum.inl.inj h)), if_neg y]
  · rw [if_neg z, if_neg z, if_neg (show ¬ (none : Option V).isSome = true by decide)]
    unfold spE
    rw [List.map_append]
    refine congr (congrArg _ (List.map_congr_left fun k hk => ?_)) ?_
    · unfold putF'
      rw [if_neg (fun y => z (by rw [← y]; exact hk))]
    · show [((Sum.inl (o : Int) : Key), V.int x)] = [(Sum.inl (o : Int), V.int (if o = o then x else f o))]
      rw [if_pos rfl]
theorem SD.put {n : Nat} {ks : List Nat} {f : Nat → Int} (s : SD n ks f) {o : Nat} (ho : o < n) (x : Int) : SD n (putN ks o) (putF' f o x) := by
  unfold putN
  by_cases z : o ∈ ks
  · rw [if_pos z]
    exact ⟨s.nd, s.lt, fun k hk => by
      unfold putF'
      rw [if_neg (fun y => hk (by rw [y]; exact z))]
      exact s.off k hk⟩
  · rw [if_neg z]
    refine ⟨?_, fun k hk => ?_, fun k hk => ?_⟩
    · rw [List.nodup_append]
      refine ⟨s.nd, by simp, fun a ha b hb y => ?_⟩
      rw [List.mem_singleton.mp hb] at y
      exact z (y ▸ ha)
    · rcases List.mem_append.mp hk with h | h
      · exact s.lt k h
      · rw [List.mem_singleton.mp h]; exact ho
    · unfold putF'
      rw [if_neg fun y => hk (by rw [y]; simp)]
      exact s.off k fun h => hk (List.mem_append_left _ h)
theorem SD.congr {n : Nat} {ks : List Nat} {f g : Nat → Int} (s : SD n ks f) (e : ∀ k, f k = g k) : SD n ks g := (funext e : f = g) ▸ s
theorem SD.sum {n : Nat} {ks : List Nat} {f : Nat → Int} (s : SD n ks f) (c : Nat → Int) : (ks.map fun k => f k * c k).sum = sumR n fun k => f k * c k := by
  rw [sum_keys _ s.nd s.lt]
  refine sumR_congr fun k _ => ?_
  by_cases z : k ∈ ks
  · rw [if_pos z]
  · rw [if_neg z, s.off k z, Int.zero_mul]
theorem SD.nil (n : Nat) : SD n [] fun _ => 0 := ⟨List.nodup_nil, (fun k hk => by cases hk), fun _ _ => rfl⟩
end TL
set_option maxHeartbeats 4000000
namespace TL
open PySem L2
theorem for_keysD {d : Addr} {o : Obj} {kvs : List (Key × V)} {g : TG} {tb : TS} {D : Ends} {σ : L2.St} {H : Hp} (Pv : Nat → L2.St → Hp → Prop) (h0 : Pv 0 σ H) (hl : ∀ i σ H, Pv i σ H → H d = some (.frz o (.dK kvs)))
    (hs : ∀ i k v σ H, kvs[i]? = some (k, v) → Pv i σ H → g (kV k) σ H fun σ2 H2 => tb { D with nx := Pv (i + 1), ct := Pv (i + 1), bk := D.nx } σ2 H2) (hd : ∀ σ H, Pv kvs.length σ H → D.nx σ H) :
    ∃ W : Nat → Nat → L2.St → Hp → Prop, (∃ m, W 0 m σ H) ∧ ∀ i m σ H, W i m σ H →
      ((Itk d o kvs).stop i H ∧ D.nx σ H) ∨ ((Itk d o kvs).go i H ∧ ∃ N : L2.St → Hp → Prop, (∀ σ' H', N σ' H' → ∃ m', m' < m ∧ W (i + 1) m' σ' H') ∧ ∀ v H', (Itk d o kvs).yld i H v H' → g v σ H' fun σ2 H2 => tb { D with nx := N, ct := N, bk := D.nx } σ2 H2) := by
  refine ⟨fun i m σ H => m = kvs.length - i ∧ i ≤ kvs.length ∧ Pv i σ H, ⟨_, rfl, Nat.zero_le _, h0⟩, ?_⟩
  rintro i m σ H ⟨rfl, hi, p⟩
  have e := hl i σ H p
  by_cases hlt : i < kvs.length
  · refine .inr ⟨⟨e, hlt⟩, Pv (i + 1), fun σ' H' p' => ⟨kvs.length - (i + 1), by omega, rfl, hlt, p'⟩, fun v H' y => ?_⟩
    obtain ⟨rfl, k, u, hk, rfl⟩ := y
    exact hs i k u σ _ hk p
  · obtain rfl : i = kvs.length := by omega
    exact .inl ⟨⟨e, Nat.le_refl _⟩, hd σ H p⟩
theorem spE_at {ks : List Nat} {f : Nat → Int} {i : Nat} {k : Key} {v : V} (h : (spE ks f)[i]? = some (k, v)) : ∃ n : Nat, ks[i]? = some n ∧ k = .inl (n : Int) ∧ v = .int (f n) := by
  obtain ⟨n, h1, h2⟩ := get_map h
  cases h2
  exact ⟨n, h1, rfl, rfl⟩
theorem spE_len (ks : List Nat) (f : Nat → Int) : (spE ks f).length = ks.length := by unfold spE; rw [List.length_map]
section
variable {P : Program} {w : World} {K : PySem.W.Frag} {mg : Str → Option Value} {base : Heap} {f : Addr} {fd : FuncData}
abbrev s_w_rings : Stmt := top 50
abbrev N_w_rings : List Str := ["_law_steps_here", "_law_wide", "_law_found", "_law_begin", "_law_ways", "_law_turn", "_law_later", "_law_k", "_law_other"]
abbrev P_w_rings : List Str := ["_law_steps_here", "_law_wide"]
theorem sc_w_rings : FnScope N_w_rings P_w_rings (defScope s_w_rings) := ⟨rfl, rfl, rfl, by decide +kernel, rfl, by decide +kernel, by decide +kernel⟩
abbrev spRings : Sp := spP fun vs B R => ∃ a ns n wide, vs = [a, .int (wide : Nat)] ∧ (dp (nextsD ns)).p B a ∧ okNexts n ns ∧ n ≤ 500 ∧ 1 ≤ wide ∧ wide ≤ 12 ∧ R = dp (.int (aroundM n ns wide))
theorem ok_wrings (T : TB mg) (F : FnP K "_law_rings" "_law_rings" s_w_rings f fd) : FnOk P w K mg base CX0 1 f fd P_w_rings spRings := by
  refine F.ok sc_w_rings (fun vs H Q E h => ?_) (fun cdv A outer s H vs Q E hr h => ?_)
  · obtain ⟨B, R, e, ⟨a, ns, n, wide, rfl, _⟩, _⟩ := h
    rfl
  · obtain ⟨B, R, e, ⟨a, ns, n, wide, rfl, ha, ok, h500, hw1, hw12, rfl⟩, k⟩ := h
    have hu := hu_of hr
    refine ⟨_, PSs.nox (pss_cons (ps_set (i := 2) sc_w_rings.nd rfl (Or.inl rfl) pe_int)
      (pss_cons (ps_for PassesOwn.never rfl (pi_range1 (by rfl) T.range (pa_cons (pe_callB (kcall_len (K := K) rfl) (by rfl) T.len PySem.boot_len (pa_cons (pv 0) pa_nil)) pa_nil)) (pg_name (i := 3) sc_w_rings.nd rfl (Or.inl rfl)) (pss_cons (ps_set (i := 4) sc_w_rings.nd rfl (Or.inl rfl) (pe_disp (pps_cons (pv 3) pe_int pps_nil) (by rfl) (by rfl) (fun z => by cases z) (by decide)))
      (pss_cons (ps_for PassesOwn.never rfl (pi_range1 (by rfl) T.range (pa_cons (pv 1) pa_nil)) (pg_name (i := 5) sc_w_rings.nd rfl (Or.inl rfl)) (pss_cons (ps_set (i := 6) sc_w_rings.nd rfl (Or.inl rfl) pe_dnewK)
      (pss_cons (ps_lock (ps_for PassesOwn.never rfl (pi_keys (pv 4)) (pg_name (i := 7) sc_w_rings.nd rfl (Or.inl rfl)) (pss_one (ps_for PassesOwn.never rfl (kpi_list (K := K) rfl (pe_ix (kix_list (K := K) rfl) (pv 0) (pv 7) (fun _ _ => rfl))) (pg_name (i := 8) sc_w_rings.nd rfl (Or.inl rfl)) (pss_one (ps_dput hu (pv 6) (pv 8) (pe_op op_add (pe_dget2 hu (pv 6) (pv 8) pe_int ⟨rfl, rfl, rfl, rfl⟩) (pe_dget hu (pv 4) (pv 7) (fun _ _ => rfl))) rfl))))))
      (pss_one (ps_set (i := 4) sc_w_rings.nd rfl (Or.inl rfl) (pv 6))))))
      (pss_one (ps_set (i := 2) sc_w_rings.nd rfl (Or.inl rfl) (pe_op op_add (pv 2) (pe_dget2 hu (pv 4) (pv 3) pe_int ⟨rfl, rfl, rfl, rfl⟩)))))))
      (pss_one (ps_ret (pv 2))))), ?_⟩
    have nxt : ∀ {σ : L2.St} {B' : Hp}, σ[0]? = some (some a) → Ex B B' → EvP (tVar 0) σ B' (dp (nextsD ns)) := fun h e => ev_var h ((dp _).m e ha)
    have len : ∀ {σ : L2.St} {B' : Hp}, σ[0]? = some (some a) → Ex B B' → EvP (tCB (rLenS K) (tCons (tVar 0) tNil)) σ B' (dp (.int (n : Nat))) := fun h e => (ev_lenLd (nxt h e)).to (by rw [List.length_map, ok.1])
    refine q_asg e ev_int fun v0 B1 H1 s1 p1 => ?_
    cases dp_int.mp p1
    refine q_forR (n := n) s1.bh (el_cons (len rfl s1.eb) el_nil) (by omega)
      (fun b σ B' H' => (∃ x1 x2 x3 x4 x5 x6, σ = [some a, some (.int (wide : Nat)), some (.int (sumR b fun b => (iterM (stepM n ns) wide (unitM n b)).getD b 0)), x1, x2, x3, x4, x5, x6]) ∧ Step B H B' H')
      (fun Bl Hl sl => ⟨⟨_, _, _, _, _, _, rfl⟩, s1.trans sl⟩) ?_ ?_
    · rintro Bl Hl sl b σ' B2 H2 hb e1 e2 ⟨⟨x1, x2, x3, x4, x5, x6, rfl⟩, s2⟩
      -- ways = {begin: 1}
      refine q fun q0 hq0 => ⟨_, rfl, upd_same, spE [b] (fun k => if k = b then 1 else 0), ?_, Nat.le_of_ble_eq_true rfl, ?_⟩
      · show [(V.int (b : Int), V.int 1)] = [(V.int (b : Int), V.int (if b = b then 1 else 0))]
        rw [if_pos rfl]
      have bq0 : B2 q0 = none := s2.bh.none hq0
      have hq00 : H q0 = none := s2.eh.none hq0
      have s2' := (s2.poke (o := .dK []) hq00 bq0).poke (o := .dK (mergeK [] (spE [b] (fun k => if k = b then 1 else 0)))) hq00 bq0
      dsimp only
      have lu : (unitM n b).length = n := by unfold unitM; rw [List.length_map, List.length_range]
      refine q_forR (n := wide) s2'.bh (el_cons (ev_var rfl (.int _)) el_nil) (by omega)
        (fun t σ B' H' => (∃ q ks f x5 x6 x7 x8, σ = [some a, some (.int (wide : Nat)), some (.int (sumR b fun b => (iterM (stepM n ns) wide (unitM n b)).getD b 0)), some (.int (b : Nat)), some (.ref q), x5, x6, x7, x8] ∧ H q = none ∧ B' q = none ∧ H' q = some (.dK (spE ks f)) ∧ SD n ks f ∧ ∀ k, k < n → f k = (iterM (stepM n ns) t (unitM n b)).getD k 0) ∧ Step B H B' H')
        (fun Bl Hl sl => ⟨⟨q0, [b], fun k => if k = b then 1 else 0, _, _, _, _, rfl, hq00, ?_, ?_, ⟨by simp, fun k hk => by rw [List.mem_singleton.mp hk]; exact hb, fun k hk => if_neg fun z => hk (by rw [z]; simp)⟩, fun k hk => ?_⟩, s2'.trans sl⟩) ?_ ?_
      · exact sl.hid q0 (by rw [upd_same]; exact fun z => by cases z) bq0
      · exact sl.eh q0 _ upd_same
      · show _ = (unitM n b).getD k 0
        unfold unitM
        rw [List.getD_eq_getElem?_getD, List.getElem?_map, List.getElem?_range hk]
        rfl
      · rintro Bm Hm sm t σ' B3 H3 ht e3 e4 ⟨⟨q, ks, f, x5, x6, x7, x8, rfl, hq, bq, h3q, sd, hf⟩, s3⟩
        -- later = {}
        refine TL.q fun p hp => ?_
        dsimp only
        have bp : B3 p = none := s3.bh.none hp
        have hp0 : H p = none := s3.eh.none hp
        have npq : p ≠ q := fun z => by subst z; rw [hp] at h3q; cases h3q
        have kl := sd.len
        let A : Nat → Nat → Int := fun i o => ((ks.take i).map fun k => f k * cnt o (ns.getD k [])).sum
        have s3' := s3.poke (o := .dK []) hp0 bp
        refine TL.q ⟨q, .dK (spE ks f), by rw [upd_ne (Ne.symm npq)]; exact h3q, True.intro, fun od => ?_⟩
        refine ⟨_, rfl, q, od, rfl, .inl ⟨spE ks f, upd_same, for_keysD (fun i σ' H' => ∃ B', (∃ c e, σ' = [some a, some (.int (wide : Nat)), some (.int (sumR b fun b => (iterM (stepM n ns) wide (unitM n b)).getD b 0)), some (.int (b : Nat)), some (.ref q), some (.int (t : Nat)), some (.ref p), c, e]) ∧ Step B H B' H' ∧ Ex B3 B' ∧ B' q = none ∧ B' p = none ∧ H' q = some (.frz od (.dK (spE ks f))) ∧ ∃ js, H' p = some (.dK (spE js (A i))) ∧ SD n js (A i))
          ⟨B3, ⟨_, _, rfl⟩, s3'.poke hq bq, Ex.refl _, bq, bp, upd_same, [], by rw [upd_ne npq, upd_same]; rfl, SD.nil n⟩ (fun i σ' H' ⟨B', _, _, _, _, _, h, _⟩ => h) ?_ ?_⟩⟩
        · rintro i k' v σ' H' hi ⟨B', ⟨c, e, rfl⟩, s4, e34, b4q, b4p, h4q, js, h4p, sj⟩
          obtain ⟨m, hm, rfl, rfl⟩ := spE_at hi
          have mn := sd.lt m (List.mem_of_getElem? hm)
          have hrow := of_getD (l := ns) (d := []) (show m < ns.length by rw [ok.1]; exact mn)
          obtain ⟨rl, rin⟩ := ok.2 _ (List.mem_of_getElem? hrow)
          have Anext : ∀ o, A (i + 1) o = A i o + f m * cnt o (ns.getD m []) := fun o => by
            show ((ks.take (i + 1)).map _).sum = _
            rw [get_take hm, List.map_append, List.sum_append]
            simp [A]
          generalize hrow' : ns.getD m [] = row at hrow rl rin Anext
          let F : Nat → Nat → Int := fun j o => A i o + f m * cnt o (row.take j)
          refine s_forL (Ps := row.map fun o : Nat => dp (.int (o : Int))) s4.bh ((ev_ixLd (nxt rfl s4.eb) (ev_var rfl (.int _)) (d := natsD row) (atI_nat (by rw [List.getElem?_map, hrow]; rfl))).imp fun _ _ _ z => nats_dp.mpr z)
            (fun j σ B' H' => (∃ e, σ = [some a, some (.int (wide : Nat)), some (.int (sumR b fun b => (iterM (stepM n ns) wide (unitM n b)).getD b 0)), some (.int (b : Nat)), some (.ref q), some (.int (t : Nat)), some (.ref p), some (.int (m : Nat)), e]) ∧ Step B H B' H' ∧ Ex B3 B' ∧ B' q = none ∧ B' p = none ∧ H' q = some (.frz od (.dK (spE ks f))) ∧ ∃ js, H' p = some (.dK (spE js (F j))) ∧ SD n js (F j))
            (fun Bo Ho so => ⟨⟨_, rfl⟩, s4.trans so, e34.trans so.eb, so.hid q (by rw [h4q]; exact fun z => by cases z) b4q, so.hid p (by rw [h4p]; exact fun z => by cases z) b4p, so.eh _ _ h4q, js, ?_, ?_⟩) ?_ ?_
          · have : F 0 = A i := funext fun o => by simp [F, cnt]
            rw [this]
            exact so.eh _ _ h4p
          · have : F 0 = A i := funext fun o => by simp [F, cnt]
            rw [this]
            exact sj
          · rintro Bo Ho so j Pj vo σ3 B5 H5 hj e5 e6 po ⟨⟨e', rfl⟩, s5, e35, b5q, b5p, h5q, js', h5p, sj'⟩
            obtain ⟨o, ho, rfl⟩ := get_map hj
            cases dp_int.mp po
            have hon := rin o (List.mem_of_getElem? ho)
            have jl := sj'.len
            refine ⟨_, rfl, p, rfl, .inl ⟨_, .inl h5p⟩, _, rfl, _, DGet.k (k := .inl (o : Int)) h5p, _, rfl, _, rfl, q, _, rfl, .inl ⟨_, .inl (m : Int), .inr ⟨od, h5q⟩, rfl, ?_⟩, F j o, f m, ?_, rfl, _, rfl, _, rfl, p, _, rfl, DPut.k (k := .inl (o : Int)) h5p (by rw [spE_len]; exact Nat.lt_of_le_of_lt (Nat.le_trans jl h500) (by decide)), B5, e5, s5.bh.poke b5p, ⟨_, rfl⟩, s5.poke hp0 b5p, e35, b5q, b5p, ?_, putN js' o, ?_, ?_⟩
            · rw [spE_get, if_pos (List.mem_of_getElem? hm)]
            · rw [spE_get]
              by_cases z : o ∈ js'
              · rw [if_pos z]; rfl
              · rw [if_neg z, sj'.off o z]; rfl
            · rw [upd_ne (Ne.symm npq)]
              exact h5q
            · rw [upd_same, spE_put]
              refine congrArg (fun g => some (HO.dK (spE (putN js' o) g))) (funext fun k => ?_)
              show (if k = o then _ else F j k) = F (j + 1) k
              show _ = A i k + f m * cnt k (row.take (j + 1))
              rw [get_take ho, cnt_snoc]
              by_cases z : k = o
              · subst z
                rw [if_pos rfl, if_pos rfl, Int.mul_add]
                show A i k + f m * cnt k (row.take j) + f m = _
                omega
              · rw [if_neg z, if_neg fun y => z y.symm, Int.add_zero]
            · refine (sj'.put hon (F j o + f m)).congr fun k => ?_
              show (if k = o then _ else F j k) = F (j + 1) k
              show _ = A i k + f m * cnt k (row.take (j + 1))
              rw [get_take ho, cnt_snoc]
              by_cases z : k = o
              · subst z
                rw [if_pos rfl, if_pos rfl, Int.mul_add]
                show A i k + f m * cnt k (row.take j) + f m = _
                omega
              · rw [if_neg z, if_neg fun y => z y.symm, Int.add_zero]
          · rintro σ3 B5 H5 e5 e6 ⟨⟨e', rfl⟩, s5, e35, b5q, b5p, h5q, js', h5p, sj'⟩
            rw [List.length_map] at h5p sj'
            have : F row.length = A (i + 1) := funext fun o => by
              show A i o + f m * cnt o (row.take row.length) = _
              rw [List.take_length, Anext]
            rw [this] at h5p sj'
            exact ⟨B5, ⟨_, _, rfl⟩, s5, e35, b5q, b5p, h5q, js', h5p, sj'⟩
        · rintro σ' H' ⟨B', ⟨c, e, rfl⟩, s4, e34, b4q, b4p, h4q, js, h4p, sj⟩
          refine ⟨h4q, _, rfl, B', e3.trans e34, s4.bh.poke b4q, ⟨p, js, A (spE ks f).length, _, _, _, _, rfl, hp0, b4p, by rw [upd_ne npq]; exact h4p, sj, fun k hk => ?_⟩, s4.poke hq b4q⟩
          have li : (iterM (stepM n ns) t (unitM n b)).length = n := iter_len lu t
          show ((ks.take (spE ks f).length).map _).sum = (stepM n ns (iterM (stepM n ns) t (unitM n b))).getD k 0
          rw [spE_len, List.take_length, sd.sum, stepM_at ok li]
          exact sumR_congr fun j hj => by rw [hf j hj]
      · rintro σ' B3 H3 e3 e4 ⟨⟨q, ks, f, x5, x6, x7, x8, rfl, hq, bq, h3q, sd, hf⟩, s3⟩
        -- found = found + ways.get(begin, 0)
        refine ⟨_, rfl, _, rfl, q, rfl, .inl ⟨_, .inl h3q⟩, _, rfl, _, DGet.k (k := .inl (b : Int)) h3q, sumR b (fun b => (iterM (stepM n ns) wide (unitM n b)).getD b 0), f b, rfl, ?_, B3, e1.trans (?_), e4, ⟨some (.int (b : Nat)), some (.ref q), x5, x6, x7, x8, ?_⟩, s3⟩
        · rw [spE_get]
          by_cases z : b ∈ ks
          · rw [if_pos z]; rfl
          · rw [if_neg z, sd.off b z]; rfl
        · exact e3
        · rw [sumR_succ, hf b hb]
          rfl
    · rintro σ' B2 H2 e1 e2 ⟨⟨x1, x2, x3, x4, x5, x6, rfl⟩, s2⟩
      exact s_ret (P := dp (.int (aroundM n ns wide))) e2 (ev_var rfl (.int _)) fun v B3 H3 s3 p3 => k v B3 H3 (s2.trans s3) p3
end
end TL
set_option maxHeartbeats 4000000
namespace TL
open PySem L2
def pathG (ns : List (List Nat)) : Nat → Nat → Bool
  | 0, _ => true
  | t + 1, k => (ns.getD k []).any (pathG ns t)
def pathF (ns : List (List Nat)) : Nat → Nat → List Nat
  | 0, _ => []
  | t + 1, k => let j := ((ns.getD k []).filter (pathG ns t)).headD 0; j :: pathF ns t j
def firstM (ns : List (List Nat)) (n wide : Nat) : Option (List Nat) := ((List.range n).find? (pathG ns (wide - 1))).map fun k => k :: pathF ns (wide - 1) k
section
variable {K : PySem.W.Frag} {σ : L2.St} {B B1 H : Hp} {ta tb te : TE} {D : Ends} {tz : TS}
theorem Acc.other {p q : Addr} {Ps : List VP} {o : HO} (a : Acc p Ps B H) (h : p ≠ q) : Acc p Ps B (upd H q o) := by
  obtain ⟨h1, xs, h2, h3⟩ := a
  exact ⟨h1, xs, by rw [upd_ne h]; exact h2, h3⟩
theorem Acc.ne {p q : Addr} {Ps : List VP} (a : Acc p Ps B H) (h : H q = none) : p ≠ q := fun z => by
  subst z
  obtain ⟨_, xs, h2, _⟩ := a
  rw [h] at h2
  cases h2
theorem unshow {p : Addr} {xs : List V} {B' H' : Hp} (s : Step (upd B p (.lst xs)) H B' H') (bp : B p = none) : Step B H (hideP B' p) H' := by
  have hb : B' p = some (.lst xs) := s.eb _ _ upd_same
  refine ⟨fun a u ha => ?_, fun a u ha => ?_, s.eh, fun a h1 h2 => ?_⟩
  · unfold hideP
    have z : a ≠ p := fun z => by subst z; rw [bp] at ha; cases ha
    rw [if_neg z]
    exact s.eb _ _ (by rw [upd_ne z]; exact ha)
  · unfold hideP at ha
    split at ha
    · cases ha
    · exact s.bh _ _ ha
  · unfold hideP
    split
    · rfl
    · rename_i z
      exact s.hid a h1 (by rw [upd_ne z]; exact h2)
/-- a flat new list, made by a look at what is hidden at p -/
theorem peekN {p : Addr} {Ps Qs : List VP} (e : Ex B H) (a : Acc p Ps B H) (h : ∀ B', Ex B B' → (lst Ps).p B' (.ref p) → EvN te σ B' Qs) (flat : ∀ B1 B2 xs, all2 B1 xs Qs → all2 B2 xs Qs) {Q : VK} (q : ∀ D B' H', H D = none → Step B H B' H' → (lst Qs).p B' (.ref D) → Q (.ref D) H') : te σ H Q := by
  obtain ⟨bp, xs, hp, al⟩ := a
  refine h (upd B p (.lst xs)) (Ex.new bp) (Acc.shown (H := H) al bp) H (ex_show e hp) _ fun D B' H' hD s a' => ?_
  obtain ⟨b1, ys, h1, al1⟩ := a'
  have s1 := unshow s bp
  have bD : hideP B' p D = none := by
    unfold hideP
    split
    · rfl
    · exact b1
  exact q D _ H' hD (s1.show_ hD bD h1) ⟨D, ys, rfl, upd_same, flat _ _ _ al1⟩
theorem s_appN {p : Addr} {Ps Qs : List VP} {i : Nat} (e : Ex B H) (a : Acc p Ps B H) (ha : σ[i]? = some (some (.ref p))) (h : ∀ B', Ex B B' → (lst Ps).p B' (.ref p) → EvN te σ B' Qs) (flat : ∀ B1 B2 xs, all2 B1 xs Qs → all2 B2 xs Qs) (hz : Ps.length < 1000000)
    (k : ∀ B' H', Ex B B' → Ex B' H' → Acc p (Ps ++ [lst Qs]) B' H' → (∃ H1, Step B H B' H1 ∧ ∃ o, H' = upd H1 p o) → D.nx σ H') : tDrop (tBM K "list" rAppend (tVar i) (tCons te tNil)) D σ H := by
  refine ⟨_, ha, .inl ⟨rfl, a.ex.choose, SqL.of a.ex.choose_spec.1⟩, ?_⟩
  refine peekN e a h flat fun Dl B' H' hD s pl => ?_
  obtain ⟨h1, xs, h2, h3⟩ := a.step s
  exact ⟨p, xs, .ref Dl, rfl, rfl, h2, sz_lt (by rw [all2_len h3]; exact hz), k B' _ s.eb (s.bh.poke h1) ⟨h1, _, upd_same, all2_snoc h3 pl⟩ ⟨H', s, _, rfl⟩⟩
/-- two hidden lists are looked at; the value is flat -/
theorem peek2 {p q : Addr} {Ps Qs : List VP} {v : V} (e : Ex B H) (a : Acc p Ps B H) (b : Acc q Qs B H) (hpq : p ≠ q) (h : ∀ B', Ex B B' → (lst Ps).p B' (.ref p) → (lst Qs).p B' (.ref q) → EvP te σ B' (isV v)) {Q : VK} (k : ∀ H', Step B H B H' → Q v H') : te σ H Q := by
  obtain ⟨bp, xs, hp, al⟩ := a
  obtain ⟨bq, ys, hq, bl⟩ := b
  have bq' : upd B p (.lst xs) q = none := by rw [upd_ne (Ne.symm hpq)]; exact bq
  refine h (upd (upd B p (.lst xs)) q (.lst ys)) ((Ex.new bp).trans (Ex.new bq')) ?_ ?_ H (ex_show (ex_show e hp) hq) _ fun v' B' H' s p' => ?_
  · exact (lst Ps).m (Ex.new bq') (Acc.shown (H := H) al bp)
  · exact ⟨q, ys, rfl, upd_same, all2_m (Ex.new bq') (all2_m (Ex.new bp) bl)⟩
  · cases (show v' = v from p')
    exact k H' ⟨Ex.refl B, e.trans s.eh, s.eh, fun _ _ h => h⟩
theorem s_appV {p : Addr} {Ps : List VP} {P : VP} {v : V} {i : Nat} (e : Ex B H) (a : Acc p Ps B H) (ha : σ[i]? = some (some (.ref p))) (h : ∀ Q : VK, (∀ H', Step B H B H' → Q v H') → te σ H Q) (hv : P.p B v) (hz : Ps.length < 1000000)
    (k : ∀ H1, Step B H B H1 → ∀ o, Ex B (upd H1 p o) → Acc p (Ps ++ [P]) B (upd H1 p o) → D.nx σ (upd H1 p o)) : tDrop (tBM K "list" rAppend (tVar i) (tCons te tNil)) D σ H := by
  refine ⟨_, ha, .inl ⟨rfl, a.ex.choose, SqL.of a.ex.choose_spec.1⟩, ?_⟩
  refine h _ fun H' s => ?_
  obtain ⟨h1, xs, h2, h3⟩ := a.step s
  exact ⟨p, xs, v, rfl, rfl, h2, sz_lt (by rw [all2_len h3]; exact hz), k H' s _ (s.bh.poke h1) ⟨h1, _, upd_same, all2_snoc h3 hv⟩⟩
theorem atI_last {α : Type} (l : List α) (x : α) : atI (l ++ [x]) (-1) = some x := by
  unfold atI ixN
  rw [List.length_append, List.length_singleton, if_neg (by omega), if_pos (by omega)]
  simp
  rw [show (-1 + ((l.length : Int) + 1)).toNat = l.length by omega]
  simp
theorem rng3_of {ta : TA} {g : TG} {tb : TS} {Ps : List VP} (e : Ex B H) (h : EvL ta σ B Ps) (k : ∀ vs B1 H1, Step B H B1 H1 → all2 B1 vs Ps → tFor (iRng3 (fun _ _ Q => Q vs H1)) g tb D σ H1) : tFor (iRng3 ta) g tb D σ H := h H e _ k
abbrev blP (l : List Bool) : List VP := l.map fun b => dp (.bool b)
theorem flat_bl (l : List Bool) : ∀ B1 B2 xs, all2 B1 xs (blP l) → all2 B2 xs (blP l) := fun B1 B2 xs h => by
  have := all2_bools h
  subst this
  induction l with
  | nil => exact True.intro
  | cons b l ih => exact ⟨.bl b, ih h.2⟩
/-- xs.index(True) -/
theorem ev_indexT {l : List Bool} {j : Nat} (ha : EvP ta σ B (lst (blP l))) (hb : EvP tb σ B (dp (.bool true))) (hj : l[j]? = some true) (hn : ∀ m, m < j → l[m]? = some false) : EvP (tBM K "list" (rIndex K) ta (tCons tb tNil)) σ B (dp (.int (j : Nat))) := fun H e Q q => ha H e _ fun x B1 H1 s1 p1 => by
  obtain ⟨a, xs, rfl, h1, h2⟩ := p1
  refine ⟨.inl ⟨rfl, xs, SqL.of (s1.bh _ _ h1)⟩, hb.mono s1.eb H1 s1.bh _ fun y B2 H2 s2 p2 => ?_⟩
  cases dp_bl.mp p2
  have := all2_bools h2
  subst this
  refine ⟨a, _, .bl true, j, .bl true, rfl, rfl, SqL.of (s2.bh _ _ (s2.eb _ _ h1)), rfl, ?_, by rw [List.getElem?_map, hj]; rfl, rfl, fun m z hm hz => ?_, q _ B2 H2 (s1.trans s2) (.int _)⟩
  · rw [List.all_map]
    exact List.all_eq_true.mpr fun _ _ => rfl
  · rw [List.getElem?_map, hn m hm] at hz
    cases hz
    rfl
end
theorem path_any (ns : List (List Nat)) (t k : Nat) : (!decide ((ns.getD k []).filter (pathG ns t) = [])) = pathG ns (t + 1) k := by
  show _ = (ns.getD k []).any (pathG ns t)
  generalize ns.getD k [] = l
  cases h : l.any (pathG ns t) with
  | true =>
    obtain ⟨x, hx, hp⟩ := List.any_eq_true.mp h
    rw [dF fun z => by
      have := List.mem_filter.mpr ⟨hx, hp⟩
      rw [z] at this
      cases this]
    rfl
  | false =>
    rw [dT (List.filter_eq_nil_iff.mpr fun x hx hp => by
      rw [List.any_eq_true.mpr ⟨x, hx, hp⟩] at h
      cases h)]
    rfl
section
variable {P : Program} {w : World} {K : PySem.W.Frag} {mg : Str → Option Value} {base : Heap} {f : Addr} {fd : FuncData}
abbrev s_w_first : Stmt := top 51
abbrev N_w_first : List Str := ["_law_steps_here", "_law_wide", "_law_goes", "_law_turn", "_law_found", "_law_left", "_law_row", "_law_k"]
abbrev P_w_first : List Str := ["_law_steps_here", "_law_wide"]
theorem sc_w_first : FnScope N_w_first P_w_first (defScope s_w_first) := ⟨rfl, rfl, rfl, by decide +kernel, rfl, by decide +kernel, by decide +kernel⟩
abbrev spFirst : Sp := spP fun vs B R => ∃ a ns n wide, vs = [a, .int (wide : Nat)] ∧ (dp (nextsD ns)).p B a ∧ okNexts n ns ∧ n ≤ 200 ∧ 1 ≤ wide ∧ wide ≤ 12 ∧ R = dp (laidD (firstM ns n wide))
theorem ok_wfirst (T : TB mg) (F : FnP K "_law_first" "_law_first" s_w_first f fd) : FnOk P w K mg base CX0 1 f fd P_w_first spFirst := by
  refine F.ok sc_w_first (fun vs H Q E h => ?_) (fun cdv A outer s H vs Q E hr h => ?_)
  · obtain ⟨B, R, e, ⟨a, ns, n, wide, rfl, _⟩, _⟩ := h
    rfl
  · obtain ⟨B, R, e, ⟨a, ns, n, wide, rfl, ha, ok, h200, hw1, hw12, rfl⟩, k⟩ := h
    refine ⟨_, PSs.nox (pss_cons (ps_set (i := 2) sc_w_first.nd rfl (Or.inr rfl) (pe_lst (pa_cons (pe_op op_rep (pe_lst (pa_cons pe_bl pa_nil)) (pe_callB (kcall_len (K := K) rfl) (by rfl) T.len PySem.boot_len (pa_cons (pv 0) pa_nil))) pa_nil)))
      (pss_cons (ps_for PassesOwn.never rfl (pi_range1 (by rfl) T.range (pa_cons (pe_op op_sub (pv 1) pe_int) pa_nil)) (pg_name (i := 3) sc_w_first.nd rfl (Or.inl rfl)) (pss_one (ps_expr (kbm (K := K) rfl PySem.F.plainAttrs_list PySem.F.slot_list_append PySem.F.type_list_append mt_append (pv 2) (pa_cons (pe_lc (own := [("_law_row", 6)]) (g := gName 6) (tt := tYes) rfl sc_w_first.nd (kpi_list (K := K) rfl (pv 0)) (blkOk_by (N := N_w_first) (sc := defScope s_w_first) (by decide +kernel)) (fun _ _ _ _ _ => pg_name (i := 6) sc_w_first.nd rfl (Or.inl rfl)) (fun _ _ _ _ _ => pts_nil) (fun _ _ _ _ _ => (pe_cmpR (kop_neD (K := K) rfl hr.units) (pe_lc (own := [("_law_k", 7)]) (g := gName 7) (tt := _) rfl sc_w_first.nd (kpi_list (K := K) rfl (pv 6)) (blkOk_by (by kernel_rfl)) (fun _ _ _ _ _ => pg_name (i := 7) sc_w_first.nd rfl (Or.inl rfl)) (fun _ _ _ _ _ => (pts_one (pt_val (pe_ix (kix_list (K := K) rfl) (pe_ix (kix_list (K := K) rfl) (pv 2) (L2.pe_un un_neg pe_int) (fun _ _ => rfl)) (pv 7) (fun _ _ => rfl))))) (fun _ _ _ _ _ => (pv 7))) (pe_lst pa_nil) (nomark _)))) pa_nil)))))
      (pss_cons (ps_if (pt_cmpR (kop_notIn (K := K) rfl) pe_bl (pe_ix (kix_list (K := K) rfl) (pv 2) (L2.pe_un un_neg pe_int) (fun _ _ => rfl)) (by rfl)) (pss_one (ps_ret pe_non)) pss_nil)
      (pss_cons (ps_set (i := 4) sc_w_first.nd rfl (Or.inl rfl) (pe_lst (pa_cons (kbm (K := K) rfl PySem.F.plainAttrs_list PySem.F.slot_list_index PySem.F.type_list_index (kmt_index (K := K) rfl) (pe_ix (kix_list (K := K) rfl) (pv 2) (L2.pe_un un_neg pe_int) (fun _ _ => rfl)) (pa_cons pe_bl pa_nil)) pa_nil)))
      (pss_cons (ps_for PassesOwn.never rfl (pi_range3 (by rfl) T.range (pa_cons (pe_op op_sub (pv 1) pe_int) (pa_cons (L2.pe_un un_neg pe_int) (pa_cons (L2.pe_un un_neg pe_int) pa_nil)))) (pg_name (i := 5) sc_w_first.nd rfl (Or.inr rfl)) (pss_one (ps_expr (kbm (K := K) rfl PySem.F.plainAttrs_list PySem.F.slot_list_append PySem.F.type_list_append mt_append (pv 4) (pa_cons (pe_ix (kix_list (K := K) rfl) (pe_lc (own := [("_law_k", 7)]) (g := gName 7) (tt := _) rfl sc_w_first.nd (kpi_list (K := K) rfl (pe_ix (kix_list (K := K) rfl) (pv 0) (pe_ix (kix_list (K := K) rfl) (pv 4) (L2.pe_un un_neg pe_int) (fun _ _ => rfl)) (fun _ _ => rfl))) (blkOk_by (N := N_w_first) (sc := defScope s_w_first) (by decide +kernel)) (fun _ _ _ _ _ => pg_name (i := 7) sc_w_first.nd rfl (Or.inl rfl)) (fun _ _ _ _ _ => (pts_one (pt_val (pe_ix (kix_list (K := K) rfl) (pe_ix (kix_list (K := K) rfl) (pv 2) (pv 5) (fun _ _ => rfl)) (pv 7) (fun _ _ => rfl))))) (fun _ _ _ _ _ => (pv 7))) pe_int (fun _ _ => rfl)) pa_nil)))))
      (pss_one (ps_ret (pe_lst (pa_cons (pe_callTy (kcall_tuple (K := K) rfl) (by rfl) T.tuple (by decide +kernel) (pa_cons (pv 4) pa_nil)) pa_nil))))))))), ?_⟩
    have nxt : ∀ {σ : L2.St} {B' : Hp}, σ[0]? = some (some a) → Ex B B' → EvP (tVar 0) σ B' (dp (nextsD ns)) := fun h e => ev_var h ((dp _).m e ha)
    have len : ∀ {σ : L2.St} {B' : Hp}, σ[0]? = some (some a) → Ex B B' → EvP (tCB (rLenS K) (tCons (tVar 0) tNil)) σ B' (dp (.int (n : Nat))) := fun h e => (ev_lenLd (nxt h e)).to (by rw [List.length_map, ok.1])
    let gl : Nat → List Bool := fun t => (List.range n).map (pathG ns t)
    have gat : ∀ t k, k < n → (gl t)[k]? = some (pathG ns t k) := fun t k hk => by
      show ((List.range n).map _)[k]? = _
      rw [List.getElem?_map, List.getElem?_range hk]
      rfl
    -- goes = [[True] * n]
    refine q (s_asgN (Ps := (List.range 1).map fun t => lst (blP (gl t))) e ?_ fun p B1 H1 hp s1 a1 => ?_)
    · have h0 : List.replicate n (dp (.bool true)) = blP (gl 0) := by
        show _ = ((List.range n).map (pathG ns 0)).map fun b => dp (.bool b)
        have : ∀ l : List Nat, List.replicate l.length (dp (.bool true)) = (l.map (pathG ns 0)).map fun b => dp (.bool b) := fun l => by
          induction l with
          | nil => rfl
          | cons a l ih =>
            rw [List.length_cons, List.replicate_succ, ih]
            rfl
        have h1 := this (List.range n)
        rw [List.length_range] at h1
        exact h1
      show EvN _ _ _ [lst (blP (gl 0))]
      rw [← h0]
      exact en_lst (el_cons (en_rep (v := .non) (n := n) (en_lst (el_cons ev_bl el_nil) (Nat.le_of_ble_eq_true rfl)) (fun B' e' => len rfl e') (by omega)).toP el_nil) (Nat.le_of_ble_eq_true rfl)
    dsimp only
    refine q_forR (n := wide - 1) s1.bh (el_cons ((ev_sub (ev_var rfl (.int _)) ev_int).to (by congr 2; omega)) el_nil) (by omega)
      (fun t σ B' H' => (∃ x1 x2 x3 x4 x5, σ = [some a, some (.int (wide : Nat)), some (.ref p), x1, x2, x3, x4, x5]) ∧ Step B H B' H' ∧ Acc p ((List.range (t + 1)).map fun t => lst (blP (gl t))) B' H')
      (fun Bl Hl sl => ⟨⟨_, _, _, _, _, rfl⟩, s1.trans sl, a1.step sl⟩) ?_ ?_
    · rintro Bl Hl sl t σ' B2 H2 ht e1 e2 ⟨⟨x1, x2, x3, x4, x5, rfl⟩, s2, a2⟩
      refine s_appN (Qs := blP (gl (t + 1))) e2 a2 rfl (fun B' e' pl => ?_) (flat_bl _) (by rw [List.length_map, List.length_range]; omega) fun B3 H3 e3 e3' a3 hs => ?_
      · have lc := en_lcL (K := K) (σ := [some a, some (.int (wide : Nat)), some (.ref p), some (.int (t : Nat)), x2, x3, x4, x5]) (j := 6) (ws := [6]) (te := tOp (rNeD K) (tLc (iList K (tVar 6)) (gName 7) (tB (tOp (rIxL K) (tOp (rIxL K) (tVar 2) (tUn (rU fun i => .int (-i)) (tC (.int 1)))) (tVar 7))) (tVar 7) [7]) (tLst tNil)) (t := tYes) (tl := tVar 0) (B := B')
          (List.range n) (fun k => dp (natsD (ns.getD k []))) (fun _ => true) (fun k => dp (.bool (pathG ns (t + 1) k))) ((nxt rfl (s2.eb.trans e')).imp fun _ _ _ z => ?_) (by rw [List.length_range]; omega) (fun _ => rfl) (fun _ _ _ _ _ _ => eb_yes) fun k vr B'' hk _ e'' pr => ?_
        · rw [filter_true] at lc
          have : ((List.range n).map fun k => dp (.bool (pathG ns (t + 1) k))) = blP (gl (t + 1)) := by
            show _ = ((List.range n).map _).map _
            rw [List.map_map]
            rfl
          rw [this] at lc
          exact lc
        · have := nexts_lst.mpr z
          have e5 : ((List.range n).map fun k => dp (natsD (ns.getD k []))) = ns.map fun c => dp (natsD c) := by
            have : ns = (List.range n).map fun k => ns.getD k [] := List.ext_getElem? fun i => by
              rw [List.getElem?_map]
              by_cases hi : i < n
              · rw [List.getElem?_range hi, of_getD (d := []) (by rw [ok.1]; exact hi)]
                rfl
              · rw [List.getElem?_eq_none (by rw [ok.1]; omega), List.getElem?_eq_none (by rw [List.length_range]; omega)]
                rfl
            conv => rhs; rw [this]
            rw [List.map_map]
            rfl
          rw [e5]
          exact this
        · have hk' := List.mem_range.mp hk
          obtain ⟨rl, rin⟩ := ok.2 _ (List.mem_of_getElem? (of_getD (l := ns) (d := []) (show k < ns.length by rw [ok.1]; exact hk')))
          rw [← path_any]
          generalize ns.getD k [] = row at pr rl rin
          refine (ev_neD (d := natsD (row.filter (pathG ns t))) (e := natsD []) ((ev_lcL row (fun n : Nat => dp (.int (n : Int))) (pathG ns t) (fun n : Nat => dp (.int (n : Int))) (ev_var rfl (nats_dp.mpr pr)) (by omega) (fun _ => rfl) (fun y v B3 hy e3 pv => ?_) fun y v B3 hy _ e3 pv => ev_var rfl pv).imp fun _ _ _ z => nats_dp.mp z) (EvP.lstD (ds := []) (ev_lst el_nil (Nat.zero_le _))) (shaped_nats _) (shaped_nats _)).to (by rw [eqv_natsD])
          cases dp_int.mp pv
          refine eb_B (ev_ixL (P := dp (.bool (pathG ns t y))) (ev_ixL (P := lst (blP (gl t))) (ev_var rfl ((lst _).m (e''.trans e3) pl)) (ev_neg ev_int) ?_) (ev_var rfl (P := dp (.int (y : Nat))) (.int _)) (atI_nat (by rw [List.getElem?_map, gat t y (rin y hy)]; rfl)))
          rw [List.range_succ, List.map_append]
          exact atI_last _ _
      · obtain ⟨H4, s4, o, rfl⟩ := hs
        refine ⟨B3, e1.trans e3, e3', ⟨_, _, _, _, _, rfl⟩, (s2.trans s4).poke hp a3.b, ?_⟩
        rw [List.range_succ (n := t + 1), List.map_append]
        exact a3
    · rintro σ' B2 H2 e1 e2 ⟨⟨x1, x2, x3, x4, x5, rfl⟩, s2, a2⟩
      have last : atI ((List.range (wide - 1 + 1)).map fun t => lst (blP (gl t))) (-1) = some (lst (blP (gl (wide - 1)))) := by
        rw [List.range_succ, List.map_append]
        exact atI_last _ _
      -- if True not in goes[-1]: return None
      refine q (peekB (b := if true = true then !((gl (wide - 1)).contains true) else (gl (wide - 1)).contains true) e2 a2 (fun B' e' pl => eb_test (ev_inB (neg := true) ev_bl (ev_ixL (ev_var rfl pl) (ev_neg ev_int) last))) fun H3 s3 a3 => ?_)
      have s23 := s2.trans s3
      unfold firstM at k
      cases hf : (List.range n).find? (pathG ns (wide - 1)) with
      | none =>
        have hc : (gl (wide - 1)).contains true = false := by
          cases z : (gl (wide - 1)).contains true with
          | false => rfl
          | true =>
            obtain ⟨x, hx, hp⟩ := List.mem_map.mp (List.contains_iff_mem.mp z)
            exact absurd hp (List.find?_eq_none.mp hf x hx)
        rw [hf] at k
        rw [hc]
        refine iteT ?_
        exact s_ret s3.bh ev_non fun v B4 H4 s4 p4 => k v B4 H4 (s23.trans s4) p4
      | some k0 =>
        have hk0 : pathG ns (wide - 1) k0 = true := List.find?_some hf
        have hk0n : k0 < n := List.mem_range.mp (List.mem_of_find?_eq_some hf)
        have hc : (gl (wide - 1)).contains true = true := List.contains_iff_mem.mpr (List.mem_map.mpr ⟨k0, List.mem_range.mpr hk0n, hk0⟩)
        rw [hf] at k
        rw [hc]
        refine iteF ?_
        dsimp only [tNext]
        -- found = [goes[-1].index(True)]
        refine q (peek (v := .int (k0 : Nat)) s3.bh a3 (fun B' e' pl => (ev_indexT (j := k0) (ev_ixL (ev_var rfl pl) (ev_neg ev_int) last) ev_bl (by rw [gat _ _ hk0n, hk0]) fun m hm => ?_).i) fun H4 s4 a4 => ⟨sz_le (Nat.le_of_ble_eq_true rfl), fun q0 hq0 => ?_⟩)
        · rw [gat _ _ (by omega)]
          obtain ⟨_, i, hi, hh, hb⟩ := List.find?_eq_some_iff_getElem.mp hf
          rw [List.getElem_range] at hh
          have := hb m (by omega)
          rw [List.getElem_range] at this
          cases z : pathG ns (wide - 1) m with
          | false => rfl
          | true => rw [z] at this; cases this
        dsimp only
        have s24 := s23.trans s4
        have bq0 := s24.bh.none hq0
        have hq00 := s24.eh.none hq0
        have s5 := s24.poke (o := .lst [.int (k0 : Nat)]) hq00 bq0
        have npq : p ≠ q0 := a4.ne hq0
        have a5 : Acc p ((List.range (wide - 1 + 1)).map fun t => lst (blP (gl t))) B2 (upd H4 q0 (.lst [.int (k0 : Nat)])) := a4.other npq
        have aq5 : Acc q0 (natP [k0]) B2 (upd H4 q0 (.lst [.int (k0 : Nat)])) := ⟨bq0, _, upd_same, .int _, True.intro⟩
        -- the way on
        refine q (rng3_of s5.bh (el_cons (ev_sub (ev_var rfl (P := dp (.int (wide : Nat))) (.int _)) ev_int) (el_cons (ev_neg ev_int) (el_cons (ev_neg ev_int) el_nil))) fun vs B6 H6 s6 pv => ?_)
        match vs, pv with
        | [v1, v2, v3], ⟨p1, p2, p3, _⟩ =>
        cases dp_int.mp p1
        cases dp_int.mp p2
        cases dp_int.mp p3
        refine ⟨(wide : Int) - 2, -1, -1, _, rfl, RgC.neg (by omega) (by omega) (by decide) (by decide), for_rangeC (fun i σ' H' => ∃ B', (∃ x1 x2 x3, σ' = [some a, some (.int (wide : Nat)), some (.ref p), x1, some (.ref q0), x2, x3, x5]) ∧ Step B H B' H' ∧ Acc p ((List.range (wide - 1 + 1)).map fun t => lst (blP (gl t))) B' H' ∧
          ∃ fl c, Acc q0 (natP (fl ++ [c])) B' H' ∧ i ≤ wide - 1 ∧ c < n ∧ fl.length ≤ i ∧ pathG ns (wide - 1 - i) c = true ∧ fl ++ c :: pathF ns (wide - 1 - i) c = k0 :: pathF ns (wide - 1) k0)
          ⟨B6, ⟨_, _, _, rfl⟩, s5.trans s6, a5.step s6, [], k0, aq5.step s6, Nat.zero_le _, hk0n, Nat.le_refl _, hk0, rfl⟩ ?_ ?_⟩
        · rintro i σ' H' hi ⟨B', ⟨y1, y2, y3, rfl⟩, s7, a7, fl, c, aq7, hi1, hcn, hfl, hpc, hpath⟩
          have hi2 : i < wide - 1 := by omega
          obtain ⟨t, ht⟩ : ∃ t, wide - 1 - i = t + 1 := ⟨wide - 1 - i - 1, by omega⟩
          rw [ht] at hpc hpath
          have left : (wide : Int) - 2 + (i : Nat) * (-1) = (t : Nat) := by omega
          rw [left]
          obtain ⟨rl, rin⟩ := ok.2 _ (List.mem_of_getElem? (of_getD (l := ns) (d := []) (show c < ns.length by rw [ok.1]; exact hcn)))
          have hrow := of_getD (l := ns) (d := []) (show c < ns.length by rw [ok.1]; exact hcn)
          have hpc' : (ns.getD c []).any (pathG ns t) = true := hpc
          have hF : pathF ns (t + 1) c = ((ns.getD c []).filter (pathG ns t)).headD 0 :: pathF ns t (((ns.getD c []).filter (pathG ns t)).headD 0) := rfl
          generalize ns.getD c [] = row at rl rin hrow hpc' hF
          obtain ⟨j, js, hjs⟩ : ∃ j js, row.filter (pathG ns t) = j :: js := by
            cases z : row.filter (pathG ns t) with
            | cons j js => exact ⟨j, js, rfl⟩
            | nil =>
              obtain ⟨x, hx, hp⟩ := List.any_eq_true.mp hpc'
              have := List.mem_filter.mpr ⟨hx, hp⟩
              rw [z] at this
              cases this
          obtain ⟨hj1, hj2⟩ := List.mem_filter.mp (show j ∈ row.filter (pathG ns t) by rw [hjs]; exact List.mem_cons_self)
          rw [hF, hjs] at hpath
          refine s_appV (P := dp (.int (j : Nat))) (v := .int (j : Nat)) s7.bh aq7 rfl (fun Q q => peek2 s7.bh a7 aq7 npq (fun B8 e8 pl pq => ?_) q) (.int _) (by rw [List.length_map, List.length_append]; simp; omega) fun H8 s8 o e8 a8 => ?_
          · have lc := ev_lcL (K := K) (σ := [some a, some (.int (wide : Nat)), some (.ref p), y1, some (.ref q0), some (.int (t : Nat)), y3, x5]) (j := 7) (ws := [7]) (te := tVar 7) (t := tB (tOp (rIxL K) (tOp (rIxL K) (tVar 2) (tVar 5)) (tVar 7))) (tl := tOp (rIxL K) (tVar 0) (tOp (rIxL K) (tVar 4) (tUn (rU fun i => .int (-i)) (tC (.int 1))))) (B := B8)
              row (fun n : Nat => dp (.int (n : Int))) (pathG ns t) (fun n : Nat => dp (.int (n : Int))) ((ev_ixLd (nxt rfl (s7.eb.trans e8)) (ev_ixL (P := dp (.int (c : Nat))) (ev_var rfl pq) (ev_neg ev_int) (by rw [natP_snoc]; exact atI_last _ _)) (d := natsD row) (atI_nat (by rw [List.getElem?_map, hrow]; rfl))).imp fun _ _ _ z => nats_dp.mpr z) (by omega) (fun _ => rfl) (fun y v B3 hy e3 pv => ?_) fun y v B3 hy _ e3 pv => ev_var rfl pv
            · rw [hjs] at lc
              exact (ev_ixL (P := dp (.int (j : Nat))) lc ev_int (atI_nat (j := 0) rfl)).i
            · cases dp_int.mp pv
              refine eb_B (ev_ixL (P := dp (.bool (pathG ns t y))) (ev_ixL (P := lst (blP (gl t))) (ev_var rfl ((lst _).m e3 pl)) (ev_var rfl (P := dp (.int (t : Nat))) (.int _)) (atI_nat ?_)) (ev_var rfl (P := dp (.int (y : Nat))) (.int _)) (atI_nat (by rw [List.getElem?_map, gat t y (rin y hy)]; rfl)))
              rw [List.getElem?_map, List.getElem?_range (by omega)]
              rfl
          · refine ⟨B', ⟨_, _, _, rfl⟩, (s7.trans s8).poke hq00 a8.b, (a7.step s8).other npq, fl ++ [c], j, a8.to ?_, by omega, rin j hj1, ?_, ?_, ?_⟩
            · rw [natP_snoc (fl ++ [c])]
            · rw [List.length_append]
              simp
              omega
            · rw [show wide - 1 - (i + 1) = t by omega]
              exact hj2
            · rw [show wide - 1 - (i + 1) = t by omega, List.append_assoc]
              exact hpath
        · rintro σ' H' ⟨B', ⟨y1, y2, y3, rfl⟩, s7, a7, fl, c, aq7, hi1, hcn, hfl, hpc, hpath⟩
          obtain ⟨B8, s8, e8, p8⟩ := aq7.done s7 hq00
          have ez : wide - 1 - ((wide : Int) - 2 - -1).toNat = 0 := by omega
          rw [ez] at hpath
          have hpath' : fl ++ [c] = k0 :: pathF ns (wide - 1) k0 := hpath
          refine s_ret s8.bh (EvP.lstD (ds := [natsT (fl ++ [c])]) (ev_lst (el_cons (EvP.tupD (ds := (fl ++ [c]).map fun n : Nat => .int (n : Int)) ((ev_tuple (ev_var rfl p8)).to ?_)) el_nil) (Nat.le_of_ble_eq_true rfl))) fun v B9 H9 s9 p9 => k v B9 H9 (s8.trans s9) ?_
          · rw [List.map_map]
            rfl
          · rw [hpath'] at p9
            exact p9
end
end TL
set_option maxHeartbeats 4000000
namespace TL
open PySem L2
def rDictP (K : PySem.W.Frag) : List V → Hp → VK → Prop := fun xs H Q => ∃ (a : Addr) (ps : List Addr) (kvs : List (Key × V)), xs = [.ref a] ∧ SqL K H a (ps.map V.ref) ∧ Paired (fun p kv => SqT K H p [kV kv.1, kv.2]) ps kvs ∧
    ∀ p, H p = none → Q (.ref p) (upd H p (.dK (mergeK [] kvs)))
theorem kcall_dictP {X : Cx} {K : PySem.W.Frag} (hK : X.K = K) (hcalm : X.calm = true) : CallR X (.type "dict") (rDictP K) := hK ▸ call_dictP hcalm
/-- a dict, of which only its keys are told -/
def setV (S : Int → Bool) : VP := ⟨fun B v => ∃ a kvs, v = .ref a ∧ B a = some (.dK kvs) ∧ ∀ i, (valV kvs (.inl i)).isSome = S i, fun e ⟨a, kvs, h1, h2, h3⟩ => ⟨a, kvs, h1, e _ _ h2, h3⟩⟩
theorem merge_keys (i : Int) : ∀ (l : List Int) (kvs : List (Key × V)), (valV (mergeK kvs (l.map fun x => ((Sum.inl x : Key), V.bl true))) (.inl i)).isSome = ((valV kvs (.inl i)).isSome || l.contains i)
  | [], kvs => by
    rw [List.map_nil]
    show (valV kvs (.inl i)).isSome = _
    simp
  | x :: l, kvs => by
    show (valV (mergeK (putK kvs (.inl x) (.bl true)) _) (.inl i)).isSome = _
    rw [merge_keys i l, valV_put, List.contains_cons]
    by_cases z : i = x
    · subst z
      rw [if_pos rfl]
      simp
    · rw [if_neg (fun y => z (Sum.inl.inj y)), show (i == x) = false from beq_eq_false_iff_ne.mpr z]
      simp
section
variable {K : PySem.W.Frag} {σ : L2.St} {B H : Hp} {ta tb te : TE}
theorem pairs_at {B : Hp} : ∀ {l : List Int} {vs : List V}, all2 B vs (l.map fun x => tup [dp (.int x), dp (.bool true)]) → ∃ ps : List Addr, vs = ps.map V.ref ∧ Paired (fun p kv => B p = some (.tup [kV kv.1, kv.2])) ps (l.map fun x => ((Sum.inl x : Key), V.bl true))
  | [], [], _ => ⟨[], rfl, .nil⟩
  | [], _ :: _, h => h.elim
  | _ :: _, [], h => h.elim
  | x :: l, v :: vs, ⟨h1, h2⟩ => by
    obtain ⟨ps, rfl, hp⟩ := pairs_at h2
    obtain ⟨a, xs, rfl, q1, q2⟩ := h1
    obtain ⟨y, z, rfl, py, pz⟩ := all2_2 q2
    cases dp_int.mp py
    cases dp_bl.mp pz
    exact ⟨a :: ps, rfl, .cons q1 hp⟩
theorem paired_imp {α β : Type} {R S : α → β → Prop} (h : ∀ a b, R a b → S a b) : ∀ {l : List α} {m : List β}, Paired R l m → Paired S l m := fun {l m} p => by
  induction p with
  | nil => exact .nil
  | cons r _ ih => exact .cons (h _ _ r) ih
/-- dict([(x, True), ..]) -/
theorem ev_dictK {l : List Int} (ha : EvP ta σ B (lst (l.map fun x => tup [dp (.int x), dp (.bool true)]))) : EvP (tCB (rDictP K) (tCons ta tNil)) σ B (setV fun i => l.contains i) := ev_cb (el_cons ha el_nil) fun B' xs _ h H e Q q => by
  obtain ⟨x, rfl, a, vs, rfl, h1, h2⟩ := all2_1 h
  obtain ⟨ps, rfl, hp⟩ := pairs_at h2
  refine ⟨a, ps, _, rfl, SqL.of (e _ _ h1), paired_imp (fun p kv r => SqT.of (e _ _ r)) hp, fun p hp => q _ _ _ (Step.new e hp) ⟨p, _, rfl, upd_same, fun i => ?_⟩⟩
  rw [merge_keys]
  rfl
theorem eb_dnotin {S : Int → Bool} {i : Int} (hy : EvP ta σ B (dp (.int i))) (hd : EvP tb σ B (setV S)) : EvB (tB (tDNotIn ta tb)) σ B (!S i) := fun H e Q q =>
  hy H e _ fun y B1 H1 s1 p1 => hd.mono s1.eb H1 s1.bh _ fun x B2 H2 s2 p2 => by
    cases dp_int.mp p1
    obtain ⟨a, kvs, rfl, h1, h2⟩ := p2
    refine ⟨a, _, rfl, DGet.k (k := .inl i) (s2.bh _ _ h1), _, rfl, ?_⟩
    rw [h2]
    exact q B2 H2 (s1.trans s2)
end
theorem contains_any (f : Nat → Int) (x : Int) (g : Nat → Bool) (h : ∀ t, g t = decide (f t = x)) : ∀ l : List Nat, (l.map f).contains x = l.any g
  | [] => rfl
  | a :: l => by
    rw [List.map_cons, List.contains_cons, List.any_cons, contains_any f x g h l, h]
    congr 1
    by_cases z : f a = x
    · rw [dT z, z]; simp
    · rw [dF z]; exact beq_eq_false_iff_ne.mpr fun y => z y.symm
/-- the side that lies against -/
def sideS (rs : List Tile) (l : List Nat) (s : Nat) : Int → Bool := fun i => (l.map fun t => sideOf (gt rs t) s).contains i
theorem sides_hasN (rs : List Tile) (l : List Nat) (y : Nat) : decide ((List.range 4).filter (fun s => !sideS rs l ((s + 2) % 4) (sideOf (gt rs y) s)) = []) = hasN rs y l := by
  have e0 : sideS rs l 2 (sideOf (gt rs y) 0) = (sideB rs y l).1 := contains_any _ _ _ (fun t => rfl) l
  have e1 : sideS rs l 3 (sideOf (gt rs y) 1) = (sideB rs y l).2.1 := contains_any _ _ _ (fun t => decide_eq_decide.mpr eq_comm) l
  have e2 : sideS rs l 0 (sideOf (gt rs y) 2) = (sideB rs y l).2.2.1 := contains_any _ _ _ (fun t => decide_eq_decide.mpr eq_comm) l
  have e3 : sideS rs l 1 (sideOf (gt rs y) 3) = (sideB rs y l).2.2.2 := contains_any _ _ _ (fun t => rfl) l
  unfold hasN
  show decide ([0, 1, 2, 3].filter (fun s => !sideS rs l ((s + 2) % 4) (sideOf (gt rs y) s)) = []) = _
  simp only [List.filter_cons, List.filter_nil]
  rw [show (0 + 2) % 4 = 2 from rfl, show (1 + 2) % 4 = 3 from rfl, show (2 + 2) % 4 = 0 from rfl, show (3 + 2) % 4 = 1 from rfl, e0, e1, e2, e3]
  generalize sideB rs y l = b
  obtain ⟨b0, b1, b2, b3⟩ := b
  cases b0 <;> cases b1 <;> cases b2 <;> cases b3 <;> rfl
section
variable {P : Program} {w : World} {K : PySem.W.Frag} {mg : Str → Option Value} {base : Heap} {f : Addr} {fd : FuncData}
abbrev s_w_lean : Stmt := top 52
abbrev N_w_lean : List Str := ["_law_rows", "_law_left", "_law_sides", "_law_stay", "_law_side", "_law_k"]
abbrev P_w_lean : List Str := ["_law_rows"]
theorem sc_w_lean : FnScope N_w_lean P_w_lean (defScope s_w_lean) := ⟨rfl, rfl, rfl, by decide +kernel, rfl, by decide +kernel, by decide +kernel⟩
abbrev spWLean : Sp := spP fun vs B R => ∃ a rs, vs = [a] ∧ (dp (rowsD rs)).p B a ∧ rs.length ≤ 200 ∧ R = dp (natsD (leanW rs (List.range rs.length)))
theorem ok_wlean (T : TB mg) (F : FnP K "_law_lean" "_law_lean" s_w_lean f fd) : FnOk P w K mg base CX0 1 f fd P_w_lean spWLean := by
  refine F.ok sc_w_lean (fun vs H Q E h => ?_) (fun cdv A outer s H vs Q E hr h => ?_)
  · obtain ⟨B, R, e, ⟨a, rs, rfl, _⟩, _⟩ := h
    rfl
  · obtain ⟨B, R, e, ⟨a, rs, rfl, ha, h200, rfl⟩, k⟩ := h
    have hu := hu_of hr
    refine ⟨_, PSs.nox (pss_cons (ps_set (i := 1) sc_w_lean.nd rfl (Or.inr rfl) (pe_listRg rfl rfl T.list (prg_1 rfl T.range (pe_callB (kcall_len (K := K) rfl) (by rfl) T.len PySem.boot_len (pa_cons (pv 0) pa_nil)))))
      (pss_one (ps_while PassesOwn.never (pt_val pe_bl) (pss_cons (ps_set (i := 2) sc_w_lean.nd rfl (Or.inr rfl) (pe_lc (own := [("_law_side", 4)]) (g := gName 4) (tt := tYes) rfl sc_w_lean.nd (pi_range1 (by rfl) T.range (pa_cons pe_int pa_nil)) (blkOk_by (N := N_w_lean) (sc := defScope s_w_lean) (by decide +kernel)) (fun _ _ _ _ _ => pg_name (i := 4) sc_w_lean.nd rfl (Or.inr rfl)) (fun _ _ _ _ _ => pts_nil) (fun _ _ _ _ _ => (pe_callTy (kcall_dictP (K := K) rfl rfl) (by rfl) T.dict (by decide +kernel) (pa_cons (pe_lc (own := [("_law_k", 5)]) (g := gName 5) (tt := tYes) rfl sc_w_lean.nd (kpi_list (K := K) rfl (pv 1)) (blkOk_by (by kernel_rfl)) (fun _ _ _ _ _ => pg_name (i := 5) sc_w_lean.nd rfl (Or.inl rfl)) (fun _ _ _ _ _ => pts_nil) (fun _ _ _ _ _ => (pe_tup (pa_cons (pe_ix (kix_tup (K := K) rfl) (pe_ix (kix_list (K := K) rfl) (pv 0) (pv 5) (fun _ _ => rfl)) (pv 4) (fun _ _ => rfl)) (pa_cons pe_bl pa_nil))))) pa_nil)))))
      (pss_cons (ps_setLc (i := 3) (own := [("_law_k", 5)]) (g := gName 5) (tt := _) rfl sc_w_lean.nd rfl rfl (sw_true rfl rfl rfl (by decide +kernel)) (kpi_list (K := K) rfl (pv 1)) (blkOk_by (N := N_w_lean) (sc := defScope s_w_lean) (by decide +kernel)) (fun _ _ _ _ _ => pg_name (i := 5) sc_w_lean.nd rfl (Or.inr rfl)) (fun _ _ _ _ _ => (pts_one (pt_cmpR (kop_eqD (K := K) rfl hr.units) (pe_lc (own := [("_law_side", 4)]) (g := gName 4) (tt := _) rfl sc_w_lean.nd (pi_range1 (by rfl) T.range (pa_cons pe_int pa_nil)) (blkOk_by (by kernel_rfl)) (fun _ _ _ _ _ => pg_name (i := 4) sc_w_lean.nd rfl (Or.inl rfl)) (fun _ _ _ _ _ => (pts_one (pt_cmp (pc_dnotin hu (pe_ix (kix_tup (K := K) rfl) (pe_ix (kix_list (K := K) rfl) (pv 0) (pv 5) (fun _ _ => rfl)) (pv 4) (fun _ _ => rfl)) (pe_ix (kix_list (K := K) rfl) (pv 2) (pe_op op_mod (pe_op op_add (pv 4) pe_int) pe_int) (fun _ _ => rfl)))))) (fun _ _ _ _ _ => (pv 4))) (pe_lst pa_nil) (nomark _)))) (fun _ _ _ _ _ => (pv 5)))
      (pss_cons (ps_if (pt_cmpR (kop_eqD (K := K) rfl hr.units) (pv 3) (pv 1) (nomark _)) (pss_one (ps_ret (pv 1))) pss_nil)
      (pss_one (ps_set (i := 1) sc_w_lean.nd rfl (Or.inr rfl) (pv 3))))))))), ?_⟩
    have rE : ∀ {σ : L2.St} {B' : Hp}, σ[0]? = some (some a) → Ex B B' → EvP (tVar 0) σ B' (dp (rowsD rs)) := fun h e => ev_var h ((dp _).m e ha)
    refine q_asg e (ev_listRg (n := rs.length) ((ev_lenLd (rE rfl (Ex.refl _))).to (by rw [List.length_map])) (by omega)) fun vl B1 H1 s1 p1 => ?_
    refine s_while (fun m σ B' H' => ∃ vl l x1 x2 x3 x4, σ = [some a, some vl, x1, x2, x3, x4] ∧ Step B H B' H' ∧ (lst (natP l)).p B' vl ∧ l.length ≤ 200 ∧ (∀ t ∈ l, t < rs.length) ∧ leanW rs l = leanW rs (List.range rs.length) ∧ m = l.length)
      rs.length s1.bh ⟨vl, List.range rs.length, _, _, _, _, rfl, s1, p1, by rw [List.length_range]; exact h200, (fun t ht => List.mem_range.mp ht), rfl, by rw [List.length_range]⟩ ?_
    rintro m σ' B3 H3 e3 e3' ⟨vl, l, x1, x2, x3, x4, rfl, s3, pl, l200, lin, le, rfl⟩
    refine ⟨true, eb_B ev_bl, fun B4 H4 s4 => ?_⟩
    refine iteT ?_
    have s34 := s3.trans s4
    have lE : ∀ {σ : L2.St} {B' : Hp}, σ[1]? = some (some vl) → Ex B4 B' → EvP (tVar 1) σ B' (lst (natP l)) := fun h e => ev_var h ((lst _).m (s4.eb.trans e) pl)
    -- sides
    refine q_asg (P := lst ((List.range 4).map fun s => setV (sideS rs l s))) s4.bh ?_ fun vs B5 H5 s5 p5 => ?_
    · have lc := ev_lcR (σ := [some a, some vl, x1, x2, x3, x4]) (B := B4) (j := 4) (ws := [4]) (t := tYes) (ta := tCons (tC (.int 4)) tNil) (te := tCB (rDictP K) (tCons (tLc (iList K (tVar 1)) (gName 5) tYes (tTup (tCons (tOp (rIxT K) (tOp (rIxL K) (tVar 0) (tVar 5)) (tVar 4)) (tCons (tC (V.bl true)) tNil))) [5]) tNil)) (n := 4) (fun _ => true) (fun s => setV (sideS rs l s)) (el_cons ev_int el_nil) (by decide) (fun _ => rfl) (fun _ _ _ _ => eb_yes) fun y B' hy _ e' => ?_
      · rw [filter_true] at lc
        exact lc
      · refine ev_dictK ?_
        have lc2 := ev_lcL (K := K) (σ := [some a, some vl, x1, x2, some (.int (y : Nat)), x4]) (j := 5) (ws := [5]) (tl := tVar 1) (te := tTup (tCons (tOp (rIxT K) (tOp (rIxL K) (tVar 0) (tVar 5)) (tVar 4)) (tCons (tC (V.bl true)) tNil))) (t := tYes) (B := B') l (fun n : Nat => dp (.int (n : Int))) (fun _ => true) (fun t => tup [dp (.int (sideOf (gt rs t) y)), dp (.bool true)]) (lE rfl e') (by omega) (fun _ => rfl) (fun _ _ _ _ _ _ => eb_yes) fun t v B'' ht _ e'' pv => ev_tup (el_cons (ev_ixTd (ev_ixLd (rE rfl (s34.eb.trans (e'.trans e''))) (ev_var rfl pv) (at_rows (of_gt (lin t ht)))) (ev_var rfl (P := dp (.int (y : Nat))) (.int _)) (at_side hy)) (el_cons ev_bl el_nil)) (Nat.le_of_ble_eq_true rfl)
        rw [filter_true] at lc2
        rw [List.map_map]
        exact lc2
    -- stay
    refine q_asg (P := lst (natP (filtN rs l))) s5.bh (ev_lcL l (fun n : Nat => dp (.int (n : Int))) (fun y => hasN rs y l) (fun n : Nat => dp (.int (n : Int))) (lE rfl s5.eb) (by omega) (fun _ => rfl) (fun y v B' hy e' pv => ?_) fun y v B' hy _ e' pv => ev_var rfl pv) fun vt B6 H6 s6 p6 => ?_
    · cases dp_int.mp pv
      rw [← sides_hasN]
      refine eb_test ((ev_eqD (d := natsD ((List.range 4).filter fun s => !sideS rs l ((s + 2) % 4) (sideOf (gt rs y) s))) (e := natsD []) ((ev_lcR (n := 4) (fun s => !sideS rs l ((s + 2) % 4) (sideOf (gt rs y) s)) (fun n : Nat => dp (.int (n : Int))) (el_cons ev_int el_nil) (by decide) (fun _ => rfl) (fun z B'' hz e'' => ?_) fun z B'' hz _ e'' => ev_var rfl (.int _)).imp fun _ _ _ z => nats_dp.mp z) (EvP.lstD (ds := []) (ev_lst el_nil (Nat.zero_le _))) (shaped_nats _) (shaped_nats _)).to (by rw [eqv_natsD]))
      refine eb_dnotin (S := sideS rs l ((z + 2) % 4)) (ev_ixTd (ev_ixLd (rE rfl ((s34.trans s5).eb.trans (e'.trans e''))) (ev_var rfl (P := dp (.int (y : Nat))) (.int _)) (at_rows (of_gt (lin y hy)))) (ev_var rfl (P := dp (.int (z : Nat))) (.int _)) (at_side hz)) (ev_ixL (ev_var rfl ((lst _).m (e'.trans e'') p5)) ((ev_mod (ev_add (ev_var rfl (P := dp (.int (z : Nat))) (.int _)) ev_int) ev_int (by decide)).to (Pa := dp (.int (((z + 2) % 4 : Nat) : Int))) (by rw [show ((z : Int) + 2) % 4 = (((z + 2) % 4 : Nat) : Int) by omega])) (atI_nat ?_))
      rw [List.getElem?_map, List.getElem?_range (by omega)]
      rfl
    · have s56 := (s34.trans s5).trans s6
      refine q_when (b := decide (filtN rs l = l)) s6.bh (eb_test ((ev_eqD (d := natsD (filtN rs l)) (e := natsD l) ((ev_var rfl p6).imp fun _ _ _ z => nats_dp.mp z) ((lE rfl (s5.eb.trans s6.eb)).imp fun _ _ _ z => nats_dp.mp z) (shaped_nats _) (shaped_nats _)).to (by rw [eqv_natsD]))) (fun hy B7 H7 s7 => ?_) fun hn B7 H7 s7 => ?_
      · have hy := of_decide_eq_true hy
        refine s_ret s7.bh (lE rfl (s5.eb.trans (s6.eb.trans s7.eb))) fun v B8 H8 s8 p8 => k v B8 H8 ((s56.trans s7).trans s8) ?_
        rw [← le, leanW_stop (by rw [hy])]
        exact nats_dp.mp p8
      · have hn := of_decide_eq_false hn
        have lt : (filtN rs l).length < l.length := Nat.lt_of_le_of_ne (filtN_le rs l) fun z => hn (filtN_eq z)
        refine s_asg s7.bh (ev_var rfl ((lst _).m s7.eb p6)) fun v8 B8 H8 s8 p8 => ⟨_, lt, B8, e3.trans (s4.eb.trans (s5.eb.trans (s6.eb.trans (s7.eb.trans s8.eb)))), s8.bh, v8, filtN rs l, _, _, _, _, rfl, (s56.trans s7).trans s8, p8, by omega, (fun t ht => lin t (List.mem_filter.mp ht).1), ?_, rfl⟩
        rw [← le]
        exact (leanW_go lt).symm
end
end TL
set_option maxHeartbeats 4000000
namespace TL
open PySem L2
def okL : Nat → PyData → Prop
  | _, .none => True
  | _, .int _ => True
  | r + 1, .list ds => ds.length ≤ 100000 ∧ ∀ d ∈ ds, okL r d
  | r + 1, .tuple ds => ds.length ≤ 100000 ∧ ∀ d ∈ ds, okL r d
  | _, _ => False
def tyD : PyData → String
  | .none => "NoneType"
  | .bool _ => "bool"
  | .int _ => "int"
  | .str _ => "str"
  | .list _ => "list"
  | .tuple _ => "tuple"
  | .dict _ => "dict"
section
variable {K : PySem.W.Frag} {σ : L2.St} {B H : Hp} {ta tb te : TE}
theorem kb_int_str : kitB "int" "str" = some false := by decide +kernel
theorem kb_int_int : kitB "int" "int" = some true := by decide +kernel
theorem kb_int_bool : kitB "int" "bool" = some false := by decide +kernel
theorem kb_NoneType_str : kitB "NoneType" "str" = some false := by decide +kernel
theorem kb_NoneType_int : kitB "NoneType" "int" = some false := by decide +kernel
theorem kb_list_str : kitB "list" "str" = some false := by decide +kernel
theorem kb_list_int : kitB "list" "int" = some false := by decide +kernel
theorem kb_list_tuple : kitB "list" "tuple" = some false := by decide +kernel
theorem kb_list_list : kitB "list" "list" = some true := by decide +kernel
theorem kb_tuple_str : kitB "tuple" "str" = some false := by decide +kernel
theorem kb_tuple_int : kitB "tuple" "int" = some false := by decide +kernel
theorem kb_tuple_tuple : kitB "tuple" "tuple" = some true := by decide +kernel
theorem kb_tuple_list : kitB "tuple" "list" = some false := by decide +kernel
theorem ty_dt {d : PyData} {v : V} (h : Dt H v d) : TyX K H v (.type (tyD d)) := by
  cases h with
  | non => exact .base .non
  | bl b => exact .base (.bl b)
  | int i => exact .base (.int i)
  | str x => exact .base (.str x)
  | lst h1 _ => exact .base (.lst h1)
  | tup h1 _ => exact .base (.tup h1)
theorem ev_isi {d : PyData} {c : String} {b : Bool} (ha : EvP ta σ B (dp d)) (hk : kitB (tyD d) c = some b) : EvP (tCB (rIsi K) (tCons ta (tCons (tC (.ty c)) tNil))) σ B (dp (.bool b)) := ev_cb (Ps := [dp d, isV (.ty c)]) (el_cons ha (el_cons (ev_c rfl) el_nil)) fun B' xs _ h H e Q q => by
  obtain ⟨x, y, rfl, h1, h2⟩ := all2_2 h
  cases (show y = .ty c from h2)
  exact ⟨x, _, _, _, b, rfl, .ty c, ty_dt (Dt.m e _ _ h1), kit_ty hk, q _ B' H (Step.refl e) (.bl _)⟩
theorem ev_ixOl {ds : List PyData} {d : PyData} {i : Int} (ha : EvP ta σ B (dp (.list ds))) (hb : EvP tb σ B (dp (.int i))) (hi : atI ds i = some d) : EvP (tOp (fun x y H Q => rIxL K x y H Q ∨ rIxT K x y H Q) ta tb) σ B (dp d) := ev_op ha.dLst hb fun B' x y _ hx hy H e Q q => by
  obtain ⟨a, xs, rfl, h1, h2⟩ := hx
  cases dp_int.mp hy
  obtain ⟨v, h3, h4⟩ := all2_atI h2 (atI_map dp hi)
  exact .inl ⟨a, xs, i, v, rfl, rfl, SqL.of (e _ _ h1), h3, q v B' H (Step.refl e) h4⟩
theorem ev_ixOt {ds : List PyData} {d : PyData} {i : Int} (ha : EvP ta σ B (dp (.tuple ds))) (hb : EvP tb σ B (dp (.int i))) (hi : atI ds i = some d) : EvP (tOp (fun x y H Q => rIxL K x y H Q ∨ rIxT K x y H Q) ta tb) σ B (dp d) := ev_op ha.dTup hb fun B' x y _ hx hy H e Q q => by
  obtain ⟨a, xs, rfl, h1, h2⟩ := hx
  cases dp_int.mp hy
  obtain ⟨v, h3, h4⟩ := all2_atI h2 (atI_map dp hi)
  exact .inr ⟨a, xs, i, v, rfl, rfl, SqT.of (e _ _ h1), h3, q v B' H (Step.refl e) h4⟩
theorem dt_nonV {d : PyData} {v : V} (h : Dt H v d) : decide (v = .non) = (tyD d == "NoneType") := by
  cases h <;> simp [tyD]
theorem ev_isNd {d : PyData} (ha : EvP ta σ B (dp d)) : EvP (tIsN ta) σ B (dp (.bool (tyD d == "NoneType"))) := fun H e Q q => ha H e _ fun v B1 H1 s1 p1 => q _ B1 H1 s1 (dp_bl.mpr (by rw [dt_nonV p1]))
theorem ev_notNd {d : PyData} (ha : EvP ta σ B (dp d)) : EvP (tNotN ta) σ B (dp (.bool (!(tyD d == "NoneType")))) := fun H e Q q => ha H e _ fun v B1 H1 s1 p1 => q _ B1 H1 s1 (dp_bl.mpr (by rw [← dt_nonV p1]))
end
section
variable {P : Program} {w : World} {K : PySem.W.Frag} {mg : Str → Option Value} {base : Heap} {f : Addr} {fd : FuncData}
abbrev s_w_like : Stmt := top 45
abbrev N_w_like : List Str := ["_law_found", "_law_due", "_law_k"]
abbrev P_w_like : List Str := ["_law_found", "_law_due"]
theorem sc_w_like : FnScope N_w_like P_w_like (defScope s_w_like) := ⟨rfl, rfl, rfl, by decide +kernel, rfl, by decide +kernel, by decide +kernel⟩
abbrev spLike (r : Nat) : Sp := spP fun vs B R => ∃ x y d, vs = [x, y] ∧ (dp d).p B x ∧ (dp d).p B y ∧ okL r d ∧ R = dp (.bool true)
def spLikeP : Nat → Sp
  | 0 => fun _ _ _ _ => False
  | r + 1 => spLike r
theorem like_step (T : TB mg) (r : Nat) (c__law_like : Cl P w K mg base CX0 (1 + r) "_law_like" (spLikeP r)) (F : FnP K "_law_like" "_law_like" s_w_like f fd) : FnOk P w K mg base CX0 (1 + r + 1) f fd P_w_like (spLike r) := by
  refine F.ok sc_w_like (fun vs H Q E h => ?_) (fun cdv A outer s H vs Q E hr h => ?_)
  · obtain ⟨B, R, e, ⟨x, y, d, rfl, _⟩, _⟩ := h
    rfl
  · obtain ⟨B, R, e, ⟨x, y, d, rfl, hx, hy, ok, rfl⟩, k⟩ := h
    refine ⟨_, PSs.nox (pss_cons (ps_if (pt_val (pe_callB (kcall_isi (K := K) rfl) (by rfl) T.isinstance (by decide +kernel) (pa_cons (pv 1) (pa_cons (pe_bltn (v := .ty "str") (by rfl) T.str (by decide +kernel) rfl) pa_nil)))) (pss_one (ps_ret (pe_and (pe_callB (kcall_isi (K := K) rfl) (by rfl) T.isinstance (by decide +kernel) (pa_cons (pv 0) (pa_cons (pe_bltn (v := .ty "str") (by rfl) T.str (by decide +kernel) rfl) pa_nil))) (pe_one (pe_cmpR op_eq (pv 0) (pv 1) (nomark _)))))) pss_nil)
      (pss_cons (ps_if (pt_val (pe_callB (kcall_isi (K := K) rfl) (by rfl) T.isinstance (by decide +kernel) (pa_cons (pv 1) (pa_cons (pe_bltn (v := .ty "int") (by rfl) T.int (by decide +kernel) rfl) pa_nil)))) (pss_one (ps_ret (pe_and (pe_callB (kcall_isi (K := K) rfl) (by rfl) T.isinstance (by decide +kernel) (pa_cons (pv 0) (pa_cons (pe_bltn (v := .ty "int") (by rfl) T.int (by decide +kernel) rfl) pa_nil))) (pe_and (pe_not (pe_callB (kcall_isi (K := K) rfl) (by rfl) T.isinstance (by decide +kernel) (pa_cons (pv 0) (pa_cons (pe_bltn (v := .ty "bool") (by rfl) T.bool (by decide +kernel) rfl) pa_nil)))) (pe_one (pe_cmpR op_eq (pv 0) (pv 1) (nomark _))))))) pss_nil)
      (pss_cons (ps_if (pt_cmp (pc_isN (pv 1))) (pss_one (ps_ret (pe_cmp (pc_isN (pv 0))))) pss_nil)
      (pss_cons (ps_if (PW.pt (pw_or (pt_cmpR op_ne (pe_callB (kcall_isi (K := K) rfl) (by rfl) T.isinstance (by decide +kernel) (pa_cons (pv 1) (pa_cons (pe_bltn (v := .ty "tuple") (by rfl) T.tuple (by decide +kernel) rfl) pa_nil))) (pe_callB (kcall_isi (K := K) rfl) (by rfl) T.isinstance (by decide +kernel) (pa_cons (pv 0) (pa_cons (pe_bltn (v := .ty "tuple") (by rfl) T.tuple (by decide +kernel) rfl) pa_nil))) (nomark _)) (pw_or1 (pt_cmpR op_ne (pe_callB (kcall_isi (K := K) rfl) (by rfl) T.isinstance (by decide +kernel) (pa_cons (pv 1) (pa_cons (pe_bltn (v := .ty "list") (by rfl) T.list (by decide +kernel) rfl) pa_nil))) (pe_callB (kcall_isi (K := K) rfl) (by rfl) T.isinstance (by decide +kernel) (pa_cons (pv 0) (pa_cons (pe_bltn (v := .ty "list") (by rfl) T.list (by decide +kernel) rfl) pa_nil))) (nomark _))))) (pss_one (ps_ret pe_bl)) pss_nil)
      (pss_cons (ps_if (pt_cmpR op_ne (pe_callB (kcall_len (K := K) rfl) (by rfl) T.len PySem.boot_len (pa_cons (pv 0) pa_nil)) (pe_callB (kcall_len (K := K) rfl) (by rfl) T.len PySem.boot_len (pa_cons (pv 1) pa_nil)) (nomark _)) (pss_one (ps_ret pe_bl)) pss_nil)
      (pss_cons (ps_for PassesOwn.never rfl (pi_range1 (by rfl) T.range (pa_cons (pe_callB (kcall_len (K := K) rfl) (by rfl) T.len PySem.boot_len (pa_cons (pv 1) pa_nil)) pa_nil)) (pg_name (i := 2) sc_w_like.nd rfl (Or.inl rfl)) (pss_one (ps_if (pt_not (pt_val (pe_cl c__law_like hr (by omega) rfl pass0 (pa_cons (pe_ix (IxR.or (kix_list (K := K) rfl) (kix_tup (K := K) rfl)) (pv 0) (pv 2) (fun _ _ => rfl)) (pa_cons (pe_ix (IxR.or (kix_list (K := K) rfl) (kix_tup (K := K) rfl)) (pv 1) (pv 2) (fun _ _ => rfl)) pa_nil))))) (pss_one (ps_ret pe_bl)) pss_nil)))
      (pss_one (ps_ret pe_bl)))))))), ?_⟩
    have fE : ∀ {σ : L2.St} {B' : Hp}, σ[0]? = some (some x) → Ex B B' → EvP (tVar 0) σ B' (dp d) := fun h e => ev_var h ((dp _).m e hx)
    have dE : ∀ {σ : L2.St} {B' : Hp}, σ[1]? = some (some y) → Ex B B' → EvP (tVar 1) σ B' (dp d) := fun h e => ev_var h ((dp _).m e hy)
    -- a text?
    have hs : kitB (tyD d) "str" = some false := by
      match d, ok with
      | .int _, _ => exact kb_int_str
      | .none, _ => exact kb_NoneType_str
      | .list _, _ => exact kb_list_str
      | .tuple _, _ => exact kb_tuple_str
      | .bool _, ok => cases r <;> exact ok.elim
      | .str _, ok => cases r <;> exact ok.elim
      | .dict _, ok => cases r <;> exact ok.elim
    refine q_skip e (eb_B (ev_isi (dE rfl (Ex.refl _)) hs)) fun B1 H1 s1 => ?_
    match d, ok with
    | .int i, _ =>
      refine q (s_yes s1.bh (eb_B (ev_isi (b := true) (dE rfl s1.eb) kb_int_int)) fun B2 H2 s2 => ?_)
      have s12 := s1.trans s2
      refine s_ret s2.bh (ev_andV (ev_isi (b := true) (fE rfl s12.eb) kb_int_int) fun _ => ev_andV (a := true) (ev_notV (ev_isi (b := false) (fE rfl s12.eb) kb_int_bool)) fun _ => ev_eq (fE rfl s12.eb) (dE rfl s12.eb)) fun v B3 H3 s3 p3 => k v B3 H3 (s12.trans s3) ?_
      rw [dT rfl] at p3
      exact p3
    | .none, _ =>
      refine q_skip s1.bh (eb_B (ev_isi (dE rfl s1.eb) kb_NoneType_int)) fun B2 H2 s2 => ?_
      have s12 := s1.trans s2
      refine q (s_yes s2.bh (eb_B (ev_isNd (dE rfl s12.eb))) fun B3 H3 s3 => ?_)
      have s13 := s12.trans s3
      exact s_ret s3.bh (ev_isNd (fE rfl s13.eb)) fun v B4 H4 s4 p4 => k v B4 H4 (s13.trans s4) p4
    | .list ds, ok =>
      cases r with
      | zero => exact ok.elim
      | succ r =>
        obtain ⟨hl, hall⟩ := ok
        refine q_skip s1.bh (eb_B (ev_isi (dE rfl s1.eb) kb_list_int)) fun B2 H2 s2 => ?_
        have s12 := s1.trans s2
        refine q_skip s2.bh (eb_B ((ev_isNd (dE rfl s12.eb)).to rfl)) fun B3 H3 s3 => ?_
        have s13 := s12.trans s3
        refine q_skip s3.bh ((eb_or (a := false) (b := false) ((eb_test (ev_neB (ev_isi (b := false) (dE rfl s13.eb) kb_list_tuple) (ev_isi (b := false) (fE rfl s13.eb) kb_list_tuple))).to rfl) fun _ => (eb_test (ev_neB (ev_isi (b := true) (dE rfl s13.eb) kb_list_list) (ev_isi (b := true) (fE rfl s13.eb) kb_list_list))).to rfl).to rfl) fun B4 H4 s4 => ?_
        have s14 := s13.trans s4
        refine q_skip s4.bh ((eb_test (ev_ne (ev_lenLd (fE rfl s14.eb)) (ev_lenLd (dE rfl s14.eb)))).to (by rw [dT rfl]; rfl)) fun B5 H5 s5 => ?_
        have s15 := s14.trans s5
        refine q_forR (n := ds.length) s5.bh (el_cons (ev_lenLd (dE rfl s15.eb)) el_nil) (by omega) (fun i σ B' H' => (∃ c, σ = [some x, some y, c]) ∧ Step B H B' H') (fun Bl Hl sl => ⟨⟨_, rfl⟩, s15.trans sl⟩) ?_ ?_
        · rintro Bl Hl sl i σ' B6 H6 hi e1 e2 ⟨⟨c, rfl⟩, s6⟩
          obtain ⟨d', hd'⟩ := lt_get hi
          refine s_skip e2 (eb_not (a := true) (eb_B (ev_call (el_cons (ev_ixOl (fE rfl s6.eb) (ev_var rfl (P := dp (.int (i : Nat))) (.int _)) (atI_nat hd')) (el_cons (ev_ixOl (dE rfl s6.eb) (ev_var rfl (P := dp (.int (i : Nat))) (.int _)) (atI_nat hd')) el_nil)) fun vs B7 e7 pv => ?_))) fun B7 H7 s7 => ⟨B7, e1.trans s7.eb, s7.bh, ⟨_, rfl⟩, s6.trans s7⟩
          obtain ⟨u1, u2, rfl, q1, q2⟩ := all2_2 pv
          exact ⟨u1, u2, d', rfl, q1, q2, hall d' (List.mem_of_getElem? hd'), rfl⟩
        · rintro σ' B6 H6 e1 e2 ⟨⟨c, rfl⟩, s6⟩
          exact s_ret e2 ev_bl fun v B7 H7 s7 p7 => k v B7 H7 (s6.trans s7) p7
    | .tuple ds, ok =>
      cases r with
      | zero => exact ok.elim
      | succ r =>
        obtain ⟨hl, hall⟩ := ok
        refine q_skip s1.bh (eb_B (ev_isi (dE rfl s1.eb) kb_tuple_int)) fun B2 H2 s2 => ?_
        have s12 := s1.trans s2
        refine q_skip s2.bh (eb_B ((ev_isNd (dE rfl s12.eb)).to rfl)) fun B3 H3 s3 => ?_
        have s13 := s12.trans s3
        refine q_skip s3.bh ((eb_or (a := false) (b := false) ((eb_test (ev_neB (ev_isi (b := true) (dE rfl s13.eb) kb_tuple_tuple) (ev_isi (b := true) (fE rfl s13.eb) kb_tuple_tuple))).to rfl) fun _ => (eb_test (ev_neB (ev_isi (b := false) (dE rfl s13.eb) kb_tuple_list) (ev_isi (b := false) (fE rfl s13.eb) kb_tuple_list))).to rfl).to rfl) fun B4 H4 s4 => ?_
        have s14 := s13.trans s4
        refine q_skip s4.bh ((eb_test (ev_ne (ev_lenTd (fE rfl s14.eb)) (ev_lenTd (dE rfl s14.eb)))).to (by rw [dT rfl]; rfl)) fun B5 H5 s5 => ?_
        have s15 := s14.trans s5
        refine q_forR (n := ds.length) s5.bh (el_cons (ev_lenTd (dE rfl s15.eb)) el_nil) (by omega) (fun i σ B' H' => (∃ c, σ = [some x, some y, c]) ∧ Step B H B' H') (fun Bl Hl sl => ⟨⟨_, rfl⟩, s15.trans sl⟩) ?_ ?_
        · rintro Bl Hl sl i σ' B6 H6 hi e1 e2 ⟨⟨c, rfl⟩, s6⟩
          obtain ⟨d', hd'⟩ := lt_get hi
          refine s_skip e2 (eb_not (a := true) (eb_B (ev_call (el_cons (ev_ixOt (fE rfl s6.eb) (ev_var rfl (P := dp (.int (i : Nat))) (.int _)) (atI_nat hd')) (el_cons (ev_ixOt (dE rfl s6.eb) (ev_var rfl (P := dp (.int (i : Nat))) (.int _)) (atI_nat hd')) el_nil)) fun vs B7 e7 pv => ?_))) fun B7 H7 s7 => ⟨B7, e1.trans s7.eb, s7.bh, ⟨_, rfl⟩, s6.trans s7⟩
          obtain ⟨u1, u2, rfl, q1, q2⟩ := all2_2 pv
          exact ⟨u1, u2, d', rfl, q1, q2, hall d' (List.mem_of_getElem? hd'), rfl⟩
        · rintro σ' B6 H6 e1 e2 ⟨⟨c, rfl⟩, s6⟩
          exact s_ret e2 ev_bl fun v B7 H7 s7 p7 => k v B7 H7 (s6.trans s7) p7
    | .bool _, ok => cases r <;> exact ok.elim
    | .str _, ok => cases r <;> exact ok.elim
    | .dict _, ok => cases r <;> exact ok.elim
theorem ok_like (T : TB mg) (F : FnP K "_law_like" "_law_like" s_w_like f fd) (hm : mg "_law_like" = some (.ref f)) (hk : PySem.W.keepIn K (.ref f) = true) (hb : Binds K fd P_w_like []) : ∀ r, FnOk P w K mg base CX0 (1 + r + 1) f fd P_w_like (spLike r)
  | 0 => like_step T 0 ⟨f, fd, P_w_like, fn_false, hm, hk, hb⟩ F
  | r + 1 => like_step T (r + 1) ⟨f, fd, P_w_like, ok_like T F hm hk hb r, hm, hk, hb⟩ F
end
end TL
set_option maxHeartbeats 4000000
/-! a chain of tiles, renamed and in another order, is matched in one way alone -/
namespace TL
open PySem L2
def chainT (k : Nat) : Tile := ⟨(k : Int), 500 + (k : Int), (k : Int) + 1, 500 + (k : Int)⟩
def renT (t : Tile) : Tile := ⟨t.n * 3 + 1, t.e * 3 + 1, t.s * 3 + 1, t.w * 3 + 1⟩
def chainL (n : Nat) : List Tile := (List.range n).map chainT
def otherL (order : List Nat) : List Tile := order.map fun k => renT (chainT k)
theorem gt_chain {n k : Nat} (h : k < n) : gt (chainL n) k = chainT k := gt_of (by
  unfold chainL
  rw [List.getElem?_map, List.getElem?_range h]
  rfl)
theorem gt_other {order : List Nat} {j k : Nat} (h : order[j]? = some k) : gt (otherL order) j = renT (chainT k) := gt_of (by
  unfold otherL
  rw [List.getElem?_map, h]
  rfl)
theorem side_ren {t : Tile} {s : Nat} (h : s < 4) : sideOf (renT t) s = sideOf t s * 3 + 1 := by
  match s, h with
  | 0, _ => rfl
  | 1, _ => rfl
  | 2, _ => rfl
  | 3, _ => rfl
  | s + 4, h => omega
theorem goesM_spec {rs ss : List Tile} : ∀ {r : Nat} {nm L : List Nat}, goesM rs ss r nm = some L → ∃ tl, L = nm ++ tl ∧ tl.length = r ∧ (∀ t ∈ tl, t < ss.length) ∧ (1 ≤ r → fitsM rs ss L = true)
  | 0, nm, L, h => by
    cases h
    exact ⟨[], (List.append_nil _).symm, rfl, (fun t ht => by cases ht), fun z => by omega⟩
  | r + 1, nm, L, h => by
    obtain ⟨t, ht, h⟩ := List.exists_of_findSome?_eq_some h
    unfold tryM at h
    split at h
    · cases h
    · split at h
      · rename_i hf
        obtain ⟨tl, e, l, lt, f⟩ := goesM_spec h
        refine ⟨t :: tl, by rw [e, List.append_assoc]; rfl, by rw [List.length_cons, l], fun u hu => ?_, fun _ => ?_⟩
        · rcases List.mem_cons.mp hu with rfl | hu
          · exact List.mem_range.mp ht
          · exact lt u hu
        · by_cases z : 1 ≤ r
          · exact f z
          · have : tl = [] := List.eq_nil_of_length_eq_zero (by omega)
            subst this
            rw [e, List.append_nil]
            exact hf
      · cases h
theorem pair_mem {rs ss : List Tile} {nm sd : List Nat} {k s : Nat} (hk : k < nm.length) (hs : s ∈ sd) : (sideOf (gt rs k) s, sideOf (gt ss (nm.getD k 0)) s) ∈ sidePairs rs ss nm sd :=
  List.mem_flatMap.mpr ⟨k, List.mem_range.mpr hk, List.mem_map.mpr ⟨s, hs, rfl⟩⟩
theorem fits_pair {rs ss : List Tile} {nm : List Nat} (h : fitsM rs ss nm = true) {k k' : Nat} (hk : k < nm.length) (hk' : k' < nm.length) (e : sideOf (gt rs k) 2 = sideOf (gt rs k') 0) : sideOf (gt ss (nm.getD k 0)) 2 = sideOf (gt ss (nm.getD k' 0)) 0 := by
  have h1 := List.all_eq_true.mp h [0, 2] (by simp [sideL])
  have h2 := List.all_eq_true.mp (List.all_eq_true.mp h1 _ (pair_mem hk (s := 2) (by simp))) _ (pair_mem hk' (s := 0) (by simp))
  unfold okPair at h2
  rw [dT e] at h2
  have := eq_of_beq h2
  exact of_decide_eq_true this.symm
section
variable {n : Nat} {order : List Nat} (hp : order.Perm (List.range n))
include hp
theorem ord_len : order.length = n := by rw [hp.length_eq, List.length_range]
theorem ord_nodup : order.Nodup := hp.nodup_iff.mpr List.nodup_range
theorem ord_mem {k : Nat} : k ∈ order ↔ k < n := by rw [hp.mem_iff, List.mem_range]
theorem idx_at {k : Nat} (h : k < n) : order[order.idxOf k]? = some k := by
  have hm := (ord_mem hp).mpr h
  have hl := List.idxOf_lt_length_iff.mpr hm
  rw [List.getElem?_eq_getElem hl, List.getElem_idxOf]
theorem idx_of {j k : Nat} (h : order[j]? = some k) : order.idxOf k = j := by
  obtain ⟨hj, e⟩ := List.getElem?_eq_some_iff.mp h
  have hk : k < n := (ord_mem hp).mp (e ▸ List.getElem_mem hj)
  have h2 := idx_at hp hk
  obtain ⟨hj2, e2⟩ := List.getElem?_eq_some_iff.mp h2
  exact (List.getElem_inj (ord_nodup hp)).mp (e2.trans e.symm)
theorem alike_one {L : List Nat} (h1 : 1 ≤ n) (hl : L.length = n) (hlt : ∀ t ∈ L, t < n) (hf : fitsM (chainL n) (otherL order) L = true) : L = (List.range n).map fun k => order.idxOf k := by
  have at_ : ∀ k, k < n → ∃ o, order[L.getD k 0]? = some o ∧ o < n := fun k hk => by
    have hm := hlt _ (List.mem_of_getElem? (of_getD (l := L) (d := 0) (by omega : k < L.length)))
    obtain ⟨o, ho⟩ := lt_get (l := order) (i := L.getD k 0) (by rw [ord_len hp]; exact hm)
    exact ⟨o, ho, (ord_mem hp).mp (List.mem_of_getElem? ho)⟩
  have step : ∀ k o o', k + 1 < n → order[L.getD k 0]? = some o → order[L.getD (k + 1) 0]? = some o' → o' = o + 1 := fun k o o' hk h h' => by
    have := fits_pair hf (k := k) (k' := k + 1) (by omega) (by omega) (by rw [gt_chain (by omega), gt_chain hk]; show (k : Int) + 1 = ((k + 1 : Nat) : Int); omega)
    rw [gt_other h, gt_other h', side_ren (by decide), side_ren (by decide)] at this
    have : ((o : Int) + 1) * 3 + 1 = (o' : Int) * 3 + 1 := this
    omega
  obtain ⟨o0, h0, _⟩ := at_ 0 (by omega)
  have all : ∀ k, k < n → order[L.getD k 0]? = some (o0 + k) := fun k => by
    induction k with
    | zero => exact fun _ => h0
    | succ k ih =>
      intro hk
      obtain ⟨o, ho, _⟩ := at_ (k + 1) hk
      rw [ho, step k _ o hk (ih (by omega)) ho]
      rfl
  have z : o0 = 0 := by
    have := all (n - 1) (by omega)
    have := (ord_mem hp).mp (List.mem_of_getElem? this)
    omega
  subst z
  refine List.ext_getElem? fun k => ?_
  rw [List.getElem?_map]
  by_cases hk : k < n
  · rw [List.getElem?_range hk, of_getD (l := L) (d := 0) (by omega)]
    have := all k hk
    rw [Nat.zero_add] at this
    rw [Option.map_some, idx_of hp this]
  · rw [List.getElem?_eq_none (by omega), List.getElem?_eq_none (by rw [List.length_range]; omega)]
    rfl
theorem alike_fits {m : Nat} (hm : m ≤ n) : fitsM (chainL n) (otherL order) ((List.range m).map fun k => order.idxOf k) = true := by
  refine List.all_eq_true.mpr fun sd hsd => ?_
  obtain ⟨_, s4⟩ := side_lt hsd
  have all : ∀ p ∈ sidePairs (chainL n) (otherL order) ((List.range m).map fun k => order.idxOf k) sd, p.2 = p.1 * 3 + 1 := fun p hp' => by
    obtain ⟨k, hk, hp'⟩ := List.mem_flatMap.mp hp'
    obtain ⟨s, hs, rfl⟩ := List.mem_map.mp hp'
    rw [List.length_map, List.length_range] at hk
    have hk := List.mem_range.mp hk
    have e : ((List.range m).map fun k => order.idxOf k).getD k 0 = order.idxOf k := getD_of (by rw [List.getElem?_map, List.getElem?_range hk]; rfl)
    show sideOf (gt (otherL order) _) s = sideOf (gt (chainL n) k) s * 3 + 1
    rw [e, gt_chain (by omega), gt_other (idx_at hp (by omega)), side_ren (s4 s hs)]
  refine List.all_eq_true.mpr fun a ha => List.all_eq_true.mpr fun b hb => ?_
  have e1 := all a ha
  have e2 := all b hb
  unfold okPair
  rw [e1, e2]
  by_cases z : a.1 = b.1
  · rw [dT z, dT (by rw [z])]
    rfl
  · rw [dF z, dF (by omega)]
    rfl
theorem alike_some : ∀ r m, m + r = n → goesM (chainL n) (otherL order) r ((List.range m).map fun k => order.idxOf k) ≠ none
  | 0, m, _ => fun z => by cases z
  | r + 1, m, h => fun z => by
    have hm : m < n := by omega
    have hx := List.findSome?_eq_none_iff.mp z (order.idxOf m) (List.mem_range.mpr (by
      show order.idxOf m < (otherL order).length
      unfold otherL
      rw [List.length_map]
      exact List.idxOf_lt_length_iff.mpr ((ord_mem hp).mpr hm)))
    have snoc : ((List.range m).map fun k => order.idxOf k) ++ [order.idxOf m] = (List.range (m + 1)).map fun k => order.idxOf k := by
      rw [List.range_succ, List.map_append]
      rfl
    unfold tryM at hx
    rw [if_neg, snoc, if_pos (alike_fits hp (by omega))] at hx
    · exact alike_some r (m + 1) (by omega) hx
    · intro y
      obtain ⟨k, hk, e⟩ := List.mem_map.mp y
      have hk := List.mem_range.mp hk
      have h1 := idx_at hp (show k < n by omega)
      have h2 := idx_at hp hm
      rw [e, h2] at h1
      have := Option.some.inj h1
      omega
theorem alike_goes (h1 : 1 ≤ n) : goesM (chainL n) (otherL order) n [] = some ((List.range n).map fun k => order.idxOf k) := by
  cases h : goesM (chainL n) (otherL order) n [] with
  | none => exact absurd h (alike_some hp n 0 (by omega))
  | some L =>
    obtain ⟨tl, e, l, lt, f⟩ := goesM_spec h
    rw [List.nil_append] at e
    subst e
    have ol : (otherL order).length = n := by unfold otherL; rw [List.length_map, ord_len hp]
    rw [ol] at lt
    rw [alike_one hp h1 l lt (f h1)]
end
end TL
set_option maxHeartbeats 4000000
namespace TL
open PySem L2
theorem erase_map {α β : Type} (f : α → β) : ∀ (l : List α) (m : Nat), (l.map f).eraseIdx m = (l.eraseIdx m).map f
  | [], _ => by simp
  | a :: l, 0 => rfl
  | a :: l, m + 1 => by
    show f a :: (l.map f).eraseIdx m = _
    rw [erase_map f l m]
    rfl
theorem erase_perm {α : Type} {x : α} : ∀ {l : List α} {m : Nat}, l[m]? = some x → (x :: l.eraseIdx m).Perm l
  | [], m, h => by simp at h
  | a :: l, 0, h => by
    cases h
    exact List.Perm.refl _
  | a :: l, m + 1, h => by
    have ih := erase_perm (l := l) (m := m) (by simpa using h)
    show (x :: a :: l.eraseIdx m).Perm (a :: l)
    exact (List.Perm.swap a x _).trans (ih.cons a)
theorem all2_ofNats {B : Hp} : ∀ l : List Nat, all2 B (l.map fun n : Nat => V.int (n : Int)) (natP l)
  | [] => True.intro
  | a :: l => ⟨.int _, all2_ofNats l⟩
theorem chain_ok {n : Nat} (h1 : 6 ≤ n) (h2 : n ≤ 12) : okTiles (chainL n) := ⟨by unfold chainL; rw [List.length_map, List.length_range]; omega, by unfold chainL; rw [List.length_map, List.length_range]; omega, fun t ht => by
  obtain ⟨k, hk, rfl⟩ := List.mem_map.mp ht
  have := List.mem_range.mp hk
  exact ⟨⟨show (0 : Int) ≤ (k : Int) by omega, show (k : Int) < 1000000000000 by omega⟩, ⟨show (0 : Int) ≤ 500 + (k : Int) by omega, show 500 + (k : Int) < 1000000000000 by omega⟩, ⟨show (0 : Int) ≤ (k : Int) + 1 by omega, show (k : Int) + 1 < 1000000000000 by omega⟩, ⟨show (0 : Int) ≤ 500 + (k : Int) by omega, show 500 + (k : Int) < 1000000000000 by omega⟩⟩⟩
theorem other_ok {n : Nat} {order : List Nat} (h1 : 6 ≤ n) (h2 : n ≤ 12) (hp : order.Perm (List.range n)) : okTiles (otherL order) := ⟨by unfold otherL; rw [List.length_map, ord_len hp]; omega, by unfold otherL; rw [List.length_map, ord_len hp]; omega, fun t ht => by
  obtain ⟨k, hk, rfl⟩ := List.mem_map.mp ht
  have := (ord_mem hp).mp hk
  exact ⟨⟨show (0 : Int) ≤ (k : Int) * 3 + 1 by omega, show (k : Int) * 3 + 1 < 1000000000000 by omega⟩, ⟨show (0 : Int) ≤ (500 + (k : Int)) * 3 + 1 by omega, show (500 + (k : Int)) * 3 + 1 < 1000000000000 by omega⟩, ⟨show (0 : Int) ≤ ((k : Int) + 1) * 3 + 1 by omega, show ((k : Int) + 1) * 3 + 1 < 1000000000000 by omega⟩, ⟨show (0 : Int) ≤ (500 + (k : Int)) * 3 + 1 by omega, show (500 + (k : Int)) * 3 + 1 < 1000000000000 by omega⟩⟩⟩
section
variable {K : PySem.W.Frag} {σ : L2.St} {B H : Hp} {ta tb tc te : TE} {p : Addr} {P R : VP}
/-- the iterated number throws the dice -/
theorem lcIter {g : TG} {t : L2.TT} {ws : List Nat} (h : EvD K p tc σ B P) (k : ∀ v B2, P.p B2 v → Ex B B2 → EvP (tLc (iRng1 (tCons (tC v) tNil)) g t te ws) σ B2 R) : EvD K p (tLc (iRng1 (tCons tc tNil)) g t te ws) σ B R := fun B1 H e1 e2 d Q q =>
  h B1 H e1 e2 d _ fun v B2 H2 s2 d2 p2 => k v B2 p2 (e1.trans s2.eb) H2 s2.bh Q fun u B3 H3 s3 p3 => q u B3 H3 (s2.trans (s3.x p)) (d2.step s3) p3
theorem en_listRg {n : Nat} (ha : EvP ta σ B (dp (.int (n : Nat)))) (hn : n < 1000000) : EvN (tLstRg (tRg1 ta)) σ B (natP (List.range n)) := fun H e Q q => ha H e _ fun x B1 H1 s1 p1 => by
  cases dp_int.mp p1
  refine ⟨(n : Int), rfl, ⟨by omega, by omega, by omega, by omega, by omega⟩, fun p hp => ?_⟩
  rw [rgV_nat]
  exact q p B1 _ (s1.eh.none hp) (s1.poke (s1.eh.none hp) (s1.bh.none hp)) ⟨s1.bh.none hp, _, upd_same, all2_ofNats _⟩
/-- xs.index(n) of whole numbers -/
theorem ev_indexN {l : List Nat} {x j : Nat} (ha : EvP ta σ B (lst (natP l))) (hb : EvP tb σ B (dp (.int (x : Nat)))) (hj : l[j]? = some x) (hn : ∀ m z, m < j → l[m]? = some z → z ≠ x) : EvP (tBM K "list" (rIndex K) ta (tCons tb tNil)) σ B (dp (.int (j : Nat))) := fun H e Q q => ha H e _ fun y B1 H1 s1 p1 => by
  obtain ⟨a, xs, rfl, h1, h2⟩ := p1
  refine ⟨.inl ⟨rfl, xs, SqL.of (s1.bh _ _ h1)⟩, hb.mono s1.eb H1 s1.bh _ fun y B2 H2 s2 p2 => ?_⟩
  cases dp_int.mp p2
  have := all2_nats h2
  subst this
  refine ⟨a, _, .int (x : Int), j, .int (x : Int), rfl, rfl, SqL.of (s2.bh _ _ (s2.eb _ _ h1)), rfl, flat_nats l, by rw [List.getElem?_map, hj]; rfl, beq_self_eq_true _, fun m z hm hz => ?_, q _ B2 H2 (s1.trans s2) (.int _)⟩
  rw [List.getElem?_map] at hz
  cases hq : l[m]? with
  | none => rw [hq] at hz; cases hz
  | some u =>
    rw [hq] at hz
    cases hz
    have := hn m u hm hq
    exact beq_eq_false_iff_ne.mpr fun y => this (Int.ofNat_inj.mp y)
end
section
variable {P : Program} {w : World} {K : PySem.W.Frag} {mg : Str → Option Value} {base : Heap} {f : Addr} {fd : FuncData}
abbrev s_w_alike : Stmt := top 54
abbrev N_w_alike : List Str := ["_law_d", "_law_some", "_law_order", "_law_other", "_law_k", "_law_mark"]
abbrev P_w_alike : List Str := ["_law_d"]
theorem sc_w_alike : FnScope N_w_alike P_w_alike (defScope s_w_alike) := ⟨rfl, rfl, rfl, by decide +kernel, rfl, by decide +kernel, by decide +kernel⟩
abbrev spAlike (K : PySem.W.Frag) : Sp := fun vs H Q _ => ∃ B p, vs = [.ref p] ∧ Ex B H ∧ DS K p B H ∧ ∀ H', Q (.bl true) H'
theorem ok_alike (T : TB mg) (c__law_next : Cl P w K mg base CX0 1 "_law_next" (spNext K)) (c__law_like : Cl P w K mg base CX0 3 "_law_like" (spLike 1)) (c_matched : Cl P w K mg base CX0 15 "matched" (spMatched K)) (c_Tiles : Mr P w K mg base CX0 1 "Tiles" (ca K "Tiles") (spTilesI K)) (F : FnP K "_law_alike" "_law_alike" s_w_alike f fd) : FnOk P w K mg base CX0 16 f fd P_w_alike (spAlike K) := by
  refine F.ok sc_w_alike (fun vs H Q E h => ?_) (fun cdv A outer s H vs Q E hr h => ?_)
  · obtain ⟨B, p, rfl, _⟩ := h
    rfl
  · obtain ⟨B, p, rfl, e, d, k⟩ := h
    refine ⟨_, PSs.nox (pss_cons (ps_set (i := 1) sc_w_alike.nd rfl (Or.inr rfl) (pe_lc (own := [("_law_k", 4)]) (g := gName 4) (tt := tYes) rfl sc_w_alike.nd (pi_range1 (by rfl) T.range (pa_cons (pe_op op_add pe_int (pe_cl c__law_next hr (by omega) rfl pass0 (pa_cons (pv 0) (pa_cons pe_int pa_nil)))) pa_nil)) (blkOk_by (N := N_w_alike) (sc := defScope s_w_alike) (by decide +kernel)) (fun _ _ _ _ _ => pg_name (i := 4) sc_w_alike.nd rfl (Or.inl rfl)) (fun _ _ _ _ _ => pts_nil) (fun _ _ _ _ _ => (pe_tup (pa_cons (pv 4) (pa_cons (pe_op op_add pe_int (pv 4)) (pa_cons (pe_op op_add (pv 4) pe_int) (pa_cons (pe_op op_add pe_int (pv 4)) pa_nil))))))))
      (pss_cons (ps_set (i := 2) sc_w_alike.nd rfl (Or.inr rfl) (pe_listRg rfl rfl T.list (prg_1 rfl T.range (pe_callB (kcall_len (K := K) rfl) (by rfl) T.len PySem.boot_len (pa_cons (pv 1) pa_nil)))))
      (pss_cons (ps_set (i := 2) sc_w_alike.nd rfl (Or.inr rfl) (pe_lc (own := [("_law_k", 4)]) (g := gName 4) (tt := tYes) rfl sc_w_alike.nd (pi_range1 (by rfl) T.range (pa_cons (pe_callB (kcall_len (K := K) rfl) (by rfl) T.len PySem.boot_len (pa_cons (pv 1) pa_nil)) pa_nil)) (blkOk_by (N := N_w_alike) (sc := defScope s_w_alike) (by decide +kernel)) (fun _ _ _ _ _ => pg_name (i := 4) sc_w_alike.nd rfl (Or.inl rfl)) (fun _ _ _ _ _ => pts_nil) (fun _ _ _ _ _ => (kbm (K := K) rfl PySem.F.plainAttrs_list PySem.F.slot_list_pop PySem.F.type_list_pop mt_popAt (pv 2) (pa_cons (pe_cl c__law_next hr (by omega) rfl pass0 (pa_cons (pv 0) (pa_cons (pe_callB (kcall_len (K := K) rfl) (by rfl) T.len PySem.boot_len (pa_cons (pv 2) pa_nil)) pa_nil))) pa_nil)))))
      (pss_cons (ps_setLc (i := 3) (own := [("_law_k", 4)]) (g := gName 4) (tt := tYes) rfl sc_w_alike.nd rfl rfl (sw_true rfl rfl rfl (by decide +kernel)) (kpi_list (K := K) rfl (pv 2)) (blkOk_by (N := N_w_alike) (sc := defScope s_w_alike) (by decide +kernel)) (fun _ _ _ _ _ => pg_name (i := 4) sc_w_alike.nd rfl (Or.inl rfl)) (fun _ _ _ _ _ => pts_nil) (fun _ _ _ _ _ => (pe_callTy (kcall_tuple (K := K) rfl) (by rfl) T.tuple (by decide +kernel) (pa_cons (pe_lc (own := [("_law_mark", 5)]) (g := gName 5) (tt := tYes) rfl sc_w_alike.nd (kpi_tup (K := K) rfl (pe_ix (kix_list (K := K) rfl) (pv 1) (pv 4) (fun _ _ => rfl))) (blkOk_by (by kernel_rfl)) (fun _ _ _ _ _ => pg_name (i := 5) sc_w_alike.nd rfl (Or.inl rfl)) (fun _ _ _ _ _ => pts_nil) (fun _ _ _ _ _ => (pe_op op_add (pe_op op_mul (pv 5) pe_int) pe_int))) pa_nil))))
      (pss_one (ps_ret (pe_cl c__law_like hr (by omega) rfl pass0 (pa_cons (pe_cl c_matched hr (by omega) rfl pass0 (pa_cons (pe_mr c_Tiles hr (by omega) rfl pass0 (pa_cons (pv 1) pa_nil)) (pa_cons (pe_mr c_Tiles hr (by omega) rfl pass0 (pa_cons (pv 3) pa_nil)) pa_nil))) (pa_cons (pe_lc (own := [("_law_k", 4)]) (g := gName 4) (tt := tYes) rfl sc_w_alike.nd (pi_range1 (by rfl) T.range (pa_cons (pe_callB (kcall_len (K := K) rfl) (by rfl) T.len PySem.boot_len (pa_cons (pv 1) pa_nil)) pa_nil)) (blkOk_by (N := N_w_alike) (sc := defScope s_w_alike) (by decide +kernel)) (fun _ _ _ _ _ => pg_name (i := 4) sc_w_alike.nd rfl (Or.inl rfl)) (fun _ _ _ _ _ => pts_nil) (fun _ _ _ _ _ => (kbm (K := K) rfl PySem.F.plainAttrs_list PySem.F.slot_list_index PySem.F.type_list_index (kmt_index (K := K) rfl) (pv 2) (pa_cons (pv 4) pa_nil)))) pa_nil))))))))), ?_⟩
    have thr : ∀ {σ : L2.St} {B' : Hp} {n : Nat} {t : TE}, σ[0]? = some (some (.ref p)) → EvP t σ B' (dp (.int (n : Nat))) → 0 < n → n < 1000000 → EvD K p (tCall (spNext K) [] E0 (tCons (tVar 0) (tCons t tNil))) σ B' (rgN n) := fun h ht n0 n1 => evd_next (ev_var h rfl) ht n0 n1
    let cV : VP := ⟨fun B v => ∃ n, 6 ≤ n ∧ n ≤ 12 ∧ (dp (rowsD (chainL n))).p B v, fun e ⟨n, h1, h2, h3⟩ => ⟨n, h1, h2, (dp _).m e h3⟩⟩
    let nV : VP := ⟨fun _ v => ∃ n : Nat, 6 ≤ n ∧ n ≤ 12 ∧ v = .int (n : Int), fun _ h => h⟩
    -- some
    refine q (s_asgD (P := cV) e d (lcIter (P := nV) (evd_op (Pa := dp (.int 6)) (Pb := rgN 7) ev_int.d (thr rfl ev_int (by decide) (by decide)) ?_) fun v B2 pv e2 => ?_) fun vs B1 H1 s1 d1 p1 => ?_)
    · intro B' x y _ hx hy H' e' Q' q'
      cases dp_int.mp hx
      obtain ⟨m, hm, rfl⟩ := hy
      exact ⟨6, (m : Int), rfl, rfl, q' _ B' H' (Step.refl e') ⟨6 + m, by omega, by omega, congrArg V.int (show (6 : Int) + (m : Int) = ((6 + m : Nat) : Int) by omega)⟩⟩
    · obtain ⟨n, n6, n12, rfl⟩ := pv
      refine (ev_lcR (n := n) (fun _ => true) (fun k => dp (chainT k).d) (el_cons ev_int el_nil) (by omega) (fun _ => rfl) (fun _ _ _ _ => eb_yes) fun y B' hy _ e' => ?_).imp fun B' v _ pv => ⟨n, n6, n12, ?_⟩
      · exact EvP.tupD (ds := [.int (y : Nat), .int (500 + (y : Nat)), .int ((y : Nat) + 1), .int (500 + (y : Nat))]) (ev_tup (el_cons (ev_var rfl (.int _)) (el_cons (ev_add ev_int (ev_var rfl (.int _))) (el_cons (ev_add (ev_var rfl (.int _)) ev_int) (el_cons (ev_add ev_int (ev_var rfl (.int _))) el_nil)))) (Nat.le_of_ble_eq_true rfl))
      · rw [filter_true] at pv
        refine rows_lst.mp ?_
        unfold chainL
        rw [List.map_map]
        exact pv
    obtain ⟨n, n6, n12, ps⟩ := p1
    dsimp only
    have cl : (chainL n).length = n := by unfold chainL; rw [List.length_map, List.length_range]
    have sE : ∀ {σ : L2.St} {B' : Hp}, σ[1]? = some (some vs) → Ex B1 B' → EvP (tVar 1) σ B' (dp (rowsD (chainL n))) := fun h e => ev_var h ((dp _).m e ps)
    have lE : ∀ {σ : L2.St} {B' : Hp}, σ[1]? = some (some vs) → Ex B1 B' → EvP (tCB (rLenS K) (tCons (tVar 1) tNil)) σ B' (dp (.int (n : Nat))) := fun h e => (ev_lenLd (sE h e)).to (by rw [List.length_map, cl])
    -- order = list(range(len(some)))
    refine q (s_asgN s1.bh (en_listRg (lE rfl (Ex.refl _)) (by omega)) fun o B2 H2 ho s2 a2 => ?_)
    dsimp only
    have d2 := d1.step s2
    have nop : o ≠ p := d1.ne ho
    -- order = [order.pop(..) ..]
    refine q (lE rfl s2.eb H2 s2.bh _ fun vn B3 H3 s3 p3 => ?_)
    cases dp_int.mp p3
    have s23 := s2.trans s3
    refine ⟨(n : Int), rfl, by omega, by omega, fun D hD => ?_⟩
    rw [Int.toNat_natCast]
    have d3 := d2.step s3
    have a3 := a2.step s3
    have hDp : D ≠ p := d3.ne hD
    have hDo : D ≠ o := Ne.symm (a3.ne hD)
    have bD := s3.bh.none hD
    refine lc_range (lo := 0) (n := n) (fun i H' => ∃ B', Ex B3 B' ∧ Ex B' H' ∧ DS K p B' H' ∧ ∃ dn rest, (dn ++ rest).Perm (List.range n) ∧ dn.length = i ∧ Acc o (natP rest) B' H' ∧ Acc D (natP dn) B' H')
      ⟨B3, Ex.refl _, s3.bh.poke bD, d3.poke hDp, [], List.range n, List.Perm.refl _, rfl, a3.other (Ne.symm hDo), Acc.new bD⟩ ?_ ?_
    · rintro i H' hi ⟨B', e', b', d', dn, rest, pm, hdn, ao, aD⟩
      have z : (0 : Int) + (i : Int) = (i : Int) := Int.zero_add _
      rw [z]
      refine ⟨rfl, ?_⟩
      have lrest : rest.length = n - i := by
        have := pm.length_eq
        rw [List.length_append, List.length_range] at this
        omega
      obtain ⟨bo, xs, ho2, alo⟩ := id ao
      have xs_eq := all2_nats alo
      have lxs : xs.length = rest.length := by rw [xs_eq, List.length_map]
      refine ⟨.ref o, rfl, .inl ⟨rfl, xs, SqL.of ho2⟩, .ref p, rfl, .ref o, rfl, o, xs, rfl, .inl (SqL.of ho2), B', p, xs.length, rfl, b', d', by omega, by omega, fun m B4 H4 hm s4 d4 => ?_⟩
      have ho4 : H4 o = some (.lst xs) := s4.eh o _ nop ho2
      have bo4 : B4 o = none := s4.hid o nop (by rw [ho2]; exact fun z => by cases z) bo
      obtain ⟨x, hx⟩ := lt_get (l := rest) (i := m) (by omega)
      obtain ⟨bDd, ys, hDy, alD⟩ := aD
      have hD4 : H4 D = some (.lst ys) := s4.eh D _ hDp hDy
      have bD4 : B4 D = none := s4.hid D hDp (by rw [hDy]; exact fun z => by cases z) bDd
      have alD4 := all2_m s4.eb alD
      refine ⟨o, xs, (m : Int), m, .int (x : Int), rfl, rfl, ho4, by omega, by omega, seqIndex_of (by omega) (by omega), by rw [xs_eq, List.getElem?_map, hx]; rfl, ys, by rw [upd_ne hDo]; exact hD4, sz_lt (by rw [all2_len alD4, List.length_map]; omega), B4, e'.trans s4.eb, (s4.bh.poke bo4).poke bD4, (d4.poke nop).poke hDp, dn ++ [x], rest.eraseIdx m, ?_, ?_, ?_, ?_⟩
      · refine List.Perm.trans ?_ pm
        rw [List.append_assoc]
        exact (erase_perm hx).append_left dn
      · rw [List.length_append, hdn]
        rfl
      · refine ⟨bo4, _, by rw [upd_ne (Ne.symm hDo), upd_same], ?_⟩
        rw [xs_eq, erase_map]
        exact all2_ofNats _
      · refine ⟨bD4, _, upd_same, ?_⟩
        rw [natP_snoc]
        exact all2_snoc alD4 (.int _)
    · rintro H' ⟨B', e', b', d', dn, rest, pm, hdn, ao, aD⟩
      have hrest : rest = [] := by
        have := pm.length_eq
        rw [List.length_append, List.length_range] at this
        exact List.eq_nil_of_length_eq_zero (by omega)
      subst hrest
      rw [List.append_nil] at pm
      obtain ⟨bDd, ys, hDy, alD⟩ := aD
      have e4 : Ex (upd B' D (.lst ys)) H' := ex_show b' hDy
      have pD : (lst (natP dn)).p (upd B' D (.lst ys)) (.ref D) := Acc.shown (H := H') alD bDd
      have e14 : Ex B1 (upd B' D (.lst ys)) := s23.eb.trans (e'.trans (Ex.new bDd))
      have dl := ord_len pm
      -- other
      refine q_asg (P := dp (rowsD (otherL dn))) e4 ((ev_lcL dn (fun n : Nat => dp (.int (n : Int))) (fun _ => true) (fun k => dp (renT (chainT k)).d) (ev_var rfl pD) (by omega) (fun _ => rfl) (fun _ _ _ _ _ _ => eb_yes) fun k v B5 hk _ e5 pv => ?_).imp fun B5 v _ pv => ?_) fun vo B5 H5 s5 p5 => ?_
      · cases dp_int.mp pv
        have hkn := (ord_mem pm).mp hk
        refine EvP.tupD (ds := ((chainT k).l.map fun i => i * 3 + 1).map .int) ?_
        have lc := ev_lcT (K := K) (σ := [some (.ref p), some vs, some (.ref D), none, some (.int (k : Nat)), none]) (j := 5) (ws := [5]) (tl := tOp (rIxL K) (tVar 1) (tVar 4)) (te := tOp (rI0 fun i j => .int (i + j)) (tOp (rI CMul fun i j => .int (i * j)) (tVar 5) (tC (.int 3))) (tC (.int 1))) (t := tYes) (B := B5) (chainT k).l (fun i => dp (.int i)) (fun _ => true) (fun i => dp (.int (i * 3 + 1)))
          ((ev_ixLd (sE rfl (e14.trans e5)) (ev_var rfl (P := dp (.int (k : Nat))) (.int _)) (at_rows (by unfold chainL; rw [List.getElem?_map, List.getElem?_range hkn]; rfl))).imp fun _ _ _ p => (tup_dp (ds := [.int (chainT k).n, .int (chainT k).e, .int (chainT k).s, .int (chainT k).w])).mpr p) (show 4 < 1000000 by decide) (fun _ => rfl) (fun _ _ _ _ _ _ => eb_yes) fun m v B6 hm _ e6 pv => ev_add (ev_mul (ev_var rfl pv) ev_int (.inr ⟨by decide, by decide⟩)) ev_int
        rw [filter_true] at lc
        rw [List.map_map, List.map_map]
        exact ev_tuple lc
      · rw [filter_true] at pv
        refine rows_lst.mp ?_
        unfold otherL
        rw [List.map_map]
        exact pv
      · -- the answer
        have e15 := e14.trans s5.eb
        have goes := alike_goes pm (by omega)
        refine s_ret (P := dp (.bool true)) s5.bh (ev_call (el_cons (ev_call (P := dp (natsD ((List.range n).map fun k => dn.idxOf k))) (el_cons (ev_make (Fs := tilesF (chainL n)) (el_cons (sE rfl e15) el_nil) fun us B6 e6 pu => ?_) (el_cons (ev_make (Fs := tilesF (otherL dn)) (el_cons (ev_var rfl p5) el_nil) fun us B6 e6 pu => ?_) el_nil)) fun us B6 e6 pu => ?_)
          (el_cons ((ev_lcR (n := n) (fun _ => true) (fun k => dp (.int ((dn.idxOf k : Nat) : Int))) (el_cons (lE rfl e15) el_nil) (by omega) (fun _ => rfl) (fun _ _ _ _ => eb_yes) fun y B6 hy _ e6 => ?_).imp (Pa := dp (natsD ((List.range n).map fun k => dn.idxOf k))) fun B6 v _ pv => ?_) el_nil)) fun us B6 e6 pu => ?_) fun v B6 H6 s6 p6 => ?_
        · obtain ⟨u, rfl, q1⟩ := all2_1 pu
          exact ⟨_, u, rfl, q1, chain_ok n6 n12, rfl⟩
        · obtain ⟨u, rfl, q1⟩ := all2_1 pu
          exact ⟨_, u, rfl, q1, other_ok n6 n12 pm, rfl⟩
        · obtain ⟨u1, u2, rfl, q1, q2⟩ := all2_2 pu
          refine ⟨u1, u2, chainL n, otherL dn, rfl, q1, q2, ?_, by omega, ?_⟩
          · rw [cl]
            unfold otherL
            rw [List.length_map, dl]
          · rw [cl, goes]
            rfl
        · refine ev_indexN (x := y) (ev_var rfl ((lst _).m (s5.eb.trans e6) pD)) (ev_var rfl (.int _)) (idx_at pm hy) fun m z hm hz => fun y' => ?_
          subst y'
          have := idx_of pm hz
          omega
        · rw [filter_true] at pv
          refine nats_dp.mp ?_
          rw [List.map_map]
          exact pv
        · obtain ⟨u1, u2, rfl, q1, q2⟩ := all2_2 pu
          refine ⟨u1, u2, _, rfl, q1, q2, ⟨?_, fun d hd => ?_⟩, rfl⟩
          · rw [List.length_map, List.length_map, List.length_range]
            omega
          · obtain ⟨x, _, rfl⟩ := List.mem_map.mp hd
            exact True.intro
        · cases dp_bl.mp p6
          exact k H6
end
end TL
set_option maxHeartbeats 4000000
/-! the first laying, by tables of ways on and by search -/
namespace TL
open PySem L2
theorem find_filter {α : Type} {p q : Nat → Bool} {g : Nat → α} : ∀ l : List Nat, l.findSome? (fun t => if p t = true then (if q t = true then some (g t) else none) else none) = ((l.filter p).filter q).head?.map g
  | [] => rfl
  | a :: l => by
    rw [List.findSome?_cons, List.filter_cons]
    cases hp : p a with
    | false =>
      rw [if_neg (by decide), if_neg (by decide)]
      exact find_filter l
    | true =>
      rw [if_pos rfl, if_pos rfl, List.filter_cons]
      cases hq : q a with
      | false =>
        rw [if_neg (by decide), if_neg (by decide)]
        exact find_filter l
      | true =>
        rw [if_pos rfl, if_pos rfl]
        rfl
section
variable {rs : List Tile}
abbrev nsO (rs : List Tile) : List (List Nat) := nextsC rs (colsK rs 1)
theorem cols1_len : (colsK rs 1).length = rs.length := by rw [cols1, List.length_map, List.length_range]
theorem cols1_at {k : Nat} (h : k < rs.length) : (colsK rs 1).getD k [] = [k] := getD_of (by rw [cols1, List.getElem?_map, List.getElem?_range h]; rfl)
theorem nsO_at {a : Nat} (h : a < rs.length) : (nsO rs).getD a [] = (List.range rs.length).filter fun t => decide ((gt rs a).e = (gt rs t).w) := by
  refine getD_of ?_
  unfold nsO nextsC
  rw [List.getElem?_map, cols1, List.getElem?_map, List.getElem?_range h]
  show some ((List.range ((List.range rs.length).map fun t => [t]).length).filter _) = _
  rw [List.length_map, List.length_range]
  refine congrArg some (List.filter_congr fun t ht => ?_)
  have e : ((List.range rs.length).map fun t => [t]).getD t [] = [t] := getD_of (by rw [List.getElem?_map, List.getElem?_range (List.mem_range.mp ht)]; rfl)
  rw [e]
  unfold goesOn
  show decide ([(gt rs a).e] = [(gt rs t).w]) = _
  exact decide_eq_decide.mpr ⟨fun z => (List.cons.inj z).1, fun z => by rw [z]⟩
theorem goesL_path : ∀ (r : Nat) {row : List Nat} {a : Nat}, row.getLast? = some a → a < rs.length → goesL rs r row = if pathG (nsO rs) r a = true then some (row ++ pathF (nsO rs) r a) else none
  | 0, row, a, _, _ => by
    show some row = if true = true then some (row ++ []) else none
    rw [if_pos rfl, List.append_nil]
  | r + 1, row, a, hl, ha => by
    show (List.range rs.length).findSome? (tryL (goesL rs r) rs row) = _
    have e : ∀ t ∈ List.range rs.length, tryL (goesL rs r) rs row t = if decide ((gt rs a).e = (gt rs t).w) = true then (if pathG (nsO rs) r t = true then some (row ++ t :: pathF (nsO rs) r t) else none) else none := fun t ht => by
      unfold tryL fitsL
      rw [hl]
      have := goesL_path r (row := row ++ [t]) (a := t) (by simp) (List.mem_range.mp ht)
      rw [this, List.append_assoc]
      rfl
    have e2 : (List.range rs.length).findSome? (tryL (goesL rs r) rs row) = (List.range rs.length).findSome? fun t => if decide ((gt rs a).e = (gt rs t).w) = true then (if pathG (nsO rs) r t = true then some (row ++ t :: pathF (nsO rs) r t) else none) else none := by
      generalize List.range rs.length = l at e
      induction l with
      | nil => rfl
      | cons x l ih =>
        rw [List.findSome?_cons, List.findSome?_cons, e x List.mem_cons_self, ih fun t ht => e t (List.mem_cons_of_mem _ ht)]
    rw [e2, find_filter, ← nsO_at ha]
    have h1 : pathG (nsO rs) (r + 1) a = ((nsO rs).getD a []).any (pathG (nsO rs) r) := rfl
    have h2 : pathF (nsO rs) (r + 1) a = (((nsO rs).getD a []).filter (pathG (nsO rs) r)).headD 0 :: pathF (nsO rs) r ((((nsO rs).getD a []).filter (pathG (nsO rs) r)).headD 0) := rfl
    have h3 := path_any (nsO rs) r a
    rw [h2]
    generalize ((nsO rs).getD a []).filter (pathG (nsO rs) r) = l at h3 ⊢
    cases l with
    | nil =>
      rw [← h3]
      rfl
    | cons j l =>
      rw [← h3]
      rfl
theorem first_goes {wide : Nat} (h : 1 ≤ wide) : firstM (nsO rs) rs.length wide = goesL rs wide [] := by
  obtain ⟨r, rfl⟩ : ∃ r, wide = r + 1 := ⟨wide - 1, by omega⟩
  unfold firstM
  show _ = (List.range rs.length).findSome? (tryL (goesL rs r) rs [])
  rw [Nat.add_sub_cancel]
  have e : ∀ t ∈ List.range rs.length, tryL (goesL rs r) rs [] t = if pathG (nsO rs) r t = true then some (t :: pathF (nsO rs) r t) else none := fun t ht => by
    unfold tryL fitsL
    have := goesL_path r (row := [] ++ [t]) (a := t) (by simp) (List.mem_range.mp ht)
    rw [this]
    rfl
  generalize List.range rs.length = l at e
  induction l with
  | nil => rfl
  | cons x l ih =>
    have ih := ih fun t ht => e t (List.mem_cons_of_mem _ ht)
    rw [List.findSome?_cons, List.find?_cons, e x List.mem_cons_self]
    cases hx : pathG (nsO rs) r x with
    | true => rfl
    | false => exact ih
theorem chain_snoc {row : List Nat} {t : Nat} (h : chainOk rs row) (hf : fitsL rs row t = true) : chainOk rs (row ++ [t]) := fun k hk => by
  rw [List.length_append, List.length_singleton] at hk
  by_cases z : k + 1 < row.length
  · have := h k z
    rw [List.getD_eq_getElem?_getD, List.getD_eq_getElem?_getD, List.getElem?_append_left (by omega), List.getElem?_append_left z, ← List.getD_eq_getElem?_getD, ← List.getD_eq_getElem?_getD]
    exact this
  · have e : k + 1 = row.length := by omega
    have hl : row.getLast? = some (row.getD k 0) := by
      rw [List.getLast?_eq_getElem?, show row.length - 1 = k by omega]
      exact of_getD (by omega)
    unfold fitsL at hf
    rw [hl] at hf
    have hf := of_decide_eq_true hf
    rw [List.getD_eq_getElem?_getD (l := row ++ [t]) (i := k), List.getD_eq_getElem?_getD, List.getElem?_append_left (by omega), List.getElem?_append_right (by omega), ← List.getD_eq_getElem?_getD, e, Nat.sub_self]
    exact hf
theorem goesL_chain : ∀ {r : Nat} {row L : List Nat}, chainOk rs row → goesL rs r row = some L → chainOk rs L
  | 0, row, L, h, e => by cases e; exact h
  | r + 1, row, L, h, e => by
    obtain ⟨t, _, e⟩ := List.exists_of_findSome?_eq_some e
    unfold tryL at e
    split at e
    · rename_i hf
      exact goesL_chain (chain_snoc h hf) e
    · cases e
end
end TL
set_option maxHeartbeats 4000000
namespace TL
open PySem L2
section
variable {K : PySem.W.Frag} {σ : L2.St} {B H : Hp} {ta tb tc te : TE} {tlo thi : TO} {p : Addr} {P R : VP}
theorem all2_drop' {B : Hp} : ∀ (n : Nat) {vs : List V} {Ps : List VP}, all2 B vs Ps → all2 B (vs.drop n) (Ps.drop n)
  | 0, _, _, h => h
  | n + 1, [], [], _ => True.intro
  | n + 1, _ :: vs, _ :: Ps, ⟨_, h⟩ => all2_drop' n (vs := vs) (Ps := Ps) h
  | n + 1, [], _ :: _, h => h.elim
  | n + 1, _ :: _, [], h => h.elim
theorem all2_take' {B : Hp} : ∀ (n : Nat) {vs : List V} {Ps : List VP}, all2 B vs Ps → all2 B (vs.take n) (Ps.take n)
  | 0, _, _, _ => True.intro
  | n + 1, [], [], _ => True.intro
  | n + 1, _ :: vs, _ :: Ps, ⟨h1, h⟩ => ⟨h1, all2_take' n (vs := vs) (Ps := Ps) h⟩
  | n + 1, [], _ :: _, h => h.elim
  | n + 1, _ :: _, [], h => h.elim
/-- a part of a slice: left out, or a number -/
def EvO (t : TO) (σ : L2.St) (B : Hp) (o : Option Int) : Prop := ∀ H, Ex B H → ∀ Q : Option Int → Hp → Prop, (∀ B' H', Step B H B' H' → Q o H') → t σ H Q
theorem eo_none : EvO tNoPart σ B none := fun H e Q q => q B H (Step.refl e)
theorem eo_some {i : Int} (h : EvP te σ B (dp (.int i))) : EvO (tPart te) σ B (some i) := fun H e Q q => h H e _ fun v B' H' s p => ⟨i, dp_int.mp p, q B' H' s⟩
theorem EvO.mono {t : TO} {o : Option Int} {B1 : Hp} (h : EvO t σ B o) (e : Ex B B1) : EvO t σ B1 o := fun H e1 Q q => h H (e.trans e1) Q fun B' H' s => by
  obtain ⟨B2, e2, s2⟩ := s.widen e e1
  exact q B2 H' s2
theorem ev_slT {Ps Rs : List VP} {lo hi : Option Int} (ha : EvP ta σ B (tup Ps)) (hl : EvO tlo σ B lo) (hh : EvO thi σ B hi) (hr : (Ps.drop (HT.sIx Ps.length 0 lo)).take (HT.sIx Ps.length Ps.length hi - HT.sIx Ps.length 0 lo) = Rs) : EvP (tSl (rSlA K) ta tlo thi) σ B (tup Rs) := fun H e Q q => ha H e _ fun x B1 H1 s1 p1 => hl.mono s1.eb H1 s1.bh _ fun B2 H2 s2 => by
  have s12 := s1.trans s2
  refine hh.mono s12.eb H2 s12.bh _ fun B3 H3 s3 => ?_
  have s13 := s12.trans s3
  obtain ⟨a, xs, rfl, h1, h2⟩ := (tup Ps).m (s2.eb.trans s3.eb) p1
  have len := all2_len h2
  have all : all2 B3 (cutV xs lo hi) Rs := by
    rw [← hr]
    unfold cutV
    rw [len]
    exact all2_take' _ (all2_drop' _ h2)
  refine ⟨a, xs, rfl, SqT.of (s13.bh _ _ h1), fun ⟨z1, z2⟩ => q _ B3 H3 s13 ⟨a, xs, rfl, h1, ?_⟩, fun _ p hp => q _ _ _ (s13.trans (Step.new s13.bh hp)) ⟨p, _, rfl, upd_same, all2_m (Ex.new (s13.bh.none hp)) all⟩⟩
  unfold cutV at all
  rw [z1, z2, List.drop_zero, Nat.sub_zero, List.take_length] at all
  exact all
/-! ### calls that may let TooMany out, where they do not -/
theorem ev_columns {E : XK} {high : Nat} {rs : List Tile} (ha : EvP ta σ B (tilesV K rs)) (hb : EvP tb σ B (dp (.int (high : Nat)))) (h200 : rs.length ≤ 200) (h1 : 1 ≤ high) (h12 : high ≤ 12) (few : fewK rs high) : EvP (tCall (spColumns K) [] E (tCons ta (tCons tb tNil))) σ B (dp (colsD (colsK rs high))) := fun H e Q q =>
  el_cons ha (el_cons hb el_nil) H e _ fun vs B1 H1 s1 pv => by
    obtain ⟨u1, u2, rfl, q1, q2⟩ := all2_2 pv
    cases dp_int.mp q2
    exact ⟨B1, rs, u1, high, s1.bh, rfl, q1, h200, h1, h12, fun _ v B2 H2 s2 p2 => q v B2 H2 (s1.trans s2) p2, fun nf => absurd few nf⟩
theorem ev_counts {E : XK} {high wide : Nat} {rs : List Tile} (ha : EvP ta σ B (tilesV K rs)) (hb : EvP tb σ B (dp (.int (high : Nat)))) (hc : EvP tc σ B (dp (.int (wide : Nat)))) (h200 : rs.length ≤ 200) (h1 : 1 ≤ high ∧ high ≤ 12) (h2 : 1 ≤ wide ∧ wide ≤ 12) (few : fewK rs high) :
    EvP (tCall (spCounts K) [] E (tCons ta (tCons tb (tCons tc tNil)))) σ B (dp (.int (countsM (colsK rs high).length (nextsC rs (colsK rs high)) wide))) := fun H e Q q =>
  el_cons ha (el_cons hb (el_cons hc el_nil)) H e _ fun vs B1 H1 s1 pv => by
    obtain ⟨u1, u2, u3, rfl, q1, q2, q3⟩ := all2_3 pv
    cases dp_int.mp q2
    cases dp_int.mp q3
    exact ⟨B1, rs, u1, high, wide, s1.bh, rfl, q1, h200, h1, h2, fun _ B2 H2 s2 => q _ B2 H2 (s1.trans s2) (.int _), fun nf => absurd few nf⟩
theorem ev_around {E : XK} {high wide : Nat} {rs : List Tile} (ha : EvP ta σ B (tilesV K rs)) (hb : EvP tb σ B (dp (.int (high : Nat)))) (hc : EvP tc σ B (dp (.int (wide : Nat)))) (h200 : rs.length ≤ 200) (h1 : 1 ≤ high ∧ high ≤ 12) (h2 : 1 ≤ wide ∧ wide ≤ 12) (few : fewK rs high) :
    EvP (tCall (spAround K) [] E (tCons ta (tCons tb (tCons tc tNil)))) σ B (dp (.int (aroundM (colsK rs high).length (nextsC rs (colsK rs high)) wide))) := fun H e Q q =>
  el_cons ha (el_cons hb (el_cons hc el_nil)) H e _ fun vs B1 H1 s1 pv => by
    obtain ⟨u1, u2, u3, rfl, q1, q2, q3⟩ := all2_3 pv
    cases dp_int.mp q2
    cases dp_int.mp q3
    exact ⟨B1, rs, u1, high, wide, s1.bh, rfl, q1, h200, h1, h2, fun _ B2 H2 s2 => q _ B2 H2 (s1.trans s2) (.int _), fun nf => absurd few nf⟩
/-! ### the tables of code objects -/
abbrev ExtT (T : List (Addr × Str)) (H H1 : Hp) : Prop := ∀ b o, H b = some o → (∀ q ∈ T, q.1 ≠ b) → H1 b = some o
/-- the tables stand, and the base knows nothing of them -/
structure TbS (T : List (Addr × Str)) (B H : Hp) : Prop where
  tb : LamX.Tabs T H
  th : ∀ q ∈ T, B q.1 = none
theorem TbS.at_ {T : List (Addr × Str)} (t : TbS T B H) {q : Addr × Str} (h : q ∈ T) : H q.1 ≠ none := fun z => by
  obtain ⟨ps, h1, _⟩ := t.tb q h
  rw [z] at h1
  cases h1
theorem TbS.step {T : List (Addr × Str)} {B' H' : Hp} (t : TbS T B H) (s : Step B H B' H') : TbS T B' H' := ⟨t.tb.ext s.eh, fun q h => s.hid _ (t.at_ h) (t.th q h)⟩
theorem TbS.stepX {T : List (Addr × Str)} {B' H' : Hp} (t : TbS T B H) (d : DS K p B H) (s : StepX p B H B' H') : TbS T B' H' := by
  obtain ⟨_, _, _, _, _, _, xs, hp, _⟩ := d
  have ne : ∀ q ∈ T, q.1 ≠ p := fun q h z => by
    obtain ⟨ps, h1, _⟩ := t.tb q h
    rw [z, hp] at h1
    cases h1
  refine ⟨fun q h => ?_, fun q h => s.hid _ (ne q h) (t.at_ h) (t.th q h)⟩
  obtain ⟨ps, h1, h2, h3⟩ := t.tb q h
  refine ⟨ps, s.eh _ _ (ne q h) h1, h2, fun pos cv hc => ?_⟩
  obtain ⟨c, e1, e2⟩ := h3 pos cv hc
  refine ⟨c, e1, s.eh _ _ (fun z => ?_) e2⟩
  rw [z, hp] at e2
  unfold LamX.CodeO at e2
  cases e2
theorem q_split {tu tz : TS} {D : Ends} (I : L2.St → Hp → Prop) (h1 : ∀ D' : Ends, D'.rt = D.rt → (∀ σ' H', I σ' H' → D'.nx σ' H') → tu D' σ H) (h2 : ∀ σ' H', I σ' H' → tz D σ' H') : tSeq tu tz D σ H := h1 { D with nx := tz D } rfl h2
structure WorksPre (K : PySem.W.Frag) (T : List (Addr × Str)) (σ : L2.St) (H : Hp) : Prop where
  ex : ∃ B x rs high wide, Ex B H ∧ σ[3]? = some (some x) ∧ σ[9]? = some (some (.int ((high : Nat) : Int))) ∧ σ[10]? = some (some (.int ((wide : Nat) : Int))) ∧ (tilesV K rs).p B x ∧ rs.length ≤ 200 ∧ (1 ≤ high ∧ high ≤ 12) ∧ (1 ≤ wide ∧ wide ≤ 12) ∧ ¬ fewK rs high ∧ TbS T B H
def tWorks (K : PySem.W.Frag) (T : List (Addr × Str)) : TS := fun D σ H => WorksPre K T σ H ∧ ∀ v H1, ExtT T H H1 → D.nx (σ.set 11 (some v)) H1
end
section
variable {P : Program} {w : World} {K : PySem.W.Frag} {mg : Str → Option Value} {base : Heap} {f : Addr} {fd : FuncData}
abbrev s_law : Stmt := top 55
abbrev N_law : List Str := ["_law_script", "_law_d", "_law_rows", "_law_tiles", "_law_due", "_law_singles", "_law_first_here", "_law_found", "_law_text", "_law_high", "_law_wide", "_law_works", "_law_steps_here", "_law_row", "_law_work", "_law_mark"]
abbrev P_law : List Str := ["_law_script"]
theorem sc_law : FnScope N_law P_law (defScope s_law) := ⟨rfl, rfl, rfl, by decide +kernel, rfl, by decide +kernel, by decide +kernel⟩
def worksS : List Stmt := match (defBody s_law).getD 5 (.Pass ⟨0, 0, 0, 0⟩) with
  | .If _ b _ _ => b
  | _ => []
abbrev spLaw (K : PySem.W.Frag) (TL : List (Addr × Str)) : Sp := fun vs H Q _ => ∃ (a : Addr) (ns : List Int), vs = [.ref a] ∧ SqL K H a (ns.map V.int) ∧ LamX.Tabs TL H ∧ ∀ H', Q (.bl true) H'
theorem ok_law {dV kV doc pm ct oc : Value} {an od : Option Addr} {osl : Array (Option Value)} {c : Addr} (T : TB mg) (TL : List (Addr × Str)) (h_works : ∀ A outer s H E, Room 16 (cxOf (L2.CX P w) P w K mg base N_law "law" (defScope s_law) f (.ref c) A outer s H E).A → PSs (cxOf (L2.CX P w) P w K mg base N_law "law" (defScope s_law) f (.ref c) A outer s H E) worksS (tWorks K TL))
  (c__law_dice : Cl P w K mg base CX0 1 "_law_dice" (spDice K)) (c__law_many : Cl P w K mg base CX0 2 "_law_many" (spWMany K)) (c_Tiles : Mr P w K mg base CX0 1 "Tiles" (ca K "Tiles") (spTilesI K))
  (c__law_next : Cl P w K mg base CX0 1 "_law_next" (spNext K)) (c__law_columns_of : Cl P w K mg base CX0 1 "_law_columns_of" spColsOf) (c__law_steps : Cl P w K mg base CX0 1 "_law_steps" spSteps)
  (c__law_like : Cl P w K mg base CX0 4 "_law_like" (spLike 2)) (c_columns : Cl P w K mg base (L2.CX P w) 2 "columns" (spColumns K)) (c_counts : Cl P w K mg base (L2.CX P w) 5 "counts" (spCounts K)) (c_around : Cl P w K mg base (L2.CX P w) 5 "around" (spAround K))
  (c__law_counted : Cl P w K mg base CX0 1 "_law_counted" spCounted) (c__law_rings : Cl P w K mg base CX0 1 "_law_rings" spRings) (c__law_first : Cl P w K mg base CX0 1 "_law_first" spFirst) (c_laid : Cl P w K mg base CX0 8 "laid" (spLaid K))
  (c_is_laid : Cl P w K mg base CX0 2 "is_laid" (spIsLaid K)) (c_fillings : Cl P w K mg base CX0 5 "fillings" (spFillings K)) (c_lean : Cl P w K mg base CX0 3 "lean" (spLean K)) (c__law_lean : Cl P w K mg base CX0 1 "_law_lean" spWLean)
  (c_turned : Cl P w K mg base CX0 3 "turned" (spTurned K)) (c_mirrored : Cl P w K mg base CX0 3 "mirrored" (spMirrored K)) (m_Tiles_tiles : Mt P w K mg base CX0 1 (ca K "Tiles") "tiles" (spTiles K)) (c_written : Cl P w K mg base CX0 2 "written" (spWritten K))
  (c_read : Cl P w K mg base CX0 3 "read" (spRead K)) (c__law_alike : Cl P w K mg base CX0 16 "_law_alike" (spAlike K))
  (lk : K.lookup f = some ⟨oc, od, .func (PySem.W.fnOf "law" "law" (defArgs s_law) (defBody s_law) (defScope s_law) dV kV doc pm an (.ref c) ct), osl⟩) (hcd : PySem.W.codeIn K (.ref c) "law" = true) :
    FnOk P w K mg base (L2.CX P w) 17 f (PySem.W.fnOf "law" "law" (defArgs s_law) (defBody s_law) (defScope s_law) dV kV doc pm an (.ref c) ct) P_law (spLaw K TL) := by
  refine fn_of lk hcd sc_law (fun vs H Q E h => ?_) (fun A outer s H vs Q E hr h => ?_)
  · obtain ⟨a, ns, rfl, _⟩ := h
    rfl
  · obtain ⟨a, ns, rfl, hsq, htb, k⟩ := h
    have h_works := h_works A outer s H E hr
    have hu := hu_of hr
    refine ⟨_, (pss_cons (ps_set (i := 1) sc_law.nd rfl (Or.inl rfl) (pe_cl c__law_dice hr (by omega) rfl pass0 (pa_cons (pv 0) pa_nil)))
      (pss_cons (ps_set (i := 2) sc_law.nd rfl (Or.inl rfl) (pe_cl c__law_many hr (by omega) rfl pass0 (pa_cons (pv 1) pa_nil)))
      (pss_cons (ps_set (i := 3) sc_law.nd rfl (Or.inr rfl) (pe_mr c_Tiles hr (by omega) rfl pass0 (pa_cons (pe_callTy (kcall_list (K := K) rfl) (by rfl) T.list (by decide +kernel) (pa_cons (pv 2) pa_nil)) pa_nil)))
      (pss_cons (ps_asg (pe_tup (pa_cons (pe_op op_add pe_int (pe_cl c__law_next hr (by omega) rfl pass0 (pa_cons (pv 1) (pa_cons pe_int pa_nil)))) (pa_cons (pe_op op_add pe_int (pe_cl c__law_next hr (by omega) rfl pass0 (pa_cons (pv 1) (pa_cons pe_int pa_nil)))) pa_nil))) (pg_tup rfl (pgs_cons (pg_name (i := 9) sc_law.nd rfl (Or.inr rfl)) (pgs_cons (pg_name (i := 10) sc_law.nd rfl (Or.inr rfl)) pgs_nil))))
      (pss_cons (ps_set (i := 4) sc_law.nd rfl (Or.inl rfl) (pe_cl c__law_columns_of hr (by omega) rfl pass0 (pa_cons (pv 2) (pa_cons (pv 9) pa_nil))))
      (pss_cons (ps_if (pt_cmpR op_gt (pe_callB (kcall_len (K := K) rfl) (by rfl) T.len PySem.boot_len (pa_cons (pv 4) pa_nil)) pe_int (nomark _)) h_works (pss_cons (ps_set (i := 12) sc_law.nd rfl (Or.inl rfl) (pe_cl c__law_steps hr (by omega) rfl pass0 (pa_cons (pv 2) (pa_cons (pv 4) (pa_cons (pv 4) pa_nil)))))
      (pss_cons (ps_if (PW.pt (pw_or (pt_not (pt_val (pe_cl c__law_like hr (by omega) rfl pass0 (pa_cons (pe_cl c_columns hr (by omega) rfl (passes_call (takes_of rfl rfl rfl rfl) (fun _ _ _ _ h => h)) (pa_cons (pv 3) (pa_cons (pv 9) pa_nil))) (pa_cons (pv 4) pa_nil))))) (pw_or1 (pt_cmpR op_ne (pe_cl c_counts hr (by omega) rfl (passes_call (takes_of rfl rfl rfl rfl) (fun _ _ _ _ h => h)) (pa_cons (pv 3) (pa_cons (pv 9) (pa_cons (pv 10) pa_nil)))) (pe_cl c__law_counted hr (by omega) rfl pass0 (pa_cons (pv 12) (pa_cons (pv 10) pa_nil))) (nomark _))))) (pss_one (ps_ret pe_bl)) pss_nil)
      (pss_one (ps_if (PW.pt (pw_and (pt_cmpR op_lt (pe_callB (kcall_len (K := K) rfl) (by rfl) T.len PySem.boot_len (pa_cons (pv 4) pa_nil)) pe_int (nomark _)) (pw_and (pt_cmpR op_lt (pv 10) pe_int (nomark _)) (pw_and1 (pt_cmpR op_ne (pe_cl c_around hr (by omega) rfl (passes_call (takes_of rfl rfl rfl rfl) (fun _ _ _ _ h => h)) (pa_cons (pv 3) (pa_cons (pv 9) (pa_cons (pv 10) pa_nil)))) (pe_cl c__law_rings hr (by omega) rfl pass0 (pa_cons (pv 12) (pa_cons (pv 10) pa_nil))) (nomark _)))))) (pss_one (ps_ret pe_bl)) pss_nil)))))
      (pss_cons (ps_set (i := 5) sc_law.nd rfl (Or.inl rfl) (pe_cl c__law_columns_of hr (by omega) rfl pass0 (pa_cons (pv 2) (pa_cons pe_int pa_nil))))
      (pss_cons (ps_set (i := 6) sc_law.nd rfl (Or.inl rfl) (pe_cl c__law_first hr (by omega) rfl pass0 (pa_cons (pe_cl c__law_steps hr (by omega) rfl pass0 (pa_cons (pv 2) (pa_cons (pv 5) (pa_cons (pv 5) pa_nil)))) (pa_cons (pv 10) pa_nil))))
      (pss_cons (ps_set (i := 7) sc_law.nd rfl (Or.inl rfl) (pe_cl c_laid hr (by omega) rfl pass0 (pa_cons (pv 3) (pa_cons pe_int (pa_cons (pv 10) pa_nil)))))
      (pss_cons (ps_if (PW.pt (pw_or (pt_not (pt_val (pe_cl c__law_like hr (by omega) rfl pass0 (pa_cons (pv 7) (pa_cons (pv 6) pa_nil))))) (pw_or1 (PW.pt (pw_and (pt_cmp (pc_notN (pv 6))) (pw_and1 (pt_not (pt_val (pe_cl c_is_laid hr (by omega) rfl pass0 (pa_cons (pv 3) (pa_cons (pv 7) pa_nil))))))))))) (pss_one (ps_ret pe_bl)) pss_nil)
      (pss_cons (ps_if (PW.pt (pw_or (pt_cmpR op_ne (pe_cl c_fillings hr (by omega) rfl pass0 (pa_cons (pv 3) (pa_cons pe_int (pa_cons pe_int (pa_cons pe_dnewT pa_nil))))) (pe_callB (kcall_len (K := K) rfl) (by rfl) T.len PySem.boot_len (pa_cons (pv 2) pa_nil)) (nomark _)) (pw_or1 (pt_not (pt_val (pe_cl c__law_like hr (by omega) rfl pass0 (pa_cons (pe_cl c_lean hr (by omega) rfl pass0 (pa_cons (pv 3) pa_nil)) (pa_cons (pe_cl c__law_lean hr (by omega) rfl pass0 (pa_cons (pv 2) pa_nil)) pa_nil)))))))) (pss_one (ps_ret pe_bl)) pss_nil)
      (pss_cons (ps_if (pt_cmpR (kop_neD (K := K) rfl hr.units) (pe_ml0 m_Tiles_tiles hr (by omega) pass0 (pe_cl c_turned hr (by omega) rfl pass0 (pa_cons (pv 3) pa_nil))) (pe_lc (own := [("_law_row", 13)]) (g := gName 13) (tt := tYes) rfl sc_law.nd (kpi_list (K := K) rfl (pv 2)) (blkOk_by (N := N_law) (sc := defScope s_law) (by decide +kernel)) (fun _ _ _ _ _ => pg_name (i := 13) sc_law.nd rfl (Or.inl rfl)) (fun _ _ _ _ _ => pts_nil) (fun _ _ _ _ _ => (pe_op (kop_cat (K := K) rfl) (pe_slice (ksl_tup (K := K) rfl) (pv 13) (po_some pe_int) po_none) (pe_slice (ksl_tup (K := K) rfl) (pv 13) po_none (po_some pe_int))))) (nomark _)) (pss_one (ps_ret pe_bl)) pss_nil)
      (pss_cons (ps_if (pt_cmpR (kop_neD (K := K) rfl hr.units) (pe_ml0 m_Tiles_tiles hr (by omega) pass0 (pe_cl c_mirrored hr (by omega) rfl pass0 (pa_cons (pv 3) pa_nil))) (pe_lc (own := [("_law_row", 13)]) (g := gName 13) (tt := tYes) rfl sc_law.nd (kpi_list (K := K) rfl (pv 2)) (blkOk_by (N := N_law) (sc := defScope s_law) (by decide +kernel)) (fun _ _ _ _ _ => pg_name (i := 13) sc_law.nd rfl (Or.inl rfl)) (fun _ _ _ _ _ => pts_nil) (fun _ _ _ _ _ => (pe_tup (pa_cons (pe_ix (kix_tup (K := K) rfl) (pv 13) pe_int (fun _ _ => rfl)) (pa_cons (pe_ix (kix_tup (K := K) rfl) (pv 13) pe_int (fun _ _ => rfl)) (pa_cons (pe_ix (kix_tup (K := K) rfl) (pv 13) pe_int (fun _ _ => rfl)) (pa_cons (pe_ix (kix_tup (K := K) rfl) (pv 13) pe_int (fun _ _ => rfl)) pa_nil))))))) (nomark _)) (pss_one (ps_ret pe_bl)) pss_nil)
      (pss_cons (ps_set (i := 8) sc_law.nd rfl (Or.inl rfl) (kjoin (K := K) rfl pe_str (pe_lc (own := [("_law_row", 13)]) (g := gName 13) (tt := tYes) rfl sc_law.nd (kpi_list (K := K) rfl (pv 2)) (blkOk_by (N := N_law) (sc := defScope s_law) (by decide +kernel)) (fun _ _ _ _ _ => pg_name (i := 13) sc_law.nd rfl (Or.inl rfl)) (fun _ _ _ _ _ => pts_nil) (fun _ _ _ _ _ => (kjoin (K := K) rfl pe_str (pe_lc (own := [("_law_mark", 15)]) (g := gName 15) (tt := tYes) rfl sc_law.nd (kpi_tup (K := K) rfl (pv 13)) (blkOk_by (by kernel_rfl)) (fun _ _ _ _ _ => pg_name (i := 15) sc_law.nd rfl (Or.inl rfl)) (fun _ _ _ _ _ => pts_nil) (fun _ _ _ _ _ => (pe_callTy call_str_int (by rfl) T.str (by decide +kernel) (pa_cons (pv 15) pa_nil)))))))))
      (pss_one (ps_ret (pe_and (pe_cmpR op_eq (pe_cl c_written hr (by omega) rfl pass0 (pa_cons (pv 3) pa_nil)) (pv 8) (nomark _)) (pe_and (pe_cmpR (kop_eqD (K := K) rfl hr.units) (pe_ml0 m_Tiles_tiles hr (by omega) pass0 (pe_cl c_read hr (by omega) rfl pass0 (pa_cons (pv 8) pa_nil))) (pv 2) (nomark _)) (pe_one (pe_cl c__law_alike hr (by omega) rfl pass0 (pa_cons (pv 1) pa_nil))))))))))))))))))))), ?_⟩
    obtain ⟨B0, e0, hs0, ht0⟩ : ∃ B0 : Hp, Ex B0 H ∧ (sqI K ns).p B0 (.ref a) ∧ ∀ q ∈ TL, B0 q.1 = none := by
      have tbl : ∀ q ∈ TL, ∃ ps, H q.1 = some (.tbl ps) := fun q hq => (htb q hq).imp fun ps h => h.1
      rcases hsq with (h | ⟨o, h⟩) | h
      · refine ⟨upd (fun _ => none) a (.lst (ns.map V.int)), ex_show (fun _ _ z => by cases z) h, ⟨a, rfl, .inl (.inl upd_same)⟩, fun q hq => ?_⟩
        obtain ⟨ps, h1⟩ := tbl q hq
        rw [upd_ne (fun z => by rw [z, h] at h1; cases h1)]
      · refine ⟨upd (fun _ => none) a (.frz o (.lst (ns.map V.int))), ex_show (fun _ _ z => by cases z) h, ⟨a, rfl, .inl (.inr ⟨o, upd_same⟩)⟩, fun q hq => ?_⟩
        obtain ⟨ps, h1⟩ := tbl q hq
        rw [upd_ne (fun z => by rw [z, h] at h1; cases h1)]
      · exact ⟨fun _ => none, (fun _ _ z => by cases z), ⟨a, rfl, .inr h⟩, fun _ _ => rfl⟩
    -- _law_d
    refine q ⟨_, rfl, B0, _, ns, rfl, e0, hs0, fun p B1 H1 hp s1 d1 => ?_⟩
    have t1 : TbS TL B1 H1 := TbS.step ⟨htb, ht0⟩ s1
    dsimp only
    -- _law_rows
    refine q ⟨_, rfl, B1, p, rfl, s1.bh, d1, fun v2 B2 H2 s2 d2 p2 => ?_⟩
    obtain ⟨rs, okr, pr⟩ := p2
    have t2 := t1.stepX d1 s2
    have h200 := okr.2.1
    have h1l := okr.1
    dsimp only
    have rE2 : ∀ {σ : L2.St} {B' : Hp}, σ[2]? = some (some v2) → Ex B2 B' → EvP (tVar 2) σ B' (dp (rowsD rs)) := fun h e => ev_var h ((dp _).m e pr)
    -- _law_tiles
    refine q_asg s2.bh (ev_make (Fs := tilesF rs) (el_cons (ev_listD (rE2 rfl (Ex.refl _))) el_nil) fun us B' e' pu => ?_) fun v3 B3 H3 s3 p3 => ?_
    · obtain ⟨u, rfl, q1⟩ := all2_1 pu
      exact ⟨rs, u, rfl, q1, okr, rfl⟩
    have d3 := d2.step s3
    have t3 := t2.step s3
    -- _law_high, _law_wide
    let rV : Nat → VP := fun m => ⟨fun _ v => ∃ n : Nat, 1 ≤ n ∧ n ≤ m ∧ v = .int (n : Int), fun _ h => h⟩
    have one : ∀ {σ : L2.St} {B' : Hp} {m : Nat}, σ[1]? = some (some (.ref p)) → 0 < m → m < 1000 → EvD K p (tOp (rI0 fun i j => .int (i + j)) (tC (.int 1)) (tCall (spNext K) [] E0 (tCons (tVar 1) (tCons (tC (.int (m : Nat))) tNil)))) σ B' (rV m) := fun {σ B' m} h m0 m1 =>
      evd_op (Pa := dp (.int 1)) (Pb := rgN m) ev_int.d (evd_next (ev_var h rfl) ev_int m0 (by omega)) fun B' x y _ hx hy H' e' Q' q' => by
        cases dp_int.mp hx
        obtain ⟨n, hn, rfl⟩ := hy
        exact ⟨1, (n : Int), rfl, rfl, q' _ B' H' (Step.refl e') ⟨1 + n, by omega, by omega, congrArg V.int (show (1 : Int) + (n : Int) = ((1 + n : Nat) : Int) by omega)⟩⟩
    refine q (s_asg2D (P1 := rV 2) (P2 := rV 4) s3.bh d3 (eld_cons (one (m := 2) rfl (by decide) (by decide)) (eld_cons (one (m := 4) rfl (by decide) (by decide)) eld_nil)) fun vh vw B4 H4 s4 d4 ph pw => ?_)
    obtain ⟨high, hh1, hh2, rfl⟩ := ph
    obtain ⟨wide, hw1, hw4, rfl⟩ := pw
    have t4 := t3.stepX d3 s4
    have e24 := s3.eb.trans s4.eb
    have p4 := (tilesV K rs).m s4.eb p3
    dsimp only
    have rE : ∀ {σ : L2.St} {B' : Hp}, σ[2]? = some (some v2) → Ex B4 B' → EvP (tVar 2) σ B' (dp (rowsD rs)) := fun h e => rE2 h (e24.trans e)
    have tE : ∀ {σ : L2.St} {B' : Hp}, σ[3]? = some (some v3) → Ex B4 B' → EvP (tVar 3) σ B' (tilesV K rs) := fun h e => ev_var h ((tilesV K rs).m e p4)
    have colsOk := fun c (hc : c ∈ colsK rs high) => colsK_ok rs high c hc
    -- _law_due
    refine q_asg (P := dp (colsD (colsK rs high))) s4.bh (ev_call (el_cons (rE rfl (Ex.refl _)) (el_cons (ev_var rfl (P := dp (.int (high : Nat))) (.int _)) el_nil)) fun us B' e' pu => ?_) fun v5 B5 H5 s5 p5 => ?_
    · obtain ⟨u1, u2, rfl, q1, q2⟩ := all2_2 pu
      cases dp_int.mp q2
      exact ⟨u1, high, rs, rfl, q1, by omega, h200, rfl⟩
    have d5 := d4.step s5
    have t5 := t4.step s5
    have lenDue : ∀ {σ : L2.St} {B' : Hp}, σ[4]? = some (some v5) → Ex B5 B' → EvP (tCB (rLenS K) (tCons (tVar 4) tNil)) σ B' (dp (.int ((colsK rs high).length : Nat))) := fun h e => (ev_lenLd (ev_var h ((dp _).m e p5))).to (by rw [List.length_map])
    have c1 : (colsK rs 1).length ≤ 200 := by rw [cols1_len]; exact h200
    refine q_split (fun σ' H' => ∃ B6 x11 x12, Ex B5 B6 ∧ Ex B6 H' ∧ DS K p B6 H' ∧ σ' = [some (.ref a), some (.ref p), some v2, some v3, some v5, none, none, none, none, some (.int (high : Nat)), some (.int (wide : Nat)), x11, x12, none, none, none]) (fun D' hD' hn => ?_) ?_
    · -- the branch
      refine s_if s5.bh (eb_test (ev_gt (lenDue rfl (Ex.refl _)) ev_int)) (fun hb B6 H6 s6 => ?_) fun hb B6 H6 s6 => ?_
      · have hb := of_decide_eq_true hb
        have t6 := t5.step s6
        have d6 := d5.step s6
        have notfew : ¬ fewK rs high := fun z => by
          have := z high (Nat.le_refl _)
          omega
        refine ⟨⟨B6, v3, rs, high, wide, s6.bh, rfl, rfl, rfl, (tilesV K rs).m (s5.eb.trans s6.eb) p4, h200, ⟨by omega, by omega⟩, ⟨by omega, by omega⟩, notfew, t6⟩, fun v H7 e7 => hn _ _ ?_⟩
        have nb : ∀ b o, B6 b = some o → ∀ q ∈ TL, q.1 ≠ b := fun b o h q hq z => by
          have := t6.th q hq
          rw [z, h] at this
          cases this
        have e67 : Ex B6 H7 := fun b o h => e7 b o (s6.bh _ _ h) (nb b o h)
        refine ⟨B6, _, _, s6.eb, e67, ?_, rfl⟩
        obtain ⟨scr, i1, i2, i3, hi, hb1, xs, hx, hal⟩ := d6
        refine ⟨scr, i1, i2, i3, hi, hb1, xs, e7 p _ hx (fun q hq z => ?_), hal⟩
        obtain ⟨ps, h1, _⟩ := t6.tb q hq
        rw [z, hx] at h1
        cases h1
      · have hb := of_decide_eq_false hb
        have few : fewK rs high := fun i hi => by
          have : i = 0 ∨ i = 1 ∨ i = high := by omega
          rcases this with rfl | rfl | rfl
          · show ([[]] : List (List Nat)).length ≤ 500
            decide
          · omega
          · omega
        have l500 : (colsK rs high).length ≤ 500 := few high (Nat.le_refl _)
        have okn := nextsC_ok rs (colsK rs high)
        have d6 := d5.step s6
        have e46 := s5.eb.trans s6.eb
        have p6 : (dp (colsD (colsK rs high))).p B6 v5 := (dp _).m s6.eb p5
        -- _law_steps_here
        refine q_asg (P := dp (nextsD (nextsC rs (colsK rs high)))) s6.bh (ev_call (el_cons (rE rfl e46) (el_cons (ev_var rfl p6) (el_cons (ev_var rfl p6) el_nil))) fun us B' e' pu => ?_) fun v7 B7 H7 s7 p7 => ?_
        · obtain ⟨u1, u2, u3, rfl, q1, q2, q3⟩ := all2_3 pu
          exact ⟨u1, u2, u3, rs, colsK rs high, rfl, q1, q2, q3, l500, fun c hc => ⟨by have := (colsOk c hc).1; omega, (colsOk c hc).2⟩, rfl⟩
        have e47 := e46.trans s7.eb
        have hE : ∀ {σ : L2.St} {B' : Hp}, σ[9]? = some (some (.int (high : Nat))) → EvP (tVar 9) σ B' (dp (.int (high : Nat))) := fun h => ev_var h (.int _)
        have wE : ∀ {σ : L2.St} {B' : Hp}, σ[10]? = some (some (.int (wide : Nat))) → EvP (tVar 10) σ B' (dp (.int (wide : Nat))) := fun h => ev_var h (.int _)
        have likeOk : okL 2 (colsD (colsK rs high)) := ⟨by rw [List.length_map]; omega, fun d hd => by
          obtain ⟨c, hc, rfl⟩ := List.mem_map.mp hd
          refine ⟨by rw [List.length_map]; have := (colsOk c hc).1; omega, fun d hd => ?_⟩
          obtain ⟨x, _, rfl⟩ := List.mem_map.mp hd
          exact True.intro⟩
        refine q_skip s7.bh ((eb_or (a := false) (b := false) (eb_not (a := true) (eb_B (ev_call (el_cons (ev_columns (tE rfl e47) (hE rfl) h200 (by omega) (by omega) few) (el_cons (ev_var rfl ((dp _).m s7.eb p6)) el_nil)) fun us B' e' pu => ?_))) fun _ => (eb_test (ev_ne (ev_counts (tE rfl e47) (hE rfl) (wE rfl) h200 ⟨by omega, by omega⟩ ⟨by omega, by omega⟩ few) (ev_call (P := dp (.int (countsM (colsK rs high).length (nextsC rs (colsK rs high)) wide))) (el_cons (ev_var rfl p7) (el_cons (wE rfl) el_nil)) fun us B' e' pu => ?_))).to (by rw [dT rfl]; rfl)).to rfl) fun B8 H8 s8 => ?_
        · obtain ⟨u1, u2, rfl, q1, q2⟩ := all2_2 pu
          exact ⟨u1, u2, _, rfl, q1, q2, likeOk, rfl⟩
        · obtain ⟨u1, u2, rfl, q1, q2⟩ := all2_2 pu
          cases dp_int.mp q2
          exact ⟨u1, _, _, wide, rfl, q1, okn, l500, by omega, by omega, rfl⟩
        have e48 := e47.trans s8.eb
        refine s_skip s8.bh ((eb_and (a := decide (((colsK rs high).length : Int) < 120)) (b := false) (eb_test (ev_lt (lenDue rfl (s6.eb.trans (s7.eb.trans s8.eb))) ev_int)) fun _ => (eb_and (a := decide ((wide : Int) < 4)) (b := false) (eb_test (ev_lt (wE rfl) ev_int)) fun _ => (eb_test (ev_ne (ev_around (tE rfl e48) (hE rfl) (wE rfl) h200 ⟨by omega, by omega⟩ ⟨by omega, by omega⟩ few) (ev_call (P := dp (.int (aroundM (colsK rs high).length (nextsC rs (colsK rs high)) wide))) (el_cons (ev_var rfl ((dp _).m s8.eb p7)) (el_cons (wE rfl) el_nil)) fun us B' e' pu => ?_))).to (by rw [dT rfl]; rfl)).to (by rw [Bool.and_false])).to (by rw [Bool.and_false])) fun B9 H9 s9 => hn _ _ ⟨B9, _, _, s6.eb.trans (s7.eb.trans (s8.eb.trans s9.eb)), s9.bh, ((d6.step s7).step s8).step s9, rfl⟩
        obtain ⟨u1, u2, rfl, q1, q2⟩ := all2_2 pu
        cases dp_int.mp q2
        exact ⟨u1, _, _, wide, rfl, q1, okn, l500, by omega, by omega, rfl⟩
    · rintro σ6 H6 ⟨B6, x11, x12, e56, b6, d6, rfl⟩
      have e46 := s5.eb.trans e56
      have colsOk1 := fun c (hc : c ∈ colsK rs 1) => colsK_ok rs 1 c hc
      have l1 : (colsK rs 1).length = rs.length := cols1_len
      -- _law_singles
      refine q_asg (P := dp (colsD (colsK rs 1))) b6 (ev_call (el_cons (rE rfl e46) (el_cons (ev_int (i := ((1 : Nat) : Int))) el_nil)) fun us B' e' pu => ?_) fun v7 B7 H7 s7 p7 => ?_
      · obtain ⟨u1, u2, rfl, q1, q2⟩ := all2_2 pu
        cases dp_int.mp q2
        exact ⟨u1, 1, rs, rfl, q1, .inl rfl, h200, rfl⟩
      have e47 := e46.trans s7.eb
      -- _law_first_here
      refine q_asg (P := dp (laidD (goesL rs wide []))) s7.bh (ev_call (el_cons (ev_call (P := dp (nextsD (nsO rs))) (el_cons (rE rfl e47) (el_cons (ev_var rfl p7) (el_cons (ev_var rfl p7) el_nil))) fun us B' e' pu => ?_) (el_cons (ev_var rfl (P := dp (.int (wide : Nat))) (.int _)) el_nil)) fun us B' e' pu => ?_) fun v8 B8 H8 s8 p8 => ?_
      · obtain ⟨u1, u2, u3, rfl, q1, q2, q3⟩ := all2_3 pu
        exact ⟨u1, u2, u3, rs, colsK rs 1, rfl, q1, q2, q3, by omega, fun c hc => ⟨by have := (colsOk1 c hc).1; omega, (colsOk1 c hc).2⟩, rfl⟩
      · obtain ⟨u1, u2, rfl, q1, q2⟩ := all2_2 pu
        cases dp_int.mp q2
        have okn := nextsC_ok rs (colsK rs 1)
        rw [l1] at okn
        exact ⟨u1, nsO rs, rs.length, wide, rfl, q1, okn, h200, by omega, by omega, by rw [first_goes hw1]⟩
      have e48 := e47.trans s8.eb
      -- _law_found
      refine q_asg (P := dp (laidD (goesL rs wide []))) s8.bh (ev_call (el_cons (tE rfl e48) (el_cons (ev_int (i := 1)) (el_cons (ev_var rfl (P := dp (.int (wide : Nat))) (.int _)) el_nil))) fun us B' e' pu => ?_) fun v9 B9 H9 s9 p9 => ?_
      · obtain ⟨u1, u2, u3, rfl, q1, q2, q3⟩ := all2_3 pu
        cases dp_int.mp q2
        cases dp_int.mp q3
        exact ⟨u1, rs, wide, rfl, q1, by omega, by omega, h200, rfl⟩
      have e49 := e48.trans s9.eb
      have p8' := (dp _).m s9.eb p8
      have likeOk : okL 2 (laidD (goesL rs wide [])) := by
        cases hg : goesL rs wide [] with
        | none => exact True.intro
        | some L =>
          have := goesL_len hg
          refine ⟨show 1 ≤ 100000 by decide, fun d hd => ?_⟩
          rw [List.mem_singleton.mp hd]
          refine ⟨by rw [List.length_map]; simp at this; omega, fun d hd => ?_⟩
          obtain ⟨x, _, rfl⟩ := List.mem_map.mp hd
          exact True.intro
      -- if not like(found, first) or ..
      refine q_skip s9.bh ((eb_or (a := false) (b := false) (eb_not (a := true) (eb_B (ev_call (el_cons (ev_var rfl p9) (el_cons (ev_var rfl p8') el_nil)) fun us B' e' pu => ?_))) fun _ => ?_).to rfl) fun B10 H10 s10 => ?_
      · obtain ⟨u1, u2, rfl, q1, q2⟩ := all2_2 pu
        exact ⟨u1, u2, _, rfl, q1, q2, likeOk, rfl⟩
      · cases hg : goesL rs wide [] with
        | none =>
          rw [hg] at p8'
          exact (eb_and (a := false) (b := false) (eb_B ((ev_notNd (ev_var rfl p8')).to rfl)) fun z => by cases z).to rfl
        | some L =>
          rw [hg] at p8' p9
          refine (eb_and (a := true) (b := false) (eb_B ((ev_notNd (ev_var rfl p8')).to rfl)) fun _ => eb_not (a := true) (eb_B (ev_call (el_cons (tE rfl e49) (el_cons (ev_var rfl p9) el_nil)) fun us B' e' pu => ?_))).to rfl
          obtain ⟨u1, u2, rfl, q1, q2⟩ := all2_2 pu
          have := goesL_len hg
          exact ⟨u1, u2, rs, L, rfl, q1, q2, by simp at this; omega, goesL_lt (fun a ha => by cases ha) hg, goesL_chain (fun k hk => by simp at hk) hg, rfl⟩
      have e410 := e49.trans s10.eb
      have wl : ∀ l : List Nat, (leanW rs l).length ≤ l.length := fun l => by
        induction hn : l.length using Nat.strongRecOn generalizing l with
        | _ n ih =>
          by_cases z : (filtN rs l).length < l.length
          · rw [leanW_go z]
            have := ih (filtN rs l).length (by omega) (filtN rs l) rfl
            omega
          · rw [leanW_stop (by have := filtN_le rs l; omega)]
            omega
      have leanOk : okL 2 (natsD (leanW rs (List.range rs.length))) := ⟨by rw [List.length_map]; have := wl (List.range rs.length); rw [List.length_range] at this; omega, fun d hd => by
        obtain ⟨x, _, rfl⟩ := List.mem_map.mp hd
        exact True.intro⟩
      -- fillings, lean
      refine q_skip s10.bh ((eb_or (a := false) (b := false) ((eb_test (ev_ne (ev_call (P := dp (.int (rs.length : Nat))) (el_cons (tE rfl e410) (el_cons (ev_int (i := 1)) (el_cons (ev_int (i := 1)) (el_cons ev_edT el_nil)))) fun us B' e' pu => ?_) ((ev_lenLd (rE rfl e410)).to (Pa := dp (.int (rs.length : Nat))) (by rw [List.length_map])))).to (by rw [dT rfl]; rfl)) fun _ => eb_not (a := true) (eb_B (ev_call (el_cons (ev_call (P := dp (natsD (leanW rs (List.range rs.length)))) (el_cons (tE rfl e410) el_nil) fun us B' e' pu => ?_) (el_cons (ev_call (P := dp (natsD (leanW rs (List.range rs.length)))) (el_cons (rE rfl e410) el_nil) fun us B' e' pu => ?_) el_nil)) fun us B' e' pu => ?_))).to rfl) fun B11 H11 s11 => ?_
      · match us, pu with
        | [u1, u2, u3, u4], ⟨q1, q2, q3, q4, _⟩ =>
        cases dp_int.mp q2
        cases dp_int.mp q3
        exact ⟨u1, rs, u4, rfl, q1, q4, h200, rfl⟩
      · obtain ⟨u1, rfl, q1⟩ := all2_1 pu
        exact ⟨u1, rs, rfl, q1, h200, rfl⟩
      · obtain ⟨u1, rfl, q1⟩ := all2_1 pu
        exact ⟨u1, rs, rfl, q1, h200, rfl⟩
      · obtain ⟨u1, u2, rfl, q1, q2⟩ := all2_2 pu
        exact ⟨u1, u2, _, rfl, q1, q2, leanOk, rfl⟩
      have e411 := e410.trans s11.eb
      have rows_by : ∀ {σ : L2.St} {B' : Hp} {te : TE} (g : Tile → Tile), σ[2]? = some (some v2) → Ex B4 B' → (∀ v, ((wipe σ [13]).set 13 (some v))[13]? = some (some v)) → (∀ x, wipe ((wipe σ [13]).set 13 (some x)) [13] = wipe σ [13]) → (∀ t v B'', (dp t.d).p B'' v → EvP te ((wipe σ [13]).set 13 (some v)) B'' (dp (g t).d)) → EvP (tLc (iList K (tVar 2)) (gName 13) tYes te [13]) σ B' (dp (rowsD (rs.map g))) := fun {σ B' te} g h e hv hw ht => by
        have lc := ev_lcL (K := K) (t := tYes) (te := te) (j := 13) (ws := [13]) (tl := tVar 2) (σ := σ) (B := B') rs (fun t => dp t.d) (fun _ => true) (fun t => dp (g t).d) ((rE h e).imp fun _ _ _ z => rows_lst.mpr z) (by omega) hw (fun _ _ _ _ _ _ => eb_yes) fun t v B'' _ _ _ pv => ht t v B'' pv
        rw [filter_true] at lc
        refine lc.imp fun _ _ _ z => rows_lst.mp ?_
        rw [List.map_map]
        exact z
      -- turned
      refine q_skip s11.bh ((eb_test (ev_neD (d := rowsD (rs.map turnT)) (e := rowsD (rs.map turnT)) (ev_meth (C := ca K "Tiles") (Fs := tilesF (rs.map turnT)) (ev_call (el_cons (tE rfl e411) el_nil) fun us B' e' pu => ?_) rfl el_nil fun y us B' e' py pu => ?_) (rows_by turnT rfl e411 (fun _ => rfl) (fun _ => rfl) fun t v B' pv => ?_) (shaped_rows _) (shaped_rows _))).to (by rw [eqv_same (shaped_rows _)]; rfl)) fun B12 H12 s12 => ?_
      · obtain ⟨u1, rfl, q1⟩ := all2_1 pu
        exact ⟨u1, rs, rfl, q1, okr, rfl⟩
      · have : us = [] := by cases us with | nil => rfl | cons _ _ => exact pu.elim
        subst this
        exact ⟨_, y, rfl, py, rfl⟩
      · have pt := (tup_dp (ds := [.int t.n, .int t.e, .int t.s, .int t.w])).mpr pv
        refine EvP.tupD (ds := [.int t.e, .int t.s, .int t.w, .int t.n]) ?_
        exact ev_cat (Ps := [dp (.int t.e), dp (.int t.s), dp (.int t.w)]) (Qs := [dp (.int t.n)]) (ev_slT (ev_var rfl pt) (eo_some ev_int) eo_none rfl) (ev_slT (ev_var rfl pt) eo_none (eo_some ev_int) rfl) (fun z => by cases z) (Nat.le_of_ble_eq_true rfl) (Nat.le_of_ble_eq_true rfl)
      have e412 := e411.trans s12.eb
      -- mirrored
      refine q_skip s12.bh ((eb_test (ev_neD (d := rowsD (rs.map mirT)) (e := rowsD (rs.map mirT)) (ev_meth (C := ca K "Tiles") (Fs := tilesF (rs.map mirT)) (ev_call (el_cons (tE rfl e412) el_nil) fun us B' e' pu => ?_) rfl el_nil fun y us B' e' py pu => ?_) (rows_by mirT rfl e412 (fun _ => rfl) (fun _ => rfl) fun t v B' pv => ?_) (shaped_rows _) (shaped_rows _))).to (by rw [eqv_same (shaped_rows _)]; rfl)) fun B13 H13 s13 => ?_
      · obtain ⟨u1, rfl, q1⟩ := all2_1 pu
        exact ⟨u1, rs, rfl, q1, okr, rfl⟩
      · have : us = [] := by cases us with | nil => rfl | cons _ _ => exact pu.elim
        subst this
        exact ⟨_, y, rfl, py, rfl⟩
      · exact EvP.tupD (ds := [.int t.n, .int t.w, .int t.s, .int t.e]) (ev_tup (el_cons (ev_ixTd (ev_var rfl pv) ev_int at_n) (el_cons (ev_ixTd (ev_var rfl pv) ev_int at_w) (el_cons (ev_ixTd (ev_var rfl pv) ev_int at_s) (el_cons (ev_ixTd (ev_var rfl pv) ev_int at_e) el_nil)))) (Nat.le_of_ble_eq_true rfl))
      have e413 := e412.trans s13.eb
      -- _law_text
      refine q_asg s13.bh (ev_textLc rs okr (rE rfl e413) (fun _ => rfl) (fun _ _ => rfl) (fun _ => rfl) (fun _ _ => rfl)) fun v14 B14 H14 s14 p14 => ?_
      cases dp_str.mp p14
      have e414 := e413.trans s14.eb
      have d14 := (((((((d6.step s7).step s8).step s9).step s10).step s11).step s12).step s13).step s14
      -- the answer
      refine ev_eqS (i := textS rs) (j := textS rs) (ev_call (el_cons (tE rfl e414) el_nil) fun us B' e' pu => ?_) (ev_var rfl (.str _)) H14 s14.bh _ fun v15 B15 H15 s15 p15 => ?_
      · obtain ⟨u1, rfl, q1⟩ := all2_1 pu
        exact ⟨u1, rs, rfl, q1, okr, rfl⟩
      have v15e : v15 = .bl true := by rw [dp_bl.mp p15, beq_self_eq_true]
      refine ⟨true, v15e, ?_⟩
      refine iteT ?_
      have e415 := e414.trans s15.eb
      refine ev_eqD (K := K) (d := rowsD rs) (e := rowsD rs) (ev_meth (C := ca K "Tiles") (Fs := tilesF rs) (ev_call (el_cons (ev_var rfl (P := dp (.str (textS rs))) (.str _)) el_nil) fun us B' e' pu => ?_) rfl el_nil fun y us B' e' py pu => ?_) (rE rfl e415) (shaped_rows _) (shaped_rows _) H15 s15.bh _ fun v16 B16 H16 s16 p16 => ?_
      · obtain ⟨u1, rfl, q1⟩ := all2_1 pu
        cases dp_str.mp q1
        exact ⟨rs, rfl, okr, rfl⟩
      · have : us = [] := by cases us with | nil => rfl | cons _ _ => exact pu.elim
        subst this
        exact ⟨_, y, rfl, py, rfl⟩
      have v16e : v16 = .bl true := by rw [dp_bl.mp p16, eqv_same (shaped_rows _)]
      refine ⟨true, v16e, ?_⟩
      refine iteT ?_
      exact ⟨_, rfl, B16, p, rfl, s16.bh, (d14.step s15).step s16, fun H' => k H'⟩
end
end TL
set_option maxHeartbeats 4000000
/-! A lambda, also with one default argument, as a tracked function object. -/
namespace TL
open PySem PySem.Spec PySem.Calls PyProof.Rows L2
section
variable {M : Model} {A : Around} {E : Value → Shared → Prop} {s : Shared}
/-- the tuple of the captured cells, if there are any -/
theorem clo_tuple {α : Type} {b : Bool} {l : List Value} {k : Value → Sem α} {Q : α → Shared → Prop} (h : ∀ v (h1 : Heap), (∀ a o, s.heap.get? a = some o → h1.get? a = some o) → s.heap.objs.size ≤ h1.objs.size → wpAny M A (k v) Q E { s with heap := h1 }) : wpAny M A (if b = true then (pure .none >>= k) else (newTextTuple l >>= k)) Q E s := by
  cases b with
  | true => exact wpAny_bind (wpAny_pure (h _ _ (fun _ _ z => z) (Nat.le_refl _)))
  | false => exact wpAny_bind (wpAny_newTextTuple (h _ _ (fun a o z => Heap.get?_push_of_some _ z) (by rw [Heap.size_push]; omega)))
abbrev lamFn (qual : Str) (params : Arguments) (body : Expr) (scope : Scope) (cl : List (Str × Addr)) (dV pm cdv ct : Value) : FuncData :=
  { name := "<lambda>", qualname := qual, params, body := .expr body, scope, globals := mainGlobals, closure := cl, defaults := dV, kwdefaults := .none, doc := .none, pyModule := pm, annotations := none, code := cdv, closureTuple := ct, builtins := builtinsNs }
abbrev lamObj (qual : Str) (params : Arguments) (body : Expr) (scope : Scope) (cl : List (Str × Addr)) (dV pm cdv ct : Value) : Obj := { cls := .type "function", data := .func (lamFn qual params body scope cl dV pm cdv ct) }
theorem lam_tail {dV : Value} {qual : Str} {params : Arguments} {body : Expr} {scope : Scope} {env : Env} {c P : Addr} {ps : Array Value} {pos : Pos} {n : Nat} {mg : Str → Option Value} {cl : List (Str × Addr)} {Q : Value → Shared → Prop}
    (hcl : closureFor scope env = pure cl) (hge : env.globals = mainGlobals) (hg : s.heap.Ns mainGlobals mg) (hcode : env.code = .ref c) (C : PySem.W.CodeHd s.heap c P) (hP : s.heap.get? P = some (PySem.W.tabObj ps)) (ht : TriplesOk ps.toList) (hgP : mainGlobals ≠ P) (hb : s.heap.BuiltinsAt mg P)
    (miss : codeAmong pos ps.toList = none → ∀ (c' : Addr) (ctv : Value) (h' : Heap) (tk : Tok), Heap.ExtBut P s.heap h' → s.heap.objs.size ≤ c' → c' < h'.objs.size → h'.CodeRec (.ref c') qual → h'.get? P = some (PySem.W.tabObj (ps ++ #[rawInt pos.line, rawInt pos.col, .ref c'])) →
      Q (.ref h'.objs.size) { s with heap := h'.push (lamObj qual params body scope cl dV ((mg "__name__").getD .none) (.ref c') ctv), toks := tk })
    (hit : ∀ cv, codeAmong pos ps.toList = some cv → ∀ (ctv : Value) (h' : Heap) (tk : Tok), (∀ b o, s.heap.get? b = some o → h'.get? b = some o) → s.heap.objs.size ≤ h'.objs.size →
      Q (.ref h'.objs.size) { s with heap := h'.push (lamObj qual params body scope cl dV ((mg "__name__").getD .none) cv ctv), toks := tk }) :
    wpAny M A (makeTail "<lambda>" qual params (.expr body) scope env dV .none none pos n) Q E s := by
  obtain ⟨bm, ob, b1, b2, b3, b4, b5, b6, b7, b8⟩ := hb
  unfold makeTail
  rw [hcl, hge]
  refine wpAny_bind (wpAny_pure (clo_tuple fun ctv h1 k1 z1 => ?_))
  have hP1 := k1 _ _ hP
  have C1 := C.keeps k1
  have g1 := hg.keeps k1
  cases hc : codeAmong pos ps.toList with
  | none =>
    refine wpAny_bind (wpAny_functionCodeX hcode (C1.code hP1 ht) (C1.tab hP1) hc fun c' h' tk hx ge lt _ rec tab _ => ?_)
    have g2 := g1.extBut hx hgP
    refine wpAny_bind (wpAny_builtinsFor g2 b1 b2 (hx _ _ b4 (k1 _ _ b5)) b6 b7 b8 (wpAny_bind (wpAny_nsGet g2 (wpAny_bind (wpAny_pure (wpAny_newObj_type ?_ (by size_fits)))))))
    exact miss hc c' ctv h' tk (fun b o hb' e => hx b o hb' (k1 b o e)) (Nat.le_trans z1 ge) lt rec tab.2
  | some cv =>
    refine wpAny_bind (wpAny_functionCode_hit hcode (C1.code hP1 ht) hc ?_)
    refine wpAny_bind (wpAny_builtinsFor g1 b1 b2 (k1 _ _ b5) b6 b7 b8 (wpAny_bind (wpAny_nsGet g1 (wpAny_bind (wpAny_pure (wpAny_newObj_type ?_ (by size_fits)))))))
    exact hit cv hc ctv h1 s.toks k1 z1
end
end TL
set_option maxHeartbeats 4000000
namespace TL
open PySem PySem.Spec PySem.Calls PyProof.Rows L2
/-- the function object at f; its code object at c' -/
def FnO (f : Addr) (qual : Str) (params : Arguments) (body : Expr) (scope : Scope) (cl : List (Str × Addr)) (dV : Value) (c' : Addr) : HO := .ext fun h => ∃ pm ctv : Value, h.get? f = some (lamObj qual params body scope cl dV pm (.ref c') ctv)
section
variable {X : Cx} {pins : List (Addr × Obj)} {σ : L2.St} {H : Hp} {s : Shared}
theorem fn_ok {P : Program} {w : World} {H : Hp} {h : Heap} {f : Addr} {qual : Str} {params : Arguments} {body : Expr} {scope : Scope} {cl : List (Str × Addr)} {dV pm ctv : Value} {c' : Addr} (e : h.get? f = some (lamObj qual params body scope cl dV pm (.ref c') ctv)) : ObjOk P w H h f (FnO f qual params body scope cl dV c') :=
  ⟨⟨pm, ctv, e⟩, ⟨_, e⟩, fun h1 h2 ⟨pm, ctv, z⟩ k => ⟨pm, ctv, k _ z⟩⟩
/-- what the making of a lambda leaves -/
structure Made (P : Addr) (q : Str) (params : Arguments) (body : Expr) (scope : Scope) (cl : List (Str × Addr)) (dV : Value) (H : Hp) (f c' : Addr) (H1 : Hp) : Prop where
  ext : ExtT [(P, q)] H H1
  fn : H1 f = some (FnO f q params body scope cl dV c')
  new : H f = none
  co : H1 c' = some (LamX.CodeO c' q)
  tb : LamX.Tabs [(P, q)] H1
theorem lam_made {dV : Value} {c P : Addr} {params : Arguments} {body : Expr} {scope : Scope} {pos : Pos} {n : Nat} {A : Around} {E : Value → Shared → Prop} {Q : Value → Shared → Prop} (I : Inv X pins σ H s) (TB : LamX.TabB X.base X.mg c P) (hcode : X.env.code = .ref c)
    (hT : LamX.Tabs [(P, X.env.qual ++ "<lambda>")] H) (hfree : ∀ y ∈ scope.names, y.2 = .free → ∃ c, X.env.cells.lookup y.1 = some c)
    (h : ∀ f c' H1 s', Inv X pins σ H1 s' → Made P (X.env.qual ++ "<lambda>") params body scope (cloFrom X.env.cells scope.names []) dV H f c' H1 → Q (.ref f) s') :
    wpAny (model X.prog X.w) A (makeTail "<lambda>" (X.env.qual ++ "<lambda>") params (.expr body) scope X.env dV .none none pos n) Q E s := by
  obtain ⟨ps, hP, ht, ha⟩ := hT _ List.mem_cons_self
  have bP : s.heap.BuiltinsAt X.mg P := TB.bm.keeps I.bk
  have hP' : s.heap.get? P = some { cls := .none, data := .fields ps } := I.hok P _ hP
  refine lam_tail (mg := X.mg) (c := c) (P := P) (ps := ps) (closure_ok hfree) I.ok.glob (I.mod.glob.keeps I.bk) hcode (TB.code.keeps I.bk) hP' ht TB.gP bP (fun hc c' ctv h' tk hx hge hlt hrec htb => ?_) fun cv hc ctv h' tk hx hsz => ?_
  · obtain ⟨c2, oc, vs, t, e2, hoc, hd, hv⟩ := hrec
    cases e2
    have nC : H c' = none := I.hok.fresh hge
    have hsz : s.heap.objs.size ≤ h'.objs.size := Nat.le_trans hge (Nat.le_of_lt hlt)
    have nPc : P ≠ c' := ne_of_none hP nC
    have I1 := LamX.inv_table (t' := tk) (more := #[rawInt pos.line, rawInt pos.col, .ref c']) (q := X.env.qual ++ "<lambda>") I hP (fun b o hb e => hx b o hb e) htb hge ⟨oc, vs, t, hoc, hd, hv⟩
    have I2 := I1.laid (a := h'.objs.size) (o := FnO h'.objs.size (X.env.qual ++ "<lambda>") params body scope (cloFrom X.env.cells scope.names []) dV c') (h' := h'.push (lamObj (X.env.qual ++ "<lambda>") params body scope (cloFrom X.env.cells scope.names []) dV ((X.mg "__name__").getD .none) (.ref c') ctv)) (t' := tk)
      (fun b o e => Heap.get?_push_of_some _ e) (Nat.le_refl _) (fn_ok (Heap.get?_push_size _ rfl))
    have n1 : c' ≠ h'.objs.size := Nat.ne_of_lt hlt
    have n2 : P ≠ h'.objs.size := Nat.ne_of_lt (Nat.lt_of_lt_of_le (Heap.lt_size hP') hsz)
    refine h h'.objs.size c' _ _ I2 ⟨fun b o e hn => ?_, upd_same, I.hok.fresh hsz, by rw [upd_ne n1, upd_same], fun p hp => ?_⟩
    · have e1 : b ≠ h'.objs.size := ne_of_none e (I.hok.fresh hsz)
      have e2 : b ≠ P := fun z => hn _ List.mem_cons_self z.symm
      rw [upd_ne e1, upd_ne (ne_of_none e nC), upd_ne e2]
      exact e
    · cases List.mem_singleton.mp hp
      refine ⟨_, by rw [upd_ne n2, upd_ne nPc, upd_same], by simp only [Array.toList_append]; exact PySem.TriplesOk_snoc _ _ _ _ ht, fun p' cv hcv => ?_⟩
      have hcv : codeAmong p' (ps.toList ++ [rawInt pos.line, rawInt pos.col, .ref c']) = some cv := by simpa using hcv
      rcases LamX.among_app _ ht hcv with z | z
      · obtain ⟨c0, e1, e2⟩ := ha p' cv z
        have k1 : c0 ≠ h'.objs.size := ne_of_none e2 (I.hok.fresh hsz)
        have k2 : c0 ≠ P := fun y => by
          rw [y, hP] at e2
          exact LamX.codeO_ne _ (Option.some.inj e2).symm
        exact ⟨c0, e1, by rw [upd_ne k1, upd_ne (ne_of_none e2 nC), upd_ne k2]; exact e2⟩
      · exact ⟨c', z, by rw [upd_ne n1, upd_same]⟩
  · obtain ⟨c', e, hco⟩ := ha pos cv hc
    subst e
    have I2 := I.laid (a := h'.objs.size) (o := FnO h'.objs.size (X.env.qual ++ "<lambda>") params body scope (cloFrom X.env.cells scope.names []) dV c') (h' := h'.push (lamObj (X.env.qual ++ "<lambda>") params body scope (cloFrom X.env.cells scope.names []) dV ((X.mg "__name__").getD .none) (.ref c') ctv)) (t' := tk)
      (fun b o e => Heap.get?_push_of_some _ (hx b o e)) hsz (fn_ok (Heap.get?_push_size _ rfl))
    have nF := I.hok.fresh hsz
    have keep : ∀ b o, H b = some o → upd H h'.objs.size (FnO h'.objs.size (X.env.qual ++ "<lambda>") params body scope (cloFrom X.env.cells scope.names []) dV c') b = some o := fun b o e => by
      rw [upd_ne (ne_of_none e nF)]
      exact e
    exact h h'.objs.size c' _ _ I2 ⟨fun b o e _ => keep b o e, upd_same, nF, keep _ _ hco, hT.ext keep⟩
end
end TL
set_option maxHeartbeats 4000000
namespace TL
open PySem PySem.Spec PySem.Calls PyProof.Rows L2
def tLam0 (P : Addr) (q : Str) (params : Arguments) (body : Expr) (scope : Scope) (cl : List (Str × Addr)) : TE := fun _ H Q => LamX.Tabs [(P, q)] H ∧ ∀ f c' H1, Made P q params body scope cl .none H f c' H1 → Q (.ref f) H1
def tLam1 (P : Addr) (q : Str) (params : Arguments) (body : Expr) (scope : Scope) (cl : List (Str × Addr)) : TE := fun _ H Q => LamX.Tabs [(P, q)] H ∧ ∀ t f c' H1, H t = none → Made P q params body scope cl (.ref t) (upd H t (.tup [.int 0])) f c' H1 → Q (.ref f) H1
section
variable {X : Cx} {c P : Addr} {params : Arguments} {body : Expr} {scope : Scope} {pos : Pos}
theorem pe_lam0 (TB : LamX.TabB X.base X.mg c P) (hcode : X.env.code = .ref c) (hdef : defaultsOf params X.env = ([], [])) (L : ∀ y ∈ scope.names, y.2 = .free → X.env.scope.names.lookup y.1 = some .cell) :
    PE X (.Lambda params body scope pos) (tLam0 P (X.env.qual ++ "<lambda>") params body scope (cloFrom X.env.cells scope.names [])) := by
  refine ⟨fun pins s σ H Q I h => ?_⟩
  obtain ⟨hT, h⟩ := h
  refine PySem.W.kla_eval hdef ?_
  rw [makeFunction_eq]
  simp only [List.zip_nil_right, List.filterMap_nil, List.isEmpty_nil, if_true, pure_bind]
  exact lam_made I TB hcode hT (fun y hy e => I.ok.has _ (.inl (L y hy e))) fun f c' H1 s' I1 m => ⟨.ref f, H1, I1, rfl, h f c' H1 m⟩
theorem pe_lam1 {k : Nat} {p0 : Pos} (TB : LamX.TabB X.base X.mg c P) (hcode : X.env.code = .ref c) (hdef : defaultsOf params X.env = ([eval (.Constant (.int 0) k p0) X.env], [])) (L : ∀ y ∈ scope.names, y.2 = .free → X.env.scope.names.lookup y.1 = some .cell) :
    PE X (.Lambda params body scope pos) (tLam1 P (X.env.qual ++ "<lambda>") params body scope (cloFrom X.env.cells scope.names [])) := by
  refine ⟨fun pins s σ H Q I h => ?_⟩
  obtain ⟨hT, h⟩ := h
  rw [arm_eval_Lambda, hdef]
  show wpAny _ _ (do let dv ← evalAll [eval (.Constant (.int 0) k p0) X.env]; let kdv ← holding dv (evalAllOpt []); makeFunction "<lambda>" (X.env.qual ++ "<lambda>") params (.expr body) scope X.env dv kdv [] pos pos.line) _ _ s
  unfold evalAll
  refine wpAny_bind (wpAny_bind (thn ((pe_int (X := X) (i := 0) (j := k) (pos := p0)).run pins s σ H (fun v H' => v = .int 0 ∧ H' = H) I ⟨rfl, rfl⟩) fun u s1 ⟨v, H1, I1, r, q⟩ => ?_))
  obtain ⟨rfl, rfl⟩ := q
  unfold evalAll
  refine wpAny_bind (wpAny_holding (wpAny_pure (wpAny_pure ?_)))
  unfold evalAllOpt
  refine wpAny_bind (wpAny_holding (wpAny_pure ?_))
  rw [makeFunction_eq]
  simp only [List.zip_nil_right, List.filterMap_nil, List.isEmpty_nil, List.isEmpty_cons, Bool.false_eq_true, if_false, if_true, pure_bind]
  refine wpAny_bind (wpAny_newTextTuple ?_)
  have ht := I1.hok.fresh (Nat.le_refl s1.heap.objs.size)
  have I2 := I1.laid (a := s1.heap.objs.size) (o := .tup [.int 0]) (h' := s1.heap.push { cls := .type "tuple", data := .seq [u].toArray }) (t' := s1.toks) (fun b o e => Heap.get?_push_of_some _ e) (Nat.le_refl _) ⟨by show 1 ≤ sizeLine; decide, [u], .cons r .nil, IsTup.new _ _⟩
  have hT2 : LamX.Tabs [(P, X.env.qual ++ "<lambda>")] (upd H1 s1.heap.objs.size (.tup [.int 0])) := hT.ext fun b o e => by
    rw [upd_ne (ne_of_none e ht)]
    exact e
  exact lam_made I2 TB hcode hT2 (fun y hy e => I.ok.has _ (.inl (L y hy e))) fun f c' H3 s' I3 m => ⟨.ref f, H3, I3, rfl, h _ f c' H3 ht m⟩
end
end TL
set_option maxHeartbeats 4000000
/-! The lambda's body, entered from a state whose base knows the captured cells. -/
namespace TL
open PySem PySem.Spec PySem.Calls PyProof.Rows L2
abbrev yEnv (q : Str) (scope : Scope) (L f c' : Addr) (cl : List (Str × Addr)) : Env := PySem.W.envX q scope L f (.ref c') cl
def yCx (P : Program) (w : World) (K : PySem.W.Frag) (mg : Str → Option Value) (base : Heap) (N : List Str) (q : Str) (scope : Scope) (f c' : Addr) (cl : List (Str × Addr)) (A : Around) (outer : List Env) (s : Shared) (H : Hp) (E : XK) : Cx where
  prog := P
  w := w
  K := K
  mg := mg
  base := base
  A := A.deeper (yEnv q scope s.heap.objs.size f c' cl)
  N := N
  s_0 := s
  H_0 := H
  env := yEnv q scope s.heap.objs.size f c' cl
  outer := outer
  stack := yEnv q scope s.heap.objs.size f c' cl :: outer
  ex := []
  fn := fun _ => false
  calm := true
  pn := []
  xe := fun e s' => wpAny (model P w) (A.deeper (yEnv q scope s.heap.objs.size f c' cl)) (leaving (yEnv q scope s.heap.objs.size f c' cl) e) (fun _ t => L2.CX P w outer H s E e t) (fun e2 t => L2.CX P w outer H s E e2 t) s'
/-- the names and cells of a lambda; what the base holds in them -/
structure YS (base : Heap) (N : List Str) (scope : Scope) (cl : List (Str × Addr)) (σ : L2.St) : Prop where
  kind : scope.kind = .function
  co : scope.isCoroutine = false
  gen : scope.isGenerator = false
  nocell : ∀ y ∈ scope.names, y.2 ≠ .cell
  inj : ∀ y z c, cl.lookup y = some c → cl.lookup z = some c → y = z
  has : ∀ y, scope.names.lookup y = some .free → ∃ c, cl.lookup y = some c
  cells : ∀ y c, cl.lookup y = some c → ∃ v, base.IsCell c v
  vals : ∀ (i : Nat) (y : Str) (v : V), N[i]? = some y → σ[i]? = some (some v) → Vis scope y → ∃ c u, scope.names.lookup y = some .free ∧ cl.lookup y = some c ∧ RelV v u ∧ base.IsCell c (some u)
  len : σ.length = N.length
section
variable {P : Program} {w : World} {K : PySem.W.Frag} {mg : Str → Option Value} {base : Heap} {N : List Str} {q : Str} {scope : Scope} {f c' : Addr} {cl : List (Str × Addr)} {A : Around} {outer : List Env} {s : Shared} {H : Hp} {E : XK} {σ : L2.St}
theorem y_start {m : Str → Option Value} {h1 : Heap} {tk : Nat} (e0 : Env0 P w K mg base A outer s H) (hd : A.handled = none) (Y : YS base N scope cl σ) (hns : h1.Ns s.heap.objs.size m) (kp : ∀ b o, s.heap.get? b = some o → h1.get? b = some o) :
    Inv (yCx P w K mg base N q scope f c' cl A outer s H E) [] σ H { s with heap := h1, toks := tk } := by
  have cb : ∀ {c v}, base.IsCell c v → h1.IsCell c v ∧ H c = none := fun {c v} ⟨o, ho, hv⟩ => ⟨⟨o, kp _ _ (e0.bs _ _ ho).1, hv⟩, (e0.bs _ _ ho).2⟩
  have fresh : H s.heap.objs.size = none := e0.hok.fresh (Nat.le_refl _)
  have lookup : ∀ {y}, scope.names.lookup y = some .cell → False := fun {y} h => Y.nocell _ (PySem.mem_of_lookup h) rfl
  have none_in : ∀ (b : Addr), b ∈ ([] : List Addr) → False := fun b z => by cases z
  refine ⟨⟨e0.mod, Y.kind, rfl, rfl, Nat.le_refl _, Y.inj, fun y hy => ?_, fun y c z _ => (Bool.false_ne_true z).elim, fun _ => hd, Around.frames_deeper e0.frames, .inr ⟨rfl, rfl⟩, fun b z => (none_in b z).elim, e0.bs, e0.bsz, fun b _ _ z => none_in b z, fun b z => (none_in b z).elim, e0.funs, e0.frf⟩,
    rfl, e0.bare, Un.kept kp, ⟨m, hns, fun i y v e1 e2 e3 => ?_⟩, fun y c e => ?_, fresh, fun y c e => ?_, fun p hp => absurd (show p ∈ ([] : List (Addr × Obj)) ++ [] from hp) (by simp), e0.hok.kept kp, Y.len⟩
  · have hy : scope.names.lookup y = some .cell ∨ scope.names.lookup y = some .free := hy
    exact hy.elim (fun z => (lookup z).elim) (Y.has y)
  · obtain ⟨c, u, k1, k2, r, k3⟩ := Y.vals i y v e1 e2 e3
    exact ⟨u, r, .inr ⟨.inr k1, c, k2, (cb k3).1⟩⟩
  · obtain ⟨v, hv⟩ := Y.cells y c e
    exact ⟨v, (cb hv).1⟩
  · obtain ⟨v, hv⟩ := Y.cells y c e
    exact (cb hv).2
/-- the call of such a lambda -/
theorem lam_run {params : Arguments} {body : Expr} {dV : Value} {k : Nat} {binds : List (Str × Value)} {tb : TE} {Q : VK} (e0 : Env0 P w K mg base A outer s H) (hr : Room (k + 1) A) (Y : YS base N scope cl σ)
    (hf : H f = some (FnO f q params body scope cl dV c')) (hc : H c' = some (LamX.CodeO c' q))
    (hb : ∀ (fd : FuncData) (M : Model) (A : Around) (E : Value → Shared → Prop) (Q : List (Str × Value) → Shared → Prop), fd.params = params → fd.defaults = dV → fd.kwdefaults = .none → Q binds s → wpAny M A (bindArgs fd ⟨[], []⟩) Q E s) (hbl : ∀ y ∈ binds, scope.names.lookup y.1 = some .local)
    (hbody : Room k (A.deeper (yEnv q scope s.heap.objs.size f c' cl)) → PE (yCx P w K mg base N q scope f c' cl A outer s H E) body tb) (ht : tb σ H Q) :
    codeAny (model P w) A (.call (.ref f) ⟨[], []⟩) (CR (L2.CX P w) outer P w H s Q E) s := by
  obtain ⟨⟨pm, ctv, ho⟩, _, _⟩ := e0.hok f _ hf
  obtain ⟨⟨oc, vs, t, hoc, hdc, hvc⟩, _, _⟩ := e0.hok c' _ hc
  have lim : s.heap.NoLimit := e0.mod.nolimit.keeps fun b o e => (e0.bs b o e).1
  refine PySem.W.kla_callFunE hr.depth ho rfl Y.co Y.gen rfl ⟨c', oc, vs, t, rfl, hoc, hdc, hvc⟩ ?_
  refine hb _ _ _ _ _ rfl rfl rfl ?_
  refine wpAny_newFunctionEnv Y.nocell hbl (fun h1 hns hsb => ⟨lim.fresh _ hsb, ?_⟩) Y.kind
  have kp : ∀ b o, s.heap.get? b = some o → h1.get? b = some o := fun b o e => hsb.extBut b o (Nat.ne_of_lt (Heap.lt_size e)) (Heap.get?_push_of_some _ e)
  have J : Inv (yCx P w K mg base N q scope f c' cl A outer s H E) [] σ H { s with heap := h1, toks := s.toks + binds.length } := y_start e0 hr.hd Y hns kp
  show codeAny _ _ (.expr body (yEnv q scope s.heap.objs.size f c' cl)) _ _
  refine PySem.W.kla_codeExpr (wpAny_mono ((hbody (hr.deeper _)).run [] _ _ H Q J ht) (fun v s' hq => ?_) fun e s' hq => hq)
  obtain ⟨u, H', J', rv, hq⟩ := hq
  exact ⟨u, H', J'.os, J'.bare, J'.base, J'.hok, rv, hq⟩
end
end TL
set_option maxHeartbeats 4000000
namespace TL
open PySem PySem.Spec PySem.Calls PyProof.Rows L2
/-- f, called without arguments, lets TooMany out -/
def Throws (P : Program) (w : World) (K : PySem.W.Frag) (mg : Str → Option Value) (base : Heap) (k : Nat) (f : Addr) (H : Hp) : Prop := (∃ q params body scope cl dV c', H f = some (FnO f q params body scope cl dV c')) ∧
  ∀ A outer s H' E, Env0 P w K mg base A outer s H' → Room k A → TL.Ex H H' → (∀ H'', TL.Ex H' H'' → E (.ref (ca K "TooMany")) none H'') → codeAny (model P w) A (.call (.ref f) ⟨[], []⟩) (CR (L2.CX P w) outer P w H' s (fun _ _ => False) E) s
theorem Throws.ext {P : Program} {w : World} {K : PySem.W.Frag} {mg : Str → Option Value} {base : Heap} {k : Nat} {f : Addr} {H H1 : Hp} (t : Throws P w K mg base k f H) (e : TL.Ex H H1) : Throws P w K mg base k f H1 := by
  obtain ⟨⟨q, params, body, scope, cl, dV, c', h⟩, r⟩ := t
  exact ⟨⟨q, params, body, scope, cl, dV, c', e _ _ h⟩, fun A outer s H' E e0 hr e1 => r A outer s H' E e0 hr (e.trans e1)⟩
def tAct (P : Program) (w : World) (K : PySem.W.Frag) (mg : Str → Option Value) (base : Heap) (k : Nat) (W : WX) : TE := fun σ H _ => ∃ f, σ[0]? = some (some (.ref f)) ∧ Throws P w K mg base k f H ∧ ∀ σ' H', TL.Ex H H' → W (.ref (ca K "TooMany")) none σ' H'
section
variable {X : Cx} {x : Str} {p1 p2 : Pos} {W : WX} {k : Nat}
theorem pe_act0 (tk : Takes X W) (hr : Room k X.A) (hN : X.N[0]? = some x) (hv : Vis X.env.scope x) (hd : (x == ("__debug__" : Str)) = false) (hcd : (x == ("__classdict__" : Str)) = false) :
    PE X (.Call (.Name x p1) [] [] p2) (tAct X.prog X.w X.K X.mg X.base k W) := by
  refine ⟨fun pins s σ H Q I h => ?_⟩
  obtain ⟨f, hs, ⟨⟨q, params, body, scope, cl, dV, c', hf⟩, run⟩, hW⟩ := h
  refine wpAny_Call_Name_kw (thn ((pe_var (pos := p1) (i := 0) hN hv hd hcd).run pins s σ H (fun v H1 => v = .ref f ∧ H1 = H) I ⟨.ref f, hs, rfl, rfl⟩) fun u s1 ⟨v, H1, I1, r1, q1⟩ => ?_)
  obtain ⟨rfl, rfl⟩ := q1
  obtain rfl : u = Value.ref f := r1
  obtain ⟨⟨pm, ctv, ho⟩, _, _⟩ := I1.hok f _ hf
  refine PySem.W.callWith_F0 ⟨_, _, _, _, ho⟩ ?_
  have hx : Passes (L2.CX X.prog X.w) X (fun cls d H2 => cls = .ref (ca X.K "TooMany") ∧ d = none ∧ TL.Ex H1 H2) := passes_call tk fun cls d σ' H' ⟨e1, e2, e3⟩ => by
    subst e1 e2
    exact hW σ' H' e3
  refine wpAny_call (codeAny_mono (run X.A X.stack s1 _ (fun cls d H2 => cls = .ref (ca X.K "TooMany") ∧ d = none ∧ TL.Ex _ H2) I1.env0 hr (TL.Ex.refl _) fun _ e => ⟨rfl, rfl, e⟩) fun r s' hq => ?_)
  cases r with
  | error e => exact hx pins σ _ s1 e s' I1 hq
  | ok fl =>
    cases fl with
    | ret u => obtain ⟨_, _, _, _, _, _, _, z⟩ := hq; exact z.elim
    | next => exact False.elim hq
    | brk => exact False.elim hq
    | cont => exact False.elim hq
end
structure TE' (K : PySem.W.Frag) (mg : Str → Option Value) : Prop where
  te : mg "TileError" = some (.ref (ca K "TileError"))
  tm : mg "TooMany" = some (.ref (ca K "TooMany"))
  ex : PySem.W.exmOne K (.ref (ca K "TooMany")) (.ref (ca K "TileError")) = some true
  ec : ExcC K (ca K "TooMany")
  ki : PySem.W.kitOne K (.ref (ca K "TooMany")) (.ref (ca K "TooMany")) = some true
theorem pss_imp {X : Cx} {ss : List Stmt} {t t' : TS} (h : PSs X ss t) (i : ∀ D σ H, σ.length = X.N.length → t' D σ H → t D σ H) : PSs X ss t' := ⟨fun pins s σ H D I z => h.run pins s σ H D I (i D σ H I.len z)⟩
section
variable {P : Program} {w : World} {K : PySem.W.Frag} {mg : Str → Option Value} {base : Heap} {f : Addr} {fd : FuncData}
abbrev s_w_told : Stmt := top 53
abbrev N_w_told : List Str := ["_law_work", "e"]
abbrev P_w_told : List Str := ["_law_work"]
theorem sc_w_told : FnScope N_w_told P_w_told (defScope s_w_told) := ⟨rfl, rfl, rfl, by decide +kernel, rfl, by decide +kernel, by decide +kernel⟩
abbrev spTold (P : Program) (w : World) (K : PySem.W.Frag) (mg : Str → Option Value) (base : Heap) (k : Nat) : Sp := fun vs H Q _ => ∃ g, vs = [.ref g] ∧ Throws P w K mg base k g H ∧ ∀ H', TL.Ex H H' → Q (.str "many") H'
theorem ok_told (T : TB mg) (te : TE' K mg) (k : Nat) (F : FnP K "_law_told" "_law_told" s_w_told f fd) : FnOk P w K mg base CX0 (k + 1) f fd P_w_told (spTold P w K mg base k) := by
  refine F.ok sc_w_told (fun vs H Q E h => ?_) (fun cdv A outer s H vs Q E hr h => ?_)
  · obtain ⟨g, rfl, _⟩ := h
    rfl
  · obtain ⟨g, rfl, ht, kq⟩ := h
    refine ⟨_, PSs.nox (pss_one (ps_try_as (i := 1) (c := .ref (ca K "TileError")) (tb := fun W D σ H => tAct P w K mg base k W σ H D.rt) (ts := fun a cls d D σ H => cls = .ref (ca K "TooMany") ∧ d = none ∧ (1 < σ.length → σ[1]? = some (some (.ref a))) ∧ D.rt (.str "many") H) (Wout := fun _ _ _ _ => False)
      rfl rfl sc_w_told.nd rfl rfl ⟨rfl, by decide, .inl te.te⟩ LamX.takes0 (fun W pn xe tk _ => pss_one (ps_ret (pe_act0 tk hr rfl (Or.inl rfl) (by decide) (by decide)))) (fun a oe cls d pn hz hf => ?_))), ?_⟩
    · by_cases hcd : cls = .ref (ca K "TooMany") ∧ d = none
      · obtain ⟨rfl, rfl⟩ := hcd
        refine pss_imp (pss_one (ps_ret (pe_ifExp (pt_val (pe_callB (call_isE te.ec hz hf) (by rfl) T.isinstance (by decide +kernel) (pa_cons (pv 1) (pa_cons (C8.pe_gc (v := .ref (ca K "TooMany")) rfl ⟨_, te.tm, rfl⟩) pa_nil)))) pe_str pe_str))) fun D σ H hl h => ?_
        have h1 := h.2.2.1 (by rw [hl]; exact Nat.lt_succ_self 1)
        refine ⟨_, h1, .ref (ca K "TooMany"), .ref (ca K "TooMany"), true, rfl, fun u r => r, te.ki, true, rfl, ?_⟩
        refine iteT ?_
        exact h.2.2.2
      · exact ⟨fun pins s σ H D I h => absurd ⟨h.1, h.2.1⟩ hcd⟩
    · refine ⟨g, rfl, ht, fun σ' H' eH => ⟨true, te.ex, fun _ a _ => ⟨rfl, rfl, fun hl => ?_, kq H' eH⟩, fun z => by cases z⟩⟩
      rw [List.length_set] at hl
      exact List.getElem?_set_self hl
end
end TL
set_option maxHeartbeats 4000000
/-! A state's heap as a base: what is not tracked. -/
namespace TL
open PySem PySem.Spec PySem.Calls PyProof.Rows L2
open Classical in
/-- all that is tracked, and the frames, hidden -/
noncomputable def baseOf (H : Hp) (fs : List Addr) (h : Heap) : Heap := PySem.W.hideAll h ((List.range h.objs.size).filter fun b => decide (H b ≠ none ∨ b ∈ fs))
theorem baseOf_some {H : Hp} {fs : List Addr} {h : Heap} {b : Addr} {o : Obj} (e : (baseOf H fs h).get? b = some o) : h.get? b = some o ∧ H b = none ∧ b ∉ fs := by
  have e1 : h.get? b = some o := PySem.W.of_hideAll _ e
  refine ⟨e1, ?_⟩
  by_cases z : H b ≠ none ∨ b ∈ fs
  · have : (baseOf H fs h).get? b = none := PySem.W.hideAll_none _ (List.mem_filter.mpr ⟨List.mem_range.mpr (Heap.lt_size e1), decide_eq_true z⟩)
    rw [e] at this
    cases this
  · exact ⟨Classical.byContradiction fun y => z (.inl y), fun y => z (.inr y)⟩
theorem baseOf_get {H : Hp} {fs : List Addr} {h : Heap} {b : Addr} {o : Obj} (e : h.get? b = some o) (h1 : H b = none) (h2 : b ∉ fs) : (baseOf H fs h).get? b = some o :=
  PySem.W.hideAll_get _ e fun z => by
    have := of_decide_eq_true (List.mem_filter.mp z).2
    exact this.elim (fun y => y h1) h2
section
variable {X : Cx} {pins : List (Addr × Obj)} {σ : L2.St} {H : Hp} {s : Shared}
theorem base_in (I : Inv X pins σ H s) {b : Addr} {o : Obj} (e : X.base.get? b = some o) : (baseOf H (frs X.stack) s.heap).get? b = some o := by
  obtain ⟨h1, h2⟩ := I.bs b o e
  refine baseOf_get h1 h2 fun z => ?_
  have := (I.stack.mem z).1
  rw [e] at this
  cases this
theorem env_base (I : Inv X pins σ H s) : Env0 X.prog X.w X.K X.mg (baseOf H (frs X.stack) s.heap) X.A X.stack s H := by
  have e := I.env0
  have k : ∀ b o, X.base.get? b = some o → (baseOf H (frs X.stack) s.heap).get? b = some o := fun b o z => base_in I z
  obtain ⟨mb, m1, m2⟩ := e.mod.blt
  refine ⟨e.frames, ⟨e.mod.kin.keeps k, e.mod.glob.keeps k, ⟨mb, m1.keeps k, m2⟩, e.mod.nolimit.keeps k⟩, fun b o z => ⟨(baseOf_some z).1, (baseOf_some z).2.1⟩, ?_, funFrames_none e.funs fun L hL => ?_, e.frf, e.hok, e.bare⟩
  · unfold baseOf
    rw [PySem.W.hideAll_size]
    exact Nat.le_refl _
  · cases q : (baseOf H (frs X.stack) s.heap).get? L with
    | none => rfl
    | some o => exact absurd hL (baseOf_some q).2.2
/-- a cell of the def's own stands in it -/
theorem cell_base (I : Inv X pins σ H s) (hs : X.stack = X.env :: X.outer) (hf : X.env.frame = some X.env.locals) (hfn : ∀ x, X.fn x = true) {y : Str} {c : Addr} (e : X.env.cells.lookup y = some c) {v : Option Value} (hc : s.heap.IsCell c v) : (baseOf H (frs X.stack) s.heap).IsCell c v := by
  obtain ⟨o, ho, hv⟩ := hc
  refine ⟨o, baseOf_get ho (I.freeC y c e) fun z => ?_, hv⟩
  rw [hs] at z
  have z : c ∈ (X.env :: X.outer).filterMap (·.frame) := z
  rw [List.filterMap_cons, hf] at z
  rcases List.mem_cons.mp z with z | z
  · exact I.cne y c e z
  · obtain ⟨_, o', h1, _⟩ := I.ok.funs.mem z
    have := I.ok.cab y c (hfn y) e
    exact absurd (Heap.lt_size h1) (Nat.not_lt.mpr this)
/-- what of a lambda's names must be seen -/
structure LS (N : List Str) (sc scope : Scope) : Prop where
  kind : scope.kind = .function
  co : scope.isCoroutine = false
  gen : scope.isGenerator = false
  nocell : ∀ y ∈ scope.names, y.2 ≠ .cell
  own : ∀ y ∈ scope.names, y.2 = .local → y.1 ∉ N
  free : ∀ y ∈ scope.names, y.2 = .free → sc.names.lookup y.1 = some .cell
theorem ys_of {scope : Scope} (I : Inv X pins σ H s) (hs : X.stack = X.env :: X.outer) (hf : X.env.frame = some X.env.locals) (hfn : ∀ x, X.fn x = true) (L : LS X.N X.env.scope scope) :
    YS (baseOf H (frs X.stack) s.heap) X.N scope (cloFrom X.env.cells scope.names []) σ := by
  have fr : ∀ {y}, (y, NameKind.free) ∈ scope.names → ∃ c, X.env.cells.lookup y = some c := fun {y} h => I.ok.has _ (.inl (L.free _ h rfl))
  have cm : ∀ {y c}, (cloFrom X.env.cells scope.names []).lookup y = some c → X.env.cells.lookup y = some c := fun {y c} e => by
    rcases cloFrom_mem (PySem.mem_of_lookup e) with z | ⟨h1, h2⟩
    · cases z
    · obtain ⟨c1, h3⟩ := fr h1
      rw [h3] at h2 ⊢
      rw [h2]
      rfl
  have look : ∀ y, scope.names.lookup y = some .free → ∃ c, (cloFrom X.env.cells scope.names []).lookup y = some c := fun y h => mem_lookup (cloFrom_has (cells := X.env.cells) (acc := []) (PySem.mem_of_lookup h))
  refine ⟨L.kind, L.co, L.gen, L.nocell, fun y z c e1 e2 => I.ok.inj y z c (cm e1) (cm e2), look, fun y c e => ?_, fun i y v e1 e2 e3 => ?_, I.len⟩
  · obtain ⟨v, hv⟩ := I.cell y c (cm e)
    exact ⟨v, cell_base I hs hf hfn (cm e) hv⟩
  · rcases e3 with k | k | k
    · exact absurd (List.mem_of_getElem? e1) (L.own _ (PySem.mem_of_lookup k) rfl)
    · exact absurd rfl (L.nocell _ (PySem.mem_of_lookup k))
    · obtain ⟨m, hn, hl⟩ := I.loc
      have kc := L.free _ (PySem.mem_of_lookup k) rfl
      obtain ⟨u, r, z⟩ := hl i y v e1 e2 (.inr (.inl kc))
      obtain ⟨c, hc⟩ := look y k
      refine ⟨c, u, k, hc, r, ?_⟩
      rcases z with ⟨k2, _⟩ | ⟨_, c2, e4, e5⟩
      · have k2 : X.env.scope.names.lookup y = some .local := k2
        have kc : X.env.scope.names.lookup y = some .cell := kc
        rw [k2] at kc
        cases kc
      · rw [cm hc] at e4
        cases e4
        exact cell_base I hs hf hfn (cm hc) e5
end
end TL
set_option maxHeartbeats 4000000
/-! A comprehension over a list whose test is never true; its test may lean on what the def itself knows. -/
namespace TL
open PySem PySem.Spec PySem.Calls PyProof.Rows L2
section
variable {X : Cx} {pins : List (Addr × Obj)} {σ : L2.St} {H : Hp} {s : Shared}
theorem lc_no {elt tg iter : Expr} {ifs : List Expr} {scope : Scope} {own : List (Str × Nat)} {pos : Pos} {wi : TI} {a : Addr} {xs : List V} {j : Nat} {Q : Value → Shared → Prop} (hcalm : X.calm = true) (hN : X.N.Nodup) (I : Inv X pins σ H s) (hi : PI X tg iter wi)
    (ok : BlkOk X.N X.env.scope scope own) (hg : ∀ (s : Shared) (H : Hp) (C : Addr) (cl : List (Str × Addr)) (fp : List Addr), PG (X.blk s H scope (compEnvC scope cl C X.env) fp) tg (gName j)) (hs : ∀ x, foldedSetIterable iter X.env x = pure x)
    (hw : wi σ H fun J H1 => J = Itl X.K a ∧ H1 = H) (hx : H a = some (.lst xs)) (hwp : ∀ x, wipe ((wipe σ (own.map (·.2))).set j (some x)) (own.map (·.2)) = wipe σ (own.map (·.2)))
    (ht : ∀ s3 H3 C cl fp pn s5 H5 x, x ∈ xs → Inv X pins σ H3 s3 → TL.Ex H H5 → (∀ b o, s3.heap.get? b = some o → H3 b = none → b ∉ fp → True) → Inv (X.blk s3 H3 scope (compEnvC scope cl C X.env) fp) pn ((wipe σ (own.map (·.2))).set j (some x)) H5 s5 → (∀ b ∈ fp, FpOk X pins H3 b) →
      wpAny (model X.prog X.w) X.A (forIn ifs true fun c r => if r = true then do let ok ← isTrue c (compEnvC scope cl C X.env) (eval c (compEnvC scope cl C X.env)); pure (ForInStep.yield ok) else pure (ForInStep.yield r))
        (fun b s6 => b = false ∧ ∃ H6, TL.Ex H5 H6 ∧ Inv (X.blk s3 H3 scope (compEnvC scope cl C X.env) fp) pn ((wipe σ (own.map (·.2))).set j (some x)) H6 s6) (fun _ _ => False) s5)
    (h : ∀ D H' s', Inv X pins σ H' s' → TL.Ex H H' → H D = none → H' D = some (.lst []) → Q (.ref D) s') :
    wpAny (model X.prog X.w) X.A (eval (.ListComp elt [⟨tg, iter, ifs, 0⟩] scope pos) X.env) Q X.xe s := by
  rw [eval_ListComp]
  have caught : ∀ y ∈ scope.names, y.2 = .free → ∃ c, X.env.cells.lookup y.1 = some c := fun y hy e => (ok.free y hy e).elim (fun z => I.ok.has _ (.inl z)) fun z => I.ok.has _ (.inr z)
  refine wpAny_comprehension_free (use := none) rfl hs (closure_ok caught) ok.kind (fun y hy e => (ok.uniq y hy).trans (congrArg some e)) (thn (hi.run pins s σ H _ I hw) fun u1 s1 got => thn got fun u2 s2 ⟨it, fp, tn, J, H2, eit, I2, T, st2, free2, eJ, eH⟩ => ?_)
  subst eit eJ
  have eH := eH.symm
  subst eH
  refine wpAny_newObj_type (newEnv_comp ?_) (Nat.zero_le _)
  generalize eD : s2.heap.objs.size = D
  have newD : H D = none := I2.hok.fresh (Nat.le_of_eq eD)
  have grow : TL.Ex H (upd H D (.lst [])) := Ex.new newD
  generalize eB : ({ s2 with heap := s2.heap.push { cls := .type "list", data := .seq ([] : List Value).toArray } } : Shared) = sB
  have hB : sB.heap = s2.heap.push { cls := .type "list", data := .seq ([] : List Value).toArray } := by rw [← eB]
  have IB : Inv X pins σ (upd H D (.lst [])) sB := by
    subst eB
    exact I2.laid (t' := s2.toks) (fun b o z => Heap.get?_push_of_some _ z) (Nat.le_of_eq eD) ⟨Nat.zero_le _, [], 0, .nil, eD ▸ Heap.get?_push_size _ rfl⟩
  have below : ∀ b ∈ fp, b < s2.heap.objs.size := fun b hb => by
    obtain ⟨o, z, _⟩ := T.obj _ _ st2 b hb
    exact Heap.lt_size z
  have freeB : ∀ b ∈ fp, FpOk X pins (upd H D (.lst [])) b ∧ b < sB.heap.objs.size := fun b hb => by
    have lt := below b hb
    have nb : b ≠ D := by rw [← eD]; exact Nat.ne_of_lt lt
    exact ⟨⟨(upd_ne nb).trans (free2 b hb).1, (free2 b hb).2⟩, by rw [hB, Heap.size_push]; exact Nat.lt_succ_of_lt lt⟩
  have stB : tn 0 sB.heap := T.keep _ _ _ st2 fun b _ o z => by rw [hB]; exact Heap.get?_push_of_some _ z
  have IC := block_start IB ok hN freeB
  show codeAny _ _ (.compStart (.ListComp elt [⟨tg, iter, ifs, 0⟩] scope pos) 0 (.ref it) (.ref D) (compEnvC scope (cellsFrom (sB.heap.objs.size + 1) scope.names (cloFrom X.env.cells scope.names [])) sB.heap.objs.size X.env)) (compPost (model X.prog X.w) X.A X.xe none Q (.ref D) sB.heap.objs.size) { sB with heap := pushCells (sB.heap.push { cls := .type "dict", data := .dict #[] }) scope.names }
  generalize ecl : cellsFrom (sB.heap.objs.size + 1) scope.names (cloFrom X.env.cells scope.names []) = cl at IC ⊢
  have pg := hg sB (upd H D (.lst [])) sB.heap.objs.size cl fp
  have xsB : (upd H D (.lst [])) a = some (.lst xs) := grow _ _ hx
  generalize eHB : upd H D (.lst []) = HB at IB IC pg freeB grow xsB
  have hDB : HB D = some (.lst []) := by rw [← eHB, upd_same]
  generalize eS : ({ sB with heap := pushCells (sB.heap.push { cls := .type "dict", data := .dict #[] }) scope.names } : Shared) = sC at IC ⊢
  have stC : tn 0 sC.heap := T.keep _ _ _ stB fun b _ o z => by rw [← eS]; exact pushCells_keeps _ _ _ _ (Heap.get?_push_of_some _ z)
  generalize eX : X.blk sB HB scope (compEnvC scope cl sB.heap.objs.size X.env) fp = Y at IC pg
  have fpY : ∀ {τ : L2.St} {G : Hp} {t : Shared}, Inv Y [] τ G t → (∀ b ∈ fp, G b = none) → ∀ b ∈ fp, FpOk Y [] G b := fun {τ G t} J hn b hb => by
    subst eX
    exact ⟨hn b hb, (J.ok.exf b hb).1, J.ok.exfs b hb, .inl hb, fun y c z => (J.ok.exf b hb).2 y c z, fun p hp => absurd (show p ∈ ([] : List (Addr × Obj)) ++ [] from hp) (by simp)⟩
  have loop : codeAny (model X.prog X.w) X.A (.compLoop (.ListComp elt [⟨tg, iter, ifs, 0⟩] scope pos) 0 (.ref it) (.ref D) (compEnvC scope cl sB.heap.objs.size X.env)) (compPost (model X.prog X.w) X.A X.xe none Q (.ref D) sB.heap.objs.size) sC := by
    refine compLoop_any (fun n t => ∃ i G, n = xs.length - i ∧ i ≤ xs.length ∧ Inv Y [] (wipe σ (own.map (·.2))) G t ∧ tn i t.heap ∧ (∀ b ∈ fp, G b = none) ∧ TL.Ex HB G) ?_ xs.length ⟨0, HB, rfl, Nat.zero_le _, IC, stC, fun b hb => (freeB b hb).1.1, Ex.refl _⟩
    rintro n t ⟨i, G, rfl, hi', J, st, nf, eG⟩
    have hseq : SqL X.K G a xs := SqL.of (eG _ _ xsB)
    by_cases lt : i < xs.length
    · have gone := T.item Y (by subst eX; rfl) (by subst eX; rfl) (by subst eX; rfl) (by subst eX; exact hcalm) i [] t _ G (fun _ _ => False) J (fpY J nf) st ⟨xs, xs[i], hseq, by simp [lt]⟩
      subst eX
      refine thnF gone fun r t1 ⟨u, er, rest⟩ => ?_
      subst er
      refine thnF rest fun _ t2 ⟨x, G2, J2, rx, yl, st2', nf2⟩ => ?_
      obtain ⟨eG2, yl⟩ := yl
      subst eG2
      have hxi : xs[i]? = some x := yl xs hseq
      have JP := J2.pinned (fpY J2 nf2) (T.obj _ _ st2')
      refine thnF (pg.run _ t2 _ G2 x u (fun τ G3 => τ = (wipe σ (own.map (·.2))).set j (some x) ∧ G3 = G2) JP rx ⟨rfl, rfl⟩) fun _ t3 ⟨τ, G3, J3, eτ, eG3⟩ => ?_
      subst eτ eG3
      refine thnF (ht sB HB sB.heap.objs.size cl fp _ t3 G3 x (List.mem_of_getElem? hxi) IB (grow.trans eG) (fun _ _ _ _ _ => trivial) J3 fun b hb => (freeB b hb).1) fun b t4 ⟨eb, G4, e34, J4⟩ => ?_
      subst eb
      rw [if_neg Bool.false_ne_true]
      have pin' : ∀ b ∈ fp, ∀ o, t2.heap.get? b = some o → t4.heap.get? b = some o ∧ G4 b = none := fun b hb o z =>
        let y := J4.pin (b, o) (List.mem_append_right _ (List.mem_append_right _ (mem_pinsAt hb z)))
        ⟨y.1, y.2.1⟩
      have back : (wipe σ (own.map (·.2))).length = ((wipe σ (own.map (·.2))).set j (some x)).length := by rw [List.length_set]
      refine ⟨xs.length - (i + 1), by omega, i + 1, G4, rfl, lt, (J4.unpinned (pins := [])).weak back (fun k v z => ?_), T.keep _ _ _ st2' fun b hb o z => (pin' b hb o z).1, fun b hb => ?_, eG.trans e34⟩
      · rw [← hwp x] at z
        exact (wipe_some z).1
      · obtain ⟨o, z, _⟩ := T.obj _ _ st2' b hb
        exact (pin' b hb o z).2
    · have over := T.done Y (by subst eX; rfl) (by subst eX; rfl) (by subst eX; rfl) (by subst eX; exact hcalm) i [] t _ G (fun _ _ => False) J (fpY J nf) st (by
        have hst : i = xs.length := by omega
        exact ⟨xs, hseq, by omega⟩)
      subst eX
      refine thnF over fun r t1 ⟨er, J1⟩ => ?_
      subst er
      have JX : Inv X pins σ G t1 := IB.call' (ch := fp) J1.os J1.base J1.hok J1.bare fun b hb => ⟨(freeB b hb).1.2.2.2.1, (freeB b hb).1.2.1, (freeB b hb).1.2.2.2.2.1, (freeB b hb).1.2.2.2.2.2⟩
      obtain ⟨m, hn, _⟩ := J1.loc
      have f := IB.fpOk (Nat.le_refl _) (show G sB.heap.objs.size = none from J1.free)
      refine ⟨m, hn, fun h2 sb => ?_⟩
      obtain ⟨f0, f1, f2, f3, f4, f5⟩ := f
      exact h D G _ (JX.turned (t' := t1.toks) (fun b o hb z => (sb.2 b hb).trans z) f0 f1 f3 f4 f5) (grow.trans eG) newD (eG _ _ hDB)
  exact codeAny_compStart_list loop (T.self X.A 0 _ _ _ stC loop)
end
end TL
set_option maxHeartbeats 4000000
namespace TL
open PySem PySem.Spec PySem.Calls PyProof.Rows L2
def lamOf : Expr → Arguments × Expr × Scope
  | .Lambda a b c _ => (a, b, c)
  | _ => (⟨[], [], none, [], [], none, []⟩, .Constant .none 0 ⟨0, 0, 0, 0⟩, defScope s_law)
def wk (i : Nat) : Stmt := worksS.getD i (.Pass ⟨0, 0, 0, 0⟩)
def lamsE : List Expr := match wk 0 with
  | .Assign _ (.List es _) _ => es
  | _ => []
def lamE1 : Expr := lamsE.getD 0 (.Constant .none 0 ⟨0, 0, 0, 0⟩)
def lamE2 : Expr := lamsE.getD 1 (.Constant .none 0 ⟨0, 0, 0, 0⟩)
def lamE3 : Expr := match wk 1 with
  | .Expr (.Call _ [e] _ _) _ => e
  | _ => .Constant .none 0 ⟨0, 0, 0, 0⟩
abbrev lm1 := lamOf lamE1
abbrev lm2 := lamOf lamE2
abbrev lm3 := lamOf lamE3
def lsB (N : List Str) (sc scope : Scope) : Bool := (match scope.kind with | .function => true | _ => false) && !scope.isCoroutine && !scope.isGenerator && scope.names.all fun y => (match y.2 with | .cell => false | .local => !(N.contains y.1) | .free => (match sc.names.lookup y.1 with | some .cell => true | _ => false) | _ => true)
theorem ls_by {N : List Str} {sc scope : Scope} (h : lsB N sc scope = true) : LS N sc scope := by
  unfold lsB at h
  simp only [Bool.and_eq_true, List.all_eq_true, Bool.not_eq_true'] at h
  obtain ⟨⟨⟨h1, h2⟩, h3⟩, h4⟩ := h
  refine ⟨?_, h2, h3, fun y hy e => ?_, fun y hy e => ?_, fun y hy e => ?_⟩
  · split at h1
    · assumption
    · cases h1
  · have := h4 y hy
    rw [e] at this
    cases this
  · have := h4 y hy
    rw [e] at this
    simpa using this
  · have := h4 y hy
    rw [e] at this
    dsimp only at this
    split at this
    · assumption
    · cases this
theorem ls1 : LS N_law (defScope s_law) lm1.2.2 := ls_by (by decide +kernel)
theorem ls2 : LS N_law (defScope s_law) lm2.2.2 := ls_by (by decide +kernel)
theorem ls3 : LS N_law (defScope s_law) lm3.2.2 := ls_by (by decide +kernel)
end TL
namespace TL
open PySem PySem.Spec PySem.Calls PyProof.Rows L2
/-- what the law knows where its works are made and called -/
structure WP (K : PySem.W.Frag) (σ : L2.St) (H : Hp) : Prop where
  ex : ∃ B x rs high wide, TL.Ex B H ∧ σ[3]? = some (some x) ∧ σ[9]? = some (some (.int ((high : Nat) : Int))) ∧ σ[10]? = some (some (.int ((wide : Nat) : Int))) ∧ (tilesV K rs).p B x ∧ rs.length ≤ 200 ∧ (1 ≤ high ∧ high ≤ 12) ∧ (1 ≤ wide ∧ wide ≤ 12) ∧ ¬ fewK rs high
theorem WP.ext {K : PySem.W.Frag} {σ : L2.St} {H H' : Hp} (w : WP K σ H) (e : TL.Ex H H') : WP K σ H' := by
  obtain ⟨B, x, rs, high, wide, e1, r⟩ := w.ex
  exact ⟨B, x, rs, high, wide, e1.trans e, r⟩
theorem bind1 {M : Model} {A : Around} {E : Value → Shared → Prop} {Q : List (Str × Value) → Shared → Prop} {s : Shared} {fd : FuncData} (hp : fd.params = lm1.1) (hd : fd.defaults = .none) (hk : fd.kwdefaults = .none) (h : Q [] s) : wpAny M A (bindArgs fd ⟨[], []⟩) Q E s := by
  obtain ⟨n0, n1, n2, n3, n4, n5, n6, n7, n8, n9, n10, n11, n12, n13, n14⟩ := fd
  dsimp only at hp hd hk
  subst hp hd hk
  exact wpAny_of_eq (a := []) rfl h
theorem bind2 {M : Model} {A : Around} {E : Value → Shared → Prop} {Q : List (Str × Value) → Shared → Prop} {s : Shared} {fd : FuncData} {t : Addr} {o : Obj} {u : Value} {n : Nat} (hp : fd.params = lm2.1) (hd : fd.defaults = .ref t) (hk : fd.kwdefaults = .none) (ho : s.heap.get? t = some o) (hdt : o.data = .seq #[u] n) (h : Q [("_law_a", u)] s) : wpAny M A (bindArgs fd ⟨[], []⟩) Q E s := by
  obtain ⟨n0, n1, n2, n3, n4, n5, n6, n7, n8, n9, n10, n11, n12, n13, n14⟩ := fd
  dsimp only at hp hd hk
  subst hp hd hk
  refine wpAny_bind (wpAny_of_eq rfl (wpAny_bind (wpAny_seqItems ho hdt ?_)))
  exact wpAny_of_eq (a := [(("_law_a" : Str), u)]) rfl h
theorem bind3 {M : Model} {A : Around} {E : Value → Shared → Prop} {Q : List (Str × Value) → Shared → Prop} {s : Shared} {fd : FuncData} {t : Addr} {o : Obj} {u : Value} {n : Nat} (hp : fd.params = lm3.1) (hd : fd.defaults = .ref t) (hk : fd.kwdefaults = .none) (ho : s.heap.get? t = some o) (hdt : o.data = .seq #[u] n) (h : Q [("_law_b", u)] s) : wpAny M A (bindArgs fd ⟨[], []⟩) Q E s := by
  obtain ⟨n0, n1, n2, n3, n4, n5, n6, n7, n8, n9, n10, n11, n12, n13, n14⟩ := fd
  dsimp only at hp hd hk
  subst hp hd hk
  refine wpAny_bind (wpAny_of_eq rfl (wpAny_bind (wpAny_seqItems ho hdt ?_)))
  exact wpAny_of_eq (a := [(("_law_b" : Str), u)]) rfl h
section
variable {P : Program} {w : World} {K : PySem.W.Frag} {mg : Str → Option Value} {base : Heap} {fL : Addr} {cdv : Value} {A : Around} {outer : List Env} {s0 : Shared} {H0 : Hp} {E : XK} {pins : List (Addr × Obj)} {σ : L2.St} {H : Hp} {s : Shared} {f c' : Addr} {dV : Value}
abbrev lawX (P : Program) (w : World) (K : PySem.W.Frag) (mg : Str → Option Value) (base : Heap) (fL : Addr) (cdv : Value) (A : Around) (outer : List Env) (s0 : Shared) (H0 : Hp) (E : XK) : Cx := cxOf (L2.CX P w) P w K mg base N_law "law" (defScope s_law) fL cdv A outer s0 H0 E
theorem thr1 (I : Inv (lawX P w K mg base fL cdv A outer s0 H0 E) pins σ H s) (wp : WP K σ H) {q : Str} (c_columns : ∀ base', Cl P w K mg base' (L2.CX P w) 2 "columns" (spColumns K))
    (hf : H f = some (FnO f q lm1.1 lm1.2.1 lm1.2.2 (cloFrom (lawX P w K mg base fL cdv A outer s0 H0 E).env.cells lm1.2.2.names []) .none c')) (hc : H c' = some (LamX.CodeO c' q)) :
    Throws P w K mg (baseOf H (frs (lawX P w K mg base fL cdv A outer s0 H0 E).stack) s.heap) 6 f H := by
  have c_columns := c_columns (baseOf H (frs (lawX P w K mg base fL cdv A outer s0 H0 E).stack) s.heap)
  refine ⟨⟨_, _, _, _, _, _, _, hf⟩, fun A' outer' s' H' E' e0 hr ex hE => ?_⟩
  obtain ⟨B, x, rs, high, wide, e1, h3, h9, h10, pt, h200, hh, hw, nf⟩ := (wp.ext ex).ex
  refine lam_run (k := 5) (N := N_law) (σ := σ) (binds := []) (tb := tCall (spColumns K) [] E' (tCons (tVar 3) (tCons (tVar 9) tNil))) e0 hr (ys_of I rfl rfl (fun _ => rfl) ls1) (ex _ _ hf) (ex _ _ hc) ?_ (fun y hy => by cases hy) (fun hr' => ?_) ?_
  · exact fun fd M A1 E1 Q1 hp hd hk hQ => bind1 hp hd hk hQ
  · exact (pe_cl c_columns hr' (by omega) rfl (passes_call (takes_of rfl rfl rfl rfl) (fun _ _ _ _ h => h)) (pa_cons (pv 3) (pa_cons (pv 9) pa_nil)))
  · exact ⟨x, h3, _, h9, B, rs, x, high, e1, rfl, pt, h200, hh.1, hh.2, fun few => absurd few nf, fun _ B2 H2 s2 => hE H2 s2.eh⟩
theorem thr2 (I : Inv (lawX P w K mg base fL cdv A outer s0 H0 E) pins σ H s) (wp : WP K σ H) {q : Str} {t : Addr} (c_counts : ∀ base', Cl P w K mg base' (L2.CX P w) 5 "counts" (spCounts K))
    (hf : H f = some (FnO f q lm2.1 lm2.2.1 lm2.2.2 (cloFrom (lawX P w K mg base fL cdv A outer s0 H0 E).env.cells lm2.2.2.names []) (.ref t) c')) (hc : H c' = some (LamX.CodeO c' q)) (ht : H t = some (.tup [.int 0])) :
    Throws P w K mg (baseOf H (frs (lawX P w K mg base fL cdv A outer s0 H0 E).stack) s.heap) 6 f H := by
  have c_counts := c_counts (baseOf H (frs (lawX P w K mg base fL cdv A outer s0 H0 E).stack) s.heap)
  refine ⟨⟨_, _, _, _, _, _, _, hf⟩, fun A' outer' s' H' E' e0 hr ex hE => ?_⟩
  obtain ⟨B, x, rs, high, wide, e1, h3, h9, h10, pt, h200, hh, hw, nf⟩ := (wp.ext ex).ex
  obtain ⟨_, its, rv, o, ho, _, m, hd⟩ := e0.hok t _ (ex _ _ ht)
  obtain ⟨u, rfl, ru⟩ := vals1 rv
  refine lam_run (k := 5) (N := N_law) (σ := σ) (binds := [(("_law_a" : Str), u)]) (tb := tCall (spCounts K) [] E' (tCons (tVar 3) (tCons (tVar 9) (tCons (tVar 10) tNil)))) e0 hr (ys_of I rfl rfl (fun _ => rfl) ls2) (ex _ _ hf) (ex _ _ hc) ?_ (fun y hy => by cases List.mem_singleton.mp hy; rfl) (fun hr' => ?_) ?_
  · exact fun fd M A1 E1 Q1 hp hd1 hk hQ => bind2 hp hd1 hk ho hd hQ
  · exact (pe_cl c_counts hr' (by omega) rfl (passes_call (takes_of rfl rfl rfl rfl) (fun _ _ _ _ h => h)) (pa_cons (pv 3) (pa_cons (pv 9) (pa_cons (pv 10) pa_nil))))
  · exact ⟨x, h3, _, h9, _, h10, B, rs, x, high, wide, e1, rfl, pt, h200, hh, hw, fun few => absurd few nf, fun _ B2 H2 s2 => hE H2 s2.eh⟩
theorem thr3 (I : Inv (lawX P w K mg base fL cdv A outer s0 H0 E) pins σ H s) (wp : WP K σ H) {q : Str} {t : Addr} (c_around : ∀ base', Cl P w K mg base' (L2.CX P w) 5 "around" (spAround K))
    (hf : H f = some (FnO f q lm3.1 lm3.2.1 lm3.2.2 (cloFrom (lawX P w K mg base fL cdv A outer s0 H0 E).env.cells lm3.2.2.names []) (.ref t) c')) (hc : H c' = some (LamX.CodeO c' q)) (ht : H t = some (.tup [.int 0])) :
    Throws P w K mg (baseOf H (frs (lawX P w K mg base fL cdv A outer s0 H0 E).stack) s.heap) 6 f H := by
  have c_around := c_around (baseOf H (frs (lawX P w K mg base fL cdv A outer s0 H0 E).stack) s.heap)
  refine ⟨⟨_, _, _, _, _, _, _, hf⟩, fun A' outer' s' H' E' e0 hr ex hE => ?_⟩
  obtain ⟨B, x, rs, high, wide, e1, h3, h9, h10, pt, h200, hh, hw, nf⟩ := (wp.ext ex).ex
  obtain ⟨_, its, rv, o, ho, _, m, hd⟩ := e0.hok t _ (ex _ _ ht)
  obtain ⟨u, rfl, ru⟩ := vals1 rv
  refine lam_run (k := 5) (N := N_law) (σ := σ) (binds := [(("_law_b" : Str), u)]) (tb := tCall (spAround K) [] E' (tCons (tVar 3) (tCons (tVar 9) (tCons (tVar 10) tNil)))) e0 hr (ys_of I rfl rfl (fun _ => rfl) ls3) (ex _ _ hf) (ex _ _ hc) ?_ (fun y hy => by cases List.mem_singleton.mp hy; rfl) (fun hr' => ?_) ?_
  · exact fun fd M A1 E1 Q1 hp hd1 hk hQ => bind3 hp hd1 hk ho hd hQ
  · exact (pe_cl c_around hr' (by omega) rfl (passes_call (takes_of rfl rfl rfl rfl) (fun _ _ _ _ h => h)) (pa_cons (pv 3) (pa_cons (pv 9) (pa_cons (pv 10) pa_nil))))
  · exact ⟨x, h3, _, h9, _, h10, B, rs, x, high, wide, e1, rfl, pt, h200, hh, hw, fun few => absurd few nf, fun _ B2 H2 s2 => hE H2 s2.eh⟩
end
end TL
set_option maxHeartbeats 4000000
namespace TL
open PySem PySem.Spec PySem.Calls PyProof.Rows L2
section
variable {P : Program} {w : World} {K : PySem.W.Frag} {mg : Str → Option Value} {base : Heap} {fL : Addr} {cdv : Value} {A : Around} {outer : List Env} {s0 : Shared} {H0 : Hp} {E : XK} {pins : List (Addr × Obj)} {σ : L2.St}
/-- one of the three works -/
def Work (cells : List (Str × Addr)) (q : Str) (f : Addr) (H : Hp) : Prop := ∃ c', H c' = some (LamX.CodeO c' q) ∧
  (H f = some (FnO f q lm1.1 lm1.2.1 lm1.2.2 (cloFrom cells lm1.2.2.names []) .none c') ∨ (∃ t, H t = some (.tup [.int 0]) ∧ H f = some (FnO f q lm2.1 lm2.2.1 lm2.2.2 (cloFrom cells lm2.2.2.names []) (.ref t) c')) ∨
    ∃ t, H t = some (.tup [.int 0]) ∧ H f = some (FnO f q lm3.1 lm3.2.1 lm3.2.2 (cloFrom cells lm3.2.2.names []) (.ref t) c'))
theorem Work.ext {cells : List (Str × Addr)} {q : Str} {f : Addr} {H H' : Hp} (w : Work cells q f H) (e : TL.Ex H H') : Work cells q f H' := by
  obtain ⟨c', h, r⟩ := w
  refine ⟨c', e _ _ h, ?_⟩
  rcases r with r | ⟨t, h1, r⟩ | ⟨t, h1, r⟩
  · exact .inl (e _ _ r)
  · exact .inr (.inl ⟨t, e _ _ h1, e _ _ r⟩)
  · exact .inr (.inr ⟨t, e _ _ h1, e _ _ r⟩)
/-- the functions that the works call -/
structure WC (P : Program) (w : World) (K : PySem.W.Frag) (mg : Str → Option Value) : Prop where
  columns : ∀ base', Cl P w K mg base' (L2.CX P w) 2 "columns" (spColumns K)
  counts : ∀ base', Cl P w K mg base' (L2.CX P w) 5 "counts" (spCounts K)
  around : ∀ base', Cl P w K mg base' (L2.CX P w) 5 "around" (spAround K)
  told : ∀ base', Cl P w K mg base' CX0 7 "_law_told" (spTold P w K mg base' 6)
theorem work_throws (C : WC P w K mg) {H : Hp} {s : Shared} {q : Str} {f : Addr} (I : Inv (lawX P w K mg base fL cdv A outer s0 H0 E) pins σ H s) (wp : WP K σ H) (wf : Work (lawX P w K mg base fL cdv A outer s0 H0 E).env.cells q f H) : Throws P w K mg (baseOf H (frs (lawX P w K mg base fL cdv A outer s0 H0 E).stack) s.heap) 6 f H := by
  obtain ⟨c', hc, r⟩ := wf
  rcases r with r | ⟨t, ht, r⟩ | ⟨t, ht, r⟩
  · exact thr1 I wp C.columns r hc
  · exact thr2 I wp C.counts r hc ht
  · exact thr3 I wp C.around r hc ht
theorem pe_told (C : WC P w K mg) {s3 : Shared} {H3 : Hp} {scope : Scope} {ce : Env} {fp : List Addr} {q : Str} {e : Expr} {p pos : Pos} {t : TA} (I3 : Inv (lawX P w K mg base fL cdv A outer s0 H0 E) pins σ H3 s3) (hfp : ∀ b ∈ fp, FpOk (lawX P w K mg base fL cdv A outer s0 H0 E) pins H3 b)
    (hr : Room 7 (lawX P w K mg base fL cdv A outer s0 H0 E).A) (hg : Gl ((lawX P w K mg base fL cdv A outer s0 H0 E).blk s3 H3 scope ce fp) "_law_told") (ha : PA ((lawX P w K mg base fL cdv A outer s0 H0 E).blk s3 H3 scope ce fp) [e] t)
    (he : starEach [e] ce = (false, eval e ce) :: starEach [] ce) (hpl : (backTo pos (starEach [] ce)).any (·.1) = false) :
    PE ((lawX P w K mg base fL cdv A outer s0 H0 E).blk s3 H3 scope ce fp) (.Call (.Name "_law_told" p) [e] [] pos) (fun τ H Q => t τ H fun vs H1 => ∃ f, vs = [.ref f] ∧ Work (lawX P w K mg base fL cdv A outer s0 H0 E).env.cells q f H1 ∧ WP K σ H1 ∧ ∀ H', TL.Ex H1 H' → Q (.str "many") H') := by
  refine ⟨fun pn s τ H Q I h => ?_⟩
  obtain ⟨g, fd, ps, F0, hm, kp, _⟩ := (C.told base).ex
  refine wpAny_Call_Name_kw (ld_glob I hg hm ?_ (by decide))
  refine PySem.W.callWith_K (h₀ := base) I.ok.mod.kin kp (thn (ha.run pos pn s τ H _ I h) fun us s1 ⟨vs, H1, I1, r, f, ev, wf, wp, k⟩ => ⟨I1.kIn, ?_⟩) he hpl
  subst ev
  obtain ⟨u, rfl, ru⟩ := vals1 r
  have IX : Inv (lawX P w K mg base fL cdv A outer s0 H0 E) pins σ H1 s1 := I3.call' (ch := fp) I1.os I1.base I1.hok I1.bare fun b hb => ⟨(hfp b hb).2.2.2.1, (hfp b hb).2.1, (hfp b hb).2.2.2.2.1, (hfp b hb).2.2.2.2.2⟩
  obtain ⟨g2, fd2, ps2, F, hm2, _, b2⟩ := (C.told (baseOf H1 (frs (lawX P w K mg base fL cdv A outer s0 H0 E).stack) s1.heap)).ex
  rw [hm] at hm2
  cases hm2
  have th := work_throws C IX wp wf
  have rc := F.run _ _ s1 H1 ⟨[u], []⟩ [u] [.ref f] Q E0 hr (env_base IX) (b2 s1 [u] I1.kIn (F.len [.ref f] H1 Q E0 ⟨f, rfl, th, k⟩)) r ⟨f, rfl, th, k⟩
  refine wpAny_call (codeAny_mono rc fun r s2 hq => ?_)
  cases r with
  | error e => exact (show False from hq).elim
  | ok fl =>
    cases fl with
    | ret u => exact I1.after hq
    | next => exact False.elim hq
    | brk => exact False.elim hq
    | cont => exact False.elim hq
end
end TL
set_option maxHeartbeats 4000000
namespace TL
open PySem PySem.Spec PySem.Calls PyProof.Rows L2
section
variable {P : Program} {w : World} {K : PySem.W.Frag} {mg : Str → Option Value} {base : Heap} {fL : Addr} {cdv : Value} {A : Around} {outer : List Env} {s0 : Shared} {H0 : Hp} {E : XK} {pins : List (Addr × Obj)} {σ : L2.St}
/-- [work for work in works if told(work) != 'many'] -/
def tNone (K : PySem.W.Frag) (cells : List (Str × Addr)) (q : Str) : TE := fun σ H Q => WP K σ H ∧ (∃ (a : Addr) (fs : List Addr), σ[11]? = some (some (.ref a)) ∧ H a = some (.lst (fs.map V.ref)) ∧ ∀ f ∈ fs, Work cells q f H) ∧ ∀ D H', TL.Ex H H' → H D = none → H' D = some (.lst []) → Q (.ref D) H'
abbrev ifTest : Stmt → Expr
  | .If t _ _ _ => t
  | _ => .Constant .none 0 ⟨0, 0, 0, 0⟩
abbrev cmpL : Expr → Expr
  | .Compare a _ _ _ => a
  | _ => .Constant .none 0 ⟨0, 0, 0, 0⟩
def lcE : Expr := cmpL (ifTest (wk 2))
def lcSc : Scope := match lcE with
  | .ListComp _ _ sc _ => sc
  | _ => defScope s_law
def lcT : Expr := match lcE with
  | .ListComp _ (⟨_, _, t :: _, _⟩ :: _) _ _ => t
  | _ => lcE
theorem pe_none (C : WC P w K mg) {q : Str} (hr : Room 7 (lawX P w K mg base fL cdv A outer s0 H0 E).A) : PE (lawX P w K mg base fL cdv A outer s0 H0 E) lcE (tNone K (lawX P w K mg base fL cdv A outer s0 H0 E).env.cells q) := by
  refine ⟨fun pins s σ H Q I h => ?_⟩
  obtain ⟨wp, ⟨a, fs, h11, ha, hfs⟩, k⟩ := h
  show wpAny _ _ (eval (.ListComp _ [⟨_, _, _, 0⟩] _ _) _) _ _ _
  refine lc_no (X := lawX P w K mg base fL cdv A outer s0 H0 E) (own := [("_law_work", 14)]) (wi := iList K (tVar 11)) (a := a) (xs := fs.map V.ref) (j := 14) rfl sc_law.nd I (kpi_list (K := K) rfl (pv 11)) (blkOk_by (N := N_law) (sc := defScope s_law) (by decide +kernel)) (fun _ _ _ _ _ => pg_name (i := 14) sc_law.nd rfl (Or.inl rfl)) (fun _ => rfl) ⟨_, h11, a, rfl, ⟨_, SqL.of ha⟩, rfl, rfl⟩ ha ?_ ?_ fun D H' s' I' e hD hD' => ⟨.ref D, H', I', rfl, k D H' e hD hD'⟩
  · intro x
    refine List.ext_getElem? fun i => ?_
    show (((σ.set 14 none).set 14 (some x)).set 14 none)[i]? = (σ.set 14 none)[i]?
    rw [List.set_set, List.set_set]
  · intro s3 H3 C' cl fp pn s5 H5 x hx I3 e35 _ J hfp
    obtain ⟨f, hf, rfl⟩ := List.mem_map.mp hx
    have l14 : 14 < σ.length := by rw [I.len]; exact (show 14 < N_law.length by decide)
    have at14 : ((wipe σ [14]).set 14 (some (.ref f)))[14]? = some (some (.ref f)) := by
      refine List.getElem?_set_self ?_
      rw [wipe_length]
      exact l14
    have wt : PT ((lawX P w K mg base fL cdv A outer s0 H0 E).blk s3 H3 lcSc (compEnvC lcSc cl C' (lawX P w K mg base fL cdv A outer s0 H0 E).env) fp) lcT _ := pt_cmpR op_ne (pe_told C (q := q) I3 hfp hr rfl (pa_cons (pv 14) pa_nil) rfl rfl) pe_str (nomark _)
    refine wpAny_tests_one (thn (wt.run pn s5 _ H5 (fun b H6 => b = false ∧ TL.Ex H5 H6) J ?_) fun b s6 z => ?_)
    · exact ⟨_, at14, f, rfl, (hfs f hf).ext e35, wp.ext e35, fun H' e' => ⟨rfl, _, rfl, by rw [dT rfl]; rfl, e'⟩⟩
    · obtain ⟨H6, J6, z1, z2⟩ := z
      exact ⟨z1, H6, z2, J6⟩
theorem ExtT.trans {T : List (Addr × Str)} {H H1 H2 : Hp} (a : ExtT T H H1) (b : ExtT T H1 H2) : ExtT T H H2 := fun c o h n => b c o (a c o h n) n
theorem ExtT.of {T : List (Addr × Str)} {H H1 : Hp} (a : TL.Ex H H1) : ExtT T H H1 := fun c o h _ => a c o h
theorem one_ne {Pt b : Addr} {q : Str} (h : b ≠ Pt) : ∀ p ∈ [(Pt, q)], p.1 ≠ b := fun p hp z => by
  cases List.mem_singleton.mp hp
  exact h z.symm
theorem Work.extT {cells : List (Str × Addr)} {q q' : Str} {f Pt : Addr} {H H' : Hp} (w : Work cells q f H) (tb : LamX.Tabs [(Pt, q')] H) (e : ExtT [(Pt, q')] H H') : Work cells q f H' := by
  obtain ⟨ps, hP, _⟩ := tb _ List.mem_cons_self
  have k : ∀ b o, H b = some o → (∀ ps, o ≠ .tbl ps) → H' b = some o := fun b o h n => e b o h (one_ne fun z => by
    rw [z, hP] at h
    exact n ps (Option.some.inj h).symm)
  have nf : ∀ {f : Addr} {q : Str} {params : Arguments} {body : Expr} {scope : Scope} {cl : List (Str × Addr)} {dV : Value} {c' : Addr} ps, FnO f q params body scope cl dV c' ≠ .tbl ps := fun ps z => by
    unfold FnO at z
    cases z
  obtain ⟨c', h, r⟩ := w
  refine ⟨c', k _ _ h LamX.codeO_ne, ?_⟩
  rcases r with r | ⟨t, h1, r⟩ | ⟨t, h1, r⟩
  · exact .inl (k _ _ r nf)
  · exact .inr (.inl ⟨t, k _ _ h1 (fun ps z => by cases z), k _ _ r nf⟩)
  · exact .inr (.inr ⟨t, k _ _ h1 (fun ps z => by cases z), k _ _ r nf⟩)
theorem works_ok (T : TB mg) (C : WC P w K mg) {c Pt : Addr} (hcd : cdv = .ref c) (TBl : LamX.TabB base mg c Pt) (hr : Room 16 (lawX P w K mg base fL cdv A outer s0 H0 E).A) :
    PSs (lawX P w K mg base fL cdv A outer s0 H0 E) worksS (tWorks K [(Pt, (lawX P w K mg base fL cdv A outer s0 H0 E).env.qual ++ "<lambda>")]) := by
  subst hcd
  have l1 : PE (lawX P w K mg base fL (.ref c) A outer s0 H0 E) lamE1 _ := pe_lam0 TBl rfl rfl ls1.free
  have l2 : PE (lawX P w K mg base fL (.ref c) A outer s0 H0 E) lamE2 _ := pe_lam1 TBl rfl rfl ls2.free
  have l3 : PE (lawX P w K mg base fL (.ref c) A outer s0 H0 E) lamE3 _ := pe_lam1 TBl rfl rfl ls3.free
  have n3 := pe_none (E := E) (base := base) (fL := fL) (cdv := .ref c) (outer := outer) (s0 := s0) (H0 := H0) C (q := (lawX P w K mg base fL (.ref c) A outer s0 H0 E).env.qual ++ "<lambda>") (hr.mono (by omega))
  refine pss_imp (pss_cons (ps_set (i := 11) sc_law.nd rfl (Or.inl rfl) (pe_lst (pa_cons l1 (pa_cons l2 pa_nil)))) (pss_cons (ps_expr (kbm (K := K) rfl PySem.F.plainAttrs_list PySem.F.slot_list_append PySem.F.type_list_append mt_append (pv 11) (pa_cons l3 pa_nil)))
    (pss_one (ps_if (pt_cmpR (kop_neD (K := K) rfl hr.units) n3 (pe_lst pa_nil) (nomark _)) (pss_one (ps_ret pe_bl)) pss_nil)))) fun D σ H hl h => ?_
  generalize (lawX P w K mg base fL (.ref c) A outer s0 H0 E).env.qual ++ "<lambda>" = q at *
  generalize hcells : (lawX P w K mg base fL (.ref c) A outer s0 H0 E).env.cells = cells at *
  obtain ⟨⟨B, x, rs, high, wide, e0, h3, h9, h10, pt, h200, hh, hw, nf, tb, th⟩, k⟩ := h
  have exB : ∀ {H' : Hp}, ExtT [(Pt, q)] H H' → TL.Ex B H' := fun {H'} e b o hb => e b o (e0 _ _ hb) fun p hp z => by
    have := th p hp
    rw [z, hb] at this
    cases this
  have tne : ∀ {H' : Hp} {b : Addr} {o : HO}, LamX.Tabs [(Pt, q)] H' → H' b = some o → (∀ ps, o ≠ .tbl ps) → b ≠ Pt := fun {H' b o} t hb n z => by
    obtain ⟨ps, hP, _⟩ := t _ List.mem_cons_self
    rw [z, hP] at hb
    exact n ps (Option.some.inj hb).symm
  have l11 : 11 < σ.length := by rw [hl]; exact (show 11 < N_law.length by decide)
  refine TL.q ⟨tb, fun f1 c1 H1 m1 => ⟨m1.tb, fun t2 f2 c2 H2 ht2 m2 => ⟨sz_le (Nat.le_of_ble_eq_true rfl), fun a ha => ?_⟩⟩⟩
  dsimp only
  have e1' : TL.Ex H1 (upd H1 t2 (.tup [.int 0])) := Ex.new ht2
  have tb1' : LamX.Tabs [(Pt, q)] (upd H1 t2 (.tup [.int 0])) := m1.tb.ext e1'
  have n2 : t2 ≠ Pt := tne tb1' upd_same fun ps z => by cases z
  have w1 : Work cells q f1 H1 := ⟨c1, m1.co, .inl m1.fn⟩
  have w2 : Work cells q f2 H2 := ⟨c2, m2.co, .inr (.inl ⟨t2, m2.ext _ _ upd_same (one_ne n2), m2.fn⟩)⟩
  have w12 := (w1.ext e1').extT tb1' m2.ext
  have e3 : TL.Ex H2 (upd H2 a (.lst [.ref f1, .ref f2])) := Ex.new ha
  have tb3 := m2.tb.ext e3
  have s11 : (σ.set 11 (some (.ref a)))[11]? = some (some (.ref a)) := List.getElem?_set_self l11
  refine TL.q ⟨.ref a, s11, .inl ⟨rfl, _, SqL.of upd_same⟩, tb3, fun t4 f4 c4 H4 ht4 m4 => ?_⟩
  have e4' := Ex.new (o := HO.tup [.int 0]) ht4
  have tb4' := tb3.ext e4'
  have n4 : t4 ≠ Pt := tne tb4' upd_same fun ps z => by cases z
  have na : a ≠ Pt := tne tb3 upd_same fun ps z => by cases z
  have a4 : H4 a = some (.lst [.ref f1, .ref f2]) := m4.ext _ _ (e4' _ _ upd_same) (one_ne na)
  have w4 : Work cells q f4 H4 := ⟨c4, m4.co, .inr (.inr ⟨t4, m4.ext _ _ upd_same (one_ne n4), m4.fn⟩)⟩
  have w14 := ((w12.ext e3).ext e4').extT tb4' m4.ext
  have w24 := ((w2.ext e3).ext e4').extT tb4' m4.ext
  refine ⟨a, _, .ref f4, rfl, rfl, a4, sz_lt (Nat.le_of_ble_eq_true rfl), ?_⟩
  have u5 : ∀ {b : Addr} {o : HO}, H4 b = some o → b ≠ a → upd H4 a (.lst [.ref f1, .ref f2, .ref f4]) b = some o := fun {b o} h z => by
    rw [upd_ne z]
    exact h
  have nl : ∀ {b : Addr} {o : HO}, H4 b = some o → (∀ xs, o ≠ .lst xs) → b ≠ a := fun {b o} h n z => by
    rw [z, a4] at h
    exact n _ (Option.some.inj h).symm
  have nco : ∀ {c' : Addr} {q : Str} xs, LamX.CodeO c' q ≠ .lst xs := fun xs z => by
    unfold LamX.CodeO at z
    cases z
  have nfo : ∀ {f : Addr} {q : Str} {params : Arguments} {body : Expr} {scope : Scope} {cl : List (Str × Addr)} {dV : Value} {c' : Addr} xs, FnO f q params body scope cl dV c' ≠ .lst xs := fun xs z => by
    unfold FnO at z
    cases z
  have wu : ∀ {g : Addr}, Work cells q g H4 → Work cells q g (upd H4 a (.lst [.ref f1, .ref f2, .ref f4])) := fun {g} w => by
    have k : ∀ {b : Addr} {o : HO}, H4 b = some o → (∀ xs, o ≠ .lst xs) → upd H4 a (.lst [.ref f1, .ref f2, .ref f4]) b = some o := fun h n => u5 h (nl h n)
    obtain ⟨c', h, r⟩ := w
    refine ⟨c', k h nco, ?_⟩
    rcases r with r | ⟨t, h1, r⟩ | ⟨t, h1, r⟩
    · exact .inl (k r nfo)
    · exact .inr (.inl ⟨t, k h1 (fun ps z => by cases z), k r nfo⟩)
    · exact .inr (.inr ⟨t, k h1 (fun ps z => by cases z), k r nfo⟩)
  -- none of the new is in H
  have hH2 : H2 a = none := ha
  have hH1 : ∀ {b : Addr}, b ≠ Pt → H2 b = none → H b = none := fun {b} n z => by
    cases h : H b with
    | none => rfl
    | some o =>
      have := m2.ext _ _ (e1' _ _ (m1.ext _ _ h (one_ne n))) (one_ne n)
      rw [z] at this
      cases this
  have x4 : ExtT [(Pt, q)] H H4 := (((ExtT.trans m1.ext (.of e1')).trans m2.ext).trans (.of e3)).trans ((ExtT.of e4').trans m4.ext)
  have x5 : ExtT [(Pt, q)] H (upd H4 a (.lst [.ref f1, .ref f2, .ref f4])) := fun b o h n => u5 (x4 _ _ h n) fun z => by
    rw [z, hH1 na ha] at h
    cases h
  dsimp only
  have hwp : WP K ((σ.set 11 (some (.ref a)))) (upd H4 a (.lst [.ref f1, .ref f2, .ref f4])) := by
    refine ⟨B, x, rs, high, wide, exB x5, ?_, ?_, ?_, pt, h200, hh, hw, nf⟩
    · rw [List.getElem?_set_ne (by decide)]; exact h3
    · rw [List.getElem?_set_ne (by decide)]; exact h9
    · rw [List.getElem?_set_ne (by decide)]; exact h10
  refine ⟨hwp, ⟨a, [f1, f2, f4], s11, upd_same, fun f hf => ?_⟩, fun D' H6 e6 hD hD' => ?_⟩
  · rcases List.mem_cons.mp hf with z | hf
    · subst z; exact wu w14
    rcases List.mem_cons.mp hf with z | hf
    · subst z; exact wu w24
    rcases List.mem_cons.mp hf with z | hf
    · subst z; exact wu w4
    cases hf
  · refine ⟨Nat.zero_le _, fun d2 hd2 => ?_⟩
    have e7 := Ex.new (o := HO.lst []) hd2
    refine ⟨.list [], .list [], Dp.lst (SqL.of (e7 _ _ hD')) .nil, Dp.lst (SqL.of upd_same) .nil, rfl, rfl, _, rfl, iteF ?_⟩
    exact k (.ref a) _ ((x5.trans (.of e6)).trans (.of e7))
end
end TL
set_option maxHeartbeats 4000000
namespace TL
open PySem PySem.Spec PySem.Calls PyProof.Rows L2
/-- a def at the top -/
structure GD (K : PySem.W.Frag) (mg : Str → Option Value) (x : Str) (st : Stmt) : Prop where
  ex : ∃ f fd, FnP K x x st f fd ∧ mg x = some (.ref f)
/-- a def in a class -/
structure MD (K : PySem.W.Frag) (C : Addr) (m qual : Str) (st : Stmt) : Prop where
  ex : ∃ f fd, FnP K m qual st f fd ∧ Cls K C ∧ Meth K C m f
/-- a class and its maker -/
structure KD (K : PySem.W.Frag) (mg : Str → Option Value) (x qual : Str) (st : Stmt) : Prop where
  ex : ∃ f fd, FnP K "__init__" qual st f fd ∧ Mk K (ca K x) f ∧ mg x = some (.ref (ca K x))
abbrev GI (mg : Str → Option Value) (x : Str) (v : V) : Prop := ∃ u, mg x = some u ∧ RelV v u
/-- what the top has left -/
structure Fcts (K : PySem.W.Frag) (mg : Str → Option Value) : Prop where
  T : TB mg
  t : TT K mg
  tm : TM K mg
  bt : BT K mg
  mt : MT K mg
  lt : LT K (ca K "Laying")
  ft : FT K (ca K "Filling")
  te : TE' K mg
  g_MOST_TILES : GI mg "MOST_TILES" (.int 200)
  g_MOST_MARK : GI mg "MOST_MARK" (.int 1000000000000)
  g_MOST_SIZE : GI mg "MOST_SIZE" (.int 12)
  g_MOST_COLUMNS : GI mg "MOST_COLUMNS" (.int 500)
  g_MOST_FIGURES : GI mg "MOST_FIGURES" (.int 12)
  g_FIGURES : GI mg "FIGURES" (.str "0123456789")
  d_need_size : GD K mg "need_size" s_need_size
  d_goes_on : GD K mg "goes_on" s_goes_on
  d_columns : GD K mg "columns" s_columns
  d_counts : GD K mg "counts" s_counts
  d_around : GD K mg "around" s_around
  d_matched : GD K mg "matched" s_matched
  d_laid : GD K mg "laid" s_laid
  d_need_fixed : GD K mg "need_fixed" s_need_fixed
  d_fillings : GD K mg "fillings" s_fillings
  d_is_laid : GD K mg "is_laid" s_is_laid
  d_turned : GD K mg "turned" s_turned
  d_mirrored : GD K mg "mirrored" s_mirrored
  d_has_neighbours : GD K mg "has_neighbours" s_has_neighbours
  d_lean : GD K mg "lean" s_lean
  d_written : GD K mg "written" s_written
  d_number_of : GD K mg "number_of" s_number_of
  d_read : GD K mg "read" s_read
  d__law_dice : GD K mg "_law_dice" s_w_dice
  d__law_next : GD K mg "_law_next" s_w_next
  d__law_many : GD K mg "_law_many" s_w_many
  d__law_steps : GD K mg "_law_steps" s_w_steps
  d__law_columns_of : GD K mg "_law_columns_of" s_w_columns_of
  d__law_counted : GD K mg "_law_counted" s_w_counted
  d__law_rings : GD K mg "_law_rings" s_w_rings
  d__law_first : GD K mg "_law_first" s_w_first
  d__law_lean : GD K mg "_law_lean" s_w_lean
  d__law_alike : GD K mg "_law_alike" s_w_alike
  d__law_like : GD K mg "_law_like" s_w_like
  d__law_told : GD K mg "_law_told" s_w_told
  d_Tiles_tiles : MD K (ca K "Tiles") "tiles" "Tiles.tiles" s_Tiles_tiles
  d_Tiles_many : MD K (ca K "Tiles") "many" "Tiles.many" s_Tiles_many
  d_Tiles_is_beside : MD K (ca K "Tiles") "is_beside" "Tiles.is_beside" s_Tiles_is_beside
  d_Tiles_is_below : MD K (ca K "Tiles") "is_below" "Tiles.is_below" s_Tiles_is_below
  d_Band_step : MD K (ca K "Band") "step" "Band.step" s_Band_step
  d_Matching_fits : MD K (ca K "Matching") "fits" "Matching.fits" s_Matching_fits
  d_Laying_fits : MD K (ca K "Laying") "fits" "Laying.fits" s_Laying_fits
  d_Laying_rows : MD K (ca K "Laying") "rows" "Laying.rows" s_Laying_rows
  d_Matching_goes : MD K (ca K "Matching") "goes" "Matching.goes" s_Matching_goes
  d_Laying_goes : MD K (ca K "Laying") "goes" "Laying.goes" s_Laying_goes
  d_Filling_many : MD K (ca K "Filling") "many" "Filling.many" s_Filling_many
  d_Filling_fits : MD K (ca K "Filling") "fits" "Laying.fits" s_Laying_fits
  u_Laying : ClX.CRead K (ca K "Laying") (.type "type")
  u_init : ∃ f fd, FnP K "__init__" "Laying.__init__" s_Laying___init__ f fd ∧ PySem.W.findCls K (.ref (ca K "Laying")) (.type "type") "__init__" = some (.val (.ref f)) ∧ mg "Laying" = some (.ref (ca K "Laying"))
  k_Tiles : KD K mg "Tiles" "Tiles.__init__" s_Tiles___init__
  k_Band : KD K mg "Band" "Band.__init__" s_Band___init__
  k_Matching : KD K mg "Matching" "Matching.__init__" s_Matching___init__
  k_Laying : KD K mg "Laying" "Laying.__init__" s_Laying___init__
  k_Filling : KD K mg "Filling" "Filling.__init__" s_Filling___init__
section
variable {P : Program} {w : World} {K : PySem.W.Frag} {mg : Str → Option Value} {base : Heap}
theorem d_c_need_size (X : Fcts K mg) : Cl P w K mg base CX0 1 "need_size" spNeed := by
  obtain ⟨f, fd, F, hm⟩ := X.d_need_size.ex
  exact ⟨f, fd, P_need_size, ok_need_size X.g_MOST_SIZE F, hm, F.kp, F.bindsN (ps := P_need_size) fun _ _ _ _ _ _ us hl => match us, hl with | [_, _], _ => rfl⟩
theorem d_c_number_of (X : Fcts K mg) : Cl P w K mg base CX0 1 "number_of" spNumber := by
  obtain ⟨f, fd, F, hm⟩ := X.d_number_of.ex
  exact ⟨f, fd, P_number_of, ok_number_of X.T X.g_MOST_FIGURES X.g_FIGURES F, hm, F.kp, F.bindsN (ps := P_number_of) fun _ _ _ _ _ _ us hl => match us, hl with | [_, _], _ => rfl⟩
theorem d_c__law_dice (X : Fcts K mg) : Cl P w K mg base CX0 1 "_law_dice" (spDice K) := by
  obtain ⟨f, fd, F, hm⟩ := X.d__law_dice.ex
  exact ⟨f, fd, P_w_dice, ok_dice X.T F, hm, F.kp, F.bindsN (ps := P_w_dice) fun _ _ _ _ _ _ us hl => match us, hl with | [_], _ => rfl⟩
theorem d_c__law_next (X : Fcts K mg) : Cl P w K mg base CX0 1 "_law_next" (spNext K) := by
  obtain ⟨f, fd, F, hm⟩ := X.d__law_next.ex
  exact ⟨f, fd, P_w_next, ok_next X.T F, hm, F.kp, F.bindsN (ps := P_w_next) fun _ _ _ _ _ _ us hl => match us, hl with | [_, _], _ => rfl⟩
theorem d_c__law_many (X : Fcts K mg) : Cl P w K mg base CX0 2 "_law_many" (spWMany K) := by
  obtain ⟨f, fd, F, hm⟩ := X.d__law_many.ex
  exact ⟨f, fd, P_w_many, ok_wmany X.T (d_c__law_next X) F, hm, F.kp, F.bindsN (ps := P_w_many) fun _ _ _ _ _ _ us hl => match us, hl with | [_], _ => rfl⟩
theorem d_c__law_steps (X : Fcts K mg) : Cl P w K mg base CX0 1 "_law_steps" spSteps := by
  obtain ⟨f, fd, F, hm⟩ := X.d__law_steps.ex
  exact ⟨f, fd, P_w_steps, ok_wsteps X.T F, hm, F.kp, F.bindsN (ps := P_w_steps) fun _ _ _ _ _ _ us hl => match us, hl with | [_, _, _], _ => rfl⟩
theorem d_c__law_columns_of (X : Fcts K mg) : Cl P w K mg base CX0 1 "_law_columns_of" spColsOf := by
  obtain ⟨f, fd, F, hm⟩ := X.d__law_columns_of.ex
  exact ⟨f, fd, P_w_columns_of, ok_wcols X.T F, hm, F.kp, F.bindsN (ps := P_w_columns_of) fun _ _ _ _ _ _ us hl => match us, hl with | [_, _], _ => rfl⟩
theorem d_c__law_counted (X : Fcts K mg) : Cl P w K mg base CX0 1 "_law_counted" spCounted := by
  obtain ⟨f, fd, F, hm⟩ := X.d__law_counted.ex
  exact ⟨f, fd, P_w_counted, ok_wcounted X.T F, hm, F.kp, F.bindsN (ps := P_w_counted) fun _ _ _ _ _ _ us hl => match us, hl with | [_, _], _ => rfl⟩
theorem d_c__law_rings (X : Fcts K mg) : Cl P w K mg base CX0 1 "_law_rings" spRings := by
  obtain ⟨f, fd, F, hm⟩ := X.d__law_rings.ex
  exact ⟨f, fd, P_w_rings, ok_wrings X.T F, hm, F.kp, F.bindsN (ps := P_w_rings) fun _ _ _ _ _ _ us hl => match us, hl with | [_, _], _ => rfl⟩
theorem d_c__law_first (X : Fcts K mg) : Cl P w K mg base CX0 1 "_law_first" spFirst := by
  obtain ⟨f, fd, F, hm⟩ := X.d__law_first.ex
  exact ⟨f, fd, P_w_first, ok_wfirst X.T F, hm, F.kp, F.bindsN (ps := P_w_first) fun _ _ _ _ _ _ us hl => match us, hl with | [_, _], _ => rfl⟩
theorem d_c__law_lean (X : Fcts K mg) : Cl P w K mg base CX0 1 "_law_lean" spWLean := by
  obtain ⟨f, fd, F, hm⟩ := X.d__law_lean.ex
  exact ⟨f, fd, P_w_lean, ok_wlean X.T F, hm, F.kp, F.bindsN (ps := P_w_lean) fun _ _ _ _ _ _ us hl => match us, hl with | [_], _ => rfl⟩
theorem d_m_Tiles_tiles (X : Fcts K mg) : Mt P w K mg base CX0 1 (ca K "Tiles") "tiles" (spTiles K) := by
  obtain ⟨f, fd, F, hc, hm⟩ := X.d_Tiles_tiles.ex
  exact ⟨f, fd, P_Tiles_tiles, hc, hm, ok_tiles X.T X.t F, F.bindsN (ps := P_Tiles_tiles) fun _ _ _ _ _ _ us hl => match us, hl with | [_], _ => rfl⟩
theorem d_m_Tiles_many (X : Fcts K mg) : Mt P w K mg base CX0 1 (ca K "Tiles") "many" (spMany K) := by
  obtain ⟨f, fd, F, hc, hm⟩ := X.d_Tiles_many.ex
  exact ⟨f, fd, P_Tiles_many, hc, hm, ok_many X.T X.t F, F.bindsN (ps := P_Tiles_many) fun _ _ _ _ _ _ us hl => match us, hl with | [_], _ => rfl⟩
theorem d_m_Tiles_is_beside (X : Fcts K mg) : Mt P w K mg base CX0 1 (ca K "Tiles") "is_beside" (spBeside K) := by
  obtain ⟨f, fd, F, hc, hm⟩ := X.d_Tiles_is_beside.ex
  exact ⟨f, fd, P_Tiles_is_beside, hc, hm, ok_is_beside X.T X.t F, F.bindsN (ps := P_Tiles_is_beside) fun _ _ _ _ _ _ us hl => match us, hl with | [_, _, _], _ => rfl⟩
theorem d_m_Tiles_is_below (X : Fcts K mg) : Mt P w K mg base CX0 1 (ca K "Tiles") "is_below" (spBelow K) := by
  obtain ⟨f, fd, F, hc, hm⟩ := X.d_Tiles_is_below.ex
  exact ⟨f, fd, P_Tiles_is_below, hc, hm, ok_is_below X.T X.t F, F.bindsN (ps := P_Tiles_is_below) fun _ _ _ _ _ _ us hl => match us, hl with | [_, _, _], _ => rfl⟩
theorem d_m_Band_step (X : Fcts K mg) : Mt P w K mg base CX0 1 (ca K "Band") "step" (spStep K) := by
  obtain ⟨f, fd, F, hc, hm⟩ := X.d_Band_step.ex
  exact ⟨f, fd, P_Band_step, hc, hm, ok_step X.T X.bt F, F.bindsN (ps := P_Band_step) fun _ _ _ _ _ _ us hl => match us, hl with | [_, _], _ => rfl⟩
theorem d_m_Matching_fits (X : Fcts K mg) : Mt P w K mg base CX0 1 (ca K "Matching") "fits" (spMFits K) := by
  obtain ⟨f, fd, F, hc, hm⟩ := X.d_Matching_fits.ex
  exact ⟨f, fd, P_Matching_fits, hc, hm, ok_mfits X.T X.mt F, F.bindsN (ps := P_Matching_fits) fun _ _ _ _ _ _ us hl => match us, hl with | [_], _ => rfl⟩
theorem d_m_Laying_fits (X : Fcts K mg) : Mt P w K mg base CX0 2 (ca K "Laying") "fits" (spLFits K) := by
  obtain ⟨f, fd, F, hc, hm⟩ := X.d_Laying_fits.ex
  exact ⟨f, fd, P_Laying_fits, hc, hm, ok_lfits X.T (d_m_Tiles_is_beside X) (d_m_Tiles_is_below X) F, F.bindsN (ps := P_Laying_fits) fun _ _ _ _ _ _ us hl => match us, hl with | [_, _], _ => rfl⟩
theorem d_m_Laying_rows (X : Fcts K mg) : Mt P w K mg base CX0 1 (ca K "Laying") "rows" (spLRows K) := by
  obtain ⟨f, fd, F, hc, hm⟩ := X.d_Laying_rows.ex
  exact ⟨f, fd, P_Laying_rows, hc, hm, ok_lrows X.T X.lt F, F.bindsN (ps := P_Laying_rows) fun _ _ _ _ _ _ us hl => match us, hl with | [_], _ => rfl⟩
theorem d_c_Tiles (X : Fcts K mg) : Mr P w K mg base CX0 1 "Tiles" (ca K "Tiles") (spTilesI K) := by
  obtain ⟨f, fd, F, hk, hm⟩ := X.k_Tiles.ex
  exact ⟨f, fd, P_Tiles___init__, hk, hm, ok_tilesI X.T X.t X.g_MOST_TILES X.g_MOST_MARK F, F.bindsN (ps := P_Tiles___init__) fun _ _ _ _ _ _ us hl => match us, hl with | [_, _], _ => rfl⟩
theorem d_c_Matching (X : Fcts K mg) : Mr P w K mg base CX0 2 "Matching" (ca K "Matching") (spMInit K) := by
  obtain ⟨f, fd, F, hk, hm⟩ := X.k_Matching.ex
  exact ⟨f, fd, P_Matching___init__, hk, hm, ok_minit X.T X.mt (d_m_Tiles_tiles X) F, F.bindsN (ps := P_Matching___init__) fun _ _ _ _ _ _ us hl => match us, hl with | [_, _, _], _ => rfl⟩
theorem d_c_Laying (X : Fcts K mg) : Mr P w K mg base CX0 2 "Laying" (ca K "Laying") (spLInit P w K) := by
  obtain ⟨f, fd, F, hk, hm⟩ := X.k_Laying.ex
  exact ⟨f, fd, P_Laying___init__, hk, hm, ok_linit X.T (d_c_need_size X) F, F.bindsN (ps := P_Laying___init__) fun _ _ _ _ _ _ us hl => match us, hl with | [_, _, _, _, _], _ => rfl⟩
theorem d_goesM (X : Fcts K mg) : ∀ r, Mt P w K mg base CX0 (1 + r + 1) (ca K "Matching") "goes" (spMG K r) := fun r => by
  obtain ⟨f, fd, F, hc, hm⟩ := X.d_Matching_goes.ex
  have b : Binds K fd P_Matching_goes [] := F.bindsN (ps := P_Matching_goes) fun _ _ _ _ _ _ us hl => match us, hl with | [_], _ => rfl
  exact ⟨f, fd, P_Matching_goes, hc, hm, ok_mgoes X.T X.mt (d_m_Matching_fits X) F hm b r, b⟩
theorem d_goesL (X : Fcts K mg) : ∀ r, Mt P w K mg base CX0 (2 + r + 1) (ca K "Laying") "goes" (spLG P w K r) := fun r => by
  obtain ⟨f, fd, F, hc, hm⟩ := X.d_Laying_goes.ex
  have b : Binds K fd P_Laying_goes [] := F.bindsN (ps := P_Laying_goes) fun _ _ _ _ _ _ us hl => match us, hl with | [_], _ => rfl
  exact ⟨f, fd, P_Laying_goes, hc, hm, ok_lgoes X.T X.lt (d_m_Tiles_many X) (d_m_Laying_fits X) F hm b r, b⟩
theorem d_c__law_like1 (X : Fcts K mg) : Cl P w K mg base CX0 3 "_law_like" (spLike 1) := by
  obtain ⟨f, fd, F, hm⟩ := X.d__law_like.ex
  have b : Binds K fd P_w_like [] := F.bindsN (ps := P_w_like) fun _ _ _ _ _ _ us hl => match us, hl with | [_, _], _ => rfl
  exact ⟨f, fd, P_w_like, ok_like X.T F hm F.kp b 1, hm, F.kp, b⟩
theorem d_c__law_like2 (X : Fcts K mg) : Cl P w K mg base CX0 4 "_law_like" (spLike 2) := by
  obtain ⟨f, fd, F, hm⟩ := X.d__law_like.ex
  have b : Binds K fd P_w_like [] := F.bindsN (ps := P_w_like) fun _ _ _ _ _ _ us hl => match us, hl with | [_, _], _ => rfl
  exact ⟨f, fd, P_w_like, ok_like X.T F hm F.kp b 2, hm, F.kp, b⟩
theorem d_told (X : Fcts K mg) (k : Nat) : Cl P w K mg base CX0 (k + 1) "_law_told" (spTold P w K mg base k) := by
  obtain ⟨f, fd, F, hm⟩ := X.d__law_told.ex
  exact ⟨f, fd, P_w_told, ok_told X.T X.te k F, hm, F.kp, F.bindsN (ps := P_w_told) fun _ _ _ _ _ _ us hl => match us, hl with | [_], _ => rfl⟩
theorem d_u_Laying___init__ (X : Fcts K mg) : Un P w K mg base CX0 2 "Laying" (ca K "Laying") "__init__" (spLInit P w K) := by
  obtain ⟨f, fd, F, hf, hm⟩ := X.u_init
  exact ⟨f, fd, P_Laying___init__, hm, X.u_Laying, hf, F.kp, ok_linit X.T (d_c_need_size X) F, F.bindsN (ps := P_Laying___init__) fun _ _ _ _ _ _ us hl => match us, hl with | [_, _, _, _, _], _ => rfl⟩
theorem d_m_Filling_fits (X : Fcts K mg) : Mt P w K mg base CX0 2 (ca K "Filling") "fits" (spLFits K) := by
  obtain ⟨f, fd, F, hc, hm⟩ := X.d_Filling_fits.ex
  exact ⟨f, fd, P_Laying_fits, hc, hm, ok_lfits X.T (d_m_Tiles_is_beside X) (d_m_Tiles_is_below X) F, F.bindsN (ps := P_Laying_fits) fun _ _ _ _ _ _ us hl => match us, hl with | [_, _], _ => rfl⟩
theorem d_m_Filling_many (X : Fcts K mg) : Mt P w K mg base CX0 4 (ca K "Filling") "many" (spFM P w K 1) := by
  obtain ⟨f, fd, F, hc, hm⟩ := X.d_Filling_many.ex
  have b : Binds K fd P_Filling_many [] := F.bindsN (ps := P_Filling_many) fun _ _ _ _ _ _ us hl => match us, hl with | [_], _ => rfl
  exact ⟨f, fd, P_Filling_many, hc, hm, ok_fmany0 X.T X.ft (d_m_Tiles_many X) (d_m_Filling_fits X) F hm b 1, b⟩
theorem d_c_goes_on (X : Fcts K mg) : Cl P w K mg base CX0 2 "goes_on" (spGoesOn K) := by
  obtain ⟨f, fd, F, hm⟩ := X.d_goes_on.ex
  exact ⟨f, fd, P_goes_on, ok_goes_on X.T X.t (d_m_Tiles_is_beside X) F, hm, F.kp, F.bindsN (ps := P_goes_on) fun _ _ _ _ _ _ us hl => match us, hl with | [_, _, _], _ => rfl⟩
theorem d_c_columns (X : Fcts K mg) : Cl P w K mg base (L2.CX P w) 2 "columns" (spColumns K) := by
  obtain ⟨f, fd, F, hm⟩ := X.d_columns.ex
  exact ⟨f, fd, P_columns, ok_columns X.T X.t X.tm X.g_MOST_COLUMNS (d_c_need_size X) (d_m_Tiles_many X) (d_m_Tiles_is_below X) F, hm, F.kp, F.bindsN (ps := P_columns) fun _ _ _ _ _ _ us hl => match us, hl with | [_, _], _ => rfl⟩
theorem d_c_matched (X : Fcts K mg) : Cl P w K mg base CX0 15 "matched" (spMatched K) := by
  obtain ⟨f, fd, F, hm⟩ := X.d_matched.ex
  exact ⟨f, fd, P_matched, ok_matched X.T X.mt (d_m_Tiles_many X) (d_c_Matching X) (d_goesM X) F, hm, F.kp, F.bindsN (ps := P_matched) fun _ _ _ _ _ _ us hl => match us, hl with | [_, _], _ => rfl⟩
theorem d_c_laid (X : Fcts K mg) : Cl P w K mg base CX0 8 "laid" (spLaid K) := by
  obtain ⟨f, fd, F, hm⟩ := X.d_laid.ex
  exact ⟨f, fd, P_laid, ok_laid X.T X.lt (d_c_Laying X) (d_goesL X) (d_m_Laying_rows X) F, hm, F.kp, F.bindsN (ps := P_laid) fun _ _ _ _ _ _ us hl => match us, hl with | [_, _, _], _ => rfl⟩
theorem d_c_need_fixed (X : Fcts K mg) : Cl P w K mg base CX0 2 "need_fixed" (spNeedF K) := by
  obtain ⟨f, fd, F, hm⟩ := X.d_need_fixed.ex
  exact ⟨f, fd, P_need_fixed, ok_need_fixed X.T (d_m_Tiles_many X) (d_c_need_size X) F, hm, F.kp, F.bindsN (ps := P_need_fixed) fun _ _ _ _ _ _ us hl => match us, hl with | [_, _, _, _], _ => rfl⟩
theorem d_c_is_laid (X : Fcts K mg) : Cl P w K mg base CX0 2 "is_laid" (spIsLaid K) := by
  obtain ⟨f, fd, F, hm⟩ := X.d_is_laid.ex
  exact ⟨f, fd, P_is_laid, ok_is_laid X.T (d_m_Tiles_is_beside X) (d_m_Tiles_is_below X) F, hm, F.kp, F.bindsN (ps := P_is_laid) fun _ _ _ _ _ _ us hl => match us, hl with | [_, _], _ => rfl⟩
theorem d_c_turned (X : Fcts K mg) : Cl P w K mg base CX0 3 "turned" (spTurned K) := by
  obtain ⟨f, fd, F, hm⟩ := X.d_turned.ex
  exact ⟨f, fd, P_turned, ok_turned X.T (d_m_Tiles_tiles X) (d_c_Tiles X) F, hm, F.kp, F.bindsN (ps := P_turned) fun _ _ _ _ _ _ us hl => match us, hl with | [_], _ => rfl⟩
theorem d_c_mirrored (X : Fcts K mg) : Cl P w K mg base CX0 3 "mirrored" (spMirrored K) := by
  obtain ⟨f, fd, F, hm⟩ := X.d_mirrored.ex
  exact ⟨f, fd, P_mirrored, ok_mirrored X.T (d_m_Tiles_tiles X) (d_c_Tiles X) F, hm, F.kp, F.bindsN (ps := P_mirrored) fun _ _ _ _ _ _ us hl => match us, hl with | [_], _ => rfl⟩
theorem d_c_has_neighbours (X : Fcts K mg) : Cl P w K mg base CX0 2 "has_neighbours" (spHasN K) := by
  obtain ⟨f, fd, F, hm⟩ := X.d_has_neighbours.ex
  exact ⟨f, fd, P_has_neighbours, ok_hasN X.T (d_m_Tiles_is_beside X) (d_m_Tiles_is_below X) F, hm, F.kp, F.bindsN (ps := P_has_neighbours) fun _ _ _ _ _ _ us hl => match us, hl with | [_, _, _], _ => rfl⟩
theorem d_c_lean (X : Fcts K mg) : Cl P w K mg base CX0 3 "lean" (spLean K) := by
  obtain ⟨f, fd, F, hm⟩ := X.d_lean.ex
  exact ⟨f, fd, P_lean, ok_lean X.T (d_m_Tiles_many X) (d_c_has_neighbours X) F, hm, F.kp, F.bindsN (ps := P_lean) fun _ _ _ _ _ _ us hl => match us, hl with | [_], _ => rfl⟩
theorem d_c_written (X : Fcts K mg) : Cl P w K mg base CX0 2 "written" (spWritten K) := by
  obtain ⟨f, fd, F, hm⟩ := X.d_written.ex
  exact ⟨f, fd, P_written, ok_written X.T (d_m_Tiles_tiles X) F, hm, F.kp, F.bindsN (ps := P_written) fun _ _ _ _ _ _ us hl => match us, hl with | [_], _ => rfl⟩
theorem d_c_read (X : Fcts K mg) : Cl P w K mg base CX0 3 "read" (spRead K) := by
  obtain ⟨f, fd, F, hm⟩ := X.d_read.ex
  exact ⟨f, fd, P_read, ok_read X.T (d_c_number_of X) (d_c_Tiles X) F, hm, F.kp, F.bindsN (ps := P_read) fun _ _ _ _ _ _ us hl => match us, hl with | [_], _ => rfl⟩
theorem d_c__law_alike (X : Fcts K mg) : Cl P w K mg base CX0 16 "_law_alike" (spAlike K) := by
  obtain ⟨f, fd, F, hm⟩ := X.d__law_alike.ex
  exact ⟨f, fd, P_w_alike, ok_alike X.T (d_c__law_next X) (d_c__law_like1 X) (d_c_matched X) (d_c_Tiles X) F, hm, F.kp, F.bindsN (ps := P_w_alike) fun _ _ _ _ _ _ us hl => match us, hl with | [_], _ => rfl⟩
theorem d_c_Band (X : Fcts K mg) : Mr P w K mg base (L2.CX P w) 3 "Band" (ca K "Band") (spBandI K) := by
  obtain ⟨f, fd, F, hk, hm⟩ := X.k_Band.ex
  exact ⟨f, fd, P_Band___init__, hk, hm, ok_bandI X.T X.t X.bt (d_c_columns X) (d_c_goes_on X) F, F.bindsN (ps := P_Band___init__) fun _ _ _ _ _ _ us hl => match us, hl with | [_, _, _], _ => rfl⟩
theorem d_c_Filling (X : Fcts K mg) : Mr P w K mg base CX0 3 "Filling" (ca K "Filling") (spFInit P w K) := by
  obtain ⟨f, fd, F, hk, hm⟩ := X.k_Filling.ex
  exact ⟨f, fd, P_Filling___init__, hk, hm, ok_finit X.T X.ft (d_u_Laying___init__ X) F, F.bindsN (ps := P_Filling___init__) fun _ _ _ _ _ _ us hl => match us, hl with | [_, _, _, _, _], _ => rfl⟩
theorem d_c_counts (X : Fcts K mg) : Cl P w K mg base (L2.CX P w) 5 "counts" (spCounts K) := by
  obtain ⟨f, fd, F, hm⟩ := X.d_counts.ex
  exact ⟨f, fd, P_counts, ok_counts X.T X.bt (d_c_need_size X) (d_c_Band X) (d_m_Band_step X) F, hm, F.kp, F.bindsN (ps := P_counts) fun _ _ _ _ _ _ us hl => match us, hl with | [_, _, _], _ => rfl⟩
theorem d_c_around (X : Fcts K mg) : Cl P w K mg base (L2.CX P w) 5 "around" (spAround K) := by
  obtain ⟨f, fd, F, hm⟩ := X.d_around.ex
  exact ⟨f, fd, P_around, ok_around X.T X.bt (d_c_need_size X) (d_c_Band X) (d_m_Band_step X) F, hm, F.kp, F.bindsN (ps := P_around) fun _ _ _ _ _ _ us hl => match us, hl with | [_, _, _], _ => rfl⟩
theorem d_c_fillings (X : Fcts K mg) : Cl P w K mg base CX0 5 "fillings" (spFillings K) := by
  obtain ⟨f, fd, F, hm⟩ := X.d_fillings.ex
  exact ⟨f, fd, P_fillings, ok_fillings X.T X.ft (d_c_need_fixed X) (d_c_Filling X) (d_m_Filling_many X) F, hm, F.kp, F.bindsN (ps := P_fillings) fun _ _ _ _ _ _ us hl => match us, hl with | [_, _, _, _], _ => rfl⟩
theorem d_wc (X : Fcts K mg) : WC P w K mg := ⟨fun _ => d_c_columns X, fun _ => d_c_counts X, fun _ => d_c_around X, fun _ => d_told X 6⟩
end
end TL
set_option maxHeartbeats 400000
namespace TL
open PySem PySem.Spec PySem.Calls PyProof.Rows L2
section
variable {P : Program} {w : World} {K : PySem.W.Frag} {mg : Str → Option Value} {base : Heap} {f : Addr}
/-- the law keeps its promise at every base that holds its table of lambdas -/
theorem law_ok {dV kV doc pm ct oc : Value} {an od : Option Addr} {osl : Array (Option Value)} {c Pt : Addr} (X : Fcts K mg) (TBl : LamX.TabB base mg c Pt)
    (lk : K.lookup f = some ⟨oc, od, .func (PySem.W.fnOf "law" "law" (defArgs s_law) (defBody s_law) (defScope s_law) dV kV doc pm an (.ref c) ct), osl⟩) (hcd : PySem.W.codeIn K (.ref c) "law" = true) :
    FnOk P w K mg base (L2.CX P w) 17 f (PySem.W.fnOf "law" "law" (defArgs s_law) (defBody s_law) (defScope s_law) dV kV doc pm an (.ref c) ct) P_law (spLaw K [(Pt, "law" ++ ".<locals>." ++ "<lambda>")]) := by
  have hw : ∀ A outer s H E, Room 16 (lawX P w K mg base f (.ref c) A outer s H E).A → PSs (lawX P w K mg base f (.ref c) A outer s H E) worksS (tWorks K [(Pt, (lawX P w K mg base f (.ref c) A outer s H E).env.qual ++ "<lambda>")]) := fun A outer s H E hr => works_ok (P := P) (w := w) (K := K) (mg := mg) (base := base) (fL := f) (cdv := .ref c) (A := A) (outer := outer) (s0 := s) (H0 := H) (E := E) X.T (d_wc X) rfl TBl hr
  have hq : ∀ A outer s H E, (lawX P w K mg base f (.ref c) A outer s H E).env.qual = "law" ++ ".<locals>." := fun _ _ _ _ _ => rfl
  have hw' : ∀ A outer s H E, Room 16 (lawX P w K mg base f (.ref c) A outer s H E).A → PSs (lawX P w K mg base f (.ref c) A outer s H E) worksS (tWorks K [(Pt, "law" ++ ".<locals>." ++ "<lambda>")]) := fun A outer s H E hr => by
    have z := hw A outer s H E hr
    rw [hq] at z
    exact z
  exact ok_law X.T _ hw' (d_c__law_dice X) (d_c__law_many X) (d_c_Tiles X) (d_c__law_next X) (d_c__law_columns_of X) (d_c__law_steps X) (d_c__law_like2 X) (d_c_columns X) (d_c_counts X) (d_c_around X) (d_c__law_counted X) (d_c__law_rings X) (d_c__law_first X) (d_c_laid X) (d_c_is_laid X) (d_c_fillings X) (d_c_lean X) (d_c__law_lean X) (d_c_turned X) (d_c_mirrored X) (d_m_Tiles_tiles X) (d_c_written X) (d_c_read X) (d_c__law_alike X) lk hcd
end
end TL
set_option maxHeartbeats 0
namespace TL
open PySem PySem.Spec PyProof.Rows L2
def dd0 : He.DefD := ⟨("need_size", none), "need_size", "need_size", defArgs s_need_size, defBody s_need_size, defScope s_need_size, [], []⟩
def dd1 : He.DefD := ⟨("goes_on", none), "goes_on", "goes_on", defArgs s_goes_on, defBody s_goes_on, defScope s_goes_on, [], []⟩
def dd2 : He.DefD := ⟨("columns", none), "columns", "columns", defArgs s_columns, defBody s_columns, defScope s_columns, [], []⟩
def dd3 : He.DefD := ⟨("counts", none), "counts", "counts", defArgs s_counts, defBody s_counts, defScope s_counts, [], []⟩
def dd4 : He.DefD := ⟨("around", none), "around", "around", defArgs s_around, defBody s_around, defScope s_around, [], []⟩
def dd5 : He.DefD := ⟨("matched", none), "matched", "matched", defArgs s_matched, defBody s_matched, defScope s_matched, [], []⟩
def dd6 : He.DefD := ⟨("laid", none), "laid", "laid", defArgs s_laid, defBody s_laid, defScope s_laid, [], []⟩
def dd7 : He.DefD := ⟨("need_fixed", none), "need_fixed", "need_fixed", defArgs s_need_fixed, defBody s_need_fixed, defScope s_need_fixed, [], []⟩
def dd8 : He.DefD := ⟨("fillings", none), "fillings", "fillings", defArgs s_fillings, defBody s_fillings, defScope s_fillings, [], []⟩
def dd9 : He.DefD := ⟨("is_laid", none), "is_laid", "is_laid", defArgs s_is_laid, defBody s_is_laid, defScope s_is_laid, [], []⟩
def dd10 : He.DefD := ⟨("turned", none), "turned", "turned", defArgs s_turned, defBody s_turned, defScope s_turned, [], []⟩
def dd11 : He.DefD := ⟨("mirrored", none), "mirrored", "mirrored", defArgs s_mirrored, defBody s_mirrored, defScope s_mirrored, [], []⟩
def dd12 : He.DefD := ⟨("has_neighbours", none), "has_neighbours", "has_neighbours", defArgs s_has_neighbours, defBody s_has_neighbours, defScope s_has_neighbours, [], []⟩
def dd13 : He.DefD := ⟨("lean", none), "lean", "lean", defArgs s_lean, defBody s_lean, defScope s_lean, [], []⟩
def dd14 : He.DefD := ⟨("written", none), "written", "written", defArgs s_written, defBody s_written, defScope s_written, [], []⟩
def dd15 : He.DefD := ⟨("number_of", none), "number_of", "number_of", defArgs s_number_of, defBody s_number_of, defScope s_number_of, [], []⟩
def dd16 : He.DefD := ⟨("read", none), "read", "read", defArgs s_read, defBody s_read, defScope s_read, [], []⟩
def dd17 : He.DefD := ⟨("_law_dice", none), "_law_dice", "_law_dice", defArgs s_w_dice, defBody s_w_dice, defScope s_w_dice, [], []⟩
def dd18 : He.DefD := ⟨("_law_next", none), "_law_next", "_law_next", defArgs s_w_next, defBody s_w_next, defScope s_w_next, [], []⟩
def dd19 : He.DefD := ⟨("_law_many", none), "_law_many", "_law_many", defArgs s_w_many, defBody s_w_many, defScope s_w_many, [], []⟩
def dd20 : He.DefD := ⟨("_law_steps", none), "_law_steps", "_law_steps", defArgs s_w_steps, defBody s_w_steps, defScope s_w_steps, [], []⟩
def dd21 : He.DefD := ⟨("_law_columns_of", none), "_law_columns_of", "_law_columns_of", defArgs s_w_columns_of, defBody s_w_columns_of, defScope s_w_columns_of, [], []⟩
def dd22 : He.DefD := ⟨("_law_counted", none), "_law_counted", "_law_counted", defArgs s_w_counted, defBody s_w_counted, defScope s_w_counted, [], []⟩
def dd23 : He.DefD := ⟨("_law_rings", none), "_law_rings", "_law_rings", defArgs s_w_rings, defBody s_w_rings, defScope s_w_rings, [], []⟩
def dd24 : He.DefD := ⟨("_law_first", none), "_law_first", "_law_first", defArgs s_w_first, defBody s_w_first, defScope s_w_first, [], []⟩
def dd25 : He.DefD := ⟨("_law_lean", none), "_law_lean", "_law_lean", defArgs s_w_lean, defBody s_w_lean, defScope s_w_lean, [], []⟩
def dd26 : He.DefD := ⟨("_law_alike", none), "_law_alike", "_law_alike", defArgs s_w_alike, defBody s_w_alike, defScope s_w_alike, [], []⟩
def dd27 : He.DefD := ⟨("_law_like", none), "_law_like", "_law_like", defArgs s_w_like, defBody s_w_like, defScope s_w_like, [], []⟩
def dd28 : He.DefD := ⟨("_law_told", none), "_law_told", "_law_told", defArgs s_w_told, defBody s_w_told, defScope s_w_told, [], []⟩
def dd29 : He.DefD := ⟨("Tiles", some "tiles"), "tiles", "Tiles.tiles", defArgs s_Tiles_tiles, defBody s_Tiles_tiles, defScope s_Tiles_tiles, [], []⟩
def dd30 : He.DefD := ⟨("Tiles", some "many"), "many", "Tiles.many", defArgs s_Tiles_many, defBody s_Tiles_many, defScope s_Tiles_many, [], []⟩
def dd31 : He.DefD := ⟨("Tiles", some "is_beside"), "is_beside", "Tiles.is_beside", defArgs s_Tiles_is_beside, defBody s_Tiles_is_beside, defScope s_Tiles_is_beside, [], []⟩
def dd32 : He.DefD := ⟨("Tiles", some "is_below"), "is_below", "Tiles.is_below", defArgs s_Tiles_is_below, defBody s_Tiles_is_below, defScope s_Tiles_is_below, [], []⟩
def dd33 : He.DefD := ⟨("Band", some "step"), "step", "Band.step", defArgs s_Band_step, defBody s_Band_step, defScope s_Band_step, [], []⟩
def dd34 : He.DefD := ⟨("Matching", some "fits"), "fits", "Matching.fits", defArgs s_Matching_fits, defBody s_Matching_fits, defScope s_Matching_fits, [], []⟩
def dd35 : He.DefD := ⟨("Laying", some "fits"), "fits", "Laying.fits", defArgs s_Laying_fits, defBody s_Laying_fits, defScope s_Laying_fits, [], []⟩
def dd36 : He.DefD := ⟨("Laying", some "rows"), "rows", "Laying.rows", defArgs s_Laying_rows, defBody s_Laying_rows, defScope s_Laying_rows, [], []⟩
def dd37 : He.DefD := ⟨("Matching", some "goes"), "goes", "Matching.goes", defArgs s_Matching_goes, defBody s_Matching_goes, defScope s_Matching_goes, [], []⟩
def dd38 : He.DefD := ⟨("Laying", some "goes"), "goes", "Laying.goes", defArgs s_Laying_goes, defBody s_Laying_goes, defScope s_Laying_goes, [], []⟩
def dd39 : He.DefD := ⟨("Filling", some "many"), "many", "Filling.many", defArgs s_Filling_many, defBody s_Filling_many, defScope s_Filling_many, [], []⟩
def dd40 : He.DefD := ⟨("Tiles", some "__init__"), "__init__", "Tiles.__init__", defArgs s_Tiles___init__, defBody s_Tiles___init__, defScope s_Tiles___init__, [], []⟩
def dd41 : He.DefD := ⟨("Band", some "__init__"), "__init__", "Band.__init__", defArgs s_Band___init__, defBody s_Band___init__, defScope s_Band___init__, [], []⟩
def dd42 : He.DefD := ⟨("Matching", some "__init__"), "__init__", "Matching.__init__", defArgs s_Matching___init__, defBody s_Matching___init__, defScope s_Matching___init__, [], []⟩
def dd43 : He.DefD := ⟨("Laying", some "__init__"), "__init__", "Laying.__init__", defArgs s_Laying___init__, defBody s_Laying___init__, defScope s_Laying___init__, [], []⟩
def dd44 : He.DefD := ⟨("Filling", some "__init__"), "__init__", "Filling.__init__", defArgs s_Filling___init__, defBody s_Filling___init__, defScope s_Filling___init__, [], []⟩
def dd45 : He.DefD := ⟨("Filling", some "fits"), "fits", "Laying.fits", defArgs s_Laying_fits, defBody s_Laying_fits, defScope s_Laying_fits, [], []⟩
def dd46 : He.DefD := ⟨("law", none), "law", "law", defArgs s_law, defBody s_law, defScope s_law, [], []⟩
def fnL : List He.DefD := [dd0, dd1, dd2, dd3, dd4, dd5, dd6, dd7, dd8, dd9, dd10, dd11, dd12, dd13, dd14, dd15, dd16, dd17, dd18, dd19, dd20, dd21, dd22, dd23, dd24, dd25, dd26, dd27, dd28, dd29, dd30, dd31, dd32, dd33, dd34, dd35, dd36, dd37, dd38, dd39, dd40, dd41, dd42, dd43, dd44, dd45, dd46]
def faL : List He.Fa := [.glo "need_size", .glo "goes_on", .glo "columns", .glo "counts", .glo "around", .glo "matched", .glo "laid", .glo "need_fixed", .glo "fillings", .glo "is_laid", .glo "turned", .glo "mirrored", .glo "has_neighbours", .glo "lean", .glo "written", .glo "number_of", .glo "read", .glo "_law_dice", .glo "_law_next", .glo "_law_many", .glo "_law_steps", .glo "_law_columns_of", .glo "_law_counted", .glo "_law_rings", .glo "_law_first", .glo "_law_lean", .glo "_law_alike", .glo "_law_like", .glo "_law_told", .glo "law", .glo "Tiles", .glo "Band", .glo "Matching", .glo "Laying", .glo "Filling", .glo "TileError", .glo "TooMany", .free "len", .free "range", .free "list", .free "tuple", .free "dict", .free "int", .free "str", .free "bool", .free "max", .free "sum", .free "isinstance", .int "MOST_TILES" 200, .int "MOST_MARK" 1000000000000, .int "MOST_SIZE" 12, .int "MOST_COLUMNS" 500, .int "MOST_FIGURES" 12, .str "FIGURES" "0123456789", .cls "Tiles", .mkr "Tiles", .noat "Tiles" "squares", .cls "Band", .mkr "Band", .noat "Band" "columns", .noat "Band" "nexts", .cls "Matching", .mkr "Matching", .noat "Matching" "one", .noat "Matching" "other", .noat "Matching" "names", .cls "Laying", .mkr "Laying", .noat "Laying" "kit", .noat "Laying" "high", .noat "Laying" "wide", .noat "Laying" "fixed", .noat "Laying" "row", .noat "Laying" "bad", .cls "Filling", .mkr "Filling", .noat "Filling" "kit", .noat "Filling" "high", .noat "Filling" "wide", .noat "Filling" "fixed", .noat "Filling" "row", .noat "Filling" "bad", .noat "Filling" "known", .meth "Tiles" "tiles", .meth "Tiles" "many", .meth "Tiles" "is_beside", .meth "Tiles" "is_below", .meth "Band" "step", .meth "Matching" "fits", .meth "Laying" "fits", .meth "Laying" "rows", .meth "Matching" "goes", .meth "Laying" "goes", .meth "Filling" "many", .meth "Filling" "fits", .exc "TooMany", .exm "TooMany" "TileError" true]
def lawD : He.Defn := ("law", none)
def tfL : List He.Defn := [lawD]
def exB (K : PySem.W.Frag) : List Bool := [PySem.W.readsIn K (ca K "Laying") (.type "type"),
  He.eqO (PySem.W.specialIn K (.ref (ca K "Laying")) "__getattribute__") (some (some (.builtin "type.__getattribute__"))),
  (match PySem.W.findCls K (.ref (ca K "Laying")) (.type "type") "__init__" with
    | some (.val (.ref f)) => decide (f = He.ma K (ca K "Laying") "__init__")
    | _ => false),
  decide (PySem.W.kitOne K (.ref (ca K "TooMany")) (.ref (ca K "TooMany")) = some true),
  He.eqO (PySem.W.findIn K (.ref (ca K "TooMany")) "__getattribute__") (some (some (.builtin "BaseException.__getattribute__"))),
  He.eqO (PySem.W.findIn K (.ref (ca K "TooMany")) "__getattr__") (some none),
  PySem.W.hasDictIn K (ca K "TooMany"),
  He.eqO (PySem.W.findIn K (.ref (ca K "TooMany")) "__class__") (some (some (.builtin "object.__class__"))),
  He.eqO (PySem.W.specialIn K (.builtin "object.__class__") "__get__") (some (some (.builtin "getset_descriptor.__get__"))),
  decide (PySem.W.takesIn K (.builtin "object.__class__") = some true),
  decide (PySem.W.mroIn K (ca K "TooMany") (.type "object") = some true)]
def exL (K : PySem.W.Frag) : Bool := (exB K).all fun b => b
/-- what is looked at: what the names reach, and the statics -/
def frQ (g : Addr → Option Obj) : PySem.W.Frag := He.frT g (PySem.cStatics :: He.asD g 6)
def seen (g : Addr → Option Obj) : He.AlX := (He.obsT faL fnL [] (frQ g), exL (frQ g) && He.tabsB g tfL (frQ g))
theorem says_seen {w : World} {h : Heap} (e : seen h.get? = He.valX fnL [] w) : He.SaysX faL fnL [] tfL exL w h (frQ h.get?) := by
  have both := Prod.mk.inj e
  have looks := Bool.and_eq_true_iff.mp both.2
  have one := Bool.and_eq_true_iff.mp (List.all_eq_true.mp looks.2 lawD (List.mem_singleton.mpr rfl))
  have tab : ∃ o, h.get? (He.cT (frQ h.get?) lawD).2 = some o ∧ He.emptyTab o = true := by
    have z := one.2
    split at z
    next o q => exact ⟨o, q, z⟩
    next => cases z
  obtain ⟨o, q, z⟩ := tab
  have only {m : He.Defn → Prop} (k : m lawD) : ∀ d ∈ tfL, m d := fun d hd => by rw [List.mem_singleton.mp hd]; exact k
  exact ⟨both.1, looks.1, only one.1, only (He.frT_none q z), only (by rw [q, He.emptyTab_eq z])⟩
def hk : PySem.W.Hook where
  α := He.AlX
  obs := fun s => seen s.heap.get?
  val := He.valX fnL []
  says := fun w h => ∃ K : PySem.W.Frag, K.In h ∧ He.SaysX faL fnL [] tfL exL w h K
  of := fun _ _ z => ⟨_, He.frT_in, says_seen z⟩
  keeps := fun _ _ _ y k => y.imp fun _ c => ⟨PySem.W.Frag.In.keeps c.1 k, c.2.t, c.2.more, c.2.hd, c.2.out, fun d hd => k _ _ (c.2.empty d hd)⟩
abbrev R : PySem.W.OpenRow := PySem.W.OpenLaw.row PySem.Challenge.rw_tilelaw_k23_whole_many_tiles
def ob (s : PySem.W.SharedT) : He.AlX := seen (HandSHeadRun.getT s)
theorem ob_eq (s : PySem.W.SharedT) : ob s = hk.obs s.abs := by
  have e : HandSHeadRun.getT s = s.abs.heap.get? := funext fun a => HandSHeadRun.getT_eq s a
  show seen _ = seen _
  rw [e]
def names1 : List PySem.Str := ["_wall", "__name__", "TileError", "BadSet", "BadSpot", "TooMany", "BadText", "MOST_TILES", "MOST_MARK", "MOST_SIZE", "Tiles", "need_size", "is_laid", "MOST_COLUMNS", "columns", "goes_on", "Band", "counts", "around", "Matching", "matched", "Laying", "laid"]
def names2 : List PySem.Str := ["need_fixed", "Filling", "fillings", "turned", "mirrored", "lean", "has_neighbours", "FIGURES", "MOST_FIGURES", "written", "number_of", "read", "_law_dice", "_law_next", "_law_like", "_law_many", "_law_steps", "_law_columns_of", "_law_counted", "_law_rings", "_law_first", "_law_lean", "_law_told", "_law_alike"]
theorem run (w : World) : HandSHeadRun.RunEq R (PySem.W.view R.prog [55]) hk ob 4000 (names1 ++ names2) w := by
  intro os
  kernel_rfl
end TL
set_option maxHeartbeats 4000000
namespace TL
open PySem PySem.Spec PySem.Calls PyProof.Rows L2
section
variable {w : World} {h : Heap} {K : PySem.W.Frag} {mg : Str → Option Value}
theorem x_at (c : He.SaysX faL fnL [] tfL exL w h K) (i : Nat) {b : Bool} (e : (exB K)[i]? = some b) : b = true := List.all_eq_true.mp c.more b (List.mem_of_getElem? e)
theorem init_at {o : Option PySem.W.CFound} {a : Addr} (h : (match o with | some (.val (.ref f)) => decide (f = a) | _ => false) = true) : o = some (.val (.ref a)) := by
  split at h
  next f => rw [of_decide_eq_true h]
  next => cases h
theorem fcts (X : K.In h) (G : h.Ns mainGlobals mg) (c : He.SaysX faL fnL [] tfL exL w h K) : Fcts K mg where
  T := ⟨(He.free_ok X G (c.t.d.fact 37 (f := .free "len") rfl)), (He.free_ok X G (c.t.d.fact 38 (f := .free "range") rfl)), (He.free_ok X G (c.t.d.fact 39 (f := .free "list") rfl)), (He.free_ok X G (c.t.d.fact 40 (f := .free "tuple") rfl)), (He.free_ok X G (c.t.d.fact 41 (f := .free "dict") rfl)), (He.free_ok X G (c.t.d.fact 42 (f := .free "int") rfl)), (He.free_ok X G (c.t.d.fact 43 (f := .free "str") rfl)), (He.free_ok X G (c.t.d.fact 44 (f := .free "bool") rfl)), (He.free_ok X G (c.t.d.fact 45 (f := .free "max") rfl)), (He.free_ok X G (c.t.d.fact 46 (f := .free "sum") rfl)), (He.free_ok X G (c.t.d.fact 47 (f := .free "isinstance") rfl))⟩
  t := ⟨(He.cls_ok (c.t.d.fact 54 (f := .cls "Tiles") rfl)), (He.noat_ok (c.t.d.fact 56 (f := .noat "Tiles" "squares") rfl))⟩
  tm := ⟨(He.exc_ok (c.t.d.fact 95 (f := .exc "TooMany") rfl)).1, (He.glo_ok X G (c.t.d.fact 36 (f := .glo "TooMany") rfl)), (He.exc_ok (c.t.d.fact 95 (f := .exc "TooMany") rfl)).2.1, (He.exc_ok (c.t.d.fact 95 (f := .exc "TooMany") rfl)).2.2.1, (He.exc_ok (c.t.d.fact 95 (f := .exc "TooMany") rfl)).2.2.2⟩
  bt := ⟨(He.cls_ok (c.t.d.fact 57 (f := .cls "Band") rfl)), (He.noat_ok (c.t.d.fact 59 (f := .noat "Band" "columns") rfl)), (He.noat_ok (c.t.d.fact 60 (f := .noat "Band" "nexts") rfl))⟩
  mt := ⟨(He.cls_ok (c.t.d.fact 61 (f := .cls "Matching") rfl)), (He.noat_ok (c.t.d.fact 63 (f := .noat "Matching" "one") rfl)), (He.noat_ok (c.t.d.fact 64 (f := .noat "Matching" "other") rfl)), (He.noat_ok (c.t.d.fact 65 (f := .noat "Matching" "names") rfl))⟩
  lt := ⟨(He.cls_ok (c.t.d.fact 66 (f := .cls "Laying") rfl)), (He.noat_ok (c.t.d.fact 68 (f := .noat "Laying" "kit") rfl)), (He.noat_ok (c.t.d.fact 69 (f := .noat "Laying" "high") rfl)), (He.noat_ok (c.t.d.fact 70 (f := .noat "Laying" "wide") rfl)), (He.noat_ok (c.t.d.fact 71 (f := .noat "Laying" "fixed") rfl)), (He.noat_ok (c.t.d.fact 72 (f := .noat "Laying" "row") rfl)), (He.noat_ok (c.t.d.fact 73 (f := .noat "Laying" "bad") rfl))⟩
  ft := ⟨⟨(He.cls_ok (c.t.d.fact 74 (f := .cls "Filling") rfl)), (He.noat_ok (c.t.d.fact 76 (f := .noat "Filling" "kit") rfl)), (He.noat_ok (c.t.d.fact 77 (f := .noat "Filling" "high") rfl)), (He.noat_ok (c.t.d.fact 78 (f := .noat "Filling" "wide") rfl)), (He.noat_ok (c.t.d.fact 79 (f := .noat "Filling" "fixed") rfl)), (He.noat_ok (c.t.d.fact 80 (f := .noat "Filling" "row") rfl)), (He.noat_ok (c.t.d.fact 81 (f := .noat "Filling" "bad") rfl))⟩, (He.noat_ok (c.t.d.fact 82 (f := .noat "Filling" "known") rfl))⟩
  te := ⟨(He.glo_ok X G (c.t.d.fact 35 (f := .glo "TileError") rfl)), (He.glo_ok X G (c.t.d.fact 36 (f := .glo "TooMany") rfl)), (He.exm_ok (c.t.d.fact 96 (f := .exm "TooMany" "TileError" true) rfl)), ⟨(He.eqO_ok (x_at c 4 rfl)), (He.eqO_ok (x_at c 5 rfl)), (He.exc_ok (c.t.d.fact 95 (f := .exc "TooMany") rfl)).2.2.1, (x_at c 6 rfl), (He.eqO_ok (x_at c 7 rfl)), (He.eqO_ok (x_at c 8 rfl)), (of_decide_eq_true (x_at c 9 rfl)), (of_decide_eq_true (x_at c 10 rfl))⟩, (of_decide_eq_true (x_at c 3 rfl))⟩
  g_MOST_TILES := (He.int_ok X G (c.t.d.fact 48 (f := .int "MOST_TILES" 200) rfl)).elim fun t e => ⟨_, e, t, rfl⟩
  g_MOST_MARK := (He.int_ok X G (c.t.d.fact 49 (f := .int "MOST_MARK" 1000000000000) rfl)).elim fun t e => ⟨_, e, t, rfl⟩
  g_MOST_SIZE := (He.int_ok X G (c.t.d.fact 50 (f := .int "MOST_SIZE" 12) rfl)).elim fun t e => ⟨_, e, t, rfl⟩
  g_MOST_COLUMNS := (He.int_ok X G (c.t.d.fact 51 (f := .int "MOST_COLUMNS" 500) rfl)).elim fun t e => ⟨_, e, t, rfl⟩
  g_MOST_FIGURES := (He.int_ok X G (c.t.d.fact 52 (f := .int "MOST_FIGURES" 12) rfl)).elim fun t e => ⟨_, e, t, rfl⟩
  g_FIGURES := (He.str_ok X G (c.t.d.fact 53 (f := .str "FIGURES" "0123456789") rfl)).elim fun t e => ⟨_, e, t, rfl⟩
  d_need_size := ⟨(c.t.d.def_ 0 (d := dd0) rfl).elim fun fd F => ⟨_, fd, F, (He.glo_ok X G (c.t.d.fact 0 (f := .glo "need_size") rfl))⟩⟩
  d_goes_on := ⟨(c.t.d.def_ 1 (d := dd1) rfl).elim fun fd F => ⟨_, fd, F, (He.glo_ok X G (c.t.d.fact 1 (f := .glo "goes_on") rfl))⟩⟩
  d_columns := ⟨(c.t.d.def_ 2 (d := dd2) rfl).elim fun fd F => ⟨_, fd, F, (He.glo_ok X G (c.t.d.fact 2 (f := .glo "columns") rfl))⟩⟩
  d_counts := ⟨(c.t.d.def_ 3 (d := dd3) rfl).elim fun fd F => ⟨_, fd, F, (He.glo_ok X G (c.t.d.fact 3 (f := .glo "counts") rfl))⟩⟩
  d_around := ⟨(c.t.d.def_ 4 (d := dd4) rfl).elim fun fd F => ⟨_, fd, F, (He.glo_ok X G (c.t.d.fact 4 (f := .glo "around") rfl))⟩⟩
  d_matched := ⟨(c.t.d.def_ 5 (d := dd5) rfl).elim fun fd F => ⟨_, fd, F, (He.glo_ok X G (c.t.d.fact 5 (f := .glo "matched") rfl))⟩⟩
  d_laid := ⟨(c.t.d.def_ 6 (d := dd6) rfl).elim fun fd F => ⟨_, fd, F, (He.glo_ok X G (c.t.d.fact 6 (f := .glo "laid") rfl))⟩⟩
  d_need_fixed := ⟨(c.t.d.def_ 7 (d := dd7) rfl).elim fun fd F => ⟨_, fd, F, (He.glo_ok X G (c.t.d.fact 7 (f := .glo "need_fixed") rfl))⟩⟩
  d_fillings := ⟨(c.t.d.def_ 8 (d := dd8) rfl).elim fun fd F => ⟨_, fd, F, (He.glo_ok X G (c.t.d.fact 8 (f := .glo "fillings") rfl))⟩⟩
  d_is_laid := ⟨(c.t.d.def_ 9 (d := dd9) rfl).elim fun fd F => ⟨_, fd, F, (He.glo_ok X G (c.t.d.fact 9 (f := .glo "is_laid") rfl))⟩⟩
  d_turned := ⟨(c.t.d.def_ 10 (d := dd10) rfl).elim fun fd F => ⟨_, fd, F, (He.glo_ok X G (c.t.d.fact 10 (f := .glo "turned") rfl))⟩⟩
  d_mirrored := ⟨(c.t.d.def_ 11 (d := dd11) rfl).elim fun fd F => ⟨_, fd, F, (He.glo_ok X G (c.t.d.fact 11 (f := .glo "mirrored") rfl))⟩⟩
  d_has_neighbours := ⟨(c.t.d.def_ 12 (d := dd12) rfl).elim fun fd F => ⟨_, fd, F, (He.glo_ok X G (c.t.d.fact 12 (f := .glo "has_neighbours") rfl))⟩⟩
  d_lean := ⟨(c.t.d.def_ 13 (d := dd13) rfl).elim fun fd F => ⟨_, fd, F, (He.glo_ok X G (c.t.d.fact 13 (f := .glo "lean") rfl))⟩⟩
  d_written := ⟨(c.t.d.def_ 14 (d := dd14) rfl).elim fun fd F => ⟨_, fd, F, (He.glo_ok X G (c.t.d.fact 14 (f := .glo "written") rfl))⟩⟩
  d_number_of := ⟨(c.t.d.def_ 15 (d := dd15) rfl).elim fun fd F => ⟨_, fd, F, (He.glo_ok X G (c.t.d.fact 15 (f := .glo "number_of") rfl))⟩⟩
  d_read := ⟨(c.t.d.def_ 16 (d := dd16) rfl).elim fun fd F => ⟨_, fd, F, (He.glo_ok X G (c.t.d.fact 16 (f := .glo "read") rfl))⟩⟩
  d__law_dice := ⟨(c.t.d.def_ 17 (d := dd17) rfl).elim fun fd F => ⟨_, fd, F, (He.glo_ok X G (c.t.d.fact 17 (f := .glo "_law_dice") rfl))⟩⟩
  d__law_next := ⟨(c.t.d.def_ 18 (d := dd18) rfl).elim fun fd F => ⟨_, fd, F, (He.glo_ok X G (c.t.d.fact 18 (f := .glo "_law_next") rfl))⟩⟩
  d__law_many := ⟨(c.t.d.def_ 19 (d := dd19) rfl).elim fun fd F => ⟨_, fd, F, (He.glo_ok X G (c.t.d.fact 19 (f := .glo "_law_many") rfl))⟩⟩
  d__law_steps := ⟨(c.t.d.def_ 20 (d := dd20) rfl).elim fun fd F => ⟨_, fd, F, (He.glo_ok X G (c.t.d.fact 20 (f := .glo "_law_steps") rfl))⟩⟩
  d__law_columns_of := ⟨(c.t.d.def_ 21 (d := dd21) rfl).elim fun fd F => ⟨_, fd, F, (He.glo_ok X G (c.t.d.fact 21 (f := .glo "_law_columns_of") rfl))⟩⟩
  d__law_counted := ⟨(c.t.d.def_ 22 (d := dd22) rfl).elim fun fd F => ⟨_, fd, F, (He.glo_ok X G (c.t.d.fact 22 (f := .glo "_law_counted") rfl))⟩⟩
  d__law_rings := ⟨(c.t.d.def_ 23 (d := dd23) rfl).elim fun fd F => ⟨_, fd, F, (He.glo_ok X G (c.t.d.fact 23 (f := .glo "_law_rings") rfl))⟩⟩
  d__law_first := ⟨(c.t.d.def_ 24 (d := dd24) rfl).elim fun fd F => ⟨_, fd, F, (He.glo_ok X G (c.t.d.fact 24 (f := .glo "_law_first") rfl))⟩⟩
  d__law_lean := ⟨(c.t.d.def_ 25 (d := dd25) rfl).elim fun fd F => ⟨_, fd, F, (He.glo_ok X G (c.t.d.fact 25 (f := .glo "_law_lean") rfl))⟩⟩
  d__law_alike := ⟨(c.t.d.def_ 26 (d := dd26) rfl).elim fun fd F => ⟨_, fd, F, (He.glo_ok X G (c.t.d.fact 26 (f := .glo "_law_alike") rfl))⟩⟩
  d__law_like := ⟨(c.t.d.def_ 27 (d := dd27) rfl).elim fun fd F => ⟨_, fd, F, (He.glo_ok X G (c.t.d.fact 27 (f := .glo "_law_like") rfl))⟩⟩
  d__law_told := ⟨(c.t.d.def_ 28 (d := dd28) rfl).elim fun fd F => ⟨_, fd, F, (He.glo_ok X G (c.t.d.fact 28 (f := .glo "_law_told") rfl))⟩⟩
  d_Tiles_tiles := ⟨(c.t.d.def_ 29 (d := dd29) rfl).elim fun fd F => ⟨_, fd, F, (He.cls_ok (c.t.d.fact 54 (f := .cls "Tiles") rfl)), (He.meth_ok (c.t.d.fact 83 (f := .meth "Tiles" "tiles") rfl))⟩⟩
  d_Tiles_many := ⟨(c.t.d.def_ 30 (d := dd30) rfl).elim fun fd F => ⟨_, fd, F, (He.cls_ok (c.t.d.fact 54 (f := .cls "Tiles") rfl)), (He.meth_ok (c.t.d.fact 84 (f := .meth "Tiles" "many") rfl))⟩⟩
  d_Tiles_is_beside := ⟨(c.t.d.def_ 31 (d := dd31) rfl).elim fun fd F => ⟨_, fd, F, (He.cls_ok (c.t.d.fact 54 (f := .cls "Tiles") rfl)), (He.meth_ok (c.t.d.fact 85 (f := .meth "Tiles" "is_beside") rfl))⟩⟩
  d_Tiles_is_below := ⟨(c.t.d.def_ 32 (d := dd32) rfl).elim fun fd F => ⟨_, fd, F, (He.cls_ok (c.t.d.fact 54 (f := .cls "Tiles") rfl)), (He.meth_ok (c.t.d.fact 86 (f := .meth "Tiles" "is_below") rfl))⟩⟩
  d_Band_step := ⟨(c.t.d.def_ 33 (d := dd33) rfl).elim fun fd F => ⟨_, fd, F, (He.cls_ok (c.t.d.fact 57 (f := .cls "Band") rfl)), (He.meth_ok (c.t.d.fact 87 (f := .meth "Band" "step") rfl))⟩⟩
  d_Matching_fits := ⟨(c.t.d.def_ 34 (d := dd34) rfl).elim fun fd F => ⟨_, fd, F, (He.cls_ok (c.t.d.fact 61 (f := .cls "Matching") rfl)), (He.meth_ok (c.t.d.fact 88 (f := .meth "Matching" "fits") rfl))⟩⟩
  d_Laying_fits := ⟨(c.t.d.def_ 35 (d := dd35) rfl).elim fun fd F => ⟨_, fd, F, (He.cls_ok (c.t.d.fact 66 (f := .cls "Laying") rfl)), (He.meth_ok (c.t.d.fact 89 (f := .meth "Laying" "fits") rfl))⟩⟩
  d_Laying_rows := ⟨(c.t.d.def_ 36 (d := dd36) rfl).elim fun fd F => ⟨_, fd, F, (He.cls_ok (c.t.d.fact 66 (f := .cls "Laying") rfl)), (He.meth_ok (c.t.d.fact 90 (f := .meth "Laying" "rows") rfl))⟩⟩
  d_Matching_goes := ⟨(c.t.d.def_ 37 (d := dd37) rfl).elim fun fd F => ⟨_, fd, F, (He.cls_ok (c.t.d.fact 61 (f := .cls "Matching") rfl)), (He.meth_ok (c.t.d.fact 91 (f := .meth "Matching" "goes") rfl))⟩⟩
  d_Laying_goes := ⟨(c.t.d.def_ 38 (d := dd38) rfl).elim fun fd F => ⟨_, fd, F, (He.cls_ok (c.t.d.fact 66 (f := .cls "Laying") rfl)), (He.meth_ok (c.t.d.fact 92 (f := .meth "Laying" "goes") rfl))⟩⟩
  d_Filling_many := ⟨(c.t.d.def_ 39 (d := dd39) rfl).elim fun fd F => ⟨_, fd, F, (He.cls_ok (c.t.d.fact 74 (f := .cls "Filling") rfl)), (He.meth_ok (c.t.d.fact 93 (f := .meth "Filling" "many") rfl))⟩⟩
  d_Filling_fits := ⟨(c.t.d.def_ 45 (d := dd45) rfl).elim fun fd F => ⟨_, fd, F, (He.cls_ok (c.t.d.fact 74 (f := .cls "Filling") rfl)), (He.meth_ok (c.t.d.fact 94 (f := .meth "Filling" "fits") rfl))⟩⟩
  u_Laying := ⟨(x_at c 0 rfl), (He.eqO_ok (x_at c 1 rfl))⟩
  u_init := (c.t.d.def_ 43 (d := dd43) rfl).elim fun fd F => ⟨_, fd, F, init_at (x_at c 2 rfl), (He.glo_ok X G (c.t.d.fact 33 (f := .glo "Laying") rfl))⟩
  k_Tiles := ⟨(c.t.d.def_ 40 (d := dd40) rfl).elim fun fd F => ⟨_, fd, F, (He.mkr_ok (c.t.d.fact 55 (f := .mkr "Tiles") rfl)), (He.glo_ok X G (c.t.d.fact 30 (f := .glo "Tiles") rfl))⟩⟩
  k_Band := ⟨(c.t.d.def_ 41 (d := dd41) rfl).elim fun fd F => ⟨_, fd, F, (He.mkr_ok (c.t.d.fact 58 (f := .mkr "Band") rfl)), (He.glo_ok X G (c.t.d.fact 31 (f := .glo "Band") rfl))⟩⟩
  k_Matching := ⟨(c.t.d.def_ 42 (d := dd42) rfl).elim fun fd F => ⟨_, fd, F, (He.mkr_ok (c.t.d.fact 62 (f := .mkr "Matching") rfl)), (He.glo_ok X G (c.t.d.fact 32 (f := .glo "Matching") rfl))⟩⟩
  k_Laying := ⟨(c.t.d.def_ 43 (d := dd43) rfl).elim fun fd F => ⟨_, fd, F, (He.mkr_ok (c.t.d.fact 67 (f := .mkr "Laying") rfl)), (He.glo_ok X G (c.t.d.fact 33 (f := .glo "Laying") rfl))⟩⟩
  k_Filling := ⟨(c.t.d.def_ 44 (d := dd44) rfl).elim fun fd F => ⟨_, fd, F, (He.mkr_ok (c.t.d.fact 75 (f := .mkr "Filling") rfl)), (He.glo_ok X G (c.t.d.fact 34 (f := .glo "Filling") rfl))⟩⟩
end
end TL
set_option maxHeartbeats 0
namespace TL
open PySem PySem.Spec PySem.Calls PyProof.Rows L2
theorem law_at {w : World} {h : Heap} {K : PySem.W.Frag} {mg : Str → Option Value} {fa : Addr} (X : K.In h) (G : h.Ns mainGlobals mg) (c : He.SaysX faL fnL [] tfL exL w h K) (hm : mg "law" = some (.ref fa)) :
    LamX.LawAtS PySem.Challenge.rw_tilelaw_k23_whole_many_tiles w K (L2.CX (PySem.Challenge.rw_tilelaw_k23_whole_many_tiles).prog w) 17 63 "_law_script" mg fa h := by
  have Y := fcts X G c
  obtain ⟨fd, F⟩ := c.t.d.def_ 46 (d := dd46) rfl
  have ef : fa = ca K "law" := by
    have e := hm.symm.trans (He.glo_ok X G (c.t.d.fact 29 (f := .glo "law") rfl))
    injection e with e
    injection e
  subst ef
  have hb := FunD.bindsA (ps := P_law) F fun _ _ _ _ _ _ us hl => match us, hl with | [_], _ => rfl
  obtain ⟨oc, od, dV, kV, doc, pm, an, cdv, ct, osl, rfl, lk, hcd, _, _⟩ := F.ex
  obtain ⟨co, rfl⟩ := He.codeIn_ref hcd
  have ec : (He.cT K lawD).1 = co := He.codeOf_eq lk rfl
  have mem : lawD ∈ tfL := List.mem_singleton.mpr rfl
  have one {m : Addr × Addr → Prop} (k : m (He.cT K lawD)) : ∀ p ∈ [He.cT K lawD], m p := fun p hp => by rw [List.mem_singleton.mp hp]; exact k
  refine ⟨_, [He.cT K lawD], spLaw K [((He.cT K lawD).2, "law" ++ ".<locals>." ++ "<lambda>")], one (c.empty _ mem), one (c.out _ mem), one (PySem.W.codeHd_of_K X (c.hd _ mem)), fun s u => hb s [u] rfl, fun H a ns hl hz ht hs => ?_, fun base KB GB hT => ?_⟩
  · refine ⟨a, ns, rfl, hs, fun p hp => ?_, fun _ => rfl⟩
    rw [List.mem_singleton.mp hp]
    exact LamX.TabS.nil (ht _ (List.mem_singleton.mpr rfl))
  · have t := hT _ (List.mem_singleton.mpr rfl)
    rw [ec] at t
    exact law_ok Y t lk hcd
end TL
open PySem PySem.W PySem.Calls PyProof.Rows
theorem PySem.Challenge.cw_tilelaw_k23_whole_many_tiles_holds : PySem.Challenge.rw_tilelaw_k23_whole_many_tiles.Holds := by
  w_on; o_law
  refine HandSHeadRun.head_any (r := TL.R) (q := view TL.R.prog [55]) (H := TL.hk) (ob := TL.ob) (M := 4000) (loose := TL.names1 ++ TL.names2) (d := HandSHeadRun.topDef TL.R.prog 55) (kwd := []) TL.ob_eq
    (by kernel_rfl) (fun s => by kernel_rfl) TL.run (by kernel_rfl) (by kernel_rfl) (by kernel_rfl) (by rfl) (by first | assumption | decide +kernel) (by decide +kernel) ⟨rfl, rfl, rfl, rfl, rfl, by decide +kernel⟩ ?hw ?hc
  case hw => w_witness2
  case hc =>
    have nm : (HandSHeadRun.topDef TL.R.prog 55).name = ("law" : PySem.Str) := by kernel_rfl
    refine LamX.walk_ofTsE (l := PySem.Challenge.rw_tilelaw_k23_whole_many_tiles) (n := 63) (k := 17) (x := "_law_script") (CX := L2.CX PySem.Challenge.rw_tilelaw_k23_whole_many_tiles.prog) rfl (by decide) (by kernel_rfl) ⟨rfl, by decide, by decide⟩ (fun w mg fa h Y G hm => ?_) (fun w H s e s' z => ?_)
    · obtain ⟨K, KX, c⟩ := Y
      exact ⟨K, KX, TL.law_at KX G c (nm ▸ hm)⟩
    · obtain ⟨_, _, _, _, _, _, _, _, _, _, _, _, no⟩ := z
      exact no
