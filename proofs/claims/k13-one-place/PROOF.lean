import PyProof.Rows.All
import Wide.All
import OpenK.AllK
import Wide.FinOn
import KE.KStateDown
import Lean
import HandS.ForMost
import HandS.Exc
import HandS.ExcOwn
import HandS.ExcIs
import HandS.ExcValue
import HandS.WordsExc
import HandS.Defaults
import HandS.Flow
import HandS.More
import HandS.NoneIn
import HandS.Deep
import HandS.SortInts
import HandS.Conv
import HandS.Zip
import HandS.IsInst
import HandS.Star
import HandS.ReplaceLit
import HandS.Head0
import HandS.Head1
import HandS.Head2
import HandS.HeadEnd
import HandS.HeadHook1
import HandS.HeadHook2
import HandS.Walk
import PySem.Challenge.RW_castshelf_k13_whole_one_place
import HandS.Replace
import HandS.ReplaceList
import HandS.Text
import HandS.TupAny
import HandS.TupSets
set_option Elab.async false
set_option linter.all false
set_option maxRecDepth 100000
set_option maxHeartbeats 4000000
/-! A1: data over the abstract heap, what readings evaluate to. -/
namespace Ho
open PySem PySem.Spec PyProof.Rows L2

/-- data: what a value stands for -/
inductive D where
  | non | bl (b : Bool) | int (i : Int) | str (s : Str) | ref (a : Addr) | tup (l : List D) | lst (l : List D)

mutual
inductive At (H : Hp) : D → V → Prop
  | non : At H .non .non
  | bl (b : Bool) : At H (.bl b) (.bl b)
  | int (i : Int) : At H (.int i) (.int i)
  | str (s : Str) : At H (.str s) (.str s)
  | ref (a : Addr) : At H (.ref a) (.ref a)
  | tup {a : Addr} {vs : List V} {ds : List D} : H a = some (.tup vs) → Ats H ds vs → At H (.tup ds) (.ref a)
  | lst {a : Addr} {vs : List V} {ds : List D} : H a = some (.lst vs) → Ats H ds vs → At H (.lst ds) (.ref a)
inductive Ats (H : Hp) : List D → List V → Prop
  | nil : Ats H [] []
  | cons {d : D} {v : V} {ds : List D} {vs : List V} : At H d v → Ats H ds vs → Ats H (d :: ds) (v :: vs)
end

mutual
theorem At.mono {H H' : Hp} (e : Same H H') : ∀ {d : D} {v : V}, At H d v → At H' d v
  | _, _, .non => .non
  | _, _, .bl b => .bl b
  | _, _, .int i => .int i
  | _, _, .str s => .str s
  | _, _, .ref a => .ref a
  | _, _, .tup h t => .tup (e _ _ h) (Ats.mono e t)
  | _, _, .lst h t => .lst (e _ _ h) (Ats.mono e t)
theorem Ats.mono {H H' : Hp} (e : Same H H') : ∀ {ds : List D} {vs : List V}, Ats H ds vs → Ats H' ds vs
  | _, _, .nil => .nil
  | _, _, .cons h t => .cons (At.mono e h) (Ats.mono e t)
end
/-- tuples never change -/
def Tle (H H' : Hp) : Prop := ∀ a vs, H a = some (.tup vs) → H' a = some (.tup vs)
theorem Tle.of {H H' : Hp} (e : Same H H') : Tle H H' := fun a _ h => e a _ h
theorem Tle.trans {H H1 H2 : Hp} (a : Tle H H1) (b : Tle H1 H2) : Tle H H2 := fun x vs h => b x vs (a x vs h)
theorem Tle.refl (H : Hp) : Tle H H := fun _ _ h => h
mutual
/-- no list in it -/
def D.nl : D → Bool
  | .lst _ => false
  | .tup l => nls l
  | .non => true
  | .bl _ => true
  | .int _ => true
  | .str _ => true
  | .ref _ => true
def nls : List D → Bool
  | [] => true
  | d :: ds => d.nl && nls ds
end
mutual
theorem At.tle {H H' : Hp} (e : Tle H H') : ∀ {d : D} {v : V}, d.nl = true → At H d v → At H' d v
  | _, _, _, .non => .non
  | _, _, _, .bl b => .bl b
  | _, _, _, .int i => .int i
  | _, _, _, .str s => .str s
  | _, _, _, .ref a => .ref a
  | _, _, n, .tup h t => .tup (e _ _ h) (Ats.tle e (by unfold D.nl at n; exact n) t)
  | _, _, n, .lst h t => by
    unfold D.nl at n
    cases n
theorem Ats.tle {H H' : Hp} (e : Tle H H') : ∀ {ds : List D} {vs : List V}, nls ds = true → Ats H ds vs → Ats H' ds vs
  | _, _, _, .nil => .nil
  | _, _, n, .cons h t => by
    unfold nls at n
    obtain ⟨n1, n2⟩ := Bool.and_eq_true_iff.mp n
    exact .cons (At.tle e n1 h) (Ats.tle e n2 t)
end
theorem nls_map {α : Type} (f : α → D) (h : ∀ x, (f x).nl = true) : ∀ l : List α, nls (l.map f) = true
  | [] => rfl
  | x :: l => by
    show ((f x).nl && nls (l.map f)) = true
    rw [h x, nls_map f h l]; rfl

theorem Ats.length {H : Hp} : ∀ {ds : List D} {vs : List V}, Ats H ds vs → ds.length = vs.length
  | _, _, .nil => rfl
  | _, _, .cons _ t => congrArg (· + 1) t.length
theorem Ats.get {H : Hp} : ∀ {ds : List D} {vs : List V} {i : Nat} {d : D}, Ats H ds vs → ds[i]? = some d → ∃ v, vs[i]? = some v ∧ At H d v
  | _, _, _, _, .nil, e => by simp at e
  | _, _, 0, _, .cons h _, e => by simp at e; subst e; exact ⟨_, rfl, h⟩
  | _, _, i + 1, d, .cons _ t, e => by
    obtain ⟨v, h1, h2⟩ := Ats.get (i := i) (d := d) t (by simpa using e)
    exact ⟨v, by simpa using h1, h2⟩
theorem Ats.getv {H : Hp} : ∀ {ds : List D} {vs : List V} {i : Nat} {v : V}, Ats H ds vs → vs[i]? = some v → ∃ d, ds[i]? = some d ∧ At H d v
  | _, _, _, _, .nil, e => by simp at e
  | _, _, 0, _, .cons h _, e => by simp at e; subst e; exact ⟨_, rfl, h⟩
  | _, _, i + 1, v, .cons _ t, e => by
    obtain ⟨d, h1, h2⟩ := Ats.getv (i := i) (v := v) t (by simpa using e)
    exact ⟨d, by simpa using h1, h2⟩
theorem Ats.app {H : Hp} : ∀ {ds es : List D} {vs ws : List V}, Ats H ds vs → Ats H es ws → Ats H (ds ++ es) (vs ++ ws)
  | _, _, _, _, .nil, s => s
  | _, _, _, _, .cons h t, s => .cons h (t.app s)
theorem Ats.one {H : Hp} {d : D} {v : V} (h : At H d v) : Ats H [d] [v] := .cons h .nil
theorem Ats.take {H : Hp} : ∀ {ds : List D} {vs : List V} (n : Nat), Ats H ds vs → Ats H (ds.take n) (vs.take n)
  | _, _, 0, _ => by simp only [List.take_zero]; exact .nil
  | _, _, _ + 1, .nil => by simp only [List.take_nil]; exact .nil
  | _, _, n + 1, .cons h t => .cons h (t.take n)
theorem Ats.drop {H : Hp} : ∀ {ds : List D} {vs : List V} (n : Nat), Ats H ds vs → Ats H (ds.drop n) (vs.drop n)
  | _, _, 0, h => by simpa only [List.drop_zero] using h
  | _, _, _ + 1, .nil => by simp only [List.drop_nil]; exact .nil
  | _, _, n + 1, .cons h t => t.drop n
theorem Ats.erase {H : Hp} : ∀ {ds : List D} {vs : List V} (n : Nat), Ats H ds vs → Ats H (ds.eraseIdx n) (vs.eraseIdx n)
  | _, _, _, .nil => .nil
  | _, _, 0, .cons h t => t
  | _, _, n + 1, .cons h t => .cons h (t.erase n)
theorem Ats.ints {H : Hp} : ∀ {ns : List Int} {vs : List V}, Ats H (ns.map D.int) vs → vs = ns.map V.int
  | [], _, h => by cases h; rfl
  | n :: ns, _, h => by
    cases h with
    | cons h t => cases h; rw [t.ints]; rfl
theorem ats_ints {H : Hp} : ∀ ns : List Int, Ats H (ns.map D.int) (ns.map V.int)
  | [] => .nil
  | n :: ns => .cons (.int n) (ats_ints ns)
theorem Ats.strs {H : Hp} : ∀ {ns : List Str} {vs : List V}, Ats H (ns.map D.str) vs → vs = ns.map V.str
  | [], _, h => by cases h; rfl
  | n :: ns, _, h => by
    cases h with
    | cons h t => cases h; rw [t.strs]; rfl
theorem ats_strs {H : Hp} : ∀ ns : List Str, Ats H (ns.map D.str) (ns.map V.str)
  | [] => .nil
  | n :: ns => .cons (.str n) (ats_strs ns)
theorem Ats.bls {H : Hp} : ∀ {ns : List Bool} {vs : List V}, Ats H (ns.map D.bl) vs → vs = ns.map V.bl
  | [], _, h => by cases h; rfl
  | n :: ns, _, h => by
    cases h with
    | cons h t => cases h; rw [t.bls]; rfl

def oi : Option Int → D
  | none => .non
  | some i => .int i
def os : Option Str → D
  | none => .non
  | some s => .str s
def oiV : Option Int → V
  | none => .non
  | some i => .int i
def osV : Option Str → V
  | none => .non
  | some s => .str s
theorem at_oi {H : Hp} (o : Option Int) : At H (oi o) (oiV o) := by cases o <;> constructor
theorem at_os {H : Hp} (o : Option Str) : At H (os o) (osV o) := by cases o <;> constructor
theorem at_oi' {H : Hp} {o : Option Int} {v : V} (h : At H (oi o) v) : v = oiV o := by cases o <;> cases h <;> rfl
theorem at_os' {H : Hp} {o : Option Str} {v : V} (h : At H (os o) v) : v = osV o := by cases o <;> cases h <;> rfl
theorem oi_nl (o : Option Int) : (oi o).nl = true := by cases o <;> rfl
theorem os_nl (o : Option Str) : (os o).nl = true := by cases o <;> rfl
theorem oiV_inj {a b : Option Int} : (oiV a = oiV b) ↔ a = b := by
  cases a <;> cases b <;> simp [oiV]

/-! ### heaps -/
theorem Same.new {H : Hp} {p : Addr} {o : HO} (h : H p = none) : Same H (upd H p o) := fun a u e => by
  rw [upd_ne (ne_of_none e h)]
  exact e
theorem Same.mut {H H' : Hp} {p : Addr} {o : HO} (e : Same H H') (h : H p = none) : Same H (upd H' p o) := fun a u ha => by
  rw [upd_ne (ne_of_none ha h)]
  exact e a u ha
theorem fresh_back {H H' : Hp} {p : Addr} (e : Same H H') (h : H' p = none) : H p = none := e.free h
theorem same_rd {H H' : Hp} {a : Addr} {u : HO} (e : Same H H') (h : Rd H a u) : Rd H' a u := by
  rcases h with h | ⟨o, h⟩
  · exact Or.inl (e a _ h)
  · exact Or.inr ⟨o, e a _ h⟩
theorem sz_of {n : Nat} (h : n ≤ 10000000) : n ≤ sizeLine := Nat.le_trans h (by decide)
theorem sz_lt {n : Nat} (h : n < 10000000) : n < sizeLine := Nat.lt_of_lt_of_le h (by decide)

/-! ### what evaluates to what -/
def EvD (te : TE) (σ : L2.St) (H : Hp) (d : D) : Prop := ∀ H1, Same H H1 → ∀ Q : VK, (∀ v H2, Same H1 H2 → At H2 d v → Q v H2) → te σ H1 Q
def EvT (tt : TT) (σ : L2.St) (H : Hp) (b : Bool) : Prop := ∀ H1, Same H H1 → ∀ Q : Bool → Hp → Prop, (∀ H2, Same H1 H2 → Q b H2) → tt σ H1 Q
def EvA (ta : TA) (σ : L2.St) (H : Hp) (ds : List D) : Prop := ∀ H1, Same H H1 → ∀ Q : List V → Hp → Prop, (∀ vs H2, Same H1 H2 → Ats H2 ds vs → Q vs H2) → ta σ H1 Q
/-- a new list -/
def EvN (te : TE) (σ : L2.St) (H : Hp) (ds : List D) : Prop := ∀ H1, Same H H1 → ∀ Q : VK, (∀ p vs H2, H1 p = none → Same H1 H2 → H2 p = some (.lst vs) → Ats H2 ds vs → Q (.ref p) H2) → te σ H1 Q
def EvO (to : TO) (σ : L2.St) (H : Hp) (o : Option Int) : Prop := ∀ H1, Same H H1 → ∀ Q : Option Int → Hp → Prop, (∀ H2, Same H1 H2 → Q o H2) → to σ H1 Q

section
variable {K : PySem.W.Frag} {σ : L2.St} {H H' : Hp} {ta tb te tx td : TE} {t u : TT} {d e f : D} {v w : V} {r : R2}
theorem EvD.mono (s : Same H H') (h : EvD te σ H d) : EvD te σ H' d := fun H1 a Q q => h H1 (s.trans a) Q q
theorem EvT.mono {b : Bool} (s : Same H H') (h : EvT t σ H b) : EvT t σ H' b := fun H1 a Q q => h H1 (s.trans a) Q q
theorem EvA.mono {ta : TA} {vs : List D} (s : Same H H') (h : EvA ta σ H vs) : EvA ta σ H' vs := fun H1 a Q q => h H1 (s.trans a) Q q
theorem EvN.mono {vs : List D} (s : Same H H') (h : EvN te σ H vs) : EvN te σ H' vs := fun H1 a Q q => h H1 (s.trans a) Q q
theorem EvN.toD {ds : List D} (h : EvN te σ H ds) : EvD te σ H (.lst ds) := fun H1 a Q q => h H1 a Q fun p vs H2 _ e2 hp ha => q _ H2 e2 (.lst hp ha)
theorem EvD.is (h : EvD te σ H d) (e' : d = e) : EvD te σ H e := e' ▸ h
theorem EvT.is {a b : Bool} (h : EvT t σ H a) (e' : a = b) : EvT t σ H b := e' ▸ h
theorem EvN.is {a b : List D} (h : EvN te σ H a) (e' : a = b) : EvN te σ H b := e' ▸ h
theorem ev_var {i : Nat} (h : σ[i]? = some (some v)) (a : At H d v) : EvD (tVar i) σ H d := fun H1 s _ q => ⟨v, h, q v H1 (Same.refl H1) (a.mono s)⟩
theorem ev_vi {i : Nat} {n : Int} (h : σ[i]? = some (some (.int n))) : EvD (tVar i) σ H (.int n) := ev_var h (.int n)
theorem ev_vs {i : Nat} {n : Str} (h : σ[i]? = some (some (.str n))) : EvD (tVar i) σ H (.str n) := ev_var h (.str n)
theorem ev_vr {i : Nat} {n : Addr} (h : σ[i]? = some (some (.ref n))) : EvD (tVar i) σ H (.ref n) := ev_var h (.ref n)
theorem ev_vo {i : Nat} {n : Option Int} (h : σ[i]? = some (some (oiV n))) : EvD (tVar i) σ H (oi n) := ev_var h (at_oi n)
theorem ev_vb {i : Nat} {n : Bool} (h : σ[i]? = some (some (.bl n))) : EvD (tVar i) σ H (.bl n) := ev_var h (.bl n)
theorem ev_int {i : Int} : EvD (tC (.int i)) σ H (.int i) := fun H1 _ _ q => q _ H1 (Same.refl H1) (.int i)
theorem ev_str {i : Str} : EvD (tC (.str i)) σ H (.str i) := fun H1 _ _ q => q _ H1 (Same.refl H1) (.str i)
theorem ev_bl {i : Bool} : EvD (tC (.bl i)) σ H (.bl i) := fun H1 _ _ q => q _ H1 (Same.refl H1) (.bl i)
theorem ev_non : EvD (tC .non) σ H .non := fun H1 _ _ q => q _ H1 (Same.refl H1) .non
/-- a value that is a value: any operation -/
theorem ev_op (ha : EvD ta σ H d) (hb : EvD tb σ H e) (hr : ∀ x y H1, Same H H1 → At H1 d x → At H1 e y → ∀ Q : VK, (∀ v H2, Same H1 H2 → At H2 f v → Q v H2) → r x y H1 Q) : EvD (tOp r ta tb) σ H f := fun H1 s Q q =>
  ha H1 s _ fun x H2 s2 ax => hb H2 (s.trans s2) _ fun y H3 s3 ay => hr x y H3 ((s.trans s2).trans s3) (ax.mono s3) ay Q fun v H4 s4 av => q v H4 ((s2.trans s3).trans s4) av
theorem ev_add {i j : Int} (ha : EvD ta σ H (.int i)) (hb : EvD tb σ H (.int j)) : EvD (tOp (rI0 fun i j => .int (i + j)) ta tb) σ H (.int (i + j)) :=
  ev_op ha hb fun x y H1 _ ax ay Q q => by cases ax; cases ay; exact ⟨i, j, rfl, rfl, q _ H1 (Same.refl H1) (.int _)⟩
theorem ev_sub {i j : Int} (ha : EvD ta σ H (.int i)) (hb : EvD tb σ H (.int j)) : EvD (tOp (rI0 fun i j => .int (i - j)) ta tb) σ H (.int (i - j)) :=
  ev_op ha hb fun x y H1 _ ax ay Q q => by cases ax; cases ay; exact ⟨i, j, rfl, rfl, q _ H1 (Same.refl H1) (.int _)⟩
theorem ev_mul {i j : Int} (ha : EvD ta σ H (.int i)) (hb : EvD tb σ H (.int j)) (hc : CMul i j) : EvD (tOp (rI CMul fun i j => .int (i * j)) ta tb) σ H (.int (i * j)) :=
  ev_op ha hb fun x y H1 _ ax ay Q q => by cases ax; cases ay; exact ⟨i, j, rfl, rfl, hc, q _ H1 (Same.refl H1) (.int _)⟩
theorem ev_mod {i j : Int} (ha : EvD ta σ H (.int i)) (hb : EvD tb σ H (.int j)) (hc : 0 < j) : EvD (tOp (rI (fun _ j => 0 < j) fun i j => .int (i % j)) ta tb) σ H (.int (i % j)) :=
  ev_op ha hb fun x y H1 _ ax ay Q q => by cases ax; cases ay; exact ⟨i, j, rfl, rfl, hc, q _ H1 (Same.refl H1) (.int _)⟩
theorem ev_lt {i j : Int} (ha : EvD ta σ H (.int i)) (hb : EvD tb σ H (.int j)) : EvD (tOp (rI0 fun i j => .bl (decide (i < j))) ta tb) σ H (.bl (decide (i < j))) :=
  ev_op ha hb fun x y H1 _ ax ay Q q => by cases ax; cases ay; exact ⟨i, j, rfl, rfl, q _ H1 (Same.refl H1) (.bl _)⟩
theorem ev_le {i j : Int} (ha : EvD ta σ H (.int i)) (hb : EvD tb σ H (.int j)) : EvD (tOp (rI0 fun i j => .bl (decide (i ≤ j))) ta tb) σ H (.bl (decide (i ≤ j))) :=
  ev_op ha hb fun x y H1 _ ax ay Q q => by cases ax; cases ay; exact ⟨i, j, rfl, rfl, q _ H1 (Same.refl H1) (.bl _)⟩
theorem ev_gt {i j : Int} (ha : EvD ta σ H (.int i)) (hb : EvD tb σ H (.int j)) : EvD (tOp (rI0 fun i j => .bl (decide (j < i))) ta tb) σ H (.bl (decide (j < i))) :=
  ev_op ha hb fun x y H1 _ ax ay Q q => by cases ax; cases ay; exact ⟨i, j, rfl, rfl, q _ H1 (Same.refl H1) (.bl _)⟩
/-- == and != of ints and None -/
theorem ev_eq {a b : Option Int} (ha : EvD ta σ H (oi a)) (hb : EvD tb σ H (oi b)) : EvD (tOp rEq ta tb) σ H (.bl (decide (a = b))) :=
  ev_op ha hb fun x y H1 _ ax ay Q q => by
    rw [at_oi' ax, at_oi' ay]
    refine ⟨by cases a <;> cases b <;> rfl, ?_⟩
    rw [show decide (oiV a = oiV b) = decide (a = b) from decide_eq_decide.mpr oiV_inj]
    exact q _ H1 (Same.refl H1) (.bl _)
theorem ev_ne {a b : Option Int} (ha : EvD ta σ H (oi a)) (hb : EvD tb σ H (oi b)) : EvD (tOp rNe ta tb) σ H (.bl (!decide (a = b))) :=
  ev_op ha hb fun x y H1 _ ax ay Q q => by
    rw [at_oi' ax, at_oi' ay]
    refine ⟨by cases a <;> cases b <;> rfl, ?_⟩
    rw [show decide (oiV a = oiV b) = decide (a = b) from decide_eq_decide.mpr oiV_inj]
    exact q _ H1 (Same.refl H1) (.bl _)
theorem ev_eqI {a b : Int} (ha : EvD ta σ H (.int a)) (hb : EvD tb σ H (.int b)) : EvD (tOp rEq ta tb) σ H (.bl (decide (a = b))) :=
  (ev_eq (a := some a) (b := some b) ha hb).is (by congr 1; exact decide_eq_decide.mpr (by simp))
theorem ev_neI {a b : Int} (ha : EvD ta σ H (.int a)) (hb : EvD tb σ H (.int b)) : EvD (tOp rNe ta tb) σ H (.bl (!decide (a = b))) :=
  (ev_ne (a := some a) (b := some b) ha hb).is (by congr 2; exact decide_eq_decide.mpr (by simp))
theorem ev_eqS {a b : Str} (ha : EvD ta σ H (.str a)) (hb : EvD tb σ H (.str b)) : EvD (tOp rEq ta tb) σ H (.bl (decide (a = b))) :=
  ev_op ha hb fun x y H1 _ ax ay Q q => by
    cases ax; cases ay
    refine ⟨rfl, ?_⟩
    rw [show decide (V.str a = V.str b) = decide (a = b) from decide_eq_decide.mpr (by simp)]
    exact q _ H1 (Same.refl H1) (.bl _)
theorem ev_eqB {a b : Bool} (ha : EvD ta σ H (.bl a)) (hb : EvD tb σ H (.bl b)) : EvD (tOp rEq ta tb) σ H (.bl (decide (a = b))) :=
  ev_op ha hb fun x y H1 _ ax ay Q q => by
    cases ax; cases ay
    refine ⟨rfl, ?_⟩
    rw [show decide (V.bl a = V.bl b) = decide (a = b) from decide_eq_decide.mpr (by simp)]
    exact q _ H1 (Same.refl H1) (.bl _)
def D.isN : D → Bool
  | .non => true
  | _ => false
theorem at_isN {H : Hp} {d : D} {v : V} (h : At H d v) : decide (v = .non) = d.isN := by
  cases h <;> first | rfl | exact decide_eq_false (fun q => nomatch q)
theorem ev_isN (ha : EvD ta σ H d) : EvD (tOp (fun x y H Q => y = .non ∧ Q (.bl (decide (x = .non))) H) ta (tC .non)) σ H (.bl d.isN) :=
  ev_op ha ev_non fun x y H1 _ ax ay Q q => by
    cases ay
    refine ⟨rfl, ?_⟩
    rw [at_isN ax]
    exact q _ H1 (Same.refl H1) (.bl _)
theorem ev_notN (ha : EvD ta σ H d) : EvD (tOp (fun x y H Q => y = .non ∧ Q (.bl (!decide (x = .non))) H) ta (tC .non)) σ H (.bl (!d.isN)) :=
  ev_op ha ev_non fun x y H1 _ ax ay Q q => by
    cases ay
    refine ⟨rfl, ?_⟩
    rw [at_isN ax]
    exact q _ H1 (Same.refl H1) (.bl _)
/-- a tuple's item -/
theorem ev_ixT {ds : List D} {k : Nat} (ha : EvD ta σ H (.tup ds)) (hk : ds[k]? = some d) : EvD (tOp (rIxT K) ta (tC (.int (k : Int)))) σ H d :=
  ev_op ha ev_int fun x y H1 _ ax ay Q q => by
    cases ay
    cases ax with
    | tup hp hs =>
      obtain ⟨v, hv, av⟩ := hs.get hk
      exact ⟨_, _, _, v, rfl, rfl, SqT.of hp, atI_nat hv, q v H1 (Same.refl H1) av⟩
theorem ev_ixTe {ds : List D} {i : Int} {k : Nat} (ha : EvD ta σ H (.tup ds)) (hi : EvD tb σ H (.int i)) (e : i = (k : Int)) (hk : ds[k]? = some d) : EvD (tOp (rIxT K) ta tb) σ H d :=
  ev_op ha hi fun x y H1 _ ax ay Q q => by
    cases ay
    subst e
    cases ax with
    | tup hp hs =>
      obtain ⟨v, hv, av⟩ := hs.get hk
      exact ⟨_, _, _, v, rfl, rfl, SqT.of hp, atI_nat hv, q v H1 (Same.refl H1) av⟩
theorem ev_ixL {ds : List D} {i : Int} {k : Nat} (ha : EvD ta σ H (.lst ds)) (hi : EvD tb σ H (.int i)) (e : i = (k : Int)) (hk : ds[k]? = some d) : EvD (tOp (rIxL K) ta tb) σ H d :=
  ev_op ha hi fun x y H1 _ ax ay Q q => by
    cases ay
    subst e
    cases ax with
    | lst hp hs =>
      obtain ⟨v, hv, av⟩ := hs.get hk
      exact ⟨_, _, _, v, rfl, rfl, SqL.of hp, atI_nat hv, q v H1 (Same.refl H1) av⟩
/-- x in [strs], x in [ints] -/
theorem inV_str (a : Str) : ∀ l : List Str, inV (.str a) (l.map V.str) = decide (a ∈ l)
  | [] => by simp [inV]
  | b :: l => by
    have ih := inV_str a l
    unfold inV at ih ⊢
    rw [List.map_cons, List.any_cons, ih]
    show ((b == a) || decide (a ∈ l)) = decide (a ∈ b :: l)
    by_cases h : b = a
    · subst h; simp
    · have h2 : (b == a) = false := beq_eq_false_iff_ne.mpr h
      rw [h2]
      simp [Ne.symm h]
theorem inV_oi (a : Option Int) : ∀ l : List Int, inV (oiV a) (l.map V.int) = decide (∃ n ∈ l, a = some n)
  | [] => by simp [inV]
  | b :: l => by
    have ih := inV_oi a l
    unfold inV at ih ⊢
    rw [List.map_cons, List.any_cons, ih]
    cases a with
    | none =>
      show (false || decide (∃ n ∈ l, none = some n)) = _
      simp
    | some z =>
      show ((b == z) || decide (∃ n ∈ l, some z = some n)) = _
      by_cases h : b = z
      · subst h; simp
      · have h2 : (b == z) = false := beq_eq_false_iff_ne.mpr h
        rw [h2]
        have h3 : ¬ z = b := fun q => h q.symm
        simp [h3]
theorem flat_strs : ∀ l : List Str, (l.map V.str).all flatV = true
  | [] => rfl
  | _ :: l => by rw [List.map_cons, List.all_cons, flat_strs l]; rfl
theorem flat_ints : ∀ l : List Int, (l.map V.int).all flatV = true
  | [] => rfl
  | _ :: l => by rw [List.map_cons, List.all_cons, flat_ints l]; rfl
theorem ev_inS {a : Str} {l : List Str} (ha : EvD ta σ H (.str a)) (hb : EvD tb σ H (.lst (l.map D.str))) : EvD (tOp (rIn K false) ta tb) σ H (.bl (decide (a ∈ l))) :=
  ev_op ha hb fun x y H1 _ ax ay Q q => by
    cases ax
    cases ay with
    | lst hp hs =>
      have e := hs.strs
      subst e
      refine ⟨_, _, rfl, .inl (SqL.of hp), rfl, flat_strs l, ?_⟩
      show Q (.bl (inV (.str a) (l.map V.str))) H1
      rw [inV_str]
      exact q _ H1 (Same.refl H1) (.bl _)
theorem ev_inTS {a : Str} {l : List Str} (ha : EvD ta σ H (.str a)) (hb : EvD tb σ H (.tup (l.map D.str))) : EvD (tOp (rIn K false) ta tb) σ H (.bl (decide (a ∈ l))) :=
  ev_op ha hb fun x y H1 _ ax ay Q q => by
    cases ax
    cases ay with
    | tup hp hs =>
      have e := hs.strs
      subst e
      refine ⟨_, _, rfl, .inr (SqT.of hp), rfl, flat_strs l, ?_⟩
      show Q (.bl (inV (.str a) (l.map V.str))) H1
      rw [inV_str]
      exact q _ H1 (Same.refl H1) (.bl _)
theorem ev_niS {a : Str} {l : List Str} (ha : EvD ta σ H (.str a)) (hb : EvD tb σ H (.lst (l.map D.str))) : EvD (tOp (rIn K true) ta tb) σ H (.bl (!decide (a ∈ l))) :=
  ev_op ha hb fun x y H1 _ ax ay Q q => by
    cases ax
    cases ay with
    | lst hp hs =>
      have e := hs.strs
      subst e
      refine ⟨_, _, rfl, .inl (SqL.of hp), rfl, flat_strs l, ?_⟩
      show Q (.bl (!inV (.str a) (l.map V.str))) H1
      rw [inV_str]
      exact q _ H1 (Same.refl H1) (.bl _)
theorem ev_inI {a : Option Int} {l : List Int} (ha : EvD ta σ H (oi a)) (hb : EvD tb σ H (.lst (l.map D.int))) : EvD (tOp (rIn K false) ta tb) σ H (.bl (decide (∃ n ∈ l, a = some n))) :=
  ev_op ha hb fun x y H1 _ ax ay Q q => by
    cases at_oi' ax
    cases ay with
    | lst hp hs =>
      have e := hs.ints
      subst e
      refine ⟨_, _, rfl, .inl (SqL.of hp), by cases a <;> rfl, flat_ints l, ?_⟩
      show Q (.bl (inV (oiV a) (l.map V.int))) H1
      rw [inV_oi]
      exact q _ H1 (Same.refl H1) (.bl _)
theorem ev_niI {a : Option Int} {l : List Int} (ha : EvD ta σ H (oi a)) (hb : EvD tb σ H (.lst (l.map D.int))) : EvD (tOp (rIn K true) ta tb) σ H (.bl (!decide (∃ n ∈ l, a = some n))) :=
  ev_op ha hb fun x y H1 _ ax ay Q q => by
    cases at_oi' ax
    cases ay with
    | lst hp hs =>
      have e := hs.ints
      subst e
      refine ⟨_, _, rfl, .inl (SqL.of hp), by cases a <;> rfl, flat_ints l, ?_⟩
      show Q (.bl (!inV (oiV a) (l.map V.int))) H1
      rw [inV_oi]
      exact q _ H1 (Same.refl H1) (.bl _)
theorem ex_mem {a : Int} {l : List Int} : decide (∃ n ∈ l, some a = some n) = decide (a ∈ l) := decide_eq_decide.mpr ⟨fun ⟨n, h, e⟩ => by cases e; exact h, fun h => ⟨a, h, rfl⟩⟩
theorem ev_niInt {a : Int} {l : List Int} (ha : EvD ta σ H (.int a)) (hb : EvD tb σ H (.lst (l.map D.int))) : EvD (tOp (rIn K true) ta tb) σ H (.bl (!decide (a ∈ l))) :=
  (ev_niI (a := some a) ha hb).is (by rw [ex_mem])
theorem ev_inInt {a : Int} {l : List Int} (ha : EvD ta σ H (.int a)) (hb : EvD tb σ H (.lst (l.map D.int))) : EvD (tOp (rIn K false) ta tb) σ H (.bl (decide (a ∈ l))) :=
  (ev_inI (a := some a) ha hb).is (by rw [ex_mem])

/-! ### tests, and | or | not, if .. else -/
theorem et_test {b : Bool} (h : EvD te σ H (.bl b)) : EvT (tTest te) σ H b := fun H1 s _ q => h H1 s _ fun v H2 s2 a => by cases a; exact ⟨b, rfl, q H2 s2⟩
theorem et_B {b : Bool} (h : EvD te σ H (.bl b)) : EvT (tB te) σ H b := fun H1 s _ q => h H1 s _ fun v H2 s2 a => by cases a; exact ⟨b, rfl, q H2 s2⟩
theorem et_and {a b : Bool} (h1 : EvT t σ H a) (h2 : a = true → EvT u σ H b) : EvT (tAnd t u) σ H (a && b) := fun H1 s Q q => h1 H1 s _ fun H2 s2 => by
  cases a with
  | true => exact h2 rfl H2 (s.trans s2) Q fun H3 s3 => q H3 (s2.trans s3)
  | false => exact q H2 s2
theorem et_or {a b : Bool} (h1 : EvT t σ H a) (h2 : a = false → EvT u σ H b) : EvT (tOr t u) σ H (a || b) := fun H1 s Q q => h1 H1 s _ fun H2 s2 => by
  cases a with
  | true => exact q H2 s2
  | false => exact h2 rfl H2 (s.trans s2) Q fun H3 s3 => q H3 (s2.trans s3)
theorem et_not {a : Bool} (h1 : EvT t σ H a) : EvT (tNot t) σ H (!a) := fun H1 s _ q => h1 H1 s _ fun H2 s2 => q H2 s2
def D.tru : D → Bool
  | .non => false
  | .bl b => b
  | .int i => i != 0
  | .str s => (s.length : Int) != 0
  | .tup l => !l.isEmpty
  | .lst l => !l.isEmpty
  | .ref _ => true
def D.strOk : D → Prop
  | .str s => s.length ≤ 10000000
  | .ref _ => False
  | _ => True
theorem at_tru {H : Hp} {d : D} {v : V} (h : At H d v) (hs : d.strOk) : TruV K v H d.tru := by
  cases h with
  | non => rfl
  | bl b => rfl
  | int i => rfl
  | str s => exact ⟨sz_of hs, rfl⟩
  | ref a => exact hs.elim
  | tup hp ha => exact .inr (.inl ⟨_, SqT.of hp, by cases ha <;> rfl⟩)
  | lst hp ha => exact .inl ⟨_, SqL.of hp, by cases ha <;> rfl⟩
theorem et_tru (h : EvD te σ H d) (hs : d.strOk) : EvT (fun σ H Q => te σ H fun x H' => ∃ k, TruV K x H' k ∧ Q k H') σ H d.tru := fun H1 s _ q => h H1 s _ fun v H2 s2 a => ⟨_, at_tru a hs, q H2 s2⟩
theorem ev_and {a b : Bool} (h1 : EvD ta σ H (.bl a)) (h2 : a = true → EvD tb σ H (.bl b)) : EvD (tAndV ta tb) σ H (.bl (a && b)) := fun H1 s Q q => h1 H1 s _ fun v H2 s2 av => by
  cases av
  refine ⟨a, rfl, ?_⟩
  cases a with
  | true => exact h2 rfl H2 (s.trans s2) Q fun w H3 s3 aw => q w H3 (s2.trans s3) aw
  | false => exact q _ H2 s2 (.bl _)
theorem ev_or {a b : Bool} (h1 : EvD ta σ H (.bl a)) (h2 : a = false → EvD tb σ H (.bl b)) : EvD (tOrV ta tb) σ H (.bl (a || b)) := fun H1 s Q q => h1 H1 s _ fun v H2 s2 av => by
  cases av
  refine ⟨a, rfl, ?_⟩
  cases a with
  | true => exact q _ H2 s2 (.bl _)
  | false => exact h2 rfl H2 (s.trans s2) Q fun w H3 s3 aw => q w H3 (s2.trans s3) aw
theorem ev_notV {a : Bool} (h1 : EvD ta σ H (.bl a)) : EvD (tNotV ta) σ H (.bl (!a)) := fun H1 s Q q => h1 H1 s _ fun v H2 s2 av => by
  cases av
  exact ⟨a, rfl, q _ H2 s2 (.bl _)⟩
/-- x or y, by truth -/
theorem ev_orT (h1 : EvD ta σ H d) (hs : d.strOk) (h2 : d.tru = false → EvD tb σ H e) : EvD (tOrT K ta tb) σ H (if d.tru = true then d else e) := fun H1 s Q q => h1 H1 s _ fun v H2 s2 av => by
  refine ⟨_, at_tru av hs, ?_⟩
  cases hd : d.tru with
  | true =>
    show Q v H2
    refine q v H2 s2 ?_
    rw [hd]
    exact av
  | false =>
    show tb σ H2 Q
    refine h2 hd H2 (s.trans s2) Q fun w H3 s3 aw => q w H3 (s2.trans s3) ?_
    rw [hd]
    exact aw
theorem ev_if {b : Bool} (h : EvT t σ H b) (h1 : b = true → EvD ta σ H d) (h2 : b = false → EvD tb σ H d) : EvD (tIf t ta tb) σ H d := fun H1 s Q q => h H1 s _ fun H2 s2 => by
  cases b with
  | true => exact h1 rfl H2 (s.trans s2) Q fun w H3 s3 aw => q w H3 (s2.trans s3) aw
  | false => exact h2 rfl H2 (s.trans s2) Q fun w H3 s3 aw => q w H3 (s2.trans s3) aw

/-! ### arguments, displays -/
theorem ea_nil : EvA tNil σ H [] := fun H1 _ _ q => q [] H1 (Same.refl H1) .nil
theorem ea_cons {tr : TA} {ds : List D} (h : EvD te σ H d) (hr : EvA tr σ H ds) : EvA (tCons te tr) σ H (d :: ds) := fun H1 s _ q =>
  h H1 s _ fun v H2 s2 a => hr H2 (s.trans s2) _ fun vs H3 s3 as => q _ H3 (s2.trans s3) (.cons (a.mono s3) as)
theorem ev_tup {ta : TA} {ds : List D} (h : EvA ta σ H ds) (hl : ds.length ≤ 10000000) : EvD (tTup ta) σ H (.tup ds) := fun H1 s _ q =>
  h H1 s _ fun vs H2 s2 as => ⟨sz_of (by rw [← as.length]; exact hl), fun p hp => q _ _ (s2.trans (Same.new hp)) (.tup upd_same (as.mono (Same.new hp)))⟩
theorem en_lst {ta : TA} {ds : List D} (h : EvA ta σ H ds) (hl : ds.length ≤ 10000000) : EvN (tLst ta) σ H ds := fun H1 s _ q =>
  h H1 s _ fun vs H2 s2 as => ⟨sz_of (by rw [← as.length]; exact hl), fun p hp => q p vs _ (fresh_back s2 hp) (s2.trans (Same.new hp)) upd_same (as.mono (Same.new hp))⟩
/-- built-ins by values -/
theorem ev_cb {r : List V → Hp → VK → Prop} {ta : TA} {ds : List D} (h : EvA ta σ H ds) (hr : ∀ vs H1, Same H H1 → Ats H1 ds vs → ∀ Q : VK, (∀ v H2, Same H1 H2 → At H2 d v → Q v H2) → r vs H1 Q) : EvD (tCB r ta) σ H d := fun H1 s Q q =>
  h H1 s _ fun vs H2 s2 as => hr vs H2 (s.trans s2) as Q fun v H3 s3 av => q v H3 (s2.trans s3) av
theorem en_cb {r : List V → Hp → VK → Prop} {ta : TA} {ds es : List D} (h : EvA ta σ H ds) (hr : ∀ vs H1, Same H H1 → Ats H1 ds vs → ∀ Q : VK, (∀ p ws H2, H1 p = none → Same H1 H2 → H2 p = some (.lst ws) → Ats H2 es ws → Q (.ref p) H2) → r vs H1 Q) : EvN (tCB r ta) σ H es := fun H1 s Q q =>
  h H1 s _ fun vs H2 s2 as => hr vs H2 (s.trans s2) as Q fun p ws H3 hp s3 h3 av => q p ws H3 (fresh_back s2 hp) (s2.trans s3) h3 av
def rLenS (K : PySem.W.Frag) : List V → Hp → VK → Prop := fun xs H Q => ∃ p ys, xs = [.ref p] ∧ (SqL K H p ys ∨ SqT K H p ys) ∧ Q (.int ys.length) H
def D.len : D → Nat
  | .lst l => l.length
  | .tup l => l.length
  | .str s => s.length
  | _ => 0
theorem ev_lenL {ds : List D} (h : EvD te σ H (.lst ds)) : EvD (tCB (rLenS K) (tCons te tNil)) σ H (.int (ds.length : Int)) := ev_cb (ea_cons h ea_nil) fun vs H1 _ as Q q => by
  cases as with
  | cons a as =>
    cases as
    cases a with
    | lst hp hs =>
      refine ⟨_, _, rfl, .inl (SqL.of hp), ?_⟩
      rw [← hs.length]
      exact q _ H1 (Same.refl H1) (.int _)
theorem ev_lenT {ds : List D} (h : EvD te σ H (.tup ds)) : EvD (tCB (rLenS K) (tCons te tNil)) σ H (.int (ds.length : Int)) := ev_cb (ea_cons h ea_nil) fun vs H1 _ as Q q => by
  cases as with
  | cons a as =>
    cases as
    cases a with
    | tup hp hs =>
      refine ⟨_, _, rfl, .inr (SqT.of hp), ?_⟩
      rw [← hs.length]
      exact q _ H1 (Same.refl H1) (.int _)
def rLenStr : List V → Hp → VK → Prop := fun xs H Q => ∃ z, xs = [.str z] ∧ z.length ≤ sizeLine ∧ Q (.int z.length) H
theorem ev_lenS {z : Str} (h : EvD te σ H (.str z)) (hl : z.length ≤ 10000000) : EvD (tCB rLenStr (tCons te tNil)) σ H (.int (z.length : Int)) := ev_cb (ea_cons h ea_nil) fun vs H1 _ as Q q => by
  cases as with
  | cons a as =>
    cases as
    cases a
    exact ⟨z, rfl, sz_of hl, q _ H1 (Same.refl H1) (.int _)⟩
theorem ev_sum {ns : List Int} (h : EvD te σ H (.lst (ns.map D.int))) : EvD (tCB (rSum K) (tCons te tNil)) σ H (.int ns.sum) := ev_cb (ea_cons h ea_nil) fun vs H1 _ as Q q => by
  cases as with
  | cons a as =>
    cases as
    cases a with
    | lst hp hs =>
      have e := hs.ints
      subst e
      exact ⟨_, ns, rfl, SqL.of hp, q _ H1 (Same.refl H1) (.int _)⟩
theorem ev_all {bs : List Bool} (h : EvD te σ H (.lst (bs.map D.bl))) : EvD (tCB (rAll K) (tCons te tNil)) σ H (.bl (bs.all id)) := ev_cb (ea_cons h ea_nil) fun vs H1 _ as Q q => by
  cases as with
  | cons a as =>
    cases as
    cases a with
    | lst hp hs =>
      have e := hs.bls
      subst e
      exact ⟨_, bs, rfl, SqL.of hp, q _ H1 (Same.refl H1) (.bl _)⟩
/-- tuple(list) -/
def rTupOf (K : PySem.W.Frag) : List V → Hp → VK → Prop := fun xs H Q => ∃ p ys, xs = [.ref p] ∧ ((SqL K H p ys ∧ ∀ l, H l = none → Q (.ref l) (upd H l (.tup ys))) ∨ (SqT K H p ys ∧ Q (.ref p) H))
theorem ev_tupOf {ds : List D} (h : EvD te σ H (.lst ds)) : EvD (tCB (rTupOf K) (tCons te tNil)) σ H (.tup ds) := ev_cb (ea_cons h ea_nil) fun vs H1 _ as Q q => by
  cases as with
  | cons a as =>
    cases as
    cases a with
    | lst hp hs => exact ⟨_, _, rfl, .inl ⟨SqL.of hp, fun l hl => q _ _ (Same.new hl) (.tup upd_same (hs.mono (Same.new hl)))⟩⟩
def rListOf (K : PySem.W.Frag) : List V → Hp → VK → Prop := fun xs H Q => ∃ p ys, xs = [.ref p] ∧ (SqL K H p ys ∨ SqT K H p ys) ∧ ∀ l, H l = none → Q (.ref l) (upd H l (.lst ys))
theorem en_listOf {ds : List D} (h : EvD te σ H (.lst ds)) : EvN (tCB (rListOf K) (tCons te tNil)) σ H ds := en_cb (ea_cons h ea_nil) fun vs H1 _ as Q q => by
  cases as with
  | cons a as =>
    cases as
    cases a with
    | lst hp hs => exact ⟨_, _, rfl, .inl (SqL.of hp), fun l hl => q l _ _ hl (Same.new hl) upd_same (hs.mono (Same.new hl))⟩
/-- sorted of ints: any length -/
theorem ev_srtI {ns ms : List Int} (h : EvD te σ H (.lst (ns.map D.int))) (hu : ∀ out : List Int, out.Perm ns → out.Pairwise (· ≤ ·) → out = ms) : EvN (tCB (rSortedI K) (tCons te tNil)) σ H (ms.map D.int) := en_cb (ea_cons h ea_nil) fun vs H1 _ as Q q => by
  cases as with
  | cons a as =>
    cases as
    cases a with
    | lst hp hs =>
      have e := hs.ints
      subst e
      refine ⟨_, ns, rfl, SqL.of hp, fun out l h1 h2 hl => ?_⟩
      have e2 := hu out h1 h2
      subst e2
      exact q l _ _ hl (Same.new hl) upd_same (ats_ints _)
end
end Ho

set_option Elab.async false
set_option linter.all false
set_option maxRecDepth 100000
set_option maxHeartbeats 4000000
/-! A2: comprehensions, statements, dicts with int keys. -/
namespace Ho
open PySem PySem.Spec PyProof.Rows L2

theorem take_more {α : Type} : ∀ {l : List α} {i : Nat} {x : α}, l[i]? = some x → l.take (i + 1) = l.take i ++ [x]
  | [], i, x, h => by simp at h
  | a :: l, 0, x, h => by
    have e : a = x := Option.some.inj h
    subst e
    rfl
  | a :: l, i + 1, x, h => by
    have ih := take_more (l := l) (i := i) (x := x) h
    show a :: l.take (i + 1) = a :: l.take i ++ [x]
    rw [ih]
    rfl
section
variable {K : PySem.W.Frag} {σ : L2.St} {H H' : Hp} {ta tb te tx td tl : TE} {tt : TT} {t u : TT} {d e : D} {v w : V} {r : R2}
/-- what a comprehension has made behind i turns: the new list at L -/
def Lw {α : Type} (H1 : Hp) (L : Addr) (f : α → Bool) (g : α → D) (xs : List α) (i : Nat) (H' : Hp) : Prop :=
  H1 L = none ∧ Same H1 H' ∧ ∃ acc, H' L = some (.lst acc) ∧ Ats H' (((xs.take i).filter f).map g) acc
theorem lw_start {α : Type} {H1 : Hp} {L : Addr} {f : α → Bool} {g : α → D} {xs : List α} (hL : H1 L = none) : Lw H1 L f g xs 0 (upd H1 L (.lst [])) :=
  ⟨hL, Same.new hL, [], upd_same, by rw [List.take_zero]; exact .nil⟩
theorem nls_of {α : Type} {g : α → D} : ∀ {l : List α}, (∀ x ∈ l, (g x).nl = true) → nls (l.map g) = true
  | [], _ => rfl
  | x :: l, h => by
    show ((g x).nl && nls (l.map g)) = true
    rw [h x List.mem_cons_self, nls_of fun y hy => h y (List.mem_cons_of_mem _ hy)]; rfl
theorem upd_tle {H : Hp} {L : Addr} {xs ys : List V} (h : H L = some (.lst xs)) : Tle H (upd H L (.lst ys)) := fun a vs q => by
  rw [upd_ne (ne_of q h (by intro z; cases z))]
  exact q
theorem lw_turn {α : Type} {H1 : Hp} {L : Addr} {f : α → Bool} {g : α → D} {xs : List α} {i : Nat} {x : α} {σ2 : L2.St} {H' : Hp} (hx : xs[i]? = some x) (hl : xs.length ≤ 1000000) (hn : ∀ x ∈ xs, (g x).nl = true) (p : Lw H1 L f g xs i H')
    (ht : EvT tt σ2 H' (f x)) (he : f x = true → EvD te σ2 H' (g x)) :
    tt σ2 H' fun b H3 => if b = true then te σ2 H3 fun y H4 => ∃ acc, H4 L = some (.lst acc) ∧ acc.length < sizeLine ∧ Lw H1 L f g xs (i + 1) (upd H4 L (.lst (acc ++ [y]))) else Lw H1 L f g xs (i + 1) H3 := by
  obtain ⟨p1, p2, acc, p3, p4⟩ := p
  refine ht H' (Same.refl _) _ fun H3 e3 => ?_
  have hlen : acc.length ≤ xs.length := by
    rw [← p4.length, List.length_map]
    refine Nat.le_trans (List.length_filter_le _ _) ?_
    rw [List.length_take]; omega
  cases hf : f x with
  | true =>
    show te σ2 H3 fun y H4 => ∃ acc, H4 L = some (.lst acc) ∧ acc.length < sizeLine ∧ Lw H1 L f g xs (i + 1) (upd H4 L (.lst (acc ++ [y])))
    refine he hf H3 e3 _ fun y H4 e4 ay => ⟨acc, e4 _ _ (e3 _ _ p3), sz_lt (by omega), p1, Same.mut ((p2.trans e3).trans e4) p1, acc ++ [y], upd_same, ?_⟩
    have e5 : Tle H4 (upd H4 L (.lst (acc ++ [y]))) := upd_tle (e4 _ _ (e3 _ _ p3))
    rw [take_more hx, List.filter_append, List.map_append, List.filter_cons, if_pos hf]
    refine ((p4.mono (e3.trans e4)).tle e5 (nls_of fun z hz => hn z ?_)).app (.one (ay.tle e5 (hn x (List.mem_of_getElem? hx))))
    exact List.mem_of_mem_take (List.mem_filter.mp hz).1
  | false =>
    show Lw H1 L f g xs (i + 1) H3
    refine ⟨p1, p2.trans e3, acc, e3 _ _ p3, ?_⟩
    rw [take_more hx, List.filter_append, List.map_append, List.filter_cons, if_neg (by rw [hf]; decide)]
    show Ats H3 (_ ++ []) acc
    rw [List.append_nil]
    exact p4.mono e3
theorem getElem_map {α : Type} {xs : List α} {c : α → D} {vs : List V} {i : Nat} {v : V} (hs : Ats H (xs.map c) vs) (hv : vs[i]? = some v) : ∃ x, xs[i]? = some x ∧ At H (c x) v := by
  obtain ⟨d, h1, h2⟩ := hs.getv hv
  rw [List.getElem?_map] at h1
  cases q : xs[i]? with
  | none => rw [q] at h1; cases h1
  | some x => rw [q] at h1; cases h1; exact ⟨x, rfl, h2⟩
/-- [e for x in list if t] -/
theorem en_lc {α : Type} (xs : List α) (c : α → D) (f : α → Bool) (g : α → D) {j : Nat} {vs : List Nat} (h : EvD tl σ H (.lst (xs.map c))) (hl : xs.length ≤ 1000000) (hn : ∀ x ∈ xs, (g x).nl = true)
    (hw : ∀ x, wipe ((wipe σ vs).set j (some x)) vs = wipe σ vs)
    (hb : ∀ x ∈ xs, ∀ v H1, Same H H1 → At H1 (c x) v → EvT tt ((wipe σ vs).set j (some v)) H1 (f x) ∧ (f x = true → EvD te ((wipe σ vs).set j (some v)) H1 (g x))) :
    EvN (tLc (iList K tl) (gName j) tt te vs) σ H ((xs.filter f).map g) := fun H0 s Q q => h H0 s _ fun v H1 s1 av => by
  cases av with
  | lst hp hs =>
    refine ⟨_, rfl, ⟨_, SqL.of hp⟩, fun L hL => lc_list (xs := _) (Lw H1 L f g xs) (lw_start hL) (fun i H' _ p => SqL.of (p.2.1 _ _ hp)) (fun i v H' hv p => ⟨hw v, ?_⟩) (fun H' p => ?_)⟩
    · obtain ⟨x, hx, ax⟩ := getElem_map hs hv
      obtain ⟨b1, b2⟩ := hb x (List.mem_of_getElem? hx) v H' ((s.trans s1).trans p.2.1) (ax.mono p.2.1)
      exact lw_turn hx hl hn p b1 b2
    · obtain ⟨p1, p2, acc, p3, p4⟩ := p
      have e : xs.take (List.length _) = xs := List.take_of_length_le (by rw [← hs.length, List.length_map]; exact Nat.le_refl _)
      rw [e] at p4
      exact q L acc H' (fresh_back s1 p1) (s1.trans p2) p3 p4
/-- [e for x, y in list of pairs if t] -/
theorem en_lc2 {α : Type} (xs : List α) (c1 c2 : α → D) (f : α → Bool) (g : α → D) {j k : Nat} {vs : List Nat} (h : EvD tl σ H (.lst (xs.map fun x => .tup [c1 x, c2 x]))) (hl : xs.length ≤ 1000000) (hn : ∀ x ∈ xs, (g x).nl = true)
    (hw : ∀ x y, wipe (((wipe σ vs).set j (some x)).set k (some y)) vs = wipe σ vs)
    (hb : ∀ x ∈ xs, ∀ v w H1, Same H H1 → At H1 (c1 x) v → At H1 (c2 x) w → EvT tt (((wipe σ vs).set j (some v)).set k (some w)) H1 (f x) ∧ (f x = true → EvD te (((wipe σ vs).set j (some v)).set k (some w)) H1 (g x))) :
    EvN (tLc (iList K tl) (gTup K 2 (gCons (gName j) (gCons (gName k) gNil))) tt te vs) σ H ((xs.filter f).map g) := fun H0 s Q q => h H0 s _ fun v H1 s1 av => by
  cases av with
  | lst hp hs =>
    refine ⟨_, rfl, ⟨_, SqL.of hp⟩, fun L hL => lc_list (xs := _) (Lw H1 L f g xs) (lw_start hL) (fun i H' _ p => SqL.of (p.2.1 _ _ hp)) (fun i v H' hv p => ?_) (fun H' p => ?_)⟩
    · obtain ⟨x, hx, ax⟩ := getElem_map hs hv
      have ax := ax.mono p.2.1
      cases ax with
      | tup hp2 hs2 =>
        cases hs2 with
        | cons a1 hs2 =>
          cases hs2 with
          | cons a2 hs2 =>
            cases hs2
            obtain ⟨b1, b2⟩ := hb x (List.mem_of_getElem? hx) _ _ H' ((s.trans s1).trans p.2.1) a1 a2
            exact ⟨_, _, rfl, SqT.of hp2, rfl, _, _, rfl, _, _, rfl, rfl, hw _ _, lw_turn hx hl hn p b1 b2⟩
    · obtain ⟨p1, p2, acc, p3, p4⟩ := p
      have e : xs.take (List.length _) = xs := List.take_of_length_le (by rw [← hs.length, List.length_map]; exact Nat.le_refl _)
      rw [e] at p4
      exact q L acc H' (fresh_back s1 p1) (s1.trans p2) p3 p4
/-- [e for k in range(i, j)] -/
theorem en_lcR2 {ta : TA} (f : Int → Bool) (g : Int → D) {lo hi : Int} {j : Nat} {vs : List Nat} (h : EvA ta σ H [.int lo, .int hi]) (hz : -1000000 ≤ lo ∧ lo ≤ 1000000 ∧ -1000000 ≤ hi ∧ hi ≤ lo + 1000000) (hn : ∀ x, (g x).nl = true)
    (hw : ∀ x, wipe ((wipe σ vs).set j (some x)) vs = wipe σ vs)
    (hb : ∀ n : Int, lo ≤ n → n < hi → ∀ H1, Same H H1 → EvT tt ((wipe σ vs).set j (some (.int n))) H1 (f n) ∧ (f n = true → EvD te ((wipe σ vs).set j (some (.int n))) H1 (g n))) :
    EvN (tLc (iRng2 ta) (gName j) tt te vs) σ H ((((List.range (hi - lo).toNat).map fun i : Nat => lo + (i : Int)).filter f).map g) := fun H0 s Q q => h H0 s _ fun as H1 s1 av => by
  cases av with
  | cons a1 av =>
    cases av with
    | cons a2 av =>
      cases av; cases a1; cases a2
      generalize hxs : ((List.range (hi - lo).toNat).map fun i : Nat => lo + (i : Int)) = xs at q ⊢
      have hlen : xs.length = (hi - lo).toNat := by rw [← hxs]; simp
      have hat : ∀ i, i < (hi - lo).toNat → xs[i]? = some (lo + (i : Int)) := fun i hi' => by rw [← hxs]; simp [hi']
      refine ⟨lo, hi, rfl, ⟨by omega, by omega, by omega, by omega⟩, fun L hL => lc_range (lo := lo) (n := (hi - lo).toNat) (Lw H1 L f g xs) (lw_start hL) (fun i H' hi' p => ⟨hw _, ?_⟩) (fun H' p => ?_)⟩
      · obtain ⟨b1, b2⟩ := hb (lo + (i : Int)) (by omega) (by omega) H' ((s.trans s1).trans p.2.1)
        exact lw_turn (hat i hi') (by omega) (fun x _ => hn x) p b1 b2
      · obtain ⟨p1, p2, acc, p3, p4⟩ := p
        rw [List.take_of_length_le (by omega)] at p4
        exact q L acc H' (fresh_back s1 p1) (s1.trans p2) p3 p4
theorem en_lcR1 {ta : TA} (f : Int → Bool) (g : Int → D) {hi : Int} {j : Nat} {vs : List Nat} (h : EvA ta σ H [.int hi]) (hz : -1000000 ≤ hi ∧ hi ≤ 1000000) (hn : ∀ x, (g x).nl = true)
    (hw : ∀ x, wipe ((wipe σ vs).set j (some x)) vs = wipe σ vs)
    (hb : ∀ n : Int, 0 ≤ n → n < hi → ∀ H1, Same H H1 → EvT tt ((wipe σ vs).set j (some (.int n))) H1 (f n) ∧ (f n = true → EvD te ((wipe σ vs).set j (some (.int n))) H1 (g n))) :
    EvN (tLc (iRng1 ta) (gName j) tt te vs) σ H ((((List.range hi.toNat).map fun i : Nat => (i : Int)).filter f).map g) := fun H0 s Q q => h H0 s _ fun as H1 s1 av => by
  cases av with
  | cons a1 av =>
    cases av; cases a1
    generalize hxs : ((List.range hi.toNat).map fun i : Nat => (i : Int)) = xs at q ⊢
    have hlen : xs.length = hi.toNat := by rw [← hxs]; simp
    have hat : ∀ i, i < hi.toNat → xs[i]? = some (i : Int) := fun i hi' => by rw [← hxs]; simp [hi']
    refine ⟨hi, rfl, by omega, by omega, fun L hL => lc_range (lo := 0) (n := hi.toNat) (Lw H1 L f g xs) (lw_start hL) (fun i H' hi' p => ?_) (fun H' p => ?_)⟩
    · have e0 : (0 : Int) + (i : Int) = (i : Int) := Int.zero_add _
      rw [e0]
      refine ⟨hw _, ?_⟩
      obtain ⟨b1, b2⟩ := hb (i : Int) (by omega) (by omega) H' ((s.trans s1).trans p.2.1)
      exact lw_turn (hat i hi') (by omega) (fun x _ => hn x) p b1 b2
    · obtain ⟨p1, p2, acc, p3, p4⟩ := p
      rw [List.take_of_length_le (by omega)] at p4
      exact q L acc H' (fresh_back s1 p1) (s1.trans p2) p3 p4

theorem same_upd {H H1 : Hp} {a : Addr} {o : HO} (s : Same H H1) : Same (upd H a o) (upd H1 a o) := fun b u q => by
  by_cases h : b = a
  · subst h; rw [upd_same] at q ⊢; exact q
  · rw [upd_ne h] at q ⊢; exact s _ _ q
theorem lock_back {H1 HL : Hp} {r : Addr} {o u : HO} (h : H1 r = some u) (s : Same (upd H1 r o) HL) : Same H1 (upd HL r u) := fun b z q => by
  by_cases hb : b = r
  · subst hb; rw [upd_same, ← h]; exact q
  · rw [upd_ne hb]; exact s _ _ (by rw [upd_ne hb]; exact q)
theorem lock_fresh {H1 : Hp} {r L : Addr} {o u : HO} (h : H1 r = some u) (hL : upd H1 r o L = none) : H1 L = none ∧ L ≠ r := by
  have hb : L ≠ r := fun q => by rw [q, upd_same] at hL; cases hL
  exact ⟨by rw [upd_ne hb] at hL; exact hL, hb⟩
theorem frz_tle {H : Hp} {r : Addr} {od : Obj} {kvs : List (Key × V)} (h : H r = some (.dK kvs)) : Tle H (upd H r (.frz od (.dK kvs))) := fun a vs q => by
  rw [upd_ne (ne_of q h (by intro z; cases z))]; exact q
theorem unfrz_tle {H : Hp} {r : Addr} {od : Obj} {kvs : List (Key × V)} (h : H r = some (.frz od (.dK kvs))) : Tle H (upd H r (.dK kvs)) := fun a vs q => by
  rw [upd_ne (ne_of q h (by intro z; cases z))]; exact q
/-- over a locked dict's keys -/
theorem lc_keys {r : Addr} {od : Obj} {kvs : List (Key × V)} {g : TG} {vs : List Nat} {σ : L2.St} {H1 : Hp} {L : Addr} {Qd : Hp → Prop} (Pv : Nat → Hp → Prop) (h0 : Pv 0 (upd H1 L (.lst []))) (hl : ∀ i H, Pv i H → H r = some (.frz od (.dK kvs)))
    (hs : ∀ i k v H, kvs[i]? = some (k, v) → Pv i H → g (kV k) (wipe σ vs) H fun σ2 H2 => wipe σ2 vs = wipe σ vs ∧ tt σ2 H2 fun b H3 =>
      if b = true then te σ2 H3 fun y H4 => ∃ acc, H4 L = some (.lst acc) ∧ acc.length < sizeLine ∧ Pv (i + 1) (upd H4 L (.lst (acc ++ [y]))) else Pv (i + 1) H3) (hd : ∀ H, Pv kvs.length H → Qd H) :
    ∃ W : Nat → Nat → Hp → Prop, (∃ m, W 0 m (upd H1 L (.lst []))) ∧ ∀ i m H, W i m H →
      ((Itk r od kvs).stop i H ∧ Qd H) ∨ ((Itk r od kvs).go i H ∧ ∃ Nx : Hp → Prop, (∀ H', Nx H' → ∃ m', m' < m ∧ W (i + 1) m' H') ∧ ∀ x H', (Itk r od kvs).yld i H x H' → g x (wipe σ vs) H' fun σ2 H2 => wipe σ2 vs = wipe σ vs ∧ tt σ2 H2 fun b H3 =>
        if b = true then te σ2 H3 fun y H4 => ∃ acc, H4 L = some (.lst acc) ∧ acc.length < sizeLine ∧ Nx (upd H4 L (.lst (acc ++ [y]))) else Nx H3) := by
  refine ⟨fun i m H => m = kvs.length - i ∧ i ≤ kvs.length ∧ Pv i H, ⟨kvs.length, by simp, Nat.zero_le _, h0⟩, ?_⟩
  rintro i m H ⟨rfl, hi, p⟩
  have q := hl i H p
  by_cases hlt : i < kvs.length
  · refine .inr ⟨⟨q, hlt⟩, Pv (i + 1), fun H' p' => ⟨kvs.length - (i + 1), by omega, rfl, hlt, p'⟩, fun x H' y => ?_⟩
    obtain ⟨e, k, v, hkv, ex⟩ := y
    subst e ex
    exact hs i k v _ hkv p
  · have e : i = kvs.length := by omega
    subst e
    exact .inl ⟨⟨q, Nat.le_refl _⟩, hd H p⟩
theorem keys_at {kvs : List (Key × V)} {ns : List Int} (hk : kvs.map (·.1) = ns.map Sum.inl) {i : Nat} {k : Key} {v : V} (h : kvs[i]? = some (k, v)) : ∃ n, ns[i]? = some n ∧ k = Sum.inl n := by
  have e : (kvs.map (·.1))[i]? = some k := by rw [List.getElem?_map, h]; rfl
  rw [hk, List.getElem?_map] at e
  cases q : ns[i]? with
  | none => rw [q] at e; cases e
  | some n => rw [q] at e; exact ⟨n, rfl, (Option.some.inj e).symm⟩
/-- [e for k in d if t], the dict locked for that time -/
theorem en_lcK {ns : List Int} {kvs : List (Key × V)} {r : Addr} (f : Int → Bool) (g : Int → D) {j : Nat} {vs : List Nat} (hr : H r = some (.dK kvs)) (hk : kvs.map (·.1) = ns.map Sum.inl) (hd : ∀ od, EvD td σ (upd H r (.frz od (.dK kvs))) (.ref r))
    (hl : ns.length ≤ 1000000) (hn : ∀ x ∈ ns, (g x).nl = true) (hw : ∀ x, wipe ((wipe σ vs).set j (some x)) vs = wipe σ vs)
    (hb : ∀ n ∈ ns, ∀ od H1, Same (upd H r (.frz od (.dK kvs))) H1 → EvT tt ((wipe σ vs).set j (some (.int n))) H1 (f n) ∧ (f n = true → EvD te ((wipe σ vs).set j (some (.int n))) H1 (g n))) :
    EvN (tLockE (tLc (iKeys td) (gName j) tt te vs)) σ H ((ns.filter f).map g) := fun H0 s Q q => by
  have hlen : kvs.length = ns.length := by
    have z := congrArg List.length hk
    rwa [List.length_map, List.length_map] at z
  refine ⟨r, .dK kvs, s _ _ hr, trivial, fun od => ?_⟩
  refine hd od _ (same_upd s) _ fun v H1 s1 av => ?_
  cases av
  have hfr : H1 r = some (.frz od (.dK kvs)) := s1 _ _ upd_same
  refine ⟨r, od, rfl, .inl ⟨kvs, hfr, fun L hL => lc_keys (Lw H1 L f g ns) (lw_start hL) (fun i H' p => p.2.1 _ _ hfr) (fun i k v H' hkv p => ?_) (fun H' p => ?_)⟩⟩
  · obtain ⟨n, hn', rfl⟩ := keys_at hk hkv
    obtain ⟨b1, b2⟩ := hb n (List.mem_of_getElem? hn') od H' (((same_upd s).trans s1).trans p.2.1)
    exact ⟨hw _, lw_turn hn' hl hn p b1 b2⟩
  · obtain ⟨p1, p2, acc, p3, p4⟩ := p
    rw [List.take_of_length_le (by omega)] at p4
    have hL0 := fresh_back s1 p1
    obtain ⟨hL1, hne⟩ := lock_fresh (s _ _ hr) hL0
    have hfr' : H' r = some (.frz od (.dK kvs)) := p2 _ _ hfr
    refine ⟨hfr', q L acc _ hL1 (lock_back (s _ _ hr) (s1.trans p2)) (by rw [upd_ne hne]; exact p3) (p4.tle (unfrz_tle hfr') (nls_of fun z hz => hn z (List.mem_filter.mp hz).1))⟩

/-! ### dicts with int keys -/
abbrev KRep (H : Hp) : List (Int × D) → List (Key × V) → Prop := Paired fun p q => q.1 = Sum.inl p.1 ∧ At H p.2 q.2
theorem KRep.mono (s : Same H H') {l : List (Int × D)} {kvs : List (Key × V)} (h : KRep H l kvs) : KRep H' l kvs := Paired.mapP h fun _ _ z => ⟨z.1, z.2.mono s⟩
theorem KRep.tle (s : Tle H H') {l : List (Int × D)} {kvs : List (Key × V)} (hn : ∀ p ∈ l, p.2.nl = true) (h : KRep H l kvs) : KRep H' l kvs := by
  induction h with
  | nil => exact .nil
  | cons a t ih => exact .cons ⟨a.1, a.2.tle s (hn _ List.mem_cons_self)⟩ (ih fun p hp => hn p (List.mem_cons_of_mem _ hp))
theorem KRep.keys {l : List (Int × D)} {kvs : List (Key × V)} (h : KRep H l kvs) : kvs.map (·.1) = (l.map (·.1)).map Sum.inl := by
  induction h with
  | nil => rfl
  | cons a t ih => rw [List.map_cons, List.map_cons, List.map_cons, ih, a.1]
theorem KRep.length {l : List (Int × D)} {kvs : List (Key × V)} (h : KRep H l kvs) : l.length = kvs.length := Paired.length h
theorem KRep.val {l : List (Int × D)} {kvs : List (Key × V)} (h : KRep H l kvs) (n : Int) : match l.lookup n with
    | some d => ∃ v, valV kvs (Sum.inl n) = some v ∧ At H d v
    | none => valV kvs (Sum.inl n) = none := by
  induction h with
  | nil => rfl
  | @cons p q l kvs a t ih =>
    obtain ⟨m, d⟩ := p
    obtain ⟨k, v⟩ := q
    obtain ⟨a1, a2⟩ := a
    dsimp only at a1 a2
    subst a1
    by_cases c : n = m
    · subst c
      rw [List.lookup_cons, beq_self_eq_true]
      exact ⟨v, valV_pos rfl, a2⟩
    · rw [List.lookup_cons, beq_eq_false_iff_ne.mpr c]
      have c2 : ¬ ((Sum.inl m : Key) = Sum.inl n) := fun z => c (Sum.inl.inj z).symm
      rw [valV_neg (p := ((Sum.inl m : Key), v)) c2]
      exact ih
theorem KRep.some {l : List (Int × D)} {kvs : List (Key × V)} (h : KRep H l kvs) {n : Int} {d : D} (e : l.lookup n = some d) : ∃ v, valV kvs (Sum.inl n) = some v ∧ At H d v := by
  have z := h.val n
  rw [e] at z
  exact z
theorem KRep.none {l : List (Int × D)} {kvs : List (Key × V)} (h : KRep H l kvs) {n : Int} (e : l.lookup n = none) : valV kvs (Sum.inl n) = none := by
  have z := h.val n
  rw [e] at z
  exact z
theorem KRep.isSome {l : List (Int × D)} {kvs : List (Key × V)} (h : KRep H l kvs) (n : Int) : (valV kvs (Sum.inl n)).isSome = (l.lookup n).isSome := by
  cases e : l.lookup n with
  | none => rw [h.none e]; rfl
  | some d => obtain ⟨v, q, _⟩ := h.some e; rw [q]; rfl
/-- the dict at r is read as l -/
def IDict (H : Hp) (r : Addr) (l : List (Int × D)) : Prop := ∃ kvs, Rd H r (.dK kvs) ∧ KRep H l kvs
theorem IDict.mono (s : Same H H') {r : Addr} {l : List (Int × D)} (h : IDict H r l) : IDict H' r l := let ⟨kvs, a, b⟩ := h; ⟨kvs, same_rd s a, b.mono s⟩
theorem dget_rd {a : Addr} {kvs : List (Key × V)} {k : Key} (e : Rd H a (.dK kvs)) : DGet H a (kV k) (valV kvs k) := .inl ⟨kvs, k, e, rfl, rfl⟩
theorem ev_dget {rr : Addr} {l : List (Int × D)} {n : Int} (h : IDict H rr l) (e : l.lookup n = some d) (hd : EvD td σ H (.ref rr)) (hy : EvD te σ H (.int n)) : EvD (tDGet td te) σ H d := fun H0 s Q q =>
  hd H0 s _ fun v H1 s1 av => by
    cases av
    refine hy H1 (s.trans s1) _ fun w H2 s2 aw => ?_
    cases aw
    obtain ⟨kvs, hr, hk⟩ := h.mono ((s.trans s1).trans s2)
    obtain ⟨v, e1, e2⟩ := hk.some e
    refine ⟨rr, v, rfl, ?_, q v H2 (s1.trans s2) e2⟩
    rw [← e1]
    exact dget_rd (k := Sum.inl n) hr
theorem ev_din {rr : Addr} {l : List (Int × D)} {n : Int} (h : IDict H rr l) (hy : EvD te σ H (.int n)) (hd : EvD td σ H (.ref rr)) : EvD (tDIn te td) σ H (.bl (l.lookup n).isSome) := fun H0 s Q q =>
  hy H0 s _ fun v H1 s1 av => by
    cases av
    refine hd H1 (s.trans s1) _ fun w H2 s2 aw => ?_
    cases aw
    obtain ⟨kvs, hr, hk⟩ := h.mono ((s.trans s1).trans s2)
    refine ⟨rr, _, rfl, dget_rd (k := Sum.inl n) hr, ?_⟩
    rw [hk.isSome n]
    exact q _ H2 (s1.trans s2) (.bl _)
theorem ev_dni {rr : Addr} {l : List (Int × D)} {n : Int} (h : IDict H rr l) (hy : EvD te σ H (.int n)) (hd : EvD td σ H (.ref rr)) : EvD (tDNotIn te td) σ H (.bl (!(l.lookup n).isSome)) := fun H0 s Q q =>
  hy H0 s _ fun v H1 s1 av => by
    cases av
    refine hd H1 (s.trans s1) _ fun w H2 s2 aw => ?_
    cases aw
    obtain ⟨kvs, hr, hk⟩ := h.mono ((s.trans s1).trans s2)
    refine ⟨rr, _, rfl, dget_rd (k := Sum.inl n) hr, ?_⟩
    rw [hk.isSome n]
    exact q _ H2 (s1.trans s2) (.bl _)
/-- k in d where k may be None -/
def lookO (l : List (Int × D)) : Option Int → Option D
  | none => none
  | some n => l.lookup n
theorem ev_dinN {rr : Addr} {l : List (Int × D)} {n : Option Int} (h : IDict H rr l) (hy : EvD te σ H (oi n)) (hd : EvD td σ H (.ref rr)) : EvD (tDInN te td) σ H (.bl (lookO l n).isSome) := fun H0 s Q q =>
  hy H0 s _ fun v H1 s1 av => by
    cases at_oi' av
    refine hd H1 (s.trans s1) _ fun w H2 s2 aw => ?_
    cases aw
    obtain ⟨kvs, hr, hk⟩ := h.mono ((s.trans s1).trans s2)
    cases n with
    | none => exact .inr ⟨rr, kvs, rfl, rfl, hr, q _ H2 (s1.trans s2) (.bl _)⟩
    | some n =>
      refine .inl ⟨rr, _, rfl, dget_rd (k := Sum.inl n) hr, ?_⟩
      rw [hk.isSome n]
      exact q _ H2 (s1.trans s2) (.bl _)
/-- d.get(k, None) -/
theorem ev_dget2 {rr : Addr} {l : List (Int × D)} {n : Int} (h : IDict H rr l) (hd : EvD td σ H (.ref rr)) (hy : EvD te σ H (.int n)) (hx : EvD tx σ H d) : EvD (tDGet2 td te tx) σ H ((l.lookup n).getD d) := fun H0 s Q q =>
  hd H0 s _ fun v H1 s1 av => by
    cases av
    obtain ⟨kvs, hr, hk⟩ := h.mono (s.trans s1)
    refine ⟨rr, rfl, .inl ⟨kvs, hr⟩, hy H1 (s.trans s1) _ fun w H2 s2 aw => hx H2 ((s.trans s1).trans s2) _ fun z H3 s3 az => ?_⟩
    cases aw
    have s4 := s2.trans s3
    refine ⟨_, dget_rd (k := Sum.inl n) (same_rd s4 hr), ?_⟩
    cases e : l.lookup n with
    | none =>
      rw [hk.none e]
      refine q _ H3 (s1.trans s4) ?_
      rw [e]
      exact az
    | some d' =>
      obtain ⟨v, e1, e2⟩ := hk.some e
      rw [e1]
      refine q _ H3 (s1.trans s4) ?_
      rw [e]
      exact e2.mono s4
/-! sorted(d), list(d): int keys -/
theorem en_listD {rr : Addr} {l : List (Int × D)} (h : IDict H rr l) (hd : EvD td σ H (.ref rr)) : EvN (tCB (fun xs H Q => ∃ (a : Addr) (kvs : List (Key × V)), xs = [.ref a] ∧ Rd H a (.dK kvs) ∧ ∀ p, H p = none → Q (.ref p) (upd H p (.lst (kvs.map fun kv => kV kv.1)))) (tCons td tNil)) σ H ((l.map (·.1)).map D.int) :=
  en_cb (ea_cons hd ea_nil) fun vs H1 s as Q q => by
    cases as with
    | cons a as =>
      cases as; cases a
      obtain ⟨kvs, hr, hk⟩ := h.mono s
      refine ⟨rr, kvs, rfl, hr, fun p hp => q p _ _ hp (Same.new hp) upd_same ?_⟩
      have e : (kvs.map fun kv => kV kv.1) = (l.map (·.1)).map V.int := by
        have z := congrArg (List.map kV) hk.keys
        rw [List.map_map, List.map_map, List.map_map] at z
        rw [List.map_map]
        exact z
      rw [e]
      exact ats_ints _
end
end Ho

set_option Elab.async false
set_option linter.all false
set_option maxRecDepth 100000
set_option maxHeartbeats 4000000
/-! A3: rules that the layer does not have: calls by positional promises, list.remove and list.count of any data, a caught error kept as a value, isinstance of it, a token for str.replace. -/
namespace Ho
open PySem PySem.Spec PyProof.Rows L2

/-! ### calls -/
def tCallF (sp : Sp) (E : XK) (t : TA) : TE := fun σ H Q => t σ H fun vs H1 => sp vs H1 Q E
def tMethF0 (C : Addr) (m : Str) (sp : Sp) (E : XK) (ta : TE) : TE := fun σ H Q => ta σ H fun x H1 => ∃ a dx fs, x = .ref a ∧ H1 a = some (.ins C dx fs) ∧ fs.lookup m = none ∧ sp [x] H1 Q E
section
variable {X : Cx} {CX : CXT} {k : Nat} {f C : Addr} {sp : Sp} {E : XK} {x m : Str} {e o : Expr} {es : List Expr} {t : TA} {ta : TE} {p pos apos : Pos} {W : WX}
theorem pe_callF (F : FnR X.prog X.w X.K X.mg X.base CX k f sp) (hr : Room k X.A) (hm : X.mg x = some (.ref f)) (hk : PySem.W.keepIn X.K (.ref f) = true) (hx : Passes CX X E) (ha : PA X (e :: es) t)
    (hg : Gl X x := by rfl) (hdb : (x == ("__debug__" : Str)) = false := by decide)
    (h1 : starEach (e :: es) X.env = (false, eval e X.env) :: starEach es X.env := by rfl) (h2 : (backTo pos (starEach es X.env)).any (·.1) = false := by rfl) :
    PE X (.Call (.Name x p) (e :: es) [] pos) (tCallF sp E t) :=
  ⟨fun pins s σ H Q I h => wpAny_Call_Name_kw (ld_glob I hg hm (PySem.W.callWith_K (h₀ := X.base) I.ok.mod.kin hk
    (thn (ha.run pos pins s σ H _ I h) fun us s1 ⟨vs, H1, I1, r, q⟩ => ⟨I1.kIn, wpAny_call (run_fnR F hr hx I1 r q)⟩) h1 h2) hdb)⟩
theorem pe_methF0 {pl : Sem Bool} (he : PE X o ta) (c : Cls X.K C) (hm : Meth X.K C m f) (F : FnR X.prog X.w X.K X.mg X.base CX k f sp) (hr : Room k X.A) (hx : Passes CX X E)
    (ht : eval (.Call (.Attribute o m apos) [] [] pos) X.env = (do
        let ov ← eval o X.env
        standAt apos.atName
        let (g, first) ← holding [ov] (getMethod ov m pl)
        callWith pos g first (backTo pos (starEach [] X.env)) (backToKw pos (keywordEach [] X.env))) := by rfl) :
    PE X (.Call (.Attribute o m apos) [] [] pos) (tMethF0 C m sp E ta) :=
  ⟨fun pins s σ H Q I h => PySem.W.methodCall_KW (pl := pl) (thn (he.run pins s σ H _ I h) fun u s1 ⟨y, H1, I1, ry, a, dx, fs, ey, ea, l, q⟩ => by
    subst ey
    cases (show u = Value.ref a from ry)
    exact getmeth_ok I1 ea c hm l (PySem.W.callWith_K0 (first := [.ref a]) I1.kIn hm.kp (wpAny_call (run_fnR (us := [.ref a]) (vs := [.ref a]) F hr hx I1 (.cons rfl .nil) q)))) ht⟩
/-- the same, what is raised wished for at the caller's slots -/
def tCallFS (sp : Sp) (W : WX) (t : TA) : TE := fun σ H Q => t σ H fun vs H1 => sp vs H1 Q fun cls d H2 => W cls d σ H2
theorem pe_callFS (F : FnR X.prog X.w X.K X.mg X.base (L2.CX X.prog X.w) k f sp) (hr : Room k X.A) (hm : X.mg x = some (.ref f)) (hk : PySem.W.keepIn X.K (.ref f) = true) (tk : Takes X W) (ha : PA X (e :: es) t)
    (hg : Gl X x := by rfl) (hdb : (x == ("__debug__" : Str)) = false := by decide)
    (h1 : starEach (e :: es) X.env = (false, eval e X.env) :: starEach es X.env := by rfl) (h2 : (backTo pos (starEach es X.env)).any (·.1) = false := by rfl) :
    PE X (.Call (.Name x p) (e :: es) [] pos) (tCallFS sp W t) :=
  ⟨fun pins s σ H Q I h => wpAny_Call_Name_kw (ld_glob I hg hm (PySem.W.callWith_K (h₀ := X.base) I.ok.mod.kin hk
    (thn (ha.run pos pins s σ H _ I h) fun us s1 ⟨vs, H1, I1, r, q⟩ => ⟨I1.kIn, wpAny_call (codeAny_mono (F X.A X.stack s1 H1 us vs Q _ hr I1.env0 r q) fun z s' hq => by
      cases z with
      | error u => exact passAt tk σ pins H1 s1 u s' I1 hq
      | ok fl => cases fl with
        | ret u => exact I1.after hq
        | _ => exact False.elim hq)⟩) h1 h2) hdb)⟩
end

/-! ### list.remove, items of any data -/
section
open MeetsSeq AutoSeq1
theorem rem_loop (l : Addr) (its : Array Value) (n : Nat) (x : Value) (q : Value → Bool) (j : Nat) (hj : j < its.size) (hit : q its[j] = true) (hz : its.size ≤ sizeLine) : ∀ (k i : Nat), j - i = k → i ≤ j →
    (∀ m (hm : m < its.size), i ≤ m → m < j → q its[m] = false) → Meets (Builtin.«list.remove.loop» ⟨[.ref l, x, rawInt i], []⟩)
      (fun A R s => s.heap.get? l = some { cls := .type "list", data := .seq its n } ∧ (∀ y, y ∈ its → SeqAt.EqAt A.in1 s y x (q y)) ∧ R (.ok (.ret .none)) { s with heap := s.heap.update l (Obj.mapSeq fun z => z.eraseIdxIfInBounds j) })
  | 0, i, hk, hij, hno => fun prog w A R s h => by
    obtain ⟨hp, g, dr, tk, ost⟩ := s
    obtain ⟨hl, he, h⟩ := h
    have ij : i = j := by omega
    subst ij
    wp_walk using wpAny_loadPart' hl
    rw [show its[((i : Nat) : Int).toNat]? = some its[i] by simp [hj]]
    refine wpAny_bind (he _ (Array.getElem_mem hj) prog w _ _ ?_)
    rw [hit]
    have hz2 : (its.eraseIdxIfInBounds i).size ≤ sizeLine + 1 := Nat.le_trans (size_erased its _) (Nat.le_succ_of_le hz)
    wp_walk using (wpAny_updateSeq hl rfl (hz := hz) (_hz' := hz2)), wpAny_loadPart' hl
    simpa using h
  | k + 1, i, hk, hij, hno => fun prog w A R s h => by
    obtain ⟨hp, g, dr, tk, ost⟩ := s
    obtain ⟨hl, he, h⟩ := h
    have lt : i < its.size := by omega
    wp_walk using wpAny_loadPart' hl
    rw [show its[((i : Nat) : Int).toNat]? = some its[i] by simp [lt]]
    refine wpAny_bind (he _ (Array.getElem_mem lt) prog w _ _ ?_)
    rw [hno i lt (Nat.le_refl _) (by omega)]
    wp_walk
    rw [show ((i : Int) + 1) = ((i + 1 : Nat) : Int) by push_cast; rfl]
    exact ⟨plainId_quiet plain_remove_loop _, codeAny_builtin entry_remove_loop (by
      rw [Around.under_plainId plain_remove_loop _]
      exact rem_loop l its n x q j hj hit hz k (i + 1) (by omega) (by omega) (fun m hm a b => hno m hm (by omega) b) prog w A R _ ⟨hl, he, h⟩)⟩
theorem rem_at (l : Addr) (its : Array Value) (n : Nat) (x : Value) (q : Value → Bool) (j : Nat) (hj : j < its.size) (hit : q its[j] = true) (hz : its.size ≤ sizeLine) (hno : ∀ m (hm : m < its.size), m < j → q its[m] = false) :
    Meets (Builtin.«list.remove» ⟨[.ref l, x], []⟩)
      (fun A R s => s.heap.get? l = some { cls := .type "list", data := .seq its n } ∧ (∀ y, y ∈ its → SeqAt.EqAt A.in1 s y x (q y)) ∧ R (.ok (.ret .none)) { s with heap := s.heap.update l (Obj.mapSeq fun z => z.eraseIdxIfInBounds j) }) := fun prog w A R s h => by
  obtain ⟨hp, g, dr, tk, ost⟩ := s
  obtain ⟨hl, he, h⟩ := h
  wp_walk using wpAny_loadPart' hl
  exact ⟨plainId_quiet plain_remove_loop _, codeAny_builtin entry_remove_loop (by
    rw [Around.under_plainId plain_remove_loop _]
    exact rem_loop l its n x q j hj hit hz _ 0 rfl (Nat.zero_le _) (fun m hm _ b => hno m hm b) prog w A R _ ⟨hl, he, h⟩)⟩
end
section
variable {X : Cx}
/-- l.remove(x): the first equal one stands at j -/
def rRemD (K : PySem.W.Frag) : V → List V → Hp → VK → Prop := fun x xs H Q => ∃ (a : Addr) (ys : List V) (y : V) (d : PyData) (ds : List PyData) (j : Nat) (z : PyData), x = V.ref a ∧ xs = [y] ∧ H a = some (.lst ys) ∧ DpAll K H ys ds ∧ Dp K H y d ∧
  SeqAt.shaped (.list ds) = true ∧ SeqAt.shaped d = true ∧ ds[j]? = some z ∧ PyData.eqv z d = true ∧ (∀ (m : Nat) (z' : PyData), m < j → ds[m]? = some z' → PyData.eqv z' d = false) ∧ Q .non (upd H a (.lst (ys.eraseIdx j)))
theorem mt_removeD (hu : X.A.units + 65 < cLine) : MtR X "list.remove" (rRemD X.K) := by
  intro pins s σ H x xs v us Q I rx rxs h
  obtain ⟨a, ys, y, d, ds, j, z, rfl, rfl, hl, ha, hy, sl, sd, hz, hzj, hno, q⟩ := h
  cases rx
  obtain ⟨uy, rfl, ry⟩ := rxs.one
  obtain ⟨bs, r1⟩ := Dp.reads I d y uy hy ry
  have can : PyData.canLayAll0 ds = true := SeqAt.canLay_of_shaped sl
  obtain ⟨hzl, its, n, rv, hlen, ho⟩ := I.lstM hl
  obtain ⟨as, h4⟩ := Dp.readsAll I ds _ its ha rv
  have hn : its.length = ds.length := SeqAt.ReadsAll.length ds its as h4
  have hmap : its.map (SeqAt.readOf s.heap) = ds := SeqAt.readsAll_map ds its as can h4
  have hjd : j < ds.length := (List.getElem?_eq_some_iff.mp hz).1
  have hj : j < its.toArray.size := by rw [List.size_toArray]; omega
  have rd : ∀ (m : Nat) (hm : m < its.toArray.size) (z' : PyData), ds[m]? = some z' → SeqAt.readOf s.heap its.toArray[m] = z' := fun m hm z' e => by
    have ml : m < its.length := by simpa using hm
    rw [← hmap, List.getElem?_map, List.getElem?_eq_getElem ml] at e
    simpa using Option.some.inj e
  have hsz : its.toArray.size ≤ sizeLine := by rw [List.size_toArray, ← hlen]; exact hzl
  refine call_meets PySem.F.slot_list_remove ⟨_, ho, rfl⟩ PySem.F.entry_list_remove (PySem.F.args_list_remove_2 _ _)
    (rem_at a its.toArray n uy (fun u => PyData.eqv (SeqAt.readOf s.heap u) d) j hj (by rw [rd j hj z hz]; exact hzj) hsz fun m hm mj => by
      rw [rd m hm _ (List.getElem?_eq_getElem (show m < ds.length by omega))]
      exact hno m _ mj (List.getElem?_eq_getElem (show m < ds.length by omega)))
    ⟨ho, SeqAt.items_eqAt (vs := its.toArray) (show ReadsAll s.heap its.toArray.toList ds as from h4) r1 can (SeqAt.canLay_of_shaped sd) (room_in_shaped sd hu), ?_⟩
  refine ⟨.non, _, I.lset (its' := its.eraseIdx j) (t' := s.toks) hl ho ?_ (rv.eraseIdx j) ?_, rfl, q⟩
  · show its.toArray.eraseIdxIfInBounds j = (its.eraseIdx j).toArray
    rw [List.eraseIdxIfInBounds_toArray]
  · exact Nat.le_trans (len_erase ys j) hzl
/-! ### list.count of flat items -/
theorem cnt_eqU {x : V} : ∀ {xs : List V} {us : List Value}, Vals xs us → xs.all flatV = true → us.countP (eqU x) = xs.countP fun y => eqV y x
  | _, _, .nil, _ => rfl
  | y :: xs, u :: us, .cons r t, f => by
    obtain ⟨f1, f2⟩ := Bool.and_eq_true_iff.mp (show (flatV y && xs.all flatV) = true from f)
    rw [List.countP_cons, List.countP_cons, eqU_of r f1, cnt_eqU t f2]
def rCntV (K : PySem.W.Frag) : V → List V → Hp → VK → Prop := fun x xs H Q => ∃ (p : Addr) (ys : List V) (y : V), x = .ref p ∧ xs = [y] ∧ SqL K H p ys ∧ flatV y = true ∧ ys.all flatV = true ∧ Q (.int ((ys.countP fun z => eqV z y : Nat) : Int)) H
theorem mt_countV : MtR X "list.count" (rCntV X.K) := by
  intro pins s σ H x xs v us Q I rx rxs h
  obtain ⟨p, ys, y, rfl, rfl, hs, fy, fys, q⟩ := h
  cases rx
  obtain ⟨u, rfl, ru⟩ := rxs.one
  obtain ⟨its, rv, ⟨⟨cls, dd, data, sl⟩, n, ho, hc, hdn, hd⟩, _⟩ := I.list hs
  dsimp only at hc hd
  subst hc hd
  refine call_meets PySem.F.slot_list_count ⟨_, ho, rfl⟩ PySem.F.entry_list_count (PySem.F.args_list_count_2 _ _)
    (SeqAt.list_countAt p its.toArray n dd sl u (eqU y)) ⟨ho, fun z hz => mem_eqAt ru fy rv fys z (by simpa using hz), ?_⟩
  refine ⟨.int ((ys.countP fun z => eqV z y : Nat) : Int), H, I.tok _, ⟨s.toks, ?_⟩, q⟩
  rw [← cnt_eqU rv fys]
end

/-! ### a caught error, kept as a value -/
/-- the caught error at a: its class cls, its own dict d -/
def ExK (cls : Value) (d : Option Addr) (a : Addr) : HO := .ext fun h => ∃ (oe : Obj) (vs : Array Value), h.get? a = some oe ∧ Zc cls d oe ∧ oe.data = .fields vs
theorem objOk_more {P : Program} {w : World} {H : Hp} {h : Heap} {a b : Addr} {o u : HO} (x : ObjOk P w H h b o) (n : H a = none) : ObjOk P w (upd H a u) h b o :=
  x.stay (fun _ _ _ q => q) (fun c q => by rw [upd_ne (ne_of_none q n)]; exact q) fun c xs q => by rw [upd_ne (ne_of_none q n)]; exact q
/-- what was pinned, new since the def's entry, is tracked from here on -/
theorem inv_track {X : Cx} {pins : List (Addr × Obj)} {σ : L2.St} {H : Hp} {s : Shared} {a : Addr} {oe : Obj} {cls : Value} {d : Option Addr} {vs : Array Value} (I : Inv X ((a, oe) :: pins) σ H s) (hz : Zc cls d oe) (hd : oe.data = .fields vs)
    (hn : X.s_0.heap.get? a = none) (hp : ∀ p ∈ X.pn ++ pins, p.1 ≠ a) : Inv X pins σ (upd H a (ExK cls d a)) s := by
  obtain ⟨e, n, nL, nF, nc⟩ := I.pin (a, oe) (List.mem_append_right _ List.mem_cons_self)
  dsimp only at e n nL nF nc
  have ne0 : ∀ b o, X.s_0.heap.get? b = some o → b ≠ a := fun b o q z => by rw [z, hn] at q; cases q
  have neH : ∀ b o, H b = some o → b ≠ a := fun b o q z => by rw [z, n] at q; cases q
  refine ⟨I.ok, I.os, I.bare, ⟨I.base.keep, I.base.slot, fun b o q z hx => ?_, I.base.there, fun b xs q => ?_, fun b o u q => ?_, fun b ps q => ?_⟩, I.loc, I.cell, ?_, fun x c q => ?_, fun p hpp => ?_, fun b o q => ?_, I.len⟩
  · rw [upd_ne (ne0 b o q)]; exact I.base.free b o q z hx
  · rw [upd_ne (neH b _ (I.base.tups b xs q))]; exact I.base.tups b xs q
  · rw [upd_ne (neH b _ (I.base.frzs b o u q))]; exact I.base.frzs b o u q
  · obtain ⟨more, z⟩ := I.base.tbls b ps q
    exact ⟨more, by rw [upd_ne (neH b _ z)]; exact z⟩
  · rw [upd_ne (Ne.symm nL)]; exact I.free
  · have nca : c ≠ a := fun z => by
      obtain ⟨v, o', hc1, hc2⟩ := I.cell x c q
      rw [z, e] at hc1
      cases hc1
      exact nc _ hc2
    rw [upd_ne nca]; exact I.freeC x c q
  · obtain ⟨q1, q2, q3⟩ := I.pin p ((List.mem_append.mp hpp).elim (fun z => List.mem_append_left _ z) fun z => List.mem_append_right _ (List.mem_cons_of_mem _ z))
    exact ⟨q1, by rw [upd_ne (hp p hpp)]; exact q2, q3⟩
  · by_cases hb : b = a
    · subst hb
      rw [upd_same] at q
      cases q
      exact ⟨⟨oe, vs, e, hz, hd⟩, ⟨oe, e⟩, fun h1 h2 ⟨o1, v1, a1, a2⟩ k => ⟨o1, v1, k _ a1, a2⟩⟩
    · rw [upd_ne hb] at q
      exact objOk_more (I.hok b o q) n
/-- except x as n: the error stays known behind the clause (every error of the body is one of x's) -/
def wKeep (K : PySem.W.Frag) (c : Value) (i : Nat) (ts : Addr → Value → Option Addr → TS) (D : Ends) : WX := fun cls d σ H =>
  PySem.W.exmOne K cls c = some true ∧ ∀ a, H a = none → ts a cls d { nx := fun σ' H' => D.nx (σ'.set i none) (upd H' a (ExK cls d a)), rt := fun _ _ => False } (σ.set i (some (.ref a))) H
section
variable {X : Cx} {x n : Str} {c : Value} {i : Nat} {body suite : List Stmt} {b₀ : Stmt} {np pos pos' : Pos} {tb : WX → TS} {ts : Addr → Value → Option Addr → TS}
theorem ps_try_keep (hs : X.stack = X.env :: X.outer) (hf : X.env.frame = some X.env.locals) (hex : X.ex = []) (hN : X.N.Nodup) (hi : X.N[i]? = some n) (hln : X.env.kindOf n = some .local) (hc : Names X x c)
    (hb : ∀ (W : WX) (pn : List (Addr × Obj)) (xe : Value → Shared → Prop), Takes (X.tr pn xe) W → PassesOwn (model X.prog X.w) X.A X.env xe → PSs (X.tr pn xe) body (tb W))
    (hsu : ∀ (a : Addr) (oe : Obj) (cls : Value) (d : Option Addr) (pn : List (Addr × Obj)), Zc cls d oe → (∃ vs, oe.data = .fields vs) → PSs (X.suite a ((a, oe) :: pn)) (b₀ :: suite) (ts a cls d)) :
    PS X (.Try body [.ExceptHandler (some (.Name x np)) (some n) (b₀ :: suite) pos'] [] [] pos) (fun D σ H => tb (wKeep X.K c i ts D) D σ H) := by
  constructor
  intro pins s σ H D I h
  have ok := I.ok
  have frm : X.A.frames = some (X.env :: X.outer) := ok.frames.trans (congrArg some hs)
  refine wpAny_Try_except (wpAny_mono ((hb (wKeep X.K c i ts D) (X.pn ++ pins) _ (fun u s' xx => ?_) PassesOwn.looking).run [] s σ H D (I.toTry _) h) (fun f s1 fin => ?_) (fun _ _ z => z))
  · obtain ⟨a, B, sI, pins', σ', H', cls, d, rfl, J', nb, up, sky, na, ost, ag, hm, hyes⟩ := xx
    have J : Inv X pins σ' H' sI := J'.ofTry ok
    have sk : Sky B (X.env :: X.outer) a (Zc cls d) X.env.locals s'.heap := hs ▸ sky
    have Ba : B.get? a = none := by
      rcases sk with z | z | z
      · exact z.2.1
      · exact z.2.1
      · exact z.2.1
    refine Sky.land Zc.steady frm hf sk fun h3 fl up3 => ?_
    have J3 : Inv X pins σ' H' { s' with heap := h3 } := J.landed nb fl.1 (up.trans up3) ost ag
    obtain ⟨o3, v3, e3, z3, d3⟩ := fl.there
    have away : a ∉ frs (X.env :: X.outer) := fun hm2 => by
      obtain ⟨_, o', e', hnf⟩ := fl.2.2.1.mem hm2
      rw [e3] at e'
      cases e'
      exact hnf _ d3
    have nL : a ≠ X.env.locals := fun z => away (List.mem_filterMap.mpr ⟨X.env, List.mem_cons_self, by rw [hf, z]⟩)
    have nF : a ∉ X.fs := fun z => by
      obtain ⟨e', he', q'⟩ := List.mem_filterMap.mp z
      exact away (List.mem_filterMap.mpr ⟨e', List.mem_cons_of_mem _ he', q'⟩)
    have nI : sI.heap.get? a = none := by
      cases q : sI.heap.get? a with
      | none => rfl
      | some o =>
        have z := nb a o q (by rw [hs]; exact away)
        rw [Ba] at z
        cases z
    have n0 : X.s_0.heap.get? a = none := by
      cases q : X.s_0.heap.get? a with
      | none => rfl
      | some o =>
        obtain ⟨o', z⟩ := J.base.there a o q (by rw [hex]; exact List.not_mem_nil)
        rw [nI] at z
        cases z
    have apart : ∀ p ∈ X.pn ++ pins, p.1 ≠ a := fun p hp z => by
      have w := (J.pin p hp).1
      rw [z, nI] at w
      cases w
    have S3 := J3.suite e3 d3 na nL nF
    refine wpAny_handleBy_cons (codeAny_handlers_test ?_) (by intro q; cases q)
    have LT : PySem.W.Looks (model X.prog X.w) h3 (typeOf (.ref a)) cls := fun A Q E s k q => wpAny_typeOf_ref (k _ _ e3) (by rw [z3.1]; exact q)
    have named : ∀ {Q : Value → Shared → Prop} {E : Value → Shared → Prop}, Q c { s' with heap := h3 } → wpAny (model X.prog X.w) (X.A.mark (some (.ref a))) (eval (.Name x np) X.env) Q E { s' with heap := h3 } := fun q => by
      rcases hc with ⟨hg, hdbg, hm1 | ⟨hm1, hv, hnn⟩⟩
      · exact ld_glob (X := X.suite a ((a, o3) :: (X.pn ++ pins))) S3 hg hm1 q hdbg
      · exact ld_blt (X := X.suite a ((a, o3) :: (X.pn ++ pins))) S3 hg hm1 hv q hnn hdbg
    refine named ((PySem.W.exm_one (M := model X.prog X.w) J3.kIn LT hm).here (codeAny_handlers_suite_as (HandSPX.lands_againZ fl fun h4 fl4 up4 => ?_)))
    have J4 : Inv X pins σ' H' { s' with heap := h4 } := J.landed nb fl4.1 ((up.trans up3).trans up4) ost ag
    obtain ⟨o4, v4, e4, z4, d4⟩ := fl4.there
    refine store_ok (X := X.suite a ((a, o4) :: (X.pn ++ pins))) (v := .ref a) (J4.suite e4 d4 na nL nF) hN hi (.inl hln) rfl (fun s5 S5 => ?_) (.inr hln)
    refine wpAny_mono ((hsu a o4 cls d (X.pn ++ pins) z4 ⟨_, d4⟩).run [] s5 _ H' _ S5 (hyes a na)) (fun f s6 fin => ?_) (fun _ _ z => False.elim z)
    cases f with
    | next =>
      obtain ⟨σ6, H6, S6, q6⟩ := fin
      have P6 : Inv X ((a, o4) :: pins) σ6 H6 s6 := (S6.unsuite ok).pins_of fun p hp => by
        rcases List.mem_cons.mp hp with z | z
        · subst z; exact S6.pin (a, o4) (List.mem_append_left _ List.mem_cons_self)
        · exact S6.pin p (List.mem_append_left _ (List.mem_cons_of_mem _ (List.mem_append_right _ z)))
      exact gone_ok P6 hN hi hln fun s7 J7 => ⟨_, _, inv_track J7 z4 d4 n0 apart, q6⟩
    | brk =>
      obtain ⟨_, _, _, z⟩ := fin
      exact z.elim
    | cont =>
      obtain ⟨_, _, _, z⟩ := fin
      exact z.elim
    | ret u =>
      obtain ⟨_, _, _, _, _, z⟩ := fin
      exact z.elim
  · cases f with
    | next => exact wpAny_execs_nil (let ⟨a1, a2, a3, a4⟩ := fin; ⟨a1, a2, a3.ofTry ok, a4⟩)
    | brk => exact let ⟨a1, a2, a3, a4⟩ := fin; ⟨a1, a2, a3.ofTry ok, a4⟩
    | cont => exact let ⟨a1, a2, a3, a4⟩ := fin; ⟨a1, a2, a3.ofTry ok, a4⟩
    | ret u => exact let ⟨a1, a2, a3, a4, a5, a6⟩ := fin; ⟨a1, a2, a3, a4.ofTry ok, a5, a6⟩
end
/-- isinstance of a kept error -/
def rIsK (K : PySem.W.Frag) : List V → Hp → VK → Prop := fun xs H Q => ∃ (a D : Addr) (c : V) (cv : Value) (b : Bool), xs = [.ref a, c] ∧ H a = some (ExK (.ref D) none a) ∧ ExcC K D ∧ (∀ u, RelV c u → u = cv) ∧ PySem.W.kitOne K (.ref D) cv = some b ∧ Q (.bl b) H
theorem call_isK {X : Cx} : CallR X (.builtin "isinstance") (rIsK X.K) := by
  intro pins s σ H xs us Q I r h
  obtain ⟨a, D, c, cv, b, rfl, hH, C, hcv, e, q⟩ := h
  obtain ⟨u1, u2, rfl, r1, r2⟩ := r.two
  cases r1
  have ec := hcv _ r2
  subst ec
  obtain ⟨⟨oe, vs, hget, hz, hv⟩, _, _⟩ := I.hok a _ hH
  have J : PySem.W.InstAt s.heap a oe D none := by
    rcases oe with ⟨oc, od, oda, osl⟩
    rcases hz with ⟨z1, z2⟩
    dsimp only at z1 z2 hv
    subst z1 z2 hv
    exact ⟨hget, rfl, rfl, trivial⟩
  refine PySem.W.kia_one (PySem.W.handS_kitx_exc C.hg C.hk C.hs C.hd C.ha C.hn C.ht C.hm) I.kIn J e (fun z => nomatch z) fun tk => ?_
  exact ⟨.bl b, H, I.kept (t' := tk) fun _ _ z => z, rfl, q⟩

/-! ### a token is out: str.replace behind a written int -/
/-- as PE, and behind it a token is out -/
def PE1 (X : Cx) (e : Expr) (t : TE) : Prop := ∀ (pins : List (Addr × Obj)) (s : Shared) (σ : L2.St) (H : Hp) (Q : VK), Inv X pins σ H s → t σ H Q → wpAny (model X.prog X.w) X.A (eval e X.env) (fun u s' => 1 ≤ s'.toks ∧ EP X pins σ Q u s') X.xe s
def PA1 (X : Cx) (es : List Expr) (t : TA) : Prop := ∀ (pos : Pos) (pins : List (Addr × Obj)) (s : Shared) (σ : L2.St) (H : Hp) (Q : List V → Hp → Prop), Inv X pins σ H s → t σ H Q →
  wpAny (model X.prog X.w) X.A (spliced (backTo pos (starEach es X.env))) (fun us s' => 1 ≤ s'.toks ∧ AP X pins σ Q us s') X.xe s
section
variable {X : Cx} {CX : CXT} {k : Nat} {f : Addr} {sp : Sp} {E : XK} {x y z : Str} {e o a b : Expr} {es : List Expr} {t : TA} {te ta tb to : TE} {p pos apos p2 c0 c1 : Pos} {i : Int} {j j2 : Nat} {r : R2} {lo hi : Option Expr} {tl th : TO}
theorem grow {α : Type} {M : Model} {A : Around} {t : Sem α} {Q : α → Shared → Prop} {E : Value → Shared → Prop} {s : Shared} (h : wpAny M A t Q E s) (h1 : 1 ≤ s.toks) : wpAny M A t (fun u s' => 1 ≤ s'.toks ∧ Q u s') E s :=
  wpAny_mono (PySem.wpAny_toks h) (fun _ _ q => ⟨Nat.le_trans h1 q.1, q.2⟩) fun _ _ q => q.2
theorem pe1_int {j pos} : PE1 X (.Constant (.int i) j pos) (tC (.int i)) := fun _ s _ H _ I h => wpAny_Constant_int ⟨Nat.succ_le_succ (Nat.zero_le _), .int i, H, I.tok _, ⟨_, rfl⟩, h⟩
theorem pe1_op {op : Operator} (ho : OpR X (binaryOp op) r) (ha : PE X a ta) (hb : PE1 X b tb) : PE1 X (.BinOp a op b pos) (tOp r ta tb) := fun pins s σ H Q I h =>
  wpAny_BinOp (thn (ha.run pins s σ H _ I h) fun v s1 ⟨y, H1, I1, r1, q1⟩ => thn (hb pins s1 σ H1 _ I1 q1) fun u s2 ⟨k2, y2, H2, I2, r2, q2⟩ => grow (ho pins s2 σ H2 y y2 v u Q I2 r1 r2 q2) k2)
theorem pa1_cons (ha : PE1 X e te) (hr : PA X es t) (hs : starEach (e :: es) X.env = (false, eval e X.env) :: starEach es X.env := by rfl) : PA1 X (e :: es) (tCons te t) := fun pos pins s σ H Q I h => by
  rw [hs]
  show wpAny _ _ (spliced ((false, eval e X.env) :: backTo pos (starEach es X.env))) _ _ s
  exact Calls.spliced_cons (thn (ha pins s σ H _ I h) fun u s1 ⟨k1, y, H1, I1, r1, q1⟩ => thn (grow (hr.run pos pins s1 σ H1 _ I1 q1) k1) fun us s2 ⟨k2, vs, H2, I2, r2, q2⟩ => ⟨k2, _, H2, I2, .cons r1 r2, q2⟩)
theorem pe1_callF (F : FnR X.prog X.w X.K X.mg X.base CX k f sp) (hr : Room k X.A) (hm : X.mg x = some (.ref f)) (hk : PySem.W.keepIn X.K (.ref f) = true) (hx : Passes CX X E) (ha : PA1 X (e :: es) t)
    (hg : Gl X x := by rfl) (hdb : (x == ("__debug__" : Str)) = false := by decide)
    (h1 : starEach (e :: es) X.env = (false, eval e X.env) :: starEach es X.env := by rfl) (h2 : (backTo pos (starEach es X.env)).any (·.1) = false := by rfl) :
    PE1 X (.Call (.Name x p) (e :: es) [] pos) (tCallF sp E t) := fun pins s σ H Q I h => wpAny_Call_Name_kw (ld_glob I hg hm (PySem.W.callWith_K (h₀ := X.base) I.ok.mod.kin hk
    (thn (ha pos pins s σ H _ I h) fun us s1 ⟨k1, vs, H1, I1, r, q⟩ => ⟨I1.kIn, grow (wpAny_call (run_fnR F hr hx I1 r q)) k1⟩) h1 h2) hdb)
theorem pe1_slice {w : V → Option Int → Option Int → Hp → VK → Prop} (hr : SlR X w) (he : PE1 X e te) (hl : PO X lo tl) (hu : PO X hi th) : PE1 X (.Subscript e (.Slice lo hi none p2) pos) (tSl w te tl th) := by
  intro pins s σ H Q I h
  refine Subscript_ (thn (he pins s σ H _ I h) fun v s1 ⟨k1, y, H1, I1, r1, q1⟩ => wpAny_Slice ?_)
  refine thn (grow (hl.run pins s1 σ H1 _ I1 q1) k1) fun vl s2 ⟨k2, l, H2, I2, pl, q2⟩ => thn (grow (hu.run pins s2 σ H2 _ I2 q2) k2) fun vu s3 ⟨k3, u, H3, I3, pu, q3⟩ => ?_
  rw [evalPart_none]
  refine wpAny_pure ?_
  generalize hs4 : ({ s3 with heap := s3.heap.push { cls := .type "slice", data := .fields #[vl, vu, .none] } } : Shared) = s4
  have I4 : Inv X pins σ H3 s4 := hs4 ▸ I3.kept (t' := s3.toks) fun b ob q => Heap.get?_push_of_some _ q
  have sl4 : s4.heap.IsSliceOf s3.heap.objs.size vl vu .none := hs4 ▸ Heap.IsSliceOf.new ..
  obtain ⟨T, id, hT, ht, hg⟩ := hr pins s4 σ H3 y v vl vu l u s3.heap.objs.size Q I4 r1 sl4 pl pu q3
  subst hs4
  exact grow (tail_any (ops := [.ref s3.heap.objs.size, v]) ht hT hg (by with_unfolding_all rfl)) k3
/-- e.replace('y', 'z') where e has given out a token -/
theorem pe_repl1 (ho : PE1 X o to) (hyz : (y == z) = false := by decide)
    (hst : starEach [.Constant (.str y) j c0, .Constant (.str z) j2 c1] X.env = [(false, eval (.Constant (.str y) j c0) X.env), (false, eval (.Constant (.str z) j2 c1) X.env)] := by rfl)
    (hbase : attributeBase o "replace" X.env (eval o X.env) = eval o X.env := by rfl) (hline : (apos.endLine == pos.line) = true := by rfl) :
    PE X (.Call (.Attribute o "replace" apos) [.Constant (.str y) j c0, .Constant (.str z) j2 c1] [] pos) (CwR.tReplC to y z) := by
  constructor
  intro pins s σ H Q I h
  refine PySem.Call_method2 hbase hst hline (thn (ho pins s σ H _ I h) fun v s1 q => ?_)
  obtain ⟨k1, w, H1, I1, r1, a, e1, hb, q⟩ := q
  subst e1
  obtain ⟨ta, e2⟩ := r1
  subst e2
  refine ⟨"str", _, PySem.F.plainAttrs_str, PySem.F.slot_str_replace, PySem.F.type_str_replace, typeIs_str _ _ _, (fun _ e => nomatch e), Calls.callWith_builtin rfl (Calls.evalArgs_plain (Calls.spliced_cons (Calls.Constant_str (Calls.spliced_cons (Calls.Constant_str (Calls.spliced_nil ?_))))))⟩
  exact PySem.SC.replace (show s1.toks ≠ 0 by omega) (show s1.toks + 1 ≠ 0 by omega) (show s1.toks ≠ s1.toks + 1 by omega) hyz hb fun t' k => ⟨.str (Txt.replace a y z), H1, I1.tok k, ⟨t', rfl⟩, q⟩
end
/-- the kinds of refusals -/
inductive Kd where | noThing | noBox | noSheet | taken | inside | noRoom | same | noTie | noCast
  deriving DecidableEq
end Ho

set_option Elab.async false
set_option linter.all false
set_option maxRecDepth 100000
set_option maxHeartbeats 4000000
/-! A4: the text by places, what the head tells of it. -/
namespace Ho
open PySem PySem.Spec PyProof.Rows L2
def top (i : Nat) : Stmt := PySem.Challenge.pw_castshelf_k13_whole_one_place.main.body.getD i (.Pass ⟨0, 0, 0, 0⟩)
abbrev cH (K : PySem.W.Frag) : Addr := He.ga K "House"
abbrev cE (K : PySem.W.Frag) (x : Str) : Addr := He.ga K x
abbrev s_g_free_name : Stmt := top 13
def d_g_free_name : He.DefD := ⟨("free_name", none), "free_name", "free_name", defArgs s_g_free_name, defBody s_g_free_name, defScope s_g_free_name, [], []⟩
abbrev s_h_init__ : Stmt := inClass (top 15) 0
def d_h_init__ : He.DefD := ⟨("House", some "__init__"), "__init__", "House.__init__", defArgs s_h_init__, defBody s_h_init__, defScope s_h_init__, [], []⟩
abbrev s_h_is_there : Stmt := inClass (top 15) 1
def d_h_is_there : He.DefD := ⟨("House", some "is_there"), "is_there", "House.is_there", defArgs s_h_is_there, defBody s_h_is_there, defScope s_h_is_there, [], []⟩
abbrev s_h_must : Stmt := inClass (top 15) 2
def d_h_must : He.DefD := ⟨("House", some "must"), "must", "House.must", defArgs s_h_must, defBody s_h_must, defScope s_h_must, [], []⟩
abbrev s_h_must_box : Stmt := inClass (top 15) 3
def d_h_must_box : He.DefD := ⟨("House", some "must_box"), "must_box", "House.must_box", defArgs s_h_must_box, defBody s_h_must_box, defScope s_h_must_box, [], []⟩
abbrev s_h_names_in : Stmt := inClass (top 15) 4
def d_h_names_in : He.DefD := ⟨("House", some "names_in"), "names_in", "House.names_in", defArgs s_h_names_in, defBody s_h_names_in, defScope s_h_names_in, [], []⟩
abbrev s_h_must_be_free : Stmt := inClass (top 15) 5
def d_h_must_be_free : He.DefD := ⟨("House", some "must_be_free"), "must_be_free", "House.must_be_free", defArgs s_h_must_be_free, defBody s_h_must_be_free, defScope s_h_must_be_free, [], []⟩
abbrev s_h_new : Stmt := inClass (top 15) 6
def d_h_new : He.DefD := ⟨("House", some "new"), "new", "House.new", defArgs s_h_new, defBody s_h_new, defScope s_h_new, [], []⟩
abbrev s_h_make : Stmt := inClass (top 15) 7
def d_h_make : He.DefD := ⟨("House", some "make"), "make", "House.make", defArgs s_h_make, defBody s_h_make, defScope s_h_make, [], []⟩
abbrev s_h_rename : Stmt := inClass (top 15) 8
def d_h_rename : He.DefD := ⟨("House", some "rename"), "rename", "House.rename", defArgs s_h_rename, defBody s_h_rename, defScope s_h_rename, [], []⟩
abbrev s_h_whole : Stmt := inClass (top 15) 9
def d_h_whole : He.DefD := ⟨("House", some "whole"), "whole", "House.whole", defArgs s_h_whole, defBody s_h_whole, defScope s_h_whole, [], []⟩
abbrev s_h_move : Stmt := inClass (top 15) 10
def d_h_move : He.DefD := ⟨("House", some "move"), "move", "House.move", defArgs s_h_move, defBody s_h_move, defScope s_h_move, [], []⟩
abbrev s_h_row : Stmt := inClass (top 15) 11
def d_h_row : He.DefD := ⟨("House", some "row"), "row", "House.row", defArgs s_h_row, defBody s_h_row, defScope s_h_row, [], []⟩
abbrev s_h_things : Stmt := inClass (top 15) 12
def d_h_things : He.DefD := ⟨("House", some "things"), "things", "House.things", defArgs s_h_things, defBody s_h_things, defScope s_h_things, [], []⟩
abbrev s_h_path : Stmt := inClass (top 15) 13
def d_h_path : He.DefD := ⟨("House", some "path"), "path", "House.path", defArgs s_h_path, defBody s_h_path, defScope s_h_path, [], []⟩
abbrev s_h_at : Stmt := inClass (top 15) 14
def d_h_at : He.DefD := ⟨("House", some "at"), "at", "House.at", defArgs s_h_at, defBody s_h_at, defScope s_h_at, [], []⟩
abbrev s_h_must_sheet : Stmt := inClass (top 15) 15
def d_h_must_sheet : He.DefD := ⟨("House", some "must_sheet"), "must_sheet", "House.must_sheet", defArgs s_h_must_sheet, defBody s_h_must_sheet, defScope s_h_must_sheet, [], []⟩
abbrev s_h_signs_of : Stmt := inClass (top 15) 16
def d_h_signs_of : He.DefD := ⟨("House", some "signs_of"), "signs_of", "House.signs_of", defArgs s_h_signs_of, defBody s_h_signs_of, defScope s_h_signs_of, [], []⟩
abbrev s_h_used : Stmt := inClass (top 15) 17
def d_h_used : He.DefD := ⟨("House", some "used"), "used", "House.used", defArgs s_h_used, defBody s_h_used, defScope s_h_used, [], []⟩
abbrev s_h_make_room : Stmt := inClass (top 15) 18
def d_h_make_room : He.DefD := ⟨("House", some "make_room"), "make_room", "House.make_room", defArgs s_h_make_room, defBody s_h_make_room, defScope s_h_make_room, [], []⟩
abbrev s_h_write : Stmt := inClass (top 15) 19
def d_h_write : He.DefD := ⟨("House", some "write"), "write", "House.write", defArgs s_h_write, defBody s_h_write, defScope s_h_write, [], []⟩
abbrev s_h_text : Stmt := inClass (top 15) 20
def d_h_text : He.DefD := ⟨("House", some "text"), "text", "House.text", defArgs s_h_text, defBody s_h_text, defScope s_h_text, [], []⟩
abbrev s_h_used_pairs : Stmt := inClass (top 15) 21
def d_h_used_pairs : He.DefD := ⟨("House", some "used_pairs"), "used_pairs", "House.used_pairs", defArgs s_h_used_pairs, defBody s_h_used_pairs, defScope s_h_used_pairs, [], []⟩
abbrev s_h_tie : Stmt := inClass (top 15) 22
def d_h_tie : He.DefD := ⟨("House", some "tie"), "tie", "House.tie", defArgs s_h_tie, defBody s_h_tie, defScope s_h_tie, [], []⟩
abbrev s_h_untie : Stmt := inClass (top 15) 23
def d_h_untie : He.DefD := ⟨("House", some "untie"), "untie", "House.untie", defArgs s_h_untie, defBody s_h_untie, defScope s_h_untie, [], []⟩
abbrev s_h_ties : Stmt := inClass (top 15) 24
def d_h_ties : He.DefD := ⟨("House", some "ties"), "ties", "House.ties", defArgs s_h_ties, defBody s_h_ties, defScope s_h_ties, [], []⟩
abbrev s_h_cast : Stmt := inClass (top 15) 26
def d_h_cast : He.DefD := ⟨("House", some "cast"), "cast", "House.cast", defArgs s_h_cast, defBody s_h_cast, defScope s_h_cast, [], []⟩
abbrev s_h_bundle : Stmt := inClass (top 15) 27
def d_h_bundle : He.DefD := ⟨("House", some "bundle"), "bundle", "House.bundle", defArgs s_h_bundle, defBody s_h_bundle, defScope s_h_bundle, [], []⟩
abbrev s_h_shelf : Stmt := inClass (top 15) 28
def d_h_shelf : He.DefD := ⟨("House", some "shelf"), "shelf", "House.shelf", defArgs s_h_shelf, defBody s_h_shelf, defScope s_h_shelf, [], []⟩
abbrev s_h_inner : Stmt := inClass (top 15) 29
def d_h_inner : He.DefD := ⟨("House", some "inner"), "inner", "House.inner", defArgs s_h_inner, defBody s_h_inner, defScope s_h_inner, [], []⟩
abbrev s_h_take_down : Stmt := inClass (top 15) 30
def d_h_take_down : He.DefD := ⟨("House", some "take_down"), "take_down", "House.take_down", defArgs s_h_take_down, defBody s_h_take_down, defScope s_h_take_down, [], []⟩
abbrev s_h_back : Stmt := inClass (top 15) 31
def d_h_back : He.DefD := ⟨("House", some "back"), "back", "House.back", defArgs s_h_back, defBody s_h_back, defScope s_h_back, [], []⟩
abbrev s_h_lose : Stmt := inClass (top 15) 32
def d_h_lose : He.DefD := ⟨("House", some "lose"), "lose", "House.lose", defArgs s_h_lose, defBody s_h_lose, defScope s_h_lose, [], []⟩
abbrev s_h_gone : Stmt := inClass (top 15) 33
def d_h_gone : He.DefD := ⟨("House", some "gone"), "gone", "House.gone", defArgs s_h_gone, defBody s_h_gone, defScope s_h_gone, [], []⟩
abbrev s_h_empty : Stmt := inClass (top 15) 34
def d_h_empty : He.DefD := ⟨("House", some "empty"), "empty", "House.empty", defArgs s_h_empty, defBody s_h_empty, defScope s_h_empty, [], []⟩
abbrev s_h_day : Stmt := inClass (top 15) 35
def d_h_day : He.DefD := ⟨("House", some "day"), "day", "House.day", defArgs s_h_day, defBody s_h_day, defScope s_h_day, [], []⟩
abbrev s_h_next_day : Stmt := inClass (top 15) 36
def d_h_next_day : He.DefD := ⟨("House", some "next_day"), "next_day", "House.next_day", defArgs s_h_next_day, defBody s_h_next_day, defScope s_h_next_day, [], []⟩
abbrev s_h_copy : Stmt := inClass (top 15) 37
def d_h_copy : He.DefD := ⟨("House", some "copy"), "copy", "House.copy", defArgs s_h_copy, defBody s_h_copy, defScope s_h_copy, [], []⟩
abbrev s_law_cell : Stmt := top 17
def d_law_cell : He.DefD := ⟨("_law_cell", none), "_law_cell", "_law_cell", defArgs s_law_cell, defBody s_law_cell, defScope s_law_cell, [], []⟩
abbrev s_law_mix : Stmt := top 18
def d_law_mix : He.DefD := ⟨("_law_mix", none), "_law_mix", "_law_mix", defArgs s_law_mix, defBody s_law_mix, defScope s_law_mix, [], []⟩
abbrev s_law_word : Stmt := top 19
def d_law_word : He.DefD := ⟨("_law_word", none), "_law_word", "_law_word", defArgs s_law_word, defBody s_law_word, defScope s_law_word, [], []⟩
abbrev s_law_call : Stmt := top 20
def d_law_call : He.DefD := ⟨("_law_call", none), "_law_call", "_law_call", defArgs s_law_call, defBody s_law_call, defScope s_law_call, [], []⟩
abbrev s_law_told : Stmt := top 21
def d_law_told : He.DefD := ⟨("_law_told", none), "_law_told", "_law_told", defArgs s_law_told, defBody s_law_told, defScope s_law_told, [], []⟩
abbrev s_law_begin : Stmt := top 22
def d_law_begin : He.DefD := ⟨("_law_begin", none), "_law_begin", "_law_begin", defArgs s_law_begin, defBody s_law_begin, defScope s_law_begin, [], []⟩
abbrev s_law_there : Stmt := top 23
def d_law_there : He.DefD := ⟨("_law_there", none), "_law_there", "_law_there", defArgs s_law_there, defBody s_law_there, defScope s_law_there, [], []⟩
abbrev s_law_no_box : Stmt := top 24
def d_law_no_box : He.DefD := ⟨("_law_no_box", none), "_law_no_box", "_law_no_box", defArgs s_law_no_box, defBody s_law_no_box, defScope s_law_no_box, [], []⟩
abbrev s_law_names : Stmt := top 25
def d_law_names : He.DefD := ⟨("_law_names", none), "_law_names", "_law_names", defArgs s_law_names, defBody s_law_names, defScope s_law_names, [], []⟩
abbrev s_law_free : Stmt := top 26
def d_law_free : He.DefD := ⟨("_law_free", none), "_law_free", "_law_free", defArgs s_law_free, defBody s_law_free, defScope s_law_free, [], []⟩
abbrev s_law_within : Stmt := top 27
def d_law_within : He.DefD := ⟨("_law_within", none), "_law_within", "_law_within", defArgs s_law_within, defBody s_law_within, defScope s_law_within, [], []⟩
abbrev s_law_used : Stmt := top 28
def d_law_used : He.DefD := ⟨("_law_used", none), "_law_used", "_law_used", defArgs s_law_used, defBody s_law_used, defScope s_law_used, [], []⟩
abbrev s_law_lose : Stmt := top 29
def d_law_lose : He.DefD := ⟨("_law_lose", none), "_law_lose", "_law_lose", defArgs s_law_lose, defBody s_law_lose, defScope s_law_lose, [], []⟩
abbrev s_law_no_room : Stmt := top 30
def d_law_no_room : He.DefD := ⟨("_law_no_room", none), "_law_no_room", "_law_no_room", defArgs s_law_no_room, defBody s_law_no_room, defScope s_law_no_room, [], []⟩
abbrev s_law_do : Stmt := top 31
def d_law_do : He.DefD := ⟨("_law_do", none), "_law_do", "_law_do", defArgs s_law_do, defBody s_law_do, defScope s_law_do, [], []⟩
abbrev s_law_make : Stmt := top 32
def d_law_make : He.DefD := ⟨("_law_make", none), "_law_make", "_law_make", defArgs s_law_make, defBody s_law_make, defScope s_law_make, [], []⟩
abbrev s_law_place : Stmt := top 33
def d_law_place : He.DefD := ⟨("_law_place", none), "_law_place", "_law_place", defArgs s_law_place, defBody s_law_place, defScope s_law_place, [], []⟩
abbrev s_law_write : Stmt := top 34
def d_law_write : He.DefD := ⟨("_law_write", none), "_law_write", "_law_write", defArgs s_law_write, defBody s_law_write, defScope s_law_write, [], []⟩
abbrev s_law_copy : Stmt := top 35
def d_law_copy : He.DefD := ⟨("_law_copy", none), "_law_copy", "_law_copy", defArgs s_law_copy, defBody s_law_copy, defScope s_law_copy, [], []⟩
abbrev s_law_tie : Stmt := top 36
def d_law_tie : He.DefD := ⟨("_law_tie", none), "_law_tie", "_law_tie", defArgs s_law_tie, defBody s_law_tie, defScope s_law_tie, [], []⟩
abbrev s_law_shelve : Stmt := top 37
def d_law_shelve : He.DefD := ⟨("_law_shelve", none), "_law_shelve", "_law_shelve", defArgs s_law_shelve, defBody s_law_shelve, defScope s_law_shelve, [], []⟩
abbrev s_law_number : Stmt := top 38
def d_law_number : He.DefD := ⟨("_law_number", none), "_law_number", "_law_number", defArgs s_law_number, defBody s_law_number, defScope s_law_number, [], []⟩
abbrev s_law_parent : Stmt := top 39
def d_law_parent : He.DefD := ⟨("_law_parent", none), "_law_parent", "_law_parent", defArgs s_law_parent, defBody s_law_parent, defScope s_law_parent, [], []⟩
abbrev s_law_letters : Stmt := top 40
def d_law_letters : He.DefD := ⟨("_law_letters", none), "_law_letters", "_law_letters", defArgs s_law_letters, defBody s_law_letters, defScope s_law_letters, [], []⟩
abbrev s_law_deed : Stmt := top 41
def d_law_deed : He.DefD := ⟨("_law_deed", none), "_law_deed", "_law_deed", defArgs s_law_deed, defBody s_law_deed, defScope s_law_deed, [], []⟩
abbrev s_law_bounds : Stmt := top 42
def d_law_bounds : He.DefD := ⟨("_law_bounds", none), "_law_bounds", "_law_bounds", defArgs s_law_bounds, defBody s_law_bounds, defScope s_law_bounds, [], []⟩
abbrev s_law_cells : Stmt := top 43
def d_law_cells : He.DefD := ⟨("_law_cells", none), "_law_cells", "_law_cells", defArgs s_law_cells, defBody s_law_cells, defScope s_law_cells, [], []⟩
abbrev s_law_is_right : Stmt := top 44
def d_law_is_right : He.DefD := ⟨("_law_is_right", none), "_law_is_right", "_law_is_right", defArgs s_law_is_right, defBody s_law_is_right, defScope s_law_is_right, [], []⟩
abbrev s_law : Stmt := top 45
def d_law : He.DefD := ⟨("law", none), "law", "law", defArgs s_law, defBody s_law, defScope s_law, [], []⟩
def fn_0 : List He.DefD := [d_g_free_name, d_h_init__, d_h_is_there, d_h_must, d_h_must_box, d_h_names_in, d_h_must_be_free, d_h_new, d_h_make, d_h_rename, d_h_whole, d_h_move, d_h_row, d_h_things, d_h_path, d_h_at, d_h_must_sheet, d_h_signs_of, d_h_used, d_h_make_room, d_h_write, d_h_text, d_h_used_pairs, d_h_tie, d_h_untie, d_h_ties, d_h_cast, d_h_bundle, d_h_shelf, d_h_inner]
def fn_1 : List He.DefD := [d_h_take_down, d_h_back, d_h_lose, d_h_gone, d_h_empty, d_h_day, d_h_next_day, d_h_copy, d_law_cell, d_law_mix, d_law_word, d_law_call, d_law_told, d_law_begin, d_law_there, d_law_no_box, d_law_names, d_law_free, d_law_within, d_law_used, d_law_lose, d_law_no_room, d_law_do, d_law_make, d_law_place, d_law_write, d_law_copy, d_law_tie, d_law_shelve, d_law_number]
def fn_2 : List He.DefD := [d_law_parent, d_law_letters, d_law_deed, d_law_bounds, d_law_cells, d_law_is_right, d_law]
def fn : List He.DefD := fn_0 ++ (fn_1 ++ (fn_2))
def fa_0 : List He.Fa := [.glo "free_name", .glo "_law_cell", .glo "_law_mix", .glo "_law_word", .glo "_law_call", .glo "_law_told", .glo "_law_begin", .glo "_law_there", .glo "_law_no_box", .glo "_law_names", .glo "_law_free", .glo "_law_within", .glo "_law_used", .glo "_law_lose", .glo "_law_no_room", .glo "_law_do", .glo "_law_make", .glo "_law_place", .glo "_law_write", .glo "_law_copy", .glo "_law_tie", .glo "_law_shelve", .glo "_law_number", .glo "_law_parent", .glo "_law_letters", .glo "_law_deed", .glo "_law_bounds", .glo "_law_cells", .glo "_law_is_right", .glo "law"]
def fa_1 : List He.Fa := [.glo "NoThing", .glo "NoBox", .glo "NoSheet", .glo "Taken", .glo "Inside", .glo "NoRoom", .glo "Same", .glo "NoTie", .glo "NoCast", .glo "HouseError", .glo "House", .free "len", .free "sorted", .free "list", .free "tuple", .free "sum", .free "str", .free "dict", .free "enumerate", .free "range", .free "zip", .free "all", .free "isinstance", .free "int", .free "bool", .free "ValueError", .free "set", .cls "House", .mkr "House", .noat "House" "keep"]
def fa_2 : List He.Fa := [.noat "House" "room", .noat "House" "rows", .noat "House" "shelved", .noat "House" "casts", .noat "House" "pairs", .noat "House" "today", .noat "House" "count", .meth "House" "__init__", .meth "House" "is_there", .meth "House" "must", .meth "House" "must_box", .meth "House" "names_in", .meth "House" "must_be_free", .meth "House" "new", .meth "House" "make", .meth "House" "rename", .meth "House" "whole", .meth "House" "move", .meth "House" "row", .meth "House" "things", .meth "House" "path", .meth "House" "at", .meth "House" "must_sheet", .meth "House" "signs_of", .meth "House" "used", .meth "House" "make_room", .meth "House" "write", .meth "House" "text", .meth "House" "used_pairs", .meth "House" "tie"]
def fa_3 : List He.Fa := [.meth "House" "untie", .meth "House" "ties", .meth "House" "cast", .meth "House" "bundle", .meth "House" "shelf", .meth "House" "inner", .meth "House" "take_down", .meth "House" "back", .meth "House" "lose", .meth "House" "gone", .meth "House" "empty", .meth "House" "day", .meth "House" "next_day", .meth "House" "copy", .exc "NoThing", .exm "NoThing" "HouseError" true, .exc "NoBox", .exm "NoBox" "HouseError" true, .exc "NoSheet", .exm "NoSheet" "HouseError" true, .exc "Taken", .exm "Taken" "HouseError" true, .exc "Inside", .exm "Inside" "HouseError" true, .exc "NoRoom", .exm "NoRoom" "HouseError" true, .exc "Same", .exm "Same" "HouseError" true, .exc "NoTie", .exm "NoTie" "HouseError" true]
def fa_4 : List He.Fa := [.exc "NoCast", .exm "NoCast" "HouseError" true]
def fa : List He.Fa := fa_0 ++ (fa_1 ++ (fa_2 ++ (fa_3 ++ (fa_4))))
def loose_0 : List Str := ["_wall", "HouseError", "NoThing", "NoBox", "NoSheet", "Taken", "Inside", "NoRoom", "Same", "NoTie", "NoCast", "free_name", "House", "_law_cell", "_law_mix", "_law_word", "_law_call", "_law_told", "_law_begin", "_law_there", "_law_no_box", "_law_names", "_law_free", "_law_within", "_law_used", "_law_lose", "_law_no_room", "_law_do", "_law_make", "_law_place"]
def loose_1 : List Str := ["_law_write", "_law_copy", "_law_tie", "_law_shelve", "_law_number", "_law_parent", "_law_letters", "_law_deed", "_law_bounds", "_law_cells", "_law_is_right"]
def loose : List Str := loose_0 ++ (loose_1)
def Kd.nm : Kd → Str
  | .noThing => "NoThing"
  | .noBox => "NoBox"
  | .noSheet => "NoSheet"
  | .taken => "Taken"
  | .inside => "Inside"
  | .noRoom => "NoRoom"
  | .same => "Same"
  | .noTie => "NoTie"
  | .noCast => "NoCast"
def Kd.word : Kd → Str
  | .noThing => "no thing"
  | .noBox => "no box"
  | .noSheet => "no sheet"
  | .taken => "taken"
  | .inside => "inside"
  | .noRoom => "no room"
  | .same => "same"
  | .noTie => "no tie"
  | .noCast => "no cast"
def Kd.all : List Kd := [.noThing, .noBox, .noSheet, .taken, .inside, .noRoom, .same, .noTie, .noCast]
theorem Kd.mem (k : Kd) : k ∈ Kd.all := by cases k <;> decide
/-- what isinstance asks of such a class -/
def excB (K : PySem.W.Frag) (k : Kd) : Bool := He.eqO (PySem.W.findIn K (.ref (cE K k.nm)) "__getattribute__") (some (some (.builtin "BaseException.__getattribute__"))) && (He.eqO (PySem.W.findIn K (.ref (cE K k.nm)) "__getattr__") (some none) &&
  (decide (PySem.W.subIn K (.ref (cE K k.nm)) (.type "BaseException") = some true) && (PySem.W.hasDictIn K (cE K k.nm) && (He.eqO (PySem.W.findIn K (.ref (cE K k.nm)) "__class__") (some (some (.builtin "object.__class__"))) &&
  (He.eqO (PySem.W.specialIn K (.builtin "object.__class__") "__get__") (some (some (.builtin "getset_descriptor.__get__"))) && (decide (PySem.W.takesIn K (.builtin "object.__class__") = some true) && decide (PySem.W.mroIn K (cE K k.nm) (.type "object") = some true)))))))
def exB (K : PySem.W.Frag) : Bool := Kd.all.all fun k => excB K k && (decide (PySem.W.kitOne K (.ref (cE K k.nm)) (.type "ValueError") = some true) && Kd.all.all fun j => decide (PySem.W.kitOne K (.ref (cE K k.nm)) (.ref (cE K j.nm)) = some (decide (k = j))))
def obsH (g : Addr → Option Obj) : He.AlD × Bool := (He.obsDG 5 fa fn g, exB (He.frG g (He.asD g 5)))
def hk : PySem.W.Hook where
  α := He.AlD × Bool
  obs := fun s => obsH s.heap.get?
  val := fun _ => (He.valD fn, true)
  says := fun _ h => ∃ K : PySem.W.Frag, K.In h ∧ He.SaysD fa fn K ∧ exB K = true
  of := fun _ _ e => ⟨_, He.frG_in, congrArg (fun z : He.AlD × Bool => z.1) e, congrArg (fun z : He.AlD × Bool => z.2) e⟩
  keeps := fun _ _ _ ⟨K, hK, c⟩ k => ⟨K, PySem.W.Frag.In.keeps hK k, c⟩
/-- what the head tells -/
structure Tx (K : PySem.W.Frag) (mg : Str → Option Value) : Prop where
  says : He.SaysD fa fn K
  ex : exB K = true
  inn : ∃ h : Heap, K.In h ∧ h.Ns mainGlobals mg
structure TExc (K : PySem.W.Frag) (mg : Str → Option Value) (c : Str) : Prop where
  x : PySem.W.excIn K (cE K c) He.veBase "ValueError.__new__" = true
  g : mg c = some (.ref (cE K c))
  k : PySem.W.keepIn K (.ref (cE K c)) = true
  b : PySem.W.subIn K (.ref (cE K c)) (.type "BaseException") = some true
  t : PySem.W.typeIn K (.ref (cE K c)) = some (.type "type")
section
variable {P : Program} {w : World} {K : PySem.W.Frag} {mg : Str → Option Value} {base : Heap}
theorem Tx.glo (T : Tx K mg) {x : Str} (c : (He.Fa.glo x).ok K = true) : mg x = some (.ref (He.ga K x)) := let ⟨_, X, G⟩ := T.inn; He.glo_ok X G c
theorem Tx.free (T : Tx K mg) {x : Str} (c : (He.Fa.free x).ok K = true) : mg x = none := let ⟨_, X, G⟩ := T.inn; He.free_ok X G c
theorem Tx.exc (T : Tx K mg) {x : Str} (c1 : (He.Fa.glo x).ok K = true) (c2 : (He.Fa.exc x).ok K = true) : TExc K mg x := ⟨(He.exc_ok c2).1, T.glo c1, (He.exc_ok c2).2.1, (He.exc_ok c2).2.2.1, (He.exc_ok c2).2.2.2⟩
theorem Tx.k1 (T : Tx K mg) (k : Kd) : excB K k = true ∧ PySem.W.kitOne K (.ref (cE K k.nm)) (.type "ValueError") = some true ∧ ∀ j : Kd, PySem.W.kitOne K (.ref (cE K k.nm)) (.ref (cE K j.nm)) = some (decide (k = j)) := by
  have z := List.all_eq_true.mp T.ex k k.mem
  obtain ⟨z1, z2⟩ := He.ba z
  obtain ⟨z3, z4⟩ := He.ba z2
  exact ⟨z1, of_decide_eq_true z3, fun j => of_decide_eq_true (List.all_eq_true.mp z4 j j.mem)⟩
theorem Tx.excC (T : Tx K mg) (k : Kd) : ExcC K (cE K k.nm) := by
  obtain ⟨a1, z⟩ := He.ba (T.k1 k).1
  obtain ⟨a2, z⟩ := He.ba z
  obtain ⟨a3, z⟩ := He.ba z
  obtain ⟨a4, z⟩ := He.ba z
  obtain ⟨a5, z⟩ := He.ba z
  obtain ⟨a6, z⟩ := He.ba z
  obtain ⟨a7, a8⟩ := He.ba z
  exact ⟨He.eqO_ok a1, He.eqO_ok a2, of_decide_eq_true a3, a4, He.eqO_ok a5, He.eqO_ok a6, of_decide_eq_true a7, of_decide_eq_true a8⟩
theorem bt_len : bootBuiltins "len" = some (.builtin "len") := by decide +kernel
theorem T_len (T : Tx K mg) : mg "len" = none := T.free (T.says.fact 41 (f := .free "len") rfl)
theorem bt_sorted : bootBuiltins "sorted" = some (.builtin "sorted") := by decide +kernel
theorem T_sorted (T : Tx K mg) : mg "sorted" = none := T.free (T.says.fact 42 (f := .free "sorted") rfl)
theorem bt_list : bootBuiltins "list" = some (.type "list") := by decide +kernel
theorem T_list (T : Tx K mg) : mg "list" = none := T.free (T.says.fact 43 (f := .free "list") rfl)
theorem bt_tuple : bootBuiltins "tuple" = some (.type "tuple") := by decide +kernel
theorem T_tuple (T : Tx K mg) : mg "tuple" = none := T.free (T.says.fact 44 (f := .free "tuple") rfl)
theorem bt_sum : bootBuiltins "sum" = some (.builtin "sum") := by decide +kernel
theorem T_sum (T : Tx K mg) : mg "sum" = none := T.free (T.says.fact 45 (f := .free "sum") rfl)
theorem bt_str : bootBuiltins "str" = some (.type "str") := by decide +kernel
theorem T_str (T : Tx K mg) : mg "str" = none := T.free (T.says.fact 46 (f := .free "str") rfl)
theorem bt_dict : bootBuiltins "dict" = some (.type "dict") := by decide +kernel
theorem T_dict (T : Tx K mg) : mg "dict" = none := T.free (T.says.fact 47 (f := .free "dict") rfl)
theorem bt_enumerate : bootBuiltins "enumerate" = some (.type "enumerate") := by decide +kernel
theorem T_enumerate (T : Tx K mg) : mg "enumerate" = none := T.free (T.says.fact 48 (f := .free "enumerate") rfl)
theorem bt_range : bootBuiltins "range" = some (.type "range") := by decide +kernel
theorem T_range (T : Tx K mg) : mg "range" = none := T.free (T.says.fact 49 (f := .free "range") rfl)
theorem bt_zip : bootBuiltins "zip" = some (.type "zip") := by decide +kernel
theorem T_zip (T : Tx K mg) : mg "zip" = none := T.free (T.says.fact 50 (f := .free "zip") rfl)
theorem bt_all : bootBuiltins "all" = some (.builtin "all") := by decide +kernel
theorem T_all (T : Tx K mg) : mg "all" = none := T.free (T.says.fact 51 (f := .free "all") rfl)
theorem bt_isinstance : bootBuiltins "isinstance" = some (.builtin "isinstance") := by decide +kernel
theorem T_isinstance (T : Tx K mg) : mg "isinstance" = none := T.free (T.says.fact 52 (f := .free "isinstance") rfl)
theorem bt_int : bootBuiltins "int" = some (.type "int") := by decide +kernel
theorem T_int (T : Tx K mg) : mg "int" = none := T.free (T.says.fact 53 (f := .free "int") rfl)
theorem bt_bool : bootBuiltins "bool" = some (.type "bool") := by decide +kernel
theorem T_bool (T : Tx K mg) : mg "bool" = none := T.free (T.says.fact 54 (f := .free "bool") rfl)
theorem bt_ValueError : bootBuiltins "ValueError" = some (.type "ValueError") := by decide +kernel
theorem T_ValueError (T : Tx K mg) : mg "ValueError" = none := T.free (T.says.fact 55 (f := .free "ValueError") rfl)
theorem bt_set : bootBuiltins "set" = some (.type "set") := by decide +kernel
theorem T_set (T : Tx K mg) : mg "set" = none := T.free (T.says.fact 56 (f := .free "set") rfl)
theorem T_NoThing (T : Tx K mg) : TExc K mg "NoThing" := T.exc (T.says.fact 30 (f := .glo "NoThing") rfl) (T.says.fact 104 (f := .exc "NoThing") rfl)
theorem T_NoBox (T : Tx K mg) : TExc K mg "NoBox" := T.exc (T.says.fact 31 (f := .glo "NoBox") rfl) (T.says.fact 106 (f := .exc "NoBox") rfl)
theorem T_NoSheet (T : Tx K mg) : TExc K mg "NoSheet" := T.exc (T.says.fact 32 (f := .glo "NoSheet") rfl) (T.says.fact 108 (f := .exc "NoSheet") rfl)
theorem T_Taken (T : Tx K mg) : TExc K mg "Taken" := T.exc (T.says.fact 33 (f := .glo "Taken") rfl) (T.says.fact 110 (f := .exc "Taken") rfl)
theorem T_Inside (T : Tx K mg) : TExc K mg "Inside" := T.exc (T.says.fact 34 (f := .glo "Inside") rfl) (T.says.fact 112 (f := .exc "Inside") rfl)
theorem T_NoRoom (T : Tx K mg) : TExc K mg "NoRoom" := T.exc (T.says.fact 35 (f := .glo "NoRoom") rfl) (T.says.fact 114 (f := .exc "NoRoom") rfl)
theorem T_Same (T : Tx K mg) : TExc K mg "Same" := T.exc (T.says.fact 36 (f := .glo "Same") rfl) (T.says.fact 116 (f := .exc "Same") rfl)
theorem T_NoTie (T : Tx K mg) : TExc K mg "NoTie" := T.exc (T.says.fact 37 (f := .glo "NoTie") rfl) (T.says.fact 118 (f := .exc "NoTie") rfl)
theorem T_NoCast (T : Tx K mg) : TExc K mg "NoCast" := T.exc (T.says.fact 38 (f := .glo "NoCast") rfl) (T.says.fact 120 (f := .exc "NoCast") rfl)
theorem T_HouseError (T : Tx K mg) : mg "HouseError" = some (.ref (He.ga K "HouseError")) := T.glo (T.says.fact 39 (f := .glo "HouseError") rfl)
theorem T_House (T : Tx K mg) : mg "House" = some (.ref (He.ga K "House")) := T.glo (T.says.fact 40 (f := .glo "House") rfl)
theorem T_exm (T : Tx K mg) (k : Kd) : PySem.W.exmOne K (.ref (cE K k.nm)) (.ref (cE K "HouseError")) = some true := by
  cases k
  · exact He.exm_ok (T.says.fact 105 (f := .exm "NoThing" "HouseError" true) rfl)
  · exact He.exm_ok (T.says.fact 107 (f := .exm "NoBox" "HouseError" true) rfl)
  · exact He.exm_ok (T.says.fact 109 (f := .exm "NoSheet" "HouseError" true) rfl)
  · exact He.exm_ok (T.says.fact 111 (f := .exm "Taken" "HouseError" true) rfl)
  · exact He.exm_ok (T.says.fact 113 (f := .exm "Inside" "HouseError" true) rfl)
  · exact He.exm_ok (T.says.fact 115 (f := .exm "NoRoom" "HouseError" true) rfl)
  · exact He.exm_ok (T.says.fact 117 (f := .exm "Same" "HouseError" true) rfl)
  · exact He.exm_ok (T.says.fact 119 (f := .exm "NoTie" "HouseError" true) rfl)
  · exact He.exm_ok (T.says.fact 121 (f := .exm "NoCast" "HouseError" true) rfl)
theorem T_cls (T : Tx K mg) : Cls K (cH K) := He.cls_ok (T.says.fact 57 (f := .cls "House") rfl)
theorem T_mkr (T : Tx K mg) : Mk K (cH K) (He.ma K (cH K) "__init__") := He.mkr_ok (T.says.fact 58 (f := .mkr "House") rfl)
theorem T_f_keep (T : Tx K mg) : NoAttr K (cH K) "keep" := He.noat_ok (T.says.fact 59 (f := .noat "House" "keep") rfl)
theorem T_f_room (T : Tx K mg) : NoAttr K (cH K) "room" := He.noat_ok (T.says.fact 60 (f := .noat "House" "room") rfl)
theorem T_f_rows (T : Tx K mg) : NoAttr K (cH K) "rows" := He.noat_ok (T.says.fact 61 (f := .noat "House" "rows") rfl)
theorem T_f_shelved (T : Tx K mg) : NoAttr K (cH K) "shelved" := He.noat_ok (T.says.fact 62 (f := .noat "House" "shelved") rfl)
theorem T_f_casts (T : Tx K mg) : NoAttr K (cH K) "casts" := He.noat_ok (T.says.fact 63 (f := .noat "House" "casts") rfl)
theorem T_f_pairs (T : Tx K mg) : NoAttr K (cH K) "pairs" := He.noat_ok (T.says.fact 64 (f := .noat "House" "pairs") rfl)
theorem T_f_today (T : Tx K mg) : NoAttr K (cH K) "today" := He.noat_ok (T.says.fact 65 (f := .noat "House" "today") rfl)
theorem T_f_count (T : Tx K mg) : NoAttr K (cH K) "count" := He.noat_ok (T.says.fact 66 (f := .noat "House" "count") rfl)
theorem F_g_free_name (T : Tx K mg) : ∃ fd, FunD K "free_name" "free_name" (defArgs s_g_free_name) (defBody s_g_free_name) (defScope s_g_free_name) [] [] (He.ga K "free_name") fd := T.says.def_ 0 (d := d_g_free_name) rfl
theorem T_g_free_name (T : Tx K mg) : mg "free_name" = some (.ref (He.ga K "free_name")) ∧ PySem.W.keepIn K (.ref (He.ga K "free_name")) = true := ⟨T.glo (T.says.fact 0 (f := .glo "free_name") rfl), let ⟨_, z⟩ := F_g_free_name T; z.kp⟩
theorem F_h_init__ (T : Tx K mg) : ∃ fd, FunD K "__init__" "House.__init__" (defArgs s_h_init__) (defBody s_h_init__) (defScope s_h_init__) [] [] (He.ma K (cH K) "__init__") fd := T.says.def_ 1 (d := d_h_init__) rfl
theorem T_h_init__ (T : Tx K mg) : Meth K (cH K) "__init__" (He.ma K (cH K) "__init__") := He.meth_ok (T.says.fact 67 (f := .meth "House" "__init__") rfl)
theorem F_h_is_there (T : Tx K mg) : ∃ fd, FunD K "is_there" "House.is_there" (defArgs s_h_is_there) (defBody s_h_is_there) (defScope s_h_is_there) [] [] (He.ma K (cH K) "is_there") fd := T.says.def_ 2 (d := d_h_is_there) rfl
theorem T_h_is_there (T : Tx K mg) : Meth K (cH K) "is_there" (He.ma K (cH K) "is_there") := He.meth_ok (T.says.fact 68 (f := .meth "House" "is_there") rfl)
theorem F_h_must (T : Tx K mg) : ∃ fd, FunD K "must" "House.must" (defArgs s_h_must) (defBody s_h_must) (defScope s_h_must) [] [] (He.ma K (cH K) "must") fd := T.says.def_ 3 (d := d_h_must) rfl
theorem T_h_must (T : Tx K mg) : Meth K (cH K) "must" (He.ma K (cH K) "must") := He.meth_ok (T.says.fact 69 (f := .meth "House" "must") rfl)
theorem F_h_must_box (T : Tx K mg) : ∃ fd, FunD K "must_box" "House.must_box" (defArgs s_h_must_box) (defBody s_h_must_box) (defScope s_h_must_box) [] [] (He.ma K (cH K) "must_box") fd := T.says.def_ 4 (d := d_h_must_box) rfl
theorem T_h_must_box (T : Tx K mg) : Meth K (cH K) "must_box" (He.ma K (cH K) "must_box") := He.meth_ok (T.says.fact 70 (f := .meth "House" "must_box") rfl)
theorem F_h_names_in (T : Tx K mg) : ∃ fd, FunD K "names_in" "House.names_in" (defArgs s_h_names_in) (defBody s_h_names_in) (defScope s_h_names_in) [] [] (He.ma K (cH K) "names_in") fd := T.says.def_ 5 (d := d_h_names_in) rfl
theorem T_h_names_in (T : Tx K mg) : Meth K (cH K) "names_in" (He.ma K (cH K) "names_in") := He.meth_ok (T.says.fact 71 (f := .meth "House" "names_in") rfl)
theorem F_h_must_be_free (T : Tx K mg) : ∃ fd, FunD K "must_be_free" "House.must_be_free" (defArgs s_h_must_be_free) (defBody s_h_must_be_free) (defScope s_h_must_be_free) [] [] (He.ma K (cH K) "must_be_free") fd := T.says.def_ 6 (d := d_h_must_be_free) rfl
theorem T_h_must_be_free (T : Tx K mg) : Meth K (cH K) "must_be_free" (He.ma K (cH K) "must_be_free") := He.meth_ok (T.says.fact 72 (f := .meth "House" "must_be_free") rfl)
theorem F_h_new (T : Tx K mg) : ∃ fd, FunD K "new" "House.new" (defArgs s_h_new) (defBody s_h_new) (defScope s_h_new) [] [] (He.ma K (cH K) "new") fd := T.says.def_ 7 (d := d_h_new) rfl
theorem T_h_new (T : Tx K mg) : Meth K (cH K) "new" (He.ma K (cH K) "new") := He.meth_ok (T.says.fact 73 (f := .meth "House" "new") rfl)
theorem F_h_make (T : Tx K mg) : ∃ fd, FunD K "make" "House.make" (defArgs s_h_make) (defBody s_h_make) (defScope s_h_make) [] [] (He.ma K (cH K) "make") fd := T.says.def_ 8 (d := d_h_make) rfl
theorem T_h_make (T : Tx K mg) : Meth K (cH K) "make" (He.ma K (cH K) "make") := He.meth_ok (T.says.fact 74 (f := .meth "House" "make") rfl)
theorem F_h_rename (T : Tx K mg) : ∃ fd, FunD K "rename" "House.rename" (defArgs s_h_rename) (defBody s_h_rename) (defScope s_h_rename) [] [] (He.ma K (cH K) "rename") fd := T.says.def_ 9 (d := d_h_rename) rfl
theorem T_h_rename (T : Tx K mg) : Meth K (cH K) "rename" (He.ma K (cH K) "rename") := He.meth_ok (T.says.fact 75 (f := .meth "House" "rename") rfl)
theorem F_h_whole (T : Tx K mg) : ∃ fd, FunD K "whole" "House.whole" (defArgs s_h_whole) (defBody s_h_whole) (defScope s_h_whole) [] [] (He.ma K (cH K) "whole") fd := T.says.def_ 10 (d := d_h_whole) rfl
theorem T_h_whole (T : Tx K mg) : Meth K (cH K) "whole" (He.ma K (cH K) "whole") := He.meth_ok (T.says.fact 76 (f := .meth "House" "whole") rfl)
theorem F_h_move (T : Tx K mg) : ∃ fd, FunD K "move" "House.move" (defArgs s_h_move) (defBody s_h_move) (defScope s_h_move) [] [] (He.ma K (cH K) "move") fd := T.says.def_ 11 (d := d_h_move) rfl
theorem T_h_move (T : Tx K mg) : Meth K (cH K) "move" (He.ma K (cH K) "move") := He.meth_ok (T.says.fact 77 (f := .meth "House" "move") rfl)
theorem F_h_row (T : Tx K mg) : ∃ fd, FunD K "row" "House.row" (defArgs s_h_row) (defBody s_h_row) (defScope s_h_row) [] [] (He.ma K (cH K) "row") fd := T.says.def_ 12 (d := d_h_row) rfl
theorem T_h_row (T : Tx K mg) : Meth K (cH K) "row" (He.ma K (cH K) "row") := He.meth_ok (T.says.fact 78 (f := .meth "House" "row") rfl)
theorem F_h_things (T : Tx K mg) : ∃ fd, FunD K "things" "House.things" (defArgs s_h_things) (defBody s_h_things) (defScope s_h_things) [] [] (He.ma K (cH K) "things") fd := T.says.def_ 13 (d := d_h_things) rfl
theorem T_h_things (T : Tx K mg) : Meth K (cH K) "things" (He.ma K (cH K) "things") := He.meth_ok (T.says.fact 79 (f := .meth "House" "things") rfl)
theorem F_h_path (T : Tx K mg) : ∃ fd, FunD K "path" "House.path" (defArgs s_h_path) (defBody s_h_path) (defScope s_h_path) [] [] (He.ma K (cH K) "path") fd := T.says.def_ 14 (d := d_h_path) rfl
theorem T_h_path (T : Tx K mg) : Meth K (cH K) "path" (He.ma K (cH K) "path") := He.meth_ok (T.says.fact 80 (f := .meth "House" "path") rfl)
theorem F_h_at (T : Tx K mg) : ∃ fd, FunD K "at" "House.at" (defArgs s_h_at) (defBody s_h_at) (defScope s_h_at) [] [] (He.ma K (cH K) "at") fd := T.says.def_ 15 (d := d_h_at) rfl
theorem T_h_at (T : Tx K mg) : Meth K (cH K) "at" (He.ma K (cH K) "at") := He.meth_ok (T.says.fact 81 (f := .meth "House" "at") rfl)
theorem F_h_must_sheet (T : Tx K mg) : ∃ fd, FunD K "must_sheet" "House.must_sheet" (defArgs s_h_must_sheet) (defBody s_h_must_sheet) (defScope s_h_must_sheet) [] [] (He.ma K (cH K) "must_sheet") fd := T.says.def_ 16 (d := d_h_must_sheet) rfl
theorem T_h_must_sheet (T : Tx K mg) : Meth K (cH K) "must_sheet" (He.ma K (cH K) "must_sheet") := He.meth_ok (T.says.fact 82 (f := .meth "House" "must_sheet") rfl)
theorem F_h_signs_of (T : Tx K mg) : ∃ fd, FunD K "signs_of" "House.signs_of" (defArgs s_h_signs_of) (defBody s_h_signs_of) (defScope s_h_signs_of) [] [] (He.ma K (cH K) "signs_of") fd := T.says.def_ 17 (d := d_h_signs_of) rfl
theorem T_h_signs_of (T : Tx K mg) : Meth K (cH K) "signs_of" (He.ma K (cH K) "signs_of") := He.meth_ok (T.says.fact 83 (f := .meth "House" "signs_of") rfl)
theorem F_h_used (T : Tx K mg) : ∃ fd, FunD K "used" "House.used" (defArgs s_h_used) (defBody s_h_used) (defScope s_h_used) [] [] (He.ma K (cH K) "used") fd := T.says.def_ 18 (d := d_h_used) rfl
theorem T_h_used (T : Tx K mg) : Meth K (cH K) "used" (He.ma K (cH K) "used") := He.meth_ok (T.says.fact 84 (f := .meth "House" "used") rfl)
theorem F_h_make_room (T : Tx K mg) : ∃ fd, FunD K "make_room" "House.make_room" (defArgs s_h_make_room) (defBody s_h_make_room) (defScope s_h_make_room) [] [] (He.ma K (cH K) "make_room") fd := T.says.def_ 19 (d := d_h_make_room) rfl
theorem T_h_make_room (T : Tx K mg) : Meth K (cH K) "make_room" (He.ma K (cH K) "make_room") := He.meth_ok (T.says.fact 85 (f := .meth "House" "make_room") rfl)
theorem F_h_write (T : Tx K mg) : ∃ fd, FunD K "write" "House.write" (defArgs s_h_write) (defBody s_h_write) (defScope s_h_write) [] [] (He.ma K (cH K) "write") fd := T.says.def_ 20 (d := d_h_write) rfl
theorem T_h_write (T : Tx K mg) : Meth K (cH K) "write" (He.ma K (cH K) "write") := He.meth_ok (T.says.fact 86 (f := .meth "House" "write") rfl)
theorem F_h_text (T : Tx K mg) : ∃ fd, FunD K "text" "House.text" (defArgs s_h_text) (defBody s_h_text) (defScope s_h_text) [] [] (He.ma K (cH K) "text") fd := T.says.def_ 21 (d := d_h_text) rfl
theorem T_h_text (T : Tx K mg) : Meth K (cH K) "text" (He.ma K (cH K) "text") := He.meth_ok (T.says.fact 87 (f := .meth "House" "text") rfl)
theorem F_h_used_pairs (T : Tx K mg) : ∃ fd, FunD K "used_pairs" "House.used_pairs" (defArgs s_h_used_pairs) (defBody s_h_used_pairs) (defScope s_h_used_pairs) [] [] (He.ma K (cH K) "used_pairs") fd := T.says.def_ 22 (d := d_h_used_pairs) rfl
theorem T_h_used_pairs (T : Tx K mg) : Meth K (cH K) "used_pairs" (He.ma K (cH K) "used_pairs") := He.meth_ok (T.says.fact 88 (f := .meth "House" "used_pairs") rfl)
theorem F_h_tie (T : Tx K mg) : ∃ fd, FunD K "tie" "House.tie" (defArgs s_h_tie) (defBody s_h_tie) (defScope s_h_tie) [] [] (He.ma K (cH K) "tie") fd := T.says.def_ 23 (d := d_h_tie) rfl
theorem T_h_tie (T : Tx K mg) : Meth K (cH K) "tie" (He.ma K (cH K) "tie") := He.meth_ok (T.says.fact 89 (f := .meth "House" "tie") rfl)
theorem F_h_untie (T : Tx K mg) : ∃ fd, FunD K "untie" "House.untie" (defArgs s_h_untie) (defBody s_h_untie) (defScope s_h_untie) [] [] (He.ma K (cH K) "untie") fd := T.says.def_ 24 (d := d_h_untie) rfl
theorem T_h_untie (T : Tx K mg) : Meth K (cH K) "untie" (He.ma K (cH K) "untie") := He.meth_ok (T.says.fact 90 (f := .meth "House" "untie") rfl)
theorem F_h_ties (T : Tx K mg) : ∃ fd, FunD K "ties" "House.ties" (defArgs s_h_ties) (defBody s_h_ties) (defScope s_h_ties) [] [] (He.ma K (cH K) "ties") fd := T.says.def_ 25 (d := d_h_ties) rfl
theorem T_h_ties (T : Tx K mg) : Meth K (cH K) "ties" (He.ma K (cH K) "ties") := He.meth_ok (T.says.fact 91 (f := .meth "House" "ties") rfl)
theorem F_h_cast (T : Tx K mg) : ∃ fd, FunD K "cast" "House.cast" (defArgs s_h_cast) (defBody s_h_cast) (defScope s_h_cast) [] [] (He.ma K (cH K) "cast") fd := T.says.def_ 26 (d := d_h_cast) rfl
theorem T_h_cast (T : Tx K mg) : Meth K (cH K) "cast" (He.ma K (cH K) "cast") := He.meth_ok (T.says.fact 92 (f := .meth "House" "cast") rfl)
theorem F_h_bundle (T : Tx K mg) : ∃ fd, FunD K "bundle" "House.bundle" (defArgs s_h_bundle) (defBody s_h_bundle) (defScope s_h_bundle) [] [] (He.ma K (cH K) "bundle") fd := T.says.def_ 27 (d := d_h_bundle) rfl
theorem T_h_bundle (T : Tx K mg) : Meth K (cH K) "bundle" (He.ma K (cH K) "bundle") := He.meth_ok (T.says.fact 93 (f := .meth "House" "bundle") rfl)
theorem F_h_shelf (T : Tx K mg) : ∃ fd, FunD K "shelf" "House.shelf" (defArgs s_h_shelf) (defBody s_h_shelf) (defScope s_h_shelf) [] [] (He.ma K (cH K) "shelf") fd := T.says.def_ 28 (d := d_h_shelf) rfl
theorem T_h_shelf (T : Tx K mg) : Meth K (cH K) "shelf" (He.ma K (cH K) "shelf") := He.meth_ok (T.says.fact 94 (f := .meth "House" "shelf") rfl)
theorem F_h_inner (T : Tx K mg) : ∃ fd, FunD K "inner" "House.inner" (defArgs s_h_inner) (defBody s_h_inner) (defScope s_h_inner) [] [] (He.ma K (cH K) "inner") fd := T.says.def_ 29 (d := d_h_inner) rfl
theorem T_h_inner (T : Tx K mg) : Meth K (cH K) "inner" (He.ma K (cH K) "inner") := He.meth_ok (T.says.fact 95 (f := .meth "House" "inner") rfl)
theorem F_h_take_down (T : Tx K mg) : ∃ fd, FunD K "take_down" "House.take_down" (defArgs s_h_take_down) (defBody s_h_take_down) (defScope s_h_take_down) [] [] (He.ma K (cH K) "take_down") fd := T.says.def_ 30 (d := d_h_take_down) rfl
theorem T_h_take_down (T : Tx K mg) : Meth K (cH K) "take_down" (He.ma K (cH K) "take_down") := He.meth_ok (T.says.fact 96 (f := .meth "House" "take_down") rfl)
theorem F_h_back (T : Tx K mg) : ∃ fd, FunD K "back" "House.back" (defArgs s_h_back) (defBody s_h_back) (defScope s_h_back) [] [] (He.ma K (cH K) "back") fd := T.says.def_ 31 (d := d_h_back) rfl
theorem T_h_back (T : Tx K mg) : Meth K (cH K) "back" (He.ma K (cH K) "back") := He.meth_ok (T.says.fact 97 (f := .meth "House" "back") rfl)
theorem F_h_lose (T : Tx K mg) : ∃ fd, FunD K "lose" "House.lose" (defArgs s_h_lose) (defBody s_h_lose) (defScope s_h_lose) [] [] (He.ma K (cH K) "lose") fd := T.says.def_ 32 (d := d_h_lose) rfl
theorem T_h_lose (T : Tx K mg) : Meth K (cH K) "lose" (He.ma K (cH K) "lose") := He.meth_ok (T.says.fact 98 (f := .meth "House" "lose") rfl)
theorem F_h_gone (T : Tx K mg) : ∃ fd, FunD K "gone" "House.gone" (defArgs s_h_gone) (defBody s_h_gone) (defScope s_h_gone) [] [] (He.ma K (cH K) "gone") fd := T.says.def_ 33 (d := d_h_gone) rfl
theorem T_h_gone (T : Tx K mg) : Meth K (cH K) "gone" (He.ma K (cH K) "gone") := He.meth_ok (T.says.fact 99 (f := .meth "House" "gone") rfl)
theorem F_h_empty (T : Tx K mg) : ∃ fd, FunD K "empty" "House.empty" (defArgs s_h_empty) (defBody s_h_empty) (defScope s_h_empty) [] [] (He.ma K (cH K) "empty") fd := T.says.def_ 34 (d := d_h_empty) rfl
theorem T_h_empty (T : Tx K mg) : Meth K (cH K) "empty" (He.ma K (cH K) "empty") := He.meth_ok (T.says.fact 100 (f := .meth "House" "empty") rfl)
theorem F_h_day (T : Tx K mg) : ∃ fd, FunD K "day" "House.day" (defArgs s_h_day) (defBody s_h_day) (defScope s_h_day) [] [] (He.ma K (cH K) "day") fd := T.says.def_ 35 (d := d_h_day) rfl
theorem T_h_day (T : Tx K mg) : Meth K (cH K) "day" (He.ma K (cH K) "day") := He.meth_ok (T.says.fact 101 (f := .meth "House" "day") rfl)
theorem F_h_next_day (T : Tx K mg) : ∃ fd, FunD K "next_day" "House.next_day" (defArgs s_h_next_day) (defBody s_h_next_day) (defScope s_h_next_day) [] [] (He.ma K (cH K) "next_day") fd := T.says.def_ 36 (d := d_h_next_day) rfl
theorem T_h_next_day (T : Tx K mg) : Meth K (cH K) "next_day" (He.ma K (cH K) "next_day") := He.meth_ok (T.says.fact 102 (f := .meth "House" "next_day") rfl)
theorem F_h_copy (T : Tx K mg) : ∃ fd, FunD K "copy" "House.copy" (defArgs s_h_copy) (defBody s_h_copy) (defScope s_h_copy) [] [] (He.ma K (cH K) "copy") fd := T.says.def_ 37 (d := d_h_copy) rfl
theorem T_h_copy (T : Tx K mg) : Meth K (cH K) "copy" (He.ma K (cH K) "copy") := He.meth_ok (T.says.fact 103 (f := .meth "House" "copy") rfl)
theorem F_law_cell (T : Tx K mg) : ∃ fd, FunD K "_law_cell" "_law_cell" (defArgs s_law_cell) (defBody s_law_cell) (defScope s_law_cell) [] [] (He.ga K "_law_cell") fd := T.says.def_ 38 (d := d_law_cell) rfl
theorem T_law_cell (T : Tx K mg) : mg "_law_cell" = some (.ref (He.ga K "_law_cell")) ∧ PySem.W.keepIn K (.ref (He.ga K "_law_cell")) = true := ⟨T.glo (T.says.fact 1 (f := .glo "_law_cell") rfl), let ⟨_, z⟩ := F_law_cell T; z.kp⟩
theorem F_law_mix (T : Tx K mg) : ∃ fd, FunD K "_law_mix" "_law_mix" (defArgs s_law_mix) (defBody s_law_mix) (defScope s_law_mix) [] [] (He.ga K "_law_mix") fd := T.says.def_ 39 (d := d_law_mix) rfl
theorem T_law_mix (T : Tx K mg) : mg "_law_mix" = some (.ref (He.ga K "_law_mix")) ∧ PySem.W.keepIn K (.ref (He.ga K "_law_mix")) = true := ⟨T.glo (T.says.fact 2 (f := .glo "_law_mix") rfl), let ⟨_, z⟩ := F_law_mix T; z.kp⟩
theorem F_law_word (T : Tx K mg) : ∃ fd, FunD K "_law_word" "_law_word" (defArgs s_law_word) (defBody s_law_word) (defScope s_law_word) [] [] (He.ga K "_law_word") fd := T.says.def_ 40 (d := d_law_word) rfl
theorem T_law_word (T : Tx K mg) : mg "_law_word" = some (.ref (He.ga K "_law_word")) ∧ PySem.W.keepIn K (.ref (He.ga K "_law_word")) = true := ⟨T.glo (T.says.fact 3 (f := .glo "_law_word") rfl), let ⟨_, z⟩ := F_law_word T; z.kp⟩
theorem F_law_call (T : Tx K mg) : ∃ fd, FunD K "_law_call" "_law_call" (defArgs s_law_call) (defBody s_law_call) (defScope s_law_call) [] [] (He.ga K "_law_call") fd := T.says.def_ 41 (d := d_law_call) rfl
theorem T_law_call (T : Tx K mg) : mg "_law_call" = some (.ref (He.ga K "_law_call")) ∧ PySem.W.keepIn K (.ref (He.ga K "_law_call")) = true := ⟨T.glo (T.says.fact 4 (f := .glo "_law_call") rfl), let ⟨_, z⟩ := F_law_call T; z.kp⟩
theorem F_law_told (T : Tx K mg) : ∃ fd, FunD K "_law_told" "_law_told" (defArgs s_law_told) (defBody s_law_told) (defScope s_law_told) [] [] (He.ga K "_law_told") fd := T.says.def_ 42 (d := d_law_told) rfl
theorem T_law_told (T : Tx K mg) : mg "_law_told" = some (.ref (He.ga K "_law_told")) ∧ PySem.W.keepIn K (.ref (He.ga K "_law_told")) = true := ⟨T.glo (T.says.fact 5 (f := .glo "_law_told") rfl), let ⟨_, z⟩ := F_law_told T; z.kp⟩
theorem F_law_begin (T : Tx K mg) : ∃ fd, FunD K "_law_begin" "_law_begin" (defArgs s_law_begin) (defBody s_law_begin) (defScope s_law_begin) [] [] (He.ga K "_law_begin") fd := T.says.def_ 43 (d := d_law_begin) rfl
theorem T_law_begin (T : Tx K mg) : mg "_law_begin" = some (.ref (He.ga K "_law_begin")) ∧ PySem.W.keepIn K (.ref (He.ga K "_law_begin")) = true := ⟨T.glo (T.says.fact 6 (f := .glo "_law_begin") rfl), let ⟨_, z⟩ := F_law_begin T; z.kp⟩
theorem F_law_there (T : Tx K mg) : ∃ fd, FunD K "_law_there" "_law_there" (defArgs s_law_there) (defBody s_law_there) (defScope s_law_there) [] [] (He.ga K "_law_there") fd := T.says.def_ 44 (d := d_law_there) rfl
theorem T_law_there (T : Tx K mg) : mg "_law_there" = some (.ref (He.ga K "_law_there")) ∧ PySem.W.keepIn K (.ref (He.ga K "_law_there")) = true := ⟨T.glo (T.says.fact 7 (f := .glo "_law_there") rfl), let ⟨_, z⟩ := F_law_there T; z.kp⟩
theorem F_law_no_box (T : Tx K mg) : ∃ fd, FunD K "_law_no_box" "_law_no_box" (defArgs s_law_no_box) (defBody s_law_no_box) (defScope s_law_no_box) [] [] (He.ga K "_law_no_box") fd := T.says.def_ 45 (d := d_law_no_box) rfl
theorem T_law_no_box (T : Tx K mg) : mg "_law_no_box" = some (.ref (He.ga K "_law_no_box")) ∧ PySem.W.keepIn K (.ref (He.ga K "_law_no_box")) = true := ⟨T.glo (T.says.fact 8 (f := .glo "_law_no_box") rfl), let ⟨_, z⟩ := F_law_no_box T; z.kp⟩
theorem F_law_names (T : Tx K mg) : ∃ fd, FunD K "_law_names" "_law_names" (defArgs s_law_names) (defBody s_law_names) (defScope s_law_names) [] [] (He.ga K "_law_names") fd := T.says.def_ 46 (d := d_law_names) rfl
theorem T_law_names (T : Tx K mg) : mg "_law_names" = some (.ref (He.ga K "_law_names")) ∧ PySem.W.keepIn K (.ref (He.ga K "_law_names")) = true := ⟨T.glo (T.says.fact 9 (f := .glo "_law_names") rfl), let ⟨_, z⟩ := F_law_names T; z.kp⟩
theorem F_law_free (T : Tx K mg) : ∃ fd, FunD K "_law_free" "_law_free" (defArgs s_law_free) (defBody s_law_free) (defScope s_law_free) [] [] (He.ga K "_law_free") fd := T.says.def_ 47 (d := d_law_free) rfl
theorem T_law_free (T : Tx K mg) : mg "_law_free" = some (.ref (He.ga K "_law_free")) ∧ PySem.W.keepIn K (.ref (He.ga K "_law_free")) = true := ⟨T.glo (T.says.fact 10 (f := .glo "_law_free") rfl), let ⟨_, z⟩ := F_law_free T; z.kp⟩
theorem F_law_within (T : Tx K mg) : ∃ fd, FunD K "_law_within" "_law_within" (defArgs s_law_within) (defBody s_law_within) (defScope s_law_within) [] [] (He.ga K "_law_within") fd := T.says.def_ 48 (d := d_law_within) rfl
theorem T_law_within (T : Tx K mg) : mg "_law_within" = some (.ref (He.ga K "_law_within")) ∧ PySem.W.keepIn K (.ref (He.ga K "_law_within")) = true := ⟨T.glo (T.says.fact 11 (f := .glo "_law_within") rfl), let ⟨_, z⟩ := F_law_within T; z.kp⟩
theorem F_law_used (T : Tx K mg) : ∃ fd, FunD K "_law_used" "_law_used" (defArgs s_law_used) (defBody s_law_used) (defScope s_law_used) [] [] (He.ga K "_law_used") fd := T.says.def_ 49 (d := d_law_used) rfl
theorem T_law_used (T : Tx K mg) : mg "_law_used" = some (.ref (He.ga K "_law_used")) ∧ PySem.W.keepIn K (.ref (He.ga K "_law_used")) = true := ⟨T.glo (T.says.fact 12 (f := .glo "_law_used") rfl), let ⟨_, z⟩ := F_law_used T; z.kp⟩
theorem F_law_lose (T : Tx K mg) : ∃ fd, FunD K "_law_lose" "_law_lose" (defArgs s_law_lose) (defBody s_law_lose) (defScope s_law_lose) [] [] (He.ga K "_law_lose") fd := T.says.def_ 50 (d := d_law_lose) rfl
theorem T_law_lose (T : Tx K mg) : mg "_law_lose" = some (.ref (He.ga K "_law_lose")) ∧ PySem.W.keepIn K (.ref (He.ga K "_law_lose")) = true := ⟨T.glo (T.says.fact 13 (f := .glo "_law_lose") rfl), let ⟨_, z⟩ := F_law_lose T; z.kp⟩
theorem F_law_no_room (T : Tx K mg) : ∃ fd, FunD K "_law_no_room" "_law_no_room" (defArgs s_law_no_room) (defBody s_law_no_room) (defScope s_law_no_room) [] [] (He.ga K "_law_no_room") fd := T.says.def_ 51 (d := d_law_no_room) rfl
theorem T_law_no_room (T : Tx K mg) : mg "_law_no_room" = some (.ref (He.ga K "_law_no_room")) ∧ PySem.W.keepIn K (.ref (He.ga K "_law_no_room")) = true := ⟨T.glo (T.says.fact 14 (f := .glo "_law_no_room") rfl), let ⟨_, z⟩ := F_law_no_room T; z.kp⟩
theorem F_law_do (T : Tx K mg) : ∃ fd, FunD K "_law_do" "_law_do" (defArgs s_law_do) (defBody s_law_do) (defScope s_law_do) [] [] (He.ga K "_law_do") fd := T.says.def_ 52 (d := d_law_do) rfl
theorem T_law_do (T : Tx K mg) : mg "_law_do" = some (.ref (He.ga K "_law_do")) ∧ PySem.W.keepIn K (.ref (He.ga K "_law_do")) = true := ⟨T.glo (T.says.fact 15 (f := .glo "_law_do") rfl), let ⟨_, z⟩ := F_law_do T; z.kp⟩
theorem F_law_make (T : Tx K mg) : ∃ fd, FunD K "_law_make" "_law_make" (defArgs s_law_make) (defBody s_law_make) (defScope s_law_make) [] [] (He.ga K "_law_make") fd := T.says.def_ 53 (d := d_law_make) rfl
theorem T_law_make (T : Tx K mg) : mg "_law_make" = some (.ref (He.ga K "_law_make")) ∧ PySem.W.keepIn K (.ref (He.ga K "_law_make")) = true := ⟨T.glo (T.says.fact 16 (f := .glo "_law_make") rfl), let ⟨_, z⟩ := F_law_make T; z.kp⟩
theorem F_law_place (T : Tx K mg) : ∃ fd, FunD K "_law_place" "_law_place" (defArgs s_law_place) (defBody s_law_place) (defScope s_law_place) [] [] (He.ga K "_law_place") fd := T.says.def_ 54 (d := d_law_place) rfl
theorem T_law_place (T : Tx K mg) : mg "_law_place" = some (.ref (He.ga K "_law_place")) ∧ PySem.W.keepIn K (.ref (He.ga K "_law_place")) = true := ⟨T.glo (T.says.fact 17 (f := .glo "_law_place") rfl), let ⟨_, z⟩ := F_law_place T; z.kp⟩
theorem F_law_write (T : Tx K mg) : ∃ fd, FunD K "_law_write" "_law_write" (defArgs s_law_write) (defBody s_law_write) (defScope s_law_write) [] [] (He.ga K "_law_write") fd := T.says.def_ 55 (d := d_law_write) rfl
theorem T_law_write (T : Tx K mg) : mg "_law_write" = some (.ref (He.ga K "_law_write")) ∧ PySem.W.keepIn K (.ref (He.ga K "_law_write")) = true := ⟨T.glo (T.says.fact 18 (f := .glo "_law_write") rfl), let ⟨_, z⟩ := F_law_write T; z.kp⟩
theorem F_law_copy (T : Tx K mg) : ∃ fd, FunD K "_law_copy" "_law_copy" (defArgs s_law_copy) (defBody s_law_copy) (defScope s_law_copy) [] [] (He.ga K "_law_copy") fd := T.says.def_ 56 (d := d_law_copy) rfl
theorem T_law_copy (T : Tx K mg) : mg "_law_copy" = some (.ref (He.ga K "_law_copy")) ∧ PySem.W.keepIn K (.ref (He.ga K "_law_copy")) = true := ⟨T.glo (T.says.fact 19 (f := .glo "_law_copy") rfl), let ⟨_, z⟩ := F_law_copy T; z.kp⟩
theorem F_law_tie (T : Tx K mg) : ∃ fd, FunD K "_law_tie" "_law_tie" (defArgs s_law_tie) (defBody s_law_tie) (defScope s_law_tie) [] [] (He.ga K "_law_tie") fd := T.says.def_ 57 (d := d_law_tie) rfl
theorem T_law_tie (T : Tx K mg) : mg "_law_tie" = some (.ref (He.ga K "_law_tie")) ∧ PySem.W.keepIn K (.ref (He.ga K "_law_tie")) = true := ⟨T.glo (T.says.fact 20 (f := .glo "_law_tie") rfl), let ⟨_, z⟩ := F_law_tie T; z.kp⟩
theorem F_law_shelve (T : Tx K mg) : ∃ fd, FunD K "_law_shelve" "_law_shelve" (defArgs s_law_shelve) (defBody s_law_shelve) (defScope s_law_shelve) [] [] (He.ga K "_law_shelve") fd := T.says.def_ 58 (d := d_law_shelve) rfl
theorem T_law_shelve (T : Tx K mg) : mg "_law_shelve" = some (.ref (He.ga K "_law_shelve")) ∧ PySem.W.keepIn K (.ref (He.ga K "_law_shelve")) = true := ⟨T.glo (T.says.fact 21 (f := .glo "_law_shelve") rfl), let ⟨_, z⟩ := F_law_shelve T; z.kp⟩
theorem F_law_number (T : Tx K mg) : ∃ fd, FunD K "_law_number" "_law_number" (defArgs s_law_number) (defBody s_law_number) (defScope s_law_number) [] [] (He.ga K "_law_number") fd := T.says.def_ 59 (d := d_law_number) rfl
theorem T_law_number (T : Tx K mg) : mg "_law_number" = some (.ref (He.ga K "_law_number")) ∧ PySem.W.keepIn K (.ref (He.ga K "_law_number")) = true := ⟨T.glo (T.says.fact 22 (f := .glo "_law_number") rfl), let ⟨_, z⟩ := F_law_number T; z.kp⟩
theorem F_law_parent (T : Tx K mg) : ∃ fd, FunD K "_law_parent" "_law_parent" (defArgs s_law_parent) (defBody s_law_parent) (defScope s_law_parent) [] [] (He.ga K "_law_parent") fd := T.says.def_ 60 (d := d_law_parent) rfl
theorem T_law_parent (T : Tx K mg) : mg "_law_parent" = some (.ref (He.ga K "_law_parent")) ∧ PySem.W.keepIn K (.ref (He.ga K "_law_parent")) = true := ⟨T.glo (T.says.fact 23 (f := .glo "_law_parent") rfl), let ⟨_, z⟩ := F_law_parent T; z.kp⟩
theorem F_law_letters (T : Tx K mg) : ∃ fd, FunD K "_law_letters" "_law_letters" (defArgs s_law_letters) (defBody s_law_letters) (defScope s_law_letters) [] [] (He.ga K "_law_letters") fd := T.says.def_ 61 (d := d_law_letters) rfl
theorem T_law_letters (T : Tx K mg) : mg "_law_letters" = some (.ref (He.ga K "_law_letters")) ∧ PySem.W.keepIn K (.ref (He.ga K "_law_letters")) = true := ⟨T.glo (T.says.fact 24 (f := .glo "_law_letters") rfl), let ⟨_, z⟩ := F_law_letters T; z.kp⟩
theorem F_law_deed (T : Tx K mg) : ∃ fd, FunD K "_law_deed" "_law_deed" (defArgs s_law_deed) (defBody s_law_deed) (defScope s_law_deed) [] [] (He.ga K "_law_deed") fd := T.says.def_ 62 (d := d_law_deed) rfl
theorem T_law_deed (T : Tx K mg) : mg "_law_deed" = some (.ref (He.ga K "_law_deed")) ∧ PySem.W.keepIn K (.ref (He.ga K "_law_deed")) = true := ⟨T.glo (T.says.fact 25 (f := .glo "_law_deed") rfl), let ⟨_, z⟩ := F_law_deed T; z.kp⟩
theorem F_law_bounds (T : Tx K mg) : ∃ fd, FunD K "_law_bounds" "_law_bounds" (defArgs s_law_bounds) (defBody s_law_bounds) (defScope s_law_bounds) [] [] (He.ga K "_law_bounds") fd := T.says.def_ 63 (d := d_law_bounds) rfl
theorem T_law_bounds (T : Tx K mg) : mg "_law_bounds" = some (.ref (He.ga K "_law_bounds")) ∧ PySem.W.keepIn K (.ref (He.ga K "_law_bounds")) = true := ⟨T.glo (T.says.fact 26 (f := .glo "_law_bounds") rfl), let ⟨_, z⟩ := F_law_bounds T; z.kp⟩
theorem F_law_cells (T : Tx K mg) : ∃ fd, FunD K "_law_cells" "_law_cells" (defArgs s_law_cells) (defBody s_law_cells) (defScope s_law_cells) [] [] (He.ga K "_law_cells") fd := T.says.def_ 64 (d := d_law_cells) rfl
theorem T_law_cells (T : Tx K mg) : mg "_law_cells" = some (.ref (He.ga K "_law_cells")) ∧ PySem.W.keepIn K (.ref (He.ga K "_law_cells")) = true := ⟨T.glo (T.says.fact 27 (f := .glo "_law_cells") rfl), let ⟨_, z⟩ := F_law_cells T; z.kp⟩
theorem F_law_is_right (T : Tx K mg) : ∃ fd, FunD K "_law_is_right" "_law_is_right" (defArgs s_law_is_right) (defBody s_law_is_right) (defScope s_law_is_right) [] [] (He.ga K "_law_is_right") fd := T.says.def_ 65 (d := d_law_is_right) rfl
theorem T_law_is_right (T : Tx K mg) : mg "_law_is_right" = some (.ref (He.ga K "_law_is_right")) ∧ PySem.W.keepIn K (.ref (He.ga K "_law_is_right")) = true := ⟨T.glo (T.says.fact 28 (f := .glo "_law_is_right") rfl), let ⟨_, z⟩ := F_law_is_right T; z.kp⟩
theorem F_law (T : Tx K mg) : ∃ fd, FunD K "law" "law" (defArgs s_law) (defBody s_law) (defScope s_law) [] [] (He.ga K "law") fd := T.says.def_ 66 (d := d_law) rfl
theorem T_law (T : Tx K mg) : mg "law" = some (.ref (He.ga K "law")) ∧ PySem.W.keepIn K (.ref (He.ga K "law")) = true := ⟨T.glo (T.says.fact 29 (f := .glo "law") rfl), let ⟨_, z⟩ := F_law T; z.kp⟩
/-- a def's promise, by positional values -/
theorem fnr {st : Stmt} {name qual : Str} {N ps : List Str} {k : Nat} {sp : Sp} {a : Addr} (F : ∃ fd, FunD K name qual (defArgs st) (defBody st) (defScope st) [] [] a fd) (S : FnScope N ps (defScope st))
    (hb : ∀ (kV doc pm : Value) (an : Option Addr) (cdv ct : Value) (us : List Value), us.length = ps.length → bindArgs (PySem.W.fnOf name qual (defArgs st) (defBody st) (defScope st) .none kV doc pm an cdv ct) ⟨us, []⟩ = pure (ps.zip us))
    (len : ∀ vs H Q E, sp vs H Q E → vs.length = ps.length)
    (body : ∀ (cdv : Value) (A : Around) (outer : List Env) (s : Shared) (H : Hp) (vs : List V) (Q : VK) (E : XK), Room k (A.deeper (envOfC qual (defScope st) s.heap.objs.size a cdv)) → sp vs H Q E →
      ∃ t, PSs (cxOf (L2.CX P w) P w K mg base N qual (defScope st) a cdv A outer s H E) (defBody st) t ∧ t { nx := fun _ H' => Q .non H', rt := Q } (start N vs) H) : FnR P w K mg base (L2.CX P w) (k + 1) a sp := by
  obtain ⟨fd, F⟩ := F
  have z := (FunD.ok (CX := L2.CX P w) (k := k) F S len body).raw (F.bindsN hb) .nil
  exact z.imp fun vs H Q E h => by rw [List.append_nil]; exact h
theorem hD {k : Nat} {A : Around} (hr : Room k A) : A.units + 65 < cLine := by have := hr.un; omega
theorem hE {k : Nat} {A : Around} (hr : Room k A) : A.units + 64 < cLine := by have := hr.un; omega
end
end Ho

set_option Elab.async false
set_option linter.all false
set_option maxRecDepth 100000
set_option maxHeartbeats 0
/-! the head's run -/
namespace Ho
open PySem PySem.Spec PyProof.Rows L2
abbrev R : PySem.W.OpenRow := PySem.W.OpenLaw.row PySem.Challenge.rw_castshelf_k13_whole_one_place
def ob (s : PySem.W.SharedT) : He.AlD × Bool := obsH (HandSHeadRun.getT s)
theorem ob_eq (s : PySem.W.SharedT) : ob s = hk.obs s.abs := by
  have e : HandSHeadRun.getT s = s.abs.heap.get? := funext (HandSHeadRun.getT_eq s)
  show obsH (HandSHeadRun.getT s) = obsH s.abs.heap.get?
  rw [e]
set_option maxHeartbeats 0 in
theorem run (w : World) : HandSHeadRun.RunEq R (PySem.W.view R.prog [45]) hk ob 6000 loose w := by
  intro os
  kernel_rfl
end Ho

set_option Elab.async false
set_option linter.all false
set_option maxRecDepth 100000
set_option maxHeartbeats 4000000
/-! M1: the plain state of a house, what each deed does to it; how it stands in the heap. -/
namespace Ho
open PySem PySem.Spec PyProof.Rows L2

/-! ### lists by int keys -/
def putI {α : Type} (l : List (Int × α)) (n : Int) (v : α) : List (Int × α) := if l.any (fun p => decide (p.1 = n)) = true then l.map fun p => if p.1 = n then (p.1, v) else p else l ++ [(n, v)]
def dropI {α : Type} (l : List (Int × α)) (n : Int) : List (Int × α) := l.filter fun p => decide (p.1 ≠ n)
theorem lookup_map {α β : Type} (f : α → β) (n : Int) : ∀ l : List (Int × α), (l.map fun p => (p.1, f p.2)).lookup n = (l.lookup n).map f
  | [] => rfl
  | (k, v) :: l => by
    rw [List.map_cons, List.lookup_cons, List.lookup_cons]
    cases (n == k) with
    | true => rfl
    | false => exact lookup_map f n l
theorem putI_map {α β : Type} (f : α → β) (n : Int) (v : α) (l : List (Int × α)) : putI (l.map fun p => (p.1, f p.2)) n (f v) = (putI l n v).map fun p => (p.1, f p.2) := by
  unfold putI
  have e : (l.map fun p => (p.1, f p.2)).any (fun p => decide (p.1 = n)) = l.any (fun p => decide (p.1 = n)) := by rw [List.any_map]; rfl
  rw [e]
  cases l.any (fun p => decide (p.1 = n)) with
  | true =>
    simp only [if_true]
    rw [List.map_map, List.map_map]
    refine List.map_congr_left fun p _ => ?_
    show (if p.1 = n then (p.1, f v) else (p.1, f p.2)) = (fun q : Int × α => (q.1, f q.2)) (if p.1 = n then (p.1, v) else p)
    by_cases h : p.1 = n
    · rw [if_pos h, if_pos h]
    · rw [if_neg h, if_neg h]
  | false => simp
theorem dropI_map {α β : Type} (f : α → β) (n : Int) (l : List (Int × α)) : dropI (l.map fun p => (p.1, f p.2)) n = (dropI l n).map fun p => (p.1, f p.2) := by
  unfold dropI
  rw [List.filter_map]
  rfl
theorem lookup_some {α : Type} {n : Int} {v : α} : ∀ {l : List (Int × α)}, l.lookup n = some v → (n, v) ∈ l
  | [], h => by cases h
  | (k, w) :: l, h => by
    rw [List.lookup_cons] at h
    cases q : (n == k) with
    | true =>
      rw [q] at h
      have e := eq_of_beq q
      cases h
      rw [e]
      exact List.mem_cons_self
    | false => rw [q] at h; exact List.mem_cons_of_mem _ (lookup_some h)
theorem lookup_none {α : Type} {n : Int} : ∀ {l : List (Int × α)}, l.lookup n = none ↔ n ∉ l.map (·.1)
  | [] => by simp
  | (k, w) :: l => by
    rw [List.lookup_cons, List.map_cons, List.mem_cons]
    cases q : (n == k) with
    | true =>
      have e := eq_of_beq q
      simp [e]
    | false =>
      have e : ¬ n = k := beq_eq_false_iff_ne.mp q
      simp only [lookup_none (l := l), e, false_or]
theorem lookup_mem {α : Type} {n : Int} {l : List (Int × α)} : (l.lookup n).isSome = true ↔ n ∈ l.map (·.1) := by
  cases h : l.lookup n with
  | none => simpa using lookup_none.mp h
  | some v => simpa using ⟨v, lookup_some h⟩
theorem lookup_nd {α : Type} {n : Int} {v : α} : ∀ {l : List (Int × α)}, (l.map (·.1)).Nodup → (n, v) ∈ l → l.lookup n = some v
  | [], _, h => by cases h
  | (k, w) :: l, nd, h => by
    rw [List.map_cons, List.nodup_cons] at nd
    rw [List.lookup_cons]
    rcases List.mem_cons.mp h with e | h
    · cases e; simp
    · have : n ≠ k := fun e => nd.1 (e ▸ List.mem_map.mpr ⟨(n, v), h, rfl⟩)
      rw [beq_eq_false_iff_ne.mpr this]
      exact lookup_nd nd.2 h
theorem any_key {α : Type} (n : Int) (l : List (Int × α)) : l.any (fun p => decide (p.1 = n)) = (l.lookup n).isSome := by
  rw [Bool.eq_iff_iff, lookup_mem]
  simp
theorem lookup_putI {α : Type} (n m : Int) (v : α) (l : List (Int × α)) : (putI l n v).lookup m = if m = n then some v else l.lookup m := by
  unfold putI
  rw [any_key]
  cases h : l.lookup n with
  | none =>
    simp only [Option.isSome_none, Bool.false_eq_true, if_false]
    have hn := lookup_none.mp h
    clear h
    induction l with
    | nil =>
      by_cases e : m = n
      · subst e; simp
      · rw [if_neg e]; simp [e]
    | cons p l ih =>
      rw [List.map_cons, List.mem_cons, not_or] at hn
      rw [List.cons_append, List.lookup_cons, List.lookup_cons, ih hn.2]
      cases q : (m == p.1) with
      | true =>
        have e := eq_of_beq q
        have : ¬ m = n := fun z => hn.1 (z ▸ e)
        simp only [if_neg this]
      | false => rfl
  | some w =>
    simp only [Option.isSome_some, if_true]
    have key : ∀ l : List (Int × α), (l.map fun p => if p.1 = n then (p.1, v) else p).lookup m = if m = n then (l.lookup n).map (fun _ => v) else l.lookup m := fun l => by
      induction l with
      | nil => simp
      | cons p l ih =>
        rw [List.map_cons, List.lookup_cons]
        by_cases hp : p.1 = n
        · rw [if_pos hp, List.lookup_cons, List.lookup_cons, ih]
          by_cases e : m = n
          · subst e; simp [hp]
          · rw [if_neg e, if_neg e]
            have q : (m == p.1) = false := beq_eq_false_iff_ne.mpr (fun z => e (z.trans hp))
            simp only [q]
        · rw [if_neg hp, List.lookup_cons, List.lookup_cons, ih]
          by_cases e : m = n
          · subst e
            have q : (m == p.1) = false := beq_eq_false_iff_ne.mpr (fun z => hp z.symm)
            simp only [q]
          · rw [if_neg e, if_neg e]
    rw [key, h]
    rfl
theorem keys_putI_in {α : Type} {n : Int} {v : α} {l : List (Int × α)} (h : n ∈ l.map (·.1)) : (putI l n v).map (·.1) = l.map (·.1) := by
  unfold putI
  rw [any_key, lookup_mem.mpr h, if_pos rfl, List.map_map]
  refine List.map_congr_left fun p _ => ?_
  show (if p.1 = n then (p.1, v) else p).1 = p.1
  by_cases e : p.1 = n
  · rw [if_pos e]
  · rw [if_neg e]
theorem putI_new {α : Type} {n : Int} {v : α} {l : List (Int × α)} (h : n ∉ l.map (·.1)) : putI l n v = l ++ [(n, v)] := by
  unfold putI
  rw [any_key, lookup_none.mpr h]
  rfl
theorem putI_length {α : Type} (n : Int) (v : α) (l : List (Int × α)) : (putI l n v).length ≤ l.length + 1 := by
  unfold putI
  by_cases h : l.any (fun p => decide (p.1 = n)) = true
  · rw [if_pos h, List.length_map]; omega
  · rw [if_neg h, List.length_append]; exact Nat.le_refl _
theorem lookup_dropI {α : Type} (n m : Int) (l : List (Int × α)) : (dropI l n).lookup m = if m = n then none else l.lookup m := by
  induction l with
  | nil => simp [dropI]
  | cons p l ih =>
    unfold dropI at ih ⊢
    rw [List.filter_cons, List.lookup_cons]
    by_cases hp : p.1 = n
    · rw [if_neg (by simp [hp]), ih]
      by_cases e : m = n
      · rw [if_pos e, if_pos e]
      · rw [if_neg e, if_neg e, beq_eq_false_iff_ne.mpr (fun z => e (z.trans hp))]
    · rw [if_pos (by simp [hp]), List.lookup_cons, ih]
      by_cases e : m = n
      · rw [if_pos e, if_pos e, beq_eq_false_iff_ne.mpr (fun z => hp (z.symm.trans e))]
      · rw [if_neg e, if_neg e]
theorem KRep.put {H : Hp} {l : List (Int × D)} {kvs : List (Key × V)} (h : KRep H l kvs) (n : Int) {d : D} {v : V} (a : At H d v) : KRep H (putI l n d) (putK kvs (Sum.inl n) v) := by
  unfold putI putK
  have e : (kvs.any fun kv => decide (kv.1 = Sum.inl n)) = l.any (fun p => decide (p.1 = n)) := by rw [any_key, valV_any, h.isSome]
  rw [e]
  by_cases c : l.any (fun p => decide (p.1 = n)) = true
  · rw [if_pos c, if_pos c]
    clear c e
    induction h with
    | nil => exact .nil
    | @cons p q l kvs z t ih =>
      refine .cons ?_ ih
      obtain ⟨z1, z2⟩ := z
      show (if q.1 = Sum.inl n then (q.1, v) else q).1 = Sum.inl (if p.1 = n then (p.1, d) else p).1 ∧ At H (if p.1 = n then (p.1, d) else p).2 (if q.1 = Sum.inl n then (q.1, v) else q).2
      by_cases hp : p.1 = n
      · rw [if_pos hp, if_pos (by rw [z1, hp])]
        exact ⟨z1, a⟩
      · rw [if_neg hp, if_neg (by rw [z1]; exact fun w => hp (Sum.inl.inj w))]
        exact ⟨z1, z2⟩
  · rw [if_neg c, if_neg c]
    exact Paired.snoc h ⟨rfl, a⟩
theorem KRep.drop {H : Hp} {l : List (Int × D)} {kvs : List (Key × V)} (h : KRep H l kvs) (n : Int) : KRep H (dropI l n) (dropK kvs (Sum.inl n)) := by
  unfold dropI dropK
  induction h with
  | nil => exact .nil
  | @cons p q l kvs z t ih =>
    obtain ⟨z1, z2⟩ := z
    rw [List.filter_cons, List.filter_cons]
    by_cases hp : p.1 = n
    · rw [if_neg (by simp [hp]), if_neg (by simp [z1, hp])]
      exact ih
    · rw [if_pos (by simp [hp]), if_pos (by simp [z1, hp])]
      exact .cons ⟨z1, z2⟩ ih

/-! ### the state -/
structure Rw where
  par : Option Int
  nm : Str
  tx : Option Str
  mrk : Option Int
structure Stt where
  keep : Int
  room : Int
  rows : List (Int × Rw)
  casts : List (Int × Int)
  ties : List (Int × Int)
  day : Int
  count : Int
namespace Stt
def get (S : Stt) (n : Int) : Option Rw := S.rows.lookup n
def keys (S : Stt) : List Int := S.rows.map (·.1)
def there (S : Stt) (n : Int) : Bool := match S.get n with
  | some r => r.mrk.isNone
  | none => false
def thereO (S : Stt) : Option Int → Bool
  | some n => S.there n
  | none => false
def mark (S : Stt) (n : Int) : Option Int := (S.get n).bind (·.mrk)
/-- it is no box that is there, nor the house -/
def noBox (S : Stt) : Option Int → Bool
  | none => false
  | some n => !S.there n || ((S.get n).bind (·.tx)).isSome
def names (S : Stt) (par but : Option Int) : List Str := (S.rows.filter fun p => p.2.mrk.isNone && (!decide (some p.1 = but) && decide (p.2.par = par))).map (·.2.nm)
def setRow (S : Stt) (n : Int) (r : Rw) : Stt := { S with rows := putI S.rows n r }
/-- a thing in n, n itself too, that is there -/
inductive Desc (S : Stt) (n : Int) : Int → Prop
  | self : S.there n = true → Desc S n n
  | step {x p : Int} {r : Rw} : S.get x = some r → r.mrk = none → r.par = some p → Desc S n p → Desc S n x
open Classical in
noncomputable def within (S : Stt) (n : Int) : List Int := S.keys.filter fun x => decide (Desc S n x)
def txLen (r : Rw) : Int := match r.tx with
  | some t => (t.length : Int)
  | none => 0
def used (S : Stt) : Int := (S.rows.map fun p => txLen p.2).sum
def usedThere (S : Stt) : Int := ((S.rows.filter fun p => p.2.mrk.isNone).map fun p => txLen p.2).sum
def lose (S : Stt) (n : Int) : Stt := { S with
  rows := S.rows.filter fun p => !decide (p.2.mrk = some n)
  casts := S.casts.filter fun c => !decide (c.1 = n)
  ties := S.ties.filter fun t => !decide (S.mark t.1 = some n) && !decide (S.mark t.2 = some n) }
def many (S : Stt) (n : Int) : Nat := (S.rows.filter fun p => decide (p.2.mrk = some n)).length
def mkRoom : Nat → Stt → Int → Stt
  | 0, S, _ => S
  | k + 1, S, more => if S.used + more > S.room then (match S.casts with
    | [] => S
    | c :: _ => mkRoom k (S.lose c.1) more) else S
def roomFor (S : Stt) (more : Int) : Stt := mkRoom S.casts.length S more
end Stt
/-- the least name with a number that is free -/
def cand (nm : Str) (k : Nat) : Str := nm ++ Str.ofString (toString ((k : Nat) : Int))
def freeK (nm : Str) (tk : List Str) : Nat → Nat → Nat
  | 0, k => k
  | f + 1, k => if cand nm k ∈ tk then freeK nm tk f (k + 1) else k
def freeNm (nm : Str) (tk : List Str) : Str := if nm ∈ tk then cand nm (freeK nm tk (tk.length + 1) 2) else nm

/-! ### in the heap -/
def row3 (r : Rw) : D := .tup [oi r.par, .str r.nm, os r.tx]
def row4 (r : Rw) : D := .tup [oi r.par, .str r.nm, os r.tx, oi r.mrk]
theorem row3_nl (r : Rw) : (row3 r).nl = true := by simp [row3, D.nl, nls, oi_nl, os_nl]
theorem row4_nl (r : Rw) : (row4 r).nl = true := by simp [row4, D.nl, nls, oi_nl, os_nl]
def pairD (p : Int × Int) : D := .tup [.int p.1, .int p.2]
theorem pairD_nl (p : Int × Int) : (pairD p).nl = true := rfl
def rows3 (S : Stt) : List (Int × D) := S.rows.map fun p => (p.1, row3 p.2)
def rows4 (S : Stt) : List (Int × D) := S.rows.map fun p => (p.1, row4 p.2)
theorem look3 (S : Stt) (n : Int) : (rows3 S).lookup n = (S.get n).map row3 := lookup_map row3 n S.rows
theorem look4 (S : Stt) (n : Int) : (rows4 S).lookup n = (S.get n).map row4 := lookup_map row4 n S.rows
theorem keys3 (S : Stt) : (rows3 S).map (·.1) = S.keys := by unfold rows3 Stt.keys; rw [List.map_map]; rfl
theorem keys4 (S : Stt) : (rows4 S).map (·.1) = S.keys := by unfold rows4 Stt.keys; rw [List.map_map]; rfl
/-- a list in the heap -/
def LAt (H : Hp) (a : Addr) (ds : List D) : Prop := ∃ vs, H a = some (.lst vs) ∧ Ats H ds vs
theorem LAt.mono {H H' : Hp} (s : Same H H') {a : Addr} {ds : List D} (h : LAt H a ds) : LAt H' a ds := let ⟨vs, x, y⟩ := h; ⟨vs, s _ _ x, y.mono s⟩
theorem LAt.at {H : Hp} {a : Addr} {ds : List D} (h : LAt H a ds) : At H (.lst ds) (.ref a) := let ⟨_, x, y⟩ := h; .lst x y
/-- an int dict in the heap, not locked -/
def DAt (H : Hp) (a : Addr) (l : List (Int × D)) : Prop := ∃ kvs, H a = some (.dK kvs) ∧ KRep H l kvs
theorem DAt.mono {H H' : Hp} (s : Same H H') {a : Addr} {l : List (Int × D)} (h : DAt H a l) : DAt H' a l := let ⟨vs, x, y⟩ := h; ⟨vs, s _ _ x, y.mono s⟩
theorem DAt.i {H : Hp} {a : Addr} {l : List (Int × D)} (h : DAt H a l) : IDict H a l := let ⟨kvs, x, y⟩ := h; ⟨kvs, .inl x, y⟩
structure HA where
  p : Addr
  dx : Addr
  r : Addr
  s : Addr
  c : Addr
  t : Addr
def hFs (a : HA) (S : Stt) : List (Str × V) := [("keep", .int S.keep), ("room", .int S.room), ("rows", .ref a.r), ("shelved", .ref a.s), ("casts", .ref a.c), ("pairs", .ref a.t), ("today", .int S.day), ("count", .int S.count)]
/-- the dict of the numbers on the shelf -/
structure ShOk (S : Stt) (l : List (Int × D)) : Prop where
  look : ∀ n, l.lookup n = (S.mark n).map D.int
  nd : (l.map (·.1)).Nodup
/-- the house at a is read as S -/
structure HouseRd (C : Addr) (H : Hp) (a : HA) (S : Stt) : Prop where
  ins : H a.p = some (.ins C a.dx (hFs a S))
  rows : IDict H a.r (rows3 S)
  shl : ∃ l, IDict H a.s l ∧ ShOk S l
  casts : LAt H a.c (S.casts.map pairD)
  pairs : LAt H a.t (S.ties.map pairD)
structure HouseAt (C : Addr) (H : Hp) (a : HA) (S : Stt) : Prop where
  ins : H a.p = some (.ins C a.dx (hFs a S))
  rows : DAt H a.r (rows3 S)
  shl : ∃ l, DAt H a.s l ∧ ShOk S l
  casts : LAt H a.c (S.casts.map pairD)
  pairs : LAt H a.t (S.ties.map pairD)
  ne : a.r ≠ a.s
  nc : a.c ≠ a.t
section
variable {C : Addr} {H H' : Hp} {a : HA} {S : Stt}
theorem HouseRd.mono (s : Same H H') (h : HouseRd C H a S) : HouseRd C H' a S := ⟨s _ _ h.ins, h.rows.mono s, let ⟨l, x, y⟩ := h.shl; ⟨l, x.mono s, y⟩, h.casts.mono s, h.pairs.mono s⟩
theorem HouseAt.mono (s : Same H H') (h : HouseAt C H a S) : HouseAt C H' a S := ⟨s _ _ h.ins, h.rows.mono s, let ⟨l, x, y⟩ := h.shl; ⟨l, x.mono s, y⟩, h.casts.mono s, h.pairs.mono s, h.ne, h.nc⟩
theorem HouseAt.rd (h : HouseAt C H a S) : HouseRd C H a S := ⟨h.ins, h.rows.i, let ⟨l, x, y⟩ := h.shl; ⟨l, x.i, y⟩, h.casts, h.pairs⟩
end
/-- the law's own state: its addresses -/
structure SA where
  p : Addr
  r : Addr
  c : Addr
  t : Addr
def sKv (b : SA) (S : Stt) : List (Key × V) := [(Sum.inr "keep", .int S.keep), (Sum.inr "room", .int S.room), (Sum.inr "rows", .ref b.r), (Sum.inr "casts", .ref b.c), (Sum.inr "ties", .ref b.t), (Sum.inr "day", .int S.day), (Sum.inr "count", .int S.count)]
structure StRd (H : Hp) (b : SA) (S : Stt) : Prop where
  st : H b.p = some (.dK (sKv b S))
  rows : IDict H b.r (rows4 S)
  casts : LAt H b.c (S.casts.map pairD)
  ties : LAt H b.t (S.ties.map pairD)
structure StAt (H : Hp) (b : SA) (S : Stt) : Prop where
  st : H b.p = some (.dK (sKv b S))
  rows : DAt H b.r (rows4 S)
  casts : LAt H b.c (S.casts.map pairD)
  ties : LAt H b.t (S.ties.map pairD)
  ne : b.p ≠ b.r
  nc : b.c ≠ b.t
section
variable {H H' : Hp} {b : SA} {S : Stt}
theorem StRd.mono (s : Same H H') (h : StRd H b S) : StRd H' b S := ⟨s _ _ h.st, h.rows.mono s, h.casts.mono s, h.ties.mono s⟩
theorem StAt.mono (s : Same H H') (h : StAt H b S) : StAt H' b S := ⟨s _ _ h.st, h.rows.mono s, h.casts.mono s, h.ties.mono s, h.ne, h.nc⟩
theorem StAt.rd (h : StAt H b S) : StRd H b S := ⟨h.st, h.rows.i, h.casts, h.ties⟩
end
/-- what changes is at most at A; what is at A' behind it was at A, or is new -/
structure Mv (A A' : List Addr) (H H' : Hp) : Prop where
  keep : ∀ b o, b ∉ A → H b = some o → H' b = some o
  new : ∀ b ∈ A', b ∈ A ∨ H b = none
  tup : Tle H H'
theorem Mv.of {A : List Addr} {H H' : Hp} (s : Same H H') : Mv A A H H' := ⟨fun b o _ q => s b o q, fun _ h => .inl h, Tle.of s⟩
theorem Mv.trans {A A1 A2 : List Addr} {H H1 H2 : Hp} (x : Mv A A1 H H1) (y : Mv A1 A2 H1 H2) : Mv A A2 H H2 where
  keep := fun b o n q => y.keep b o (fun z => (x.new b z).elim n fun w => by rw [q] at w; cases w) (x.keep b o n q)
  new := fun b h => (y.new b h).elim (x.new b) fun w => by
    by_cases n : b ∈ A
    · exact .inl n
    · cases q : H b with
      | none => exact .inr rfl
      | some o => rw [x.keep b o n q] at w; cases w
  tup := x.tup.trans y.tup
def HA.all (a : HA) : List Addr := [a.p, a.r, a.s, a.c, a.t]
def SA.all (b : SA) : List Addr := [b.p, b.r, b.c, b.t]
end Ho

set_option Elab.async false
set_option linter.all false
set_option maxRecDepth 100000
set_option maxHeartbeats 4000000
/-! A2s: statements. -/
namespace Ho
open PySem PySem.Spec PyProof.Rows L2
section
variable {K : PySem.W.Frag} {σ : L2.St} {H H' : Hp} {ta tb te tx td tl : TE} {c : TT} {d e : D} {v w : V} {De : Ends} {t u tz : TS} {i : Nat}
theorem q_asg (h : EvD te σ H d) (k : ∀ v H1, Same H H1 → At H1 d v → tz De (σ.set i (some v)) H1) : tSeq (tAsg te (gName i)) tz De σ H := h H (Same.refl H) _ k
theorem s_asg (h : EvD te σ H d) (k : ∀ v H1, Same H H1 → At H1 d v → De.nx (σ.set i (some v)) H1) : tAsg te (gName i) De σ H := h H (Same.refl H) _ k
theorem q_asgN {ds : List D} (h : EvN te σ H ds) (k : ∀ p vs H1, H p = none → Same H H1 → H1 p = some (.lst vs) → Ats H1 ds vs → tz De (σ.set i (some (.ref p))) H1) : tSeq (tAsg te (gName i)) tz De σ H := h H (Same.refl H) _ k
theorem s_ret (h : EvD te σ H d) (k : ∀ v H1, Same H H1 → At H1 d v → De.rt v H1) : tRet te De σ H := h H (Same.refl H) _ k
theorem s_retN {ds : List D} (h : EvN te σ H ds) (k : ∀ p vs H1, H p = none → Same H H1 → H1 p = some (.lst vs) → Ats H1 ds vs → De.rt (.ref p) H1) : tRet te De σ H := h H (Same.refl H) _ k
theorem q_drop (h : EvD te σ H d) (k : ∀ v H1, Same H H1 → At H1 d v → tz De σ H1) : tSeq (tDrop te) tz De σ H := h H (Same.refl H) _ k
theorem s_drop (h : EvD te σ H d) (k : ∀ v H1, Same H H1 → At H1 d v → De.nx σ H1) : tDrop te De σ H := h H (Same.refl H) _ k
theorem s_if {b : Bool} (h : EvT c σ H b) (h1 : b = true → ∀ H1, Same H H1 → t De σ H1) (h2 : b = false → ∀ H1, Same H H1 → u De σ H1) : tIfS c t u De σ H := h H (Same.refl H) _ fun H1 s => by
  cases b with
  | true => exact h1 rfl H1 s
  | false => exact h2 rfl H1 s
theorem q_if {b : Bool} (h : EvT c σ H b) (h1 : b = true → ∀ H1, Same H H1 → t { De with nx := tz De } σ H1) (h2 : b = false → ∀ H1, Same H H1 → u { De with nx := tz De } σ H1) : tSeq (tIfS c t u) tz De σ H := s_if (De := { De with nx := tz De }) h h1 h2
/-- a field is stored -/
theorem s_fld {p C dx : Addr} {f : Str} {fs : List (Str × V)} (T : Cls K C) (n : NoAttr K C f) (hp : H p = some (.ins C dx fs)) (hl : fs.length < 1000) (hv : EvD tx σ H d) (ho : EvD ta σ H (.ref p))
    (k : ∀ v H1, Same H H1 → At H1 d v → De.nx σ (upd H1 p (.ins C dx (putF f v fs)))) : sFld K ta tx f De σ H := hv H (Same.refl H) _ fun v H1 s1 av => ho H1 s1 _ fun x H2 s2 ax => by
  cases ax
  exact ⟨p, C, dx, fs, rfl, s2 _ _ (s1 _ _ hp), T, n, hl, k v H2 (s1.trans s2) (av.mono s2)⟩
theorem q_fld {p C dx : Addr} {f : Str} {fs : List (Str × V)} (T : Cls K C) (n : NoAttr K C f) (hp : H p = some (.ins C dx fs)) (hl : fs.length < 1000) (hv : EvD tx σ H d) (ho : EvD ta σ H (.ref p))
    (k : ∀ v H1, Same H H1 → At H1 d v → tz De σ (upd H1 p (.ins C dx (putF f v fs)))) : tSeq (sFld K ta tx f) tz De σ H := s_fld (De := { De with nx := tz De }) T n hp hl hv ho k
/-- .. a new list -/
theorem s_fldN {p C dx : Addr} {f : Str} {fs : List (Str × V)} {ds : List D} (T : Cls K C) (n : NoAttr K C f) (hp : H p = some (.ins C dx fs)) (hl : fs.length < 1000) (hv : EvN tx σ H ds) (ho : EvD ta σ H (.ref p))
    (k : ∀ q vs H1, H q = none → Same H H1 → H1 q = some (.lst vs) → Ats H1 ds vs → De.nx σ (upd H1 p (.ins C dx (putF f (.ref q) fs)))) : sFld K ta tx f De σ H := hv H (Same.refl H) _ fun q vs H1 hq s1 hl1 av => ho H1 s1 _ fun x H2 s2 ax => by
  cases ax
  exact ⟨p, C, dx, fs, rfl, s2 _ _ (s1 _ _ hp), T, n, hl, k q vs H2 hq (s1.trans s2) (s2 _ _ hl1) (av.mono s2)⟩
theorem q_fldN {p C dx : Addr} {f : Str} {fs : List (Str × V)} {ds : List D} (T : Cls K C) (n : NoAttr K C f) (hp : H p = some (.ins C dx fs)) (hl : fs.length < 1000) (hv : EvN tx σ H ds) (ho : EvD ta σ H (.ref p))
    (k : ∀ q vs H1, H q = none → Same H H1 → H1 q = some (.lst vs) → Ats H1 ds vs → tz De σ (upd H1 p (.ins C dx (putF f (.ref q) fs)))) : tSeq (sFld K ta tx f) tz De σ H := s_fldN (De := { De with nx := tz De }) T n hp hl hv ho k
/-- d[k] = v -/
theorem s_put {a : Addr} {kvs : List (Key × V)} {kd : Key} {kk : D} (hk : ∀ H v, At H kk v → v = kV kd) (hp : H a = some (.dK kvs)) (hl : kvs.length < 10000000) (hv : EvD tx σ H d) (ho : EvD td σ H (.ref a)) (hi : EvD te σ H kk)
    (k : ∀ v H1, Same H H1 → At H1 d v → De.nx σ (upd H1 a (.dK (putK kvs kd v)))) : sDPut td te tx De σ H := hv H (Same.refl H) _ fun v H1 s1 av => ho H1 s1 _ fun x H2 s2 ax => hi H2 (s1.trans s2) _ fun y H3 s3 ay => by
  cases ax
  have e := hk _ _ ay
  subst e
  exact ⟨a, _, rfl, DPut.k (s3 _ _ (s2 _ _ (s1 _ _ hp))) (sz_lt hl), k v H3 ((s1.trans s2).trans s3) ((av.mono s2).mono s3)⟩
theorem q_put {a : Addr} {kvs : List (Key × V)} {kd : Key} {kk : D} (hk : ∀ H v, At H kk v → v = kV kd) (hp : H a = some (.dK kvs)) (hl : kvs.length < 10000000) (hv : EvD tx σ H d) (ho : EvD td σ H (.ref a)) (hi : EvD te σ H kk)
    (k : ∀ v H1, Same H H1 → At H1 d v → tz De σ (upd H1 a (.dK (putK kvs kd v)))) : tSeq (sDPut td te tx) tz De σ H := s_put (De := { De with nx := tz De }) hk hp hl hv ho hi k
theorem kk_int {n : Int} : ∀ (H : Hp) (v : V), At H (.int n) v → v = kV (Sum.inl n) := fun _ _ h => by cases h; rfl
theorem kk_str {n : Str} : ∀ (H : Hp) (v : V), At H (.str n) v → v = kV (Sum.inr n) := fun _ _ h => by cases h; rfl
/-- a, b, .. = e (a tuple) -/
theorem s_unp2 {i j : Nat} {d1 d2 : D} (h : EvD te σ H (.tup [d1, d2])) (k : ∀ v1 v2 H1, Same H H1 → At H1 d1 v1 → At H1 d2 v2 → De.nx ((σ.set i (some v1)).set j (some v2)) H1) :
    tAsg te (gTup K 2 (gCons (gName i) (gCons (gName j) gNil))) De σ H := h H (Same.refl H) _ fun v H1 s av => by
  cases av with
  | tup hp hs => cases hs with
    | cons a1 hs => cases hs with
      | cons a2 hs => cases hs; exact ⟨_, _, rfl, SqT.of hp, rfl, _, _, rfl, _, _, rfl, rfl, k _ _ H1 s a1 a2⟩
theorem q_unp2 {i j : Nat} {d1 d2 : D} (h : EvD te σ H (.tup [d1, d2])) (k : ∀ v1 v2 H1, Same H H1 → At H1 d1 v1 → At H1 d2 v2 → tz De ((σ.set i (some v1)).set j (some v2)) H1) :
    tSeq (tAsg te (gTup K 2 (gCons (gName i) (gCons (gName j) gNil)))) tz De σ H := s_unp2 (De := { De with nx := tz De }) h k
theorem q_unp3 {i j l : Nat} {d1 d2 d3 : D} (h : EvD te σ H (.tup [d1, d2, d3])) (k : ∀ v1 v2 v3 H1, Same H H1 → At H1 d1 v1 → At H1 d2 v2 → At H1 d3 v3 → tz De (((σ.set i (some v1)).set j (some v2)).set l (some v3)) H1) :
    tSeq (tAsg te (gTup K 3 (gCons (gName i) (gCons (gName j) (gCons (gName l) gNil))))) tz De σ H := h H (Same.refl H) _ fun v H1 s av => by
  cases av with
  | tup hp hs => cases hs with
    | cons a1 hs => cases hs with
      | cons a2 hs => cases hs with
        | cons a3 hs => cases hs; exact ⟨_, _, rfl, SqT.of hp, rfl, _, _, rfl, _, _, rfl, _, _, rfl, rfl, k _ _ _ H1 s a1 a2 a3⟩
theorem q_unp4 {i j l m : Nat} {d1 d2 d3 d4 : D} (h : EvD te σ H (.tup [d1, d2, d3, d4])) (k : ∀ v1 v2 v3 v4 H1, Same H H1 → At H1 d1 v1 → At H1 d2 v2 → At H1 d3 v3 → At H1 d4 v4 → tz De ((((σ.set i (some v1)).set j (some v2)).set l (some v3)).set m (some v4)) H1) :
    tSeq (tAsg te (gTup K 4 (gCons (gName i) (gCons (gName j) (gCons (gName l) (gCons (gName m) gNil)))))) tz De σ H := h H (Same.refl H) _ fun v H1 s av => by
  cases av with
  | tup hp hs => cases hs with
    | cons a1 hs => cases hs with
      | cons a2 hs => cases hs with
        | cons a3 hs => cases hs with
          | cons a4 hs => cases hs; exact ⟨_, _, rfl, SqT.of hp, rfl, _, _, rfl, _, _, rfl, _, _, rfl, _, _, rfl, rfl, k _ _ _ _ H1 s a1 a2 a3 a4⟩
/-- a, b = x, y -/
theorem q_par {i j : Nat} {ta : TA} {d1 d2 : D} (h : EvA ta σ H [d1, d2]) (k : ∀ v1 v2 H1, Same H H1 → At H1 d1 v1 → At H1 d2 v2 → tz De ((σ.set i (some v1)).set j (some v2)) H1) : tSeq (tPar i j ta) tz De σ H := h H (Same.refl H) _ fun vs H1 s av => by
  cases av with
  | cons a1 av => cases av with
    | cons a2 av => cases av; exact ⟨_, _, rfl, k _ _ H1 s a1 a2⟩
/-- l.append(e) -/
theorem s_app {l : Addr} {xs : List V} (hl : H l = some (.lst xs)) (ha : EvD ta σ H (.ref l)) (h : EvD te σ H d) (hz : xs.length < 10000000) (k : ∀ v H1, Same H H1 → At H1 d v → De.nx σ (upd H1 l (.lst (xs ++ [v])))) :
    tDrop (tBM K "list" rAppend ta (tCons te tNil)) De σ H := ha H (Same.refl H) _ fun x H1 s1 ax => by
  cases ax
  exact ⟨Or.inl ⟨rfl, xs, SqL.of (s1 _ _ hl)⟩, h H1 s1 _ fun v H2 s2 av => ⟨l, xs, v, rfl, rfl, s2 _ _ (s1 _ _ hl), sz_lt hz, k v H2 (s1.trans s2) av⟩⟩
theorem q_app {l : Addr} {xs : List V} (hl : H l = some (.lst xs)) (ha : EvD ta σ H (.ref l)) (h : EvD te σ H d) (hz : xs.length < 10000000) (k : ∀ v H1, Same H H1 → At H1 d v → tz De σ (upd H1 l (.lst (xs ++ [v])))) :
    tSeq (tDrop (tBM K "list" rAppend ta (tCons te tNil))) tz De σ H := s_app (De := { De with nx := tz De }) hl ha h hz k
/-- for over a list -/
theorem s_for {ds : List D} {g : TG} (h : EvD tl σ H (.lst ds)) (k : ∀ a vs H1, Same H H1 → H1 a = some (.lst vs) → Ats H1 ds vs → ∃ Pv : Nat → L2.St → Hp → Prop, Pv 0 σ H1 ∧ (∀ i σ' H', Pv i σ' H' → H' a = some (.lst vs)) ∧
      (∀ i v σ' H', vs[i]? = some v → Pv i σ' H' → g v σ' H' fun σ2 H2 => t { De with nx := Pv (i + 1), ct := Pv (i + 1), bk := De.nx } σ2 H2) ∧ ∀ σ' H', Pv vs.length σ' H' → De.nx σ' H') : tFor (iList K tl) g t De σ H :=
  h H (Same.refl H) _ fun v H1 s av => by
    cases av with
    | lst hp hs =>
      obtain ⟨Pv, k1, k2, k3, k4⟩ := k _ _ H1 s hp hs
      exact ⟨_, rfl, ⟨_, SqL.of hp⟩, for_list Pv k1 (fun i σ' H' _ p => SqL.of (k2 i σ' H' p)) k3 k4⟩
theorem q_for {ds : List D} {g : TG} (h : EvD tl σ H (.lst ds)) (k : ∀ a vs H1, Same H H1 → H1 a = some (.lst vs) → Ats H1 ds vs → ∃ Pv : Nat → L2.St → Hp → Prop, Pv 0 σ H1 ∧ (∀ i σ' H', Pv i σ' H' → H' a = some (.lst vs)) ∧
      (∀ i v σ' H', vs[i]? = some v → Pv i σ' H' → g v σ' H' fun σ2 H2 => t { De with nx := Pv (i + 1), ct := Pv (i + 1), bk := tz De } σ2 H2) ∧ ∀ σ' H', Pv vs.length σ' H' → tz De σ' H') : tSeq (tFor (iList K tl) g t) tz De σ H :=
  s_for (De := { De with nx := tz De }) h k
theorem q_forT {ds : List D} {g : TG} (h : EvD tl σ H (.tup ds)) (k : ∀ a vs H1, Same H H1 → H1 a = some (.tup vs) → Ats H1 ds vs → ∃ Pv : Nat → L2.St → Hp → Prop, Pv 0 σ H1 ∧ (∀ i σ' H', Pv i σ' H' → H' a = some (.tup vs)) ∧
      (∀ i v σ' H', vs[i]? = some v → Pv i σ' H' → g v σ' H' fun σ2 H2 => t { De with nx := Pv (i + 1), ct := Pv (i + 1), bk := tz De } σ2 H2) ∧ ∀ σ' H', Pv vs.length σ' H' → tz De σ' H') : tSeq (tFor (iTup K tl) g t) tz De σ H :=
  h H (Same.refl H) _ fun v H1 s av => by
    cases av with
    | tup hp hs =>
      obtain ⟨Pv, k1, k2, k3, k4⟩ := k _ _ H1 s hp hs
      exact ⟨_, rfl, ⟨_, SqT.of hp⟩, for_tup (D := { De with nx := tz De }) Pv k1 (fun i σ' H' _ p => SqT.of (k2 i σ' H' p)) k3 k4⟩
/-- for over the keys of a dict, locked -/
theorem s_forK {r : Addr} {kvs : List (Key × V)} {ns : List Int} {j : Nat} (hr : H r = some (.dK kvs)) (hk : kvs.map (·.1) = ns.map Sum.inl) (hd : ∀ od, EvD td σ (upd H r (.frz od (.dK kvs))) (.ref r)) (Pv : Obj → Nat → L2.St → Hp → Prop)
    (h0 : ∀ od H1, Same (upd H r (.frz od (.dK kvs))) H1 → Pv od 0 σ H1) (hl : ∀ od i σ' H', Pv od i σ' H' → H' r = some (.frz od (.dK kvs)))
    (hs : ∀ od i n σ' H', ns[i]? = some n → Pv od i σ' H' → t ⟨Pv od (i + 1), fun v H' => H' r = some (.frz od (.dK kvs)) ∧ De.rt v (upd H' r (.dK kvs)), fun σ' H' => H' r = some (.frz od (.dK kvs)) ∧ De.nx σ' (upd H' r (.dK kvs)), Pv od (i + 1)⟩ (σ'.set j (some (.int n))) H')
    (hd2 : ∀ od σ' H', Pv od ns.length σ' H' → De.nx σ' (upd H' r (.dK kvs))) : tLock (tFor (iKeys td) (gName j) t) De σ H := by
  have hlen : kvs.length = ns.length := by
    have z := congrArg List.length hk
    rwa [List.length_map, List.length_map] at z
  refine ⟨r, .dK kvs, hr, trivial, fun od => ?_⟩
  refine hd od _ (Same.refl _) _ fun v H1 s1 av => ?_
  cases av
  have hfr : H1 r = some (.frz od (.dK kvs)) := s1 _ _ upd_same
  refine ⟨r, od, rfl, .inl ⟨kvs, hfr, fun i m σ' H' => m = kvs.length - i ∧ i ≤ kvs.length ∧ Pv od i σ' H', ⟨kvs.length, by simp, Nat.zero_le _, h0 od H1 s1⟩, ?_⟩⟩
  rintro i m σ' H' ⟨rfl, hi, p⟩
  have q := hl od i σ' H' p
  by_cases hlt : i < kvs.length
  · refine .inr ⟨⟨q, hlt⟩, Pv od (i + 1), fun σ2 H2 p' => ⟨kvs.length - (i + 1), by omega, rfl, hlt, p'⟩, fun x H2 y => ?_⟩
    obtain ⟨e, k, v, hkv, ex⟩ := y
    subst e ex
    obtain ⟨n, hn, rfl⟩ := keys_at hk hkv
    exact hs od i n σ' _ hn p
  · have e : i = kvs.length := by omega
    subst e
    exact .inl ⟨⟨q, Nat.le_refl _⟩, q, hd2 od σ' H' (hlen ▸ p)⟩
/-- while -/
theorem q_while (W : Nat → L2.St → Hp → Prop) (m0 : Nat) (h0 : W m0 σ H)
    (hs : ∀ m σ' H', W m σ' H' → ∃ b, EvT c σ' H' b ∧ (b = true → ∀ H1, Same H' H1 → t { De with nx := fun σ2 H2 => ∃ m', m' < m ∧ W m' σ2 H2, ct := fun σ2 H2 => ∃ m', m' < m ∧ W m' σ2 H2, bk := tz De } σ' H1) ∧ (b = false → ∀ H1, Same H' H1 → tz De σ' H1)) : tSeq (tWhile c t) tz De σ H :=
  ⟨W, ⟨m0, h0⟩, fun m σ' H' hw => by
    obtain ⟨b, hb, h1, h2⟩ := hs m σ' H' hw
    refine hb H' (Same.refl H') _ fun H1 e => ?_
    cases b with
    | true => exact ⟨fun σ2 H2 => ∃ m', m' < m ∧ W m' σ2 H2, fun _ _ z => z, h1 rfl H1 e⟩
    | false => exact h2 rfl H1 e⟩
/-- a promise's outcomes -/
def RetD (d : D) (H : Hp) (Q : VK) : Prop := ∀ v H', Same H H' → At H' d v → Q v H'
def RetL (ds : List D) (H : Hp) (Q : VK) : Prop := ∀ p vs H', H p = none → Same H H' → H' p = some (.lst vs) → Ats H' ds vs → Q (.ref p) H'
def RaiE (c : Addr) (H : Hp) (E : XK) : Prop := ∀ H', Same H H' → E (.ref c) none H'
theorem RetD.mono {Q : VK} (k : RetD d H Q) (s : Same H H') : RetD d H' Q := fun v H2 s2 a => k v H2 (s.trans s2) a
theorem RetL.mono {ds : List D} {Q : VK} (k : RetL ds H Q) (s : Same H H') : RetL ds H' Q := fun p vs H2 n s2 a b => k p vs H2 (fresh_back s n) (s.trans s2) a b
theorem RaiE.mono {c : Addr} {E : XK} (k : RaiE c H E) (s : Same H H') : RaiE c H' E := fun H2 s2 => k H2 (s.trans s2)
/-! calls -/
theorem ev_meth {C p dx : Addr} {m : Str} {sp : Sp} {E : XK} {fs : List (Str × V)} {tr : TA} {ds : List D} (hp : H p = some (.ins C dx fs)) (hm : fs.lookup m = none) (ho : EvD ta σ H (.ref p)) (ha : EvA tr σ H ds)
    (k : ∀ vs H1, Same H H1 → Ats H1 ds vs → ∀ Q, RetD d H1 Q → sp (.ref p :: vs) H1 Q E) : EvD (tMethR C m sp E ta tr) σ H d := fun H1 s Q q => ho H1 s _ fun x H2 s2 ax => by
  cases ax
  exact ⟨p, dx, fs, rfl, s2 _ _ (s _ _ hp), hm, ha H2 (s.trans s2) _ fun vs H3 s3 as => k vs H3 ((s.trans s2).trans s3) as Q fun v H4 s4 av => q v H4 ((s2.trans s3).trans s4) av⟩
theorem en_meth {C p dx : Addr} {m : Str} {sp : Sp} {E : XK} {fs : List (Str × V)} {tr : TA} {ds es : List D} (hp : H p = some (.ins C dx fs)) (hm : fs.lookup m = none) (ho : EvD ta σ H (.ref p)) (ha : EvA tr σ H ds)
    (k : ∀ vs H1, Same H H1 → Ats H1 ds vs → ∀ Q, RetL es H1 Q → sp (.ref p :: vs) H1 Q E) : EvN (tMethR C m sp E ta tr) σ H es := fun H1 s Q q => ho H1 s _ fun x H2 s2 ax => by
  cases ax
  exact ⟨p, dx, fs, rfl, s2 _ _ (s _ _ hp), hm, ha H2 (s.trans s2) _ fun vs H3 s3 as => k vs H3 ((s.trans s2).trans s3) as Q fun p vs H4 n s4 h4 av => q p vs H4 (fresh_back (s2.trans s3) n) ((s2.trans s3).trans s4) h4 av⟩
theorem ev_meth0 {C p dx : Addr} {m : Str} {sp : Sp} {E : XK} {fs : List (Str × V)} (hp : H p = some (.ins C dx fs)) (hm : fs.lookup m = none) (ho : EvD ta σ H (.ref p))
    (k : ∀ H1, Same H H1 → ∀ Q, RetD d H1 Q → sp [.ref p] H1 Q E) : EvD (tMethF0 C m sp E ta) σ H d := fun H1 s Q q => ho H1 s _ fun x H2 s2 ax => by
  cases ax
  exact ⟨p, dx, fs, rfl, s2 _ _ (s _ _ hp), hm, k H2 (s.trans s2) Q fun v H4 s4 av => q v H4 (s2.trans s4) av⟩
theorem en_meth0 {C p dx : Addr} {m : Str} {sp : Sp} {E : XK} {fs : List (Str × V)} {es : List D} (hp : H p = some (.ins C dx fs)) (hm : fs.lookup m = none) (ho : EvD ta σ H (.ref p))
    (k : ∀ H1, Same H H1 → ∀ Q, RetL es H1 Q → sp [.ref p] H1 Q E) : EvN (tMethF0 C m sp E ta) σ H es := fun H1 s Q q => ho H1 s _ fun x H2 s2 ax => by
  cases ax
  exact ⟨p, dx, fs, rfl, s2 _ _ (s _ _ hp), hm, k H2 (s.trans s2) Q fun p vs H4 n s4 h4 av => q p vs H4 (fresh_back s2 n) (s2.trans s4) h4 av⟩
theorem ev_call {sp : Sp} {E : XK} {tr : TA} {ds : List D} (ha : EvA tr σ H ds) (k : ∀ vs H1, Same H H1 → Ats H1 ds vs → ∀ Q, RetD d H1 Q → sp vs H1 Q E) : EvD (tCallF sp E tr) σ H d := fun H1 s Q q =>
  ha H1 s _ fun vs H2 s2 as => k vs H2 (s.trans s2) as Q fun v H3 s3 av => q v H3 (s2.trans s3) av
theorem en_call {sp : Sp} {E : XK} {tr : TA} {ds es : List D} (ha : EvA tr σ H ds) (k : ∀ vs H1, Same H H1 → Ats H1 ds vs → ∀ Q, RetL es H1 Q → sp vs H1 Q E) : EvN (tCallF sp E tr) σ H es := fun H1 s Q q =>
  ha H1 s _ fun vs H2 s2 as => k vs H2 (s.trans s2) as Q fun p vs H3 n s3 h3 av => q p vs H3 (fresh_back s2 n) (s2.trans s3) h3 av
/-- a call whose outcome is told by the promise alone: what stands behind it is shown of what the promise gives -/
theorem c_meth {C p dx : Addr} {m : Str} {sp : Sp} {E : XK} {fs : List (Str × V)} {tr : TA} {ds : List D} {Q : VK} (hp : H p = some (.ins C dx fs)) (hm : fs.lookup m = none) (ho : EvD ta σ H (.ref p)) (ha : EvA tr σ H ds)
    (k : ∀ vs H1, Same H H1 → Ats H1 ds vs → sp (.ref p :: vs) H1 Q E) : tMethR C m sp E ta tr σ H Q := ho H (Same.refl H) _ fun x H2 s2 ax => by
  cases ax
  exact ⟨p, dx, fs, rfl, s2 _ _ hp, hm, ha H2 s2 _ fun vs H3 s3 as => k vs H3 (s2.trans s3) as⟩
theorem c_meth0 {C p dx : Addr} {m : Str} {sp : Sp} {E : XK} {fs : List (Str × V)} {Q : VK} (hp : H p = some (.ins C dx fs)) (hm : fs.lookup m = none) (ho : EvD ta σ H (.ref p))
    (k : ∀ H1, Same H H1 → sp [.ref p] H1 Q E) : tMethF0 C m sp E ta σ H Q := ho H (Same.refl H) _ fun x H2 s2 ax => by
  cases ax
  exact ⟨p, dx, fs, rfl, s2 _ _ hp, hm, k H2 s2⟩
theorem c_call {sp : Sp} {E : XK} {tr : TA} {ds : List D} {Q : VK} (ha : EvA tr σ H ds) (k : ∀ vs H1, Same H H1 → Ats H1 ds vs → sp vs H1 Q E) : tCallF sp E tr σ H Q := ha H (Same.refl H) _ fun vs H2 s2 as => k vs H2 s2 as
/-- a field read -/
theorem ev_fld {p C dx : Addr} {f : Str} {fs : List (Str × V)} {v : V} (T : Cls K C) (n : NoAttr K C f) (hp : H p = some (.ins C dx fs)) (hf : fs.lookup f = some v) (ho : EvD ta σ H (.ref p)) (a : At H d v) : EvD (tFld K ta f) σ H d := fun H1 s Q q => ho H1 s _ fun x H2 s2 ax => by
  cases ax
  exact ⟨p, C, dx, fs, v, rfl, s2 _ _ (s _ _ hp), T, n, hf, q v H2 s2 (a.mono (s.trans s2))⟩
/-- a text-key dict read -/
theorem ev_sget {a : Addr} {kvs : List (Key × V)} {x : Str} {v : V} (hp : H a = some (.dK kvs)) (hv : valV kvs (Sum.inr x) = some v) (ho : EvD td σ H (.ref a)) (at_ : At H d v) : EvD (tDGet td (tC (.str x))) σ H d := fun H1 s Q q => ho H1 s _ fun y H2 s2 ay => by
  cases ay
  refine ⟨a, v, rfl, ?_, q v H2 s2 (at_.mono (s.trans s2))⟩
  rw [← hv]
  exact dget_rd (k := Sum.inr x) (.inl (s2 _ _ (s _ _ hp)))
end
end Ho

set_option Elab.async false
set_option linter.all false
set_option maxRecDepth 100000
set_option maxHeartbeats 4000000
/-! M2: what a state keeps in every step; lists by rows and by keys. -/
namespace Ho
open PySem PySem.Spec PyProof.Rows L2
structure Stt.Wf (S : Stt) : Prop where
  asc : S.keys.Pairwise (· < ·)
  few : S.rows.length < 64
  txl : ∀ p ∈ S.rows, ∀ t, p.2.tx = some t → t.length ≤ 100000
  nml : ∀ p ∈ S.rows, p.2.nm.length ≤ 100000
  cl : S.casts.length ≤ 100000
  tl : S.ties.length ≤ 100000
def r0 : Rw := ⟨none, "", none, none⟩
def Stt.rw (S : Stt) (n : Int) : Rw := (S.get n).getD r0
section
variable {S : Stt}
theorem nd_of_asc : ∀ {l : List Int}, l.Pairwise (· < ·) → l.Nodup := fun h => h.imp fun x e => by rw [e] at x; exact Int.lt_irrefl _ x
theorem Stt.Wf.nd (h : S.Wf) : S.keys.Nodup := nd_of_asc h.asc
theorem Stt.Wf.klen (h : S.Wf) : S.keys.length < 64 := by unfold Stt.keys; rw [List.length_map]; exact h.few
theorem get_row (h : S.keys.Nodup) {p : Int × Rw} (hp : p ∈ S.rows) : S.get p.1 = some p.2 := lookup_nd h hp
theorem get_key {n : Int} (h : n ∈ S.keys) : ∃ r, S.get n = some r := Option.isSome_iff_exists.mp (lookup_mem.mpr h)
theorem key_get {n : Int} {r : Rw} (h : S.get n = some r) : n ∈ S.keys := lookup_mem.mp (by rw [show S.rows.lookup n = some r from h]; rfl)
theorem row_get {n : Int} {r : Rw} (h : S.get n = some r) : (n, r) ∈ S.rows := lookup_some h
theorem rw_get {n : Int} {r : Rw} (h : S.get n = some r) : S.rw n = r := by unfold Stt.rw; rw [h]; rfl
theorem get_rw {n : Int} (h : n ∈ S.keys) : S.get n = some (S.rw n) := by
  obtain ⟨r, e⟩ := get_key h
  rw [rw_get e]; exact e
theorem there_rw {n : Int} (h : n ∈ S.keys) : S.there n = (S.rw n).mrk.isNone := by unfold Stt.there; rw [get_rw h]
theorem there_key {n : Int} (h : S.there n = true) : n ∈ S.keys := by
  unfold Stt.there at h
  cases e : S.get n with
  | none => rw [e] at h; cases h
  | some r => exact key_get e
/-- by keys, by rows -/
theorem keys_rows {β : Type} (nd : S.keys.Nodup) (f : Int → Bool) (g : Int → β) (F : Int × Rw → Bool) (G : Int × Rw → β) (hf : ∀ p ∈ S.rows, f p.1 = F p) (hg : ∀ p ∈ S.rows, g p.1 = G p) :
    (S.keys.filter f).map g = (S.rows.filter F).map G := by
  unfold Stt.keys
  rw [List.filter_map, List.map_map]
  have e : S.rows.filter (f ∘ fun p => p.1) = S.rows.filter F := List.filter_congr fun p hp => hf p hp
  rw [e]
  exact List.map_congr_left fun p hp => hg p (List.mem_filter.mp hp).1
theorem rw_row (nd : S.keys.Nodup) {p : Int × Rw} (hp : p ∈ S.rows) : S.rw p.1 = p.2 := rw_get (get_row nd hp)
theorem there_row (nd : S.keys.Nodup) {p : Int × Rw} (hp : p ∈ S.rows) : S.there p.1 = p.2.mrk.isNone := by unfold Stt.there; rw [get_row nd hp]
theorem mark_row (nd : S.keys.Nodup) {p : Int × Rw} (hp : p ∈ S.rows) : S.mark p.1 = p.2.mrk := by unfold Stt.mark; rw [get_row nd hp]; rfl
theorem names_keys (nd : S.keys.Nodup) (par but : Option Int) :
    ((S.keys.filter fun n => S.there n && !decide (some n = but)).filter fun n => decide ((S.rw n).par = par)).map (fun n => (S.rw n).nm) = S.names par but := by
  rw [List.filter_filter]
  unfold Stt.names
  refine keys_rows nd _ _ _ _ (fun p hp => ?_) (fun p hp => by rw [rw_row nd hp])
  rw [rw_row nd hp, there_row nd hp]
  cases p.2.mrk.isNone <;> cases decide (some p.1 = but) <;> cases decide (p.2.par = par) <;> rfl
/-- the sorted list of keys, of some keys -/
theorem pw_lt_le {l : List Int} (h : l.Pairwise (· < ·)) : l.Pairwise (· ≤ ·) := h.imp fun x => Int.le_of_lt x
theorem sorted_unique {a b : List Int} (h : a.Perm b) (ha : a.Pairwise (· ≤ ·)) (hb : b.Pairwise (· ≤ ·)) : a = b := List.Perm.eq_of_pairwise (fun _ _ _ _ x y => Int.le_antisymm x y) ha hb h
theorem sort_keys (h : S.Wf) {out : List Int} (p : out.Perm S.keys) (q : out.Pairwise (· ≤ ·)) : out = S.keys := sorted_unique p q (pw_lt_le h.asc)
end
theorem nd_len {α : Type} [DecidableEq α] : ∀ {l m : List α}, l.Nodup → (∀ x ∈ l, x ∈ m) → l.length ≤ m.length
  | [], _, _, _ => Nat.zero_le _
  | x :: l, m, nd, h => by
    obtain ⟨n1, n2⟩ := List.nodup_cons.mp nd
    have z := nd_len (m := m.erase x) n2 fun y hy => (List.mem_erase_of_ne (show y ≠ x from fun e => by rw [e] at hy; exact n1 hy)).mpr (h y (List.mem_cons_of_mem _ hy))
    have hx := h x List.mem_cons_self
    rw [List.length_erase_of_mem hx] at z
    have : 0 < m.length := List.length_pos_of_mem hx
    rw [List.length_cons]
    omega
/-- what the house tells of things -/
def rowD (n : Int) (r : Rw) : D := .tup [.int n, oi r.par, .str r.nm, os r.tx]
theorem rowD_nl (n : Int) (r : Rw) : (rowD n r).nl = true := by simp [rowD, D.nl, nls, oi_nl, os_nl]
namespace Stt
def thingsL (S : Stt) : List D := (S.rows.filter fun p => p.2.mrk.isNone).map fun p => rowD p.1 p.2
def innerL (S : Stt) (n : Int) : List D := (S.rows.filter fun p => decide (p.2.mrk = some n)).map fun p => rowD p.1 p.2
def shelfL (S : Stt) : List D := S.casts.map fun c => .tup [.int c.1, .str (S.rw c.1).nm, .int (c.2 + S.keep), .int (S.many c.1)]
def livePairs (S : Stt) : List (Int × Int) := S.ties.filter fun p => S.there p.1 && S.there p.2
def sortI (l : List Int) : List Int := l.mergeSort (fun a b => decide (a ≤ b))
def tiesL (S : Stt) (n : Int) : List Int := sortI ((S.livePairs.filter fun p => decide (p.1 = n)).map (·.2))
def comersL (S : Stt) (n : Int) : List Int := sortI ((S.livePairs.filter fun p => decide (p.2 = n)).map (·.1))
/-- the numbers that were cast off by n, rising -/
def bundleL (S : Stt) (n : Int) : List Int := S.keys.filter fun x => decide (S.mark x = some n)
end Stt
theorem sortI_unique {l out : List Int} (p : out.Perm l) (q : out.Pairwise (· ≤ ·)) : out = Stt.sortI l := by
  refine sorted_unique (p.trans (List.mergeSort_perm l _).symm) q ?_
  have z := List.pairwise_mergeSort (le := fun a b : Int => decide (a ≤ b)) (fun a b c h1 h2 => by simp only [decide_eq_true_eq] at *; omega) (fun a b => by simp only [Bool.or_eq_true, decide_eq_true_eq]; omega) l
  exact z.imp fun h => of_decide_eq_true h
end Ho

set_option Elab.async false
set_option linter.all false
set_option maxRecDepth 100000
set_option maxHeartbeats 4000000
/-! A5: the layer's rules with the written part as a name of its own (in a comprehension's block the context's own K would carry the block's letters along). -/
namespace Ho
open PySem PySem.Spec PyProof.Rows L2
section
variable {X : Cx} (K : PySem.W.Frag) {ta tb te tl : TE} {t : TA} {tgs : TGs} {e o a b value tg : Expr} {es rest : List Expr} {f name : Str} {pos pos' p apos cpos tpos : Pos} {k n kk : Nat} {elts : List Expr} {id T : String} {r : V → List V → Hp → VK → Prop}
theorem fldK (he : PE X e ta) (hb : attributeBase e f X.env (eval e X.env) = eval e X.env := by rfl) (hK : X.K = K := by rfl) : PE X (.Attribute e f pos) (tFld K ta f) := hK ▸ pe_fld he hb
theorem sfldK (ha : PE X o ta) (hv : PE X value tb) (hs : swapsWith value (some (.Attribute o f pos')) pos.line X.env = pure false := by rfl) (hK : X.K = K := by rfl) : PS X (.Assign [.Attribute o f pos'] value pos) (sFld K ta tb f) := hK ▸ ps_fld ha hv hs
theorem truK (ha : PE X a ta) (he : ∀ whole, isTrue a X.env whole = (do let v ← whole; standAt a.pos; holding [v] (truthy v)) := by intro _; rfl) (hK : X.K = K := by rfl) : PT X a (fun σ H Q => ta σ H fun x H' => ∃ k, TruV K x H' k ∧ Q k H') := hK ▸ pt_truth ha he
theorem ixtK (hK : X.K = K := by rfl) : IxR X (rIxT K) := hK ▸ ix_tup
theorem ixlK (hK : X.K = K := by rfl) : IxR X (rIxL K) := hK ▸ ix_list
theorem inK (hK : X.K = K := by rfl) : OpR X (compareOp .In) (rIn K false) := hK ▸ op_in_seq
theorem niK (hK : X.K = K := by rfl) : OpR X (compareOp .NotIn) (rIn K true) := hK ▸ op_notIn_seq
theorem inDK (hu : X.A.units + 65 < cLine) (hK : X.K = K := by rfl) : OpR X (compareOp .In) (rInD K) := hK ▸ op_inD hu
theorem niDK (hu : X.A.units + 65 < cLine) (hK : X.K = K := by rfl) : OpR X (compareOp .NotIn) (rNotInD K) := hK ▸ op_notInD hu
theorem eqDK (hu : X.A.units + 64 < cLine) (hK : X.K = K := by rfl) : OpR X (compareOp .Eq) (rEqD K) := hK ▸ op_eqD hu
theorem neDK (hu : X.A.units + 64 < cLine) (hK : X.K = K := by rfl) : OpR X (compareOp .NotEq) (rNeD K) := hK ▸ op_neD hu
theorem catTK (hK : X.K = K := by rfl) : OpR X (binaryOp .Add) (rCatT K) := hK ▸ op_catT
theorem lenK (hK : X.K = K := by rfl) : CallR X (.builtin "len") (rLenS K) := hK ▸ call_len_seq
theorem lenStrK : CallR X (.builtin "len") rLenStr := call_len_str
theorem tupOfK (hK : X.K = K := by rfl) : CallR X (.type "tuple") (rTupOf K) := hK ▸ call_tuple_of
theorem listOfK (hK : X.K = K := by rfl) : CallR X (.type "list") (rListOf K) := hK ▸ call_list_of
theorem sumK (hc : X.calm = true := by rfl) (hK : X.K = K := by rfl) : CallR X (.builtin "sum") (rSum K) := hK ▸ cr_sum hc
theorem allK (hc : X.calm = true := by rfl) (hK : X.K = K := by rfl) : CallR X (.builtin "all") (rAll K) := hK ▸ cr_all hc
theorem srtK (hK : X.K = K := by rfl) : CallR X (.builtin "sorted") (rSortedI K) := hK ▸ cr_sortedI
theorem sltK (hK : X.K = K := by rfl) : SlR X (rSlT K) := hK ▸ sl_tup
theorem sllK (hK : X.K = K := by rfl) : SlR X (rSlL K) := hK ▸ sl_list
theorem bmK (pa : PlainAttrs T) (slot : Slot T name id) (hty : typeOf (.builtin id) = pure (.type "method_descriptor")) (hm : MtR X id r) (ho : PE X o ta) (ha : PA X (e :: es) t)
    (hbase : attributeBase o name X.env (eval o X.env) = eval o X.env := by rfl)
    (hfew : ((backTo cpos (starEach (e :: es) X.env)).all (fun x => !x.1) && (backToKw cpos (keywordEach [] X.env)).all (fun x => x.1.isSome) && decide ((e :: es).length + ([] : List Keyword).length + (if ([] : List Keyword).isEmpty then 0 else 1) < 30)) = true := by rfl)
    (hline : (apos.endLine == cpos.line) = true := by rfl) (hs : starEach (e :: es) X.env = (false, eval e X.env) :: starEach es X.env := by rfl) (hplain : (backTo cpos (starEach es X.env)).any (·.1) = false := by rfl) (hK : X.K = K := by rfl) :
    PE X (.Call (.Attribute o name apos) (e :: es) [] cpos) (tBM K T r ta t) := hK ▸ pe_bm pa slot hty hm ho ha hbase hfew hline hs hplain
theorem gtupK (hc : X.calm = true) (h : PGs X es tgs) (hn : (assignEach es X.env).length = n := by rfl) (hst : (assignEach es X.env).findIdx? (·.1) = none := by rfl) (hK : X.K = K := by rfl) : PG X (.Tuple es k pos) (gTup K n tgs) := hK ▸ pg_tup hc h hn hst
theorem orTK (ha : PE X a ta) (hb : PE X (.BoolOp .Or (b :: rest) pos) tb) (hK : X.K = K := by rfl) : PE X (.BoolOp .Or (a :: b :: rest) pos) (tOrT K ta tb) := hK ▸ pe_orT ha hb
theorem pilK (hl : PE X e tl) (hK : X.K = K := by rfl) : PI X tg e (iList K tl) := hK ▸ pi_list hl
theorem pitK (hl : PE X e tl) (hK : X.K = K := by rfl) : PI X tg e (iTup K tl) := hK ▸ pi_tup hl
theorem enumK (hg : Gl X "enumerate") (hm : X.mg "enumerate" = none) (ha : PA X [e] t) (hs : starEach [e] X.env = [(false, eval e X.env)] := by rfl) (hK : X.K = K := by rfl) : PI X (.Tuple elts kk tpos) (.Call (.Name "enumerate" p) [e] [] pos) (iEnum K t) := hK ▸ pi_enum hg hm ha hs
theorem remK (hu : X.A.units + 65 < cLine) (hK : X.K = K := by rfl) : MtR X "list.remove" (rRemD K) := hK ▸ mt_removeD hu
theorem cntK (hK : X.K = K := by rfl) : MtR X "list.count" (rCntV K) := hK ▸ mt_countV
theorem idxK (hK : X.K = K := by rfl) : MtR X "list.index" (rIndex K) := hK ▸ mt_index
theorem isiK (hK : X.K = K := by rfl) : CallR X (.builtin "isinstance") (rIsi K) := hK ▸ call_isi
theorem isiTK (hK : X.K = K := by rfl) : CallR X (.builtin "isinstance") (rIsiT K) := hK ▸ call_isiT
theorem iskK (hK : X.K = K := by rfl) : CallR X (.builtin "isinstance") (rIsK K) := hK ▸ call_isK
def rDictP (K : PySem.W.Frag) : List V → Hp → VK → Prop := fun xs H Q => ∃ (a : Addr) (ps : List Addr) (kvs : List (Key × V)), xs = [.ref a] ∧ SqL K H a (ps.map V.ref) ∧ Paired (fun p kv => SqT K H p [kV kv.1, kv.2]) ps kvs ∧ ∀ p, H p = none → Q (.ref p) (upd H p (.dK (mergeK [] kvs)))
theorem dictPK (hc : X.calm = true := by rfl) (hK : X.K = K := by rfl) : CallR X (.type "dict") (rDictP K) := hK ▸ call_dictP hc
end
end Ho

set_option Elab.async false
set_option linter.all false
set_option maxRecDepth 100000
set_option maxHeartbeats 4000000
/-! B0: the house's fields; what can be asked of things by one look. -/
namespace Ho
open PySem PySem.Spec PyProof.Rows L2
section
variable {P : Program} {w : World} {K : PySem.W.Frag} {mg : Str → Option Value} {base : Heap} {σ : L2.St} {H H' : Hp} {ta tb te tx td tl : TE} {a : HA} {S : Stt} {E : XK}
theorem f_keep (a : HA) (S : Stt) : (hFs a S).lookup ("keep" : Str) = some (.int S.keep) := by kernel_rfl
theorem f_room (a : HA) (S : Stt) : (hFs a S).lookup ("room" : Str) = some (.int S.room) := by kernel_rfl
theorem f_rows (a : HA) (S : Stt) : (hFs a S).lookup ("rows" : Str) = some (.ref a.r) := by kernel_rfl
theorem f_shelved (a : HA) (S : Stt) : (hFs a S).lookup ("shelved" : Str) = some (.ref a.s) := by kernel_rfl
theorem f_casts (a : HA) (S : Stt) : (hFs a S).lookup ("casts" : Str) = some (.ref a.c) := by kernel_rfl
theorem f_pairs (a : HA) (S : Stt) : (hFs a S).lookup ("pairs" : Str) = some (.ref a.t) := by kernel_rfl
theorem f_today (a : HA) (S : Stt) : (hFs a S).lookup ("today" : Str) = some (.int S.day) := by kernel_rfl
theorem f_count (a : HA) (S : Stt) : (hFs a S).lookup ("count" : Str) = some (.int S.count) := by kernel_rfl
theorem e_rows (T : Tx K mg) (h : HouseRd (cH K) H a S) (ho : EvD ta σ H (.ref a.p)) : EvD (tFld K ta "rows") σ H (.ref a.r) := ev_fld (T_cls T) (T_f_rows T) h.ins (f_rows a S) ho (.ref _)
theorem e_shelved (T : Tx K mg) (h : HouseRd (cH K) H a S) (ho : EvD ta σ H (.ref a.p)) : EvD (tFld K ta "shelved") σ H (.ref a.s) := ev_fld (T_cls T) (T_f_shelved T) h.ins (f_shelved a S) ho (.ref _)
theorem e_castsR (T : Tx K mg) (h : HouseRd (cH K) H a S) (ho : EvD ta σ H (.ref a.p)) : EvD (tFld K ta "casts") σ H (.ref a.c) := ev_fld (T_cls T) (T_f_casts T) h.ins (f_casts a S) ho (.ref _)
theorem e_casts (T : Tx K mg) (h : HouseRd (cH K) H a S) (ho : EvD ta σ H (.ref a.p)) : EvD (tFld K ta "casts") σ H (.lst (S.casts.map pairD)) := ev_fld (T_cls T) (T_f_casts T) h.ins (f_casts a S) ho h.casts.at
theorem e_pairsR (T : Tx K mg) (h : HouseRd (cH K) H a S) (ho : EvD ta σ H (.ref a.p)) : EvD (tFld K ta "pairs") σ H (.ref a.t) := ev_fld (T_cls T) (T_f_pairs T) h.ins (f_pairs a S) ho (.ref _)
theorem e_pairs (T : Tx K mg) (h : HouseRd (cH K) H a S) (ho : EvD ta σ H (.ref a.p)) : EvD (tFld K ta "pairs") σ H (.lst (S.ties.map pairD)) := ev_fld (T_cls T) (T_f_pairs T) h.ins (f_pairs a S) ho h.pairs.at
theorem e_keep (T : Tx K mg) (h : HouseRd (cH K) H a S) (ho : EvD ta σ H (.ref a.p)) : EvD (tFld K ta "keep") σ H (.int S.keep) := ev_fld (T_cls T) (T_f_keep T) h.ins (f_keep a S) ho (.int _)
theorem e_room (T : Tx K mg) (h : HouseRd (cH K) H a S) (ho : EvD ta σ H (.ref a.p)) : EvD (tFld K ta "room") σ H (.int S.room) := ev_fld (T_cls T) (T_f_room T) h.ins (f_room a S) ho (.int _)
theorem e_today (T : Tx K mg) (h : HouseRd (cH K) H a S) (ho : EvD ta σ H (.ref a.p)) : EvD (tFld K ta "today") σ H (.int S.day) := ev_fld (T_cls T) (T_f_today T) h.ins (f_today a S) ho (.int _)
theorem e_count (T : Tx K mg) (h : HouseRd (cH K) H a S) (ho : EvD ta σ H (.ref a.p)) : EvD (tFld K ta "count") σ H (.int S.count) := ev_fld (T_cls T) (T_f_count T) h.ins (f_count a S) ho (.int _)
/-- self.rows[n] -/
theorem e_row (T : Tx K mg) (h : HouseRd (cH K) H a S) {n : Int} {r : Rw} (e : S.get n = some r) (ho : EvD ta σ H (.ref a.p)) (hn : EvD te σ H (.int n)) : EvD (tDGet (tFld K ta "rows") te) σ H (row3 r) :=
  ev_dget h.rows (by rw [look3, e]; rfl) (e_rows T h ho) hn
theorem e_par (T : Tx K mg) (h : HouseRd (cH K) H a S) {n : Int} {r : Rw} (e : S.get n = some r) (ho : EvD ta σ H (.ref a.p)) (hn : EvD te σ H (.int n)) : EvD (tOp (rIxT K) (tDGet (tFld K ta "rows") te) (tC (.int 0))) σ H (oi r.par) :=
  ev_ixT (k := 0) (e_row T h e ho hn) rfl
theorem e_nm (T : Tx K mg) (h : HouseRd (cH K) H a S) {n : Int} {r : Rw} (e : S.get n = some r) (ho : EvD ta σ H (.ref a.p)) (hn : EvD te σ H (.int n)) : EvD (tOp (rIxT K) (tDGet (tFld K ta "rows") te) (tC (.int 1))) σ H (.str r.nm) :=
  ev_ixT (k := 1) (e_row T h e ho hn) rfl
theorem e_tx (T : Tx K mg) (h : HouseRd (cH K) H a S) {n : Int} {r : Rw} (e : S.get n = some r) (ho : EvD ta σ H (.ref a.p)) (hn : EvD te σ H (.int n)) : EvD (tOp (rIxT K) (tDGet (tFld K ta "rows") te) (tC (.int 2))) σ H (os r.tx) :=
  ev_ixT (k := 2) (e_row T h e ho hn) rfl
theorem et_trB {b : Bool} (h : EvD te σ H (.bl b)) : EvT (fun σ H Q => te σ H fun x H' => ∃ k, TruV K x H' k ∧ Q k H') σ H b := et_tru h trivial
theorem os_isN (o : Option Str) : (os o).isN = o.isNone := by cases o <;> rfl
theorem oi_isN (o : Option Int) : (oi o).isN = o.isNone := by cases o <;> rfl
theorem there_get {n : Int} (h : S.there n = true) : ∃ r, S.get n = some r ∧ r.mrk = none := by
  unfold Stt.there at h
  cases e : S.get n with
  | none => rw [e] at h; cases h
  | some r =>
    rw [e] at h
    exact ⟨r, rfl, Option.isNone_iff_eq_none.mp h⟩
theorem there_of {n : Int} {r : Rw} (e : S.get n = some r) : S.there n = r.mrk.isNone := by unfold Stt.there; rw [e]
theorem there_look {n : Int} {l : List (Int × D)} (h : ShOk S l) : ((S.get n).isSome && !(l.lookup n).isSome) = S.there n := by
  rw [h.look]
  unfold Stt.there Stt.mark
  cases e : S.get n with
  | none => rfl
  | some r => cases q : r.mrk <;> simp [q]
/-! ### is_there -/
def sp_h_is_there (K : PySem.W.Frag) : Sp := fun vs H Q _ => ∃ (a : HA) (S : Stt) (n : Int), vs = [.ref a.p, .int n] ∧ HouseRd (cH K) H a S ∧ RetD (.bl (S.there n)) H Q
theorem sc_h_is_there : FnScope ["self", "number"] ["self", "number"] (defScope s_h_is_there) := ⟨rfl, rfl, rfl, by decide +kernel, rfl, by decide +kernel, by decide +kernel⟩
theorem ok_h_is_there (T : Tx K mg) : FnR P w K mg base (L2.CX P w) 1 (He.ma K (cH K) "is_there") (sp_h_is_there K) := by
  refine fnr (F_h_is_there T) sc_h_is_there (fun _ _ _ _ _ _ us hl => match us, hl with | [_, _], _ => rfl) (fun vs H Q E h => by obtain ⟨_, _, _, rfl, _⟩ := h; rfl) (fun cdv A outer s H vs Q E hr h => ?_)
  refine ⟨_, PSs.nox (pss_one (ps_ret (pe_and (pe_cmp (pc_din (hu_of hr) (pv 1) (fldK K (pv 0)))) (pe_one (pe_cmp (pc_dnotin (hu_of hr) (pv 1) (fldK K (pv 0)))))))), ?_⟩
  obtain ⟨a, S, n, rfl, h, k⟩ := h
  obtain ⟨l, hl, sh⟩ := h.shl
  refine s_ret ?_ k
  refine (ev_and (ev_din h.rows (ev_vi rfl) (e_rows T h (ev_vr rfl))) fun _ => ev_dni hl (ev_vi rfl) (e_shelved T h (ev_vr rfl))).is ?_
  rw [look3, Option.isSome_map, there_look sh]
theorem e_is_there (h : HouseRd (cH K) H a S) {n : Int} (ho : EvD ta σ H (.ref a.p)) (hn : EvD te σ H (.int n)) : EvD (tMethR (cH K) "is_there" (sp_h_is_there K) E ta (tCons te tNil)) σ H (.bl (S.there n)) :=
  ev_meth h.ins (by kernel_rfl) ho (ea_cons hn ea_nil) fun vs H1 s as Q q => by
    cases as with | cons a1 as => cases as; cases a1; exact ⟨a, S, n, rfl, h.mono s, q⟩
/-! ### must -/
def sp_h_must (K : PySem.W.Frag) : Sp := fun vs H Q E => ∃ (a : HA) (S : Stt) (n : Int), vs = [.ref a.p, .int n] ∧ HouseRd (cH K) H a S ∧ (S.there n = true → RetD .non H Q) ∧ (S.there n = false → RaiE (cE K Kd.noThing.nm) H E)
theorem sc_h_must : FnScope ["self", "number"] ["self", "number"] (defScope s_h_must) := ⟨rfl, rfl, rfl, by decide +kernel, rfl, by decide +kernel, by decide +kernel⟩
theorem ok_h_must (T : Tx K mg) : FnR P w K mg base (L2.CX P w) 2 (He.ma K (cH K) "must") (sp_h_must K) := by
  refine fnr (F_h_must T) sc_h_must (fun _ _ _ _ _ _ us hl => match us, hl with | [_, _], _ => rfl) (fun vs H Q E h => by obtain ⟨_, _, _, rfl, _⟩ := h; rfl) (fun cdv A outer s H vs Q E hr h => ?_)
  refine ⟨_, (pss_one (ps_if (pt_not (truK K (pe_methR (pv 0) (T_cls T) (T_h_is_there T) (ok_h_is_there T) (hr.mono (by decide)) passL (pa_cons (pv 1) pa_nil)))) (pss_one (ps_raise rfl (takes_of rfl rfl rfl rfl) (pmk_own PySem.F.excBase_ValueError (T_NoThing T).x (T_NoThing T).g (T_NoThing T).k (raises_own (T_NoThing T).b (T_NoThing T).t) rfl))) pss_nil)), ?_⟩
  obtain ⟨a, S, n, rfl, h, k1, k2⟩ := h
  refine s_if (et_not (et_trB (e_is_there h (ev_vr rfl) (ev_vi rfl)))) (fun b H1 s => ?_) fun b H1 s => ?_
  · exact k2 (by simpa using b) H1 s
  · exact k1 (by simpa using b) _ H1 s .non
theorem m_must {u : TS} {De : Ends} (h : HouseRd (cH K) H a S) {n : Int} (ho : EvD ta σ H (.ref a.p)) (hn : EvD te σ H (.int n)) (k2 : S.there n = false → RaiE (cE K Kd.noThing.nm) H E) (k1 : S.there n = true → ∀ H1, Same H H1 → u De σ H1) :
    tSeq (tDrop (tMethR (cH K) "must" (sp_h_must K) E ta (tCons te tNil))) u De σ H :=
  c_meth h.ins (by kernel_rfl) ho (ea_cons hn ea_nil) fun vs H1 s as => by
    cases as with | cons a1 as => cases as; cases a1; exact ⟨a, S, n, rfl, h.mono s, fun b v H2 s2 _ => k1 b H2 (s.trans s2), fun b => (k2 b).mono s⟩
/-! ### must_box -/
def sp_h_must_box (K : PySem.W.Frag) : Sp := fun vs H Q E => ∃ (a : HA) (S : Stt) (n : Option Int), vs = [.ref a.p, oiV n] ∧ HouseRd (cH K) H a S ∧ (S.noBox n = false → RetD .non H Q) ∧ (S.noBox n = true → RaiE (cE K Kd.noBox.nm) H E)
theorem sc_h_must_box : FnScope ["self", "parent"] ["self", "parent"] (defScope s_h_must_box) := ⟨rfl, rfl, rfl, by decide +kernel, rfl, by decide +kernel, by decide +kernel⟩
theorem ok_h_must_box (T : Tx K mg) : FnR P w K mg base (L2.CX P w) 2 (He.ma K (cH K) "must_box") (sp_h_must_box K) := by
  refine fnr (F_h_must_box T) sc_h_must_box (fun _ _ _ _ _ _ us hl => match us, hl with | [_, _], _ => rfl) (fun vs H Q E h => by obtain ⟨_, _, _, rfl, _⟩ := h; rfl) (fun cdv A outer s H vs Q E hr h => ?_)
  refine ⟨_, (pss_one (ps_if (PW.pt (pw_and (pt_cmpR op_notN (pv 1) pe_non (nomark _)) (pw_and1 (PW.pt (pw_or (pt_not (truK K (pe_methR (pv 0) (T_cls T) (T_h_is_there T) (ok_h_is_there T) (hr.mono (by decide)) passL (pa_cons (pv 1) pa_nil)))) (pw_or1 (pt_cmpR op_notN (pe_ix (ixtK K) (pe_dget (hu_of hr) (fldK K (pv 0)) (pv 1) (fun _ _ => rfl)) pe_int (fun _ _ => rfl)) pe_non (nomark _)))))))) (pss_one (ps_raise rfl (takes_of rfl rfl rfl rfl) (pmk_own PySem.F.excBase_ValueError (T_NoBox T).x (T_NoBox T).g (T_NoBox T).k (raises_own (T_NoBox T).b (T_NoBox T).t) rfl))) pss_nil)), ?_⟩
  obtain ⟨a, S, n, rfl, h, k1, k2⟩ := h
  cases n with
  | none =>
    refine s_if (b := false) ((et_and (b := true) (et_test (ev_notN (ev_vo (n := none) rfl))) fun q => by cases q).is rfl) (fun b => by cases b) fun b H1 s => ?_
    exact k1 rfl _ H1 s .non
  | some n =>
    refine s_if (b := S.noBox (some n)) ?ev (fun b H1 s => k2 b H1 s) fun b H1 s => k1 b _ H1 s .non
    refine (et_and (et_test (ev_notN (ev_var (d := .int n) rfl (.int n)))) fun _ => et_or (et_not (et_trB (e_is_there h (ev_vr rfl) (ev_var rfl (.int n))))) (b := ((S.get n).bind (·.tx)).isSome) fun b => ?_).is rfl
    obtain ⟨r, hr, _⟩ := there_get (S := S) (n := n) (by simpa using b)
    refine (et_test (ev_notN (e_tx T h hr (ev_vr rfl) (ev_var rfl (.int n))))).is ?_
    rw [os_isN, hr]
    show (!r.tx.isNone) = r.tx.isSome
    cases r.tx <;> rfl
theorem m_must_box {u : TS} {De : Ends} (h : HouseRd (cH K) H a S) {n : Option Int} (ho : EvD ta σ H (.ref a.p)) (hn : EvD te σ H (oi n)) (k2 : S.noBox n = true → RaiE (cE K Kd.noBox.nm) H E) (k1 : S.noBox n = false → ∀ H1, Same H H1 → u De σ H1) :
    tSeq (tDrop (tMethR (cH K) "must_box" (sp_h_must_box K) E ta (tCons te tNil))) u De σ H :=
  c_meth h.ins (by kernel_rfl) ho (ea_cons hn ea_nil) fun vs H1 s as => by
    cases as with | cons a1 as => cases as; cases at_oi' a1; exact ⟨a, S, n, rfl, h.mono s, fun b v H2 s2 _ => k1 b H2 (s.trans s2), fun b => (k2 b).mono s⟩
end
end Ho

set_option Elab.async false
set_option linter.all false
set_option maxRecDepth 100000
set_option maxHeartbeats 4000000
/-! B1: what the house tells. -/
namespace Ho
open PySem PySem.Spec PyProof.Rows L2
section
variable {P : Program} {w : World} {K : PySem.W.Frag} {mg : Str → Option Value} {base : Heap} {σ : L2.St} {H H' : Hp} {ta tb te tx td tl : TE} {a : HA} {S : Stt} {E : XK}
theorem le_lit {n m : Nat} (h : Nat.ble n m = true := by rfl) : n ≤ m := Nat.le_of_ble_eq_true h
theorem q_asgLk {ds : List D} {i : Nat} {tz : TS} {De : Ends} (h : EvN (tLockE te) σ H ds) (k : ∀ p vs H1, H p = none → Same H H1 → H1 p = some (.lst vs) → Ats H1 ds vs → tz De (σ.set i (some (.ref p))) H1) : tSeq (tLock (tAsg te (gName i))) tz De σ H := h H (Same.refl H) _ k
/-- the house as it is read while its rows are locked -/
theorem HouseAt.lock (h : HouseAt (cH K) H a S) {kvs : List (Key × V)} (hr : H a.r = some (.dK kvs)) (od : Obj) : HouseRd (cH K) (upd H a.r (.frz od (.dK kvs))) a S := by
  obtain ⟨k2, h1, h2⟩ := h.rows
  have ek : k2 = kvs := by rw [hr] at h1; cases h1; rfl
  subst ek
  have e : Tle H (upd H a.r (.frz od (.dK k2))) := frz_tle hr
  obtain ⟨l, ⟨k3, s1, s2⟩, s3⟩ := h.shl
  obtain ⟨vs, c1, c2⟩ := h.casts
  obtain ⟨ws, t1, t2⟩ := h.pairs
  refine ⟨?_, ⟨k2, .inr ⟨od, upd_same⟩, h2.tle e fun p hp => ?_⟩, ⟨l, ⟨k3, .inl ?_, s2.tle e fun p hp => ?_⟩, s3⟩, ⟨vs, ?_, c2.tle e (nls_map _ pairD_nl _)⟩, ⟨ws, ?_, t2.tle e (nls_map _ pairD_nl _)⟩⟩
  · rw [upd_ne (ne_of h.ins hr (by intro z; cases z))]; exact h.ins
  · obtain ⟨q, _, rfl⟩ := List.mem_map.mp hp; exact row3_nl _
  · rw [upd_ne (Ne.symm h.ne)]; exact s1
  · have z := s3.look p.1
    rw [lookup_nd s3.nd hp] at z
    cases q : S.mark p.1 with
    | none => rw [q] at z; cases z
    | some m =>
      rw [q] at z
      rw [Option.some.inj z]
      rfl
  · rw [upd_ne (ne_of c1 hr (by intro z; cases z))]; exact c1
  · rw [upd_ne (ne_of t1 hr (by intro z; cases z))]; exact t1
theorem HouseAt.rowsx (h : HouseAt (cH K) H a S) : ∃ kvs, H a.r = some (.dK kvs) ∧ kvs.map (·.1) = S.keys.map Sum.inl := by
  obtain ⟨kvs, h1, h2⟩ := h.rows
  exact ⟨kvs, h1, by rw [h2.keys, keys3]⟩
/-! ### names_in -/
def sp_h_names_in (K : PySem.W.Frag) : Sp := fun vs H Q _ => ∃ (a : HA) (S : Stt) (par but : Option Int), vs = [.ref a.p, oiV par, oiV but] ∧ HouseAt (cH K) H a S ∧ S.Wf ∧ RetL ((S.names par but).map D.str) H Q
theorem sc_h_names_in : FnScope ["self", "parent", "but", "some", "one"] ["self", "parent", "but"] (defScope s_h_names_in) := ⟨rfl, rfl, rfl, by decide +kernel, rfl, by decide +kernel, by decide +kernel⟩
theorem ok_h_names_in (T : Tx K mg) : FnR P w K mg base (L2.CX P w) 2 (He.ma K (cH K) "names_in") (sp_h_names_in K) := by
  refine fnr (F_h_names_in T) sc_h_names_in (fun _ _ _ _ _ _ us hl => match us, hl with | [_, _, _], _ => rfl) (fun vs H Q E h => by obtain ⟨_, _, _, _, rfl, _⟩ := h; rfl) (fun cdv A outer s H vs Q E hr h => ?_)
  refine ⟨_, PSs.nox (pss_cons (ps_lock (ps_setLc (own := [("one", 4)]) (i := 3) rfl sc_h_names_in.nd rfl rfl (sw_true rfl rfl rfl (by decide +kernel)) (pi_keys (fldK K (pv 0))) (blkOk_by (N := ["self", "parent", "but", "some", "one"]) (sc := defScope s_h_names_in) (by decide +kernel)) (fun _ _ _ _ _ => (pg_name (i := 4) sc_h_names_in.nd rfl (Or.inl rfl))) (fun _ _ _ _ _ => (pts_one (PW.pt (pw_and (truK K (pe_methR (pv 0) (T_cls T) (T_h_is_there T) (ok_h_is_there T) (hr.mono (by decide)) passL (pa_cons (pv 4) pa_nil))) (pw_and1 (pt_cmpR op_ne (pv 4) (pv 2) (nomark _))))))) (fun _ _ _ _ _ => (pv 4)))) (pss_one (ps_ret (pe_lc (own := [("one", 4)]) rfl sc_h_names_in.nd (pilK K (pv 3)) (blkOk_by (N := ["self", "parent", "but", "some", "one"]) (sc := defScope s_h_names_in) (by decide +kernel)) (fun _ _ _ _ _ => (pg_name (i := 4) sc_h_names_in.nd rfl (Or.inl rfl))) (fun _ _ _ _ _ => (pts_one (pt_cmpR op_eq (pe_ix (ixtK K) (pe_dget (hu_of hr) (fldK K (pv 0)) (pv 4) (fun _ _ => rfl)) pe_int (fun _ _ => rfl)) (pv 1) (nomark _)))) (fun _ _ _ _ _ => (pe_ix (ixtK K) (pe_dget (hu_of hr) (fldK K (pv 0)) (pv 4) (fun _ _ => rfl)) pe_int (fun _ _ => rfl))))))), ?_⟩
  obtain ⟨a, S, par, but, rfl, h, wf, k⟩ := h
  obtain ⟨kvs, hr, hk⟩ := h.rowsx
  have ln := wf.klen
  refine q_asgLk (en_lcK (fun n => S.there n && !decide (some n = but)) D.int hr hk (fun od => e_rows T (h.lock hr od) (ev_vr rfl)) (by omega) (fun _ _ => rfl) (fun _ => rfl) fun n hn od H1 s => ⟨?_, fun _ => ev_var rfl (.int n)⟩) fun p vs H1 hp s hl as => ?_
  · exact (et_and (et_trB (e_is_there ((h.lock hr od).mono s) (ev_vr rfl) (ev_var rfl (.int n)))) fun _ => et_test (ev_ne (a := some n) (b := but) (ev_var rfl (.int n)) (ev_vo rfl)))
  · have h1 := h.mono s
    have hm : ∀ x ∈ (S.keys.filter fun n => S.there n && !decide (some n = but)), S.get x = some (S.rw x) := fun x hx => get_rw (List.mem_filter.mp hx).1
    refine s_retN ((en_lc (S.keys.filter fun n => S.there n && !decide (some n = but)) D.int (fun n => decide ((S.rw n).par = par)) (fun n => .str (S.rw n).nm) (ev_var rfl (.lst hl as)) (Nat.le_trans (List.length_filter_le _ _) (by omega)) (fun _ _ => rfl) (fun _ => rfl) fun x hx v H2 s2 av => ?_).is ?_) (k.mono s)
    · cases av
      exact ⟨et_test (ev_eq (e_par T (h1.mono s2).rd (hm x hx) (ev_vr rfl) (ev_var rfl (.int x))) (ev_vo rfl)), fun _ => e_nm T (h1.mono s2).rd (hm x hx) (ev_vr rfl) (ev_var rfl (.int x))⟩
    · rw [← names_keys wf.nd, List.map_map]; rfl
theorem en_names_in (h : HouseAt (cH K) H a S) (wf : S.Wf) {par but : Option Int} (ho : EvD ta σ H (.ref a.p)) (hn : EvD te σ H (oi par)) (hb : EvD tb σ H (oi but)) : EvN (tMethR (cH K) "names_in" (sp_h_names_in K) E ta (tCons te (tCons tb tNil))) σ H ((S.names par but).map D.str) :=
  en_meth h.ins (by kernel_rfl) ho (ea_cons hn (ea_cons hb ea_nil)) fun vs H1 s as Q q => by
    cases as with | cons a1 as => cases as with | cons a2 as => cases as; cases at_oi' a1; cases at_oi' a2; exact ⟨a, S, par, but, rfl, h.mono s, wf, q⟩
/-! ### must_be_free -/
def sp_h_must_be_free (K : PySem.W.Frag) : Sp := fun vs H Q E => ∃ (a : HA) (S : Stt) (par : Option Int) (nm : Str) (but : Option Int), vs = [.ref a.p, oiV par, .str nm, oiV but] ∧ HouseAt (cH K) H a S ∧ S.Wf ∧ (nm ∉ S.names par but → RetD .non H Q) ∧ (nm ∈ S.names par but → RaiE (cE K Kd.taken.nm) H E)
theorem sc_h_must_be_free : FnScope ["self", "parent", "name", "but"] ["self", "parent", "name", "but"] (defScope s_h_must_be_free) := ⟨rfl, rfl, rfl, by decide +kernel, rfl, by decide +kernel, by decide +kernel⟩
theorem ok_h_must_be_free (T : Tx K mg) : FnR P w K mg base (L2.CX P w) 3 (He.ma K (cH K) "must_be_free") (sp_h_must_be_free K) := by
  refine fnr (F_h_must_be_free T) sc_h_must_be_free (fun _ _ _ _ _ _ us hl => match us, hl with | [_, _, _, _], _ => rfl) (fun vs H Q E h => by obtain ⟨_, _, _, _, _, rfl, _⟩ := h; rfl) (fun cdv A outer s H vs Q E hr h => ?_)
  refine ⟨_, (pss_one (ps_if (pt_cmpR (inK K) (pv 2) (pe_methR (pv 0) (T_cls T) (T_h_names_in T) (ok_h_names_in T) (hr.mono (by decide)) passL (pa_cons (pv 1) (pa_cons (pv 3) pa_nil))) rfl) (pss_one (ps_raise rfl (takes_of rfl rfl rfl rfl) (pmk_own PySem.F.excBase_ValueError (T_Taken T).x (T_Taken T).g (T_Taken T).k (raises_own (T_Taken T).b (T_Taken T).t) rfl))) pss_nil)), ?_⟩
  obtain ⟨a, S, par, nm, but, rfl, h, wf, k1, k2⟩ := h
  refine s_if (et_test (ev_inS (ev_vs rfl) (en_names_in h wf (ev_vr rfl) (ev_vo rfl) (ev_vo rfl)).toD)) (fun b H1 s => ?_) fun b H1 s => ?_
  · exact k2 (of_decide_eq_true b) H1 s
  · exact k1 (of_decide_eq_false b) _ H1 s .non
theorem m_must_be_free {u : TS} {De : Ends} (h : HouseAt (cH K) H a S) (wf : S.Wf) {par but : Option Int} {nm : Str} (ho : EvD ta σ H (.ref a.p)) (hn : EvD te σ H (oi par)) (hm : EvD tx σ H (.str nm)) (hb : EvD tb σ H (oi but)) (k2 : nm ∈ S.names par but → RaiE (cE K Kd.taken.nm) H E)
    (k1 : nm ∉ S.names par but → ∀ H1, Same H H1 → u De σ H1) : tSeq (tDrop (tMethR (cH K) "must_be_free" (sp_h_must_be_free K) E ta (tCons te (tCons tx (tCons tb tNil))))) u De σ H :=
  c_meth h.ins (by kernel_rfl) ho (ea_cons hn (ea_cons hm (ea_cons hb ea_nil))) fun vs H1 s as => by
    cases as with | cons a1 as => cases as with | cons a2 as => cases as with | cons a3 as => cases as; cases at_oi' a1; cases a2; cases at_oi' a3; exact ⟨a, S, par, nm, but, rfl, h.mono s, wf, fun b v H2 s2 _ => k1 b H2 (s.trans s2), fun b => (k2 b).mono s⟩
/-! ### row -/
theorem ev_catT {σ : L2.St} {H : Hp} {ds es : List D} {ta tb : TE} (ha : EvD ta σ H (.tup ds)) (hb : EvD tb σ H (.tup es)) (hn : ds ≠ []) (hl : ds.length + es.length ≤ 10000000) : EvD (tOp (rCatT K) ta tb) σ H (.tup (ds ++ es)) :=
  ev_op ha hb fun x y H1 _ ax ay Q q => by
    cases ax with
    | tup hp hs => cases ay with
      | tup hp2 hs2 =>
        refine ⟨_, _, _, _, rfl, rfl, SqT.of hp, SqT.of hp2, by intro z; subst z; cases hs; exact hn rfl, by rw [← hs.length, ← hs2.length]; exact sz_of hl, fun z => ?_, fun _ p hp3 => q _ _ (Same.new hp3) (.tup upd_same ((hs.mono (Same.new hp3)).app (hs2.mono (Same.new hp3))))⟩
        subst z
        cases hs2
        refine q _ H1 (Same.refl H1) ?_
        rw [List.append_nil]
        exact .tup hp hs
def sp_h_row (K : PySem.W.Frag) : Sp := fun vs H Q _ => ∃ (a : HA) (S : Stt) (n : Int) (r : Rw), vs = [.ref a.p, .int n] ∧ HouseRd (cH K) H a S ∧ S.get n = some r ∧ RetD (rowD n r) H Q
theorem sc_h_row : FnScope ["self", "number"] ["self", "number"] (defScope s_h_row) := ⟨rfl, rfl, rfl, by decide +kernel, rfl, by decide +kernel, by decide +kernel⟩
theorem ok_h_row (T : Tx K mg) : FnR P w K mg base (L2.CX P w) 1 (He.ma K (cH K) "row") (sp_h_row K) := by
  refine fnr (F_h_row T) sc_h_row (fun _ _ _ _ _ _ us hl => match us, hl with | [_, _], _ => rfl) (fun vs H Q E h => by obtain ⟨_, _, _, _, rfl, _⟩ := h; rfl) (fun cdv A outer s H vs Q E hr h => ?_)
  refine ⟨_, PSs.nox (pss_one (ps_ret (pe_op (catTK K) (pe_tup (pa_cons (pv 1) pa_nil)) (pe_dget (hu_of hr) (fldK K (pv 0)) (pv 1) (fun _ _ => rfl))))), ?_⟩
  obtain ⟨a, S, n, r, rfl, h, hr, k⟩ := h
  exact s_ret (ev_catT (ev_tup (ea_cons (ev_vi rfl) ea_nil) le_lit) (e_row T h hr (ev_vr rfl) (ev_vi rfl)) (by intro z; cases z) le_lit) k
theorem e_rowM (h : HouseRd (cH K) H a S) {n : Int} {r : Rw} (e : S.get n = some r) (ho : EvD ta σ H (.ref a.p)) (hn : EvD te σ H (.int n)) : EvD (tMethR (cH K) "row" (sp_h_row K) E ta (tCons te tNil)) σ H (rowD n r) :=
  ev_meth h.ins (by kernel_rfl) ho (ea_cons hn ea_nil) fun vs H1 s as Q q => by
    cases as with | cons a1 as => cases as; cases a1; exact ⟨a, S, n, r, rfl, h.mono s, e, q⟩
/-! ### things -/
theorem en_srtD {rr : Addr} {l : List (Int × D)} {ms : List Int} (h : IDict H rr l) (hz : l.length < 64) (hu : ∀ out : List Int, out.Perm (l.map (·.1)) → out.Pairwise (· ≤ ·) → out = ms) (hd : EvD td σ H (.ref rr)) :
    EvN (tCB (fun xs H Q => ∃ (a : Addr) (kvs : List (Key × V)) (ks : List Int), xs = [.ref a] ∧ Rd H a (.dK kvs) ∧ kvs.map (·.1) = ks.map Sum.inl ∧ ks.length < 64 ∧ ∀ (ys : List Int) (p : Addr), ys.Perm ks → ys.Pairwise (· ≤ ·) → H p = none → Q (.ref p) (upd H p (.lst (ys.map V.int)))) (tCons td tNil)) σ H (ms.map D.int) :=
  en_cb (ea_cons hd ea_nil) fun vs H1 s as Q q => by
    cases as with
    | cons a as =>
      cases as; cases a
      obtain ⟨kvs, hr, hk⟩ := h.mono s
      refine ⟨rr, kvs, _, rfl, hr, hk.keys, by rw [List.length_map]; exact hz, fun ys p h1 h2 hp => ?_⟩
      have e := hu ys h1 h2
      subst e
      exact q p _ _ hp (Same.new hp) upd_same (ats_ints _)
theorem en_srtRows (T : Tx K mg) (h : HouseRd (cH K) H a S) (wf : S.Wf) (ho : EvD ta σ H (.ref a.p)) :
    EvN (tCB (fun xs H Q => ∃ (a : Addr) (kvs : List (Key × V)) (ks : List Int), xs = [.ref a] ∧ Rd H a (.dK kvs) ∧ kvs.map (·.1) = ks.map Sum.inl ∧ ks.length < 64 ∧ ∀ (ys : List Int) (p : Addr), ys.Perm ks → ys.Pairwise (· ≤ ·) → H p = none → Q (.ref p) (upd H p (.lst (ys.map V.int)))) (tCons (tFld K ta "rows") tNil)) σ H (S.keys.map D.int) :=
  en_srtD h.rows (by unfold rows3; rw [List.length_map]; exact wf.few) (fun out h1 h2 => sort_keys wf (by rw [keys3] at h1; exact h1) h2) (e_rows T h ho)
def sp_h_things (K : PySem.W.Frag) : Sp := fun vs H Q _ => ∃ (a : HA) (S : Stt), vs = [.ref a.p] ∧ HouseRd (cH K) H a S ∧ S.Wf ∧ RetD (.tup S.thingsL) H Q
theorem sc_h_things : FnScope ["self", "number"] ["self"] (defScope s_h_things) := ⟨rfl, rfl, rfl, by decide +kernel, rfl, by decide +kernel, by decide +kernel⟩
theorem ok_h_things (T : Tx K mg) : FnR P w K mg base (L2.CX P w) 2 (He.ma K (cH K) "things") (sp_h_things K) := by
  refine fnr (F_h_things T) sc_h_things (fun _ _ _ _ _ _ us hl => match us, hl with | [_], _ => rfl) (fun vs H Q E h => by obtain ⟨_, _, rfl, _⟩ := h; rfl) (fun cdv A outer s H vs Q E hr h => ?_)
  refine ⟨_, PSs.nox (pss_one (ps_ret (pe_callTy (tupOfK K) rfl (T_tuple T) bt_tuple (pa_cons (pe_lc (own := [("number", 1)]) rfl sc_h_things.nd (pilK K (pe_callB (call_sortedDI rfl) rfl (T_sorted T) bt_sorted (pa_cons (fldK K (pv 0)) pa_nil))) (blkOk_by (N := ["self", "number"]) (sc := defScope s_h_things) (by decide +kernel)) (fun _ _ _ _ _ => (pg_name (i := 1) sc_h_things.nd rfl (Or.inl rfl))) (fun _ _ _ _ _ => (pts_one (truK K (pe_methR (pv 0) (T_cls T) (T_h_is_there T) (ok_h_is_there T) (hr.mono (by decide)) passL (pa_cons (pv 1) pa_nil))))) (fun _ _ _ _ _ => (pe_methR (pv 0) (T_cls T) (T_h_row T) (ok_h_row T) (hr.mono (by decide)) passL (pa_cons (pv 1) pa_nil)))) pa_nil)))), ?_⟩
  obtain ⟨a, S, rfl, h, wf, k⟩ := h
  have ln := wf.klen
  refine s_ret ((ev_tupOf (en_lc S.keys D.int S.there (fun n => rowD n (S.rw n)) (en_srtRows T h wf (ev_vr rfl)).toD (by omega) (fun n _ => rowD_nl _ _) (fun _ => rfl) fun n hn v H1 s av => ?_).toD).is ?_) k
  · cases av
    exact ⟨et_trB (e_is_there (h.mono s) (ev_vr rfl) (ev_var rfl (.int n))), fun _ => e_rowM (h.mono s) (get_rw hn) (ev_vr rfl) (ev_var rfl (.int n))⟩
  · exact congrArg D.tup (keys_rows wf.nd _ _ _ _ (fun p hp => there_row wf.nd hp) fun p hp => by rw [rw_row wf.nd hp])
theorem e_things (h : HouseRd (cH K) H a S) (wf : S.Wf) (ho : EvD ta σ H (.ref a.p)) : EvD (tMethF0 (cH K) "things" (sp_h_things K) E ta) σ H (.tup S.thingsL) :=
  ev_meth0 h.ins (by kernel_rfl) ho fun H1 s Q q => ⟨a, S, rfl, h.mono s, wf, q⟩
/-! ### signs_of, used -/
def sp_h_signs_of (K : PySem.W.Frag) : Sp := fun vs H Q _ => ∃ (a : HA) (S : Stt) (l : Addr) (ns : List Int), vs = [.ref a.p, .ref l] ∧ HouseRd (cH K) H a S ∧ S.Wf ∧ LAt H l (ns.map D.int) ∧ (∀ n ∈ ns, n ∈ S.keys) ∧ ns.length ≤ 1000000 ∧ RetD (.int (ns.map fun n => Stt.txLen (S.rw n)).sum) H Q
theorem sum_filter (f : Int → Bool) (g : Int → Int) (h : ∀ n, f n = false → g n = 0) : ∀ l : List Int, ((l.filter f).map g).sum = (l.map g).sum
  | [] => rfl
  | n :: l => by
    rw [List.filter_cons, List.map_cons, List.sum_cons, ← sum_filter f g h l]
    cases q : f n with
    | true => rfl
    | false => rw [h n q, Int.zero_add]; rfl
theorem sc_h_signs_of : FnScope ["self", "numbers", "number"] ["self", "numbers"] (defScope s_h_signs_of) := ⟨rfl, rfl, rfl, by decide +kernel, rfl, by decide +kernel, by decide +kernel⟩
theorem ok_h_signs_of (T : Tx K mg) : FnR P w K mg base (L2.CX P w) 1 (He.ma K (cH K) "signs_of") (sp_h_signs_of K) := by
  refine fnr (F_h_signs_of T) sc_h_signs_of (fun _ _ _ _ _ _ us hl => match us, hl with | [_, _], _ => rfl) (fun vs H Q E h => by obtain ⟨_, _, _, _, rfl, _⟩ := h; rfl) (fun cdv A outer s H vs Q E hr h => ?_)
  refine ⟨_, PSs.nox (pss_one (ps_ret (pe_callB (sumK K) rfl (T_sum T) bt_sum (pa_cons (pe_lc (own := [("number", 2)]) rfl sc_h_signs_of.nd (pilK K (pv 1)) (blkOk_by (N := ["self", "numbers", "number"]) (sc := defScope s_h_signs_of) (by decide +kernel)) (fun _ _ _ _ _ => (pg_name (i := 2) sc_h_signs_of.nd rfl (Or.inl rfl))) (fun _ _ _ _ _ => (pts_one (pt_cmpR op_notN (pe_ix (ixtK K) (pe_dget (hu_of hr) (fldK K (pv 0)) (pv 2) (fun _ _ => rfl)) pe_int (fun _ _ => rfl)) pe_non (nomark _)))) (fun _ _ _ _ _ => (pe_callB lenStrK rfl (T_len T) bt_len (pa_cons (pe_ix (ixtK K) (pe_dget (hu_of hr) (fldK K (pv 0)) (pv 2) (fun _ _ => rfl)) pe_int (fun _ _ => rfl)) pa_nil)))) pa_nil)))), ?_⟩
  obtain ⟨a, S, l, ns, rfl, h, wf, hl, hm, hz, k⟩ := h
  refine s_ret ((ev_sum (ns := (ns.filter fun n => (S.rw n).tx.isSome).map fun n => Stt.txLen (S.rw n)) ((en_lc ns D.int (fun n => (S.rw n).tx.isSome) (fun n => .int (Stt.txLen (S.rw n))) (ev_var rfl hl.at) hz (fun _ _ => rfl) (fun _ => rfl) fun n hn v H1 s av => ?_).toD.is (by rw [List.map_map]; rfl))).is ?_) k
  · cases av
    have er := get_rw (hm n hn)
    refine ⟨(et_test (ev_notN (e_tx T (h.mono s) er (ev_vr rfl) (ev_var rfl (.int n))))).is (by rw [os_isN]; cases (S.rw n).tx <;> rfl), fun b => ?_⟩
    obtain ⟨t, ht⟩ := Option.isSome_iff_exists.mp b
    have z := e_tx T (h.mono s) er (ev_vr rfl) (ev_var rfl (.int n)) (σ := ([some (.ref a.p), some (.ref l), some (.int n)] : L2.St)) (ta := tVar 0) (te := tVar 2)
    rw [ht] at z
    refine (ev_lenS z ?_).is (by unfold Stt.txLen; rw [ht])
    exact Nat.le_trans (wf.txl _ (row_get er) t ht) (by decide)
  · exact congrArg D.int (sum_filter _ _ (fun n q => by unfold Stt.txLen; rw [Option.isSome_eq_false_iff, Option.isNone_iff_eq_none] at q; rw [q]) ns)
theorem e_signs_of {ns : List Int} (h : HouseRd (cH K) H a S) (wf : S.Wf) (ho : EvD ta σ H (.ref a.p)) (hn : EvD te σ H (.lst (ns.map D.int))) (hm : ∀ n ∈ ns, n ∈ S.keys) (hz : ns.length ≤ 1000000) :
    EvD (tMethR (cH K) "signs_of" (sp_h_signs_of K) E ta (tCons te tNil)) σ H (.int (ns.map fun n => Stt.txLen (S.rw n)).sum) :=
  ev_meth h.ins (by kernel_rfl) ho (ea_cons hn ea_nil) fun vs H1 s as Q q => by
    cases as with | cons a1 as => cases as; cases a1 with | lst hp hs => exact ⟨a, S, _, ns, rfl, h.mono s, wf, ⟨_, hp, hs⟩, hm, hz, q⟩
theorem used_keys (wf : S.Wf) : (S.keys.map fun n => Stt.txLen (S.rw n)).sum = S.used := by
  have z := keys_rows (S := S) (β := Int) wf.nd (fun _ => true) (fun n => Stt.txLen (S.rw n)) (fun _ => true) (fun p => Stt.txLen p.2) (fun _ _ => rfl) (fun p hp => by rw [rw_row wf.nd hp])
  rw [List.filter_eq_self.mpr (by simp), List.filter_eq_self.mpr (by simp)] at z
  rw [z]; rfl
def sp_h_used (K : PySem.W.Frag) : Sp := fun vs H Q _ => ∃ (a : HA) (S : Stt), vs = [.ref a.p] ∧ HouseRd (cH K) H a S ∧ S.Wf ∧ RetD (.int S.used) H Q
theorem sc_h_used : FnScope ["self"] ["self"] (defScope s_h_used) := ⟨rfl, rfl, rfl, by decide +kernel, rfl, by decide +kernel, by decide +kernel⟩
theorem ok_h_used (T : Tx K mg) : FnR P w K mg base (L2.CX P w) 2 (He.ma K (cH K) "used") (sp_h_used K) := by
  refine fnr (F_h_used T) sc_h_used (fun _ _ _ _ _ _ us hl => match us, hl with | [_], _ => rfl) (fun vs H Q E h => by obtain ⟨_, _, rfl, _⟩ := h; rfl) (fun cdv A outer s H vs Q E hr h => ?_)
  refine ⟨_, PSs.nox (pss_one (ps_ret (pe_methR (pv 0) (T_cls T) (T_h_signs_of T) (ok_h_signs_of T) (hr.mono (by decide)) passL (pa_cons (pe_callTy (call_listD rfl) rfl (T_list T) bt_list (pa_cons (fldK K (pv 0)) pa_nil)) pa_nil)))), ?_⟩
  obtain ⟨a, S, rfl, h, wf, k⟩ := h
  have ln := wf.klen
  refine s_ret ((e_signs_of (ns := S.keys) h wf (ev_vr rfl) ((en_listD h.rows (e_rows T h (ev_vr rfl))).toD.is (by rw [keys3])) (fun _ q => q) (by omega)).is (by rw [used_keys wf])) k
theorem e_used (h : HouseRd (cH K) H a S) (wf : S.Wf) (ho : EvD ta σ H (.ref a.p)) : EvD (tMethF0 (cH K) "used" (sp_h_used K) E ta) σ H (.int S.used) :=
  ev_meth0 h.ins (by kernel_rfl) ho fun H1 s Q q => ⟨a, S, rfl, h.mono s, wf, q⟩
/-! ### day -/
def sp_h_day (K : PySem.W.Frag) : Sp := fun vs H Q _ => ∃ (a : HA) (S : Stt), vs = [.ref a.p] ∧ HouseRd (cH K) H a S ∧ RetD (.int S.day) H Q
theorem sc_h_day : FnScope ["self"] ["self"] (defScope s_h_day) := ⟨rfl, rfl, rfl, by decide +kernel, rfl, by decide +kernel, by decide +kernel⟩
theorem ok_h_day (T : Tx K mg) : FnR P w K mg base (L2.CX P w) 1 (He.ma K (cH K) "day") (sp_h_day K) := by
  refine fnr (F_h_day T) sc_h_day (fun _ _ _ _ _ _ us hl => match us, hl with | [_], _ => rfl) (fun vs H Q E h => by obtain ⟨_, _, rfl, _⟩ := h; rfl) (fun cdv A outer s H vs Q E hr h => ?_)
  refine ⟨_, PSs.nox (pss_one (ps_ret (fldK K (pv 0)))), ?_⟩
  obtain ⟨a, S, rfl, h, k⟩ := h
  exact s_ret (e_today T h (ev_vr rfl)) k
theorem e_day (h : HouseRd (cH K) H a S) (ho : EvD ta σ H (.ref a.p)) : EvD (tMethF0 (cH K) "day" (sp_h_day K) E ta) σ H (.int S.day) :=
  ev_meth0 h.ins (by kernel_rfl) ho fun H1 s Q q => ⟨a, S, rfl, h.mono s, q⟩
/-! ### used_pairs, ties, comers -/
def sp_h_used_pairs (K : PySem.W.Frag) : Sp := fun vs H Q _ => ∃ (a : HA) (S : Stt), vs = [.ref a.p] ∧ HouseRd (cH K) H a S ∧ S.Wf ∧ RetL (S.livePairs.map pairD) H Q
theorem sc_h_used_pairs : FnScope ["self", "pair"] ["self"] (defScope s_h_used_pairs) := ⟨rfl, rfl, rfl, by decide +kernel, rfl, by decide +kernel, by decide +kernel⟩
theorem ok_h_used_pairs (T : Tx K mg) : FnR P w K mg base (L2.CX P w) 2 (He.ma K (cH K) "used_pairs") (sp_h_used_pairs K) := by
  refine fnr (F_h_used_pairs T) sc_h_used_pairs (fun _ _ _ _ _ _ us hl => match us, hl with | [_], _ => rfl) (fun vs H Q E h => by obtain ⟨_, _, rfl, _⟩ := h; rfl) (fun cdv A outer s H vs Q E hr h => ?_)
  refine ⟨_, PSs.nox (pss_one (ps_ret (pe_lc (own := [("pair", 1)]) rfl sc_h_used_pairs.nd (pilK K (fldK K (pv 0))) (blkOk_by (N := ["self", "pair"]) (sc := defScope s_h_used_pairs) (by decide +kernel)) (fun _ _ _ _ _ => (pg_name (i := 1) sc_h_used_pairs.nd rfl (Or.inl rfl))) (fun _ _ _ _ _ => (pts_one (PW.pt (pw_and (truK K (pe_methR (pv 0) (T_cls T) (T_h_is_there T) (ok_h_is_there T) (hr.mono (by decide)) passL (pa_cons (pe_ix (ixtK K) (pv 1) pe_int (fun _ _ => rfl)) pa_nil))) (pw_and1 (truK K (pe_methR (pv 0) (T_cls T) (T_h_is_there T) (ok_h_is_there T) (hr.mono (by decide)) passL (pa_cons (pe_ix (ixtK K) (pv 1) pe_int (fun _ _ => rfl)) pa_nil)))))))) (fun _ _ _ _ _ => (pv 1))))), ?_⟩
  obtain ⟨a, S, rfl, h, wf, k⟩ := h
  have ln := wf.tl
  refine s_retN (en_lc S.ties pairD (fun p => S.there p.1 && S.there p.2) pairD (e_pairs T h (ev_vr rfl)) (by omega) (fun p _ => pairD_nl p) (fun _ => rfl) fun p hp v H1 s av => ?_) k
  refine ⟨(et_and (et_trB (e_is_there (h.mono s) (ev_vr rfl) (ev_ixT (k := 0) (ev_var rfl av) rfl))) fun _ => et_trB (e_is_there (h.mono s) (ev_vr rfl) (ev_ixT (k := 1) (ev_var rfl av) rfl))), fun _ => ev_var rfl av⟩
theorem en_used_pairs (h : HouseRd (cH K) H a S) (wf : S.Wf) (ho : EvD ta σ H (.ref a.p)) : EvN (tMethF0 (cH K) "used_pairs" (sp_h_used_pairs K) E ta) σ H (S.livePairs.map pairD) :=
  en_meth0 h.ins (by kernel_rfl) ho fun H1 s Q q => ⟨a, S, rfl, h.mono s, wf, q⟩
theorem live_len (wf : S.Wf) : S.livePairs.length ≤ 1000000 := by
  have := wf.tl
  exact Nat.le_trans (List.length_filter_le _ _) (by omega)
def sp_h_ties (K : PySem.W.Frag) : Sp := fun vs H Q E => ∃ (a : HA) (S : Stt) (n : Int), vs = [.ref a.p, .int n] ∧ HouseRd (cH K) H a S ∧ S.Wf ∧ (S.there n = true → RetD (.tup ((S.tiesL n).map D.int)) H Q) ∧ (S.there n = false → RaiE (cE K Kd.noThing.nm) H E)
theorem sc_h_ties : FnScope ["self", "number", "one", "other"] ["self", "number"] (defScope s_h_ties) := ⟨rfl, rfl, rfl, by decide +kernel, rfl, by decide +kernel, by decide +kernel⟩
theorem ok_h_ties (T : Tx K mg) : FnR P w K mg base (L2.CX P w) 3 (He.ma K (cH K) "ties") (sp_h_ties K) := by
  refine fnr (F_h_ties T) sc_h_ties (fun _ _ _ _ _ _ us hl => match us, hl with | [_, _], _ => rfl) (fun vs H Q E h => by obtain ⟨_, _, _, rfl, _⟩ := h; rfl) (fun cdv A outer s H vs Q E hr h => ?_)
  refine ⟨_, (pss_cons (ps_expr (pe_methR (pv 0) (T_cls T) (T_h_must T) (ok_h_must T) (hr.mono (by decide)) (passes_call (takes_of rfl rfl rfl rfl) (fun _ _ _ _ z => z)) (pa_cons (pv 1) pa_nil))) (pss_one (ps_ret (pe_callTy (tupOfK K) rfl (T_tuple T) bt_tuple (pa_cons (pe_callB (srtK K) rfl (T_sorted T) bt_sorted (pa_cons (pe_lc (own := [("one", 2), ("other", 3)]) rfl sc_h_ties.nd (pilK K (pe_methF0 (pv 0) (T_cls T) (T_h_used_pairs T) (ok_h_used_pairs T) (hr.mono (by decide)) passL)) (blkOk_by (N := ["self", "number", "one", "other"]) (sc := defScope s_h_ties) (by decide +kernel)) (fun _ _ _ _ _ => (gtupK K (n := 2) rfl (pgs_cons (pg_name (i := 2) sc_h_ties.nd rfl (Or.inl rfl)) (pgs_cons (pg_name (i := 3) sc_h_ties.nd rfl (Or.inl rfl)) pgs_nil)))) (fun _ _ _ _ _ => (pts_one (pt_cmpR op_eq (pv 2) (pv 1) (nomark _)))) (fun _ _ _ _ _ => (pv 3))) pa_nil)) pa_nil))))), ?_⟩
  obtain ⟨a, S, n, rfl, h, wf, k1, k2⟩ := h
  refine m_must h (ev_vr rfl) (ev_vi rfl) k2 fun b H1 s => ?_
  have h1 := h.mono s
  refine s_ret (ev_tupOf (ev_srtI (ns := (S.livePairs.filter fun p : Int × Int => decide (p.1 = n)).map fun p : Int × Int => p.2) ((en_lc2 S.livePairs (fun p => .int p.1) (fun p => .int p.2) (fun p => decide (p.1 = n)) (fun p => .int p.2) (en_used_pairs h1 wf (ev_vr rfl)).toD (live_len wf) (fun _ _ => rfl) (fun _ _ => rfl) fun p hp v w H2 s2 av aw => ?_).toD.is (by rw [List.map_map]; rfl)) fun out o1 o2 => sortI_unique o1 o2).toD) ((k1 b).mono s)
  cases av; cases aw
  exact ⟨et_test (ev_eqI (ev_var rfl (.int p.1)) (ev_vi rfl)), fun _ => ev_var rfl (.int p.2)⟩
/-! ### bundle, inner, shelf -/
theorem castNos (S : Stt) : (S.casts.filter fun _ => true).map (fun c => D.int c.1) = (S.casts.map (·.1)).map D.int := by rw [List.filter_eq_self.mpr (by simp), List.map_map]; rfl
theorem sh_keys {l : List (Int × D)} (sh : ShOk S l) (wf : S.Wf) {n : Int} : ((l.map (·.1)).filter fun x => decide (S.mark x = some n)).Perm (S.bundleL n) := by
  refine (List.perm_ext_iff_of_nodup (sh.nd.filter _) (wf.nd.filter _)).mpr fun x => ?_
  simp only [List.mem_filter]
  refine ⟨fun ⟨_, b⟩ => ⟨?_, b⟩, fun ⟨_, b⟩ => ⟨?_, b⟩⟩
  · have e := of_decide_eq_true b
    unfold Stt.mark at e
    cases q : S.get x with
    | none => rw [q] at e; cases e
    | some r => exact key_get q
  · have e := of_decide_eq_true b
    exact lookup_mem.mp (by rw [sh.look, e]; rfl)
theorem sh_len {l : List (Int × D)} (sh : ShOk S l) (wf : S.Wf) : l.length < 64 := by
  have h : (l.map (·.1)).length ≤ S.keys.length := by
    refine nd_len sh.nd fun x hx => ?_
    obtain ⟨d, hd⟩ := Option.isSome_iff_exists.mp (lookup_mem.mpr hx)
    rw [sh.look] at hd
    unfold Stt.mark at hd
    cases q : S.get x with
    | none => rw [q] at hd; cases hd
    | some r => exact key_get q
  rw [List.length_map] at h
  exact Nat.lt_of_le_of_lt h wf.klen
def sp_h_bundle (K : PySem.W.Frag) : Sp := fun vs H Q E => ∃ (a : HA) (S : Stt) (n : Int), vs = [.ref a.p, .int n] ∧ HouseRd (cH K) H a S ∧ S.Wf ∧ (n ∈ S.casts.map (·.1) → RetL ((S.bundleL n).map D.int) H Q) ∧ (n ∉ S.casts.map (·.1) → RaiE (cE K Kd.noCast.nm) H E)
theorem sc_h_bundle : FnScope ["self", "number", "one", "day"] ["self", "number"] (defScope s_h_bundle) := ⟨rfl, rfl, rfl, by decide +kernel, rfl, by decide +kernel, by decide +kernel⟩
theorem ok_h_bundle (T : Tx K mg) : FnR P w K mg base (L2.CX P w) 1 (He.ma K (cH K) "bundle") (sp_h_bundle K) := by
  refine fnr (F_h_bundle T) sc_h_bundle (fun _ _ _ _ _ _ us hl => match us, hl with | [_, _], _ => rfl) (fun vs H Q E h => by obtain ⟨_, _, _, rfl, _⟩ := h; rfl) (fun cdv A outer s H vs Q E hr h => ?_)
  refine ⟨_, (pss_cons (ps_if (pt_cmpR (niK K) (pv 1) (pe_lc (own := [("one", 2), ("day", 3)]) rfl sc_h_bundle.nd (pilK K (fldK K (pv 0))) (blkOk_by (N := ["self", "number", "one", "day"]) (sc := defScope s_h_bundle) (by decide +kernel)) (fun _ _ _ _ _ => (gtupK K (n := 2) rfl (pgs_cons (pg_name (i := 2) sc_h_bundle.nd rfl (Or.inl rfl)) (pgs_cons (pg_name (i := 3) sc_h_bundle.nd rfl (Or.inl rfl)) pgs_nil)))) (fun _ _ _ _ _ => pts_nil) (fun _ _ _ _ _ => (pv 2))) rfl) (pss_one (ps_raise rfl (takes_of rfl rfl rfl rfl) (pmk_own PySem.F.excBase_ValueError (T_NoCast T).x (T_NoCast T).g (T_NoCast T).k (raises_own (T_NoCast T).b (T_NoCast T).t) rfl))) pss_nil) (pss_one (ps_ret (pe_lc (own := [("one", 2)]) rfl sc_h_bundle.nd (pilK K (pe_callB (call_sortedDI rfl) rfl (T_sorted T) bt_sorted (pa_cons (fldK K (pv 0)) pa_nil))) (blkOk_by (N := ["self", "number", "one", "day"]) (sc := defScope s_h_bundle) (by decide +kernel)) (fun _ _ _ _ _ => (pg_name (i := 2) sc_h_bundle.nd rfl (Or.inl rfl))) (fun _ _ _ _ _ => (pts_one (pt_cmpR op_eq (pe_dget (hu_of hr) (fldK K (pv 0)) (pv 2) (fun _ _ => rfl)) (pv 1) (nomark _)))) (fun _ _ _ _ _ => (pv 2)))))), ?_⟩
  obtain ⟨a, S, n, rfl, h, wf, k1, k2⟩ := h
  have lc := wf.cl
  refine q_if (et_test (ev_niInt (l := S.casts.map (·.1)) (ev_vi rfl) ((en_lc2 S.casts (fun p => .int p.1) (fun p => .int p.2) (fun _ => true) (fun p => .int p.1) (e_casts T h (ev_vr rfl)) (by omega) (fun _ _ => rfl) (fun _ _ => rfl) fun p hp v w H2 s2 av aw => ⟨fun H3 _ Q q => q H3 (Same.refl H3), fun _ => ev_var rfl av⟩).toD.is (by rw [castNos])))) (fun b H1 s => ?_) fun b H1 s => ?_
  · exact k2 (by simpa using b) H1 s
  · have hm : n ∈ S.casts.map (·.1) := by simpa using b
    have h1 := h.mono s
    obtain ⟨l, hl, sh⟩ := h1.shl
    have ll := sh_len sh wf
    generalize hms : (l.map (·.1)).mergeSort (fun a b : Int => decide (a ≤ b)) = ms
    have pm : ms.Perm (l.map (·.1)) := hms ▸ List.mergeSort_perm _ _
    have pw : ms.Pairwise (· ≤ ·) := by
      have z := List.pairwise_mergeSort (le := fun a b : Int => decide (a ≤ b)) (fun a b c h1 h2 => by simp only [decide_eq_true_eq] at *; omega) (fun a b => by simp only [Bool.or_eq_true, decide_eq_true_eq]; omega) (l.map (·.1))
      rw [hms] at z
      exact z.imp fun h => of_decide_eq_true h
    refine s_retN ((en_lc ms D.int (fun x => decide (S.mark x = some n)) D.int (en_srtD hl ll (fun out o1 o2 => sorted_unique (o1.trans pm.symm) o2 pw) (e_shelved T h1 (ev_vr rfl))).toD (by rw [pm.length_eq, List.length_map]; omega) (fun _ _ => rfl) (fun _ => rfl) fun x hx v H2 s2 av => ?_).is ?_) ((k1 hm).mono s)
    · cases av
      obtain ⟨d, hd⟩ := Option.isSome_iff_exists.mp (lookup_mem.mpr (pm.mem_iff.mp hx))
      have hd2 := hd
      rw [sh.look] at hd2
      cases q : S.mark x with
      | none => rw [q] at hd2; cases hd2
      | some m =>
        rw [q] at hd2; cases hd2
        refine ⟨(et_test (ev_eqI (ev_dget (hl.mono s2) hd (e_shelved T (h1.mono s2) (ev_vr rfl)) (ev_var rfl (.int x))) (ev_vi rfl))).is ?_, fun _ => ev_var rfl (.int x)⟩
        exact decide_eq_decide.mpr (by simp)
    · congr 1
      refine sorted_unique ((pm.filter _).trans (sh_keys sh wf)) (pw.filter _) ((pw_lt_le wf.asc).filter _)
theorem en_bundle (h : HouseRd (cH K) H a S) (wf : S.Wf) {n : Int} (hm : n ∈ S.casts.map (·.1)) (ho : EvD ta σ H (.ref a.p)) (hn : EvD te σ H (.int n)) : EvN (tMethR (cH K) "bundle" (sp_h_bundle K) E ta (tCons te tNil)) σ H ((S.bundleL n).map D.int) :=
  en_meth h.ins (by kernel_rfl) ho (ea_cons hn ea_nil) fun vs H1 s as Q q => by
    cases as with | cons a1 as => cases as; cases a1; exact ⟨a, S, n, rfl, h.mono s, wf, fun _ => q, fun z => absurd hm z⟩
end
end Ho

set_option Elab.async false
set_option linter.all false
set_option maxRecDepth 100000
set_option maxHeartbeats 4000000
/-! M3: the least free name. -/
namespace Ho
open PySem PySem.Spec PyProof.Rows L2
theorem app_cancel {a b c : Str} (h : a ++ b = a ++ c) : b = c := by
  have e : (a.cps ++ b.cps : Array Nat) = a.cps ++ c.cps := congrArg Str.cps h
  have e2 := Array.append_right_inj a.cps |>.mp e
  cases b; cases c; exact congrArg Str.mk e2
theorem num_inj {i j : Nat} (hi : i < 10000000000) (hj : j < 10000000000) (h : Str.ofString (toString ((i : Nat) : Int)) = Str.ofString (toString ((j : Nat) : Int))) : i = j := by
  have a := PySem.W.KIN.num_reads (n := (i : Int)) (by omega) (by omega)
  have b := PySem.W.KIN.num_reads (n := (j : Int)) (by omega) (by omega)
  rw [h, b] at a
  exact (Int.ofNat.inj (Option.some.inj a)).symm
theorem cand_inj {nm : Str} {i j : Nat} (hi : i < 10000000000) (hj : j < 10000000000) (h : cand nm i = cand nm j) : i = j := num_inj hi hj (app_cancel h)
theorem cand_len {nm : Str} {k : Nat} (h : k < 10000000000) : (cand nm k).length ≤ nm.length + 10 := by
  have z := PySem.W.KT.len_num (n := (k : Int)) (by omega) (by omega)
  show (nm.cps ++ (Str.ofString (toString ((k : Nat) : Int))).cps).size ≤ nm.cps.size + 10
  rw [Array.size_append]
  exact Nat.add_le_add_left z _
theorem freeK_spec (nm : Str) (tk : List Str) : ∀ (f k : Nat), (∃ j, k ≤ j ∧ j < k + f ∧ cand nm j ∉ tk) → k ≤ freeK nm tk f k ∧ freeK nm tk f k < k + f ∧ cand nm (freeK nm tk f k) ∉ tk ∧ ∀ j, k ≤ j → j < freeK nm tk f k → cand nm j ∈ tk
  | 0, k, ⟨j, h1, h2, _⟩ => by omega
  | f + 1, k, ⟨j, h1, h2, h3⟩ => by
    unfold freeK
    by_cases c : cand nm k ∈ tk
    · rw [if_pos c]
      have hj : k + 1 ≤ j := by
        rcases Nat.lt_or_eq_of_le h1 with z | z
        · exact z
        · rw [z] at c; exact absurd c h3
      obtain ⟨a1, a2, a3, a4⟩ := freeK_spec nm tk f (k + 1) ⟨j, hj, by omega, h3⟩
      refine ⟨by omega, by omega, a3, fun i i1 i2 => ?_⟩
      rcases Nat.lt_or_eq_of_le i1 with z | z
      · exact a4 i z i2
      · rw [← z]; exact c
    · rw [if_neg c]
      exact ⟨Nat.le_refl _, by omega, c, fun i i1 i2 => by omega⟩
theorem free_ex (nm : Str) (tk : List Str) (hz : tk.length < 1000000) : ∃ j, 2 ≤ j ∧ j < 2 + (tk.length + 1) ∧ cand nm j ∉ tk := by
  refine Classical.byContradiction fun h => ?_
  have all : ∀ j, 2 ≤ j → j < 2 + (tk.length + 1) → cand nm j ∈ tk := fun j a b => Classical.byContradiction fun c => h ⟨j, a, b, c⟩
  have nd : ((List.range (tk.length + 1)).map fun i => cand nm (i + 2)).Nodup := by
    rw [List.nodup_iff_pairwise_ne, List.pairwise_map]
    have z := List.nodup_range (n := tk.length + 1)
    rw [List.nodup_iff_pairwise_ne] at z
    refine (List.Pairwise.and_mem.mp z).imp fun ⟨ha, hb, hne⟩ e => ?_
    rw [List.mem_range] at ha hb
    exact hne (by have := cand_inj (by omega) (by omega) e; omega)
  have z := nd_len nd fun x hx => by
    obtain ⟨i, hi, rfl⟩ := List.mem_map.mp hx
    rw [List.mem_range] at hi
    exact all _ (by omega) (by omega)
  rw [List.length_map, List.length_range] at z
  omega
theorem free_spec (nm : Str) (tk : List Str) (hz : tk.length < 1000000) : 2 ≤ freeK nm tk (tk.length + 1) 2 ∧ freeK nm tk (tk.length + 1) 2 < 2 + (tk.length + 1) ∧ cand nm (freeK nm tk (tk.length + 1) 2) ∉ tk ∧ ∀ j, 2 ≤ j → j < freeK nm tk (tk.length + 1) 2 → cand nm j ∈ tk :=
  freeK_spec nm tk _ 2 (free_ex nm tk hz)
theorem freeNm_not (nm : Str) (tk : List Str) (hz : tk.length < 1000000) : freeNm nm tk ∉ tk := by
  unfold freeNm
  by_cases c : nm ∈ tk
  · rw [if_pos c]; exact (free_spec nm tk hz).2.2.1
  · rw [if_neg c]; exact c
theorem freeNm_len (nm : Str) (tk : List Str) (hz : tk.length < 1000000) : (freeNm nm tk).length ≤ nm.length + 10 := by
  unfold freeNm
  by_cases c : nm ∈ tk
  · rw [if_pos c]
    obtain ⟨_, b, _⟩ := free_spec nm tk hz
    exact cand_len (by omega)
  · rw [if_neg c]; omega
/-- the head of the list of free candidates -/
theorem cand_head (nm : Str) (tk : List Str) : ∀ (f k : Nat), (∃ j, k ≤ j ∧ j < k + f ∧ cand nm j ∉ tk) → (((List.range' k f).map (cand nm)).filter fun x => !decide (x ∈ tk))[0]? = some (cand nm (freeK nm tk f k))
  | 0, k, ⟨j, h1, h2, _⟩ => by omega
  | f + 1, k, ⟨j, h1, h2, h3⟩ => by
    unfold freeK
    rw [List.range'_succ, List.map_cons, List.filter_cons]
    by_cases c : cand nm k ∈ tk
    · rw [if_neg (by simp [c]), if_pos c]
      have hj : k + 1 ≤ j := by
        rcases Nat.lt_or_eq_of_le h1 with z | z
        · exact z
        · rw [z] at c; exact absurd c h3
      exact cand_head nm tk f (k + 1) ⟨j, hj, by omega, h3⟩
    · rw [if_pos (by simp [c]), if_neg c]
      rfl
end Ho

set_option Elab.async false
set_option linter.all false
set_option maxRecDepth 100000
set_option maxHeartbeats 4000000
/-! B2: a house is made; what the shelf tells; things are made and called otherwise; free names. -/
namespace Ho
open PySem PySem.Spec PyProof.Rows L2
section
variable {P : Program} {w : World} {K : PySem.W.Frag} {mg : Str → Option Value} {base : Heap} {σ : L2.St} {H H' : Hp} {ta tb te tx td tl : TE} {a : HA} {S : Stt} {E : XK}
/-- all but what stands at p is kept -/
def Ext (p : Addr) (H H' : Hp) : Prop := ∀ b o, b ≠ p → H b = some o → H' b = some o
theorem Ext.trans {p : Addr} {H H1 H2 : Hp} (x : Ext p H H1) (y : Ext p H1 H2) : Ext p H H2 := fun b o n q => y b o n (x b o n q)
theorem Ext.fresh {p : Addr} {H H1 : Hp} (x : Ext p H H1) {b : Addr} (n : b ≠ p) (q : H1 b = none) : H b = none := by
  cases z : H b with
  | none => rfl
  | some o => rw [x b o n z] at q; cases q
theorem ext_upd {p : Addr} {o : HO} {H H1 : Hp} (s : Same H H1) : Ext p H (upd H1 p o) := fun b u n q => by rw [upd_ne n]; exact s b u q
theorem x_fld {C p dx : Addr} {f : Str} {fs : List (Str × V)} {v : V} {d : D} {De : Ends} {tz : TS} (T : Cls K C) (n : NoAttr K C f) (hp : H p = some (.ins C dx fs)) (hl : fs.length < 1000) (hv : EvD tx σ H d) (hd : ∀ G u, At G d u → u = v) (ho : EvD ta σ H (.ref p))
    (k : ∀ H1, Ext p H H1 → H1 p = some (.ins C dx (putF f v fs)) → tz De σ H1) : tSeq (sFld K ta tx f) tz De σ H := q_fld T n hp hl hv ho fun u H1 s a => by
  have e := hd _ _ a
  subst e
  exact k _ (ext_upd s) upd_same
theorem x_fldD {C p dx : Addr} {f : Str} {fs : List (Str × V)} {De : Ends} {tz : TS} (T : Cls K C) (n : NoAttr K C f) (hp : H p = some (.ins C dx fs)) (hl : fs.length < 1000) (ho : ∀ H', Same H H' → EvD ta σ H' (.ref p))
    (k : ∀ q H1, H q = none → q ≠ p → Ext p H H1 → H1 p = some (.ins C dx (putF f (.ref q) fs)) → H1 q = some (.dK []) → tz De σ H1) : tSeq (sFld K ta tDNewK f) tz De σ H := fun q hq => by
  have nq : q ≠ p := Ne.symm (ne_of_none hp hq)
  have s1 : Same H (upd H q (.dK [])) := Same.new hq
  refine ho _ s1 _ (Same.refl _) _ fun y H2 s2 ay => ?_
  cases ay
  exact ⟨p, C, dx, fs, rfl, s2 _ _ (s1 _ _ hp), T, n, hl, k q _ hq nq (ext_upd (s1.trans s2)) upd_same (by rw [upd_ne nq]; exact s2 _ _ upd_same)⟩
theorem ins_tle {C p dx : Addr} {fs gs : List (Str × V)} (h : H p = some (.ins C dx fs)) : Tle H (upd H p (.ins C dx gs)) := fun a vs q => by
  rw [upd_ne (ne_of q h (by intro z; cases z))]; exact q
theorem x_fldN {C p dx : Addr} {f : Str} {fs : List (Str × V)} {ds : List D} {De : Ends} {tz : TS} (T : Cls K C) (n : NoAttr K C f) (hp : H p = some (.ins C dx fs)) (hl : fs.length < 1000) (hn : nls ds = true) (hv : EvN tx σ H ds) (ho : EvD ta σ H (.ref p))
    (k : ∀ q vs H1, H q = none → q ≠ p → Ext p H H1 → H1 p = some (.ins C dx (putF f (.ref q) fs)) → H1 q = some (.lst vs) → Ats H1 ds vs → tz De σ H1) : tSeq (sFld K ta tx f) tz De σ H := q_fldN T n hp hl hv ho fun q vs H1 hq s h1 as => by
  have nq : q ≠ p := Ne.symm (ne_of_none hp hq)
  exact k q vs _ hq nq (ext_upd s) upd_same (by rw [upd_ne nq]; exact h1) (as.tle (ins_tle (s _ _ hp)) hn)
/-! ### __init__ -/
def S0 (keep room : Int) : Stt := ⟨keep, room, [], [], [], 0, 0⟩
def sp_h_init__ (K : PySem.W.Frag) : Sp := fun vs H Q _ => ∃ (x dx : Addr) (keep room : Int), vs = [.ref x, .int keep, .int room] ∧ H x = some (.ins (cH K) dx []) ∧
  ∀ (a : HA) (H' : Hp), a.p = x → HouseAt (cH K) H' a (S0 keep room) → Ext x H H' → (∀ b ∈ [a.r, a.s, a.c, a.t], H b = none) → Q .non H'
theorem init_fs (a : HA) (keep room : Int) : putF "count" (.int 0) (putF "today" (.int 0) (putF "pairs" (.ref a.t) (putF "casts" (.ref a.c) (putF "shelved" (.ref a.s) (putF "rows" (.ref a.r) (putF "room" (.int room) (putF "keep" (.int keep) []))))))) = hFs a (S0 keep room) := by kernel_rfl
theorem d_int {n : Int} : ∀ (G : Hp) (u : V), At G (.int n) u → u = .int n := fun _ _ h => by cases h; rfl
theorem sc_h_init__ : FnScope ["self", "keep", "room"] ["self", "keep", "room"] (defScope s_h_init__) := ⟨rfl, rfl, rfl, by decide +kernel, rfl, by decide +kernel, by decide +kernel⟩
theorem ok_h_init__ (T : Tx K mg) : FnR P w K mg base (L2.CX P w) 1 (He.ma K (cH K) "__init__") (sp_h_init__ K) := by
  refine fnr (F_h_init__ T) sc_h_init__ (fun _ _ _ _ _ _ us hl => match us, hl with | [_, _, _], _ => rfl) (fun vs H Q E h => by obtain ⟨_, _, _, _, rfl, _⟩ := h; rfl) (fun cdv A outer s H vs Q E hr h => ?_)
  refine ⟨_, PSs.nox (pss_cons (sfldK K (pv 0) (pv 1)) (pss_cons (sfldK K (pv 0) (pv 2)) (pss_cons (sfldK K (pv 0) pe_dnewK) (pss_cons (sfldK K (pv 0) pe_dnewK) (pss_cons (sfldK K (pv 0) (pe_lst pa_nil)) (pss_cons (sfldK K (pv 0) (pe_lst pa_nil)) (pss_cons (sfldK K (pv 0) pe_int) (pss_one (sfldK K (pv 0) pe_int))))))))), ?_⟩
  obtain ⟨x, dx, keep, room, rfl, hx, k⟩ := h
  refine x_fld (T_cls T) (T_f_keep T) hx (le_lit (by kernel_rfl)) (ev_vi rfl) d_int (ev_vr rfl) fun H1 e1 x1 => ?_
  refine x_fld (T_cls T) (T_f_room T) x1 (le_lit (by kernel_rfl)) (ev_vi rfl) d_int (ev_vr rfl) fun H2 e2 x2 => ?_
  refine x_fldD (T_cls T) (T_f_rows T) x2 (le_lit (by kernel_rfl)) (fun _ _ => ev_vr rfl) fun r H3 r0 nr e3 x3 hr => ?_
  refine x_fldD (T_cls T) (T_f_shelved T) x3 (le_lit (by kernel_rfl)) (fun _ _ => ev_vr rfl) fun sa H4 s0 ns e4 x4 hs => ?_
  refine x_fldN (ds := []) (T_cls T) (T_f_casts T) x4 (le_lit (by kernel_rfl)) rfl (en_lst ea_nil le_lit) (ev_vr rfl) fun c vs H5 c0 nc e5 x5 hc ac => ?_
  refine x_fldN (ds := []) (T_cls T) (T_f_pairs T) x5 (le_lit (by kernel_rfl)) rfl (en_lst ea_nil le_lit) (ev_vr rfl) fun t ws H6 t0 nt e6 x6 ht at_ => ?_
  cases ac; cases at_
  refine x_fld (T_cls T) (T_f_today T) x6 (le_lit (by kernel_rfl)) ev_int d_int (ev_vr rfl) fun H7 e7 x7 => ?_
  refine s_fld (d := .int 0) (T_cls T) (T_f_count T) x7 (le_lit (by kernel_rfl)) ev_int (ev_vr rfl) fun v H8 s8 av => ?_
  cases av
  have e8 : Ext x H7 (upd H8 x (.ins (cH K) dx (hFs ⟨x, dx, r, sa, c, t⟩ (S0 keep room)))) := ext_upd s8
  have e45 := e4.trans e5
  have e78 := e7.trans e8
  have hr' := e78 _ _ nr (e6 _ _ nr (e45 _ _ nr hr))
  have hs' := e78 _ _ ns (e6 _ _ ns (e5 _ _ ns hs))
  have hc' := e78 _ _ nc (e6 _ _ nc hc)
  have ht' := e78 _ _ nt ht
  have e12 := e1.trans e2
  refine k ⟨x, dx, r, sa, c, t⟩ _ rfl ⟨upd_same, ⟨[], hr', .nil⟩, ⟨[], ⟨[], hs', .nil⟩, fun n => rfl, List.nodup_nil⟩, ⟨[], hc', .nil⟩, ⟨[], ht', .nil⟩, ?_, ?_⟩ (((e12.trans e3).trans (e45.trans e6)).trans e78) fun b hb => ?_
  · exact ne_of_none hr s0
  · exact ne_of_none hc t0
  · simp only [List.mem_cons, List.not_mem_nil, or_false] at hb
    rcases hb with rfl | rfl | rfl | rfl
    · exact e12.fresh nr r0
    · exact (e12.trans e3).fresh ns s0
    · exact ((e12.trans e3).trans e4).fresh nc c0
    · exact ((e12.trans e3).trans e45).fresh nt t0
/-! ### inner, shelf -/
def sp_h_inner (K : PySem.W.Frag) : Sp := fun vs H Q E => ∃ (a : HA) (S : Stt) (n : Int), vs = [.ref a.p, .int n] ∧ HouseRd (cH K) H a S ∧ S.Wf ∧ (n ∈ S.casts.map (·.1) → RetD (.tup (S.innerL n)) H Q) ∧ (n ∉ S.casts.map (·.1) → RaiE (cE K Kd.noCast.nm) H E)
theorem bundle_key {n x : Int} (h : x ∈ S.bundleL n) : x ∈ S.keys := (List.mem_filter.mp h).1
theorem bundle_len (wf : S.Wf) (n : Int) : (S.bundleL n).length < 64 := Nat.lt_of_le_of_lt (List.length_filter_le _ _) wf.klen
theorem inner_rows (wf : S.Wf) (n : Int) : ((S.bundleL n).filter fun _ => true).map (fun x => rowD x (S.rw x)) = S.innerL n := by
  rw [List.filter_eq_self.mpr (by simp)]
  exact keys_rows wf.nd _ _ _ _ (fun p hp => by rw [mark_row wf.nd hp]) fun p hp => by rw [rw_row wf.nd hp]
theorem et_yes {σ : L2.St} : EvT tYes σ H true := fun H1 _ Q q => q H1 (Same.refl H1)
theorem sc_h_inner : FnScope ["self", "number", "one"] ["self", "number"] (defScope s_h_inner) := ⟨rfl, rfl, rfl, by decide +kernel, rfl, by decide +kernel, by decide +kernel⟩
theorem ok_h_inner (T : Tx K mg) : FnR P w K mg base (L2.CX P w) 2 (He.ma K (cH K) "inner") (sp_h_inner K) := by
  refine fnr (F_h_inner T) sc_h_inner (fun _ _ _ _ _ _ us hl => match us, hl with | [_, _], _ => rfl) (fun vs H Q E h => by obtain ⟨_, _, _, rfl, _⟩ := h; rfl) (fun cdv A outer s H vs Q E hr h => ?_)
  refine ⟨_, (pss_one (ps_ret (pe_callTy (tupOfK K) rfl (T_tuple T) bt_tuple (pa_cons (pe_lc (own := [("one", 2)]) rfl sc_h_inner.nd (pilK K (pe_methR (pv 0) (T_cls T) (T_h_bundle T) (ok_h_bundle T) (hr.mono (by decide)) (passes_call (takes_of rfl rfl rfl rfl) (fun _ _ _ _ z => z)) (pa_cons (pv 1) pa_nil))) (blkOk_by (N := ["self", "number", "one"]) (sc := defScope s_h_inner) (by decide +kernel)) (fun _ _ _ _ _ => (pg_name (i := 2) sc_h_inner.nd rfl (Or.inl rfl))) (fun _ _ _ _ _ => pts_nil) (fun _ _ _ _ _ => (pe_methR (pv 0) (T_cls T) (T_h_row T) (ok_h_row T) (hr.mono (by decide)) passL (pa_cons (pv 2) pa_nil)))) pa_nil)))), ?_⟩
  obtain ⟨a, S, n, rfl, h, wf, k1, k2⟩ := h
  by_cases hn : n ∈ S.casts.map (·.1)
  · refine s_ret ((ev_tupOf (en_lc (S.bundleL n) D.int (fun _ => true) (fun x => rowD x (S.rw x)) (en_bundle h wf hn (ev_vr rfl) (ev_vi rfl)).toD (by have := bundle_len wf n; omega) (fun _ _ => rowD_nl _ _) (fun _ => rfl) fun x hx v H1 s av => ?_).toD).is ?_) (k1 hn)
    · cases av
      exact ⟨et_yes, fun _ => e_rowM (h.mono s) (get_rw (bundle_key hx)) (ev_vr rfl) (ev_var rfl (.int x))⟩
    · rw [inner_rows wf]
  · exact c_meth h.ins (by kernel_rfl) (ev_vr rfl) (ea_cons (ev_vi rfl) ea_nil) fun vs H1 s as => by
      cases as with | cons a1 as => cases as; cases a1; exact ⟨a, S, n, rfl, h.mono s, wf, fun z => absurd z hn, fun z => (k2 z).mono s⟩
def sp_h_shelf (K : PySem.W.Frag) : Sp := fun vs H Q _ => ∃ (a : HA) (S : Stt), vs = [.ref a.p] ∧ HouseRd (cH K) H a S ∧ S.Wf ∧ (∀ c ∈ S.casts, c.1 ∈ S.keys) ∧ RetD (.tup S.shelfL) H Q
theorem many_bundle (wf : S.Wf) (n : Int) : (S.bundleL n).length = S.many n := by
  have z := congrArg List.length (keys_rows (S := S) (β := Int) wf.nd (fun x => decide (S.mark x = some n)) (fun x => x) (fun p => decide (p.2.mrk = some n)) (fun p => p.1) (fun p hp => by rw [mark_row wf.nd hp]) fun _ _ => rfl)
  rw [List.length_map, List.length_map] at z
  exact z
theorem sc_h_shelf : FnScope ["self", "one", "day"] ["self"] (defScope s_h_shelf) := ⟨rfl, rfl, rfl, by decide +kernel, rfl, by decide +kernel, by decide +kernel⟩
theorem ok_h_shelf (T : Tx K mg) : FnR P w K mg base (L2.CX P w) 2 (He.ma K (cH K) "shelf") (sp_h_shelf K) := by
  refine fnr (F_h_shelf T) sc_h_shelf (fun _ _ _ _ _ _ us hl => match us, hl with | [_], _ => rfl) (fun vs H Q E h => by obtain ⟨_, _, rfl, _⟩ := h; rfl) (fun cdv A outer s H vs Q E hr h => ?_)
  refine ⟨_, PSs.nox (pss_one (ps_ret (pe_callTy (tupOfK K) rfl (T_tuple T) bt_tuple (pa_cons (pe_lc (own := [("one", 1), ("day", 2)]) rfl sc_h_shelf.nd (pilK K (fldK K (pv 0))) (blkOk_by (N := ["self", "one", "day"]) (sc := defScope s_h_shelf) (by decide +kernel)) (fun _ _ _ _ _ => (gtupK K (n := 2) rfl (pgs_cons (pg_name (i := 1) sc_h_shelf.nd rfl (Or.inl rfl)) (pgs_cons (pg_name (i := 2) sc_h_shelf.nd rfl (Or.inl rfl)) pgs_nil)))) (fun _ _ _ _ _ => pts_nil) (fun _ _ _ _ _ => (pe_tup (pa_cons (pv 1) (pa_cons (pe_ix (ixtK K) (pe_dget (hu_of hr) (fldK K (pv 0)) (pv 1) (fun _ _ => rfl)) pe_int (fun _ _ => rfl)) (pa_cons (pe_op op_add (pv 2) (fldK K (pv 0))) (pa_cons (pe_callB (lenK K) rfl (T_len T) bt_len (pa_cons (pe_methR (pv 0) (T_cls T) (T_h_bundle T) (ok_h_bundle T) (hr.mono (by decide)) passL (pa_cons (pv 1) pa_nil)) pa_nil)) pa_nil))))))) pa_nil)))), ?_⟩
  obtain ⟨a, S, rfl, h, wf, hc, k⟩ := h
  refine s_ret ((ev_tupOf (en_lc2 S.casts (fun c => .int c.1) (fun c => .int c.2) (fun _ => true) (fun c => .tup [.int c.1, .str (S.rw c.1).nm, .int (c.2 + S.keep), .int (S.many c.1)]) (e_casts T h (ev_vr rfl)) (by have := wf.cl; omega) (fun _ _ => rfl) (fun _ _ => rfl) fun c hcm v w H1 s av aw => ?_).toD).is ?_) k
  · cases av; cases aw
    have h1 := h.mono s
    refine ⟨et_yes, fun _ => ev_tup (ea_cons (ev_var rfl (.int c.1)) (ea_cons (e_nm T h1 (get_rw (hc c hcm)) (ev_vr rfl) (ev_var rfl (.int c.1))) (ea_cons (ev_add (ev_var rfl (.int c.2)) (e_keep T h1 (ev_vr rfl))) (ea_cons ((ev_lenL (en_bundle h1 wf (List.mem_map.mpr ⟨c, hcm, rfl⟩) (ev_vr rfl) (ev_var rfl (.int c.1))).toD).is ?_) ea_nil)))) le_lit⟩
    rw [List.length_map, many_bundle wf]
  · rw [List.filter_eq_self.mpr (by simp)]; rfl
theorem e_shelf (h : HouseRd (cH K) H a S) (wf : S.Wf) (hc : ∀ c ∈ S.casts, c.1 ∈ S.keys) (ho : EvD ta σ H (.ref a.p)) : EvD (tMethF0 (cH K) "shelf" (sp_h_shelf K) E ta) σ H (.tup S.shelfL) :=
  ev_meth0 h.ins (by kernel_rfl) ho fun H1 s Q q => ⟨a, S, rfl, h.mono s, wf, hc, q⟩
/-! ### free_name -/
def sp_g_free_name (K : PySem.W.Frag) : Sp := fun vs H Q _ => ∃ (nm : Str) (l : Addr) (tk : List Str), vs = [.str nm, .ref l] ∧ LAt H l (tk.map D.str) ∧ nm.length ≤ 1000000 ∧ tk.length < 1000000 ∧ RetD (.str (freeNm nm tk)) H Q
theorem ev_strI {k : Nat} (hk : k < 10000000000) (h : EvD te σ H (.int (k : Int))) : EvD (tCB (fun xs H Q => ∃ i, xs = [.int i] ∧ i.natAbs.log2 < 1920 ∧ Q (.str (toString i)) H) (tCons te tNil)) σ H (.str (Str.ofString (toString ((k : Nat) : Int)))) := ev_cb (ea_cons h ea_nil) fun vs H1 _ as Q q => by
  cases as with
  | cons a as =>
    cases as; cases a
    refine ⟨_, rfl, ?_, q _ H1 (Same.refl H1) (.str _)⟩
    show k.log2 < 1920
    by_cases h0 : k = 0
    · subst h0; decide
    · exact (Nat.log2_lt h0).mpr (Nat.lt_of_lt_of_le hk (Nat.le_trans (by decide : 10000000000 ≤ 2 ^ 34) (Nat.pow_le_pow_right (by decide) (by decide))))
theorem ev_cat {x y : Str} (ha : EvD ta σ H (.str x)) (hb : EvD tb σ H (.str y)) (hl : x.length + y.length ≤ 10000000) : EvD (tOp (fun x y H Q => ∃ i j, x = .str i ∧ y = .str j ∧ i.length + j.length ≤ sizeLine ∧ Q (.str (i ++ j)) H) ta tb) σ H (.str (x ++ y)) :=
  ev_op ha hb fun u v H1 _ ax ay Q q => by cases ax; cases ay; exact ⟨x, y, rfl, rfl, sz_of hl, q _ H1 (Same.refl H1) (.str _)⟩
theorem ev_cand {nm : Str} {k : Nat} (hk : k < 10000000000) (hl : nm.length ≤ 1000000) (ha : EvD ta σ H (.str nm)) (hb : EvD tb σ H (.int (k : Int))) :
    EvD (tOp (fun x y H Q => ∃ i j, x = .str i ∧ y = .str j ∧ i.length + j.length ≤ sizeLine ∧ Q (.str (i ++ j)) H) ta (tCB (fun xs H Q => ∃ i, xs = [.int i] ∧ i.natAbs.log2 < 1920 ∧ Q (.str (toString i)) H) (tCons tb tNil))) σ H (.str (cand nm k)) :=
  ev_cat ha (ev_strI hk hb) (by have := PySem.W.KT.len_num (n := (k : Int)) (by omega) (by omega); omega)
theorem sc_g_free_name : FnScope ["name", "taken", "number"] ["name", "taken"] (defScope s_g_free_name) := ⟨rfl, rfl, rfl, by decide +kernel, rfl, by decide +kernel, by decide +kernel⟩
theorem ok_g_free_name (T : Tx K mg) : FnR P w K mg base (L2.CX P w) 1 (He.ga K "free_name") (sp_g_free_name K) := by
  refine fnr (F_g_free_name T) sc_g_free_name (fun _ _ _ _ _ _ us hl => match us, hl with | [_, _], _ => rfl) (fun vs H Q E h => by obtain ⟨_, _, _, rfl, _⟩ := h; rfl) (fun cdv A outer s H vs Q E hr h => ?_)
  refine ⟨_, PSs.nox (pss_cons (ps_if (pt_cmpR (niK K) (pv 0) (pv 1) rfl) (pss_one (ps_ret (pv 0))) pss_nil) (pss_cons (ps_set (i := 2) sc_g_free_name.nd rfl (Or.inl rfl) pe_int) (pss_cons (ps_while PassesOwn.never (pt_cmpR (inK K) (pe_op op_add_str (pv 0) (pe_callTy call_str_int rfl (T_str T) bt_str (pa_cons (pv 2) pa_nil))) (pv 1) rfl) (pss_one (ps_set (i := 2) sc_g_free_name.nd rfl (Or.inl rfl) (pe_op op_add (pv 2) pe_int)))) (pss_one (ps_ret (pe_op op_add_str (pv 0) (pe_callTy call_str_int rfl (T_str T) bt_str (pa_cons (pv 2) pa_nil)))))))), ?_⟩
  obtain ⟨nm, l, tk, rfl, hl, hn, hz, k⟩ := h
  refine q_if (et_test (ev_niS (ev_vs rfl) (ev_var rfl hl.at))) (fun b H1 s => ?_) fun b H1 s => ?_
  · refine s_ret (ev_vs rfl) fun v H2 s2 av => k v H2 (s.trans s2) ?_
    have e : nm ∉ tk := by simpa using b
    unfold freeNm; rw [if_neg e]; exact av
  · have e : nm ∈ tk := by simpa using b
    obtain ⟨f1, f2, f3, f4⟩ := free_spec nm tk hz
    refine q_asg (d := .int 2) ev_int fun v H2 s2 av => ?_
    cases av
    refine q_while (fun m σ' H' => ∃ j : Nat, σ' = [some (.str nm), some (.ref l), some (.int (j : Int))] ∧ Same H H' ∧ 2 ≤ j ∧ j ≤ freeK nm tk (tk.length + 1) 2 ∧ m = freeK nm tk (tk.length + 1) 2 - j) _ ⟨2, rfl, s.trans s2, Nat.le_refl _, f1, rfl⟩ fun m σ' H' hw => ?_
    obtain ⟨j, rfl, sj, j1, j2, rfl⟩ := hw
    refine ⟨_, et_test (ev_inS (ev_cand (k := j) (by omega) hn (ev_vs rfl) (ev_var rfl (.int _))) (ev_var rfl (hl.mono sj).at)), fun b H3 s3 => ?_, fun b H3 s3 => ?_⟩
    · have hj : j ≠ freeK nm tk (tk.length + 1) 2 := fun z => f3 (z ▸ of_decide_eq_true b)
      refine s_asg (ev_add (ev_var (d := .int (j : Int)) rfl (.int _)) ev_int) fun v H4 s4 av => ?_
      cases av
      exact ⟨freeK nm tk (tk.length + 1) 2 - (j + 1), by omega, j + 1, rfl, (sj.trans s3).trans s4, by omega, by omega, rfl⟩
    · have hj : j = freeK nm tk (tk.length + 1) 2 := by
        rcases Nat.lt_or_eq_of_le j2 with z | z
        · exact absurd (f4 j j1 z) (of_decide_eq_false b)
        · exact z
      refine s_ret (ev_cand (k := j) (by omega) hn (ev_vs rfl) (ev_var rfl (.int _))) fun v H4 s4 av => k v H4 ((sj.trans s3).trans s4) ?_
      unfold freeNm; rw [if_pos e, ← hj]; exact av
theorem e_free_name {nm : Str} {tk : List Str} (hm : EvD ta σ H (.str nm)) (ht : EvD te σ H (.lst (tk.map D.str))) (hn : nm.length ≤ 1000000) (hz : tk.length < 1000000) : EvD (tCallF (sp_g_free_name K) E (tCons ta (tCons te tNil))) σ H (.str (freeNm nm tk)) :=
  ev_call (ea_cons hm (ea_cons ht ea_nil)) fun vs H1 s as Q q => by
    cases as with | cons a1 as => cases as with | cons a2 as => cases as; cases a1; cases a2 with | lst hp hs => exact ⟨nm, _, tk, rfl, ⟨_, hp, hs⟩, hn, hz, q⟩
end
end Ho

set_option Elab.async false
set_option linter.all false
set_option maxRecDepth 100000
set_option maxHeartbeats 4000000
/-! M4: the deeds on the plain state; the house and the state under changes. -/
namespace Ho
open PySem PySem.Spec PyProof.Rows L2
/-- what a deed tells: data, or a refusal -/
inductive Out where
  | val (d : D)
  | err (k : Kd)
namespace Stt
def addRow (S : Stt) (r : Rw) : Stt := { S with count := S.count + 1, rows := S.rows ++ [(S.count + 1, r)] }
def make (S : Stt) (par : Option Int) (nm : Str) (b : Bool) : Out × Stt :=
  if S.noBox par = true then (.err .noBox, S) else if nm ∈ S.names par none then (.err .taken, S) else (.val (.int (S.count + 1)), S.addRow ⟨par, nm, if b then none else some "", none⟩)
def rename (S : Stt) (n : Int) (nm : Str) : Out × Stt :=
  if S.there n = false then (.err .noThing, S) else if nm ∈ S.names (S.rw n).par (some n) then (.err .taken, S) else (.val .non, S.setRow n { S.rw n with nm := nm })
open Classical in
noncomputable def move (S : Stt) (n : Int) (par : Option Int) : Out × Stt :=
  if S.there n = false then (.err .noThing, S) else if S.noBox par = true then (.err .noBox, S) else if ∃ x ∈ S.within n, par = some x then (.err .inside, S)
  else if (S.rw n).nm ∈ S.names par (some n) then (.err .taken, S) else (.val .non, S.setRow n { S.rw n with par := par })
def tie (S : Stt) (x y : Int) : Out × Stt :=
  if S.there x = false ∨ S.there y = false then (.err .noThing, S) else if x = y then (.err .same, S) else (.val .non, if (x, y) ∈ S.ties then S else { S with ties := S.ties ++ [(x, y)] })
def untie (S : Stt) (x y : Int) : Out × Stt :=
  if S.there x = false ∨ S.there y = false then (.err .noThing, S) else if (x, y) ∉ S.ties then (.err .noTie, S) else (.val .non, { S with ties := S.ties.erase (x, y) })
def write (S : Stt) (n : Int) (t : Str) : Out × Stt :=
  if S.there n = false then (.err .noThing, S) else match (S.rw n).tx with
    | none => (.err .noSheet, S)
    | some o => if S.usedThere + ((t.length : Int) - (o.length : Int)) > S.room then (.err .noRoom, S) else (.val .non, (S.roomFor ((t.length : Int) - (o.length : Int))).setRow n { S.rw n with tx := some t })
open Classical in
noncomputable def castOff (S : Stt) (n : Int) : Stt := { S with
  rows := S.rows.map fun p => if p.1 ∈ S.within n then (p.1, { p.2 with mrk := some n }) else p
  casts := S.casts ++ [(n, S.day)] }
noncomputable def cast (S : Stt) (n : Int) : Out × Stt := if S.there n = false then (.err .noThing, S) else (.val .non, S.castOff n)
def newPar (S : Stt) (n : Int) : Option Int := if S.thereO (S.rw n).par = true then (S.rw n).par else none
def newNm (S : Stt) (n : Int) : Str := freeNm (S.rw n).nm (S.names (S.newPar n) none)
def wake (S : Stt) (n : Int) : Stt := { S with
  rows := S.rows.map fun p => if p.2.mrk = some n then (p.1, { p.2 with mrk := none }) else p
  casts := S.casts.filter fun c => !decide (c.1 = n) }
def bringBack (S : Stt) (n : Int) : Stt := (S.setRow n { S.rw n with par := S.newPar n, nm := S.newNm n }).wake n
def back (S : Stt) (n : Int) : Out × Stt := if n ∉ S.casts.map (·.1) then (.err .noCast, S) else (.val .non, S.bringBack n)
def gone (S : Stt) (n : Int) : Out × Stt := if n ∉ S.casts.map (·.1) then (.err .noCast, S) else (.val .non, S.lose n)
def loseAll : List Int → Stt → Stt × Int
  | [], S => (S, 0)
  | n :: ns, S => ((loseAll ns (S.lose n)).1, (S.many n : Int) + (loseAll ns (S.lose n)).2)
def empty (S : Stt) : Out × Stt := (.val (.int (loseAll (S.casts.map (·.1)) S).2), (loseAll (S.casts.map (·.1)) S).1)
def dues (S : Stt) : List Int := (S.casts.filter fun c => decide (c.2 + S.keep ≤ S.day)).map (·.1)
def nextDay (S : Stt) : Out × Stt := (.val (.tup ((dues { S with day := S.day + 1 }).map D.int)), (loseAll (dues { S with day := S.day + 1 }) { S with day := S.day + 1 }).1)
/-- the new number of x, of the things l that are copied -/
def num (S : Stt) (l : List Int) (x : Int) : Int := S.count + 1 + (l.idxOf x : Int)
def copyRow (S : Stt) (l : List Int) (n : Int) (par : Option Int) (nm : Str) (x : Int) : Rw :=
  if x = n then ⟨par, nm, (S.rw x).tx, none⟩ else ⟨(S.rw x).par.map (S.num l), (S.rw x).nm, (S.rw x).tx, none⟩
def copyTo (S : Stt) (l : List Int) (n : Int) (par : Option Int) (nm : Str) : Stt := { S with
  rows := S.rows ++ l.map fun x => (S.num l x, S.copyRow l n par nm x)
  ties := S.ties ++ (S.ties.filter fun t => decide (t.1 ∈ l) && decide (t.2 ∈ l)).map fun t => (S.num l t.1, S.num l t.2)
  count := S.count + (l.length : Int) }
def signs (S : Stt) (l : List Int) : Int := (l.map fun x => txLen (S.rw x)).sum
noncomputable def copy (S : Stt) (n : Int) (par : Option Int) : Out × Stt :=
  if S.there n = false then (.err .noThing, S) else if S.noBox par = true then (.err .noBox, S) else if S.usedThere + S.signs (S.within n) > S.room then (.err .noRoom, S)
  else (.val (.int (S.num (S.within n) n)), (S.roomFor (S.signs (S.within n))).copyTo (S.within n) n par (freeNm (S.rw n).nm ((S.roomFor (S.signs (S.within n))).names par none)))
end Stt
/-! ### under changes -/
section
variable {C : Addr} {H H' H1 : Hp} {a : HA} {b : SA} {S S' : Stt}
theorem LAt.keep {l : Addr} {ds : List D} (h : LAt H l ds) (k : ∀ o, H l = some o → H' l = some o) (t : Tle H H') (n : nls ds = true) : LAt H' l ds := let ⟨vs, x, y⟩ := h; ⟨vs, k _ x, y.tle t n⟩
theorem DAt.keep {l : Addr} {ds : List (Int × D)} (h : DAt H l ds) (k : ∀ o, H l = some o → H' l = some o) (t : Tle H H') (n : ∀ p ∈ ds, p.2.nl = true) : DAt H' l ds := let ⟨vs, x, y⟩ := h; ⟨vs, k _ x, y.tle t n⟩
theorem rows3_nl : ∀ p ∈ rows3 S, p.2.nl = true := fun p hp => by obtain ⟨q, _, rfl⟩ := List.mem_map.mp hp; exact row3_nl _
theorem rows4_nl : ∀ p ∈ rows4 S, p.2.nl = true := fun p hp => by obtain ⟨q, _, rfl⟩ := List.mem_map.mp hp; exact row4_nl _
theorem pairs_nl (l : List (Int × Int)) : nls (l.map pairD) = true := nls_map _ pairD_nl _
theorem sh_nl {l : List (Int × D)} (s : ShOk S l) : ∀ p ∈ l, p.2.nl = true := fun p hp => by
  have z := s.look p.1
  rw [lookup_nd s.nd hp] at z
  cases q : S.mark p.1 with
  | none => rw [q] at z; cases z
  | some m => rw [q] at z; rw [Option.some.inj z]; rfl
theorem HouseAt.keep (h : HouseAt C H a S) (k : ∀ x ∈ a.all, ∀ o, H x = some o → H' x = some o) (t : Tle H H') : HouseAt C H' a S := by
  obtain ⟨l, l1, l2⟩ := h.shl
  refine ⟨k _ (by simp [HA.all]) _ h.ins, h.rows.keep (k _ (by simp [HA.all])) t rows3_nl, ⟨l, l1.keep (k _ (by simp [HA.all])) t (sh_nl l2), l2⟩, h.casts.keep (k _ (by simp [HA.all])) t (pairs_nl _), h.pairs.keep (k _ (by simp [HA.all])) t (pairs_nl _), h.ne, h.nc⟩
theorem StAt.keep (h : StAt H b S) (k : ∀ x ∈ b.all, ∀ o, H x = some o → H' x = some o) (t : Tle H H') : StAt H' b S :=
  ⟨k _ (by simp [SA.all]) _ h.st, h.rows.keep (k _ (by simp [SA.all])) t rows4_nl, h.casts.keep (k _ (by simp [SA.all])) t (pairs_nl _), h.ties.keep (k _ (by simp [SA.all])) t (pairs_nl _), h.ne, h.nc⟩
/-- what is not a tuple may change -/
theorem tle_upd {x : Addr} {o u : HO} (h : H x = some u) (n : ∀ vs, u ≠ .tup vs) : Tle H (upd H x o) := fun y vs q => by
  have : y ≠ x := fun e => by rw [e, h] at q; exact n vs (Option.some.inj q)
  rw [upd_ne this]; exact q
theorem HouseAt.there (h : HouseAt C H a S) : ∀ x ∈ a.all, ∃ o, H x = some o ∧ ∀ vs, o ≠ .tup vs := fun x hx => by
  obtain ⟨k1, h1, _⟩ := h.rows
  obtain ⟨l, ⟨k2, h2, _⟩, _⟩ := h.shl
  obtain ⟨v3, h3, _⟩ := h.casts
  obtain ⟨v4, h4, _⟩ := h.pairs
  simp only [HA.all, List.mem_cons, List.not_mem_nil, or_false] at hx
  rcases hx with rfl | rfl | rfl | rfl | rfl
  · exact ⟨_, h.ins, fun _ z => nomatch z⟩
  · exact ⟨_, h1, fun _ z => nomatch z⟩
  · exact ⟨_, h2, fun _ z => nomatch z⟩
  · exact ⟨_, h3, fun _ z => nomatch z⟩
  · exact ⟨_, h4, fun _ z => nomatch z⟩
theorem StAt.there (h : StAt H b S) : ∀ x ∈ b.all, ∃ o, H x = some o ∧ ∀ vs, o ≠ .tup vs := fun x hx => by
  obtain ⟨k1, h1, _⟩ := h.rows
  obtain ⟨v3, h3, _⟩ := h.casts
  obtain ⟨v4, h4, _⟩ := h.ties
  simp only [SA.all, List.mem_cons, List.not_mem_nil, or_false] at hx
  rcases hx with rfl | rfl | rfl | rfl
  · exact ⟨_, h.st, fun _ z => nomatch z⟩
  · exact ⟨_, h1, fun _ z => nomatch z⟩
  · exact ⟨_, h3, fun _ z => nomatch z⟩
  · exact ⟨_, h4, fun _ z => nomatch z⟩
/-- a change at one owned place -/
theorem mv_upd {A : List Addr} {x : Addr} {o u : HO} (s : Same H H1) (hx : x ∈ A) (h : H1 x = some u) (n : ∀ vs, u ≠ .tup vs) : Mv A A H (upd H1 x o) where
  keep := fun y w ny q => by rw [upd_ne (show y ≠ x from fun e => ny (by rw [e]; exact hx))]; exact s _ _ q
  new := fun _ h => .inl h
  tup := (Tle.of s).trans (tle_upd h n)
/-- a change at one owned place, another place owned from there on, new -/
theorem mv_upd2 {A A' : List Addr} {x : Addr} {o u : HO} (s : Same H H1) (hx : x ∈ A) (h : H1 x = some u) (n : ∀ vs, u ≠ .tup vs) (hA : ∀ y ∈ A', y ∈ A ∨ H y = none) : Mv A A' H (upd H1 x o) where
  keep := fun y w ny q => by rw [upd_ne (show y ≠ x from fun e => ny (by rw [e]; exact hx))]; exact s _ _ q
  new := hA
  tup := (Tle.of s).trans (tle_upd h n)
/-- the plain fields -/
theorem HouseAt.flds (h : HouseAt C H a S) (e1 : S'.rows = S.rows) (e2 : S'.casts = S.casts) (e3 : S'.ties = S.ties) : HouseAt C (upd H a.p (.ins C a.dx (hFs a S'))) a S' := by
  have er : rows3 S' = rows3 S := by unfold rows3; rw [e1]
  have em : ∀ n, S'.mark n = S.mark n := fun n => by unfold Stt.mark Stt.get; rw [e1]
  obtain ⟨k1, h1, r1⟩ := h.rows
  obtain ⟨l, ⟨k2, h2, r2⟩, r3⟩ := h.shl
  obtain ⟨v3, h3, r4⟩ := h.casts
  obtain ⟨v4, h4, r5⟩ := h.pairs
  have t : Tle H (upd H a.p (.ins C a.dx (hFs a S'))) := tle_upd h.ins fun _ z => nomatch z
  refine ⟨upd_same, ⟨k1, ?_, ?_⟩, ⟨l, ⟨k2, ?_, r2.tle t (sh_nl r3)⟩, fun n => by rw [em]; exact r3.look n, r3.nd⟩, ⟨v3, ?_, by rw [e2]; exact r4.tle t (pairs_nl _)⟩, ⟨v4, ?_, by rw [e3]; exact r5.tle t (pairs_nl _)⟩, h.ne, h.nc⟩
  · rw [upd_ne (ne_of h1 h.ins (by intro z; cases z))]; exact h1
  · rw [er]; exact r1.tle t rows3_nl
  · rw [upd_ne (ne_of h2 h.ins (by intro z; cases z))]; exact h2
  · rw [upd_ne (ne_of h3 h.ins (by intro z; cases z))]; exact h3
  · rw [upd_ne (ne_of h4 h.ins (by intro z; cases z))]; exact h4
/-- the rows' dict changes -/
theorem HouseAt.rowsTo (h : HouseAt C H a S) {kvs : List (Key × V)} (hk : KRep H (rows3 S') kvs) (hm : ∀ n, S'.mark n = S.mark n) (e1 : S'.casts = S.casts) (e2 : S'.ties = S.ties) (e3 : hFs a S' = hFs a S) : HouseAt C (upd H a.r (.dK kvs)) a S' := by
  obtain ⟨k1, h1, r1⟩ := h.rows
  obtain ⟨l, ⟨k2, h2, r2⟩, r3⟩ := h.shl
  obtain ⟨v3, h3, r4⟩ := h.casts
  obtain ⟨v4, h4, r5⟩ := h.pairs
  have t : Tle H (upd H a.r (.dK kvs)) := tle_upd h1 fun _ z => nomatch z
  refine ⟨?_, ⟨kvs, upd_same, hk.tle t rows3_nl⟩, ⟨l, ⟨k2, ?_, r2.tle t (sh_nl r3)⟩, fun n => by rw [hm]; exact r3.look n, r3.nd⟩, ⟨v3, ?_, by rw [e1]; exact r4.tle t (pairs_nl _)⟩, ⟨v4, ?_, by rw [e2]; exact r5.tle t (pairs_nl _)⟩, h.ne, h.nc⟩
  · rw [upd_ne (ne_of h.ins h1 (by intro z; cases z)), e3]; exact h.ins
  · rw [upd_ne (Ne.symm h.ne)]; exact h2
  · rw [upd_ne (ne_of h3 h1 (by intro z; cases z))]; exact h3
  · rw [upd_ne (ne_of h4 h1 (by intro z; cases z))]; exact h4
theorem mark_set {n m : Int} {r : Rw} : (S.setRow n r).mark m = if m = n then r.mrk else S.mark m := by
  unfold Stt.mark Stt.get Stt.setRow
  show ((putI S.rows n r).lookup m).bind (·.mrk) = _
  rw [lookup_putI]
  by_cases e : m = n
  · rw [if_pos e, if_pos e]; rfl
  · rw [if_neg e, if_neg e]
theorem rows3_set (S : Stt) (n : Int) (r : Rw) : rows3 (S.setRow n r) = putI (rows3 S) n (row3 r) := (putI_map row3 n r S.rows).symm
theorem rows4_set (S : Stt) (n : Int) (r : Rw) : rows4 (S.setRow n r) = putI (rows4 S) n (row4 r) := (putI_map row4 n r S.rows).symm
theorem HouseAt.put (h : HouseAt C H a S) {n : Int} {r : Rw} {v : V} {kvs : List (Key × V)} (hk : H a.r = some (.dK kvs)) (av : At H (row3 r) v) (hm : S.mark n = r.mrk) : HouseAt C (upd H a.r (.dK (putK kvs (Sum.inl n) v))) a (S.setRow n r) := by
  obtain ⟨k1, h1, r1⟩ := h.rows
  rw [hk] at h1
  cases h1
  refine h.rowsTo ?_ (fun m => ?_) rfl rfl rfl
  · rw [rows3_set]; exact r1.put n av
  · rw [mark_set]
    by_cases e : m = n
    · rw [if_pos e, e, hm]
    · rw [if_neg e]
end
end Ho

set_option Elab.async false
set_option linter.all false
set_option maxRecDepth 100000
set_option maxHeartbeats 4000000
/-! M5: loops over new lists; a thing and all in it, by closing. -/
namespace Ho
open PySem PySem.Spec PyProof.Rows L2
section
variable {K : PySem.W.Frag} {σ : L2.St} {H H' : Hp} {ta tb te tx td tl : TE} {t u tz : TS} {De : Ends} {d : D}
theorem s_forN {ds : List D} {g : TG} (h : EvN tl σ H ds) (k : ∀ a vs H1, H a = none → Same H H1 → H1 a = some (.lst vs) → Ats H1 ds vs → ∃ Pv : Nat → L2.St → Hp → Prop, Pv 0 σ H1 ∧ (∀ i σ' H', Pv i σ' H' → H' a = some (.lst vs)) ∧
      (∀ i v σ' H', vs[i]? = some v → Pv i σ' H' → g v σ' H' fun σ2 H2 => t { De with nx := Pv (i + 1), ct := Pv (i + 1), bk := De.nx } σ2 H2) ∧ ∀ σ' H', Pv vs.length σ' H' → De.nx σ' H') : tFor (iList K tl) g t De σ H :=
  h H (Same.refl H) _ fun p vs H1 n s hp hs => by
    obtain ⟨Pv, k1, k2, k3, k4⟩ := k _ _ H1 n s hp hs
    exact ⟨_, rfl, ⟨_, SqL.of hp⟩, for_list Pv k1 (fun i σ' H' _ p => SqL.of (k2 i σ' H' p)) k3 k4⟩
theorem q_forN {ds : List D} {g : TG} (h : EvN tl σ H ds) (k : ∀ a vs H1, H a = none → Same H H1 → H1 a = some (.lst vs) → Ats H1 ds vs → ∃ Pv : Nat → L2.St → Hp → Prop, Pv 0 σ H1 ∧ (∀ i σ' H', Pv i σ' H' → H' a = some (.lst vs)) ∧
      (∀ i v σ' H', vs[i]? = some v → Pv i σ' H' → g v σ' H' fun σ2 H2 => t { De with nx := Pv (i + 1), ct := Pv (i + 1), bk := tz De } σ2 H2) ∧ ∀ σ' H', Pv vs.length σ' H' → tz De σ' H') : tSeq (tFor (iList K tl) g t) tz De σ H :=
  s_forN (De := { De with nx := tz De }) h k
end
section
variable {K : PySem.W.Frag} {σ : L2.St} {H H' : Hp} {ta tb te tx td tl : TE} {t u tz : TS} {De : Ends} {d : D}
theorem q_if2 {c : TT} {b : Bool} (R : L2.St → Prop) (h : EvT c σ H b) (k : ∀ σ' H1, R σ' → Same H H1 → tz De σ' H1) (h1 : b = true → (∀ σ' H1, R σ' → Same H H1 → tz De σ' H1) → ∀ H1, Same H H1 → t { De with nx := tz De } σ H1)
    (h2 : b = false → (∀ σ' H1, R σ' → Same H H1 → tz De σ' H1) → ∀ H1, Same H H1 → u { De with nx := tz De } σ H1) : tSeq (tIfS c t u) tz De σ H := q_if h (fun e => h1 e k) fun e => h2 e k
theorem q_ifN {c : TT} {b : Bool} (h : EvT c σ H b) (h1 : b = true → ∀ H1, Same H H1 → t { De with nx := tz De } σ H1) (h2 : b = false → ∀ H1, Same H H1 → tz De σ H1) : tSeq (tIfS c t tNext) tz De σ H := q_if h h1 h2
theorem s_ifN {c : TT} {b : Bool} (h : EvT c σ H b) (h1 : b = true → ∀ H1, Same H H1 → t De σ H1) (h2 : b = false → ∀ H1, Same H H1 → De.nx σ H1) : tIfS c t tNext De σ H := s_if h h1 h2
theorem s_while {c : TT} (W : Nat → L2.St → Hp → Prop) (m0 : Nat) (h0 : W m0 σ H)
    (hs : ∀ m σ' H', W m σ' H' → ∃ b, EvT c σ' H' b ∧ (b = true → ∀ H1, Same H' H1 → t { De with nx := fun σ2 H2 => ∃ m', m' < m ∧ W m' σ2 H2, ct := fun σ2 H2 => ∃ m', m' < m ∧ W m' σ2 H2, bk := De.nx } σ' H1) ∧ (b = false → ∀ H1, Same H' H1 → De.nx σ' H1)) : tWhile c t De σ H :=
  ⟨W, ⟨m0, h0⟩, fun m σ' H' hw => by
    obtain ⟨b, hb, h1, h2⟩ := hs m σ' H' hw
    refine hb H' (Same.refl H') _ fun H1 e => ?_
    cases b with
    | true => exact ⟨fun σ2 H2 => ∃ m', m' < m ∧ W m' σ2 H2, fun _ _ z => z, h1 rfl H1 e⟩
    | false => exact h2 rfl H1 e⟩
/-- over the list at L -/
theorem s_forR {L : Addr} {vs : List V} {g : TG} (h : EvD tl σ H (.ref L)) (hp : H L = some (.lst vs)) (k : ∀ H1, Same H H1 → ∃ Pv : Nat → L2.St → Hp → Prop, Pv 0 σ H1 ∧ (∀ i σ' H', Pv i σ' H' → H' L = some (.lst vs)) ∧
      (∀ i v σ' H', vs[i]? = some v → Pv i σ' H' → g v σ' H' fun σ2 H2 => t { De with nx := Pv (i + 1), ct := Pv (i + 1), bk := De.nx } σ2 H2) ∧ ∀ σ' H', Pv vs.length σ' H' → De.nx σ' H') : tFor (iList K tl) g t De σ H :=
  h H (Same.refl H) _ fun v H1 s av => by
    cases av
    obtain ⟨Pv, k1, k2, k3, k4⟩ := k H1 s
    exact ⟨_, rfl, ⟨_, SqL.of (s _ _ hp)⟩, for_list Pv k1 (fun i σ' H' _ p => SqL.of (k2 i σ' H' p)) k3 k4⟩
theorem q_forR {L : Addr} {vs : List V} {g : TG} (h : EvD tl σ H (.ref L)) (hp : H L = some (.lst vs)) (k : ∀ H1, Same H H1 → ∃ Pv : Nat → L2.St → Hp → Prop, Pv 0 σ H1 ∧ (∀ i σ' H', Pv i σ' H' → H' L = some (.lst vs)) ∧
      (∀ i v σ' H', vs[i]? = some v → Pv i σ' H' → g v σ' H' fun σ2 H2 => t { De with nx := Pv (i + 1), ct := Pv (i + 1), bk := tz De } σ2 H2) ∧ ∀ σ' H', Pv vs.length σ' H' → tz De σ' H') : tSeq (tFor (iList K tl) g t) tz De σ H :=
  s_forR (De := { De with nx := tz De }) h hp k
/-- over a tuple at L -/
theorem q_forTR {L : Addr} {vs : List V} {g : TG} (h : EvD tl σ H (.ref L)) (hp : H L = some (.tup vs)) (k : ∀ H1, Same H H1 → ∃ Pv : Nat → L2.St → Hp → Prop, Pv 0 σ H1 ∧ (∀ i σ' H', Pv i σ' H' → H' L = some (.tup vs)) ∧
      (∀ i v σ' H', vs[i]? = some v → Pv i σ' H' → g v σ' H' fun σ2 H2 => t { De with nx := Pv (i + 1), ct := Pv (i + 1), bk := tz De } σ2 H2) ∧ ∀ σ' H', Pv vs.length σ' H' → tz De σ' H') : tSeq (tFor (iTup K tl) g t) tz De σ H :=
  h H (Same.refl H) _ fun v H1 s av => by
    cases av
    obtain ⟨Pv, k1, k2, k3, k4⟩ := k H1 s
    exact ⟨_, rfl, ⟨_, SqT.of (s _ _ hp)⟩, for_tup (D := { De with nx := tz De }) Pv k1 (fun i σ' H' _ p => SqT.of (k2 i σ' H' p)) k3 k4⟩
end
section
variable {S : Stt} {n : Int} {f : List Int}
theorem Stt.Desc.there (h : S.Desc n x) : S.there x = true := by
  cases h with
  | self h => exact h
  | step e m _ _ => unfold Stt.there; rw [e]; show Option.isNone _ = true; rw [m]; rfl
structure Clo (S : Stt) (n : Int) (f : List Int) : Prop where
  nd : f.Nodup
  me : n ∈ f
  ds : ∀ x ∈ f, S.Desc n x
def sat (S : Stt) (f : List Int) (x : Int) : Bool := !decide (x ∈ f) && (decide (∃ p ∈ f, (S.rw x).par = some p) && decide (S.mark x = none))
theorem Clo.len (c : Clo S n f) : f.length ≤ S.keys.length := nd_len c.nd fun x hx => there_key (c.ds x hx).there
theorem Clo.one (h : S.there n = true) : Clo S n [n] := ⟨by simp, by simp, fun x hx => by rw [List.mem_singleton] at hx; rw [hx]; exact .self h⟩
theorem sat_out {x : Int} (h : sat S f x = true) : x ∉ f := by
  unfold sat at h
  simp only [Bool.and_eq_true, Bool.not_eq_true', decide_eq_false_iff_not] at h
  exact h.1
theorem Clo.more (c : Clo S n f) {x : Int} (hx : x ∈ S.keys) (h : sat S f x = true) : Clo S n (f ++ [x]) := by
  have ho := sat_out h
  unfold sat at h
  simp only [Bool.and_eq_true, decide_eq_true_eq] at h
  obtain ⟨_, ⟨p, hp, e⟩, m⟩ := h
  refine ⟨?_, List.mem_append_left _ c.me, fun y hy => ?_⟩
  · rw [List.nodup_append]
    exact ⟨c.nd, by simp, fun a ha b hb z => ho (by rw [List.mem_singleton] at hb; rw [← hb, ← z]; exact ha)⟩
  · rcases List.mem_append.mp hy with z | z
    · exact c.ds y z
    · rw [List.mem_singleton] at z
      subst z
      have g := get_rw hx
      refine .step g ?_ e (c.ds p hp)
      unfold Stt.mark at m
      rw [g] at m
      exact m
theorem Clo.all (c : Clo S n f) (h : ∀ x ∈ S.keys, sat S f x = false) {x : Int} (d : S.Desc n x) : x ∈ f := by
  induction d with
  | self _ => exact c.me
  | @step x p r e m q dp ih =>
    refine Classical.byContradiction fun no => ?_
    have z := h x (key_get e)
    have y : sat S f x = true := by
      unfold sat
      rw [rw_get e, show S.mark x = none by unfold Stt.mark; rw [e]; exact m]
      simp only [Bool.and_eq_true, Bool.not_eq_true', decide_eq_false_iff_not, decide_eq_true_eq]
      exact ⟨no, ⟨p, ih, q⟩, trivial⟩
    rw [y] at z
    cases z
theorem mem_within {x : Int} : x ∈ S.within n ↔ S.Desc n x := by
  unfold Stt.within
  rw [List.mem_filter]
  simp only [decide_eq_true_eq]
  exact ⟨fun h => h.2, fun h => ⟨there_key h.there, h⟩⟩
theorem within_nd (wf : S.Wf) (n : Int) : (S.within n).Nodup := wf.nd.filter _
theorem within_asc (wf : S.Wf) (n : Int) : (S.within n).Pairwise (· < ·) := wf.asc.filter _
theorem within_len (wf : S.Wf) (n : Int) : (S.within n).length < 64 := Nat.lt_of_le_of_lt (List.length_filter_le _ _) wf.klen
theorem within_key {x : Int} (h : x ∈ S.within n) : x ∈ S.keys := (List.mem_filter.mp h).1
theorem Clo.within (c : Clo S n f) (wf : S.Wf) (h : ∀ x ∈ S.keys, sat S f x = false) {out : List Int} (p : out.Perm f) (q : out.Pairwise (· ≤ ·)) : out = S.within n := by
  refine sorted_unique (p.trans ?_) q (pw_lt_le (within_asc wf n))
  rw [List.perm_ext_iff_of_nodup c.nd (within_nd wf n)]
  exact fun x => ⟨fun hx => mem_within.mpr (c.ds x hx), fun hx => c.all h (mem_within.mp hx)⟩
end
end Ho

set_option Elab.async false
set_option linter.all false
set_option maxRecDepth 100000
set_option maxHeartbeats 4000000
/-! B3: things are made, called otherwise, moved. -/
namespace Ho
open PySem PySem.Spec PyProof.Rows L2
section
variable {P : Program} {w : World} {K : PySem.W.Frag} {mg : Str → Option Value} {base : Heap} {σ : L2.St} {H H' : Hp} {ta tb te tx td tl : TE} {a : HA} {S : Stt} {E : XK}
/-- what a deed gives -/
def Res (K : PySem.W.Frag) (a : HA) (o : Out × Stt) (H : Hp) (Q : VK) (E : XK) : Prop := match o.1 with
  | .val d => ∀ v a' H', a'.p = a.p → HouseAt (cH K) H' a' o.2 → Mv a.all a'.all H H' → At H' d v → Q v H'
  | .err k => RaiE (cE K k.nm) H E
theorem Res.mono {o : Out × Stt} {Q : VK} (r : Res K a o H Q E) (s : Same H H') : Res K a o H' Q E := by
  unfold Res at r ⊢
  split <;> rename_i e <;> rw [e] at r <;> dsimp only at r ⊢
  · exact fun v a' H2 e2 h m at_ => r v a' H2 e2 h ((Mv.of s).trans m) at_
  · exact RaiE.mono r s
/-! ### whole -/
theorem e_markO (T : Tx K mg) (h : HouseRd (cH K) H a S) {x : Int} (ho : EvD ta σ H (.ref a.p)) (hx : EvD te σ H (.int x)) : EvD (tDGet2 (tFld K ta "shelved") te (tC .non)) σ H (oi (S.mark x)) := by
  obtain ⟨l, hl, sh⟩ := h.shl
  refine (ev_dget2 hl (e_shelved T h ho) hx ev_non).is ?_
  rw [sh.look]
  cases S.mark x <;> rfl
def sp_h_whole (K : PySem.W.Frag) : Sp := fun vs H Q _ => ∃ (a : HA) (S : Stt) (n : Int), vs = [.ref a.p, .int n] ∧ HouseRd (cH K) H a S ∧ S.Wf ∧ S.there n = true ∧ RetL ((S.within n).map D.int) H Q
theorem there_mark {n : Int} (h : S.there n = true) : S.mark n = none := by
  obtain ⟨r, e, m⟩ := there_get h
  unfold Stt.mark; rw [e]; exact m
theorem sc_h_whole : FnScope ["self", "number", "found", "many", "mark", "one"] ["self", "number"] (defScope s_h_whole) := ⟨rfl, rfl, rfl, by decide +kernel, rfl, by decide +kernel, by decide +kernel⟩
theorem ok_h_whole (T : Tx K mg) : FnR P w K mg base (L2.CX P w) 1 (He.ma K (cH K) "whole") (sp_h_whole K) := by
  refine fnr (F_h_whole T) sc_h_whole (fun _ _ _ _ _ _ us hl => match us, hl with | [_, _], _ => rfl) (fun vs H Q E h => by obtain ⟨_, _, _, rfl, _⟩ := h; rfl) (fun cdv A outer s H vs Q E hr h => ?_)
  refine ⟨_, PSs.nox (pss_cons (ps_set (i := 2) sc_h_whole.nd rfl (Or.inl rfl) (pe_lst (pa_cons (pv 1) pa_nil))) (pss_cons (ps_set (i := 3) sc_h_whole.nd rfl (Or.inl rfl) pe_int) (pss_cons (ps_set (i := 4) sc_h_whole.nd rfl (Or.inl rfl) (pe_dget2 (hu_of hr) (fldK K (pv 0)) (pv 1) pe_non ⟨rfl, rfl, rfl, rfl⟩)) (pss_cons (ps_while PassesOwn.never (pt_cmpR op_ne (pe_callB (lenK K) rfl (T_len T) bt_len (pa_cons (pv 2) pa_nil)) (pv 3) (nomark _)) (pss_cons (ps_set (i := 3) sc_h_whole.nd rfl (Or.inl rfl) (pe_callB (lenK K) rfl (T_len T) bt_len (pa_cons (pv 2) pa_nil))) (pss_one (ps_for PassesOwn.never rfl (pilK K (pe_callB (call_sortedDI rfl) rfl (T_sorted T) bt_sorted (pa_cons (fldK K (pv 0)) pa_nil))) (pg_name (i := 5) sc_h_whole.nd rfl (Or.inl rfl)) (pss_one (ps_if (PW.pt (pw_and (pt_cmpR (niK K) (pv 5) (pv 2) rfl) (pw_and (pt_cmpR (inK K) (pe_ix (ixtK K) (pe_dget (hu_of hr) (fldK K (pv 0)) (pv 5) (fun _ _ => rfl)) pe_int (fun _ _ => rfl)) (pv 2) rfl) (pw_and1 (pt_cmpR op_eq (pe_dget2 (hu_of hr) (fldK K (pv 0)) (pv 5) pe_non ⟨rfl, rfl, rfl, rfl⟩) (pv 4) (nomark _)))))) (pss_one (ps_expr (bmK K PySem.F.plainAttrs_list PySem.F.slot_list_append PySem.F.type_list_append mt_append (pv 2) (pa_cons (pv 5) pa_nil)))) pss_nil)))))) (pss_one (ps_ret (pe_callB (srtK K) rfl (T_sorted T) bt_sorted (pa_cons (pv 2) pa_nil)))))))), ?_⟩
  obtain ⟨a, S, n, rfl, h, wf, hn, k⟩ := h
  refine q_asgN (en_lst (ea_cons (ev_vi rfl) ea_nil) le_lit) fun L vs H1 hL s1 h1 as => ?_
  have e := Ats.ints (ns := [n]) as
  subst e
  refine q_asg (d := .int 0) ev_int fun v H2 s2 av => ?_
  cases av
  refine q_asg ((e_markO T (h.mono (s1.trans s2)) (ev_vr rfl) (ev_vi rfl)).is (congrArg oi (there_mark hn))) fun v H3 s3 av => ?_
  cases av
  have hL3 : H3 L = some (.lst [.int n]) := s3 _ _ (s2 _ _ h1)
  refine q_while (fun m σ' H' => ∃ (f : List Int) (j : Nat) (o : Option V), σ' = [some (.ref a.p), some (.int n), some (.ref L), some (.int (j : Int)), some .non, o] ∧ Same H H' ∧ H' L = some (.lst (f.map V.int)) ∧ Clo S n f ∧ j ≤ f.length ∧ m = S.keys.length + 1 - j ∧ (j = f.length → ∀ x ∈ S.keys, sat S f x = false)) (S.keys.length + 1)
    ⟨[n], 0, _, rfl, (s1.trans s2).trans s3, hL3, Clo.one hn, by simp, rfl, fun z => by simp at z⟩ fun m σ' H' hw => ?_
  obtain ⟨f, j, o, rfl, sf, hf, c, hj, rfl, hd⟩ := hw
  have elen : ∀ (σ : L2.St) (G : Hp), σ[2]? = some (some (.ref L)) → G L = some (.lst (f.map V.int)) → EvD (tCB (rLenS K) (tCons (tVar 2) tNil)) σ G (.int (f.length : Int)) := fun σ G q z => (ev_lenL (ev_var q (.lst z (ats_ints f)))).is (by rw [List.length_map])
  refine ⟨_, et_test (ev_neI (elen _ _ rfl hf) (ev_vi rfl)), fun b H4 s4 => ?_, fun b H4 s4 => ?_⟩
  · have hne : j < f.length := by
      simp only [Bool.not_eq_true', decide_eq_false_iff_not] at b
      omega
    refine q_asg (elen _ _ rfl (s4 _ _ hf)) fun v H5 s5 av => ?_
    cases av
    have s05 := (sf.trans s4).trans s5
    have hf5 := s5 _ _ (s4 _ _ hf)
    have hcl := c.len
    have hkl := wf.klen
    refine s_forN (en_srtRows T (h.mono s05) wf (ev_vr rfl)) fun A ks H6 hA s6 h6 as6 => ?_
    have e6 := Ats.ints as6
    subst e6
    have nAL : L ≠ A := fun z => by rw [← z, hf5] at hA; cases hA
    refine ⟨fun i σ' H' => ∃ (f' : List Int) (o : Option V), σ' = [some (.ref a.p), some (.int n), some (.ref L), some (.int (f.length : Int)), some .non, o] ∧ Same H H' ∧ H' L = some (.lst (f'.map V.int)) ∧ H' A = some (.lst (S.keys.map V.int)) ∧ Clo S n f' ∧ f.length ≤ f'.length ∧
      (f'.length = f.length → f' = f ∧ ∀ q x, q < i → S.keys[q]? = some x → sat S f x = false), ⟨f, _, rfl, s05.trans s6, s6 _ _ hf5, h6, c, Nat.le_refl _, fun _ => ⟨rfl, fun q x z => absurd z (Nat.not_lt_zero q)⟩⟩, fun i σ' H' p => ?_, fun i v σ' H' hv p => ?_, fun σ' H' p => ?_⟩
    · obtain ⟨f', o, _, _, _, z, _⟩ := p
      exact z
    · obtain ⟨f', o, rfl, p1, p2, p3, p4, p5, p6⟩ := p
      rw [List.getElem?_map] at hv
      obtain ⟨x, hx, ev⟩ := Option.map_eq_some_iff.mp hv
      subst ev
      have hxk : x ∈ S.keys := List.mem_of_getElem? hx
      have hgx := get_rw hxk
      have hfl : ∀ {G : Hp}, G L = some (.lst (f'.map V.int)) → At G (.lst (f'.map D.int)) (.ref L) := fun z => .lst z (ats_ints f')
      show tIfS _ _ _ _ _ _
      refine s_if (b := sat S f' x) ((et_and (et_test (ev_niInt (ev_var rfl (.int x)) (ev_var rfl (hfl p2)))) fun b1 => et_and (et_test (ev_inI (e_par T (h.mono p1) hgx (ev_vr rfl) (ev_var rfl (.int x))) (ev_var rfl (hfl p2)))) fun b2 => et_test (ev_eq (b := none) (e_markO T (h.mono p1) (ev_vr rfl) (ev_var rfl (.int x))) (ev_var rfl .non))).is rfl) (fun b H7 s7 => ?_) fun b H7 s7 => ?_
      · have c' := p4.more hxk b
        have l' := p4.len
        refine s_app (s7 _ _ p2) (ev_vr rfl) (ev_var rfl (.int x)) (by rw [List.length_map]; omega) fun v H8 s8 av => ?_
        cases av
        refine ⟨f' ++ [x], _, rfl, Same.mut ((p1.trans s7).trans s8) hL, ?_, ?_, c', by rw [List.length_append]; omega, fun z => ?_⟩
        · rw [upd_same, List.map_append]; rfl
        · rw [upd_ne (Ne.symm nAL)]; exact s8 _ _ (s7 _ _ p3)
        · rw [List.length_append, List.length_singleton] at z; omega
      · refine ⟨f', _, rfl, p1.trans s7, s7 _ _ p2, s7 _ _ p3, p4, p5, fun z => ?_⟩
        obtain ⟨q1, q2⟩ := p6 z
        refine ⟨q1, fun q y hq hy => ?_⟩
        rcases Nat.lt_or_eq_of_le (Nat.le_of_lt_succ hq) with w | w
        · exact q2 q y w hy
        · rw [w, hx] at hy
          cases hy
          rw [← q1]; exact b
    · obtain ⟨f', o, rfl, p1, p2, p3, p4, p5, p6⟩ := p
      have l' := p4.len
      refine ⟨S.keys.length + 1 - f.length, by omega, f', f.length, o, rfl, p1, p2, p4, p5, rfl, fun z x hx => ?_⟩
      obtain ⟨q1, q2⟩ := p6 z.symm
      obtain ⟨q, hq⟩ := List.mem_iff_getElem?.mp hx
      rw [q1]
      refine q2 q x ?_ hq
      rw [List.length_map]
      exact (List.getElem?_eq_some_iff.mp hq).1
  · have hje : j = f.length := by
      simp only [Bool.not_eq_false', decide_eq_true_eq] at b
      omega
    refine s_retN (ev_srtI (ev_var rfl (.lst (s4 _ _ hf) (ats_ints f))) fun out o1 o2 => c.within wf (hd hje) o1 o2) (k.mono (sf.trans s4))
theorem en_whole (h : HouseRd (cH K) H a S) (wf : S.Wf) {n : Int} (hn : S.there n = true) (ho : EvD ta σ H (.ref a.p)) (hx : EvD te σ H (.int n)) : EvN (tMethR (cH K) "whole" (sp_h_whole K) E ta (tCons te tNil)) σ H ((S.within n).map D.int) :=
  en_meth h.ins (by kernel_rfl) ho (ea_cons hx ea_nil) fun vs H1 s as Q q => by
    cases as with | cons a1 as => cases as; cases a1; exact ⟨a, S, n, rfl, h.mono s, wf, hn, q⟩
end
end Ho

set_option Elab.async false
set_option linter.all false
set_option maxRecDepth 100000
set_option maxHeartbeats 4000000
/-! B4: things are made, called otherwise, moved; ties. -/
namespace Ho
open PySem PySem.Spec PyProof.Rows L2
section
variable {P : Program} {w : World} {K : PySem.W.Frag} {mg : Str → Option Value} {base : Heap} {σ : L2.St} {H H' : Hp} {ta tb te tx td tl : TE} {a : HA} {S S' : Stt} {E : XK} {De : Ends} {tz : TS}
theorem res_val {o : Out × Stt} {d : D} {Q : VK} (r : Res K a o H Q E) (e : o = (.val d, S')) : ∀ v a' H', a'.p = a.p → HouseAt (cH K) H' a' S' → Mv a.all a'.all H H' → At H' d v → Q v H' := by subst e; exact r
theorem res_err {o : Out × Stt} {k : Kd} {Q : VK} (r : Res K a o H Q E) (e : o = (.err k, S')) : RaiE (cE K k.nm) H E := by subst e; exact r
/-- a field of the house is stored -/
theorem h_fld {f : Str} {v : V} {d : D} (T : Tx K mg) (nf : NoAttr K (cH K) f) (h : HouseAt (cH K) H a S) (e : putF f v (hFs a S) = hFs a S') (e1 : S'.rows = S.rows) (e2 : S'.casts = S.casts) (e3 : S'.ties = S.ties) (hv : EvD tx σ H d) (hd : ∀ G u, At G d u → u = v) (ho : EvD ta σ H (.ref a.p))
    (k : ∀ H1, HouseAt (cH K) H1 a S' → Mv a.all a.all H H1 → tz De σ H1) : tSeq (sFld K ta tx f) tz De σ H :=
  q_fld (T_cls T) nf h.ins (le_lit (by kernel_rfl)) hv ho fun u H1 s au => by
    cases hd _ _ au
    rw [e]
    have h1 := h.mono s
    exact k _ (h1.flds e1 e2 e3) (mv_upd s (by simp [HA.all]) h1.ins fun _ z => nomatch z)
/-- a row is put -/
theorem h_row {n : Int} {r : Rw} (h : HouseAt (cH K) H a S) (hm : S.mark n = r.mrk) (hl : S.rows.length < 10000) (hv : EvD tx σ H (row3 r)) (ho : EvD td σ H (.ref a.r)) (hi : EvD te σ H (.int n))
    (k : ∀ H1, HouseAt (cH K) H1 a (S.setRow n r) → Mv a.all a.all H H1 → De.nx σ H1) : sDPut td te tx De σ H := by
  obtain ⟨kvs, h1, h2⟩ := h.rows
  refine s_put kk_int h1 ?_ hv ho hi fun v H1 s av => ?_
  · rw [← h2.length]; unfold rows3; rw [List.length_map]; omega
  · have h1' := h.mono s
    exact k _ (h1'.put (s _ _ h1) av hm) (mv_upd s (by simp [HA.all]) (s _ _ h1) fun _ z => nomatch z)
theorem hq_row {n : Int} {r : Rw} (h : HouseAt (cH K) H a S) (hm : S.mark n = r.mrk) (hl : S.rows.length < 10000) (hv : EvD tx σ H (row3 r)) (ho : EvD td σ H (.ref a.r)) (hi : EvD te σ H (.int n))
    (k : ∀ H1, HouseAt (cH K) H1 a (S.setRow n r) → Mv a.all a.all H H1 → tz De σ H1) : tSeq (sDPut td te tx) tz De σ H := h_row (De := { De with nx := tz De }) h hm hl hv ho hi k
theorem e_rowsR (T : Tx K mg) (h : HouseAt (cH K) H a S) (ho : EvD ta σ H (.ref a.p)) : EvD (tFld K ta "rows") σ H (.ref a.r) := e_rows T h.rd ho
theorem mark_out {n : Int} (h : n ∉ S.keys) : S.mark n = none := by
  unfold Stt.mark Stt.get
  rw [lookup_none.mpr h]; rfl
theorem addRow_set {r : Rw} (h : S.count + 1 ∉ S.keys) : ({ S with count := S.count + 1 } : Stt).setRow (S.count + 1) r = S.addRow r := by
  unfold Stt.setRow Stt.addRow
  rw [putI_new h]
theorem ev_row3 {r : Rw} {t1 t2 t3 : TE} (h1 : EvD t1 σ H (oi r.par)) (h2 : EvD t2 σ H (.str r.nm)) (h3 : EvD t3 σ H (os r.tx)) : EvD (tTup (tCons t1 (tCons t2 (tCons t3 tNil)))) σ H (row3 r) := ev_tup (ea_cons h1 (ea_cons h2 (ea_cons h3 ea_nil))) le_lit
theorem ev_vos {i : Nat} {n : Option Str} (h : σ[i]? = some (some (osV n))) : EvD (tVar i) σ H (os n) := ev_var h (at_os n)
/-! ### new -/
def sp_h_new (K : PySem.W.Frag) : Sp := fun vs H Q _ => ∃ (a : HA) (S : Stt) (par : Option Int) (nm : Str) (tx : Option Str), vs = [.ref a.p, oiV par, .str nm, osV tx] ∧ HouseAt (cH K) H a S ∧ S.count + 1 ∉ S.keys ∧ S.rows.length < 10000 ∧
  ∀ H', HouseAt (cH K) H' a (S.addRow ⟨par, nm, tx, none⟩) → Mv a.all a.all H H' → Q (.int (S.count + 1)) H'
theorem sc_h_new : FnScope ["self", "parent", "name", "text"] ["self", "parent", "name", "text"] (defScope s_h_new) := ⟨rfl, rfl, rfl, by decide +kernel, rfl, by decide +kernel, by decide +kernel⟩
theorem ok_h_new (T : Tx K mg) : FnR P w K mg base (L2.CX P w) 1 (He.ma K (cH K) "new") (sp_h_new K) := by
  refine fnr (F_h_new T) sc_h_new (fun _ _ _ _ _ _ us hl => match us, hl with | [_, _, _, _], _ => rfl) (fun vs H Q E h => by obtain ⟨_, _, _, _, _, rfl, _⟩ := h; rfl) (fun cdv A outer s H vs Q E hr h => ?_)
  refine ⟨_, PSs.nox (pss_cons (sfldK K (pv 0) (pe_op op_add (fldK K (pv 0)) pe_int)) (pss_cons (ps_dput (hu_of hr) (fldK K (pv 0)) (fldK K (pv 0)) (pe_tup (pa_cons (pv 1) (pa_cons (pv 2) (pa_cons (pv 3) pa_nil)))) rfl) (pss_one (ps_ret (fldK K (pv 0)))))), ?_⟩
  obtain ⟨a, S, par, nm, tx, rfl, h, nk, ln, k⟩ := h
  refine h_fld T (T_f_count T) h (S' := { S with count := S.count + 1 }) (v := .int (S.count + 1)) (by kernel_rfl) rfl rfl rfl (ev_add (e_count T h.rd (ev_vr rfl)) ev_int) d_int (ev_vr rfl) fun H1 h1 m1 => ?_
  refine hq_row (n := S.count + 1) (r := ⟨par, nm, tx, none⟩) h1 (mark_out nk) ln (ev_row3 (ev_vo rfl) (ev_vs rfl) (ev_vos rfl)) (e_rowsR T h1 (ev_vr rfl)) (e_count T h1.rd (ev_vr rfl)) fun H2 h2 m2 => ?_
  rw [addRow_set nk] at h2
  refine s_ret (e_count T h2.rd (ev_vr rfl)) fun v H3 s3 av => ?_
  cases av
  exact k H3 (h2.mono s3) ((m1.trans m2).trans (Mv.of s3))
theorem c_new {Q : VK} {t1 t2 t3 : TE} {par : Option Int} {nm : Str} {tx : Option Str} (h : HouseAt (cH K) H a S) (nk : S.count + 1 ∉ S.keys) (ln : S.rows.length < 10000) (ho : EvD ta σ H (.ref a.p)) (h1 : EvD t1 σ H (oi par)) (h2 : EvD t2 σ H (.str nm)) (h3 : EvD t3 σ H (os tx))
    (k : ∀ H', HouseAt (cH K) H' a (S.addRow ⟨par, nm, tx, none⟩) → Mv a.all a.all H H' → Q (.int (S.count + 1)) H') : tMethR (cH K) "new" (sp_h_new K) E ta (tCons t1 (tCons t2 (tCons t3 tNil))) σ H Q :=
  c_meth h.ins (by kernel_rfl) ho (ea_cons h1 (ea_cons h2 (ea_cons h3 ea_nil))) fun vs H1 s as => by
    cases as with | cons a1 as => cases as with | cons a2 as => cases as with | cons a3 as => cases as; cases at_oi' a1; cases a2; cases at_os' a3; exact ⟨a, S, par, nm, tx, rfl, h.mono s, nk, ln, fun H' h' m' => k H' h' ((Mv.of s).trans m')⟩
/-! ### make -/
def sp_h_make (K : PySem.W.Frag) : Sp := fun vs H Q E => ∃ (a : HA) (S : Stt) (par : Option Int) (nm : Str) (b : Bool), vs = [.ref a.p, oiV par, .str nm, .bl b] ∧ HouseAt (cH K) H a S ∧ S.Wf ∧ S.count + 1 ∉ S.keys ∧ Res K a (S.make par nm b) H Q E
theorem sc_h_make : FnScope ["self", "parent", "name", "is_box"] ["self", "parent", "name", "is_box"] (defScope s_h_make) := ⟨rfl, rfl, rfl, by decide +kernel, rfl, by decide +kernel, by decide +kernel⟩
theorem ok_h_make (T : Tx K mg) : FnR P w K mg base (L2.CX P w) 4 (He.ma K (cH K) "make") (sp_h_make K) := by
  refine fnr (F_h_make T) sc_h_make (fun _ _ _ _ _ _ us hl => match us, hl with | [_, _, _, _], _ => rfl) (fun vs H Q E h => by obtain ⟨_, _, _, _, _, rfl, _⟩ := h; rfl) (fun cdv A outer s H vs Q E hr h => ?_)
  refine ⟨_, (pss_cons (ps_expr (pe_methR (pv 0) (T_cls T) (T_h_must_box T) (ok_h_must_box T) (hr.mono (by decide)) (passes_call (takes_of rfl rfl rfl rfl) (fun _ _ _ _ z => z)) (pa_cons (pv 1) pa_nil))) (pss_cons (ps_expr (pe_methR (pv 0) (T_cls T) (T_h_must_be_free T) (ok_h_must_be_free T) (hr.mono (by decide)) (passes_call (takes_of rfl rfl rfl rfl) (fun _ _ _ _ z => z)) (pa_cons (pv 1) (pa_cons (pv 2) (pa_cons pe_non pa_nil))))) (pss_cons (ps_if (truK K (pv 3)) (pss_one (ps_ret (pe_methR (pv 0) (T_cls T) (T_h_new T) (ok_h_new T) (hr.mono (by decide)) passL (pa_cons (pv 1) (pa_cons (pv 2) (pa_cons pe_non pa_nil)))))) pss_nil) (pss_one (ps_ret (pe_methR (pv 0) (T_cls T) (T_h_new T) (ok_h_new T) (hr.mono (by decide)) passL (pa_cons (pv 1) (pa_cons (pv 2) (pa_cons pe_str pa_nil))))))))), ?_⟩
  obtain ⟨a, S, par, nm, b, rfl, h, wf, nk, k⟩ := h
  have ln := wf.few
  unfold Stt.make at k
  refine m_must_box h.rd (ev_vr rfl) (ev_vo rfl) (fun q => res_err (S' := S) k (by rw [if_pos q])) fun q H1 s1 => ?_
  rw [if_neg (by rw [q]; decide)] at k
  have h1 := h.mono s1
  refine m_must_be_free (but := none) h1 wf (ev_vr rfl) (ev_vo rfl) (ev_vs rfl) ev_non (fun z => RaiE.mono (res_err (S' := S) k (by rw [if_pos z])) s1) fun z H2 s2 => ?_
  rw [if_neg z] at k
  have h2 := h1.mono s2
  refine q_if (b := b) (et_trB (ev_vb rfl)) (fun e H3 s3 => ?_) fun e H3 s3 => ?_
  · subst e
    exact c_new (tx := none) (h2.mono s3) nk (by omega) (ev_vr rfl) (ev_vo rfl) (ev_vs rfl) ev_non fun H4 h4 m4 => res_val k rfl _ a H4 rfl h4 ((Mv.of ((s1.trans s2).trans s3)).trans m4) (.int _)
  · subst e
    exact c_new (tx := some "") (h2.mono s3) nk (by omega) (ev_vr rfl) (ev_vo rfl) (ev_vs rfl) ev_str fun H4 h4 m4 => res_val k rfl _ a H4 rfl h4 ((Mv.of ((s1.trans s2).trans s3)).trans m4) (.int _)
/-! ### rename, move -/
theorem rw_mark {n : Int} (h : n ∈ S.keys) : S.mark n = (S.rw n).mrk := by unfold Stt.mark; rw [get_rw h]; rfl
def sp_h_rename (K : PySem.W.Frag) : Sp := fun vs H Q E => ∃ (a : HA) (S : Stt) (n : Int) (nm : Str), vs = [.ref a.p, .int n, .str nm] ∧ HouseAt (cH K) H a S ∧ S.Wf ∧ Res K a (S.rename n nm) H Q E
theorem sc_h_rename : FnScope ["self", "number", "name", "parent", "old", "text"] ["self", "number", "name"] (defScope s_h_rename) := ⟨rfl, rfl, rfl, by decide +kernel, rfl, by decide +kernel, by decide +kernel⟩
theorem ok_h_rename (T : Tx K mg) : FnR P w K mg base (L2.CX P w) 4 (He.ma K (cH K) "rename") (sp_h_rename K) := by
  refine fnr (F_h_rename T) sc_h_rename (fun _ _ _ _ _ _ us hl => match us, hl with | [_, _, _], _ => rfl) (fun vs H Q E h => by obtain ⟨_, _, _, _, rfl, _⟩ := h; rfl) (fun cdv A outer s H vs Q E hr h => ?_)
  refine ⟨_, (pss_cons (ps_expr (pe_methR (pv 0) (T_cls T) (T_h_must T) (ok_h_must T) (hr.mono (by decide)) (passes_call (takes_of rfl rfl rfl rfl) (fun _ _ _ _ z => z)) (pa_cons (pv 1) pa_nil))) (pss_cons (ps_asg (pe_dget (hu_of hr) (fldK K (pv 0)) (pv 1) (fun _ _ => rfl)) (gtupK K (n := 3) rfl (pgs_cons (pg_name (i := 3) sc_h_rename.nd rfl (Or.inl rfl)) (pgs_cons (pg_name (i := 4) sc_h_rename.nd rfl (Or.inl rfl)) (pgs_cons (pg_name (i := 5) sc_h_rename.nd rfl (Or.inl rfl)) pgs_nil))))) (pss_cons (ps_expr (pe_methR (pv 0) (T_cls T) (T_h_must_be_free T) (ok_h_must_be_free T) (hr.mono (by decide)) (passes_call (takes_of rfl rfl rfl rfl) (fun _ _ _ _ z => z)) (pa_cons (pv 3) (pa_cons (pv 2) (pa_cons (pv 1) pa_nil))))) (pss_one (ps_dput (hu_of hr) (fldK K (pv 0)) (pv 1) (pe_tup (pa_cons (pv 3) (pa_cons (pv 2) (pa_cons (pv 5) pa_nil)))) rfl))))), ?_⟩
  obtain ⟨a, S, n, nm, rfl, h, wf, k⟩ := h
  have ln := wf.few
  unfold Stt.rename at k
  refine m_must h.rd (ev_vr rfl) (ev_vi rfl) (fun q => res_err (S' := S) k (by rw [if_pos q])) fun q H1 s1 => ?_
  rw [if_neg (by rw [q]; decide)] at k
  have h1 := h.mono s1
  have hk := there_key q
  refine q_unp3 (e_row T h1.rd (get_rw hk) (ev_vr rfl) (ev_vi rfl)) fun v1 v2 v3 H2 s2 a1 a2 a3 => ?_
  cases at_oi' a1
  cases a2
  cases at_os' a3
  have h2 := h1.mono s2
  refine m_must_be_free (but := some n) h2 wf (ev_vr rfl) (ev_vo rfl) (ev_vs rfl) (ev_vi rfl) (fun z => RaiE.mono (res_err (S' := S) k (by rw [if_pos z])) (s1.trans s2)) fun z H3 s3 => ?_
  rw [if_neg z] at k
  exact h_row (n := n) (r := { S.rw n with nm := nm }) (h2.mono s3) (rw_mark hk) (by omega) (ev_row3 (ev_vo rfl) (ev_vs rfl) (ev_vos rfl)) (e_rowsR T (h2.mono s3) (ev_vr rfl)) (ev_vi rfl) fun H4 h4 m4 => res_val k rfl _ a H4 rfl h4 ((Mv.of ((s1.trans s2).trans s3)).trans m4) .non
def sp_h_move (K : PySem.W.Frag) : Sp := fun vs H Q E => ∃ (a : HA) (S : Stt) (n : Int) (par : Option Int), vs = [.ref a.p, .int n, oiV par] ∧ HouseAt (cH K) H a S ∧ S.Wf ∧ Res K a (S.move n par) H Q E
theorem sc_h_move : FnScope ["self", "number", "parent", "old", "name", "text"] ["self", "number", "parent"] (defScope s_h_move) := ⟨rfl, rfl, rfl, by decide +kernel, rfl, by decide +kernel, by decide +kernel⟩
theorem ok_h_move (T : Tx K mg) : FnR P w K mg base (L2.CX P w) 4 (He.ma K (cH K) "move") (sp_h_move K) := by
  refine fnr (F_h_move T) sc_h_move (fun _ _ _ _ _ _ us hl => match us, hl with | [_, _, _], _ => rfl) (fun vs H Q E h => by obtain ⟨_, _, _, _, rfl, _⟩ := h; rfl) (fun cdv A outer s H vs Q E hr h => ?_)
  refine ⟨_, (pss_cons (ps_expr (pe_methR (pv 0) (T_cls T) (T_h_must T) (ok_h_must T) (hr.mono (by decide)) (passes_call (takes_of rfl rfl rfl rfl) (fun _ _ _ _ z => z)) (pa_cons (pv 1) pa_nil))) (pss_cons (ps_expr (pe_methR (pv 0) (T_cls T) (T_h_must_box T) (ok_h_must_box T) (hr.mono (by decide)) (passes_call (takes_of rfl rfl rfl rfl) (fun _ _ _ _ z => z)) (pa_cons (pv 2) pa_nil))) (pss_cons (ps_if (pt_cmpR (inK K) (pv 2) (pe_methR (pv 0) (T_cls T) (T_h_whole T) (ok_h_whole T) (hr.mono (by decide)) passL (pa_cons (pv 1) pa_nil)) rfl) (pss_one (ps_raise rfl (takes_of rfl rfl rfl rfl) (pmk_own PySem.F.excBase_ValueError (T_Inside T).x (T_Inside T).g (T_Inside T).k (raises_own (T_Inside T).b (T_Inside T).t) rfl))) pss_nil) (pss_cons (ps_asg (pe_dget (hu_of hr) (fldK K (pv 0)) (pv 1) (fun _ _ => rfl)) (gtupK K (n := 3) rfl (pgs_cons (pg_name (i := 3) sc_h_move.nd rfl (Or.inl rfl)) (pgs_cons (pg_name (i := 4) sc_h_move.nd rfl (Or.inl rfl)) (pgs_cons (pg_name (i := 5) sc_h_move.nd rfl (Or.inl rfl)) pgs_nil))))) (pss_cons (ps_expr (pe_methR (pv 0) (T_cls T) (T_h_must_be_free T) (ok_h_must_be_free T) (hr.mono (by decide)) (passes_call (takes_of rfl rfl rfl rfl) (fun _ _ _ _ z => z)) (pa_cons (pv 2) (pa_cons (pv 4) (pa_cons (pv 1) pa_nil))))) (pss_one (ps_dput (hu_of hr) (fldK K (pv 0)) (pv 1) (pe_tup (pa_cons (pv 2) (pa_cons (pv 4) (pa_cons (pv 5) pa_nil)))) rfl))))))), ?_⟩
  obtain ⟨a, S, n, par, rfl, h, wf, k⟩ := h
  have ln := wf.few
  unfold Stt.move at k
  refine m_must h.rd (ev_vr rfl) (ev_vi rfl) (fun q => res_err (S' := S) k (by rw [if_pos q])) fun q H1 s1 => ?_
  rw [if_neg (by rw [q]; decide)] at k
  have h1 := h.mono s1
  refine m_must_box h1.rd (ev_vr rfl) (ev_vo rfl) (fun q => RaiE.mono (res_err (S' := S) k (by rw [if_pos q])) s1) fun q2 H2 s2 => ?_
  rw [if_neg (by rw [q2]; decide)] at k
  have h2 := h1.mono s2
  have hk := there_key q
  refine q_if (et_test (ev_inI (ev_vo rfl) (en_whole h2.rd wf q (ev_vr rfl) (ev_vi rfl)).toD)) (fun b H3 s3 => ?_) fun b H3 s3 => ?_
  · exact res_err (S' := S) k (by rw [if_pos (of_decide_eq_true b)]) H3 ((s1.trans s2).trans s3)
  rw [if_neg (of_decide_eq_false b)] at k
  have h3 := h2.mono s3
  refine q_unp3 (e_row T h3.rd (get_rw hk) (ev_vr rfl) (ev_vi rfl)) fun v1 v2 v3 H4 s4 a1 a2 a3 => ?_
  cases at_oi' a1
  cases a2
  cases at_os' a3
  have h4 := h3.mono s4
  refine m_must_be_free (but := some n) h4 wf (ev_vr rfl) (ev_vo rfl) (ev_vs rfl) (ev_vi rfl) (fun z => RaiE.mono (res_err (S' := S) k (by rw [if_pos z])) (((s1.trans s2).trans s3).trans s4)) fun z H5 s5 => ?_
  rw [if_neg z] at k
  exact h_row (n := n) (r := { S.rw n with par := par }) (h4.mono s5) (rw_mark hk) (by omega) (ev_row3 (ev_vo rfl) (ev_vs rfl) (ev_vos rfl)) (e_rowsR T (h4.mono s5) (ev_vr rfl)) (ev_vi rfl) fun H6 h6 m6 => res_val k rfl _ a H6 rfl h6 ((Mv.of ((((s1.trans s2).trans s3).trans s4).trans s5)).trans m6) .non
/-! ### must_sheet -/
def sp_h_must_sheet (K : PySem.W.Frag) : Sp := fun vs H Q E => ∃ (a : HA) (S : Stt) (n : Int), vs = [.ref a.p, .int n] ∧ HouseRd (cH K) H a S ∧ (S.there n = false → RaiE (cE K Kd.noThing.nm) H E) ∧ (S.there n = true → (S.rw n).tx = none → RaiE (cE K Kd.noSheet.nm) H E) ∧ (S.there n = true → (S.rw n).tx ≠ none → RetD .non H Q)
theorem sc_h_must_sheet : FnScope ["self", "number"] ["self", "number"] (defScope s_h_must_sheet) := ⟨rfl, rfl, rfl, by decide +kernel, rfl, by decide +kernel, by decide +kernel⟩
theorem ok_h_must_sheet (T : Tx K mg) : FnR P w K mg base (L2.CX P w) 3 (He.ma K (cH K) "must_sheet") (sp_h_must_sheet K) := by
  refine fnr (F_h_must_sheet T) sc_h_must_sheet (fun _ _ _ _ _ _ us hl => match us, hl with | [_, _], _ => rfl) (fun vs H Q E h => by obtain ⟨_, _, _, rfl, _⟩ := h; rfl) (fun cdv A outer s H vs Q E hr h => ?_)
  refine ⟨_, (pss_cons (ps_expr (pe_methR (pv 0) (T_cls T) (T_h_must T) (ok_h_must T) (hr.mono (by decide)) (passes_call (takes_of rfl rfl rfl rfl) (fun _ _ _ _ z => z)) (pa_cons (pv 1) pa_nil))) (pss_one (ps_if (pt_cmpR op_isN (pe_ix (ixtK K) (pe_dget (hu_of hr) (fldK K (pv 0)) (pv 1) (fun _ _ => rfl)) pe_int (fun _ _ => rfl)) pe_non (nomark _)) (pss_one (ps_raise rfl (takes_of rfl rfl rfl rfl) (pmk_own PySem.F.excBase_ValueError (T_NoSheet T).x (T_NoSheet T).g (T_NoSheet T).k (raises_own (T_NoSheet T).b (T_NoSheet T).t) rfl))) pss_nil))), ?_⟩
  obtain ⟨a, S, n, rfl, h, k1, k2, k3⟩ := h
  refine m_must h (ev_vr rfl) (ev_vi rfl) k1 fun q H1 s1 => ?_
  have h1 := h.mono s1
  have hk := there_key q
  refine s_if (et_test (ev_isN (e_tx T h1 (get_rw hk) (ev_vr rfl) (ev_vi rfl)))) (fun b H2 s2 => ?_) fun b H2 s2 => ?_
  · rw [os_isN] at b
    exact k2 q (Option.isNone_iff_eq_none.mp b) H2 (s1.trans s2)
  · rw [os_isN] at b
    exact k3 q (fun z => by rw [z] at b; cases b) _ H2 (s1.trans s2) .non
theorem m_must_sheet {u : TS} {De : Ends} (h : HouseRd (cH K) H a S) {n : Int} (ho : EvD ta σ H (.ref a.p)) (hn : EvD te σ H (.int n)) (k1 : S.there n = false → RaiE (cE K Kd.noThing.nm) H E) (k2 : S.there n = true → (S.rw n).tx = none → RaiE (cE K Kd.noSheet.nm) H E) (k3 : S.there n = true → ∀ t, (S.rw n).tx = some t → ∀ H1, Same H H1 → u De σ H1) :
    tSeq (tDrop (tMethR (cH K) "must_sheet" (sp_h_must_sheet K) E ta (tCons te tNil))) u De σ H :=
  c_meth h.ins (by kernel_rfl) ho (ea_cons hn ea_nil) fun vs H1 s as => by
    cases as with | cons a1 as => cases as; cases a1; exact ⟨a, S, n, rfl, h.mono s, fun b => (k1 b).mono s, fun b e => (k2 b e).mono s, fun b e v H2 s2 _ => by obtain ⟨t, ht⟩ := Option.ne_none_iff_exists'.mp e; exact k3 b t ht H2 (s.trans s2)⟩
end
end Ho

set_option Elab.async false
set_option linter.all false
set_option maxRecDepth 100000
set_option maxHeartbeats 4000000
/-! M6: pairs as data; the invariant of a state; what is gone, what is woken. -/
namespace Ho
open PySem PySem.Spec PyProof.Rows L2
/-! ### pairs of ints -/
def pairP (p : Int × Int) : PyData := .tuple [.int p.1, .int p.2]
section
variable {K : PySem.W.Frag} {σ : L2.St} {H H' : Hp} {ta tb te tx td tl : TE} {t u tz : TS} {De : Ends} {d : D}
theorem dp_pair {p : Int × Int} {v : V} (h : At H (pairD p) v) : Dp K H v (pairP p) := by
  cases h with
  | tup hp hs => cases hs with
    | cons a1 hs => cases hs with
      | cons a2 hs => cases hs; cases a1; cases a2; exact .tup (SqT.of hp) (.cons (.int _) (.cons (.int _) .nil))
theorem dp_pairs : ∀ {l : List (Int × Int)} {vs : List V}, Ats H (l.map pairD) vs → DpAll K H vs (l.map pairP)
  | [], _, h => by cases h; exact .nil
  | p :: l, _, h => by
    cases h with
    | cons a h => exact .cons (dp_pair a) (dp_pairs h)
theorem eqv_pair (p q : Int × Int) : PyData.eqv (pairP p) (pairP q) = decide (p = q) := by
  obtain ⟨a, b⟩ := p
  obtain ⟨c, d⟩ := q
  unfold pairP
  simp only [PyData.eqv, PyData.eqvAll, Prod.mk.injEq, Bool.and_true]
  by_cases h1 : a = c <;> by_cases h2 : b = d <;> simp [h1, h2]
theorem sh_pair (p : Int × Int) : SeqAt.shaped (pairP p) = true := rfl
theorem cl_pairs : ∀ l : List (Int × Int), PyData.canLayAll0 (l.map pairP) = true
  | [] => rfl
  | p :: l => by
    show ((pairP p).canLay0 && PyData.canLayAll0 (l.map pairP)) = true
    rw [cl_pairs l]; rfl
theorem dep_pairs : ∀ l : List (Int × Int), PyData.depthAll (l.map pairP) ≤ 8
  | [] => by decide
  | p :: l => by
    have z := dep_pairs l
    have e : PyData.depth (pairP p) ≤ 8 := by simp [pairP, PyData.depth, PyData.depthAll]
    simp only [List.map_cons, PyData.depthAll]
    omega
theorem sh_pairs (l : List (Int × Int)) : SeqAt.shaped (.list (l.map pairP)) = true := by
  unfold SeqAt.shaped
  rw [Bool.and_eq_true]
  refine ⟨cl_pairs l, decide_eq_true ?_⟩
  have z := dep_pairs l
  simp only [PyData.depth]
  omega
theorem any_pair (p : Int × Int) : ∀ l : List (Int × Int), ((l.map pairP).any fun z => PyData.eqv z (pairP p)) = decide (p ∈ l)
  | [] => by simp
  | q :: l => by
    rw [List.map_cons, List.any_cons, any_pair p l, eqv_pair]
    by_cases h : q = p
    · subst h; simp
    · have h2 : ¬ p = q := fun z => h z.symm
      simp [h, h2]
theorem ev_inP {p : Int × Int} {l : List (Int × Int)} (ha : EvD ta σ H (pairD p)) (hb : EvD tb σ H (.lst (l.map pairD))) : EvD (tOp (rInD K) ta tb) σ H (.bl (decide (p ∈ l))) :=
  ev_op ha hb fun x y H1 _ ax ay Q q => by
    cases ay with
    | lst hp hs =>
      refine ⟨pairP p, l.map pairP, dp_pair ax, .lst (SqL.of hp) (dp_pairs hs), sh_pair p, sh_pairs l, ?_⟩
      rw [any_pair]
      exact q _ H1 (Same.refl H1) (.bl _)
theorem ev_niP {p : Int × Int} {l : List (Int × Int)} (ha : EvD ta σ H (pairD p)) (hb : EvD tb σ H (.lst (l.map pairD))) : EvD (tOp (rNotInD K) ta tb) σ H (.bl (!decide (p ∈ l))) :=
  ev_op ha hb fun x y H1 _ ax ay Q q => by
    cases ay with
    | lst hp hs =>
      refine ⟨pairP p, l.map pairP, dp_pair ax, .lst (SqL.of hp) (dp_pairs hs), sh_pair p, sh_pairs l, ?_⟩
      rw [any_pair]
      exact q _ H1 (Same.refl H1) (.bl _)
theorem first_pair {p : Int × Int} : ∀ {l : List (Int × Int)}, p ∈ l → ∃ j, l[j]? = some p ∧ (∀ m, m < j → ∀ q, l[m]? = some q → q ≠ p) ∧ l.eraseIdx j = l.erase p
  | [], h => by cases h
  | q :: l, h => by
    by_cases e : q = p
    · subst e
      exact ⟨0, rfl, fun m hm => absurd hm (Nat.not_lt_zero m), by simp⟩
    · have h2 : p ∈ l := (List.mem_cons.mp h).resolve_left fun z => e z.symm
      obtain ⟨j, j1, j2, j3⟩ := first_pair h2
      refine ⟨j + 1, by simpa using j1, fun m hm q' hq' => ?_, ?_⟩
      · cases m with
        | zero => rw [List.getElem?_cons_zero] at hq'; cases hq'; exact e
        | succ m => rw [List.getElem?_cons_succ] at hq'; exact j2 m (by omega) q' hq'
      · rw [List.erase_cons_tail (by simpa using e), ← j3]; rfl
theorem erase_map {α β : Type} (f : α → β) : ∀ (l : List α) (j : Nat), (l.map f).eraseIdx j = (l.eraseIdx j).map f
  | [], _ => rfl
  | _ :: _, 0 => rfl
  | x :: l, j + 1 => by
    show f x :: (l.map f).eraseIdx j = f x :: (l.eraseIdx j).map f
    rw [erase_map f l j]
/-- l.remove(p) -/
theorem s_rem {l : Addr} {xs : List V} {p : Int × Int} {ps : List (Int × Int)} (hl : H l = some (.lst xs)) (hx : Ats H (ps.map pairD) xs) (hm : p ∈ ps) (ha : EvD ta σ H (.ref l)) (h : EvD te σ H (pairD p))
    (k : ∀ j H1, Same H H1 → Ats H1 ((ps.erase p).map pairD) (xs.eraseIdx j) → De.nx σ (upd H1 l (.lst (xs.eraseIdx j)))) :
    tDrop (tBM K "list" (rRemD K) ta (tCons te tNil)) De σ H := ha H (Same.refl H) _ fun x H1 s1 ax => by
  cases ax
  refine ⟨Or.inl ⟨rfl, xs, SqL.of (s1 _ _ hl)⟩, h H1 s1 _ fun v H2 s2 av => ?_⟩
  have s12 := s1.trans s2
  obtain ⟨j, j1, j2, j3⟩ := first_pair hm
  refine ⟨l, xs, v, pairP p, ps.map pairP, j, pairP p, rfl, rfl, s12 _ _ hl, dp_pairs (hx.mono s12), dp_pair av, sh_pairs ps, sh_pair p, by rw [List.getElem?_map, j1]; rfl, by rw [eqv_pair]; simp, fun m z' hm hz => ?_, ?_⟩
  · rw [List.getElem?_map] at hz
    obtain ⟨q, hq, rfl⟩ := Option.map_eq_some_iff.mp hz
    rw [eqv_pair]
    exact decide_eq_false (j2 m hm q hq)
  · refine k j H2 s12 ?_
    have z := (hx.mono s12).erase j
    rwa [erase_map, j3] at z
end
/-! ### the invariant -/
structure Stt.Inv (S : Stt) : Prop where
  kr : ∀ n ∈ S.keys, 1 ≤ n ∧ n ≤ S.count
  c0 : 0 ≤ S.count
  ct : (S.casts.map (·.1)).Nodup
  cm : ∀ c ∈ S.casts, S.mark c.1 = some c.1
  mc : ∀ n m, S.mark n = some m → m ∈ S.casts.map (·.1)
  te : ∀ t ∈ S.ties, t.1 ∈ S.keys ∧ t.2 ∈ S.keys
  tn : S.ties.Nodup
  up : ∃ d : Int → Nat, ∀ x r p, S.get x = some r → r.par = some p → p ∈ S.keys → r.mrk = S.mark p → r.mrk ≠ some x → d p < d x
  pb : ∀ x r p, S.get x = some r → r.par = some p → p ≤ S.count
  pm : ∀ x r m, S.get x = some r → r.mrk = some m → x ≠ m → ∃ p, r.par = some p ∧ S.mark p = some m
  pt : ∀ x r p, S.get x = some r → r.mrk = none → r.par = some p → S.there p = true
theorem lookup_filter {α : Type} {f : Int × α → Bool} {n : Int} : ∀ {l : List (Int × α)}, (l.map (·.1)).Nodup → (l.filter f).lookup n = (l.lookup n).bind fun v => if f (n, v) = true then some v else none
  | [], _ => rfl
  | (k, w) :: l, nd => by
    rw [List.map_cons, List.nodup_cons] at nd
    have ih := lookup_filter (f := f) (n := n) nd.2
    rw [List.lookup_cons, List.filter_cons]
    cases q : (n == k) with
    | true =>
      have e := eq_of_beq q
      subst e
      by_cases c : f (n, w) = true
      · rw [if_pos c, List.lookup_cons, beq_self_eq_true]
        show some w = if f (n, w) = true then some w else none
        rw [if_pos c]
      · rw [if_neg c, ih]
        have z : l.lookup n = none := lookup_none.mpr nd.1
        rw [z]
        show none = if f (n, w) = true then some w else none
        rw [if_neg c]
    | false =>
      dsimp only
      by_cases c : f (k, w) = true
      · rw [if_pos c, List.lookup_cons, q]; exact ih
      · rw [if_neg c]; exact ih
section
variable {S : Stt} {n : Int}
theorem cast_key (i : S.Inv) {c : Int × Int} (h : c ∈ S.casts) : c.1 ∈ S.keys := by
  have z := i.cm c h
  exact Classical.byContradiction fun q => by
    unfold Stt.mark Stt.get at z
    rw [lookup_none.mpr q] at z; cases z
theorem lose_get (nd : S.keys.Nodup) (x : Int) : (S.lose n).get x = if S.mark x = some n then none else S.get x := by
  show (S.rows.filter fun p => !decide (p.2.mrk = some n)).lookup x = _
  rw [lookup_filter nd]
  unfold Stt.mark Stt.get
  cases S.rows.lookup x with
  | none => simp
  | some r =>
    by_cases c : r.mrk = some n
    · simp [c]
    · simp [c]
theorem lose_mark (nd : S.keys.Nodup) (x : Int) : (S.lose n).mark x = if S.mark x = some n then none else S.mark x := by
  show ((S.lose n).get x).bind (·.mrk) = _
  rw [lose_get nd]
  by_cases c : S.mark x = some n
  · rw [if_pos c, if_pos c]; rfl
  · rw [if_neg c, if_neg c]; rfl
theorem lose_there (nd : S.keys.Nodup) (x : Int) : (S.lose n).there x = S.there x := by
  unfold Stt.there
  rw [lose_get nd]
  by_cases c : S.mark x = some n
  · rw [if_pos c]
    unfold Stt.mark at c
    cases e : S.get x with
    | none => rfl
    | some r =>
      rw [e] at c
      show false = r.mrk.isNone
      rw [show r.mrk = some n from c]; rfl
  · rw [if_neg c]
theorem lose_keys (nd : S.keys.Nodup) {x : Int} : x ∈ (S.lose n).keys ↔ x ∈ S.keys ∧ S.mark x ≠ some n := by
  show x ∈ (S.lose n).rows.map (·.1) ↔ x ∈ S.rows.map (·.1) ∧ _
  rw [← lookup_mem, ← lookup_mem]
  show ((S.lose n).get x).isSome = true ↔ (S.get x).isSome = true ∧ _
  rw [lose_get nd]
  by_cases c : S.mark x = some n
  · simp [c]
  · simp [c]
theorem Stt.Wf.lose (wf : S.Wf) (n : Int) : (S.lose n).Wf where
  asc := by
    show ((S.rows.filter _).map _).Pairwise _
    have z := wf.asc
    unfold Stt.keys at z
    rw [List.pairwise_map] at z ⊢
    exact z.filter _
  few := Nat.lt_of_le_of_lt (List.length_filter_le _ _) wf.few
  txl := fun p hp => wf.txl p (List.mem_filter.mp hp).1
  nml := fun p hp => wf.nml p (List.mem_filter.mp hp).1
  cl := Nat.le_trans (List.length_filter_le _ _) wf.cl
  tl := Nat.le_trans (List.length_filter_le _ _) wf.tl
theorem lose_old (nd : S.keys.Nodup) {x : Int} {r : Rw} (h : (S.lose n).get x = some r) : S.get x = some r := by
  rw [lose_get nd] at h
  by_cases c : S.mark x = some n
  · rw [if_pos c] at h; cases h
  · rw [if_neg c] at h; exact h
theorem Stt.Inv.lose (i : S.Inv) (nd : S.keys.Nodup) (n : Int) : (S.lose n).Inv where
  kr := fun x hx => i.kr x ((lose_keys nd).mp hx).1
  c0 := i.c0
  ct := by
    show ((S.casts.filter _).map _).Nodup
    exact (List.filter_sublist.map _).nodup i.ct
  cm := fun c hc => by
    obtain ⟨h1, h2⟩ := List.mem_filter.mp hc
    rw [lose_mark nd, i.cm c h1, if_neg (by simpa using h2)]
  mc := fun x m h => by
    rw [lose_mark nd] at h
    by_cases c : S.mark x = some n
    · rw [if_pos c] at h; cases h
    · rw [if_neg c] at h
      obtain ⟨q, q1, q2⟩ := List.mem_map.mp (i.mc x m h)
      refine List.mem_map.mpr ⟨q, List.mem_filter.mpr ⟨q1, ?_⟩, q2⟩
      simp only [Bool.not_eq_true', decide_eq_false_iff_not]
      rw [q2]
      intro z
      rw [z] at h
      exact c h
  te := fun t ht => by
    obtain ⟨h1, h2⟩ := List.mem_filter.mp ht
    simp only [Bool.and_eq_true, Bool.not_eq_true', decide_eq_false_iff_not] at h2
    have z := i.te t h1
    exact ⟨(lose_keys nd).mpr ⟨z.1, h2.1⟩, (lose_keys nd).mpr ⟨z.2, h2.2⟩⟩
  tn := i.tn.filter _
  up := by
    obtain ⟨d, hd⟩ := i.up
    refine ⟨d, fun x r p h1 h2 h3 h4 h5 => ?_⟩
    obtain ⟨k1, k2⟩ := (lose_keys nd).mp h3
    rw [lose_get nd] at h1
    by_cases c : S.mark x = some n
    · rw [if_pos c] at h1; cases h1
    · rw [if_neg c] at h1
      rw [lose_mark nd, if_neg k2] at h4
      exact hd x r p h1 h2 k1 h4 h5
  pb := fun x r p h1 h2 => i.pb x r p (lose_old nd h1) h2
  pm := fun x r m h1 h2 h3 => by
    have h0 := lose_old nd h1
    obtain ⟨p, p1, p2⟩ := i.pm x r m h0 h2 h3
    refine ⟨p, p1, ?_⟩
    rw [lose_mark nd, if_neg fun z => ?_]
    · exact p2
    · rw [p2] at z
      rw [lose_get nd, if_pos] at h1
      · cases h1
      · show (S.get x).bind (·.mrk) = some n
        rw [h0, ← z]; exact h2
  pt := fun x r p h1 h2 h3 => by
    rw [lose_there nd]
    exact i.pt x r p (lose_old nd h1) h2 h3
theorem usedThere_lose : (S.lose n).usedThere = S.usedThere := by
  unfold Stt.usedThere Stt.lose
  congr 2
  rw [List.filter_filter]
  refine List.filter_congr fun p _ => ?_
  cases p.2.mrk <;> simp
theorem used_there (i : S.Inv) (wf : S.Wf) (e : S.casts = []) : S.used = S.usedThere := by
  unfold Stt.used Stt.usedThere
  rw [List.filter_eq_self.mpr fun p hp => ?_]
  cases q : p.2.mrk with
  | none => rfl
  | some m =>
    have z := i.mc p.1 m (by rw [mark_row wf.nd hp]; exact q)
    rw [e] at z
    cases z
/-- behind the room that is made -/
theorem mkRoom_ok : ∀ (k : Nat) (S : Stt) (more : Int), S.Wf → S.Inv → (S.mkRoom k more).Wf ∧ (S.mkRoom k more).Inv
  | 0, S, more, wf, i => ⟨wf, i⟩
  | k + 1, S, more, wf, i => by
    unfold Stt.mkRoom
    by_cases c : S.used + more > S.room
    · rw [if_pos c]
      cases S.casts with
      | nil => exact ⟨wf, i⟩
      | cons c cs => exact mkRoom_ok k (S.lose c.1) more (wf.lose _) (i.lose wf.nd _)
    · rw [if_neg c]; exact ⟨wf, i⟩
theorem mkRoom_ind {R : Stt → Prop} {more : Int} (hl : ∀ S : Stt, S.Wf → S.Inv → R S → ∀ n, R (S.lose n)) : ∀ (k : Nat) (S : Stt), S.Wf → S.Inv → R S → R (S.mkRoom k more)
  | 0, S, _, _, r => r
  | k + 1, S, wf, i, r => by
    unfold Stt.mkRoom
    by_cases c : S.used + more > S.room
    · rw [if_pos c]
      cases S.casts with
      | nil => exact r
      | cons c cs => exact mkRoom_ind hl k (S.lose c.1) (wf.lose _) (i.lose wf.nd _) (hl S wf i r _)
    · rw [if_neg c]; exact r
theorem there_get' {x : Int} (h : S.there x = true) : ∃ r, S.get x = some r ∧ r.mrk = none := by
  unfold Stt.there at h
  cases e : S.get x with
  | none => rw [e] at h; cases h
  | some r =>
    rw [e] at h
    exact ⟨r, rfl, Option.isNone_iff_eq_none.mp h⟩
theorem there_mark' {x : Int} (h : S.there x = true) : S.mark x = none := by
  obtain ⟨r, e, m⟩ := there_get' h
  unfold Stt.mark; rw [e]; exact m
theorem roomFor_get (wf : S.Wf) (i : S.Inv) (more : Int) {x : Int} (h : S.there x = true) : (S.roomFor more).get x = S.get x := by
  have z : (fun S' : Stt => S'.there x = true ∧ S'.get x = S.get x) (S.roomFor more) := mkRoom_ind (R := fun S' : Stt => S'.there x = true ∧ S'.get x = S.get x) (fun S' wf' i' r n => by
    refine ⟨by rw [lose_there wf'.nd]; exact r.1, ?_⟩
    rw [lose_get wf'.nd, if_neg (by rw [there_mark' r.1]; intro z; cases z)]
    exact r.2) _ S wf i ⟨h, rfl⟩
  exact z.2
theorem roomFor_there (wf : S.Wf) (i : S.Inv) (more : Int) (x : Int) : (S.roomFor more).there x = S.there x :=
  mkRoom_ind (R := fun S' : Stt => S'.there x = S.there x) (fun S' wf' i' r n => by rw [lose_there wf'.nd]; exact r) _ S wf i rfl
theorem roomFor_rw (wf : S.Wf) (i : S.Inv) (more : Int) {x : Int} (h : S.there x = true) : (S.roomFor more).rw x = S.rw x := by unfold Stt.rw; rw [roomFor_get wf i more h]
theorem roomFor_ok (wf : S.Wf) (i : S.Inv) (more : Int) : (S.roomFor more).Wf ∧ (S.roomFor more).Inv := mkRoom_ok _ S more wf i
theorem roomFor_count (wf : S.Wf) (i : S.Inv) (more : Int) : (S.roomFor more).count = S.count := mkRoom_ind (R := fun S' : Stt => S'.count = S.count) (fun _ _ _ r _ => r) _ S wf i rfl
theorem roomFor_room (wf : S.Wf) (i : S.Inv) (more : Int) : (S.roomFor more).room = S.room := mkRoom_ind (R := fun S' : Stt => S'.room = S.room) (fun _ _ _ r _ => r) _ S wf i rfl
theorem roomFor_rows (wf : S.Wf) (i : S.Inv) (more : Int) : (S.roomFor more).rows.length ≤ S.rows.length := mkRoom_ind (R := fun S' : Stt => S'.rows.length ≤ S.rows.length) (fun _ _ _ r _ => Nat.le_trans (List.length_filter_le _ _) r) _ S wf i (Nat.le_refl _)
end
end Ho

set_option Elab.async false
set_option linter.all false
set_option maxRecDepth 100000
set_option maxHeartbeats 4000000
/-! M7: marks are put and taken away; the house's lists are changed. -/
namespace Ho
open PySem PySem.Spec PyProof.Rows L2
/-- some things have another mark -/
def Stt.remark (S : Stt) (l : List Int) (m : Option Int) : Stt := { S with rows := S.rows.map fun p => if p.1 ∈ l then (p.1, { p.2 with mrk := m }) else p }
/-- some are no more -/
def Stt.without (S : Stt) (l : List Int) : Stt := { S with rows := S.rows.filter fun p => !decide (p.1 ∈ l) }
section
variable {C : Addr} {H H' H1 : Hp} {a : HA} {b : SA} {S S' : Stt} {n x : Int} {l : List Int} {m : Option Int}
theorem lookup_mapIf {α : Type} {f : Int × α → α} (n : Int) : ∀ l : List (Int × α), (l.map fun p => (p.1, f p)).lookup n = (l.lookup n).map fun v => f (n, v)
  | [] => rfl
  | (k, w) :: l => by
    rw [List.map_cons, List.lookup_cons, List.lookup_cons]
    cases q : (n == k) with
    | true => rw [eq_of_beq q]; rfl
    | false => exact lookup_mapIf n l
theorem remark_rows : (S.remark l m).rows = S.rows.map fun p => (p.1, if p.1 ∈ l then { p.2 with mrk := m } else p.2) := by
  unfold Stt.remark
  refine List.map_congr_left fun p _ => ?_
  by_cases c : p.1 ∈ l
  · rw [if_pos c, if_pos c]
  · rw [if_neg c, if_neg c]
theorem remark_get : (S.remark l m).get x = (S.get x).map fun r => if x ∈ l then { r with mrk := m } else r := by
  unfold Stt.get
  rw [remark_rows, lookup_mapIf]
theorem remark_mark : (S.remark l m).mark x = if x ∈ S.keys ∧ x ∈ l then m else S.mark x := by
  unfold Stt.mark
  rw [remark_get]
  cases e : S.get x with
  | none =>
    have : ¬ (x ∈ S.keys ∧ x ∈ l) := fun z => by
      obtain ⟨r, q⟩ := get_key z.1
      rw [e] at q; cases q
    rw [if_neg this]; rfl
  | some r =>
    have hk := key_get e
    by_cases c : x ∈ l
    · rw [if_pos ⟨hk, c⟩]; simp [c]
    · rw [if_neg fun z => c z.2]; simp [c]
theorem remark_keys : (S.remark l m).keys = S.keys := by
  unfold Stt.keys
  rw [remark_rows, List.map_map]; rfl
theorem remark_rows3 : rows3 (S.remark l m) = rows3 S := by
  unfold rows3
  rw [remark_rows, List.map_map]
  refine List.map_congr_left fun p _ => ?_
  show (p.1, row3 (if p.1 ∈ l then { p.2 with mrk := m } else p.2)) = (p.1, row3 p.2)
  by_cases c : p.1 ∈ l
  · rw [if_pos c]; rfl
  · rw [if_neg c]
theorem remark_nil : S.remark [] m = S := by
  unfold Stt.remark
  have e : (fun p : Int × Rw => if p.1 ∈ ([] : List Int) then (p.1, { p.2 with mrk := m }) else p) = id := by funext p; simp
  rw [e, List.map_id]
theorem without_nil : S.without [] = S := by
  unfold Stt.without
  rw [List.filter_eq_self.mpr (by simp)]
theorem dropI_rows : dropI (S.without l).rows x = (S.without (l ++ [x])).rows := by
  unfold Stt.without dropI
  dsimp only
  rw [List.filter_filter]
  refine List.filter_congr fun p _ => ?_
  by_cases c : p.1 = x <;> by_cases d : p.1 ∈ l <;> simp [c, d]
theorem dropI_without : ({ S.without l with rows := dropI (S.without l).rows x } : Stt) = S.without (l ++ [x]) := by rw [dropI_rows]; rfl
theorem without_mark (nd : S.keys.Nodup) : (S.without l).mark x = if x ∈ l then none else S.mark x := by
  unfold Stt.mark Stt.get Stt.without
  dsimp only
  rw [lookup_filter nd]
  cases S.rows.lookup x with
  | none => simp
  | some r => by_cases c : x ∈ l <;> simp [c]
/-! ### the shelf's dict -/
theorem HouseAt.shTo (h : HouseAt C H a S) {kvs : List (Key × V)} {lk : List (Int × D)} (hk : KRep H lk kvs) (sh : ShOk S' lk) (e0 : rows3 S' = rows3 S) (e1 : S'.casts = S.casts) (e2 : S'.ties = S.ties) (e3 : hFs a S' = hFs a S) : HouseAt C (upd H a.s (.dK kvs)) a S' := by
  obtain ⟨k1, h1, r1⟩ := h.rows
  obtain ⟨l, ⟨k2, h2, r2⟩, r3⟩ := h.shl
  obtain ⟨v3, h3, r4⟩ := h.casts
  obtain ⟨v4, h4, r5⟩ := h.pairs
  have t : Tle H (upd H a.s (.dK kvs)) := tle_upd h2 fun _ z => nomatch z
  refine ⟨?_, ⟨k1, ?_, by rw [e0]; exact r1.tle t rows3_nl⟩, ⟨lk, ⟨kvs, upd_same, hk.tle t (sh_nl sh)⟩, sh⟩, ⟨v3, ?_, by rw [e1]; exact r4.tle t (pairs_nl _)⟩, ⟨v4, ?_, by rw [e2]; exact r5.tle t (pairs_nl _)⟩, h.ne, h.nc⟩
  · rw [upd_ne (ne_of h.ins h2 (by intro z; cases z)), e3]; exact h.ins
  · rw [upd_ne h.ne]; exact h1
  · rw [upd_ne (ne_of h3 h2 (by intro z; cases z))]; exact h3
  · rw [upd_ne (ne_of h4 h2 (by intro z; cases z))]; exact h4
theorem putI_nd {α : Type} {l : List (Int × α)} {v : α} (h : (l.map (·.1)).Nodup) : ((putI l x v).map (·.1)).Nodup := by
  by_cases c : x ∈ l.map (·.1)
  · rw [keys_putI_in c]; exact h
  · rw [putI_new c, List.map_append, List.nodup_append]
    refine ⟨h, by simp, fun u hu w hw z => ?_⟩
    rw [show w = x by simpa using hw] at z
    exact c (z ▸ hu)
theorem ShOk.put {lk : List (Int × D)} (sh : ShOk S lk) (hm : ∀ y, S'.mark y = if y = x then some n else S.mark y) : ShOk S' (putI lk x (.int n)) :=
  ⟨fun y => by
    rw [lookup_putI, hm]
    by_cases c : y = x
    · rw [if_pos c, if_pos c]; rfl
    · rw [if_neg c, if_neg c]; exact sh.look y, putI_nd sh.nd⟩
theorem ShOk.drop {lk : List (Int × D)} (sh : ShOk S lk) (hm : ∀ y, S'.mark y = if y = x then none else S.mark y) : ShOk S' (dropI lk x) :=
  ⟨fun y => by
    rw [lookup_dropI, hm]
    by_cases c : y = x
    · rw [if_pos c, if_pos c]; rfl
    · rw [if_neg c, if_neg c]; exact sh.look y, (List.filter_sublist.map _).nodup sh.nd⟩
theorem remark_more (hx : x ∈ S.keys) (y : Int) : (S.remark (l ++ [x]) m).mark y = if y = x then m else (S.remark l m).mark y := by
  rw [remark_mark, remark_mark]
  by_cases c : y = x
  · subst c
    rw [if_pos rfl, if_pos ⟨hx, by simp⟩]
  · rw [if_neg c]
    by_cases d : y ∈ S.keys ∧ y ∈ l
    · rw [if_pos d, if_pos ⟨d.1, List.mem_append_left _ d.2⟩]
    · rw [if_neg d, if_neg fun z => d ⟨z.1, (List.mem_append.mp z.2).resolve_right fun q => c (by simpa using q)⟩]
/-! ### the house's lists -/
theorem HouseAt.castsTo (h : HouseAt C H a S) {q : Addr} {vs : List V} {cs : List (Int × Int)} (hq : H q = some (.lst vs)) (as : Ats H (cs.map pairD) vs) (nq : q ≠ a.t) :
    HouseAt C (upd H a.p (.ins C a.dx (hFs { a with c := q } { S with casts := cs }))) { a with c := q } { S with casts := cs } := by
  obtain ⟨k1, h1, r1⟩ := h.rows
  obtain ⟨l, ⟨k2, h2, r2⟩, r3⟩ := h.shl
  obtain ⟨v4, h4, r5⟩ := h.pairs
  have t : Tle H (upd H a.p (.ins C a.dx (hFs { a with c := q } { S with casts := cs }))) := tle_upd h.ins fun _ z => nomatch z
  refine ⟨upd_same, ⟨k1, ?_, r1.tle t rows3_nl⟩, ⟨l, ⟨k2, ?_, r2.tle t (sh_nl r3)⟩, ⟨r3.look, r3.nd⟩⟩, ⟨vs, ?_, as.tle t (pairs_nl _)⟩, ⟨v4, ?_, r5.tle t (pairs_nl _)⟩, h.ne, nq⟩
  · rw [upd_ne (ne_of h1 h.ins (by intro z; cases z))]; exact h1
  · rw [upd_ne (ne_of h2 h.ins (by intro z; cases z))]; exact h2
  · rw [upd_ne (ne_of hq h.ins (by intro z; cases z))]; exact hq
  · rw [upd_ne (ne_of h4 h.ins (by intro z; cases z))]; exact h4
theorem HouseAt.pairsTo (h : HouseAt C H a S) {q : Addr} {vs : List V} {cs : List (Int × Int)} (hq : H q = some (.lst vs)) (as : Ats H (cs.map pairD) vs) (nq : a.c ≠ q) :
    HouseAt C (upd H a.p (.ins C a.dx (hFs { a with t := q } { S with ties := cs }))) { a with t := q } { S with ties := cs } := by
  obtain ⟨k1, h1, r1⟩ := h.rows
  obtain ⟨l, ⟨k2, h2, r2⟩, r3⟩ := h.shl
  obtain ⟨v4, h4, r5⟩ := h.casts
  have t : Tle H (upd H a.p (.ins C a.dx (hFs { a with t := q } { S with ties := cs }))) := tle_upd h.ins fun _ z => nomatch z
  refine ⟨upd_same, ⟨k1, ?_, r1.tle t rows3_nl⟩, ⟨l, ⟨k2, ?_, r2.tle t (sh_nl r3)⟩, ⟨r3.look, r3.nd⟩⟩, ⟨v4, ?_, r5.tle t (pairs_nl _)⟩, ⟨vs, ?_, as.tle t (pairs_nl _)⟩, h.ne, nq⟩
  · rw [upd_ne (ne_of h1 h.ins (by intro z; cases z))]; exact h1
  · rw [upd_ne (ne_of h2 h.ins (by intro z; cases z))]; exact h2
  · rw [upd_ne (ne_of h4 h.ins (by intro z; cases z))]; exact h4
  · rw [upd_ne (ne_of hq h.ins (by intro z; cases z))]; exact hq
/-- a list changes in place -/
theorem HouseAt.castsIn (h : HouseAt C H a S) {vs : List V} {cs : List (Int × Int)} (as : Ats H (cs.map pairD) vs) : HouseAt C (upd H a.c (.lst vs)) a { S with casts := cs } := by
  obtain ⟨k1, h1, r1⟩ := h.rows
  obtain ⟨l, ⟨k2, h2, r2⟩, r3⟩ := h.shl
  obtain ⟨v3, h3, r4⟩ := h.casts
  obtain ⟨v4, h4, r5⟩ := h.pairs
  have t : Tle H (upd H a.c (.lst vs)) := tle_upd h3 fun _ z => nomatch z
  refine ⟨?_, ⟨k1, ?_, r1.tle t rows3_nl⟩, ⟨l, ⟨k2, ?_, r2.tle t (sh_nl r3)⟩, ⟨r3.look, r3.nd⟩⟩, ⟨vs, upd_same, as.tle t (pairs_nl _)⟩, ⟨v4, ?_, r5.tle t (pairs_nl _)⟩, h.ne, h.nc⟩
  · rw [upd_ne (ne_of h.ins h3 (by intro z; cases z))]; exact h.ins
  · rw [upd_ne (ne_of h1 h3 (by intro z; cases z))]; exact h1
  · rw [upd_ne (ne_of h2 h3 (by intro z; cases z))]; exact h2
  · rw [upd_ne (Ne.symm h.nc)]; exact h4
theorem HouseAt.pairsIn (h : HouseAt C H a S) {vs : List V} {cs : List (Int × Int)} (as : Ats H (cs.map pairD) vs) : HouseAt C (upd H a.t (.lst vs)) a { S with ties := cs } := by
  obtain ⟨k1, h1, r1⟩ := h.rows
  obtain ⟨l, ⟨k2, h2, r2⟩, r3⟩ := h.shl
  obtain ⟨v3, h3, r4⟩ := h.casts
  obtain ⟨v4, h4, r5⟩ := h.pairs
  have t : Tle H (upd H a.t (.lst vs)) := tle_upd h4 fun _ z => nomatch z
  refine ⟨?_, ⟨k1, ?_, r1.tle t rows3_nl⟩, ⟨l, ⟨k2, ?_, r2.tle t (sh_nl r3)⟩, ⟨r3.look, r3.nd⟩⟩, ⟨v3, ?_, r4.tle t (pairs_nl _)⟩, ⟨vs, upd_same, as.tle t (pairs_nl _)⟩, h.ne, h.nc⟩
  · rw [upd_ne (ne_of h.ins h4 (by intro z; cases z))]; exact h.ins
  · rw [upd_ne (ne_of h1 h4 (by intro z; cases z))]; exact h1
  · rw [upd_ne (ne_of h2 h4 (by intro z; cases z))]; exact h2
  · rw [upd_ne h.nc]; exact h3
/-! ### what is gone -/
theorem bundle_mem (wf : S.Wf) : x ∈ S.bundleL n ↔ S.mark x = some n := by
  unfold Stt.bundleL
  rw [List.mem_filter, decide_eq_true_eq]
  refine ⟨fun h => h.2, fun h => ⟨?_, h⟩⟩
  unfold Stt.mark at h
  cases e : S.get x with
  | none => rw [e] at h; cases h
  | some r => exact key_get e
theorem wake_remark (wf : S.Wf) : S.wake n = { S.remark (S.bundleL n) none with casts := S.casts.filter fun c => !decide (c.1 = n) } := by
  unfold Stt.wake Stt.remark
  congr 1
  refine List.map_congr_left fun p hp => ?_
  have e : (p.2.mrk = some n) ↔ p.1 ∈ S.bundleL n := by rw [bundle_mem wf, mark_row wf.nd hp]
  by_cases c : p.2.mrk = some n
  · rw [if_pos c, if_pos (e.mp c)]
  · rw [if_neg c, if_neg fun z => c (e.mpr z)]
theorem wake_keys : (S.wake n).keys = S.keys := by
  unfold Stt.wake Stt.keys
  rw [List.map_map]
  refine List.map_congr_left fun p _ => ?_
  show (if p.2.mrk = some n then (p.1, { p.2 with mrk := none }) else p).1 = p.1
  by_cases c : p.2.mrk = some n
  · rw [if_pos c]
  · rw [if_neg c]
theorem lose_rows (wf : S.Wf) : ((S.wake n).without (S.bundleL n)).rows = (S.lose n).rows := by
  show (S.rows.map _).filter _ = S.rows.filter _
  rw [List.filter_map]
  have e : S.rows.filter ((fun p : Int × Rw => !decide (p.1 ∈ S.bundleL n)) ∘ fun p : Int × Rw => if p.2.mrk = some n then (p.1, { p.2 with mrk := none }) else p) = S.rows.filter fun p => !decide (p.2.mrk = some n) := by
    refine List.filter_congr fun p hp => ?_
    show (!decide ((if p.2.mrk = some n then (p.1, { p.2 with mrk := none }) else p).1 ∈ S.bundleL n)) = _
    have q : (if p.2.mrk = some n then (p.1, ({ p.2 with mrk := none } : Rw)) else p).1 = p.1 := by
      by_cases c : p.2.mrk = some n
      · rw [if_pos c]
      · rw [if_neg c]
    rw [q]
    congr 1
    rw [decide_eq_decide, bundle_mem wf, mark_row wf.nd hp]
  rw [e]
  refine (List.map_congr_left (g := id) fun p hp => ?_).trans (List.map_id _)
  have z := (List.mem_filter.mp hp).2
  simp only [Bool.not_eq_true', decide_eq_false_iff_not] at z
  rw [if_neg z]; rfl
theorem lose_ties (wf : S.Wf) (i : S.Inv) : (S.ties.filter fun t => decide (t.1 ∈ (S.lose n).keys) && decide (t.2 ∈ (S.lose n).keys)) = (S.lose n).ties := by
  refine List.filter_congr fun t ht => ?_
  have z := i.te t ht
  have e : ∀ y, y ∈ S.keys → decide (y ∈ (S.lose n).keys) = !decide (S.mark y = some n) := fun y hy => by
    rw [← decide_not, decide_eq_decide, lose_keys wf.nd]
    exact ⟨fun q => q.2, fun q => ⟨hy, q⟩⟩
  rw [e _ z.1, e _ z.2]
end
end Ho

set_option Elab.async false
set_option linter.all false
set_option maxRecDepth 100000
set_option maxHeartbeats 4000000
/-! B5: ties; what is taken down, what is gone. -/
namespace Ho
open PySem PySem.Spec PyProof.Rows L2
section
variable {P : Program} {w : World} {K : PySem.W.Frag} {mg : Str → Option Value} {base : Heap} {σ : L2.St} {H H' : Hp} {ta tb te tx td tl : TE} {a : HA} {S S' : Stt} {E : XK} {De : Ends} {tz : TS}
theorem ev_pairD {t1 t2 : TE} {x y : Int} (h1 : EvD t1 σ H (.int x)) (h2 : EvD t2 σ H (.int y)) : EvD (tTup (tCons t1 (tCons t2 tNil))) σ H (pairD (x, y)) := ev_tup (ea_cons h1 (ea_cons h2 ea_nil)) le_lit
/-! ### tie, untie -/
def sp_h_tie (K : PySem.W.Frag) : Sp := fun vs H Q E => ∃ (a : HA) (S : Stt) (x y : Int), vs = [.ref a.p, .int x, .int y] ∧ HouseAt (cH K) H a S ∧ S.Wf ∧ Res K a (S.tie x y) H Q E
theorem sc_h_tie : FnScope ["self", "one", "other"] ["self", "one", "other"] (defScope s_h_tie) := ⟨rfl, rfl, rfl, by decide +kernel, rfl, by decide +kernel, by decide +kernel⟩
theorem ok_h_tie (T : Tx K mg) : FnR P w K mg base (L2.CX P w) 3 (He.ma K (cH K) "tie") (sp_h_tie K) := by
  refine fnr (F_h_tie T) sc_h_tie (fun _ _ _ _ _ _ us hl => match us, hl with | [_, _, _], _ => rfl) (fun vs H Q E h => by obtain ⟨_, _, _, _, rfl, _⟩ := h; rfl) (fun cdv A outer s H vs Q E hr h => ?_)
  refine ⟨_, (pss_cons (ps_expr (pe_methR (pv 0) (T_cls T) (T_h_must T) (ok_h_must T) (hr.mono (by decide)) (passes_call (takes_of rfl rfl rfl rfl) (fun _ _ _ _ z => z)) (pa_cons (pv 1) pa_nil))) (pss_cons (ps_expr (pe_methR (pv 0) (T_cls T) (T_h_must T) (ok_h_must T) (hr.mono (by decide)) (passes_call (takes_of rfl rfl rfl rfl) (fun _ _ _ _ z => z)) (pa_cons (pv 2) pa_nil))) (pss_cons (ps_if (pt_cmpR op_eq (pv 1) (pv 2) (nomark _)) (pss_one (ps_raise rfl (takes_of rfl rfl rfl rfl) (pmk_own PySem.F.excBase_ValueError (T_Same T).x (T_Same T).g (T_Same T).k (raises_own (T_Same T).b (T_Same T).t) rfl))) pss_nil) (pss_one (ps_if (pt_cmpR (niDK K (hD hr)) (pe_tup (pa_cons (pv 1) (pa_cons (pv 2) pa_nil))) (fldK K (pv 0)) rfl) (pss_one (ps_expr (bmK K PySem.F.plainAttrs_list PySem.F.slot_list_append PySem.F.type_list_append mt_append (fldK K (pv 0)) (pa_cons (pe_tup (pa_cons (pv 1) (pa_cons (pv 2) pa_nil))) pa_nil)))) pss_nil))))), ?_⟩
  obtain ⟨a, S, x, y, rfl, h, wf, k⟩ := h
  have ln := wf.tl
  unfold Stt.tie at k
  refine m_must h.rd (ev_vr rfl) (ev_vi rfl) (fun q => res_err (S' := S) k (by rw [if_pos (.inl q)])) fun q1 H1 s1 => ?_
  have h1 := h.mono s1
  refine m_must h1.rd (ev_vr rfl) (ev_vi rfl) (fun q => RaiE.mono (res_err (S' := S) k (by rw [if_pos (.inr q)])) s1) fun q2 H2 s2 => ?_
  have h2 := h1.mono s2
  rw [if_neg (by rw [q1, q2]; simp)] at k
  refine q_if (et_test (ev_eqI (ev_vi rfl) (ev_vi rfl))) (fun b H3 s3 => ?_) fun b H3 s3 => ?_
  · exact res_err (S' := S) k (by rw [if_pos (of_decide_eq_true b)]) H3 ((s1.trans s2).trans s3)
  rw [if_neg (of_decide_eq_false b)] at k
  have h3 := h2.mono s3
  refine s_if (et_test (ev_niP (p := (x, y)) (ev_pairD (ev_vi rfl) (ev_vi rfl)) (e_pairs T h3.rd (ev_vr rfl)))) (fun b H4 s4 => ?_) fun b H4 s4 => ?_
  · have nb : (x, y) ∉ S.ties := by simpa using b
    rw [if_neg nb] at k
    have h4 := h3.mono s4
    obtain ⟨vs, p1, p2⟩ := h4.pairs
    refine s_app p1 (e_pairsR T h4.rd (ev_vr rfl)) (ev_pairD (ev_vi rfl) (ev_vi rfl)) (by rw [← p2.length, List.length_map]; omega) fun v H5 s5 av => ?_
    have h5 := h4.mono s5
    have z : Ats H5 ((S.ties ++ [(x, y)]).map pairD) (vs ++ [v]) := by rw [List.map_append]; exact (p2.mono s5).app (.one av)
    exact res_val k rfl _ a _ rfl (h5.pairsIn z) ((Mv.of (((s1.trans s2).trans s3).trans s4)).trans (mv_upd s5 (by simp [HA.all]) (s5 _ _ p1) fun _ z => nomatch z)) .non
  · have nb : (x, y) ∈ S.ties := by simpa using b
    rw [if_pos nb] at k
    exact res_val k rfl _ a H4 rfl (h3.mono s4) (Mv.of (((s1.trans s2).trans s3).trans s4)) .non
def sp_h_untie (K : PySem.W.Frag) : Sp := fun vs H Q E => ∃ (a : HA) (S : Stt) (x y : Int), vs = [.ref a.p, .int x, .int y] ∧ HouseAt (cH K) H a S ∧ S.Wf ∧ Res K a (S.untie x y) H Q E
theorem sc_h_untie : FnScope ["self", "one", "other"] ["self", "one", "other"] (defScope s_h_untie) := ⟨rfl, rfl, rfl, by decide +kernel, rfl, by decide +kernel, by decide +kernel⟩
theorem ok_h_untie (T : Tx K mg) : FnR P w K mg base (L2.CX P w) 3 (He.ma K (cH K) "untie") (sp_h_untie K) := by
  refine fnr (F_h_untie T) sc_h_untie (fun _ _ _ _ _ _ us hl => match us, hl with | [_, _, _], _ => rfl) (fun vs H Q E h => by obtain ⟨_, _, _, _, rfl, _⟩ := h; rfl) (fun cdv A outer s H vs Q E hr h => ?_)
  refine ⟨_, (pss_cons (ps_expr (pe_methR (pv 0) (T_cls T) (T_h_must T) (ok_h_must T) (hr.mono (by decide)) (passes_call (takes_of rfl rfl rfl rfl) (fun _ _ _ _ z => z)) (pa_cons (pv 1) pa_nil))) (pss_cons (ps_expr (pe_methR (pv 0) (T_cls T) (T_h_must T) (ok_h_must T) (hr.mono (by decide)) (passes_call (takes_of rfl rfl rfl rfl) (fun _ _ _ _ z => z)) (pa_cons (pv 2) pa_nil))) (pss_cons (ps_if (pt_cmpR (niDK K (hD hr)) (pe_tup (pa_cons (pv 1) (pa_cons (pv 2) pa_nil))) (fldK K (pv 0)) rfl) (pss_one (ps_raise rfl (takes_of rfl rfl rfl rfl) (pmk_own PySem.F.excBase_ValueError (T_NoTie T).x (T_NoTie T).g (T_NoTie T).k (raises_own (T_NoTie T).b (T_NoTie T).t) rfl))) pss_nil) (pss_one (ps_expr (bmK K PySem.F.plainAttrs_list PySem.F.slot_list_remove PySem.F.type_list_remove (remK K (hD hr)) (fldK K (pv 0)) (pa_cons (pe_tup (pa_cons (pv 1) (pa_cons (pv 2) pa_nil))) pa_nil))))))), ?_⟩
  obtain ⟨a, S, x, y, rfl, h, wf, k⟩ := h
  have ln := wf.tl
  unfold Stt.untie at k
  refine m_must h.rd (ev_vr rfl) (ev_vi rfl) (fun q => res_err (S' := S) k (by rw [if_pos (.inl q)])) fun q1 H1 s1 => ?_
  have h1 := h.mono s1
  refine m_must h1.rd (ev_vr rfl) (ev_vi rfl) (fun q => RaiE.mono (res_err (S' := S) k (by rw [if_pos (.inr q)])) s1) fun q2 H2 s2 => ?_
  have h2 := h1.mono s2
  rw [if_neg (by rw [q1, q2]; simp)] at k
  refine q_if (et_test (ev_niP (p := (x, y)) (ev_pairD (ev_vi rfl) (ev_vi rfl)) (e_pairs T h2.rd (ev_vr rfl)))) (fun b H3 s3 => ?_) fun b H3 s3 => ?_
  · have nb : (x, y) ∉ S.ties := by simpa using b
    exact res_err (S' := S) k (by rw [if_pos nb]) H3 ((s1.trans s2).trans s3)
  have nb : (x, y) ∈ S.ties := by simpa using b
  rw [if_neg (by simpa using nb)] at k
  have h3 := h2.mono s3
  obtain ⟨vs, p1, p2⟩ := h3.pairs
  refine s_rem p1 p2 nb (e_pairsR T h3.rd (ev_vr rfl)) (ev_pairD (ev_vi rfl) (ev_vi rfl)) fun j H5 s5 z => ?_
  have h5 := h3.mono s5
  exact res_val k rfl _ a _ rfl (h5.pairsIn z) ((Mv.of ((s1.trans s2).trans s3)).trans (mv_upd s5 (by simp [HA.all]) (s5 _ _ p1) fun _ z => nomatch z)) .non
/-! ### the house's lists anew -/
theorem h_casts {cs : List (Int × Int)} (T : Tx K mg) (h : HouseAt (cH K) H a S) (hv : EvN tx σ H (cs.map pairD)) (ho : EvD ta σ H (.ref a.p))
    (k : ∀ q H1, H q = none → HouseAt (cH K) H1 { a with c := q } { S with casts := cs } → Mv a.all ({ a with c := q } : HA).all H H1 → tz De σ H1) : tSeq (sFld K ta tx "casts") tz De σ H :=
  q_fldN (T_cls T) (T_f_casts T) h.ins (le_lit (by kernel_rfl)) hv ho fun q vs H1 hq s h1 as => by
    have ht := h.mono s
    obtain ⟨v4, h4, _⟩ := h.pairs
    have e : putF "casts" (.ref q) (hFs a S) = hFs { a with c := q } { S with casts := cs } := by kernel_rfl
    rw [e]
    refine k q _ hq (ht.castsTo h1 as (Ne.symm (ne_of_none h4 hq))) (mv_upd2 s (by simp [HA.all]) ht.ins (fun _ z => nomatch z) fun y hy => ?_)
    simp only [HA.all, List.mem_cons, List.not_mem_nil, or_false] at hy ⊢
    rcases hy with rfl | rfl | rfl | rfl | rfl
    · simp
    · simp
    · simp
    · exact .inr hq
    · simp
theorem h_pairs {cs : List (Int × Int)} (T : Tx K mg) (h : HouseAt (cH K) H a S) (hv : EvN tx σ H (cs.map pairD)) (ho : EvD ta σ H (.ref a.p))
    (k : ∀ q H1, H q = none → HouseAt (cH K) H1 { a with t := q } { S with ties := cs } → Mv a.all ({ a with t := q } : HA).all H H1 → tz De σ H1) : tSeq (sFld K ta tx "pairs") tz De σ H :=
  q_fldN (T_cls T) (T_f_pairs T) h.ins (le_lit (by kernel_rfl)) hv ho fun q vs H1 hq s h1 as => by
    have ht := h.mono s
    obtain ⟨v4, h4, _⟩ := h.casts
    have e : putF "pairs" (.ref q) (hFs a S) = hFs { a with t := q } { S with ties := cs } := by kernel_rfl
    rw [e]
    refine k q _ hq (ht.pairsTo h1 as (ne_of_none h4 hq)) (mv_upd2 s (by simp [HA.all]) ht.ins (fun _ z => nomatch z) fun y hy => ?_)
    simp only [HA.all, List.mem_cons, List.not_mem_nil, or_false] at hy ⊢
    rcases hy with rfl | rfl | rfl | rfl | rfl
    · simp
    · simp
    · simp
    · simp
    · exact .inr hq
/-- a key is taken from the shelf's dict -/
theorem h_unmark {x : Int} (T : Tx K mg) (h : HouseAt (cH K) H a S) (e0 : rows3 S' = rows3 S) (e1 : S'.casts = S.casts) (e2 : S'.ties = S.ties) (e3 : hFs a S' = hFs a S) (hm : ∀ y, S'.mark y = if y = x then none else S.mark y) (hx : (S.mark x).isSome = true)
    (ho : EvD ta σ H (.ref a.p)) (hi : EvD te σ H (.int x)) (k : ∀ H1, HouseAt (cH K) H1 a S' → Mv a.all a.all H H1 → De.nx σ H1) : tDrop (tDPop1 (tFld K ta "shelved") te) De σ H := by
  refine e_shelved T h.rd ho H (Same.refl H) _ fun v H1 s1 av => ?_
  cases av
  obtain ⟨l, ⟨kvs, h1, h2⟩, sh⟩ := h.shl
  refine ⟨a.s, rfl, .inl ⟨kvs, .inl (s1 _ _ h1)⟩, hi H1 s1 _ fun u H2 s2 au => ?_⟩
  cases au
  have s12 := s1.trans s2
  obtain ⟨m, em⟩ := Option.isSome_iff_exists.mp hx
  obtain ⟨v, v1, v2⟩ := h2.some (n := x) (d := .int m) (by rw [sh.look, em]; rfl)
  refine ⟨kvs, .inl x, v, s12 _ _ h1, rfl, v1, ?_⟩
  have h' := h.mono s12
  exact k _ (h'.shTo ((h2.mono s12).drop x) (sh.drop hm) e0 e1 e2 e3) (mv_upd s12 (by simp [HA.all]) (s12 _ _ h1) fun _ z => nomatch z)
/-- .. from the rows -/
theorem h_unrow {x : Int} {r : Rw} (T : Tx K mg) (h : HouseAt (cH K) H a S) (er : S'.rows = dropI S.rows x) (e1 : S'.casts = S.casts) (e2 : S'.ties = S.ties) (e3 : hFs a S' = hFs a S) (hm : ∀ y, S'.mark y = S.mark y) (hx : S.get x = some r)
    (ho : EvD ta σ H (.ref a.p)) (hi : EvD te σ H (.int x)) (k : ∀ H1, HouseAt (cH K) H1 a S' → Mv a.all a.all H H1 → De.nx σ H1) : tDrop (tDPop1 (tFld K ta "rows") te) De σ H := by
  refine e_rows T h.rd ho H (Same.refl H) _ fun v H1 s1 av => ?_
  cases av
  obtain ⟨kvs, h1, h2⟩ := h.rows
  refine ⟨a.r, rfl, .inl ⟨kvs, .inl (s1 _ _ h1)⟩, hi H1 s1 _ fun u H2 s2 au => ?_⟩
  cases au
  have s12 := s1.trans s2
  obtain ⟨v, v1, v2⟩ := h2.some (n := x) (d := row3 r) (by rw [look3, hx]; rfl)
  refine ⟨kvs, .inl x, v, s12 _ _ h1, rfl, v1, ?_⟩
  have h' := h.mono s12
  have e0 : rows3 S' = dropI (rows3 S) x := by unfold rows3; rw [er, dropI_map]
  exact k _ (h'.rowsTo (by rw [e0]; exact (h2.mono s12).drop x) hm e1 e2 e3) (mv_upd s12 (by simp [HA.all]) (s12 _ _ h1) fun _ z => nomatch z)
theorem HouseAt.out (h : HouseAt (cH K) H a S) {L : Addr} (hL : H L = none) : L ∉ a.all := fun z => by
  obtain ⟨o, e, _⟩ := h.there L z
  rw [hL] at e; cases e
theorem not_take {α : Type} {l : List α} {x : α} {i : Nat} (nd : l.Nodup) (hx : l[i]? = some x) : x ∉ l.take i := fun z => by
  have hnd : (l.take i ++ [x]).Nodup := by
    rw [← take_more hx]
    exact (List.take_sublist _ _).nodup nd
  exact (List.nodup_append.mp hnd).2.2 x z x (by simp) rfl
/-! ### take_down -/
def sp_h_take_down (K : PySem.W.Frag) : Sp := fun vs H Q E => ∃ (a : HA) (S : Stt) (n : Int), vs = [.ref a.p, .int n] ∧ HouseAt (cH K) H a S ∧ S.Wf ∧ (n ∉ S.casts.map (·.1) → RaiE (cE K Kd.noCast.nm) H E) ∧
  (n ∈ S.casts.map (·.1) → ∀ L a' H', H L = none → L ∉ a'.all → a'.p = a.p → HouseAt (cH K) H' a' (S.wake n) → Mv a.all a'.all H H' → H' L = some (.lst ((S.bundleL n).map V.int)) → Q (.ref L) H')
theorem sc_h_take_down : FnScope ["self", "number", "some", "one", "row"] ["self", "number"] (defScope s_h_take_down) := ⟨rfl, rfl, rfl, by decide +kernel, rfl, by decide +kernel, by decide +kernel⟩
theorem ok_h_take_down (T : Tx K mg) : FnR P w K mg base (L2.CX P w) 2 (He.ma K (cH K) "take_down") (sp_h_take_down K) := by
  refine fnr (F_h_take_down T) sc_h_take_down (fun _ _ _ _ _ _ us hl => match us, hl with | [_, _], _ => rfl) (fun vs H Q E h => by obtain ⟨_, _, _, rfl, _⟩ := h; rfl) (fun cdv A outer s H vs Q E hr h => ?_)
  refine ⟨_, (pss_cons (ps_set (i := 2) sc_h_take_down.nd rfl (Or.inl rfl) (pe_methR (pv 0) (T_cls T) (T_h_bundle T) (ok_h_bundle T) (hr.mono (by decide)) (passes_call (takes_of rfl rfl rfl rfl) (fun _ _ _ _ z => z)) (pa_cons (pv 1) pa_nil))) (pss_cons (ps_for (passes_of rfl) rfl (pilK K (pv 2)) (pg_name (i := 3) sc_h_take_down.nd rfl (Or.inl rfl)) (pss_one (ps_expr (pe_dpop1 (fldK K (pv 0)) (pv 3) ⟨rfl, rfl, rfl, rfl⟩)))) (pss_cons (sfldK K (pv 0) (pe_lc (own := [("row", 4)]) rfl sc_h_take_down.nd (pilK K (fldK K (pv 0))) (blkOk_by (N := ["self", "number", "some", "one", "row"]) (sc := defScope s_h_take_down) (by decide +kernel)) (fun _ _ _ _ _ => (pg_name (i := 4) sc_h_take_down.nd rfl (Or.inl rfl))) (fun _ _ _ _ _ => (pts_one (pt_cmpR op_ne (pe_ix (ixtK K) (pv 4) pe_int (fun _ _ => rfl)) (pv 1) (nomark _)))) (fun _ _ _ _ _ => (pv 4)))) (pss_one (ps_ret (pv 2)))))), ?_⟩
  obtain ⟨a, S, n, rfl, h, wf, k1, k2⟩ := h
  by_cases hn : n ∈ S.casts.map (·.1)
  · refine q_asgN (en_bundle h.rd wf hn (ev_vr rfl) (ev_vi rfl)) fun L vs H1 hL s1 h1 as => ?_
    have e := Ats.ints as
    subst e
    have ht := h.mono s1
    have oL := h.out hL
    refine q_forR (ev_vr rfl) h1 fun H2 s2 => ⟨fun i σ' H' => ∃ o : Option V, σ' = [some (.ref a.p), some (.int n), some (.ref L), o, none] ∧ H' L = some (.lst ((S.bundleL n).map V.int)) ∧ HouseAt (cH K) H' a (S.remark ((S.bundleL n).take i) none) ∧ Mv a.all a.all H H', ?_, fun i σ' H' p => ?_, fun i v σ' H' hv p => ?_, fun σ' H' p => ?_⟩
    · refine ⟨_, rfl, s2 _ _ h1, ?_, Mv.of (s1.trans s2)⟩
      rw [List.take_zero, remark_nil]
      exact ht.mono s2
    · obtain ⟨_, _, z, _⟩ := p; exact z
    · obtain ⟨o, rfl, p1, p2, p3⟩ := p
      rw [List.getElem?_map] at hv
      obtain ⟨x, hx, ev⟩ := Option.map_eq_some_iff.mp hv
      subst ev
      have hxb : x ∈ S.bundleL n := List.mem_of_getElem? hx
      have hxo : x ∉ (S.bundleL n).take i := not_take ((wf.nd.filter _)) hx
      refine h_unmark (x := x) (S' := S.remark ((S.bundleL n).take (i + 1)) none) T p2 (by rw [remark_rows3, remark_rows3]) rfl rfl rfl (fun y => by rw [take_more hx]; exact remark_more (bundle_key hxb) y) ?_ (ev_vr rfl) (ev_var rfl (.int x)) fun H3 h3 m3 => ?_
      · rw [remark_mark, if_neg fun z => hxo z.2, (bundle_mem wf).mp hxb]; rfl
      · exact ⟨_, rfl, m3.keep _ _ oL p1, h3, p3.trans m3⟩
    · obtain ⟨o, rfl, p1, p2, p3⟩ := p
      rw [List.take_of_length_le (by rw [List.length_map]; exact Nat.le_refl _)] at p2
      refine h_casts (cs := S.casts.filter fun c => !decide (c.1 = n)) T p2 ((en_lc S.casts pairD (fun c => !decide (c.1 = n)) pairD (show EvD _ _ _ (.lst ((S.remark (S.bundleL n) none).casts.map pairD)) from e_casts T p2.rd (ev_vr rfl)) (by have := wf.cl; omega) (fun p _ => pairD_nl p) (fun _ => rfl) fun c hc v H3 s3 av => ?_).is rfl) (ev_vr rfl) fun q H3 hq h3 m3 => ?_
      · exact ⟨et_test (ev_neI (ev_ixT (k := 0) (ev_var rfl av) rfl) (ev_var rfl (.int n))), fun _ => ev_var rfl av⟩
      · have e3 := m3.keep _ _ oL p1
        have nq : L ≠ q := ne_of_none p1 hq
        refine s_ret (ev_vr rfl) fun v H4 s4 av => ?_
        cases av
        refine k2 hn L { a with c := q } H4 hL ?_ rfl (HouseAt.mono s4 ?_) ((p3.trans m3).trans (Mv.of s4)) (s4 _ _ e3)
        · simp only [HA.all, List.mem_cons, List.not_mem_nil, or_false] at oL ⊢
          rintro (z | z | z | z | z)
          · exact oL (.inl z)
          · exact oL (.inr (.inl z))
          · exact oL (.inr (.inr (.inl z)))
          · exact nq z
          · exact oL (.inr (.inr (.inr (.inr z))))
        · rw [wake_remark wf]; exact h3
  · exact c_meth (Q := _) h.ins (by kernel_rfl) (ev_vr rfl) (ea_cons (ev_vi rfl) ea_nil) fun vs H1 s as => by
      cases as with | cons a1 as => cases as; cases a1; exact ⟨a, S, n, rfl, h.rd.mono s, wf, fun z => absurd z hn, fun z => (k1 z).mono s⟩
/-! ### lose -/
def sp_h_lose (K : PySem.W.Frag) : Sp := fun vs H Q E => ∃ (a : HA) (S : Stt) (n : Int), vs = [.ref a.p, .int n] ∧ HouseAt (cH K) H a S ∧ S.Wf ∧ S.Inv ∧ (n ∉ S.casts.map (·.1) → RaiE (cE K Kd.noCast.nm) H E) ∧
  (n ∈ S.casts.map (·.1) → ∀ a' H', a'.p = a.p → HouseAt (cH K) H' a' (S.lose n) → Mv a.all a'.all H H' → Q (.int (S.many n)) H')
theorem lose_is (wf : S.Wf) (n : Int) : ({ (S.wake n).without (S.bundleL n) with ties := (S.lose n).ties } : Stt) = S.lose n := by
  have z := lose_rows (n := n) wf
  show Stt.mk _ _ _ _ _ _ _ = Stt.mk _ _ _ _ _ _ _
  rw [show ((S.wake n).without (S.bundleL n)).rows = (S.lose n).rows from z]
  rfl
theorem sc_h_lose : FnScope ["self", "number", "some", "one", "pair"] ["self", "number"] (defScope s_h_lose) := ⟨rfl, rfl, rfl, by decide +kernel, rfl, by decide +kernel, by decide +kernel⟩
theorem ok_h_lose (T : Tx K mg) : FnR P w K mg base (L2.CX P w) 3 (He.ma K (cH K) "lose") (sp_h_lose K) := by
  refine fnr (F_h_lose T) sc_h_lose (fun _ _ _ _ _ _ us hl => match us, hl with | [_, _], _ => rfl) (fun vs H Q E h => by obtain ⟨_, _, _, rfl, _⟩ := h; rfl) (fun cdv A outer s H vs Q E hr h => ?_)
  refine ⟨_, (pss_cons (ps_set (i := 2) sc_h_lose.nd rfl (Or.inl rfl) (pe_methR (pv 0) (T_cls T) (T_h_take_down T) (ok_h_take_down T) (hr.mono (by decide)) (passes_call (takes_of rfl rfl rfl rfl) (fun _ _ _ _ z => z)) (pa_cons (pv 1) pa_nil))) (pss_cons (ps_for (passes_of rfl) rfl (pilK K (pv 2)) (pg_name (i := 3) sc_h_lose.nd rfl (Or.inl rfl)) (pss_one (ps_expr (pe_dpop1 (fldK K (pv 0)) (pv 3) ⟨rfl, rfl, rfl, rfl⟩)))) (pss_cons (sfldK K (pv 0) (pe_lc (own := [("pair", 4)]) rfl sc_h_lose.nd (pilK K (fldK K (pv 0))) (blkOk_by (N := ["self", "number", "some", "one", "pair"]) (sc := defScope s_h_lose) (by decide +kernel)) (fun _ _ _ _ _ => (pg_name (i := 4) sc_h_lose.nd rfl (Or.inl rfl))) (fun _ _ _ _ _ => (pts_one (PW.pt (pw_and (pt_cmp (pc_din (hu_of hr) (pe_ix (ixtK K) (pv 4) pe_int (fun _ _ => rfl)) (fldK K (pv 0)))) (pw_and1 (pt_cmp (pc_din (hu_of hr) (pe_ix (ixtK K) (pv 4) pe_int (fun _ _ => rfl)) (fldK K (pv 0))))))))) (fun _ _ _ _ _ => (pv 4)))) (pss_one (ps_ret (pe_callB (lenK K) rfl (T_len T) bt_len (pa_cons (pv 2) pa_nil))))))), ?_⟩
  obtain ⟨a, S, n, rfl, h, wf, inv, k1, k2⟩ := h
  refine c_meth h.ins (by kernel_rfl) (ev_vr rfl) (ea_cons (ev_vi rfl) ea_nil) fun vs H1 s1 as => ?_
  cases as with | cons a1 as => ?_
  cases as; cases a1
  refine ⟨a, S, n, rfl, h.mono s1, wf, fun z => (k1 z).mono s1, fun hn L a2 H2 hL oL ep h2 m2 hl => ?_⟩
  have hL0 := fresh_back s1 hL
  have m2' : Mv a.all a2.all H H2 := (Mv.of s1).trans m2
  have wk : (S.wake n).keys.Nodup := by rw [wake_keys]; exact wf.nd
  rw [← ep]
  refine q_forR (ev_vr rfl) hl fun H3 s3 => ⟨fun i σ' H' => ∃ o : Option V, σ' = [some (.ref a2.p), some (.int n), some (.ref L), o, none] ∧ H' L = some (.lst ((S.bundleL n).map V.int)) ∧ HouseAt (cH K) H' a2 ((S.wake n).without ((S.bundleL n).take i)) ∧ Mv a.all a2.all H H', ?_, fun i σ' H' p => ?_, fun i v σ' H' hv p => ?_, fun σ' H' p => ?_⟩
  · refine ⟨_, rfl, s3 _ _ hl, ?_, m2'.trans (Mv.of s3)⟩
    rw [List.take_zero, without_nil]
    exact h2.mono s3
  · obtain ⟨_, _, z, _⟩ := p; exact z
  · obtain ⟨o, rfl, p1, p2, p3⟩ := p
    rw [List.getElem?_map] at hv
    obtain ⟨x, hx, ev⟩ := Option.map_eq_some_iff.mp hv
    subst ev
    have hxb : x ∈ S.bundleL n := List.mem_of_getElem? hx
    have hxk : x ∈ (S.wake n).keys := by rw [wake_keys]; exact bundle_key hxb
    have hxo : x ∉ (S.bundleL n).take i := not_take ((wf.nd.filter _)) hx
    have hmx : (S.wake n).mark x = none := by
      rw [wake_remark wf]
      show (S.remark (S.bundleL n) none).mark x = none
      rw [remark_mark, if_pos ⟨bundle_key hxb, hxb⟩]
    refine h_unrow (x := x) (r := (S.wake n).rw x) (S' := (S.wake n).without ((S.bundleL n).take (i + 1))) T p2 (by rw [take_more hx, dropI_rows]) rfl rfl rfl (fun y => ?_) ?_ (ev_vr rfl) (ev_var rfl (.int x)) fun H4 h4 m4 => ?_
    · rw [without_mark wk, without_mark wk, take_more hx]
      by_cases c : y = x
      · subst c; rw [if_pos (by simp), if_neg hxo, hmx]
      · by_cases c2 : y ∈ (S.bundleL n).take i
        · rw [if_pos c2, if_pos (List.mem_append_left _ c2)]
        · rw [if_neg c2, if_neg fun z => c2 ((List.mem_append.mp z).resolve_right fun q => c (by simpa using q))]
    · show ((S.wake n).rows.filter _).lookup x = _
      rw [lookup_filter wk, show (S.wake n).rows.lookup x = some ((S.wake n).rw x) from get_rw hxk]
      simp [hxo]
    · exact ⟨_, rfl, m4.keep _ _ oL p1, h4, p3.trans m4⟩
  · obtain ⟨o, rfl, p1, p2, p3⟩ := p
    rw [List.take_of_length_le (by rw [List.length_map]; exact Nat.le_refl _)] at p2
    have kk : (rows3 ((S.wake n).without (S.bundleL n))).map (·.1) = (S.lose n).keys := by rw [keys3]; unfold Stt.keys; rw [lose_rows wf]
    have lk : ∀ y, ((rows3 ((S.wake n).without (S.bundleL n))).lookup y).isSome = decide (y ∈ (S.lose n).keys) := fun y => by
      rw [Bool.eq_iff_iff, lookup_mem, kk, decide_eq_true_eq]
    refine h_pairs (cs := (S.lose n).ties) T p2 ((en_lc S.ties pairD (fun t => decide (t.1 ∈ (S.lose n).keys) && decide (t.2 ∈ (S.lose n).keys)) pairD (show EvD _ _ _ (.lst (((S.wake n).without (S.bundleL n)).ties.map pairD)) from e_pairs T p2.rd (ev_vr rfl)) (by have := wf.tl; omega) (fun p _ => pairD_nl p) (fun _ => rfl) fun c hc v H3 s3 av => ?_).is (by rw [lose_ties wf inv])) (ev_vr rfl) fun q H3 hq h3 m3 => ?_
    · have pr := p2.rd.mono s3
      exact ⟨(et_and (et_test (ev_din pr.rows (ev_ixT (k := 0) (ev_var rfl av) rfl) (e_rows T pr (ev_vr rfl)))) fun _ => et_test (ev_din pr.rows (ev_ixT (k := 1) (ev_var rfl av) rfl) (e_rows T pr (ev_vr rfl)))).is (by rw [lk, lk]), fun _ => ev_var rfl av⟩
    · refine s_ret ((ev_lenL (ev_var rfl (.lst (m3.keep _ _ oL p1) (ats_ints _)))).is (e := .int (S.many n)) (by rw [List.length_map, many_bundle wf])) fun v H4 s4 av => ?_
      cases av
      refine k2 hn { a2 with t := q } H4 ep (HouseAt.mono s4 ?_) ((p3.trans m3).trans (Mv.of s4))
      rw [← lose_is wf]; exact h3
theorem c_lose {Q : VK} {n : Int} (h : HouseAt (cH K) H a S) (wf : S.Wf) (inv : S.Inv) (ho : EvD ta σ H (.ref a.p)) (hn : EvD te σ H (.int n)) (k1 : n ∉ S.casts.map (·.1) → RaiE (cE K Kd.noCast.nm) H E)
    (k2 : n ∈ S.casts.map (·.1) → ∀ a' H', a'.p = a.p → HouseAt (cH K) H' a' (S.lose n) → Mv a.all a'.all H H' → Q (.int (S.many n)) H') : tMethR (cH K) "lose" (sp_h_lose K) E ta (tCons te tNil) σ H Q :=
  c_meth h.ins (by kernel_rfl) ho (ea_cons hn ea_nil) fun vs H1 s as => by
    cases as with | cons a1 as => cases as; cases a1; exact ⟨a, S, n, rfl, h.mono s, wf, inv, fun z => (k1 z).mono s, fun z a' H' e h' m => k2 z a' H' e h' ((Mv.of s).trans m)⟩
/-! ### gone -/
def sp_h_gone (K : PySem.W.Frag) : Sp := fun vs H Q E => ∃ (a : HA) (S : Stt) (n : Int), vs = [.ref a.p, .int n] ∧ HouseAt (cH K) H a S ∧ S.Wf ∧ S.Inv ∧ Res K a (S.gone n) H Q E
theorem sc_h_gone : FnScope ["self", "number"] ["self", "number"] (defScope s_h_gone) := ⟨rfl, rfl, rfl, by decide +kernel, rfl, by decide +kernel, by decide +kernel⟩
theorem ok_h_gone (T : Tx K mg) : FnR P w K mg base (L2.CX P w) 4 (He.ma K (cH K) "gone") (sp_h_gone K) := by
  refine fnr (F_h_gone T) sc_h_gone (fun _ _ _ _ _ _ us hl => match us, hl with | [_, _], _ => rfl) (fun vs H Q E h => by obtain ⟨_, _, _, rfl, _⟩ := h; rfl) (fun cdv A outer s H vs Q E hr h => ?_)
  refine ⟨_, (pss_one (ps_expr (pe_methR (pv 0) (T_cls T) (T_h_lose T) (ok_h_lose T) (hr.mono (by decide)) (passes_call (takes_of rfl rfl rfl rfl) (fun _ _ _ _ z => z)) (pa_cons (pv 1) pa_nil)))), ?_⟩
  obtain ⟨a, S, n, rfl, h, wf, inv, k⟩ := h
  unfold Stt.gone at k
  refine c_lose h wf inv (ev_vr rfl) (ev_vi rfl) (fun z => res_err (S' := S) k (by rw [if_pos z])) fun z a' H' e h' m => ?_
  rw [if_neg (fun q => q z)] at k
  exact res_val k rfl _ a' H' e h' m .non
end
end Ho

set_option Elab.async false
set_option linter.all false
set_option maxRecDepth 100000
set_option maxHeartbeats 4000000
/-! M8: room; what comes back; all that goes. -/
namespace Ho
open PySem PySem.Spec PyProof.Rows L2
section
variable {S : Stt} {n : Int}
theorem sum_part {α : Type} (f : α → Bool) (g : α → Int) : ∀ l : List α, (l.map g).sum = ((l.filter f).map g).sum + ((l.filter fun x => !f x).map g).sum
  | [] => rfl
  | x :: l => by
    have ih := sum_part f g l
    rw [List.map_cons, List.sum_cons, ih, List.filter_cons, List.filter_cons]
    cases f x with
    | true => simp only [if_true, Bool.not_true, Bool.false_eq_true, if_false, List.map_cons, List.sum_cons]; omega
    | false => simp only [Bool.not_false, if_true, Bool.false_eq_true, if_false, List.map_cons, List.sum_cons]; omega
theorem used_shelf (wf : S.Wf) : S.used - ((S.keys.filter fun x => (S.mark x).isSome).map fun x => Stt.txLen (S.rw x)).sum = S.usedThere := by
  have z := keys_rows (S := S) (β := Int) wf.nd (fun x => (S.mark x).isSome) (fun x => Stt.txLen (S.rw x)) (fun p => p.2.mrk.isSome) (fun p => Stt.txLen p.2) (fun p hp => by rw [mark_row wf.nd hp]) (fun p hp => by rw [rw_row wf.nd hp])
  rw [z]
  unfold Stt.used Stt.usedThere
  rw [sum_part (fun p : Int × Rw => p.2.mrk.isNone) (fun p => Stt.txLen p.2) S.rows]
  have e : (S.rows.filter fun x => !x.2.mrk.isNone) = S.rows.filter fun p => p.2.mrk.isSome := List.filter_congr fun p _ => by cases p.2.mrk <;> rfl
  rw [e]
  omega
theorem lose_head {c : Int × Int} {cs : List (Int × Int)} (i : S.Inv) (e : S.casts = c :: cs) : (S.lose c.1).casts = cs := by
  show S.casts.filter _ = cs
  have z := i.ct
  rw [e, List.map_cons, List.nodup_cons] at z
  rw [e, List.filter_cons, if_neg (by simp)]
  refine List.filter_eq_self.mpr fun q hq => ?_
  simp only [Bool.not_eq_true', decide_eq_false_iff_not]
  exact fun w => z.1 (w ▸ List.mem_map.mpr ⟨q, hq, rfl⟩)
theorem mkRoom_stop {more : Int} (h : ¬ S.used + more > S.room) : ∀ k, S.mkRoom k more = S
  | 0 => rfl
  | k + 1 => by unfold Stt.mkRoom; rw [if_neg h]
theorem mkRoom_go {more : Int} {c : Int × Int} {cs : List (Int × Int)} (i : S.Inv) (h : S.used + more > S.room) (e : S.casts = c :: cs) : S.mkRoom S.casts.length more = (S.lose c.1).mkRoom (S.lose c.1).casts.length more := by
  rw [lose_head i e]
  have z : S.casts.length = cs.length + 1 := by rw [e]; rfl
  rw [z]
  show (if S.used + more > S.room then (match S.casts with
    | [] => S
    | c :: _ => Stt.mkRoom cs.length (S.lose c.1) more) else S) = _
  rw [if_pos h, e]
theorem stt_ext {A B : Stt} (h1 : A.keep = B.keep) (h2 : A.room = B.room) (h3 : A.rows = B.rows) (h4 : A.casts = B.casts) (h5 : A.ties = B.ties) (h6 : A.day = B.day) (h7 : A.count = B.count) : A = B := by
  cases A; cases B
  dsimp only at h1 h2 h3 h4 h5 h6 h7
  rw [h1, h2, h3, h4, h5, h6, h7]
theorem castOff_is : S.castOff n = { S.remark (S.within n) (some n) with casts := S.casts ++ [(n, S.day)] } := rfl
theorem setRow_rows {r : Rw} (h : n ∈ S.keys) : (S.setRow n r).rows = S.rows.map fun p => if p.1 = n then (p.1, r) else p := by
  show putI S.rows n r = _
  unfold putI
  rw [any_key, lookup_mem.mpr h, if_pos rfl]
theorem back_is (wf : S.Wf) (h : S.mark n = some n) (hk : n ∈ S.keys) : (S.wake n).setRow n ⟨S.newPar n, S.newNm n, (S.rw n).tx, none⟩ = S.bringBack n := by
  have e : ((S.wake n).setRow n ⟨S.newPar n, S.newNm n, (S.rw n).tx, none⟩).rows = (S.bringBack n).rows := by
    rw [setRow_rows (by rw [wake_keys]; exact hk)]
    unfold Stt.bringBack
    show _ = ((S.setRow n _).rows.map _)
    rw [setRow_rows hk, List.map_map]
    show (S.rows.map _).map _ = _
    rw [List.map_map]
    refine List.map_congr_left fun p hp => ?_
    show (if (if p.2.mrk = some n then (p.1, ({ p.2 with mrk := none } : Rw)) else p).1 = n then ((if p.2.mrk = some n then (p.1, ({ p.2 with mrk := none } : Rw)) else p).1, (⟨S.newPar n, S.newNm n, (S.rw n).tx, none⟩ : Rw)) else (if p.2.mrk = some n then (p.1, ({ p.2 with mrk := none } : Rw)) else p))
      = (fun q : Int × Rw => if q.2.mrk = some n then (q.1, ({ q.2 with mrk := none } : Rw)) else q) (if p.1 = n then (p.1, { S.rw n with par := S.newPar n, nm := S.newNm n }) else p)
    have q1 : (if p.2.mrk = some n then (p.1, ({ p.2 with mrk := none } : Rw)) else p).1 = p.1 := by
      by_cases c : p.2.mrk = some n
      · rw [if_pos c]
      · rw [if_neg c]
    rw [q1]
    by_cases c : p.1 = n
    · rw [if_pos c, if_pos c]
      have m : (S.rw n).mrk = some n := by
        have z := rw_row wf.nd hp
        have w := mark_row wf.nd hp
        rw [c] at z w
        rw [z, ← w]; exact h
      show _ = if ({ S.rw n with par := S.newPar n, nm := S.newNm n } : Rw).mrk = some n then _ else _
      rw [if_pos m]
    · rw [if_neg c, if_neg c]
  exact stt_ext rfl rfl e rfl rfl rfl rfl
theorem loseAll_fst : ∀ (l : List Int) (S : Stt), (Stt.loseAll l S).1 = l.foldl Stt.lose S
  | [], S => rfl
  | n :: l, S => by
    show (Stt.loseAll l (S.lose n)).1 = _
    rw [loseAll_fst l]; rfl
/-- how many go, one after the other -/
def manys : List Int → Stt → List Int
  | [], _ => []
  | n :: l, S => (S.many n : Int) :: manys l (S.lose n)
theorem loseAll_snd : ∀ (l : List Int) (S : Stt), (Stt.loseAll l S).2 = (manys l S).sum
  | [], S => rfl
  | n :: l, S => by
    show (S.many n : Int) + (Stt.loseAll l (S.lose n)).2 = _
    rw [loseAll_snd l]; rfl
theorem manys_len : ∀ (l : List Int) (S : Stt), (manys l S).length = l.length
  | [], S => rfl
  | n :: l, S => by show (manys l (S.lose n)).length + 1 = _; rw [manys_len l]; rfl
theorem manys_get : ∀ (l : List Int) (S : Stt) (i : Nat) (n : Int), l[i]? = some n → (manys l S)[i]? = some ((((l.take i).foldl Stt.lose S).many n : Nat) : Int)
  | [], S, i, n, h => by simp at h
  | m :: l, S, 0, n, h => by
    rw [List.getElem?_cons_zero] at h; cases h; rfl
  | m :: l, S, i + 1, n, h => by
    rw [List.getElem?_cons_succ] at h
    exact manys_get l (S.lose m) i n h
/-- those that are still to go are on the shelf -/
theorem lose_more : ∀ (l : List Int) (S : Stt), l.Nodup → S.Wf → S.Inv → (∀ n ∈ l, n ∈ S.casts.map (·.1)) → ∀ i, (((l.take i).foldl Stt.lose S).Wf ∧ ((l.take i).foldl Stt.lose S).Inv) ∧ ∀ n, l[i]? = some n → n ∈ ((l.take i).foldl Stt.lose S).casts.map (·.1)
  | [], S, _, wf, inv, _, i => ⟨by simpa using ⟨wf, inv⟩, fun n h => by simp at h⟩
  | m :: l, S, nd, wf, inv, h, 0 => ⟨⟨wf, inv⟩, fun n e => by rw [List.getElem?_cons_zero] at e; cases e; exact h m List.mem_cons_self⟩
  | m :: l, S, nd, wf, inv, h, i + 1 => by
    obtain ⟨n1, n2⟩ := List.nodup_cons.mp nd
    have z := lose_more l (S.lose m) n2 (wf.lose m) (inv.lose wf.nd m) (fun x hx => by
      obtain ⟨c, c1, c2⟩ := List.mem_map.mp (h x (List.mem_cons_of_mem _ hx))
      refine List.mem_map.mpr ⟨c, List.mem_filter.mpr ⟨c1, ?_⟩, c2⟩
      simp only [Bool.not_eq_true', decide_eq_false_iff_not]
      intro w
      rw [← c2, w] at hx
      exact n1 hx) i
    refine ⟨z.1, fun n e => ?_⟩
    rw [List.getElem?_cons_succ] at e
    exact z.2 n e
end
end Ho

set_option Elab.async false
set_option linter.all false
set_option maxRecDepth 100000
set_option maxHeartbeats 4000000
/-! B6: room; texts are written; things are cast off, brought back; days. -/
namespace Ho
open PySem PySem.Spec PyProof.Rows L2
section
variable {P : Program} {w : World} {K : PySem.W.Frag} {mg : Str → Option Value} {base : Heap} {σ : L2.St} {H H' : Hp} {ta tb te tx td tl : TE} {a : HA} {S S' : Stt} {E : XK} {De : Ends} {tz : TS}
/-! ### make_room -/
def sp_h_make_room (K : PySem.W.Frag) : Sp := fun vs H Q E => ∃ (a : HA) (S : Stt) (more : Int), vs = [.ref a.p, .int more] ∧ HouseAt (cH K) H a S ∧ S.Wf ∧ S.Inv ∧ (S.usedThere + more > S.room → RaiE (cE K Kd.noRoom.nm) H E) ∧
  (¬ S.usedThere + more > S.room → ∀ a' H', a'.p = a.p → HouseAt (cH K) H' a' (S.roomFor more) → Mv a.all a'.all H H' → Q .non H')
theorem sc_h_make_room : FnScope ["self", "more", "number"] ["self", "more"] (defScope s_h_make_room) := ⟨rfl, rfl, rfl, by decide +kernel, rfl, by decide +kernel, by decide +kernel⟩
theorem ok_h_make_room (T : Tx K mg) : FnR P w K mg base (L2.CX P w) 4 (He.ma K (cH K) "make_room") (sp_h_make_room K) := by
  refine fnr (F_h_make_room T) sc_h_make_room (fun _ _ _ _ _ _ us hl => match us, hl with | [_, _], _ => rfl) (fun vs H Q E h => by obtain ⟨_, _, _, rfl, _⟩ := h; rfl) (fun cdv A outer s H vs Q E hr h => ?_)
  refine ⟨_, (pss_cons (ps_if (pt_cmpR op_gt (pe_op op_sub (pe_op op_add (pe_methF0 (pv 0) (T_cls T) (T_h_used T) (ok_h_used T) (hr.mono (by decide)) passL) (pv 1)) (pe_methR (pv 0) (T_cls T) (T_h_signs_of T) (ok_h_signs_of T) (hr.mono (by decide)) passL (pa_cons (pe_lock (pe_lc (own := [("number", 2)]) rfl sc_h_make_room.nd (pi_keys (fldK K (pv 0))) (blkOk_by (N := ["self", "more", "number"]) (sc := defScope s_h_make_room) (by decide +kernel)) (fun _ _ _ _ _ => (pg_name (i := 2) sc_h_make_room.nd rfl (Or.inl rfl))) (fun _ _ _ _ _ => (pts_one (pt_cmp (pc_din (hu_of hr) (pv 2) (fldK K (pv 0)))))) (fun _ _ _ _ _ => (pv 2)))) pa_nil))) (fldK K (pv 0)) (nomark _)) (pss_one (ps_raise rfl (takes_of rfl rfl rfl rfl) (pmk_own PySem.F.excBase_ValueError (T_NoRoom T).x (T_NoRoom T).g (T_NoRoom T).k (raises_own (T_NoRoom T).b (T_NoRoom T).t) rfl))) pss_nil) (pss_one (ps_while (passes_of rfl) (pt_cmpR op_gt (pe_op op_add (pe_methF0 (pv 0) (T_cls T) (T_h_used T) (ok_h_used T) (hr.mono (by decide)) passL) (pv 1)) (fldK K (pv 0)) (nomark _)) (pss_one (ps_expr (pe_methR (pv 0) (T_cls T) (T_h_lose T) (ok_h_lose T) (hr.mono (by decide)) passL (pa_cons (pe_ix (ixtK K) (pe_ix (ixlK K) (fldK K (pv 0)) pe_int (fun _ _ => rfl)) pe_int (fun _ _ => rfl)) pa_nil))))))), ?_⟩
  obtain ⟨a, S, more, rfl, h, wf, inv, k1, k2⟩ := h
  obtain ⟨kvs, hr', hk⟩ := h.rowsx
  have ln := wf.klen
  refine q_if (et_test ((ev_gt (ev_sub (ev_add (e_used h.rd wf (ev_vr rfl)) (ev_vi rfl)) (e_signs_of (ns := S.keys.filter fun x => (S.mark x).isSome) h.rd wf (ev_vr rfl) ((en_lcK (fun x => (S.mark x).isSome) D.int hr' hk (fun od => e_rows T (h.lock hr' od) (ev_vr rfl)) (by omega) (fun _ _ => rfl) (fun _ => rfl) fun x hx od H1 s => ⟨?_, fun _ => ev_var rfl (.int x)⟩).toD) (fun x hx => (List.mem_filter.mp hx).1) (Nat.le_trans (List.length_filter_le _ _) (by omega)))) (e_room T h.rd (ev_vr rfl))).is (e := .bl (decide (S.usedThere + more > S.room))) ?_)) (fun b H1 s1 => ?_) fun b H1 s1 => ?_
  · obtain ⟨l, hl, sh⟩ := ((h.lock hr' od).mono s).shl
    exact et_test ((ev_din hl (ev_var rfl (.int x)) (e_shelved T ((h.lock hr' od).mono s) (ev_vr rfl))).is (by rw [sh.look, Option.isSome_map]))
  · have z := used_shelf wf
    congr 1
    rw [decide_eq_decide]
    omega
  · exact k1 (of_decide_eq_true b) H1 s1
  have nb := of_decide_eq_false b
  refine s_while (fun m σ' H' => ∃ (a' : HA) (S' : Stt) (o : Option V), a'.p = a.p ∧ σ' = [some (.ref a.p), some (.int more), o] ∧ HouseAt (cH K) H' a' S' ∧ Mv a.all a'.all H H' ∧ S'.Wf ∧ S'.Inv ∧ m = S'.casts.length ∧ S'.mkRoom S'.casts.length more = S.roomFor more ∧ S'.usedThere = S.usedThere ∧ S'.room = S.room) _ ⟨a, S, _, rfl, rfl, h.mono s1, Mv.of s1, wf, inv, rfl, rfl, rfl, rfl⟩ fun m σ' H' hw => ?_
  obtain ⟨a', S', o, ep, rfl, h', m', wf', inv', rfl, hr2, hu, hro⟩ := hw
  have evr : ∀ {σ : L2.St} {G : Hp}, σ[0]? = some (some (.ref a.p)) → EvD (tVar 0) σ G (.ref a'.p) := fun q => by rw [ep]; exact ev_vr q
  refine ⟨_, et_test (ev_gt (ev_add (e_used h'.rd wf' (evr rfl)) (ev_vi rfl)) (e_room T h'.rd (evr rfl))), fun b H2 s2 => ?_, fun b H2 s2 => ?_⟩
  · have gt : S'.used + more > S'.room := of_decide_eq_true b
    cases ec : S'.casts with
    | nil =>
      have z := used_there inv' wf' ec
      rw [z, hu, hro] at gt
      exact absurd gt nb
    | cons c cs =>
      have h2 := h'.mono s2
      refine c_lose (n := c.1) h2 wf' inv' (evr rfl) (ev_ixT (k := 0) (ev_ixL (k := 0) (e_casts T h2.rd (evr rfl)) ev_int rfl (d := pairD c) (by rw [ec]; rfl)) rfl) (fun z => absurd (show c.1 ∈ S'.casts.map (·.1) by rw [ec]; simp) z) fun _ a3 H3 e3 h3 m3 => ?_
      have lc : (S'.lose c.1).casts.length = cs.length := by rw [lose_head inv' ec]
      refine ⟨cs.length, by simp, a3, S'.lose c.1, _, e3.trans ep, rfl, h3, (m'.trans (Mv.of s2)).trans m3, wf'.lose _, inv'.lose wf'.nd _, lc.symm, ?_, by rw [usedThere_lose]; exact hu, hro⟩
      rw [← hr2, mkRoom_go inv' gt ec]
  · have ng : ¬ S'.used + more > S'.room := of_decide_eq_false b
    rw [mkRoom_stop ng] at hr2
    rw [← hr2] at k2
    exact k2 nb a' H2 ep (h'.mono s2) (m'.trans (Mv.of s2))
theorem m_make_room {u : TS} {more : Int} (h : HouseAt (cH K) H a S) (wf : S.Wf) (inv : S.Inv) (ho : EvD ta σ H (.ref a.p)) (hn : EvD te σ H (.int more)) (k1 : S.usedThere + more > S.room → RaiE (cE K Kd.noRoom.nm) H E)
    (k2 : ¬ S.usedThere + more > S.room → ∀ a' H', a'.p = a.p → HouseAt (cH K) H' a' (S.roomFor more) → Mv a.all a'.all H H' → u De σ H') : tSeq (tDrop (tMethR (cH K) "make_room" (sp_h_make_room K) E ta (tCons te tNil))) u De σ H :=
  c_meth h.ins (by kernel_rfl) ho (ea_cons hn ea_nil) fun vs H1 s as => by
    cases as with | cons a1 as => cases as; cases a1; exact ⟨a, S, more, rfl, h.mono s, wf, inv, fun z => (k1 z).mono s, fun z a' H' e h' m => k2 z a' H' e h' ((Mv.of s).trans m)⟩
/-! ### write -/
def sp_h_write (K : PySem.W.Frag) : Sp := fun vs H Q E => ∃ (a : HA) (S : Stt) (n : Int) (t : Str), vs = [.ref a.p, .int n, .str t] ∧ HouseAt (cH K) H a S ∧ S.Wf ∧ S.Inv ∧ t.length ≤ 100000 ∧ Res K a (S.write n t) H Q E
theorem sc_h_write : FnScope ["self", "number", "text", "parent", "name", "old"] ["self", "number", "text"] (defScope s_h_write) := ⟨rfl, rfl, rfl, by decide +kernel, rfl, by decide +kernel, by decide +kernel⟩
theorem ok_h_write (T : Tx K mg) : FnR P w K mg base (L2.CX P w) 5 (He.ma K (cH K) "write") (sp_h_write K) := by
  refine fnr (F_h_write T) sc_h_write (fun _ _ _ _ _ _ us hl => match us, hl with | [_, _, _], _ => rfl) (fun vs H Q E h => by obtain ⟨_, _, _, _, rfl, _⟩ := h; rfl) (fun cdv A outer s H vs Q E hr h => ?_)
  refine ⟨_, (pss_cons (ps_expr (pe_methR (pv 0) (T_cls T) (T_h_must_sheet T) (ok_h_must_sheet T) (hr.mono (by decide)) (passes_call (takes_of rfl rfl rfl rfl) (fun _ _ _ _ z => z)) (pa_cons (pv 1) pa_nil))) (pss_cons (ps_asg (pe_dget (hu_of hr) (fldK K (pv 0)) (pv 1) (fun _ _ => rfl)) (gtupK K (n := 3) rfl (pgs_cons (pg_name (i := 3) sc_h_write.nd rfl (Or.inl rfl)) (pgs_cons (pg_name (i := 4) sc_h_write.nd rfl (Or.inl rfl)) (pgs_cons (pg_name (i := 5) sc_h_write.nd rfl (Or.inl rfl)) pgs_nil))))) (pss_cons (ps_expr (pe_methR (pv 0) (T_cls T) (T_h_make_room T) (ok_h_make_room T) (hr.mono (by decide)) (passes_call (takes_of rfl rfl rfl rfl) (fun _ _ _ _ z => z)) (pa_cons (pe_op op_sub (pe_callB lenStrK rfl (T_len T) bt_len (pa_cons (pv 2) pa_nil)) (pe_callB lenStrK rfl (T_len T) bt_len (pa_cons (pv 5) pa_nil))) pa_nil))) (pss_one (ps_dput (hu_of hr) (fldK K (pv 0)) (pv 1) (pe_tup (pa_cons (pv 3) (pa_cons (pv 4) (pa_cons (pv 2) pa_nil)))) rfl))))), ?_⟩
  obtain ⟨a, S, n, t, rfl, h, wf, inv, lt, k⟩ := h
  have ln := wf.few
  unfold Stt.write at k
  refine m_must_sheet h.rd (ev_vr rfl) (ev_vi rfl) (fun q => res_err (S' := S) k (by rw [if_pos q])) (fun q e => res_err (S' := S) k (by rw [if_neg (by rw [q]; decide), e])) fun q o ht H1 s1 => ?_
  rw [if_neg (by rw [q]; decide), ht] at k
  dsimp only at k
  have h1 := h.mono s1
  have hk := there_key q
  have lo : o.length ≤ 100000 := wf.txl _ (row_get (get_rw hk)) o ht
  have z3 : row3 (S.rw n) = .tup [oi (S.rw n).par, .str (S.rw n).nm, .str o] := by unfold row3; rw [ht]; rfl
  refine q_unp3 ((e_row T h1.rd (get_rw hk) (ev_vr rfl) (ev_vi rfl)).is z3) fun v1 v2 v3 H2 s2 a1 a2 a3 => ?_
  cases at_oi' a1
  cases a2
  cases a3
  have h2 := h1.mono s2
  refine m_make_room h2 wf inv (ev_vr rfl) (ev_sub (ev_lenS (ev_vs rfl) (by omega)) (ev_lenS (ev_vs rfl) (by omega))) (fun z => RaiE.mono (res_err (S' := S) k (by rw [if_pos z])) (s1.trans s2)) fun z a' H3 ep h3 m3 => ?_
  rw [if_neg z] at k
  have er := roomFor_rw wf inv ((t.length : Int) - (o.length : Int)) q
  refine h_row (n := n) (r := { S.rw n with tx := some t }) h3 ?_ ?_ (ev_row3 (ev_vo rfl) (ev_vs rfl) (ev_vs rfl)) (e_rowsR T h3 (ta := tVar 0) (by rw [ep]; exact ev_vr rfl)) (ev_vi rfl) fun H4 h4 m4 => res_val k rfl _ a' H4 ep h4 (((Mv.of (s1.trans s2)).trans m3).trans m4) .non
  · show _ = (S.rw n).mrk
    rw [← rw_mark hk, there_mark q]
    exact there_mark (by rw [roomFor_there wf inv]; exact q)
  · exact Nat.lt_of_le_of_lt (roomFor_rows wf inv _) (by omega)
end
end Ho

set_option Elab.async false
set_option linter.all false
set_option maxRecDepth 100000
set_option maxHeartbeats 4000000
/-! B7: things are cast off, brought back; days go by. -/
namespace Ho
open PySem PySem.Spec PyProof.Rows L2
section
variable {P : Program} {w : World} {K : PySem.W.Frag} {mg : Str → Option Value} {base : Heap} {σ : L2.St} {H H' : Hp} {ta tb te tx td tl : TE} {a : HA} {S S' : Stt} {E : XK} {De : Ends} {tz : TS}
/-- a mark is put -/
theorem h_mark {x n : Int} (T : Tx K mg) (h : HouseAt (cH K) H a S) (e0 : rows3 S' = rows3 S) (e1 : S'.casts = S.casts) (e2 : S'.ties = S.ties) (e3 : hFs a S' = hFs a S) (hm : ∀ y, S'.mark y = if y = x then some n else S.mark y) (hl : S.rows.length < 64) (hs : ∀ y m, S.mark y = some m → y ∈ S.keys)
    (hv : EvD tx σ H (.int n)) (ho : EvD ta σ H (.ref a.p)) (hi : EvD te σ H (.int x)) (k : ∀ H1, HouseAt (cH K) H1 a S' → Mv a.all a.all H H1 → De.nx σ H1) : sDPut (tFld K ta "shelved") te tx De σ H := by
  obtain ⟨l, ⟨kvs, h1, h2⟩, sh⟩ := h.shl
  have lk : kvs.length ≤ S.keys.length := by
    rw [← h2.length]
    have z := nd_len (l := l.map (·.1)) (m := S.keys) sh.nd fun y hy => by
      have q := lookup_mem.mpr hy
      rw [sh.look, Option.isSome_map] at q
      obtain ⟨m, em⟩ := Option.isSome_iff_exists.mp q
      exact hs y m em
    rwa [List.length_map] at z
  have lr : S.keys.length = S.rows.length := by unfold Stt.keys; rw [List.length_map]
  refine s_put kk_int h1 (by omega) hv (e_shelved T h.rd ho) hi fun v H1 s av => ?_
  cases av
  have h' := h.mono s
  exact k _ (h'.shTo ((h2.mono s).put x (.int n)) (sh.put hm) e0 e1 e2 e3) (mv_upd s (by simp [HA.all]) (s _ _ h1) fun _ z => nomatch z)
theorem mark_key {y m : Int} (h : S.mark y = some m) : y ∈ S.keys := by
  unfold Stt.mark at h
  cases e : S.get y with
  | none => rw [e] at h; cases h
  | some r => exact key_get e
/-! ### cast -/
def sp_h_cast (K : PySem.W.Frag) : Sp := fun vs H Q E => ∃ (a : HA) (S : Stt) (n : Int), vs = [.ref a.p, .int n] ∧ HouseAt (cH K) H a S ∧ S.Wf ∧ Res K a (S.cast n) H Q E
theorem sc_h_cast : FnScope ["self", "number", "one"] ["self", "number"] (defScope s_h_cast) := ⟨rfl, rfl, rfl, by decide +kernel, rfl, by decide +kernel, by decide +kernel⟩
theorem ok_h_cast (T : Tx K mg) : FnR P w K mg base (L2.CX P w) 3 (He.ma K (cH K) "cast") (sp_h_cast K) := by
  refine fnr (F_h_cast T) sc_h_cast (fun _ _ _ _ _ _ us hl => match us, hl with | [_, _], _ => rfl) (fun vs H Q E h => by obtain ⟨_, _, _, rfl, _⟩ := h; rfl) (fun cdv A outer s H vs Q E hr h => ?_)
  refine ⟨_, (pss_cons (ps_expr (pe_methR (pv 0) (T_cls T) (T_h_must T) (ok_h_must T) (hr.mono (by decide)) (passes_call (takes_of rfl rfl rfl rfl) (fun _ _ _ _ z => z)) (pa_cons (pv 1) pa_nil))) (pss_cons (ps_for (passes_of rfl) rfl (pilK K (pe_methR (pv 0) (T_cls T) (T_h_whole T) (ok_h_whole T) (hr.mono (by decide)) passL (pa_cons (pv 1) pa_nil))) (pg_name (i := 2) sc_h_cast.nd rfl (Or.inl rfl)) (pss_one (ps_dput (hu_of hr) (fldK K (pv 0)) (pv 2) (pv 1) rfl))) (pss_one (ps_expr (bmK K PySem.F.plainAttrs_list PySem.F.slot_list_append PySem.F.type_list_append mt_append (fldK K (pv 0)) (pa_cons (pe_tup (pa_cons (pv 1) (pa_cons (fldK K (pv 0)) pa_nil))) pa_nil)))))), ?_⟩
  obtain ⟨a, S, n, rfl, h, wf, k⟩ := h
  have ln := wf.few
  unfold Stt.cast at k
  refine m_must h.rd (ev_vr rfl) (ev_vi rfl) (fun q => res_err (S' := S) k (by rw [if_pos q])) fun q H1 s1 => ?_
  rw [if_neg (by rw [q]; decide)] at k
  have h1 := h.mono s1
  refine q_forN (en_whole h1.rd wf q (ev_vr rfl) (ev_vi rfl)) fun L vs H2 hL s2 h2 as => ?_
  have e := Ats.ints as
  subst e
  have oL := h1.out hL
  refine ⟨fun i σ' H' => ∃ o : Option V, σ' = [some (.ref a.p), some (.int n), o] ∧ H' L = some (.lst ((S.within n).map V.int)) ∧ HouseAt (cH K) H' a (S.remark ((S.within n).take i) (some n)) ∧ Mv a.all a.all H H', ?_, fun i σ' H' p => ?_, fun i v σ' H' hv p => ?_, fun σ' H' p => ?_⟩
  · refine ⟨_, rfl, h2, ?_, Mv.of (s1.trans s2)⟩
    rw [List.take_zero, remark_nil]
    exact h1.mono s2
  · obtain ⟨_, _, z, _⟩ := p; exact z
  · obtain ⟨o, rfl, p1, p2, p3⟩ := p
    rw [List.getElem?_map] at hv
    obtain ⟨x, hx, ev⟩ := Option.map_eq_some_iff.mp hv
    subst ev
    have hxw : x ∈ S.within n := List.mem_of_getElem? hx
    refine h_mark (x := x) (n := n) (S' := S.remark ((S.within n).take (i + 1)) (some n)) T p2 (by rw [remark_rows3, remark_rows3]) rfl rfl rfl (fun y => by rw [take_more hx]; exact remark_more (within_key hxw) y) (by rw [remark_rows, List.length_map]; exact ln) (fun y m z => mark_key z) (ev_vi rfl) (ev_vr rfl) (ev_var rfl (.int x)) fun H3 h3 m3 => ?_
    exact ⟨_, rfl, m3.keep _ _ oL p1, h3, p3.trans m3⟩
  · obtain ⟨o, rfl, p1, p2, p3⟩ := p
    rw [List.take_of_length_le (by rw [List.length_map]; exact Nat.le_refl _)] at p2
    obtain ⟨vs, c1, c2⟩ := p2.casts
    have c2' : Ats H' (S.casts.map pairD) vs := c2
    refine s_app c1 (e_castsR T p2.rd (ev_vr rfl)) (ev_pairD (y := (S.remark (S.within n) (some n)).day) (ev_vi rfl) (e_today T p2.rd (ev_vr rfl))) (by rw [← c2'.length, List.length_map]; have := wf.cl; omega) fun v H5 s5 av => ?_
    have h5 := p2.mono s5
    have z : Ats H5 ((S.casts ++ [(n, S.day)]).map pairD) (vs ++ [v]) := by rw [List.map_append]; exact (c2'.mono s5).app (.one av)
    have h6 := h5.castsIn z
    exact res_val k rfl _ a _ rfl (by rw [castOff_is]; exact h6) (p3.trans (mv_upd s5 (by simp [HA.all]) (s5 _ _ c1) fun _ z => nomatch z)) .non
/-! ### back -/
theorem names_len (wf : S.Wf) (par but : Option Int) : (S.names par but).length < 64 := by
  unfold Stt.names
  rw [List.length_map]
  exact Nat.lt_of_le_of_lt (List.length_filter_le _ _) wf.few
def sp_h_back (K : PySem.W.Frag) : Sp := fun vs H Q E => ∃ (a : HA) (S : Stt) (n : Int), vs = [.ref a.p, .int n] ∧ HouseAt (cH K) H a S ∧ S.Wf ∧ S.Inv ∧ Res K a (S.back n) H Q E
theorem sc_h_back : FnScope ["self", "number", "parent", "name", "text"] ["self", "number"] (defScope s_h_back) := ⟨rfl, rfl, rfl, by decide +kernel, rfl, by decide +kernel, by decide +kernel⟩
theorem ok_h_back (T : Tx K mg) : FnR P w K mg base (L2.CX P w) 3 (He.ma K (cH K) "back") (sp_h_back K) := by
  refine fnr (F_h_back T) sc_h_back (fun _ _ _ _ _ _ us hl => match us, hl with | [_, _], _ => rfl) (fun vs H Q E h => by obtain ⟨_, _, _, rfl, _⟩ := h; rfl) (fun cdv A outer s H vs Q E hr h => ?_)
  refine ⟨_, (pss_cons (ps_expr (pe_methR (pv 0) (T_cls T) (T_h_bundle T) (ok_h_bundle T) (hr.mono (by decide)) (passes_call (takes_of rfl rfl rfl rfl) (fun _ _ _ _ z => z)) (pa_cons (pv 1) pa_nil))) (pss_cons (ps_asg (pe_dget (hu_of hr) (fldK K (pv 0)) (pv 1) (fun _ _ => rfl)) (gtupK K (n := 3) rfl (pgs_cons (pg_name (i := 2) sc_h_back.nd rfl (Or.inl rfl)) (pgs_cons (pg_name (i := 3) sc_h_back.nd rfl (Or.inl rfl)) (pgs_cons (pg_name (i := 4) sc_h_back.nd rfl (Or.inl rfl)) pgs_nil))))) (pss_cons (ps_if (PW.pt (pw_and (pt_cmpR op_notN (pv 2) pe_non (nomark _)) (pw_and1 (pt_not (truK K (pe_methR (pv 0) (T_cls T) (T_h_is_there T) (ok_h_is_there T) (hr.mono (by decide)) passL (pa_cons (pv 2) pa_nil))))))) (pss_one (ps_set (i := 2) sc_h_back.nd rfl (Or.inl rfl) pe_non)) pss_nil) (pss_cons (ps_set (i := 3) sc_h_back.nd rfl (Or.inl rfl) (pe_callF (ok_g_free_name T) (hr.mono (by decide)) (T_g_free_name T).1 (T_g_free_name T).2 passL (pa_cons (pv 3) (pa_cons (pe_methR (pv 0) (T_cls T) (T_h_names_in T) (ok_h_names_in T) (hr.mono (by decide)) passL (pa_cons (pv 2) (pa_cons pe_non pa_nil))) pa_nil)))) (pss_cons (ps_expr (pe_methR (pv 0) (T_cls T) (T_h_take_down T) (ok_h_take_down T) (hr.mono (by decide)) (passes_call (takes_of rfl rfl rfl rfl) (fun _ _ _ _ z => z)) (pa_cons (pv 1) pa_nil))) (pss_one (ps_dput (hu_of hr) (fldK K (pv 0)) (pv 1) (pe_tup (pa_cons (pv 2) (pa_cons (pv 3) (pa_cons (pv 4) pa_nil)))) rfl))))))), ?_⟩
  obtain ⟨a, S, n, rfl, h, wf, inv, k⟩ := h
  have ln := wf.few
  unfold Stt.back at k
  refine c_meth h.ins (by kernel_rfl) (ev_vr rfl) (ea_cons (ev_vi rfl) ea_nil) fun vs H1 s1 as => ?_
  cases as with | cons a1 as => ?_
  cases as; cases a1
  refine ⟨a, S, n, rfl, h.rd.mono s1, wf, fun hn L ws H2 _ s2 _ _ => ?_, fun hn => (res_err (S' := S) k (by rw [if_pos hn])).mono s1⟩
  rw [if_neg (fun q => q hn)] at k
  obtain ⟨c, hc, hcn⟩ := List.mem_map.mp hn
  have hk : n ∈ S.keys := by rw [← hcn]; exact cast_key inv hc
  have hm : S.mark n = some n := by rw [← hcn]; exact inv.cm c hc
  have s12 := s1.trans s2
  have h2 := h.mono s12
  refine q_unp3 (e_row T h2.rd (get_rw hk) (ev_vr rfl) (ev_vi rfl)) fun v1 v2 v3 H3 s3 b1 b2 b3 => ?_
  cases at_oi' b1
  cases b2
  cases at_os' b3
  have s13 := s12.trans s3
  have h3 := h.mono s13
  have lnm : (S.rw n).nm.length ≤ 100000 := wf.nml _ (row_get (get_rw hk))
  have hpar : S.newPar n = if S.thereO (S.rw n).par = true then (S.rw n).par else none := rfl
  refine q_if2 (b := (S.rw n).par.isSome && !S.thereO (S.rw n).par) (fun σ' => σ' = [some (.ref a.p), some (.int n), some (oiV (S.newPar n)), some (.str (S.rw n).nm), some (osV (S.rw n).tx)]) ?_ (fun σ' H4 eσ s4 => ?_) (fun b kk H4 s4 => ?_) fun b kk H4 s4 => ?_
  · cases e : (S.rw n).par with
    | none => exact (et_and (b := true) (et_test (ev_notN (ev_vo (n := none) rfl))) fun q => by cases q).is rfl
    | some p => exact (et_and (et_test (ev_notN (ev_var (d := .int p) rfl (.int p)))) fun _ => et_not (et_trB (e_is_there h3.rd (ev_vr rfl) (ev_var rfl (.int p))))).is rfl
  · subst eσ
    have s14 := s13.trans s4
    have h4 := h.mono s14
    refine q_asg (e_free_name (ev_vs rfl) (en_names_in h4 wf (but := none) (ev_vr rfl) (ev_vo rfl) ev_non).toD (by omega) (by have := names_len wf (S.newPar n) none; omega)) fun v H5 s5 av => ?_
    cases av
    have h5 := h4.mono s5
    refine c_meth h5.ins (by kernel_rfl) (ev_vr rfl) (ea_cons (ev_vi rfl) ea_nil) fun vs H6 s6 as => ?_
    cases as with | cons a1 as => ?_
    cases as; cases a1
    refine ⟨a, S, n, rfl, h5.mono s6, wf, fun z => absurd hn z, fun _ L a' H7 _ _ ep h7 m7 _ => ?_⟩
    have hkw : n ∈ (S.wake n).keys := by rw [wake_keys]; exact hk
    refine h_row (n := n) (r := ⟨S.newPar n, S.newNm n, (S.rw n).tx, none⟩) h7 ?_ ?_ (ev_row3 (ev_vo rfl) (ev_vs rfl) (ev_vos rfl)) (e_rowsR T h7 (ta := tVar 0) (by rw [ep]; exact ev_vr rfl)) (ev_vi rfl) fun H8 h8 m8 => res_val k rfl _ a' H8 ep (by rw [← back_is wf hm hk]; exact h8) (((Mv.of ((s14.trans s5).trans s6)).trans m7).trans m8) .non
    · rw [wake_remark wf]
      show (S.remark (S.bundleL n) none).mark n = none
      rw [remark_mark, if_pos ⟨hk, (bundle_mem wf).mpr hm⟩]
    · show (S.rows.map _).length < _
      rw [List.length_map]; omega
  · refine s_asg ev_non fun v H5 s5 av => ?_
    cases av
    refine kk _ H5 ?_ (s4.trans s5)
    rw [hpar, if_neg (by
      simp only [Bool.and_eq_true, Bool.not_eq_true'] at b
      rw [b.2]; decide)]
    rfl
  · refine kk _ H4 ?_ s4
    have e : S.newPar n = (S.rw n).par := by
      rw [hpar]
      cases e : (S.rw n).par with
      | none => simp
      | some p =>
        rw [e] at b
        rw [if_pos (by simpa using b)]
    rw [e]; rfl
end
end Ho

set_option Elab.async false
set_option linter.all false
set_option maxRecDepth 100000
set_option maxHeartbeats 4000000
/-! B8: days, all is emptied. -/
namespace Ho
open PySem PySem.Spec PyProof.Rows L2
section
variable {P : Program} {w : World} {K : PySem.W.Frag} {mg : Str → Option Value} {base : Heap} {σ : L2.St} {H H' : Hp} {ta tb te tx td tl : TE} {a : HA} {S S' : Stt} {E : XK} {De : Ends} {tz : TS}
theorem Stt.Wf.toDay (wf : S.Wf) (d : Int) : ({ S with day := d } : Stt).Wf := ⟨wf.asc, wf.few, wf.txl, wf.nml, wf.cl, wf.tl⟩
theorem Stt.Inv.toDay (i : S.Inv) (d : Int) : ({ S with day := d } : Stt).Inv := ⟨i.kr, i.c0, i.ct, i.cm, i.mc, i.te, i.tn, i.up, i.pb, i.pm, i.pt⟩
theorem fold_more {l : List Int} {i : Nat} {x : Int} (hx : l[i]? = some x) : (l.take (i + 1)).foldl Stt.lose S = ((l.take i).foldl Stt.lose S).lose x := by rw [take_more hx, List.foldl_append]; rfl
/-! ### next_day -/
def sp_h_next_day (K : PySem.W.Frag) : Sp := fun vs H Q E => ∃ (a : HA) (S : Stt), vs = [.ref a.p] ∧ HouseAt (cH K) H a S ∧ S.Wf ∧ S.Inv ∧ Res K a S.nextDay H Q E
theorem sc_h_next_day : FnScope ["self", "some", "number", "day"] ["self"] (defScope s_h_next_day) := ⟨rfl, rfl, rfl, by decide +kernel, rfl, by decide +kernel, by decide +kernel⟩
theorem ok_h_next_day (T : Tx K mg) : FnR P w K mg base (L2.CX P w) 4 (He.ma K (cH K) "next_day") (sp_h_next_day K) := by
  refine fnr (F_h_next_day T) sc_h_next_day (fun _ _ _ _ _ _ us hl => match us, hl with | [_], _ => rfl) (fun vs H Q E h => by obtain ⟨_, _, rfl, _⟩ := h; rfl) (fun cdv A outer s H vs Q E hr h => ?_)
  refine ⟨_, PSs.nox (pss_cons (sfldK K (pv 0) (pe_op op_add (fldK K (pv 0)) pe_int)) (pss_cons (ps_set (i := 1) sc_h_next_day.nd rfl (Or.inl rfl) (pe_callTy (tupOfK K) rfl (T_tuple T) bt_tuple (pa_cons (pe_lc (own := [("number", 2), ("day", 3)]) rfl sc_h_next_day.nd (pilK K (fldK K (pv 0))) (blkOk_by (N := ["self", "some", "number", "day"]) (sc := defScope s_h_next_day) (by decide +kernel)) (fun _ _ _ _ _ => (gtupK K (n := 2) rfl (pgs_cons (pg_name (i := 2) sc_h_next_day.nd rfl (Or.inl rfl)) (pgs_cons (pg_name (i := 3) sc_h_next_day.nd rfl (Or.inl rfl)) pgs_nil)))) (fun _ _ _ _ _ => (pts_one (pt_cmpR op_le (pe_op op_add (pv 3) (fldK K (pv 0))) (fldK K (pv 0)) (nomark _)))) (fun _ _ _ _ _ => (pv 2))) pa_nil))) (pss_cons (ps_for PassesOwn.never rfl (pitK K (pv 1)) (pg_name (i := 2) sc_h_next_day.nd rfl (Or.inl rfl)) (pss_one (ps_expr (pe_methR (pv 0) (T_cls T) (T_h_lose T) (ok_h_lose T) (hr.mono (by decide)) passL (pa_cons (pv 2) pa_nil))))) (pss_one (ps_ret (pv 1)))))), ?_⟩
  obtain ⟨a, S, rfl, h, wf, inv, k⟩ := h
  unfold Stt.nextDay at k
  refine h_fld T (T_f_today T) h (S' := { S with day := S.day + 1 }) (v := .int (S.day + 1)) (by kernel_rfl) rfl rfl rfl (ev_add (e_today T h.rd (ev_vr rfl)) ev_int) d_int (ev_vr rfl) fun H1 h1 m1 => ?_
  have wf1 := wf.toDay (S.day + 1)
  have inv1 := inv.toDay (S.day + 1)
  generalize hS1 : ({ S with day := S.day + 1 } : Stt) = S1 at h1 wf1 inv1 k
  have ln := wf1.cl
  generalize hds : S1.dues = ds at k
  have nd : ds.Nodup := by
    rw [← hds]
    exact (List.filter_sublist.map _).nodup inv1.ct
  have hin : ∀ n ∈ ds, n ∈ S1.casts.map (·.1) := fun n hn => by
    rw [← hds] at hn
    exact (List.filter_sublist.map _).subset hn
  refine q_asg (d := .tup (ds.map D.int)) ((ev_tupOf (en_lc2 S1.casts (fun c => .int c.1) (fun c => .int c.2) (fun c => decide (c.2 + S1.keep ≤ S1.day)) (fun c => .int c.1) (e_casts T h1.rd (ev_vr rfl)) (by omega) (fun _ _ => rfl) (fun _ _ => rfl) fun c hc v w H2 s2 av aw => ?_).toD).is ?_) fun v H2 s2 av => ?_
  · cases av; cases aw
    have h2 := h1.rd.mono s2
    exact ⟨et_test (ev_le (ev_add (ev_var rfl (.int _)) (e_keep T h2 (ev_vr rfl))) (e_today T h2 (ev_vr rfl))), fun _ => ev_var rfl (.int _)⟩
  · rw [← hds]
    unfold Stt.dues
    rw [List.map_map]; rfl
  obtain ⟨A, hA⟩ : ∃ A, v = .ref A := by cases av; exact ⟨_, rfl⟩
  subst hA
  have hT : H2 A = some (.tup (ds.map V.int)) := by
    cases av with
    | tup hp hs => rw [hp, hs.ints]
  have m2 := m1.trans (Mv.of s2)
  refine q_forTR (ev_vr rfl) hT fun H3 s3 => ⟨fun i σ' H' => ∃ (a' : HA) (o : Option V), a'.p = a.p ∧ σ' = [some (.ref a.p), some (.ref A), o, none] ∧ H' A = some (.tup (ds.map V.int)) ∧ HouseAt (cH K) H' a' ((ds.take i).foldl Stt.lose S1) ∧ Mv a.all a'.all H H', ?_, fun i σ' H' p => ?_, fun i v σ' H' hv p => ?_, fun σ' H' p => ?_⟩
  · exact ⟨a, _, rfl, rfl, s3 _ _ hT, h1.mono (s2.trans s3), m2.trans (Mv.of s3)⟩
  · obtain ⟨_, _, _, _, z, _⟩ := p; exact z
  · obtain ⟨a', o, ep, rfl, p1, p2, p3⟩ := p
    rw [List.getElem?_map] at hv
    obtain ⟨x, hx, ev⟩ := Option.map_eq_some_iff.mp hv
    subst ev
    obtain ⟨⟨wfi, invi⟩, hmi⟩ := lose_more ds S1 nd wf1 inv1 hin i
    refine c_lose (n := x) p2 wfi invi (by rw [ep]; exact ev_vr rfl) (ev_var rfl (.int x)) (fun z => absurd (hmi x hx) z) fun _ a3 H4 e4 h4 m4 => ?_
    exact ⟨a3, _, e4.trans ep, rfl, m4.tup _ _ p1, by rw [fold_more hx]; exact h4, p3.trans m4⟩
  · obtain ⟨a', o, ep, rfl, p1, p2, p3⟩ := p
    rw [List.take_of_length_le (by rw [List.length_map]; exact Nat.le_refl _)] at p2
    refine s_ret (ev_var rfl (.tup p1 (ats_ints ds))) fun v H5 s5 av => ?_
    exact res_val k rfl v a' H5 ep (by rw [loseAll_fst]; exact p2.mono s5) (p3.trans (Mv.of s5)) av
theorem tyes {A B : Hp → Prop} (h : A H) : tYes σ H fun b H3 => if b = true then A H3 else B H3 := by
  show if true = true then A H else B H
  rw [if_pos rfl]; exact h
/-! ### empty -/
def sp_h_empty (K : PySem.W.Frag) : Sp := fun vs H Q E => ∃ (a : HA) (S : Stt), vs = [.ref a.p] ∧ HouseAt (cH K) H a S ∧ S.Wf ∧ S.Inv ∧ Res K a S.empty H Q E
theorem sc_h_empty : FnScope ["self", "number", "day"] ["self"] (defScope s_h_empty) := ⟨rfl, rfl, rfl, by decide +kernel, rfl, by decide +kernel, by decide +kernel⟩
theorem ok_h_empty (T : Tx K mg) : FnR P w K mg base (L2.CX P w) 4 (He.ma K (cH K) "empty") (sp_h_empty K) := by
  refine fnr (F_h_empty T) sc_h_empty (fun _ _ _ _ _ _ us hl => match us, hl with | [_], _ => rfl) (fun vs H Q E h => by obtain ⟨_, _, rfl, _⟩ := h; rfl) (fun cdv A outer s H vs Q E hr h => ?_)
  refine ⟨_, PSs.nox (pss_one (ps_ret (pe_callB (sumK K) rfl (T_sum T) bt_sum (pa_cons (pe_lc (own := [("number", 1), ("day", 2)]) rfl sc_h_empty.nd (pilK K (pe_callTy (listOfK K) rfl (T_list T) bt_list (pa_cons (fldK K (pv 0)) pa_nil))) (blkOk_by (N := ["self", "number", "day"]) (sc := defScope s_h_empty) (by decide +kernel)) (fun _ _ _ _ _ => (gtupK K (n := 2) rfl (pgs_cons (pg_name (i := 1) sc_h_empty.nd rfl (Or.inl rfl)) (pgs_cons (pg_name (i := 2) sc_h_empty.nd rfl (Or.inl rfl)) pgs_nil)))) (fun _ _ _ _ _ => pts_nil) (fun _ _ _ _ _ => (pe_methR (pv 0) (T_cls T) (T_h_lose T) (ok_h_lose T) (hr.mono (by decide)) passL (pa_cons (pv 1) pa_nil)))) pa_nil)))), ?_⟩
  obtain ⟨a, S, rfl, h, wf, inv, k⟩ := h
  unfold Stt.empty at k
  have ln := wf.cl
  generalize hds : S.casts.map (·.1) = ds at k
  have nd : ds.Nodup := hds ▸ inv.ct
  have hin : ∀ n ∈ ds, n ∈ S.casts.map (·.1) := fun n hn => hds ▸ hn
  have lds : ds.length = S.casts.length := by rw [← hds, List.length_map]
  refine (en_listOf (e_casts T h.rd (ev_vr rfl))) H (Same.refl H) _ fun A ws H1 hA s1 h1 as => ?_
  have oA := h.out hA
  have h1' := h.mono s1
  refine ⟨_, rfl, ⟨_, SqL.of h1⟩, fun D hD => lc_list (xs := ws) (fun i H' => ∃ a' : HA, a'.p = a.p ∧ HouseAt (cH K) H' a' ((ds.take i).foldl Stt.lose S) ∧ Mv a.all a'.all H1 H' ∧ H' A = some (.lst ws) ∧ D ∉ a'.all ∧ H' D = some (.lst (((manys ds S).take i).map V.int))) ?_ (fun i H' _ p => ?_) (fun i v H' hv p => ?_) fun H' p => ?_⟩
  · have nAD : A ≠ D := ne_of_none h1 hD
    refine ⟨a, rfl, ?_, Mv.of (Same.new hD), ?_, h1'.out hD, upd_same⟩
    · exact h1'.mono (Same.new hD)
    · rw [upd_ne nAD]; exact h1
  · obtain ⟨_, _, _, _, z, _⟩ := p; exact SqL.of z
  · obtain ⟨a', ep, p1, p2, p3, p4, p5⟩ := p
    obtain ⟨c, hc, ac⟩ := getElem_map as hv
    have hx : ds[i]? = some c.1 := by rw [← hds, List.getElem?_map, hc]; rfl
    obtain ⟨⟨wfi, invi⟩, hmi⟩ := lose_more ds S nd wf inv hin i
    have ac := ac.tle p2.tup (pairD_nl c)
    cases ac with
    | tup hp2 hs2 =>
      cases hs2 with
      | cons a1 hs2 =>
        cases hs2 with
        | cons a2 hs2 =>
          cases hs2; cases a1; cases a2
          refine ⟨_, _, rfl, SqT.of hp2, rfl, _, _, rfl, _, _, rfl, rfl, rfl, ?_⟩
          refine tyes ?_
          refine c_lose (n := c.1) p1 wfi invi (by rw [ep]; exact ev_vr rfl) (ev_var rfl (.int c.1)) (fun z => absurd (hmi _ hx) z) fun _ a3 H4 e4 h4 m4 => ?_
          have nD3 : D ∉ a3.all := fun z => (m4.new D z).elim p4 fun w => by rw [w] at p5; cases p5
          have nA4 : A ∉ a'.all := fun z => (p2.new A z).elim oA fun w => by rw [h1] at w; cases w
          have D4 := m4.keep _ _ p4 p5
          have nAD : A ≠ D := ne_of_none h1 hD
          have tl : Tle H4 (upd H4 D (.lst (((manys ds S).take (i + 1)).map V.int))) := tle_upd D4 fun _ z => nomatch z
          have emore : ((manys ds S).take (i + 1)).map V.int = ((manys ds S).take i).map V.int ++ [.int ((((ds.take i).foldl Stt.lose S).many c.1 : Nat) : Int)] := by
            rw [take_more (manys_get ds S i c.1 hx), List.map_append]; rfl
          refine ⟨_, D4, ?_, ?_⟩
          · rw [List.length_map]
            refine sz_lt (Nat.lt_of_le_of_lt (List.length_take_le _ _) ?_)
            have z : i < S.casts.length := (List.getElem?_eq_some_iff.mp hc).1
            omega
          rw [← emore]
          refine ⟨a3, e4.trans ep, ?_, ?_, ?_, nD3, upd_same⟩
          · rw [fold_more hx]
            exact h4.keep (fun y hy o q => by rw [upd_ne (show y ≠ D from fun z => nD3 (z ▸ hy))]; exact q) tl
          · exact ⟨fun b o nb q => by rw [upd_ne (ne_of_none q hD)]; exact (p2.trans m4).keep b o nb q, (p2.trans m4).new, (p2.trans m4).tup.trans tl⟩
          · rw [upd_ne nAD]; exact m4.keep _ _ nA4 p3
  · obtain ⟨a', ep, p1, p2, p3, p4, p5⟩ := p
    have lw : ws.length = ds.length := by rw [← as.length, List.length_map, lds]
    rw [lw, List.take_of_length_le (by rw [manys_len]; exact Nat.le_refl _)] at p5
    rw [lw, List.take_of_length_le (Nat.le_refl _)] at p1
    refine ⟨_, manys ds S, rfl, SqL.of p5, ?_⟩
    have m := (Mv.of s1).trans p2
    refine res_val k rfl _ a' H' ep (by rw [loseAll_fst]; exact p1) m ?_
    rw [loseAll_snd]; exact .int _
end
end Ho

set_option Elab.async false
set_option linter.all false
set_option maxRecDepth 100000
set_option maxHeartbeats 4000000
/-! M9: enumerate, dict of pairs, lists put together; copies on the plain state. -/
namespace Ho
open PySem PySem.Spec PyProof.Rows L2
section
variable {K : PySem.W.Frag} {σ : L2.St} {H H' : Hp} {ta tb te tx td tl : TE} {t u tz : TS} {De : Ends} {d : D}
/-- list + list -/
theorem en_cat {ds es : List D} (ha : EvD ta σ H (.lst ds)) (hb : EvD tb σ H (.lst es)) (hl : ds.length + es.length ≤ 10000000) : EvN (tOp rCat ta tb) σ H (ds ++ es) := fun H1 s Q q =>
  ha H1 s _ fun x H2 s2 ax => hb H2 (s.trans s2) _ fun y H3 s3 ay => by
    cases ax with
    | lst hp hs =>
      cases ay with
      | lst hp2 hs2 =>
        refine ⟨_, _, _, _, rfl, rfl, s3 _ _ hp, hp2, by rw [← hs.length, ← hs2.length]; exact sz_of hl, fun p hn => ?_⟩
        exact q p _ _ (fresh_back (s2.trans s3) hn) ((s2.trans s3).trans (Same.new hn)) upd_same (((hs.mono s3).mono (Same.new hn)).app (hs2.mono (Same.new hn)))
/-- [e for i, x in enumerate(list)] -/
theorem en_lcEn {α : Type} {tl : TA} {tt : TT} (xs : List α) (c : α → D) (g : α × Nat → D) {j k : Nat} {vs : List Nat} (h : EvA tl σ H [.lst (xs.map c)]) (hl : xs.length ≤ 1000000) (hn : ∀ p, (g p).nl = true)
    (hw : ∀ x y, wipe (((wipe σ vs).set j (some x)).set k (some y)) vs = wipe σ vs)
    (hb : ∀ i x, xs[i]? = some x → ∀ v H1, Same H H1 → At H1 (c x) v → EvT tt (((wipe σ vs).set j (some (.int (i : Nat)))).set k (some v)) H1 true ∧ EvD te (((wipe σ vs).set j (some (.int (i : Nat)))).set k (some v)) H1 (g (x, i))) :
    EvN (tLc (iEnum K tl) (gTup K 2 (gCons (gName j) (gCons (gName k) gNil))) tt te vs) σ H (xs.zipIdx.map g) := fun H0 s Q q => h H0 s _ fun as H1 s1 av => by
  cases av with
  | cons a1 av =>
    cases av
    cases a1 with
    | @lst _ ws _ hp hs =>
      have hln : ws.length = xs.length := by rw [← hs.length, List.length_map]
      have ez : xs.zipIdx.length = xs.length := List.length_zipIdx
      refine ⟨_, _, rfl, SqL.of hp, fun L hL => lc_it (walk_enum (K := K) (xs := ws)) (Lw H1 L (fun _ => true) g xs.zipIdx) (lw_start hL) (fun i H' _ p => SqL.of (p.2.1 _ _ hp)) (fun i v H' H2 hi p y => ?_) (fun H' p => ?_)⟩
      · obtain ⟨T, x, y, rfl, hT, rfl, ex, ey⟩ := y
        cases ex
        obtain ⟨x', hx, ax⟩ := getElem_map hs ey
        have s3 : Same H' (upd H' T (.tup [.int (i : Nat), y])) := Same.new hT
        have s23 := p.2.1.trans s3
        obtain ⟨b1, b2⟩ := hb i x' hx y _ ((s.trans s1).trans s23) (ax.mono s23)
        have hz : xs.zipIdx[i]? = some (x', i) := by rw [List.getElem?_zipIdx, hx]; simp
        have p' : Lw H1 L (fun _ => true) g xs.zipIdx i (upd H' T (.tup [.int (i : Nat), y])) := by
          obtain ⟨p1, p2, acc, p3, p4⟩ := p
          exact ⟨p1, p2.trans s3, acc, s3 _ _ p3, p4.mono s3⟩
        exact ⟨T, _, rfl, SqT.of upd_same, rfl, _, _, rfl, _, _, rfl, rfl, hw _ _, lw_turn hz (by omega) (fun x _ => hn x) p' b1 fun _ => b2⟩
      · obtain ⟨p1, p2, acc, p3, p4⟩ := p
        rw [List.take_of_length_le (by rw [ez, hln]; exact Nat.le_refl _), List.filter_eq_self.mpr (by simp)] at p4
        exact q L acc H' (fresh_back s1 p1) (s1.trans p2) p3 p4
/-- pairs with int keys, as dict(..) takes them -/
theorem ats_pairs {l : List (Int × D)} : ∀ {vs : List V}, Ats H (l.map fun p => D.tup [.int p.1, p.2]) vs → ∃ (ps : List Addr) (kvs : List (Key × V)), vs = ps.map V.ref ∧ Paired (fun p kv => SqT K H p [kV kv.1, kv.2]) ps kvs ∧ KRep H l kvs := by
  induction l with
  | nil => intro vs h; cases h; exact ⟨[], [], rfl, .nil, .nil⟩
  | cons p l ih =>
    intro vs h
    cases h with
    | cons a h =>
      obtain ⟨ps, kvs, e1, e2, e3⟩ := ih h
      cases a with
      | tup hp hs =>
        cases hs with
        | cons a1 hs =>
          cases hs with
          | cons a2 hs =>
            cases hs; cases a1
            exact ⟨_ :: ps, (Sum.inl p.1, _) :: kvs, by rw [e1]; rfl, .cons (SqT.of hp) e2, .cons ⟨rfl, a2⟩ e3⟩
theorem merge_nd : ∀ (more kvs : List (Key × V)), ((kvs ++ more).map (·.1)).Nodup → mergeK kvs more = kvs ++ more
  | [], kvs, _ => by simp [mergeK]
  | p :: more, kvs, nd => by
    show mergeK (putK kvs p.1 p.2) more = _
    have e : putK kvs p.1 p.2 = kvs ++ [p] := by
      unfold putK
      rw [if_neg]
      intro z
      obtain ⟨q, q1, q2⟩ := List.any_eq_true.mp z
      rw [List.map_append, List.nodup_append] at nd
      exact nd.2.2 q.1 (List.mem_map.mpr ⟨q, q1, rfl⟩) p.1 (by simp) (of_decide_eq_true q2)
    rw [e, merge_nd more (kvs ++ [p]) (by simpa using nd)]
    simp
theorem q_asgDict {l : List (Int × D)} {i : Nat} (h : EvN te σ H (l.map fun p => D.tup [.int p.1, p.2])) (nd : (l.map (·.1)).Nodup)
    (k : ∀ p H1, H p = none → Same H H1 → DAt H1 p l → tz De (σ.set i (some (.ref p))) H1) : tSeq (tAsg (tCB (rDictP K) (tCons te tNil)) (gName i)) tz De σ H :=
  h H (Same.refl H) _ fun p vs H1 hp s h1 as => by
    obtain ⟨ps, kvs, e1, e2, e3⟩ := ats_pairs (K := K) as
    subst e1
    refine ⟨p, ps, kvs, rfl, SqL.of h1, e2, fun q hq => ?_⟩
    have em : mergeK [] kvs = kvs := by
      rw [merge_nd kvs [] ?_]; rfl
      rw [List.nil_append, e3.keys]
      exact List.Pairwise.map _ (fun _ _ z w => z (Sum.inl.inj w)) nd
    rw [em]
    exact k q _ (fresh_back s hq) (s.trans (Same.new hq)) ⟨kvs, upd_same, e3.mono (Same.new hq)⟩
end
section
variable {S : Stt} {n : Int} {l : List Int} {par : Option Int} {nm : Str}
theorem idx_at : ∀ {l : List Int} {i : Nat} {x : Int}, l.Nodup → l[i]? = some x → l.idxOf x = i := fun {l i x} nd h => by
  obtain ⟨h1, h2⟩ := List.getElem?_eq_some_iff.mp h
  rw [← h2]
  exact nd.idxOf_getElem i h1
theorem num_at {i : Nat} {x : Int} (nd : l.Nodup) (h : l[i]? = some x) : S.num l x = S.count + 1 + (i : Int) := by unfold Stt.num; rw [idx_at nd h]
theorem num_look {x : Int} (nd : l.Nodup) (h : x ∈ l) : (l.zipIdx.map fun p : Int × Nat => (p.1, D.int (S.count + 1 + (p.2 : Int)))).lookup x = some (.int (S.num l x)) := by
  have kz : (l.zipIdx.map fun p : Int × Nat => (p.1, D.int (S.count + 1 + (p.2 : Int)))).map (·.1) = l := by
    rw [List.map_map]
    exact List.zipIdx_map_fst 0 l
  obtain ⟨i, hi⟩ := List.mem_iff_getElem?.mp h
  refine lookup_nd (by rw [kz]; exact nd) (List.mem_map.mpr ⟨(x, i), ?_, ?_⟩)
  · exact List.mem_of_getElem? (i := i) (by rw [List.getElem?_zipIdx, hi]; simp)
  · rw [num_at nd hi]
theorem num_keys : ((l.zipIdx.map fun p : Int × Nat => (p.1, D.int (S.count + 1 + (p.2 : Int)))).map (·.1)) = l := by
  rw [List.map_map]
  exact List.zipIdx_map_fst 0 l
theorem num_in {x : Int} : ((l.zipIdx.map fun p : Int × Nat => (p.1, D.int (S.count + 1 + (p.2 : Int)))).lookup x).isSome = decide (x ∈ l) := by
  rw [Bool.eq_iff_iff, lookup_mem, num_keys, decide_eq_true_eq]
/-- the first of them are copied -/
def Stt.copied (S : Stt) (l : List Int) (n : Int) (par : Option Int) (nm : Str) (i : Nat) : Stt := { S with
  rows := S.rows ++ (l.take i).map fun x => (S.num l x, S.copyRow l n par nm x)
  count := S.count + (i : Int) }
theorem copied_zero : S.copied l n par nm 0 = S := by
  unfold Stt.copied
  refine stt_ext rfl rfl ?_ rfl rfl rfl ?_
  · simp
  · simp
theorem copied_more {i : Nat} {x : Int} (nd : l.Nodup) (h : l[i]? = some x) : (S.copied l n par nm i).addRow (S.copyRow l n par nm x) = S.copied l n par nm (i + 1) := by
  refine stt_ext rfl rfl ?_ rfl rfl rfl ?_
  · show (S.rows ++ _) ++ [_] = S.rows ++ _
    rw [take_more h, List.map_append, List.append_assoc, List.map_cons, List.map_nil, num_at nd h]
    show _ ++ (_ ++ [(S.count + (i : Int) + 1, _)]) = _
    rw [show S.count + (i : Int) + 1 = S.count + 1 + (i : Int) by omega]
  · show S.count + (i : Int) + 1 = S.count + ((i + 1 : Nat) : Int)
    push_cast; omega
theorem copied_keys : (S.copied l n par nm i).keys = S.keys ++ (l.take i).map (S.num l) := by
  unfold Stt.keys Stt.copied
  rw [List.map_append, List.map_map]; rfl
theorem copied_new {i : Nat} (inv : S.Inv) (nd : l.Nodup) (hi : i ≤ l.length) : (S.copied l n par nm i).count + 1 ∉ (S.copied l n par nm i).keys := by
  rw [copied_keys, List.mem_append]
  rintro (z | z)
  · have q := inv.kr _ z
    have : (S.copied l n par nm i).count = S.count + (i : Int) := rfl
    omega
  · obtain ⟨x, hx, e⟩ := List.mem_map.mp z
    obtain ⟨j, hj⟩ := List.mem_iff_getElem?.mp hx
    rw [List.getElem?_take] at hj
    by_cases c : j < i
    · rw [if_pos c] at hj
      rw [num_at nd hj] at e
      have : (S.copied l n par nm i).count = S.count + (i : Int) := rfl
      omega
    · rw [if_neg c] at hj; cases hj
theorem copied_get {i : Nat} {x : Int} (h : x ∈ S.keys) : (S.copied l n par nm i).get x = S.get x := by
  show (S.rows ++ _).lookup x = S.rows.lookup x
  rw [List.lookup_append]
  obtain ⟨r, e⟩ := get_key h
  rw [show S.rows.lookup x = some r from e]; rfl
theorem copied_all : ({ S.copied l n par nm l.length with ties := (S.copyTo l n par nm).ties } : Stt) = S.copyTo l n par nm := by
  refine stt_ext rfl rfl ?_ rfl rfl rfl rfl
  show S.rows ++ (l.take l.length).map _ = _
  rw [List.take_length]; rfl
theorem Stt.Desc.up {x : Int} (h : S.Desc n x) (ne : x ≠ n) : ∃ p, (S.rw x).par = some p ∧ S.Desc n p := by
  cases h with
  | self _ => exact absurd rfl ne
  | step e m q dp => exact ⟨_, by rw [rw_get e]; exact q, dp⟩
end
end Ho

set_option Elab.async false
set_option linter.all false
set_option maxRecDepth 100000
set_option maxHeartbeats 4000000
/-! B9: copies. -/
namespace Ho
open PySem PySem.Spec PyProof.Rows L2
section
variable {P : Program} {w : World} {K : PySem.W.Frag} {mg : Str → Option Value} {base : Heap} {σ : L2.St} {H H' : Hp} {ta tb te tx td tl : TE} {a : HA} {S S' : Stt} {E : XK} {De : Ends} {tz : TS}
def sp_h_copy (K : PySem.W.Frag) : Sp := fun vs H Q E => ∃ (a : HA) (S : Stt) (n : Int) (par : Option Int), vs = [.ref a.p, .int n, oiV par] ∧ HouseAt (cH K) H a S ∧ S.Wf ∧ S.Inv ∧ Res K a (S.copy n par) H Q E
theorem sc_h_copy : FnScope ["self", "number", "parent", "some", "names", "name", "one", "old", "its", "text", "more", "k", "other"] ["self", "number", "parent"] (defScope s_h_copy) := ⟨rfl, rfl, rfl, by decide +kernel, rfl, by decide +kernel, by decide +kernel⟩
theorem ok_h_copy (T : Tx K mg) : FnR P w K mg base (L2.CX P w) 5 (He.ma K (cH K) "copy") (sp_h_copy K) := by
  refine fnr (F_h_copy T) sc_h_copy (fun _ _ _ _ _ _ us hl => match us, hl with | [_, _, _], _ => rfl) (fun vs H Q E h => by obtain ⟨_, _, _, _, rfl, _⟩ := h; rfl) (fun cdv A outer s H vs Q E hr h => ?_)
  refine ⟨_, (pss_cons (ps_expr (pe_methR (pv 0) (T_cls T) (T_h_must T) (ok_h_must T) (hr.mono (by decide)) (passes_call (takes_of rfl rfl rfl rfl) (fun _ _ _ _ z => z)) (pa_cons (pv 1) pa_nil))) (pss_cons (ps_expr (pe_methR (pv 0) (T_cls T) (T_h_must_box T) (ok_h_must_box T) (hr.mono (by decide)) (passes_call (takes_of rfl rfl rfl rfl) (fun _ _ _ _ z => z)) (pa_cons (pv 2) pa_nil))) (pss_cons (ps_set (i := 3) sc_h_copy.nd rfl (Or.inl rfl) (pe_methR (pv 0) (T_cls T) (T_h_whole T) (ok_h_whole T) (hr.mono (by decide)) passL (pa_cons (pv 1) pa_nil))) (pss_cons (ps_expr (pe_methR (pv 0) (T_cls T) (T_h_make_room T) (ok_h_make_room T) (hr.mono (by decide)) (passes_call (takes_of rfl rfl rfl rfl) (fun _ _ _ _ z => z)) (pa_cons (pe_methR (pv 0) (T_cls T) (T_h_signs_of T) (ok_h_signs_of T) (hr.mono (by decide)) passL (pa_cons (pv 3) pa_nil)) pa_nil))) (pss_cons (ps_set (i := 4) sc_h_copy.nd rfl (Or.inr rfl) (pe_callTy (dictPK K) rfl (T_dict T) bt_dict (pa_cons (pe_lc (own := [("k", 11), ("one", 6)]) rfl sc_h_copy.nd (enumK K rfl (T_enumerate T) (pa_cons (pv 3) pa_nil)) (blkOk_by (N := ["self", "number", "parent", "some", "names", "name", "one", "old", "its", "text", "more", "k", "other"]) (sc := defScope s_h_copy) (by decide +kernel)) (fun _ _ _ _ _ => (gtupK K (n := 2) rfl (pgs_cons (pg_name (i := 11) sc_h_copy.nd rfl (Or.inl rfl)) (pgs_cons (pg_name (i := 6) sc_h_copy.nd rfl (Or.inl rfl)) pgs_nil)))) (fun _ _ _ _ _ => pts_nil) (fun _ _ _ _ _ => (pe_tup (pa_cons (pv 6) (pa_cons (pe_op op_add (pe_op op_add (fldK K (pv 0)) pe_int) (pv 11)) pa_nil))))) pa_nil))) (pss_cons (ps_set (i := 5) sc_h_copy.nd rfl (Or.inl rfl) (pe_callF (ok_g_free_name T) (hr.mono (by decide)) (T_g_free_name T).1 (T_g_free_name T).2 passL (pa_cons (pe_ix (ixtK K) (pe_dget (hu_of hr) (fldK K (pv 0)) (pv 1) (fun _ _ => rfl)) pe_int (fun _ _ => rfl)) (pa_cons (pe_methR (pv 0) (T_cls T) (T_h_names_in T) (ok_h_names_in T) (hr.mono (by decide)) passL (pa_cons (pv 2) (pa_cons pe_non pa_nil))) pa_nil)))) (pss_cons (ps_for (passes_of rfl) rfl (pilK K (pv 3)) (pg_name (i := 6) sc_h_copy.nd rfl (Or.inl rfl)) (pss_cons (ps_asg (pe_dget (hu_of hr) (fldK K (pv 0)) (pv 6) (fun _ _ => rfl)) (gtupK K (n := 3) rfl (pgs_cons (pg_name (i := 7) sc_h_copy.nd rfl (Or.inl rfl)) (pgs_cons (pg_name (i := 8) sc_h_copy.nd rfl (Or.inl rfl)) (pgs_cons (pg_name (i := 9) sc_h_copy.nd rfl (Or.inl rfl)) pgs_nil))))) (pss_one (ps_if (pt_cmpR op_eq (pv 6) (pv 1) (nomark _)) (pss_one (ps_expr (pe_methR (pv 0) (T_cls T) (T_h_new T) (ok_h_new T) (hr.mono (by decide)) passL (pa_cons (pv 2) (pa_cons (pv 5) (pa_cons (pv 9) pa_nil)))))) (pss_one (ps_expr (pe_methR (pv 0) (T_cls T) (T_h_new T) (ok_h_new T) (hr.mono (by decide)) passL (pa_cons (pe_dget (hu_of hr) (pv 4) (pv 7) (fun _ _ => rfl)) (pa_cons (pv 8) (pa_cons (pv 9) pa_nil)))))))))) (pss_cons (ps_setLc (own := [("one", 6), ("other", 12)]) (i := 10) rfl sc_h_copy.nd rfl rfl (sw_true rfl rfl rfl (by decide +kernel)) (pilK K (fldK K (pv 0))) (blkOk_by (N := ["self", "number", "parent", "some", "names", "name", "one", "old", "its", "text", "more", "k", "other"]) (sc := defScope s_h_copy) (by decide +kernel)) (fun _ _ _ _ _ => (gtupK K (n := 2) rfl (pgs_cons (pg_name (i := 6) sc_h_copy.nd rfl (Or.inl rfl)) (pgs_cons (pg_name (i := 12) sc_h_copy.nd rfl (Or.inl rfl)) pgs_nil)))) (fun _ _ _ _ _ => (pts_one (PW.pt (pw_and (pt_cmp (pc_din (hu_of hr) (pv 6) (pv 4))) (pw_and1 (pt_cmp (pc_din (hu_of hr) (pv 12) (pv 4)))))))) (fun _ _ _ _ _ => (pe_tup (pa_cons (pe_dget (hu_of hr) (pv 4) (pv 6) (fun _ _ => rfl)) (pa_cons (pe_dget (hu_of hr) (pv 4) (pv 12) (fun _ _ => rfl)) pa_nil))))) (pss_cons (sfldK K (pv 0) (pe_op op_cat (fldK K (pv 0)) (pv 10))) (pss_one (ps_ret (pe_dget (hu_of hr) (pv 4) (pv 1) (fun _ _ => rfl))))))))))))), ?_⟩
  obtain ⟨a, S, n, par, rfl, h, wf, inv, k⟩ := h
  unfold Stt.copy at k
  refine m_must h.rd (ev_vr rfl) (ev_vi rfl) (fun q => res_err (S' := S) k (by rw [if_pos q])) fun q H1 s1 => ?_
  rw [if_neg (by rw [q]; decide)] at k
  have h1 := h.mono s1
  refine m_must_box h1.rd (ev_vr rfl) (ev_vo rfl) (fun q => RaiE.mono (res_err (S' := S) k (by rw [if_pos q])) s1) fun q2 H2 s2 => ?_
  rw [if_neg (by rw [q2]; decide)] at k
  have s12 := s1.trans s2
  have h2 := h.mono s12
  have hk := there_key q
  refine q_asgN (en_whole h2.rd wf q (ev_vr rfl) (ev_vi rfl)) fun L vs H3 hL s3 h3l as => ?_
  have e := Ats.ints as
  subst e
  have s13 := s12.trans s3
  have h3 := h.mono s13
  have oL := h2.out hL
  have wl := within_len wf n
  have wnd := within_nd wf n
  refine m_make_room (more := S.signs (S.within n)) h3 wf inv (ev_vr rfl) (e_signs_of h3.rd wf (ev_vr rfl) (ev_var rfl (.lst h3l as)) (fun x hx => within_key hx) (by omega)) (fun z => RaiE.mono (res_err (S' := S) k (by rw [if_pos z])) s13) fun z a4 H4 ep h4 m4 => ?_
  rw [if_neg z] at k
  generalize hm : S.signs (S.within n) = more at k h4
  obtain ⟨wfR, invR⟩ := roomFor_ok wf inv more
  have cR := roomFor_count wf inv more
  have gR : ∀ x, S.there x = true → (S.roomFor more).get x = S.get x := fun x hx => roomFor_get wf inv more hx
  have rR : ∀ x, S.there x = true → (S.roomFor more).rw x = S.rw x := fun x hx => roomFor_rw wf inv more hx
  have lR := roomFor_rows wf inv more
  have nR : (S.roomFor more).num (S.within n) = S.num (S.within n) := by funext x; unfold Stt.num; rw [cR]
  generalize hR : S.roomFor more = R at k h4 wfR invR cR gR rR lR nR
  generalize hl : S.within n = l at *
  have thl : ∀ x ∈ l, S.there x = true := fun x hx => by rw [← hl] at hx; exact (mem_within.mp hx).there
  have hL4 := m4.keep _ _ oL h3l
  have m4' := (Mv.of s13).trans m4
  rw [← ep]
  have oL4 : L ∉ a4.all := fun zz => (m4.new L zz).elim (fun y => oL y) fun y => by rw [h3l] at y; cases y
  refine q_asgDict (l := l.zipIdx.map fun p : Int × Nat => (p.1, D.int (R.count + 1 + (p.2 : Int)))) ((en_lcEn l D.int (fun p : Int × Nat => D.tup [.int p.1, .int (R.count + 1 + (p.2 : Int))]) (ea_cons (ev_var rfl (.lst hL4 (ats_ints l))) ea_nil) (by omega) (fun _ => rfl) (fun _ _ => rfl) fun i x hx v G sg av => ?_).is (by rw [List.map_map]; rfl)) (by rw [num_keys]; exact wnd) fun Nd H5 hN s5 hd => ?_
  · cases av
    exact ⟨et_yes, ev_tup (ea_cons (ev_var rfl (.int x)) (ea_cons (ev_add (ev_add (e_count T (h4.rd.mono sg) (ev_vr rfl)) ev_int) (ev_var rfl (.int _))) ea_nil)) le_lit⟩
  have h5 := h4.mono s5
  have oN := h4.out hN
  have hnR : R.get n = some (S.rw n) := by rw [gR n q]; exact get_rw hk
  have lnm : (S.rw n).nm.length ≤ 100000 := wf.nml _ (row_get (get_rw hk))
  generalize hnm : freeNm (S.rw n).nm (R.names par none) = nm at k
  refine q_asg (d := .str nm) ((e_free_name (e_nm T h5.rd hnR (ev_vr rfl) (ev_vi rfl)) (en_names_in h5 wfR (but := none) (ev_vr rfl) (ev_vo rfl) ev_non).toD (by omega) (by have := names_len wfR par none; omega)).is (by rw [hnm])) fun v H6 s6 av => ?_
  cases av
  have s56 := s5.trans s6
  have hL6 := s56 _ _ hL4
  have m6 : Mv a.all a4.all H H6 := m4'.trans (Mv.of s56)
  refine q_forR (ev_vr rfl) hL6 fun H7 s7 => ⟨fun i σ' H' => ∃ o6 o7 o8 o9 : Option V, σ' = [some (.ref a4.p), some (.int n), some (oiV par), some (.ref L), some (.ref Nd), some (.str nm), o6, o7, o8, o9, none, none, none] ∧ H' L = some (.lst (l.map V.int)) ∧ DAt H' Nd (l.zipIdx.map fun p : Int × Nat => (p.1, D.int (R.count + 1 + (p.2 : Int)))) ∧ HouseAt (cH K) H' a4 (R.copied l n par nm i) ∧ Mv a.all a4.all H H', ?_, fun i σ' H' p => ?_, fun i v σ' H' hv p => ?_, fun σ' H' p => ?_⟩
  · refine ⟨_, _, _, _, rfl, s7 _ _ hL6, hd.mono (s6.trans s7), ?_, m6.trans (Mv.of s7)⟩
    rw [copied_zero]
    exact h4.mono (s56.trans s7)
  · obtain ⟨_, _, _, _, _, z, _⟩ := p; exact z
  · obtain ⟨o6, o7, o8, o9, rfl, p1, p2, p3, p4⟩ := p
    rw [List.getElem?_map] at hv
    obtain ⟨x, hx, ev⟩ := Option.map_eq_some_iff.mp hv
    subst ev
    have hxl : x ∈ l := List.mem_of_getElem? hx
    have hil : i < l.length := (List.getElem?_eq_some_iff.mp hx).1
    have htx := thl x hxl
    have hkx := there_key htx
    have hRx : R.get x = some (S.rw x) := by rw [gR x htx]; exact get_rw hkx
    have hRk : x ∈ R.keys := key_get hRx
    have hgx : (R.copied l n par nm i).get x = some (S.rw x) := by rw [copied_get hRk]; exact hRx
    have rwx : R.rw x = S.rw x := rw_get hRx
    refine q_unp3 (e_row T p3.rd hgx (ev_vr rfl) (ev_var rfl (.int x))) fun v1 v2 v3 H8 s8 b1 b2 b3 => ?_
    cases at_oi' b1
    cases b2
    cases at_os' b3
    have h8 := p3.mono s8
    have nk := copied_new (n := n) (par := par) (nm := nm) invR wnd (Nat.le_of_lt hil)
    have lnc : (R.copied l n par nm i).rows.length < 10000 := by
      show (R.rows ++ _).length < _
      rw [List.length_append, List.length_map, List.length_take]
      have := wf.few
      omega
    have fin : ∀ (σ' : L2.St) (o7 o8 o9 : Option V) (H9 : Hp), σ' = [some (.ref a4.p), some (.int n), some (oiV par), some (.ref L), some (.ref Nd), some (.str nm), some (.int x), o7, o8, o9, none, none, none] → HouseAt (cH K) H9 a4 ((R.copied l n par nm i).addRow (R.copyRow l n par nm x)) → Mv a4.all a4.all H8 H9 →
        ∃ o6 o7 o8 o9 : Option V, σ' = [some (.ref a4.p), some (.int n), some (oiV par), some (.ref L), some (.ref Nd), some (.str nm), o6, o7, o8, o9, none, none, none] ∧ H9 L = some (.lst (l.map V.int)) ∧ DAt H9 Nd (l.zipIdx.map fun p : Int × Nat => (p.1, D.int (R.count + 1 + (p.2 : Int)))) ∧ HouseAt (cH K) H9 a4 (R.copied l n par nm (i + 1)) ∧ Mv a.all a4.all H H9 := fun σ' o7 o8 o9 H9 e h9 m9 => by
      refine ⟨_, o7, o8, o9, e, m9.keep _ _ oL4 (s8 _ _ p1), (p2.mono s8).keep (fun o z => m9.keep _ _ oN z) m9.tup (fun p hp => ?_), by rw [← copied_more wnd hx]; exact h9, (p4.trans (Mv.of s8)).trans m9⟩
      obtain ⟨u, _, rfl⟩ := List.mem_map.mp hp
      rfl
    by_cases c : x = n
    · subst c
      refine s_if (b := true) ((et_test (ev_eqI (ev_var rfl (.int x)) (ev_vi rfl))).is (by simp)) (fun b H9 s9 => ?_) (fun b => by cases b)
      refine c_new (h8.mono s9) nk lnc (ev_vr rfl) (ev_vo rfl) (ev_vs rfl) (ev_vos rfl) fun H10 h10 m10 => fin _ _ _ _ H10 rfl ?_ ((Mv.of s9).trans m10)
      have ec : R.copyRow l x par nm x = ⟨par, nm, (S.rw x).tx, none⟩ := by unfold Stt.copyRow; rw [if_pos rfl, rwx]
      rw [ec]; exact h10
    · refine s_if (b := false) ((et_test (ev_eqI (ev_var rfl (.int x)) (ev_vi rfl))).is (by simp [c])) (fun b => by cases b) fun b H9 s9 => ?_
      have dx : S.Desc n x := by rw [← hl] at hxl; exact mem_within.mp hxl
      obtain ⟨pp, hpp, dpp⟩ := dx.up c
      have hpl : pp ∈ l := by rw [← hl]; exact mem_within.mpr dpp
      rw [hpp]
      refine c_new (par := some (R.num l pp)) (h8.mono s9) nk lnc (ev_vr rfl) (ev_dget ((p2.mono s8).mono s9).i (num_look wnd hpl) (ev_vr rfl) (ev_var rfl (.int pp))) (ev_vs rfl) (ev_vos rfl) fun H10 h10 m10 => fin _ _ _ _ H10 rfl ?_ ((Mv.of s9).trans m10)
      have ec : R.copyRow l n par nm x = ⟨some (R.num l pp), (S.rw x).nm, (S.rw x).tx, none⟩ := by unfold Stt.copyRow; rw [if_neg c, rwx, hpp]; rfl
      rw [ec]; exact h10
  · obtain ⟨o6, o7, o8, o9, rfl, p1, p2, p3, p4⟩ := p
    rw [List.length_map] at p3
    have ltR := wfR.tl
    refine q_asgN (en_lc2 R.ties (fun t => .int t.1) (fun t => .int t.2) (fun t => decide (t.1 ∈ l) && decide (t.2 ∈ l)) (fun t => pairD (R.num l t.1, R.num l t.2)) (show EvD _ _ _ (.lst ((R.copied l n par nm l.length).ties.map pairD)) from e_pairs T p3.rd (ev_vr rfl)) (by omega) (fun _ _ => rfl) (fun _ _ => rfl) fun t ht v w G sg av aw => ?_) fun M ws H8 hM s8 h8l as8 => ?_
    · cases av; cases aw
      have p2g := (p2.mono sg).i
      refine ⟨(et_and (et_test (ev_din p2g (ev_var rfl (.int t.1)) (ev_vr rfl))) fun _ => et_test (ev_din p2g (ev_var rfl (.int t.2)) (ev_vr rfl))).is (by rw [num_in, num_in]), fun b => ?_⟩
      rw [Bool.and_eq_true, decide_eq_true_eq, decide_eq_true_eq] at b
      exact ev_pairD (ev_dget p2g (num_look wnd b.1) (ev_vr rfl) (ev_var rfl (.int t.1))) (ev_dget p2g (num_look wnd b.2) (ev_vr rfl) (ev_var rfl (.int t.2)))
    have h8 := p3.mono s8
    refine h_pairs (cs := (R.copyTo l n par nm).ties) T h8 ((en_cat (ds := (R.copied l n par nm l.length).ties.map pairD) (e_pairs T h8.rd (ev_vr rfl)) (ev_var rfl (.lst h8l as8)) ?_).is ?_) (ev_vr rfl) fun q9 H9 hq9 h9 m9 => ?_
    · rw [List.length_map, List.length_map]
      have z1 : (R.copied l n par nm l.length).ties = R.ties := rfl
      have z2 := List.length_filter_le (fun t : Int × Int => decide (t.1 ∈ l) && decide (t.2 ∈ l)) R.ties
      rw [z1]
      omega
    · show _ = (R.ties ++ _).map pairD
      rw [List.map_append, List.map_map]
      rfl
    have oN8 : Nd ∉ a4.all := oN
    have p2' := (p2.mono s8).keep (fun o z => m9.keep _ _ oN z) m9.tup (fun p hp => by obtain ⟨u, _, rfl⟩ := List.mem_map.mp hp; rfl)
    refine s_ret (ev_dget p2'.i (num_look wnd (by rw [← hl]; exact mem_within.mpr (.self q))) (ev_vr rfl) (ev_vi rfl)) fun v H10 s10 av => ?_
    refine res_val k rfl v { a4 with t := q9 } H10 ep (HouseAt.mono s10 ?_) (((p4.trans (Mv.of s8)).trans m9).trans (Mv.of s10)) (by rw [← nR]; exact av)
    rw [← copied_all]
    exact h9
end
end Ho

set_option Elab.async false
set_option linter.all false
set_option maxRecDepth 100000
set_option maxHeartbeats 4000000
/-! C1: the law's own state is read. -/
namespace Ho
open PySem PySem.Spec PyProof.Rows L2
section
variable {P : Program} {w : World} {K : PySem.W.Frag} {mg : Str → Option Value} {base : Heap} {σ : L2.St} {H H' : Hp} {ta tb te tx td tl : TE} {b : SA} {S S' : Stt} {E : XK} {De : Ends} {tz : TS}
theorem kv_keep (b : SA) (S : Stt) : valV (sKv b S) (Sum.inr ("keep" : Str)) = some (.int S.keep) := by kernel_rfl
theorem kv_room (b : SA) (S : Stt) : valV (sKv b S) (Sum.inr ("room" : Str)) = some (.int S.room) := by kernel_rfl
theorem kv_rows (b : SA) (S : Stt) : valV (sKv b S) (Sum.inr ("rows" : Str)) = some (.ref b.r) := by kernel_rfl
theorem kv_casts (b : SA) (S : Stt) : valV (sKv b S) (Sum.inr ("casts" : Str)) = some (.ref b.c) := by kernel_rfl
theorem kv_ties (b : SA) (S : Stt) : valV (sKv b S) (Sum.inr ("ties" : Str)) = some (.ref b.t) := by kernel_rfl
theorem kv_day (b : SA) (S : Stt) : valV (sKv b S) (Sum.inr ("day" : Str)) = some (.int S.day) := by kernel_rfl
theorem kv_count (b : SA) (S : Stt) : valV (sKv b S) (Sum.inr ("count" : Str)) = some (.int S.count) := by kernel_rfl
theorem t_keep (h : StRd H b S) (ho : EvD ta σ H (.ref b.p)) : EvD (tDGet ta (tC (.str "keep"))) σ H (.int S.keep) := ev_sget h.st (kv_keep b S) ho (.int _)
theorem t_room (h : StRd H b S) (ho : EvD ta σ H (.ref b.p)) : EvD (tDGet ta (tC (.str "room"))) σ H (.int S.room) := ev_sget h.st (kv_room b S) ho (.int _)
theorem t_rows (h : StRd H b S) (ho : EvD ta σ H (.ref b.p)) : EvD (tDGet ta (tC (.str "rows"))) σ H (.ref b.r) := ev_sget h.st (kv_rows b S) ho (.ref _)
theorem t_castsR (h : StRd H b S) (ho : EvD ta σ H (.ref b.p)) : EvD (tDGet ta (tC (.str "casts"))) σ H (.ref b.c) := ev_sget h.st (kv_casts b S) ho (.ref _)
theorem t_casts (h : StRd H b S) (ho : EvD ta σ H (.ref b.p)) : EvD (tDGet ta (tC (.str "casts"))) σ H (.lst (S.casts.map pairD)) := ev_sget h.st (kv_casts b S) ho h.casts.at
theorem t_tiesR (h : StRd H b S) (ho : EvD ta σ H (.ref b.p)) : EvD (tDGet ta (tC (.str "ties"))) σ H (.ref b.t) := ev_sget h.st (kv_ties b S) ho (.ref _)
theorem t_ties (h : StRd H b S) (ho : EvD ta σ H (.ref b.p)) : EvD (tDGet ta (tC (.str "ties"))) σ H (.lst (S.ties.map pairD)) := ev_sget h.st (kv_ties b S) ho h.ties.at
theorem t_day (h : StRd H b S) (ho : EvD ta σ H (.ref b.p)) : EvD (tDGet ta (tC (.str "day"))) σ H (.int S.day) := ev_sget h.st (kv_day b S) ho (.int _)
theorem t_count (h : StRd H b S) (ho : EvD ta σ H (.ref b.p)) : EvD (tDGet ta (tC (.str "count"))) σ H (.int S.count) := ev_sget h.st (kv_count b S) ho (.int _)
theorem t_row (h : StRd H b S) {n : Int} {r : Rw} (e : S.get n = some r) (ho : EvD ta σ H (.ref b.p)) (hn : EvD te σ H (.int n)) : EvD (tDGet (tDGet ta (tC (.str "rows"))) te) σ H (row4 r) :=
  ev_dget h.rows (by rw [look4, e]; rfl) (t_rows h ho) hn
theorem t_par (h : StRd H b S) {n : Int} {r : Rw} (e : S.get n = some r) (ho : EvD ta σ H (.ref b.p)) (hn : EvD te σ H (.int n)) : EvD (tOp (rIxT K) (tDGet (tDGet ta (tC (.str "rows"))) te) (tC (.int 0))) σ H (oi r.par) := ev_ixT (k := 0) (t_row h e ho hn) rfl
theorem t_nm (h : StRd H b S) {n : Int} {r : Rw} (e : S.get n = some r) (ho : EvD ta σ H (.ref b.p)) (hn : EvD te σ H (.int n)) : EvD (tOp (rIxT K) (tDGet (tDGet ta (tC (.str "rows"))) te) (tC (.int 1))) σ H (.str r.nm) := ev_ixT (k := 1) (t_row h e ho hn) rfl
theorem t_tx (h : StRd H b S) {n : Int} {r : Rw} (e : S.get n = some r) (ho : EvD ta σ H (.ref b.p)) (hn : EvD te σ H (.int n)) : EvD (tOp (rIxT K) (tDGet (tDGet ta (tC (.str "rows"))) te) (tC (.int 2))) σ H (os r.tx) := ev_ixT (k := 2) (t_row h e ho hn) rfl
theorem t_mrk (h : StRd H b S) {n : Int} {r : Rw} (e : S.get n = some r) (ho : EvD ta σ H (.ref b.p)) (hn : EvD te σ H (.int n)) : EvD (tOp (rIxT K) (tDGet (tDGet ta (tC (.str "rows"))) te) (tC (.int 3))) σ H (oi r.mrk) := ev_ixT (k := 3) (t_row h e ho hn) rfl
/-! ### the state as it is read while its rows are locked -/
theorem StAt.lock (h : StAt H b S) {kvs : List (Key × V)} (hr : H b.r = some (.dK kvs)) (od : Obj) : StRd (upd H b.r (.frz od (.dK kvs))) b S := by
  obtain ⟨k2, h1, h2⟩ := h.rows
  have ek : k2 = kvs := by rw [hr] at h1; cases h1; rfl
  subst ek
  have e : Tle H (upd H b.r (.frz od (.dK k2))) := frz_tle hr
  obtain ⟨vs, c1, c2⟩ := h.casts
  obtain ⟨ws, t1, t2⟩ := h.ties
  refine ⟨?_, ⟨k2, .inr ⟨od, upd_same⟩, h2.tle e rows4_nl⟩, ⟨vs, ?_, c2.tle e (pairs_nl _)⟩, ⟨ws, ?_, t2.tle e (pairs_nl _)⟩⟩
  · rw [upd_ne h.ne]; exact h.st
  · rw [upd_ne (ne_of c1 hr (by intro z; cases z))]; exact c1
  · rw [upd_ne (ne_of t1 hr (by intro z; cases z))]; exact t1
theorem StAt.rowsx (h : StAt H b S) : ∃ kvs, H b.r = some (.dK kvs) ∧ kvs.map (·.1) = S.keys.map Sum.inl := by
  obtain ⟨kvs, h1, h2⟩ := h.rows
  exact ⟨kvs, h1, by rw [h2.keys, keys4]⟩
/-! ### _law_cell, _law_mix -/
theorem sql_same {l : Addr} {xs : List V} (s : Same H H') (h : SqL K H l xs) : SqL K H' l xs := h.imp (same_rd s) id
theorem ev_lenQ {l : Addr} {xs : List V} (hS : SqL K H l xs) (h : EvD te σ H (.ref l)) : EvD (tCB (rLenS K) (tCons te tNil)) σ H (.int (xs.length : Int)) := ev_cb (ea_cons h ea_nil) fun vs H1 s as Q q => by
  cases as with
  | cons a as =>
    cases as
    cases a
    exact ⟨l, xs, rfl, .inl (sql_same s hS), q _ H1 (Same.refl H1) (.int _)⟩
theorem ev_ixQ {l : Addr} {ns : List Int} {i : Nat} {n : Int} (hS : SqL K H l (ns.map V.int)) (h : EvD ta σ H (.ref l)) (hi : EvD tb σ H (.int (i : Int))) (e : ns[i]? = some n) : EvD (tOp (rIxL K) ta tb) σ H (.int n) :=
  ev_op h hi fun x y H1 s ax ay Q q => by
    cases ax; cases ay
    exact ⟨_, _, _, .int n, rfl, rfl, sql_same s hS, atI_nat (by rw [List.getElem?_map, e]; rfl), q _ H1 (Same.refl H1) (.int n)⟩
def sp_law_cell (K : PySem.W.Frag) : Sp := fun vs H Q _ => ∃ (l : Addr) (s : List Int) (k : Nat), vs = [.ref l, .int k] ∧ SqL K H l (s.map V.int) ∧ RetD (.int (s.getD k 0)) H Q
theorem sc_law_cell : FnScope ["_law_script", "_law_k"] ["_law_script", "_law_k"] (defScope s_law_cell) := ⟨rfl, rfl, rfl, by decide +kernel, rfl, by decide +kernel, by decide +kernel⟩
theorem ok_law_cell (T : Tx K mg) : FnR P w K mg base (L2.CX P w) 1 (He.ga K "_law_cell") (sp_law_cell K) := by
  refine fnr (F_law_cell T) sc_law_cell (fun _ _ _ _ _ _ us hl => match us, hl with | [_, _], _ => rfl) (fun vs H Q E h => by obtain ⟨_, _, _, rfl, _⟩ := h; rfl) (fun cdv A outer s H vs Q E hr h => ?_)
  refine ⟨_, PSs.nox (pss_cons (ps_if (pt_cmpR op_lt (pv 1) (pe_callB (lenK K) rfl (T_len T) bt_len (pa_cons (pv 0) pa_nil)) (nomark _)) (pss_one (ps_ret (pe_ix (ixlK K) (pv 0) (pv 1) (fun _ _ => rfl)))) pss_nil) (pss_one (ps_ret pe_int))), ?_⟩
  obtain ⟨l, s0, i, rfl, hl, k⟩ := h
  refine q_ifN (et_test ((ev_lt (ev_vi rfl) (ev_lenQ hl (ev_vr rfl))).is (e := .bl (decide (i < s0.length))) ?_)) (fun c H1 s1 => ?_) fun c H1 s1 => ?_
  · congr 1
    rw [List.length_map]
    exact decide_eq_decide.mpr (by omega)
  · have lt : i < s0.length := of_decide_eq_true c
    refine s_ret (ev_ixQ (i := i) (n := s0.getD i 0) (sql_same s1 hl) (ev_vr rfl) (ev_vi rfl) ?_) (k.mono s1)
    rw [List.getElem?_eq_getElem lt, List.getD_eq_getElem?_getD, List.getElem?_eq_getElem lt]; rfl
  · have nlt : ¬ i < s0.length := of_decide_eq_false c
    refine s_ret (ev_int.is (e := .int (s0.getD i 0)) ?_) (k.mono s1)
    rw [List.getD_eq_getElem?_getD, List.getElem?_eq_none (by omega)]; rfl
theorem e_cell {s0 : List Int} {i : Nat} {l : Addr} (hl : SqL K H l (s0.map V.int)) (h1 : EvD ta σ H (.ref l)) (h2 : EvD te σ H (.int i)) : EvD (tCallF (sp_law_cell K) E (tCons ta (tCons te tNil))) σ H (.int (s0.getD i 0)) :=
  ev_call (ea_cons h1 (ea_cons h2 ea_nil)) fun vs H1 s as Q q => by
    cases as with | cons a1 as => cases as with | cons a2 as => cases as; cases a1; cases a2; exact ⟨l, s0, i, rfl, sql_same s hl, q⟩
def mixI (c p m : Int) : Int := c * 48271 % p * (c * 48271 % p + 7) % p % m
theorem mix_lt {c p m : Int} (h : 0 < m) : 0 ≤ mixI c p m ∧ mixI c p m < m := ⟨Int.emod_nonneg _ (by omega), Int.emod_lt_of_pos _ h⟩
def sp_law_mix (K : PySem.W.Frag) : Sp := fun vs H Q _ => ∃ (c p m : Int), vs = [.int c, .int p, .int m] ∧ 0 < p ∧ p < 1000000 ∧ 0 < m ∧ RetD (.int (mixI c p m)) H Q
theorem sc_law_mix : FnScope ["_law_cell_here", "_law_prime", "_law_many"] ["_law_cell_here", "_law_prime", "_law_many"] (defScope s_law_mix) := ⟨rfl, rfl, rfl, by decide +kernel, rfl, by decide +kernel, by decide +kernel⟩
theorem ok_law_mix (T : Tx K mg) : FnR P w K mg base (L2.CX P w) 1 (He.ga K "_law_mix") (sp_law_mix K) := by
  refine fnr (F_law_mix T) sc_law_mix (fun _ _ _ _ _ _ us hl => match us, hl with | [_, _, _], _ => rfl) (fun vs H Q E h => by obtain ⟨_, _, _, rfl, _⟩ := h; rfl) (fun cdv A outer s H vs Q E hr h => ?_)
  refine ⟨_, PSs.nox (pss_one (ps_ret (pe_op op_mod (pe_op op_mod (pe_op op_mul (pe_op op_mod (pe_op op_mul (pv 0) pe_int) (pv 1)) (pe_op op_add (pe_op op_mod (pe_op op_mul (pv 0) pe_int) (pv 1)) pe_int)) (pv 1)) (pv 2)))), ?_⟩
  obtain ⟨c, p, m, rfl, hp, hp2, hm, k⟩ := h
  have e1 : ∀ σ : L2.St, σ[0]? = some (some (.int c)) → σ[1]? = some (some (.int p)) → EvD (tOp (rI (fun _ j => 0 < j) fun i j => .int (i % j)) (tOp (rI CMul fun i j => .int (i * j)) (tVar 0) (tC (.int 48271))) (tVar 1)) σ H (.int (c * 48271 % p)) := fun σ q0 q1 => ev_mod (ev_mul (ev_vi q0) ev_int (.inr (by decide))) (ev_vi q1) hp
  have b1 : 0 ≤ c * 48271 % p := Int.emod_nonneg _ (by omega)
  have b2 : c * 48271 % p < p := Int.emod_lt_of_pos _ hp
  exact s_ret (ev_mod (ev_mod (ev_mul (e1 _ rfl rfl) (ev_add (e1 _ rfl rfl) ev_int) (.inl ⟨by omega, by omega⟩)) (ev_vi rfl) hp) (ev_vi rfl) hm) k
theorem e_mix {c p m : Int} (h1 : EvD ta σ H (.int c)) (h2 : EvD tb σ H (.int p)) (h3 : EvD te σ H (.int m)) (hp : 0 < p ∧ p < 1000000) (hm : 0 < m) : EvD (tCallF (sp_law_mix K) E (tCons ta (tCons tb (tCons te tNil)))) σ H (.int (mixI c p m)) :=
  ev_call (ea_cons h1 (ea_cons h2 (ea_cons h3 ea_nil))) fun vs H1 s as Q q => by
    cases as with | cons a1 as => cases as with | cons a2 as => cases as with | cons a3 as => cases as; cases a1; cases a2; cases a3; exact ⟨c, p, m, rfl, hp.1, hp.2, hm, q⟩
/-! ### _law_there, _law_no_box -/
def sp_law_there (K : PySem.W.Frag) : Sp := fun vs H Q _ => ∃ (b : SA) (S : Stt) (n : Option Int), vs = [.ref b.p, oiV n] ∧ StRd H b S ∧ RetD (.bl (S.thereO n)) H Q
theorem lookO4 (n : Option Int) : (lookO (rows4 S) n).isSome = (n.bind S.get).isSome := by
  cases n with
  | none => rfl
  | some n => show ((rows4 S).lookup n).isSome = (S.get n).isSome; rw [look4, Option.isSome_map]
theorem sc_law_there : FnScope ["_law_state", "_law_number_here"] ["_law_state", "_law_number_here"] (defScope s_law_there) := ⟨rfl, rfl, rfl, by decide +kernel, rfl, by decide +kernel, by decide +kernel⟩
theorem ok_law_there (T : Tx K mg) : FnR P w K mg base (L2.CX P w) 1 (He.ga K "_law_there") (sp_law_there K) := by
  refine fnr (F_law_there T) sc_law_there (fun _ _ _ _ _ _ us hl => match us, hl with | [_, _], _ => rfl) (fun vs H Q E h => by obtain ⟨_, _, _, rfl, _⟩ := h; rfl) (fun cdv A outer s H vs Q E hr h => ?_)
  refine ⟨_, PSs.nox (pss_one (ps_ret (pe_and (pe_cmp (pc_dinN (hu_of hr) (pv 1) (pe_dget (hu_of hr) (pv 0) pe_str (fun _ _ => rfl)))) (pe_one (pe_cmpR op_isN (pe_ix (ixtK K) (pe_dget (hu_of hr) (pe_dget (hu_of hr) (pv 0) pe_str (fun _ _ => rfl)) (pv 1) (fun _ _ => rfl)) pe_int (fun _ _ => rfl)) pe_non (nomark _)))))), ?_⟩
  obtain ⟨b, S, n, rfl, h, k⟩ := h
  refine s_ret ?_ k
  cases n with
  | none => exact (ev_and (b := true) (ev_dinN h.rows (ev_vo rfl) (t_rows h (ev_vr rfl))) fun q => by cases q).is rfl
  | some n =>
    cases hg : S.get n with
    | none =>
      refine (ev_and (b := true) (ev_dinN (n := some n) h.rows (ev_vo rfl) (t_rows h (ev_vr rfl))) fun q => ?_).is ?_
      · rw [lookO4] at q
        simp [hg] at q
      · rw [lookO4]
        simp [hg, Stt.thereO, Stt.there]
    | some r =>
      refine (ev_and (ev_dinN (n := some n) h.rows (ev_vo rfl) (t_rows h (ev_vr rfl))) fun q => ev_isN (t_mrk h hg (ev_vr rfl) (ev_vi rfl))).is ?_
      rw [lookO4, oi_isN]
      simp [hg, Stt.thereO, Stt.there]
theorem t_there {n : Option Int} (h : StRd H b S) (h1 : EvD ta σ H (.ref b.p)) (h2 : EvD te σ H (oi n)) : EvD (tCallF (sp_law_there K) E (tCons ta (tCons te tNil))) σ H (.bl (S.thereO n)) :=
  ev_call (ea_cons h1 (ea_cons h2 ea_nil)) fun vs H1 s as Q q => by
    cases as with | cons a1 as => cases as with | cons a2 as => cases as; cases a1; cases at_oi' a2; exact ⟨b, S, n, rfl, h.mono s, q⟩
theorem t_thereI {n : Int} (h : StRd H b S) (h1 : EvD ta σ H (.ref b.p)) (h2 : EvD te σ H (.int n)) : EvD (tCallF (sp_law_there K) E (tCons ta (tCons te tNil))) σ H (.bl (S.there n)) := t_there (n := some n) h h1 h2
def sp_law_no_box (K : PySem.W.Frag) : Sp := fun vs H Q _ => ∃ (b : SA) (S : Stt) (n : Option Int), vs = [.ref b.p, oiV n] ∧ StRd H b S ∧ RetD (.bl (S.noBox n)) H Q
theorem sc_law_no_box : FnScope ["_law_state", "_law_parent_here"] ["_law_state", "_law_parent_here"] (defScope s_law_no_box) := ⟨rfl, rfl, rfl, by decide +kernel, rfl, by decide +kernel, by decide +kernel⟩
theorem ok_law_no_box (T : Tx K mg) : FnR P w K mg base (L2.CX P w) 2 (He.ga K "_law_no_box") (sp_law_no_box K) := by
  refine fnr (F_law_no_box T) sc_law_no_box (fun _ _ _ _ _ _ us hl => match us, hl with | [_, _], _ => rfl) (fun vs H Q E h => by obtain ⟨_, _, _, rfl, _⟩ := h; rfl) (fun cdv A outer s H vs Q E hr h => ?_)
  refine ⟨_, PSs.nox (pss_one (ps_ret (pe_and (pe_cmpR op_notN (pv 1) pe_non (nomark _)) (pe_one (pe_or (pe_not (pe_callF (ok_law_there T) (hr.mono (by decide)) (T_law_there T).1 (T_law_there T).2 passL (pa_cons (pv 0) (pa_cons (pv 1) pa_nil)))) (pe_one (pe_cmpR op_notN (pe_ix (ixtK K) (pe_dget (hu_of hr) (pe_dget (hu_of hr) (pv 0) pe_str (fun _ _ => rfl)) (pv 1) (fun _ _ => rfl)) pe_int (fun _ _ => rfl)) pe_non (nomark _)))))))), ?_⟩
  obtain ⟨b, S, n, rfl, h, k⟩ := h
  refine s_ret ?_ k
  cases n with
  | none => exact (ev_and (b := true) (ev_notN (ev_vo (n := none) rfl)) fun q => by cases q).is rfl
  | some n =>
    refine (ev_and (ev_notN (ev_var (d := .int n) rfl (.int n))) fun _ => ev_or (ev_notV (t_thereI h (ev_vr rfl) (ev_var rfl (.int n)))) (b := ((S.get n).bind (·.tx)).isSome) fun c => ?_).is rfl
    obtain ⟨r, hr, _⟩ := there_get (S := S) (n := n) (by simpa using c)
    refine (ev_notN (t_tx h hr (ev_vr rfl) (ev_var rfl (.int n)))).is ?_
    rw [os_isN, hr]
    show D.bl (!r.tx.isNone) = D.bl r.tx.isSome
    cases r.tx <;> rfl
theorem t_no_box {n : Option Int} (h : StRd H b S) (h1 : EvD ta σ H (.ref b.p)) (h2 : EvD te σ H (oi n)) : EvD (tCallF (sp_law_no_box K) E (tCons ta (tCons te tNil))) σ H (.bl (S.noBox n)) :=
  ev_call (ea_cons h1 (ea_cons h2 ea_nil)) fun vs H1 s as Q q => by
    cases as with | cons a1 as => cases as with | cons a2 as => cases as; cases a1; cases at_oi' a2; exact ⟨b, S, n, rfl, h.mono s, q⟩
end
end Ho

set_option Elab.async false
set_option linter.all false
set_option maxRecDepth 100000
set_option maxHeartbeats 4000000
/-! C2: what the law's own walk tells. -/
namespace Ho
open PySem PySem.Spec PyProof.Rows L2
section
variable {P : Program} {w : World} {K : PySem.W.Frag} {mg : Str → Option Value} {base : Heap} {σ : L2.St} {H H' : Hp} {ta tb te tx td tl : TE} {b : SA} {S S' : Stt} {E : XK} {De : Ends} {tz : TS}
theorem q_forK {t : TS} {r : Addr} {kvs : List (Key × V)} {ns : List Int} {j : Nat} (hr : H r = some (.dK kvs)) (hk : kvs.map (·.1) = ns.map Sum.inl) (hd : ∀ od, EvD td σ (upd H r (.frz od (.dK kvs))) (.ref r)) (Pv : Obj → Nat → L2.St → Hp → Prop)
    (h0 : ∀ od H1, Same (upd H r (.frz od (.dK kvs))) H1 → Pv od 0 σ H1) (hl : ∀ od i σ' H', Pv od i σ' H' → H' r = some (.frz od (.dK kvs)))
    (hs : ∀ od i n σ' H', ns[i]? = some n → Pv od i σ' H' → t ⟨Pv od (i + 1), fun v H' => H' r = some (.frz od (.dK kvs)) ∧ De.rt v (upd H' r (.dK kvs)), fun σ' H' => H' r = some (.frz od (.dK kvs)) ∧ tz De σ' (upd H' r (.dK kvs)), Pv od (i + 1)⟩ (σ'.set j (some (.int n))) H')
    (hd2 : ∀ od σ' H', Pv od ns.length σ' H' → tz De σ' (upd H' r (.dK kvs))) : tSeq (tLock (tFor (iKeys td) (gName j) t)) tz De σ H :=
  s_forK (De := { De with nx := tz De }) hr hk hd Pv h0 hl hs hd2
theorem cond_and {t u : TT} {a c d : Bool} {f : L2.St} (h1 : EvT t f H a) (h2 : a = true → EvT u f H c) (e : (a && c) = d) : EvT (tAnd t u) f H d := (et_and h1 h2).is e
/-! ### _law_names -/
def sp_law_names (K : PySem.W.Frag) : Sp := fun vs H Q _ => ∃ (b : SA) (S : Stt) (par but : Option Int), vs = [.ref b.p, oiV par, oiV but] ∧ StAt H b S ∧ S.Wf ∧ RetL ((S.names par but).map D.str) H Q
theorem names_keys1 (nd : S.keys.Nodup) (par but : Option Int) :
    (S.keys.filter fun n => S.there n && (!decide (some n = but) && decide ((S.rw n).par = par))).map (fun n => (S.rw n).nm) = S.names par but :=
  keys_rows nd _ _ _ _ (fun p hp => by rw [rw_row nd hp, there_row nd hp]) fun p hp => by rw [rw_row nd hp]
theorem sc_law_names : FnScope ["_law_state", "_law_parent_here", "_law_but", "_law_found", "_law_one"] ["_law_state", "_law_parent_here", "_law_but"] (defScope s_law_names) := ⟨rfl, rfl, rfl, by decide +kernel, rfl, by decide +kernel, by decide +kernel⟩
theorem ok_law_names (T : Tx K mg) : FnR P w K mg base (L2.CX P w) 2 (He.ga K "_law_names") (sp_law_names K) := by
  refine fnr (F_law_names T) sc_law_names (fun _ _ _ _ _ _ us hl => match us, hl with | [_, _, _], _ => rfl) (fun vs H Q E h => by obtain ⟨_, _, _, _, rfl, _⟩ := h; rfl) (fun cdv A outer s H vs Q E hr h => ?_)
  refine ⟨_, PSs.nox (pss_cons (ps_set (i := 3) sc_law_names.nd rfl (Or.inl rfl) (pe_lst pa_nil)) (pss_cons (ps_lock (ps_for PassesOwn.never rfl (pi_keys (pe_dget (hu_of hr) (pv 0) pe_str (fun _ _ => rfl))) (pg_name (i := 4) sc_law_names.nd rfl (Or.inl rfl)) (pss_one (ps_if (PW.pt (pw_and (truK K (pe_callF (ok_law_there T) (hr.mono (by decide)) (T_law_there T).1 (T_law_there T).2 passL (pa_cons (pv 0) (pa_cons (pv 4) pa_nil)))) (pw_and (pt_cmpR op_ne (pv 4) (pv 2) (nomark _)) (pw_and1 (pt_cmpR op_eq (pe_ix (ixtK K) (pe_dget (hu_of hr) (pe_dget (hu_of hr) (pv 0) pe_str (fun _ _ => rfl)) (pv 4) (fun _ _ => rfl)) pe_int (fun _ _ => rfl)) (pv 1) (nomark _)))))) (pss_one (ps_expr (bmK K PySem.F.plainAttrs_list PySem.F.slot_list_append PySem.F.type_list_append mt_append (pv 3) (pa_cons (pe_ix (ixtK K) (pe_dget (hu_of hr) (pe_dget (hu_of hr) (pv 0) pe_str (fun _ _ => rfl)) (pv 4) (fun _ _ => rfl)) pe_int (fun _ _ => rfl)) pa_nil)))) pss_nil)))) (pss_one (ps_ret (pv 3))))), ?_⟩
  obtain ⟨b, S, par, but, rfl, h, wf, k⟩ := h
  have ln := wf.klen
  refine q_asgN (en_lst (ds := []) ea_nil le_lit) fun L vs H1 hL s1 h1 as => ?_
  cases as
  have hb1 := h.mono s1
  obtain ⟨kvs, hr', hk⟩ := hb1.rowsx
  obtain ⟨kvs0, hr0, _⟩ := h.rowsx
  have ek : kvs0 = kvs := by have z := s1 _ _ hr0; rw [hr'] at z; cases z; rfl
  subst ek
  have nL : L ≠ b.r := Ne.symm (ne_of_none hr0 hL)
  refine q_forK hr' hk (fun od => t_rows (hb1.lock hr' od) (ev_vr rfl)) (fun od i σ' H' => ∃ o : Option V, σ' = [some (.ref b.p), some (oiV par), some (oiV but), some (.ref L), o] ∧ Same (upd H b.r (.frz od (.dK kvs0))) H' ∧
      H' L = some (.lst ((((S.keys.take i).filter fun n => S.there n && (!decide (some n = but) && decide ((S.rw n).par = par))).map fun n => (S.rw n).nm).map V.str))) (fun od H2 s2 => ?_) (fun od i σ' H' p => ?_) (fun od i x σ' H' hx p => ?_) fun od σ' H' p => ?_
  · exact ⟨_, rfl, (same_upd s1).trans s2, s2 _ _ (by rw [upd_ne nL]; exact h1)⟩
  · obtain ⟨o, _, z, _⟩ := p; exact z _ _ upd_same
  · obtain ⟨o, rfl, p1, p2⟩ := p
    have rd := (h.lock hr0 od).mono p1
    have hxk : x ∈ S.keys := List.mem_of_getElem? hx
    have gx := get_rw hxk
    have lenb : ((((S.keys.take i).filter fun n => S.there n && (!decide (some n = but) && decide ((S.rw n).par = par))).map fun n => (S.rw n).nm).map V.str).length < 10000000 := by
      rw [List.length_map, List.length_map]
      refine Nat.lt_of_le_of_lt (List.length_filter_le _ _) ?_
      rw [List.length_take]; omega
    refine s_ifN (b := S.there x && (!decide (some x = but) && decide ((S.rw x).par = par))) (et_and (et_trB (t_thereI rd (ev_vr rfl) (ev_var rfl (.int x)))) fun _ => et_and (et_test (ev_ne (a := some x) (ev_var rfl (.int x)) (ev_vo rfl))) fun _ => et_test (ev_eq (t_par rd gx (ev_vr rfl) (ev_var rfl (.int x))) (ev_vo rfl))) (fun c H2 s2 => ?_) fun c H2 s2 => ?_
    · refine s_app (s2 _ _ p2) (ev_vr rfl) (t_nm (rd.mono s2) gx (ev_vr rfl) (ev_var rfl (.int x))) lenb fun v H3 s3 av => ?_
      cases av
      refine ⟨_, rfl, Same.mut ((p1.trans s2).trans s3) (by rw [upd_ne nL]; exact hL), ?_⟩
      rw [upd_same, take_more hx, List.filter_append, List.map_append, List.map_append, List.filter_cons, if_pos c]; rfl
    · refine ⟨_, rfl, p1.trans s2, ?_⟩
      rw [take_more hx, List.filter_append, List.filter_cons, if_neg (by rw [c]; decide), List.filter_nil, List.append_nil]
      exact s2 _ _ p2
  · obtain ⟨o, rfl, p1, p2⟩ := p
    rw [List.take_of_length_le (Nat.le_refl _), names_keys1 wf.nd] at p2
    have sb := lock_back hr0 p1
    refine s_ret (ev_vr rfl) fun v H2 s2 av => ?_
    cases av
    refine k L _ H2 hL (sb.trans s2) (s2 _ _ (by rw [upd_ne nL]; exact p2)) (ats_strs _)
theorem tn_names {par but : Option Int} {t1 t2 t3 : TE} (h : StAt H b S) (wf : S.Wf) (h1 : EvD t1 σ H (.ref b.p)) (h2 : EvD t2 σ H (oi par)) (h3 : EvD t3 σ H (oi but)) : EvN (tCallF (sp_law_names K) E (tCons t1 (tCons t2 (tCons t3 tNil)))) σ H ((S.names par but).map D.str) :=
  en_call (ea_cons h1 (ea_cons h2 (ea_cons h3 ea_nil))) fun vs H1 s as Q q => by
    cases as with | cons a1 as => cases as with | cons a2 as => cases as with | cons a3 as => cases as; cases a1; cases at_oi' a2; cases at_oi' a3; exact ⟨b, S, par, but, rfl, h.mono s, wf, q⟩
/-! ### _law_free -/
def sp_law_free (K : PySem.W.Frag) : Sp := fun vs H Q _ => ∃ (b : SA) (S : Stt) (par : Option Int) (nm : Str), vs = [.ref b.p, oiV par, .str nm] ∧ StAt H b S ∧ S.Wf ∧ nm.length ≤ 1000000 ∧ RetD (.str (freeNm nm (S.names par none))) H Q
theorem cands_is (nm : Str) (m : Nat) : ((((List.range ((m : Int) + 3 - 2).toNat).map fun i : Nat => (2 : Int) + (i : Int)).filter fun _ => true).map fun x : Int => D.str (cand nm x.toNat)) = ((List.range' 2 (m + 1)).map (cand nm)).map D.str := by
  rw [List.filter_eq_self.mpr (by simp), List.map_map, List.map_map, List.range'_eq_map_range, List.map_map]
  have e : ((m : Int) + 3 - 2).toNat = m + 1 := by omega
  rw [e]
  refine List.map_congr_left fun i _ => ?_
  show D.str (cand nm ((2 : Int) + (i : Int)).toNat) = D.str (cand nm (2 + i))
  rw [show ((2 : Int) + (i : Int)).toNat = 2 + i by omega]
theorem free_head (nm : Str) (tk : List Str) (hz : tk.length < 1000000) : ((nm :: (List.range' 2 (tk.length + 1)).map (cand nm)).filter fun x => !decide (x ∈ tk))[0]? = some (freeNm nm tk) := by
  rw [List.filter_cons]
  unfold freeNm
  by_cases c : nm ∈ tk
  · rw [if_neg (by simp [c]), if_pos c]
    exact cand_head nm tk _ 2 (free_ex nm tk hz)
  · rw [if_pos (by simp [c]), if_neg c]; rfl
theorem sc_law_free : FnScope ["_law_state", "_law_parent_here", "_law_name", "_law_taken", "_law_some", "_law_number_here", "_law_one"] ["_law_state", "_law_parent_here", "_law_name"] (defScope s_law_free) := ⟨rfl, rfl, rfl, by decide +kernel, rfl, by decide +kernel, by decide +kernel⟩
theorem ok_law_free (T : Tx K mg) : FnR P w K mg base (L2.CX P w) 3 (He.ga K "_law_free") (sp_law_free K) := by
  refine fnr (F_law_free T) sc_law_free (fun _ _ _ _ _ _ us hl => match us, hl with | [_, _, _], _ => rfl) (fun vs H Q E h => by obtain ⟨_, _, _, _, rfl, _⟩ := h; rfl) (fun cdv A outer s H vs Q E hr h => ?_)
  refine ⟨_, PSs.nox (pss_cons (ps_set (i := 3) sc_law_free.nd rfl (Or.inr rfl) (pe_callF (ok_law_names T) (hr.mono (by decide)) (T_law_names T).1 (T_law_names T).2 passL (pa_cons (pv 0) (pa_cons (pv 1) (pa_cons pe_non pa_nil))))) (pss_cons (ps_set (i := 4) sc_law_free.nd rfl (Or.inl rfl) (pe_op op_cat (pe_lst (pa_cons (pv 2) pa_nil)) (pe_lc (own := [("_law_number_here", 5)]) rfl sc_law_free.nd (pi_range2 rfl (T_range T) (pa_cons pe_int (pa_cons (pe_op op_add (pe_callB (lenK K) rfl (T_len T) bt_len (pa_cons (pv 3) pa_nil)) pe_int) pa_nil))) (blkOk_by (N := ["_law_state", "_law_parent_here", "_law_name", "_law_taken", "_law_some", "_law_number_here", "_law_one"]) (sc := defScope s_law_free) (by decide +kernel)) (fun _ _ _ _ _ => (pg_name (i := 5) sc_law_free.nd rfl (Or.inl rfl))) (fun _ _ _ _ _ => pts_nil) (fun _ _ _ _ _ => (pe_op op_add_str (pv 2) (pe_callTy call_str_int rfl (T_str T) bt_str (pa_cons (pv 5) pa_nil))))))) (pss_one (ps_ret (pe_ix (ixlK K) (pe_lc (own := [("_law_one", 6)]) rfl sc_law_free.nd (pilK K (pv 4)) (blkOk_by (N := ["_law_state", "_law_parent_here", "_law_name", "_law_taken", "_law_some", "_law_number_here", "_law_one"]) (sc := defScope s_law_free) (by decide +kernel)) (fun _ _ _ _ _ => (pg_name (i := 6) sc_law_free.nd rfl (Or.inl rfl))) (fun _ _ _ _ _ => (pts_one (pt_cmpR (niK K) (pv 6) (pv 3) rfl))) (fun _ _ _ _ _ => (pv 6))) pe_int (fun _ _ => rfl)))))), ?_⟩
  obtain ⟨b, S, par, nm, rfl, h, wf, ln, k⟩ := h
  have lt := names_len wf par none
  refine q_asgN (tn_names (but := none) h wf (ev_vr rfl) (ev_vo rfl) ev_non) fun L vs H1 hL s1 h1 as => ?_
  generalize htk : S.names par none = tk at as lt k
  refine q_asgN ((en_cat (ds := [D.str nm]) (es := ((List.range' 2 (tk.length + 1)).map (cand nm)).map D.str) ((en_lst (ea_cons (ev_vs rfl) ea_nil) le_lit).toD) ((en_lcR2 (lo := 2) (hi := (tk.length : Int) + 3) (fun _ => true) (fun x : Int => D.str (cand nm x.toNat)) (ea_cons ev_int (ea_cons (ev_add ((ev_lenL (ev_var rfl (.lst h1 as))).is (by rw [List.length_map])) ev_int) ea_nil)) (by omega) (fun _ => rfl) (fun _ => rfl) fun x x1 x2 G sg => ⟨et_yes, fun _ => ?_⟩).is (cands_is nm tk.length)).toD ?_).is (b := (nm :: (List.range' 2 (tk.length + 1)).map (cand nm)).map D.str) rfl) fun M ws H2 hM s2 h2 as2 => ?_
  · obtain ⟨j, rfl⟩ := Int.eq_ofNat_of_zero_le (show 0 ≤ x by omega)
    exact ev_cand (by omega) ln (ev_vs rfl) (ev_var rfl (.int _))
  · simp only [List.length_map, List.length_range', List.length_cons, List.length_nil]; omega
  · have as' := as.mono s2
    refine s_ret (ev_ixL (k := 0) (en_lc (nm :: (List.range' 2 (tk.length + 1)).map (cand nm)) D.str (fun x => !decide (x ∈ tk)) D.str (ev_var rfl (.lst h2 as2)) ?_ (fun _ _ => rfl) (fun _ => rfl) fun x hx v G sg av => ⟨et_test (ev_niS (ev_var rfl av) (ev_var rfl (.lst (sg _ _ (s2 _ _ h1)) (as'.mono sg)))), fun _ => ev_var rfl av⟩).toD ev_int rfl ?_) (k.mono (s1.trans s2))
    · simp only [List.length_map, List.length_range', List.length_cons]; omega
    · rw [List.getElem?_map, free_head nm tk (by omega)]; rfl
theorem t_free {par : Option Int} {nm : Str} {t1 t2 t3 : TE} (h : StAt H b S) (wf : S.Wf) (ln : nm.length ≤ 1000000) (h1 : EvD t1 σ H (.ref b.p)) (h2 : EvD t2 σ H (oi par)) (h3 : EvD t3 σ H (.str nm)) : EvD (tCallF (sp_law_free K) E (tCons t1 (tCons t2 (tCons t3 tNil)))) σ H (.str (freeNm nm (S.names par none))) :=
  ev_call (ea_cons h1 (ea_cons h2 (ea_cons h3 ea_nil))) fun vs H1 s as Q q => by
    cases as with | cons a1 as => cases as with | cons a2 as => cases as with | cons a3 as => cases as; cases a1; cases at_oi' a2; cases a3; exact ⟨b, S, par, nm, rfl, h.mono s, wf, ln, q⟩
end
end Ho

set_option Elab.async false
set_option linter.all false
set_option maxRecDepth 100000
set_option maxHeartbeats 4000000
/-! C3: what the law's own walk tells: a thing and all in it, signs, the shelf. -/
namespace Ho
open PySem PySem.Spec PyProof.Rows L2
section
variable {P : Program} {w : World} {K : PySem.W.Frag} {mg : Str → Option Value} {base : Heap} {σ : L2.St} {H H' : Hp} {ta tb te tx td tl : TE} {b : SA} {S S' : Stt} {E : XK} {De : Ends} {tz : TS}
theorem tn_srtRows (h : StRd H b S) (wf : S.Wf) (ho : EvD ta σ H (.ref b.p)) :
    EvN (tCB (fun xs H Q => ∃ (a : Addr) (kvs : List (Key × V)) (ks : List Int), xs = [.ref a] ∧ Rd H a (.dK kvs) ∧ kvs.map (·.1) = ks.map Sum.inl ∧ ks.length < 64 ∧ ∀ (ys : List Int) (p : Addr), ys.Perm ks → ys.Pairwise (· ≤ ·) → H p = none → Q (.ref p) (upd H p (.lst (ys.map V.int)))) (tCons (tDGet ta (tC (.str "rows"))) tNil)) σ H (S.keys.map D.int) :=
  en_srtD h.rows (by unfold rows4; rw [List.length_map]; exact wf.few) (fun out h1 h2 => sort_keys wf (by rw [keys4] at h1; exact h1) h2) (t_rows h ho)
/-! ### _law_within -/
def sp_law_within (K : PySem.W.Frag) : Sp := fun vs H Q _ => ∃ (b : SA) (S : Stt) (n : Int), vs = [.ref b.p, .int n] ∧ StRd H b S ∧ S.Wf ∧ S.Inv ∧ S.there n = true ∧ RetL ((S.within n).map D.int) H Q
def upTo (S : Stt) (n : Int) : Option Int → Prop
  | none => False
  | some y => S.Desc n y
theorem up_step {n y : Int} (ne : y ≠ n) : upTo S n (if S.thereO (some y) = true then (S.rw y).par else none) ↔ upTo S n (some y) := by
  by_cases c : S.thereO (some y) = true
  · rw [if_pos c]
    have hk := there_key c
    obtain ⟨r, e, m⟩ := there_get (S := S) (n := y) c
    constructor
    · intro z
      cases q : (S.rw y).par with
      | none => rw [q] at z; exact z.elim
      | some p =>
        rw [q] at z
        rw [rw_get e] at q
        exact .step e m q z
    · intro z
      obtain ⟨p, e1, e2⟩ := Stt.Desc.up z ne
      rw [e1]; exact e2
  · rw [if_neg c]
    exact ⟨fun z => z.elim, fun z => c (Stt.Desc.there z)⟩
/-- how far it is up -/
def upM (S : Stt) (d : Int → Nat) : Option Int → Nat
  | none => 0
  | some y => if S.there y = true then d y + 2 else 1
theorem upM_lt {d : Int → Nat} (hd : ∀ x r p, S.get x = some r → r.par = some p → p ∈ S.keys → r.mrk = S.mark p → r.mrk ≠ some x → d p < d x) (y : Int) : upM S d (if S.thereO (some y) = true then (S.rw y).par else none) < upM S d (some y) := by
  by_cases c : S.there y = true
  · rw [show S.thereO (some y) = S.there y from rfl, if_pos c]
    obtain ⟨r, e, m⟩ := there_get (S := S) (n := y) c
    show _ < (if S.there y = true then d y + 2 else 1)
    rw [if_pos c]
    cases q : (S.rw y).par with
    | none => show 0 < _; omega
    | some p =>
      show (if S.there p = true then d p + 2 else 1) < _
      by_cases c2 : S.there p = true
      · rw [if_pos c2]
        rw [rw_get e] at q
        have z := hd y r p e q (there_key c2) (by rw [m, there_mark c2]) (by rw [m]; intro z; cases z)
        omega
      · rw [if_neg c2]; omega
  · rw [show S.thereO (some y) = S.there y from rfl, if_neg c]
    show 0 < (if S.there y = true then d y + 2 else 1)
    rw [if_neg c]; omega
theorem sc_law_within : FnScope ["_law_state", "_law_number_here", "_law_found", "_law_one", "_law_here"] ["_law_state", "_law_number_here"] (defScope s_law_within) := ⟨rfl, rfl, rfl, by decide +kernel, rfl, by decide +kernel, by decide +kernel⟩
theorem ok_law_within (T : Tx K mg) : FnR P w K mg base (L2.CX P w) 2 (He.ga K "_law_within") (sp_law_within K) := by
  refine fnr (F_law_within T) sc_law_within (fun _ _ _ _ _ _ us hl => match us, hl with | [_, _], _ => rfl) (fun vs H Q E h => by obtain ⟨_, _, _, rfl, _⟩ := h; rfl) (fun cdv A outer s H vs Q E hr h => ?_)
  refine ⟨_, PSs.nox (pss_cons (ps_set (i := 2) sc_law_within.nd rfl (Or.inl rfl) (pe_lst pa_nil)) (pss_cons (ps_for PassesOwn.never rfl (pilK K (pe_callB (call_sortedDI rfl) rfl (T_sorted T) bt_sorted (pa_cons (pe_dget (hu_of hr) (pv 0) pe_str (fun _ _ => rfl)) pa_nil))) (pg_name (i := 3) sc_law_within.nd rfl (Or.inl rfl)) (pss_cons (ps_set (i := 4) sc_law_within.nd rfl (Or.inl rfl) (pv 3)) (pss_cons (ps_while PassesOwn.never (PW.pt (pw_and (pt_cmpR op_notN (pv 4) pe_non (nomark _)) (pw_and1 (pt_cmpR op_ne (pv 4) (pv 1) (nomark _))))) (pss_one (ps_set (i := 4) sc_law_within.nd rfl (Or.inl rfl) (pe_ifExp (truK K (pe_callF (ok_law_there T) (hr.mono (by decide)) (T_law_there T).1 (T_law_there T).2 passL (pa_cons (pv 0) (pa_cons (pv 4) pa_nil)))) (pe_ix (ixtK K) (pe_dget (hu_of hr) (pe_dget (hu_of hr) (pv 0) pe_str (fun _ _ => rfl)) (pv 4) (fun _ _ => rfl)) pe_int (fun _ _ => rfl)) pe_non)))) (pss_one (ps_if (PW.pt (pw_and (pt_cmpR op_eq (pv 4) (pv 1) (nomark _)) (pw_and1 (truK K (pe_callF (ok_law_there T) (hr.mono (by decide)) (T_law_there T).1 (T_law_there T).2 passL (pa_cons (pv 0) (pa_cons (pv 3) pa_nil))))))) (pss_one (ps_expr (bmK K PySem.F.plainAttrs_list PySem.F.slot_list_append PySem.F.type_list_append mt_append (pv 2) (pa_cons (pv 3) pa_nil)))) pss_nil))))) (pss_one (ps_ret (pv 2))))), ?_⟩
  obtain ⟨b, S, n, rfl, h, wf, inv, hn, k⟩ := h
  have ln := wf.klen
  obtain ⟨d, hd⟩ := inv.up
  refine q_asgN (en_lst (ds := []) ea_nil le_lit) fun L vs H1 hL s1 h1 as => ?_
  cases as
  have hb1 := h.mono s1
  refine q_forN (tn_srtRows hb1 wf (ev_vr rfl)) fun A ws H2 hA s2 h2 as2 => ?_
  have e := Ats.ints as2
  subst e
  have nAL : A ≠ L := Ne.symm (ne_of_none h1 hA)
  have memF : ∀ x, x ∈ S.within n ↔ S.Desc n x := fun x => mem_within
  refine ⟨fun i σ' H' => ∃ o3 o4 : Option V, σ' = [some (.ref b.p), some (.int n), some (.ref L), o3, o4] ∧ Same H H' ∧ H' A = some (.lst (S.keys.map V.int)) ∧ H' L = some (.lst (((S.keys.take i).filter fun x => decide (x ∈ S.within n)).map V.int)), ?_, fun i σ' H' p => ?_, fun i v σ' H' hv p => ?_, fun σ' H' p => ?_⟩
  · exact ⟨_, _, rfl, s1.trans s2, h2, s2 _ _ h1⟩
  · obtain ⟨_, _, _, _, z, _⟩ := p; exact z
  · obtain ⟨o3, o4, rfl, p1, p2, p3⟩ := p
    rw [List.getElem?_map] at hv
    obtain ⟨x, hx, ev⟩ := Option.map_eq_some_iff.mp hv
    subst ev
    refine q_asg (d := .int x) (ev_var rfl (.int x)) fun v H3 s3 av => ?_
    cases av
    refine q_while (fun m σ' H' => ∃ o : Option Int, σ' = [some (.ref b.p), some (.int n), some (.ref L), some (.int x), some (oiV o)] ∧ Same H3 H' ∧ (upTo S n o ↔ S.Desc n x) ∧ m = upM S d o) _ ⟨some x, rfl, Same.refl _, Iff.rfl, rfl⟩ fun m σ' H4 hw => ?_
    obtain ⟨o, rfl, s4, hi, rfl⟩ := hw
    have rd4 := h.mono ((p1.trans s3).trans s4)
    have lenb : (((S.keys.take i).filter fun x => decide (x ∈ S.within n)).map V.int).length < 10000000 := by
      rw [List.length_map]
      refine Nat.lt_of_le_of_lt (List.length_filter_le _ _) ?_
      rw [List.length_take]; omega
    refine ⟨_, et_and (et_test (ev_notN (ev_vo rfl))) fun _ => et_test (ev_ne (b := some n) (ev_vo rfl) (ev_vi rfl)), fun c H5 s5 => ?_, fun c H5 s5 => ?_⟩
    · cases o with
      | none => exact absurd c (by simp [oi, D.isN])
      | some y =>
        have ny : y ≠ n := fun z => by rw [z] at c; simp at c
        have rd5 := rd4.mono s5
        refine s_asg (d := oi (if S.thereO (some y) = true then (S.rw y).par else none)) (ev_if (et_trB (t_there (n := some y) rd5 (ev_vr rfl) (ev_vo rfl))) (fun q => ?_) fun q => ?_) fun v H6 s6 av => ?_
        · rw [if_pos q]
          exact t_par rd5 (get_rw (there_key q)) (ev_vr rfl) (ev_var rfl (.int y))
        · rw [if_neg (by rw [q]; decide)]
          exact ev_non
        · cases at_oi' av
          exact ⟨_, upM_lt hd y, _, rfl, (s4.trans s5).trans s6, (up_step ny).trans hi, rfl⟩
    · have rd5 := rd4.mono s5
      have key : (decide (o = some n) && S.there x) = decide (x ∈ S.within n) := by
        rw [Bool.eq_iff_iff, Bool.and_eq_true, decide_eq_true_eq, decide_eq_true_eq, memF, ← hi]
        cases o with
        | none => exact ⟨fun z => (nomatch z.1), fun z => z.elim⟩
        | some y =>
          have ey : y = n := by simpa [oi, D.isN] using c
          subst ey
          refine ⟨fun _ => .self hn, fun z => ⟨rfl, (hi.mp z).there⟩⟩
      refine s_ifN (b := decide (x ∈ S.within n)) (cond_and (et_test (ev_eq (b := some n) (ev_vo rfl) (ev_vi rfl))) (fun _ => et_trB (t_thereI rd5 (ev_vr rfl) (ev_var rfl (.int x)))) key) (fun c H6 s6 => ?_) fun c H6 s6 => ?_
      · have s36 := (s4.trans s5).trans s6
        refine s_app (s36 _ _ (s3 _ _ p3)) (ev_vr rfl) (ev_var rfl (.int x)) lenb fun v H7 s7 av => ?_
        cases av
        refine ⟨_, _, rfl, Same.mut (((p1.trans s3).trans s36).trans s7) hL, ?_, ?_⟩
        · rw [upd_ne nAL]; exact s7 _ _ (s36 _ _ (s3 _ _ p2))
        · rw [upd_same, take_more hx, List.filter_append, List.map_append, List.filter_cons, if_pos c]; rfl
      · have s36 := (s4.trans s5).trans s6
        refine ⟨_, _, rfl, (p1.trans s3).trans s36, s36 _ _ (s3 _ _ p2), ?_⟩
        rw [take_more hx, List.filter_append, List.filter_cons, if_neg (by rw [c]; decide), List.filter_nil, List.append_nil]
        exact s36 _ _ (s3 _ _ p3)
  · obtain ⟨o3, o4, rfl, p1, p2, p3⟩ := p
    rw [List.take_of_length_le (by rw [List.length_map]; exact Nat.le_refl _)] at p3
    have e : S.keys.filter (fun x => decide (x ∈ S.within n)) = S.within n := by
      conv => rhs; unfold Stt.within
      refine List.filter_congr fun x hx => ?_
      by_cases d : S.Desc n x
      · simp [d, (memF x).mpr d]
      · have nw : x ∉ S.within n := fun z => d ((memF x).mp z)
        simp [d, nw]
    rw [e] at p3
    refine s_ret (ev_vr rfl) fun v H3 s3 av => ?_
    cases av
    exact k L _ H3 hL (p1.trans s3) (s3 _ _ p3) (ats_ints _)
theorem tn_within {n : Int} {t1 t2 : TE} (h : StRd H b S) (wf : S.Wf) (inv : S.Inv) (hn : S.there n = true) (h1 : EvD t1 σ H (.ref b.p)) (h2 : EvD t2 σ H (.int n)) : EvN (tCallF (sp_law_within K) E (tCons t1 (tCons t2 tNil))) σ H ((S.within n).map D.int) :=
  en_call (ea_cons h1 (ea_cons h2 ea_nil)) fun vs H1 s as Q q => by
    cases as with | cons a1 as => cases as with | cons a2 as => cases as; cases a1; cases a2; exact ⟨b, S, n, rfl, h.mono s, wf, inv, hn, q⟩
/-! ### _law_used -/
theorem ev_len0 {ta : TE} {r : Rw} (h : EvD ta σ H (os r.tx)) (hl : ∀ t, r.tx = some t → t.length ≤ 100000) : EvD (tCB rLenStr (tCons (tOrT K ta (tC (.str ""))) tNil)) σ H (.int (Stt.txLen r)) := by
  obtain ⟨r1, r2, tx, r4⟩ := r
  dsimp only at h hl
  have hs : (os tx).strOk := by
    cases tx with
    | none => trivial
    | some t => exact Nat.le_trans (hl t rfl) (by decide)
  cases tx with
  | none => exact (ev_lenS (z := "") ((ev_orT h hs fun _ => ev_str).is rfl) (by decide)).is rfl
  | some t =>
    by_cases c : t.length = 0
    · have e : t = "" := by
        have z : t.cps.size = 0 := c
        cases t with | mk cps => ?_
        exact congrArg Str.mk (Array.eq_empty_of_size_eq_zero z)
      subst e
      exact (ev_lenS (z := "") ((ev_orT h hs fun _ => ev_str).is rfl) (by decide)).is rfl
    · refine (ev_lenS (z := t) ((ev_orT (e := .str "") h hs fun _ => ev_str).is ?_) (Nat.le_trans (hl t rfl) (by decide))).is rfl
      have z : (os (some t)).tru = true := by
        show ((t.length : Int) != 0) = true
        simp [c]
      rw [z]; rfl
theorem t_sign {n : Int} {r : Rw} {t1 t2 : TE} (h : StRd H b S) (wf : S.Wf) (e : S.get n = some r) (ho : EvD t1 σ H (.ref b.p)) (hn : EvD t2 σ H (.int n)) :
    EvD (tCB rLenStr (tCons (tOrT K (tOp (rIxT K) (tDGet (tDGet t1 (tC (.str "rows"))) t2) (tC (.int 2))) (tC (.str ""))) tNil)) σ H (.int (Stt.txLen r)) :=
  ev_len0 (t_tx h e ho hn) fun t ht => wf.txl _ (row_get e) t ht
def sp_law_used (K : PySem.W.Frag) : Sp := fun vs H Q _ => ∃ (b : SA) (S : Stt), vs = [.ref b.p] ∧ StAt H b S ∧ S.Wf ∧ RetD (.int S.used) H Q
theorem sc_law_used : FnScope ["_law_state", "_law_one"] ["_law_state"] (defScope s_law_used) := ⟨rfl, rfl, rfl, by decide +kernel, rfl, by decide +kernel, by decide +kernel⟩
theorem ok_law_used (T : Tx K mg) : FnR P w K mg base (L2.CX P w) 1 (He.ga K "_law_used") (sp_law_used K) := by
  refine fnr (F_law_used T) sc_law_used (fun _ _ _ _ _ _ us hl => match us, hl with | [_], _ => rfl) (fun vs H Q E h => by obtain ⟨_, _, rfl, _⟩ := h; rfl) (fun cdv A outer s H vs Q E hr h => ?_)
  refine ⟨_, PSs.nox (pss_one (ps_ret (pe_callB (sumK K) rfl (T_sum T) bt_sum (pa_cons (pe_lock (pe_lc (own := [("_law_one", 1)]) rfl sc_law_used.nd (pi_keys (pe_dget (hu_of hr) (pv 0) pe_str (fun _ _ => rfl))) (blkOk_by (N := ["_law_state", "_law_one"]) (sc := defScope s_law_used) (by decide +kernel)) (fun _ _ _ _ _ => (pg_name (i := 1) sc_law_used.nd rfl (Or.inl rfl))) (fun _ _ _ _ _ => pts_nil) (fun _ _ _ _ _ => (pe_callB lenStrK rfl (T_len T) bt_len (pa_cons (orTK K (pe_ix (ixtK K) (pe_dget (hu_of hr) (pe_dget (hu_of hr) (pv 0) pe_str (fun _ _ => rfl)) (pv 1) (fun _ _ => rfl)) pe_int (fun _ _ => rfl)) (pe_one pe_str)) pa_nil))))) pa_nil)))), ?_⟩
  obtain ⟨b, S, rfl, h, wf, k⟩ := h
  have ln := wf.klen
  obtain ⟨kvs, hr', hk⟩ := h.rowsx
  refine s_ret ((ev_sum (ns := S.keys.map fun n => Stt.txLen (S.rw n)) ((en_lcK (fun _ => true) (fun n => .int (Stt.txLen (S.rw n))) hr' hk (fun od => t_rows (h.lock hr' od) (ev_vr rfl)) (by omega) (fun _ _ => rfl) (fun _ => rfl) fun x hx od H1 s => ⟨et_yes, fun _ => t_sign ((h.lock hr' od).mono s) wf (get_rw hx) (ev_vr rfl) (ev_var rfl (.int x))⟩).toD.is (by rw [List.filter_eq_self.mpr (by simp), List.map_map]; rfl))).is (by rw [used_keys wf])) k
theorem t_used {t1 : TE} (h : StAt H b S) (wf : S.Wf) (h1 : EvD t1 σ H (.ref b.p)) : EvD (tCallF (sp_law_used K) E (tCons t1 tNil)) σ H (.int S.used) :=
  ev_call (ea_cons h1 ea_nil) fun vs H1 s as Q q => by
    cases as with | cons a1 as => cases as; cases a1; exact ⟨b, S, rfl, h.mono s, wf, q⟩
end
end Ho

set_option Elab.async false
set_option linter.all false
set_option maxRecDepth 100000
set_option maxHeartbeats 4000000
/-! C4: the law's shelf; numbers, parents, letters that are drawn. -/
namespace Ho
open PySem PySem.Spec PyProof.Rows L2
section
variable {P : Program} {w : World} {K : PySem.W.Frag} {mg : Str → Option Value} {base : Heap} {σ : L2.St} {H H' : Hp} {ta tb te tx td tl : TE} {b : SA} {S S' : Stt} {E : XK} {De : Ends} {tz : TS}
/-! ### _law_shelf -/
def shD (S : Stt) (c : Int × Int) : D := .tup [.int c.1, .str (S.rw c.1).nm, .int (c.2 + S.keep), .int (S.many c.1)]
theorem shD_nl (c : Int × Int) : (shD S c).nl = true := rfl
end
end Ho

set_option Elab.async false
set_option linter.all false
set_option maxRecDepth 100000
set_option maxHeartbeats 4000000
/-! C5: numbers, parents, letters that are drawn. -/
namespace Ho
open PySem PySem.Spec PyProof.Rows L2
section
variable {P : Program} {w : World} {K : PySem.W.Frag} {mg : Str → Option Value} {base : Heap} {σ : L2.St} {H H' : Hp} {ta tb te tx td tl : TE} {b : SA} {S S' : Stt} {E : XK} {De : Ends} {tz : TS}
/-! ### _law_number, _law_parent -/
def thereL (S : Stt) : List Int := S.keys.filter S.there
def boxL (S : Stt) : List Int := S.keys.filter fun n => S.there n && (S.rw n).tx.isNone
def numI (S : Stt) (c : Int) : Int := if (!(thereL S).isEmpty && decide (0 < mixI c 9973 6)) = true then (thereL S).getD (mixI c 9967 (thereL S).length).toNat 0 else mixI c 9949 (S.count + 3)
def parI (S : Stt) (c : Int) : Option Int := if (!(boxL S).isEmpty && decide (0 < mixI c 9941 3)) = true then some ((boxL S).getD (mixI c 9931 (boxL S).length).toNat 0) else [none, none, none, some (numI S c)].getD (mixI c 9929 4).toNat none
theorem getD_at {l : List Int} {i : Int} (h : 0 ≤ i ∧ i < l.length) : i = ((i.toNat : Nat) : Int) ∧ (l.map D.int)[i.toNat]? = some (.int (l.getD i.toNat 0)) := by
  have z : i.toNat < l.length := by omega
  refine ⟨by omega, ?_⟩
  rw [List.getElem?_map, List.getD_eq_getElem?_getD, List.getElem?_eq_getElem z]; rfl
def sp_law_number (K : PySem.W.Frag) : Sp := fun vs H Q _ => ∃ (b : SA) (S : Stt) (c : Int), vs = [.int c, .ref b.p] ∧ StRd H b S ∧ S.Wf ∧ 0 ≤ S.count ∧ RetD (.int (numI S c)) H Q
theorem ev_pick {l : List Int} {c p : Int} {L : Addr} (hL : H L = some (.lst (l.map V.int))) (hp : 0 < p ∧ p < 1000000) (hl : l ≠ []) (h0 : EvD ta σ H (.int c)) (hv : EvD tb σ H (.ref L)) :
    EvD (tOp (rIxL K) tb (tCallF (sp_law_mix K) E (tCons ta (tCons (tC (.int p)) (tCons (tCB (rLenS K) (tCons tb tNil)) tNil))))) σ H (.int (l.getD (mixI c p l.length).toNat 0)) := by
  have lp : (0 : Int) < l.length := by
    have := List.length_pos_iff.mpr hl
    omega
  have hv' : EvD tb σ H (.lst (l.map D.int)) := fun H1 s Q q => hv H1 s _ fun v H2 s2 av => by
    cases av
    exact q _ H2 s2 (.lst ((s.trans s2) _ _ hL) (ats_ints l))
  obtain ⟨e1, e2⟩ := getD_at (l := l) (mix_lt (c := c) (p := p) lp)
  exact ev_ixL hv' (e_mix h0 ev_int ((ev_lenL hv').is (by rw [List.length_map])) hp lp) e1 e2
theorem isE_ne {l : List Int} (h : (!(l.map D.int).isEmpty) = true) : l ≠ [] := fun z => by rw [z] at h; cases h
theorem sc_law_number : FnScope ["_law_cell_here", "_law_state", "_law_there_here", "_law_one"] ["_law_cell_here", "_law_state"] (defScope s_law_number) := ⟨rfl, rfl, rfl, by decide +kernel, rfl, by decide +kernel, by decide +kernel⟩
theorem ok_law_number (T : Tx K mg) : FnR P w K mg base (L2.CX P w) 2 (He.ga K "_law_number") (sp_law_number K) := by
  refine fnr (F_law_number T) sc_law_number (fun _ _ _ _ _ _ us hl => match us, hl with | [_, _], _ => rfl) (fun vs H Q E h => by obtain ⟨_, _, _, rfl, _⟩ := h; rfl) (fun cdv A outer s H vs Q E hr h => ?_)
  refine ⟨_, PSs.nox (pss_cons (ps_setLc (own := [("_law_one", 3)]) (i := 2) rfl sc_law_number.nd rfl rfl (sw_true rfl rfl rfl (by decide +kernel)) (pilK K (pe_callB (call_sortedDI rfl) rfl (T_sorted T) bt_sorted (pa_cons (pe_dget (hu_of hr) (pv 1) pe_str (fun _ _ => rfl)) pa_nil))) (blkOk_by (N := ["_law_cell_here", "_law_state", "_law_there_here", "_law_one"]) (sc := defScope s_law_number) (by decide +kernel)) (fun _ _ _ _ _ => (pg_name (i := 3) sc_law_number.nd rfl (Or.inl rfl))) (fun _ _ _ _ _ => (pts_one (truK K (pe_callF (ok_law_there T) (hr.mono (by decide)) (T_law_there T).1 (T_law_there T).2 passL (pa_cons (pv 1) (pa_cons (pv 3) pa_nil)))))) (fun _ _ _ _ _ => (pv 3))) (pss_cons (ps_if (PW.pt (pw_and (truK K (pv 2)) (pw_and1 (pt_cmpR op_gt (pe_callF (ok_law_mix T) (hr.mono (by decide)) (T_law_mix T).1 (T_law_mix T).2 passL (pa_cons (pv 0) (pa_cons pe_int (pa_cons pe_int pa_nil)))) pe_int (nomark _))))) (pss_one (ps_ret (pe_ix (ixlK K) (pv 2) (pe_callF (ok_law_mix T) (hr.mono (by decide)) (T_law_mix T).1 (T_law_mix T).2 passL (pa_cons (pv 0) (pa_cons pe_int (pa_cons (pe_callB (lenK K) rfl (T_len T) bt_len (pa_cons (pv 2) pa_nil)) pa_nil)))) (fun _ _ => rfl)))) pss_nil) (pss_one (ps_ret (pe_callF (ok_law_mix T) (hr.mono (by decide)) (T_law_mix T).1 (T_law_mix T).2 passL (pa_cons (pv 0) (pa_cons pe_int (pa_cons (pe_op op_add (pe_dget (hu_of hr) (pv 1) pe_str (fun _ _ => rfl)) pe_int) pa_nil)))))))), ?_⟩
  obtain ⟨b, S, c, rfl, h, wf, c0, k⟩ := h
  have ln := wf.klen
  refine q_asgN (en_lc S.keys D.int S.there D.int (tn_srtRows h wf (ev_vr rfl)).toD (by omega) (fun _ _ => rfl) (fun _ => rfl) fun n hn v G sg av => ?_) fun L vs H1 hL s1 h1 as => ?_
  · cases av
    exact ⟨et_trB (t_thereI (K := K) (h.mono sg) (ev_vr rfl) (ev_var rfl (.int n))), fun _ => ev_var rfl (.int n)⟩
  have e := Ats.ints (ns := thereL S) as
  subst e
  have h' := h.mono s1
  have tm : ∀ l : List Int, (l.map D.int).isEmpty = l.isEmpty := fun l => by cases l <;> rfl
  refine q_ifN (b := !(thereL S).isEmpty && decide (0 < mixI c 9973 6)) (cond_and (et_tru (d := .lst ((thereL S).map D.int)) (ev_var rfl (.lst h1 (ats_ints _))) trivial) (fun _ => et_test (ev_gt (e_mix (ev_vi rfl) ev_int ev_int (by decide) (by decide)) ev_int)) (by rw [show D.tru (.lst ((thereL S).map D.int)) = !((thereL S).map D.int).isEmpty from rfl, tm])) (fun q H2 s2 => ?_) fun q H2 s2 => ?_
  · have q' := q
    rw [Bool.and_eq_true] at q
    have ne : thereL S ≠ [] := fun z => by rw [z] at q; simp at q
    refine s_ret ((ev_pick (s2 _ _ h1) (by decide) ne (ev_vi rfl) (ev_vr rfl)).is ?_) (k.mono (s1.trans s2))
    unfold numI
    rw [if_pos q']
  · refine s_ret ((e_mix (ev_vi rfl) ev_int (ev_add (t_count (h'.mono s2) (ev_vr rfl)) ev_int) (by decide) (by omega)).is ?_) (k.mono (s1.trans s2))
    unfold numI
    rw [if_neg (by rw [q]; decide)]
theorem t_number {c : Int} {t1 t2 : TE} (h : StRd H b S) (wf : S.Wf) (c0 : 0 ≤ S.count) (h1 : EvD t1 σ H (.int c)) (h2 : EvD t2 σ H (.ref b.p)) : EvD (tCallF (sp_law_number K) E (tCons t1 (tCons t2 tNil))) σ H (.int (numI S c)) :=
  ev_call (ea_cons h1 (ea_cons h2 ea_nil)) fun vs H1 s as Q q => by
    cases as with | cons a1 as => cases as with | cons a2 as => cases as; cases a1; cases a2; exact ⟨b, S, c, rfl, h.mono s, wf, c0, q⟩
def sp_law_parent (K : PySem.W.Frag) : Sp := fun vs H Q _ => ∃ (b : SA) (S : Stt) (c : Int), vs = [.int c, .ref b.p] ∧ StRd H b S ∧ S.Wf ∧ 0 ≤ S.count ∧ RetD (oi (parI S c)) H Q
theorem sc_law_parent : FnScope ["_law_cell_here", "_law_state", "_law_boxes", "_law_one"] ["_law_cell_here", "_law_state"] (defScope s_law_parent) := ⟨rfl, rfl, rfl, by decide +kernel, rfl, by decide +kernel, by decide +kernel⟩
theorem ok_law_parent (T : Tx K mg) : FnR P w K mg base (L2.CX P w) 3 (He.ga K "_law_parent") (sp_law_parent K) := by
  refine fnr (F_law_parent T) sc_law_parent (fun _ _ _ _ _ _ us hl => match us, hl with | [_, _], _ => rfl) (fun vs H Q E h => by obtain ⟨_, _, _, rfl, _⟩ := h; rfl) (fun cdv A outer s H vs Q E hr h => ?_)
  refine ⟨_, PSs.nox (pss_cons (ps_setLc (own := [("_law_one", 3)]) (i := 2) rfl sc_law_parent.nd rfl rfl (sw_true rfl rfl rfl (by decide +kernel)) (pilK K (pe_callB (call_sortedDI rfl) rfl (T_sorted T) bt_sorted (pa_cons (pe_dget (hu_of hr) (pv 1) pe_str (fun _ _ => rfl)) pa_nil))) (blkOk_by (N := ["_law_cell_here", "_law_state", "_law_boxes", "_law_one"]) (sc := defScope s_law_parent) (by decide +kernel)) (fun _ _ _ _ _ => (pg_name (i := 3) sc_law_parent.nd rfl (Or.inl rfl))) (fun _ _ _ _ _ => (pts_one (PW.pt (pw_and (truK K (pe_callF (ok_law_there T) (hr.mono (by decide)) (T_law_there T).1 (T_law_there T).2 passL (pa_cons (pv 1) (pa_cons (pv 3) pa_nil)))) (pw_and1 (pt_cmpR op_isN (pe_ix (ixtK K) (pe_dget (hu_of hr) (pe_dget (hu_of hr) (pv 1) pe_str (fun _ _ => rfl)) (pv 3) (fun _ _ => rfl)) pe_int (fun _ _ => rfl)) pe_non (nomark _))))))) (fun _ _ _ _ _ => (pv 3))) (pss_cons (ps_if (PW.pt (pw_and (truK K (pv 2)) (pw_and1 (pt_cmpR op_gt (pe_callF (ok_law_mix T) (hr.mono (by decide)) (T_law_mix T).1 (T_law_mix T).2 passL (pa_cons (pv 0) (pa_cons pe_int (pa_cons pe_int pa_nil)))) pe_int (nomark _))))) (pss_one (ps_ret (pe_ix (ixlK K) (pv 2) (pe_callF (ok_law_mix T) (hr.mono (by decide)) (T_law_mix T).1 (T_law_mix T).2 passL (pa_cons (pv 0) (pa_cons pe_int (pa_cons (pe_callB (lenK K) rfl (T_len T) bt_len (pa_cons (pv 2) pa_nil)) pa_nil)))) (fun _ _ => rfl)))) pss_nil) (pss_one (ps_ret (pe_ix (ixtK K) (pe_tup (pa_cons pe_non (pa_cons pe_non (pa_cons pe_non (pa_cons (pe_callF (ok_law_number T) (hr.mono (by decide)) (T_law_number T).1 (T_law_number T).2 passL (pa_cons (pv 0) (pa_cons (pv 1) pa_nil))) pa_nil))))) (pe_callF (ok_law_mix T) (hr.mono (by decide)) (T_law_mix T).1 (T_law_mix T).2 passL (pa_cons (pv 0) (pa_cons pe_int (pa_cons pe_int pa_nil)))) (fun _ _ => rfl)))))), ?_⟩
  obtain ⟨b, S, c, rfl, h, wf, c0, k⟩ := h
  have ln := wf.klen
  refine q_asgN (en_lc S.keys D.int (fun n => S.there n && (S.rw n).tx.isNone) D.int (tn_srtRows h wf (ev_vr rfl)).toD (by omega) (fun _ _ => rfl) (fun _ => rfl) fun n hn v G sg av => ?_) fun L vs H1 hL s1 h1 as => ?_
  · cases av
    exact ⟨cond_and (et_trB (t_thereI (K := K) (h.mono sg) (ev_vr rfl) (ev_var rfl (.int n)))) (fun _ => et_test (ev_isN (t_tx (h.mono sg) (get_rw hn) (ev_vr rfl) (ev_var rfl (.int n))))) (by rw [os_isN]), fun _ => ev_var rfl (.int n)⟩
  have e := Ats.ints (ns := boxL S) as
  subst e
  have h' := h.mono s1
  have tm : ∀ l : List Int, (l.map D.int).isEmpty = l.isEmpty := fun l => by cases l <;> rfl
  refine q_ifN (b := !(boxL S).isEmpty && decide (0 < mixI c 9941 3)) (cond_and (et_tru (d := .lst ((boxL S).map D.int)) (ev_var rfl (.lst h1 (ats_ints _))) trivial) (fun _ => et_test (ev_gt (e_mix (ev_vi rfl) ev_int ev_int (by decide) (by decide)) ev_int)) (by rw [show D.tru (.lst ((boxL S).map D.int)) = !((boxL S).map D.int).isEmpty from rfl, tm])) (fun q H2 s2 => ?_) fun q H2 s2 => ?_
  · have q' := q
    rw [Bool.and_eq_true] at q
    have ne : boxL S ≠ [] := fun z => by rw [z] at q; simp at q
    refine s_ret ((ev_pick (s2 _ _ h1) (by decide) ne (ev_vi rfl) (ev_vr rfl)).is ?_) (k.mono (s1.trans s2))
    unfold parI
    rw [if_pos q']; rfl
  · have m := mix_lt (c := c) (p := 9929) (m := 4) (by decide)
    refine s_ret ((ev_ixTe (ev_tup (ea_cons ev_non (ea_cons ev_non (ea_cons ev_non (ea_cons (t_number (c := c) (h'.mono s2) wf c0 (ev_vi rfl) (ev_vr rfl)) ea_nil)))) le_lit) (e_mix (c := c) (ev_vi rfl) ev_int ev_int (by decide) (by decide)) (k := (mixI c 9929 4).toNat) (by omega) (d := oi ([none, none, none, some (numI S c)].getD (mixI c 9929 4).toNat none)) ?_).is ?_) (k.mono (s1.trans s2))
    · have lt : (mixI c 9929 4).toNat < 4 := by omega
      generalize (mixI c 9929 4).toNat = j at lt
      match j, lt with
      | 0, _ => rfl
      | 1, _ => rfl
      | 2, _ => rfl
      | 3, _ => rfl
    · unfold parI
      rw [if_neg (by rw [q]; decide)]
theorem t_parent {c : Int} {t1 t2 : TE} (h : StRd H b S) (wf : S.Wf) (c0 : 0 ≤ S.count) (h1 : EvD t1 σ H (.int c)) (h2 : EvD t2 σ H (.ref b.p)) : EvD (tCallF (sp_law_parent K) E (tCons t1 (tCons t2 tNil))) σ H (oi (parI S c)) :=
  ev_call (ea_cons h1 (ea_cons h2 ea_nil)) fun vs H1 s as Q q => by
    cases as with | cons a1 as => cases as with | cons a2 as => cases as; cases a1; cases a2; exact ⟨b, S, c, rfl, h.mono s, wf, c0, q⟩
/-! ### _law_letters -/
def abc : Str := "abcdefghijklmnopqrstuvwxyz"
def ltr (i : Int) : Str := ⟨#[abc.cps.toList.getD i.toNat 0]⟩
def ltrs (c : Int) (m : Nat) : Str := Txt.join "" ((List.range m).map fun k : Nat => ltr (mixI (c + 7 * (k : Int)) 9829 26))
theorem ltrs_len (c : Int) (m : Nat) : (ltrs c m).length ≤ m := by
  have z := PySem.StrLaws.join_length_le "" ((List.range m).map fun k : Nat => ltr (mixI (c + 7 * (k : Int)) 9829 26))
  have e : (((List.range m).map fun k : Nat => ltr (mixI (c + 7 * (k : Int)) 9829 26)).map (·.length)).sum = m := by
    rw [List.map_map]
    have : ((fun x : Str => x.length) ∘ fun k : Nat => ltr (mixI (c + 7 * (k : Int)) 9829 26)) = fun _ => 1 := by funext k; rfl
    rw [this, List.map_const', List.length_range, List.sum_replicate_nat, Nat.mul_one]
  have e0 : ("" : Str).length = 0 := rfl
  rw [e, e0, Nat.mul_zero, Nat.add_zero] at z
  show (PySem.Builtin.Str.glued "" _).length ≤ m
  rw [PySem.StrLaws.glued_eq_join]
  exact z
def sp_law_letters (K : PySem.W.Frag) : Sp := fun vs H Q _ => ∃ (c : Int) (m : Nat), vs = [.int c, .int m] ∧ m ≤ 100 ∧ RetD (.str (ltrs c m)) H Q
theorem sc_law_letters : FnScope ["_law_cell_here", "_law_many", "_law_letters_here", "_law_k"] ["_law_cell_here", "_law_many"] (defScope s_law_letters) := ⟨rfl, rfl, rfl, by decide +kernel, rfl, by decide +kernel, by decide +kernel⟩
theorem ok_law_letters (T : Tx K mg) : FnR P w K mg base (L2.CX P w) 2 (He.ga K "_law_letters") (sp_law_letters K) := by
  refine fnr (F_law_letters T) sc_law_letters (fun _ _ _ _ _ _ us hl => match us, hl with | [_, _], _ => rfl) (fun vs H Q E h => by obtain ⟨_, _, rfl, _⟩ := h; rfl) (fun cdv A outer s H vs Q E hr h => ?_)
  refine ⟨_, PSs.nox (pss_cons (ps_set (i := 2) sc_law_letters.nd rfl (Or.inr rfl) pe_str) (pss_one (ps_ret (bmK K PySem.F.plainAttrs_str PySem.F.slot_str_join PySem.F.type_str_join mt_join pe_str (pa_cons (pe_lc (own := [("_law_k", 3)]) rfl sc_law_letters.nd (pi_range1 rfl (T_range T) (pa_cons (pv 1) pa_nil)) (blkOk_by (N := ["_law_cell_here", "_law_many", "_law_letters_here", "_law_k"]) (sc := defScope s_law_letters) (by decide +kernel)) (fun _ _ _ _ _ => (pg_name (i := 3) sc_law_letters.nd rfl (Or.inl rfl))) (fun _ _ _ _ _ => pts_nil) (fun _ _ _ _ _ => (pe_ix ix_str (pv 2) (pe_callF (ok_law_mix T) (hr.mono (by decide)) (T_law_mix T).1 (T_law_mix T).2 passL (pa_cons (pe_op op_add (pv 0) (pe_op op_mul pe_int (pv 3))) (pa_cons pe_int (pa_cons pe_int pa_nil)))) (fun _ _ => rfl)))) pa_nil))))), ?_⟩
  obtain ⟨c, m, rfl, hm, k⟩ := h
  refine q_asg (d := .str abc) ev_str fun v H1 s1 av => ?_
  cases av
  refine (show EvD _ _ _ (.str (ltrs c m)) from fun H2 s2 Q2 q2 => ?_) H1 (Same.refl H1) _ fun v H3 s3 av => k v H3 (s1.trans s3) av
  refine (show tBM K "str" _ (tC (.str "")) (tCons _ tNil) _ H2 Q2 from ⟨rfl, ?_⟩)
  refine (en_lcR1 (hi := (m : Int)) (fun _ => true) (fun x => D.str (ltr (mixI (c + 7 * x) 9829 26))) (ea_cons (ev_vi rfl) ea_nil) (by omega) (fun _ => rfl) (fun _ => rfl) fun n n1 n2 G sg => ⟨et_yes, fun _ => ?_⟩) H2 s2 _ fun p vs H3 hp s3 h3 as => ?_
  · have mm := mix_lt (c := c + 7 * n) (p := 9829) (m := 26) (by decide)
    refine ev_op (d := .str abc) (e := .int (mixI (c + 7 * n) 9829 26)) (ev_vs rfl) (e_mix (K := K) (ev_add (ev_vi rfl) (ev_mul ev_int (ev_var rfl (.int n)) (.inl (by decide)))) ev_int ev_int (by decide) (by decide)) fun x y G2 _ ax ay Q3 q3 => ?_
    cases ax; cases ay
    refine ⟨abc, _, abc.cps.toList.getD (mixI (c + 7 * n) 9829 26).toNat 0, rfl, rfl, by decide, ?_, q3 _ G2 (Same.refl _) (.str _)⟩
    have lt : (mixI (c + 7 * n) 9829 26).toNat < abc.cps.toList.length := by
      have : abc.cps.toList.length = 26 := by decide
      omega
    have e : mixI (c + 7 * n) 9829 26 = (((mixI (c + 7 * n) 9829 26).toNat : Nat) : Int) := by omega
    rw [e]
    refine atI_nat ?_
    rw [Int.toNat_natCast, List.getElem?_eq_getElem lt, List.getD_eq_getElem?_getD, List.getElem?_eq_getElem lt]; rfl
  · have e : ((((List.range ((m : Int)).toNat).map fun i : Nat => (i : Int)).filter fun _ => true).map fun x => D.str (ltr (mixI (c + 7 * x) 9829 26))) = ((List.range m).map fun k : Nat => ltr (mixI (c + 7 * (k : Int)) 9829 26)).map D.str := by
      rw [List.filter_eq_self.mpr (by simp), List.map_map, List.map_map, Int.toNat_natCast]; rfl
    rw [e] at as
    have ev := as.strs
    subst ev
    refine ⟨"", p, _, rfl, rfl, .inl (SqL.of h3), ?_, q2 _ H3 s3 (.str _)⟩
    have e1 : (((List.range m).map fun k : Nat => ltr (mixI (c + 7 * (k : Int)) 9829 26)).map (·.length)).sum = m := by
      rw [List.map_map]
      have : ((fun x : Str => x.length) ∘ fun k : Nat => ltr (mixI (c + 7 * (k : Int)) 9829 26)) = fun _ => 1 := by funext k; rfl
      rw [this, List.map_const', List.length_range, List.sum_replicate_nat, Nat.mul_one]
    rw [e1]
    show m + _ * 0 ≤ _
    omega
theorem t_letters {c : Int} {m : Nat} {t1 t2 : TE} (hm : m ≤ 100) (h1 : EvD t1 σ H (.int c)) (h2 : EvD t2 σ H (.int m)) : EvD (tCallF (sp_law_letters K) E (tCons t1 (tCons t2 tNil))) σ H (.str (ltrs c m)) :=
  ev_call (ea_cons h1 (ea_cons h2 ea_nil)) fun vs H1 s as Q q => by
    cases as with | cons a1 as => cases as with | cons a2 as => cases as; cases a1; cases a2; exact ⟨c, m, rfl, hm, q⟩
end
end Ho

set_option Elab.async false
set_option linter.all false
set_option maxRecDepth 100000
set_option maxHeartbeats 4000000
/-! M10: deeds. -/
namespace Ho
open PySem PySem.Spec PyProof.Rows L2
inductive Deed where
  | make (par : Option Int) (nm : Str) (b : Bool)
  | rename (n : Int) (nm : Str)
  | move (n : Int) (par : Option Int)
  | copy (n : Int) (par : Option Int)
  | write (n : Int) (t : Str)
  | tie (x y : Int)
  | untie (x y : Int)
  | cast (n : Int)
  | back (n : Int)
  | gone (n : Int)
  | empty
  | nextDay
def Deed.word : Deed → Str
  | .make _ _ _ => "make"
  | .rename _ _ => "rename"
  | .move _ _ => "move"
  | .copy _ _ => "copy"
  | .write _ _ => "write"
  | .tie _ _ => "tie"
  | .untie _ _ => "untie"
  | .cast _ => "cast"
  | .back _ => "back"
  | .gone _ => "gone"
  | .empty => "empty"
  | .nextDay => "next_day"
def Deed.args : Deed → List D
  | .make p nm b => [oi p, .str nm, .bl b]
  | .rename n nm => [.int n, .str nm]
  | .move n p => [.int n, oi p]
  | .copy n p => [.int n, oi p]
  | .write n t => [.int n, .str t]
  | .tie x y => [.int x, .int y]
  | .untie x y => [.int x, .int y]
  | .cast n => [.int n]
  | .back n => [.int n]
  | .gone n => [.int n]
  | .empty => []
  | .nextDay => []
def Deed.D (d : Deed) : D := .tup (.str d.word :: d.args)
def Deed.ok (S : Stt) : Deed → Prop
  | .make _ nm _ => nm.length ≤ 3
  | .rename _ nm => nm.length ≤ 3
  | .copy _ _ => S.rows.length ≤ 12
  | .write _ t => t.length ≤ 100
  | _ => True
noncomputable def Stt.deed (S : Stt) : Deed → Out × Stt
  | .make p nm b => S.make p nm b
  | .rename n nm => S.rename n nm
  | .move n p => S.move n p
  | .copy n p => S.copy n p
  | .write n t => S.write n t
  | .tie x y => S.tie x y
  | .untie x y => S.untie x y
  | .cast n => S.cast n
  | .back n => S.back n
  | .gone n => S.gone n
  | .empty => S.empty
  | .nextDay => S.nextDay
def words12 : List Str := ["make", "rename", "move", "copy", "write", "tie", "untie", "cast", "back", "gone", "empty", "next_day"]
end Ho

set_option Elab.async false
set_option linter.all false
set_option maxRecDepth 100000
set_option maxHeartbeats 4000000
/-! M11: the law's own state under changes. -/
namespace Ho
open PySem PySem.Spec PyProof.Rows L2
section
variable {H H' H1 : Hp} {b : SA} {S S' : Stt} {n x : Int}
theorem StAt.out (h : StAt H b S) {L : Addr} (hL : H L = none) : L ∉ b.all := fun z => by
  obtain ⟨o, e, _⟩ := h.there L z
  rw [hL] at e; cases e
/-- the plain fields -/
theorem StAt.flds (h : StAt H b S) (e1 : S'.rows = S.rows) (e2 : S'.casts = S.casts) (e3 : S'.ties = S.ties) : StAt (upd H b.p (.dK (sKv b S'))) b S' := by
  have er : rows4 S' = rows4 S := by unfold rows4; rw [e1]
  obtain ⟨k1, h1, r1⟩ := h.rows
  obtain ⟨v3, h3, r4⟩ := h.casts
  obtain ⟨v4, h4, r5⟩ := h.ties
  have t : Tle H (upd H b.p (.dK (sKv b S'))) := tle_upd h.st fun _ z => nomatch z
  refine ⟨upd_same, ⟨k1, ?_, by rw [er]; exact r1.tle t rows4_nl⟩, ⟨v3, ?_, by rw [e2]; exact r4.tle t (pairs_nl _)⟩, ⟨v4, ?_, by rw [e3]; exact r5.tle t (pairs_nl _)⟩, h.ne, h.nc⟩
  · rw [upd_ne (Ne.symm h.ne)]; exact h1
  · rw [upd_ne (ne_of h3 h.st (by intro z; cases z))]; exact h3
  · rw [upd_ne (ne_of h4 h.st (by intro z; cases z))]; exact h4
theorem StAt.rowsTo (h : StAt H b S) {kvs : List (Key × V)} (hk : KRep H (rows4 S') kvs) (e1 : S'.casts = S.casts) (e2 : S'.ties = S.ties) (e3 : sKv b S' = sKv b S) : StAt (upd H b.r (.dK kvs)) b S' := by
  obtain ⟨k1, h1, r1⟩ := h.rows
  obtain ⟨v3, h3, r4⟩ := h.casts
  obtain ⟨v4, h4, r5⟩ := h.ties
  have t : Tle H (upd H b.r (.dK kvs)) := tle_upd h1 fun _ z => nomatch z
  refine ⟨?_, ⟨kvs, upd_same, hk.tle t rows4_nl⟩, ⟨v3, ?_, by rw [e1]; exact r4.tle t (pairs_nl _)⟩, ⟨v4, ?_, by rw [e2]; exact r5.tle t (pairs_nl _)⟩, h.ne, h.nc⟩
  · rw [upd_ne h.ne, e3]; exact h.st
  · rw [upd_ne (ne_of h3 h1 (by intro z; cases z))]; exact h3
  · rw [upd_ne (ne_of h4 h1 (by intro z; cases z))]; exact h4
theorem StAt.put (h : StAt H b S) {r : Rw} {v : V} {kvs : List (Key × V)} (hk : H b.r = some (.dK kvs)) (av : At H (row4 r) v) : StAt (upd H b.r (.dK (putK kvs (Sum.inl n) v))) b (S.setRow n r) := by
  obtain ⟨k1, h1, r1⟩ := h.rows
  rw [hk] at h1
  cases h1
  refine h.rowsTo ?_ rfl rfl rfl
  rw [rows4_set]; exact r1.put n av
theorem StAt.castsTo (h : StAt H b S) {q : Addr} {vs : List V} {cs : List (Int × Int)} (hq : H q = some (.lst vs)) (as : Ats H (cs.map pairD) vs) (nq : q ≠ b.t) :
    StAt (upd H b.p (.dK (sKv { b with c := q } { S with casts := cs }))) { b with c := q } { S with casts := cs } := by
  obtain ⟨k1, h1, r1⟩ := h.rows
  obtain ⟨v4, h4, r5⟩ := h.ties
  have t : Tle H (upd H b.p (.dK (sKv { b with c := q } { S with casts := cs }))) := tle_upd h.st fun _ z => nomatch z
  refine ⟨upd_same, ⟨k1, ?_, r1.tle t rows4_nl⟩, ⟨vs, ?_, as.tle t (pairs_nl _)⟩, ⟨v4, ?_, r5.tle t (pairs_nl _)⟩, h.ne, nq⟩
  · rw [upd_ne (Ne.symm h.ne)]; exact h1
  · rw [upd_ne (ne_of hq h.st (by intro z; cases z))]; exact hq
  · rw [upd_ne (ne_of h4 h.st (by intro z; cases z))]; exact h4
theorem StAt.tiesTo (h : StAt H b S) {q : Addr} {vs : List V} {cs : List (Int × Int)} (hq : H q = some (.lst vs)) (as : Ats H (cs.map pairD) vs) (nq : b.c ≠ q) :
    StAt (upd H b.p (.dK (sKv { b with t := q } { S with ties := cs }))) { b with t := q } { S with ties := cs } := by
  obtain ⟨k1, h1, r1⟩ := h.rows
  obtain ⟨v4, h4, r5⟩ := h.casts
  have t : Tle H (upd H b.p (.dK (sKv { b with t := q } { S with ties := cs }))) := tle_upd h.st fun _ z => nomatch z
  refine ⟨upd_same, ⟨k1, ?_, r1.tle t rows4_nl⟩, ⟨v4, ?_, r5.tle t (pairs_nl _)⟩, ⟨vs, ?_, as.tle t (pairs_nl _)⟩, h.ne, nq⟩
  · rw [upd_ne (Ne.symm h.ne)]; exact h1
  · rw [upd_ne (ne_of h4 h.st (by intro z; cases z))]; exact h4
  · rw [upd_ne (ne_of hq h.st (by intro z; cases z))]; exact hq
theorem StAt.castsIn (h : StAt H b S) {vs : List V} {cs : List (Int × Int)} (as : Ats H (cs.map pairD) vs) : StAt (upd H b.c (.lst vs)) b { S with casts := cs } := by
  obtain ⟨k1, h1, r1⟩ := h.rows
  obtain ⟨v3, h3, r4⟩ := h.casts
  obtain ⟨v4, h4, r5⟩ := h.ties
  have t : Tle H (upd H b.c (.lst vs)) := tle_upd h3 fun _ z => nomatch z
  refine ⟨?_, ⟨k1, ?_, r1.tle t rows4_nl⟩, ⟨vs, upd_same, as.tle t (pairs_nl _)⟩, ⟨v4, ?_, r5.tle t (pairs_nl _)⟩, h.ne, h.nc⟩
  · rw [upd_ne (ne_of h.st h3 (by intro z; cases z))]; exact h.st
  · rw [upd_ne (ne_of h1 h3 (by intro z; cases z))]; exact h1
  · rw [upd_ne (Ne.symm h.nc)]; exact h4
theorem StAt.tiesIn (h : StAt H b S) {vs : List V} {cs : List (Int × Int)} (as : Ats H (cs.map pairD) vs) : StAt (upd H b.t (.lst vs)) b { S with ties := cs } := by
  obtain ⟨k1, h1, r1⟩ := h.rows
  obtain ⟨v3, h3, r4⟩ := h.casts
  obtain ⟨v4, h4, r5⟩ := h.ties
  have t : Tle H (upd H b.t (.lst vs)) := tle_upd h4 fun _ z => nomatch z
  refine ⟨?_, ⟨k1, ?_, r1.tle t rows4_nl⟩, ⟨v3, ?_, r4.tle t (pairs_nl _)⟩, ⟨vs, upd_same, as.tle t (pairs_nl _)⟩, h.ne, h.nc⟩
  · rw [upd_ne (ne_of h.st h4 (by intro z; cases z))]; exact h.st
  · rw [upd_ne (ne_of h1 h4 (by intro z; cases z))]; exact h1
  · rw [upd_ne h.nc]; exact h3
/-! ### the rows that go, one by one -/
theorem lose_without (wf : S.Wf) : (S.without (S.bundleL n)).rows = (S.lose n).rows := by
  show S.rows.filter _ = S.rows.filter _
  refine List.filter_congr fun p hp => ?_
  congr 1
  rw [decide_eq_decide, bundle_mem wf, mark_row wf.nd hp]
theorem ties_out (wf : S.Wf) : (S.ties.filter fun t => !decide (t.1 ∈ S.bundleL n) && !decide (t.2 ∈ S.bundleL n)) = (S.lose n).ties := by
  refine List.filter_congr fun t _ => ?_
  have e : ∀ y, decide (y ∈ S.bundleL n) = decide (S.mark y = some n) := fun y => decide_eq_decide.mpr (bundle_mem wf)
  rw [e, e]
theorem many_len (wf : S.Wf) (n : Int) : (S.bundleL n).length = S.many n := by
  have z := congrArg List.length (keys_rows (S := S) (β := Int) wf.nd (fun x => decide (S.mark x = some n)) (fun x => x) (fun p => decide (p.2.mrk = some n)) (fun p => p.1) (fun p hp => by rw [mark_row wf.nd hp]) fun _ _ => rfl)
  rw [List.length_map, List.length_map] at z
  exact z
end
end Ho

set_option Elab.async false
set_option linter.all false
set_option maxRecDepth 100000
set_option maxHeartbeats 4000000
/-! M12: slices of tuples; marks one by one in the law's own state. -/
namespace Ho
open PySem PySem.Spec PyProof.Rows L2
section
variable {K : PySem.W.Frag} {σ : L2.St} {H H' : Hp} {ta tb te tx td tl : TE} {d : D}
theorem cut_from (vs : List V) (k : Nat) : cutV vs (some (k : Int)) none = vs.drop k := by
  unfold cutV
  rw [HT.sIx_nat, HT.sIx_none]
  by_cases h : k ≤ vs.length
  · rw [Nat.min_eq_left h, List.take_of_length_le (by rw [List.length_drop]; exact Nat.le_refl _)]
  · rw [Nat.min_eq_right (by omega), List.drop_eq_nil_of_le (Nat.le_refl _), List.drop_eq_nil_of_le (by omega), List.take_nil]
theorem cut_to (vs : List V) (k : Nat) : cutV vs none (some (k : Int)) = vs.take k := by
  unfold cutV
  rw [HT.sIx_nat, HT.sIx_none, List.drop_zero, Nat.sub_zero]
  by_cases h : k ≤ vs.length
  · rw [Nat.min_eq_left h]
  · rw [Nat.min_eq_right (by omega), List.take_of_length_le (Nat.le_refl _), List.take_of_length_le (by omega)]
theorem ev_slFrom {ds : List D} {k : Nat} (hk : 1 ≤ k) (hd : ds ≠ []) (h : EvD te σ H (.tup ds)) : EvD (tSl (rSlT K) te (tPart (tC (.int (k : Int)))) tNoPart) σ H (.tup (ds.drop k)) := fun H1 s Q q =>
  h H1 s _ fun v H2 s2 av => by
    cases av with
    | @tup _ vs _ hp hs =>
      have hl : 1 ≤ vs.length := by
        rw [← hs.length]
        exact List.length_pos_iff.mpr hd
      refine ⟨_, rfl, _, vs, rfl, SqT.of hp, fun z => ?_, fun p hn => ?_⟩
      · rw [HT.sIx_nat] at z
        omega
      · rw [cut_from]
        exact q _ _ (s2.trans (Same.new hn)) (.tup upd_same ((hs.mono (Same.new hn)).drop k))
theorem ev_slTo {ds : List D} {k : Nat} (hk : k < ds.length) (h : EvD te σ H (.tup ds)) : EvD (tSl (rSlT K) te tNoPart (tPart (tC (.int (k : Int))))) σ H (.tup (ds.take k)) := fun H1 s Q q =>
  h H1 s _ fun v H2 s2 av => by
    cases av with
    | @tup _ vs _ hp hs =>
      have hl : k < vs.length := by rw [← hs.length]; exact hk
      refine ⟨_, rfl, _, vs, rfl, SqT.of hp, fun z => ?_, fun p hn => ?_⟩
      · rw [HT.sIx_nat] at z
        omega
      · rw [cut_to]
        exact q _ _ (s2.trans (Same.new hn)) (.tup upd_same ((hs.mono (Same.new hn)).take k))
/-- l.extend(list) -/
theorem s_ext {De : Ends} {l : Addr} {xs : List V} {ds : List D} (hl : H l = some (.lst xs)) (ha : EvD ta σ H (.ref l)) (h : EvN te σ H ds) (hz : xs.length + ds.length < 10000000) (k : ∀ vs H1, Same H H1 → Ats H1 ds vs → De.nx σ (upd H1 l (.lst (xs ++ vs)))) :
    tDrop (tBM K "list" rExtend ta (tCons te tNil)) De σ H := ha H (Same.refl H) _ fun x H1 s1 ax => by
  cases ax
  exact ⟨Or.inl ⟨rfl, xs, SqL.of (s1 _ _ hl)⟩, h H1 s1 _ fun p vs H2 hp s2 h2 as => ⟨l, p, xs, vs, rfl, rfl, s2 _ _ (s1 _ _ hl), h2, by rw [← as.length]; exact Nat.le_of_lt (sz_lt hz), k vs H2 (s1.trans s2) as⟩⟩
theorem q_ext {De : Ends} {tz : TS} {l : Addr} {xs : List V} {ds : List D} (hl : H l = some (.lst xs)) (ha : EvD ta σ H (.ref l)) (h : EvN te σ H ds) (hz : xs.length + ds.length < 10000000) (k : ∀ vs H1, Same H H1 → Ats H1 ds vs → tz De σ (upd H1 l (.lst (xs ++ vs)))) :
    tSeq (tDrop (tBM K "list" rExtend ta (tCons te tNil))) tz De σ H := s_ext (De := { De with nx := tz De }) hl ha h hz k
end
section
variable {S : Stt} {n x : Int} {l : List Int} {m : Option Int}
theorem remark_set (nd : S.keys.Nodup) (hx : x ∈ S.keys) : (S.remark l m).setRow x { S.rw x with mrk := m } = S.remark (l ++ [x]) m := by
  refine stt_ext rfl rfl ?_ rfl rfl rfl rfl
  rw [setRow_rows (by rw [remark_keys]; exact hx), remark_rows, remark_rows, List.map_map]
  refine List.map_congr_left fun p hp => ?_
  show (if p.1 = x then (p.1, ({ S.rw x with mrk := m } : Rw)) else (p.1, if p.1 ∈ l then ({ p.2 with mrk := m } : Rw) else p.2)) = (p.1, if p.1 ∈ l ++ [x] then ({ p.2 with mrk := m } : Rw) else p.2)
  by_cases c : p.1 = x
  · rw [if_pos c, if_pos (by rw [c]; simp)]
    have z := rw_row nd hp
    rw [c] at z
    rw [z]
  · rw [if_neg c]
    by_cases e : p.1 ∈ l
    · rw [if_pos e, if_pos (List.mem_append_left _ e)]
    · rw [if_neg e, if_neg fun z => e ((List.mem_append.mp z).resolve_right fun q => c (by simpa using q))]
theorem wake_remark' (nd : S.keys.Nodup) : S.wake n = { S.remark (S.bundleL n) none with casts := S.casts.filter fun c => !decide (c.1 = n) } := by
  refine stt_ext rfl rfl ?_ rfl rfl rfl rfl
  refine List.map_congr_left fun p hp => ?_
  have hpk : p.1 ∈ S.keys := List.mem_map.mpr ⟨p, hp, rfl⟩
  have e : (p.2.mrk = some n) ↔ p.1 ∈ S.bundleL n := by
    unfold Stt.bundleL
    rw [List.mem_filter, decide_eq_true_eq, mark_row nd hp]
    exact ⟨fun z => ⟨hpk, z⟩, fun z => z.2⟩
  by_cases c : p.2.mrk = some n
  · rw [if_pos c, if_pos (e.mp c)]
  · rw [if_neg c, if_neg fun z => c (e.mpr z)]
theorem setRow_keys {r : Rw} (h : n ∈ S.keys) : (S.setRow n r).keys = S.keys := keys_putI_in h
theorem setRow_mark {r : Rw} (hm : r.mrk = S.mark n) (y : Int) : (S.setRow n r).mark y = S.mark y := by
  rw [mark_set]
  by_cases c : y = n
  · rw [if_pos c, hm, c]
  · rw [if_neg c]
/-- the first of them are copied, the count is as it was -/
def Stt.copiedS (S : Stt) (l : List Int) (n : Int) (par : Option Int) (nm : Str) (i : Nat) : Stt := { S.copied l n par nm i with count := S.count }
theorem copiedS_zero {par : Option Int} {nm : Str} : S.copiedS l n par nm 0 = S := by
  unfold Stt.copiedS
  rw [copied_zero]
theorem copiedS_more {par : Option Int} {nm : Str} {i : Nat} {x : Int} (inv : S.Inv) (nd : l.Nodup) (h : l[i]? = some x) : (S.copiedS l n par nm i).setRow (S.num l x) (S.copyRow l n par nm x) = S.copiedS l n par nm (i + 1) := by
  have lt := (List.getElem?_eq_some_iff.mp h).1
  have nk := copied_new (n := n) (par := par) (nm := nm) inv nd (Nat.le_of_lt lt)
  have e : (S.copied l n par nm i).count + 1 = S.num l x := by
    rw [num_at nd h]
    show S.count + (i : Int) + 1 = _
    omega
  rw [e] at nk
  refine stt_ext rfl rfl ?_ rfl rfl rfl rfl
  show putI (S.copied l n par nm i).rows _ _ = (S.copied l n par nm (i + 1)).rows
  rw [putI_new nk, ← copied_more nd h]
  show _ ++ [_] = _ ++ [((S.copied l n par nm i).count + 1, _)]
  rw [e]
theorem remark_rw (hx : x ∈ S.keys) (ho : x ∉ l) : (S.remark l m).get x = some (S.rw x) := by
  rw [remark_get, get_rw hx]
  simp [ho]
end
end Ho

set_option Elab.async false
set_option linter.all false
set_option maxRecDepth 100000
set_option maxHeartbeats 4000000
/-! M13: what is refused changes nothing. -/
namespace Ho
open PySem PySem.Spec PyProof.Rows L2
section
variable {S : Stt}
theorem deed_err {d : Deed} {k : Kd} (h : (S.deed d).1 = .err k) : (S.deed d).2 = S := by
  cases d <;> simp only [Stt.deed] at h ⊢
  case make p nm b => unfold Stt.make at h ⊢; split <;> rename_i c <;> simp only [c, if_true, if_false] at h ⊢; split <;> rename_i c2 <;> simp only [c2, if_true, if_false] at h ⊢; cases h
  case rename n nm => unfold Stt.rename at h ⊢; split <;> rename_i c <;> simp only [c, if_true, if_false] at h ⊢; split <;> rename_i c2 <;> simp only [c2, if_true, if_false] at h ⊢; cases h
  case move n p =>
    unfold Stt.move at h ⊢
    by_cases c : S.there n = false
    · rw [if_pos c]
    rw [if_neg c] at h ⊢
    by_cases c2 : S.noBox p = true
    · rw [if_pos c2]
    rw [if_neg c2] at h ⊢
    by_cases c3 : ∃ x ∈ S.within n, p = some x
    · rw [if_pos c3]
    rw [if_neg c3] at h ⊢
    by_cases c4 : (S.rw n).nm ∈ S.names p (some n)
    · rw [if_pos c4]
    rw [if_neg c4] at h; cases h
  case copy n p =>
    unfold Stt.copy at h ⊢
    by_cases c : S.there n = false
    · rw [if_pos c]
    rw [if_neg c] at h ⊢
    by_cases c2 : S.noBox p = true
    · rw [if_pos c2]
    rw [if_neg c2] at h ⊢
    by_cases c3 : S.usedThere + S.signs (S.within n) > S.room
    · rw [if_pos c3]
    rw [if_neg c3] at h; cases h
  case write n t =>
    unfold Stt.write at h ⊢
    by_cases c : S.there n = false
    · rw [if_pos c]
    rw [if_neg c] at h ⊢
    cases e : (S.rw n).tx with
    | none => rfl
    | some o =>
      rw [e] at h
      dsimp only at h ⊢
      by_cases c3 : S.usedThere + ((t.length : Int) - (o.length : Int)) > S.room
      · rw [if_pos c3]
      rw [if_neg c3] at h; cases h
  case tie x y =>
    unfold Stt.tie at h ⊢
    by_cases c : S.there x = false ∨ S.there y = false
    · rw [if_pos c]
    rw [if_neg c] at h ⊢
    by_cases c2 : x = y
    · rw [if_pos c2]
    rw [if_neg c2] at h; cases h
  case untie x y =>
    unfold Stt.untie at h ⊢
    by_cases c : S.there x = false ∨ S.there y = false
    · rw [if_pos c]
    rw [if_neg c] at h ⊢
    by_cases c2 : (x, y) ∉ S.ties
    · rw [if_pos c2]
    rw [if_neg c2] at h; cases h
  case cast n =>
    unfold Stt.cast at h ⊢
    by_cases c : S.there n = false
    · rw [if_pos c]
    rw [if_neg c] at h; cases h
  case back n =>
    unfold Stt.back at h ⊢
    by_cases c : n ∉ S.casts.map (·.1)
    · rw [if_pos c]
    rw [if_neg c] at h; cases h
  case gone n =>
    unfold Stt.gone at h ⊢
    by_cases c : n ∉ S.casts.map (·.1)
    · rw [if_pos c]
    rw [if_neg c] at h; cases h
  case empty => unfold Stt.empty at h; cases h
  case nextDay => unfold Stt.nextDay at h; cases h
end
end Ho

set_option Elab.async false
set_option linter.all false
set_option maxRecDepth 100000
set_option maxHeartbeats 4000000
/-! M14: the invariant is kept by each deed. -/
namespace Ho
open PySem PySem.Spec PyProof.Rows L2
section
variable {S S' : Stt} {n : Int}
def pd (d : Int → Nat) : Option Int → Nat
  | some p => d p
  | none => 0
theorem mark_get {x : Int} {r : Rw} (h : S.get x = some r) : S.mark x = r.mrk := by unfold Stt.mark; rw [h]; rfl
theorem rw_mark' (h : n ∈ S.keys) : S.mark n = (S.rw n).mrk := mark_get (get_rw h)
theorem mark_key' {x m : Int} (h : S.mark x = some m) : x ∈ S.keys := by
  unfold Stt.mark at h
  cases e : S.get x with
  | none => rw [e] at h; cases h
  | some r => exact key_get e
theorem get_set {r : Rw} (x : Int) : (S.setRow n r).get x = if x = n then some r else S.get x := lookup_putI n x r S.rows
theorem there_set {r : Rw} (hk : n ∈ S.keys) (hm : r.mrk = S.mark n) (x : Int) : (S.setRow n r).there x = S.there x := by
  unfold Stt.there
  rw [get_set]
  by_cases c : x = n
  · rw [if_pos c, c, get_rw hk]
    show r.mrk.isNone = (S.rw n).mrk.isNone
    rw [hm, rw_mark' hk]
  · rw [if_neg c]
theorem there_iff {x : Int} : S.there x = true ↔ x ∈ S.keys ∧ S.mark x = none := by
  constructor
  · intro h
    exact ⟨there_key h, there_mark' h⟩
  · rintro ⟨h1, h2⟩
    unfold Stt.there
    rw [get_rw h1]
    rw [rw_mark' h1] at h2
    show (S.rw x).mrk.isNone = true
    rw [h2]; rfl
theorem noBox_there {p : Int} (h : S.noBox (some p) = false) : S.there p = true := by
  unfold Stt.noBox at h
  rw [Bool.or_eq_false_iff] at h
  simpa using h.1
/-! ### a row is changed -/
theorem Stt.Inv.setRow (i : S.Inv) {r : Rw} (hk : n ∈ S.keys) (hm : r.mrk = S.mark n)
    (up : ∃ d : Int → Nat, ∀ x q p, (S.setRow n r).get x = some q → q.par = some p → p ∈ S.keys → q.mrk = S.mark p → q.mrk ≠ some x → d p < d x)
    (pb : ∀ p, r.par = some p → p ≤ S.count) (pm : ∀ m, r.mrk = some m → n ≠ m → ∃ p, r.par = some p ∧ S.mark p = some m) (pt : r.mrk = none → ∀ p, r.par = some p → S.there p = true) : (S.setRow n r).Inv where
  kr := by rw [setRow_keys hk]; exact i.kr
  c0 := i.c0
  ct := i.ct
  cm := fun c hc => by rw [setRow_mark hm]; exact i.cm c hc
  mc := fun x m h => by rw [setRow_mark hm] at h; exact i.mc x m h
  te := fun t ht => by rw [setRow_keys hk]; exact i.te t ht
  tn := i.tn
  up := by
    obtain ⟨d, hd⟩ := up
    exact ⟨d, fun x q p h1 h2 h3 h4 h5 => hd x q p h1 h2 (by rw [setRow_keys hk] at h3; exact h3) (by rw [setRow_mark hm] at h4; exact h4) h5⟩
  pb := fun x q p h1 h2 => by
    rw [get_set] at h1
    by_cases c : x = n
    · rw [if_pos c] at h1; cases h1; exact pb p h2
    · rw [if_neg c] at h1; exact i.pb x q p h1 h2
  pm := fun x q m h1 h2 h3 => by
    rw [get_set] at h1
    by_cases c : x = n
    · rw [if_pos c] at h1; cases h1
      obtain ⟨p, p1, p2⟩ := pm m h2 (by rw [← c]; exact h3)
      exact ⟨p, p1, by rw [setRow_mark hm]; exact p2⟩
    · rw [if_neg c] at h1
      obtain ⟨p, p1, p2⟩ := i.pm x q m h1 h2 h3
      exact ⟨p, p1, by rw [setRow_mark hm]; exact p2⟩
  pt := fun x q p h1 h2 h3 => by
    rw [there_set hk hm]
    rw [get_set] at h1
    by_cases c : x = n
    · rw [if_pos c] at h1; cases h1; exact pt h2 p h3
    · rw [if_neg c] at h1; exact i.pt x q p h1 h2 h3
theorem Stt.Inv.setSame (i : S.Inv) {r : Rw} (hk : n ∈ S.keys) (hm : r.mrk = S.mark n) (hp : r.par = (S.rw n).par) : (S.setRow n r).Inv := by
  have g := get_rw hk
  have e : (S.rw n).mrk = r.mrk := by rw [hm, rw_mark' hk]
  refine i.setRow hk hm ?_ (fun p q => i.pb n _ p g (by rw [← hp]; exact q)) (fun m q ne => by rw [hp]; exact i.pm n _ m g (by rw [e]; exact q) ne) fun q p qp => i.pt n _ p g (by rw [e]; exact q) (by rw [← hp]; exact qp)
  obtain ⟨d, hd⟩ := i.up
  refine ⟨d, fun x q p h1 h2 h3 h4 h5 => ?_⟩
  rw [get_set] at h1
  by_cases c : x = n
  · rw [if_pos c] at h1; cases h1
    rw [c]
    exact hd n _ p g (by rw [← hp]; exact h2) h3 (by rw [e]; exact h4) (by rw [e, ← c]; exact h5)
  · rw [if_neg c] at h1; exact hd x q p h1 h2 h3 h4 h5
theorem Stt.Inv.moved (i : S.Inv) {par : Option Int} (hn : S.there n = true) (hb : S.noBox par = false) (ho : ¬ ∃ x ∈ S.within n, par = some x) : (S.setRow n { S.rw n with par := par }).Inv := by
  have hk := there_key hn
  have hmn := there_mark' hn
  have hm : ({ S.rw n with par := par } : Rw).mrk = S.mark n := (rw_mark' hk).symm
  have hp : ∀ p, par = some p → S.there p = true := fun p e => by rw [e] at hb; exact noBox_there hb
  refine i.setRow hk hm ?_ (fun p q => (i.kr p (there_key (hp p q))).2) (fun m q _ => by rw [hm, hmn] at q; cases q) fun _ p q => hp p q
  obtain ⟨d, hd⟩ := i.up
  let B : Nat := pd d par + 1
  classical
  refine ⟨fun x => if x ∈ S.within n then d x + B else d x, fun x q p h1 h2 h3 h4 h5 => ?_⟩
  rw [get_set] at h1
  by_cases c : x = n
  · rw [if_pos c] at h1; cases h1
    have ep : par = some p := h2
    have np : p ∉ S.within n := fun z => ho ⟨p, z, ep⟩
    have nx : x ∈ S.within n := by rw [c]; exact mem_within.mpr (.self hn)
    show (if p ∈ S.within n then d p + B else d p) < (if x ∈ S.within n then d x + B else d x)
    rw [if_neg np, if_pos nx]
    have eB : B = d p + 1 := by show pd d par + 1 = _; rw [ep]; rfl
    omega
  · rw [if_neg c] at h1
    have z := hd x q p h1 h2 h3 h4 h5
    show (if p ∈ S.within n then d p + B else d p) < (if x ∈ S.within n then d x + B else d x)
    by_cases cx : x ∈ S.within n
    · obtain ⟨p', e1, e2⟩ := (mem_within.mp cx).up c
      rw [rw_get h1, h2] at e1
      cases e1
      rw [if_pos cx, if_pos (mem_within.mpr e2)]
      omega
    · by_cases cp : p ∈ S.within n
      · exfalso
        have mp := there_mark' (mem_within.mp cp).there
        rw [mp] at h4
        exact cx (mem_within.mpr (.step h1 h4 h2 (mem_within.mp cp)))
      · rw [if_neg cx, if_neg cp]; exact z
/-! ### a thing is made -/
theorem addRow_get {r : Rw} (nk : S.count + 1 ∉ S.keys) (x : Int) : (S.addRow r).get x = if x = S.count + 1 then some r else S.get x := by
  show (S.rows ++ [(S.count + 1, r)]).lookup x = _
  rw [List.lookup_append]
  by_cases c : x = S.count + 1
  · rw [if_pos c, c, lookup_none.mpr nk]
    simp
  · rw [if_neg c]
    have z : [(S.count + 1, r)].lookup x = none := lookup_none.mpr (by simpa using c)
    rw [z]
    show (S.get x).or none = S.get x
    cases S.get x <;> rfl
theorem addRow_mark {r : Rw} (nk : S.count + 1 ∉ S.keys) (hm : r.mrk = none) (x : Int) : (S.addRow r).mark x = S.mark x := by
  unfold Stt.mark
  rw [addRow_get nk]
  by_cases c : x = S.count + 1
  · rw [if_pos c, c]
    have z : S.get (S.count + 1) = none := lookup_none.mpr nk
    rw [z]
    exact hm
  · rw [if_neg c]
theorem addRow_keys {r : Rw} : (S.addRow r).keys = S.keys ++ [S.count + 1] := by unfold Stt.keys Stt.addRow; rw [List.map_append]; rfl
theorem Stt.Inv.addRow (i : S.Inv) {r : Rw} (hm : r.mrk = none) (hp : ∀ p, r.par = some p → S.there p = true) : (S.addRow r).Inv := by
  have nk : S.count + 1 ∉ S.keys := fun z => by have := i.kr _ z; omega
  have mk := addRow_mark (r := r) nk hm
  have th : ∀ x, S.there x = true → (S.addRow r).there x = true := fun x h => by
    rw [there_iff] at h ⊢
    exact ⟨by rw [addRow_keys]; exact List.mem_append_left _ h.1, by rw [mk]; exact h.2⟩
  have old : ∀ x, S.get x ≠ none → x ≠ S.count + 1 := fun x h z => h (by rw [z]; exact lookup_none.mpr nk)
  have cc : (S.addRow r).count = S.count + 1 := rfl
  refine ⟨fun x hx => ?_, by have := i.c0; show 0 ≤ S.count + 1; omega, i.ct, fun c hc => by rw [mk]; exact i.cm c hc, fun x m h => by rw [mk] at h; exact i.mc x m h, fun t ht => ?_, i.tn, ?_, fun x q p h1 h2 => ?_, fun x q m h1 h2 h3 => ?_, fun x q p h1 h2 h3 => ?_⟩
  · rw [addRow_keys, List.mem_append] at hx
    rw [cc]
    rcases hx with z | z
    · have := i.kr x z; omega
    · have e : x = S.count + 1 := by simpa using z
      have := i.c0; omega
  · have z := i.te t ht
    rw [addRow_keys]
    exact ⟨List.mem_append_left _ z.1, List.mem_append_left _ z.2⟩
  · obtain ⟨d, hd⟩ := i.up
    refine ⟨fun x => if x = S.count + 1 then pd d r.par + 1 else d x, fun x q p h1 h2 h3 h4 h5 => ?_⟩
    rw [addRow_get nk] at h1
    by_cases c : x = S.count + 1
    · rw [if_pos c] at h1; cases h1
      have pk := i.kr p (there_key (hp p h2))
      show (if p = S.count + 1 then _ else d p) < (if x = S.count + 1 then pd d r.par + 1 else d x)
      rw [if_neg (by omega), if_pos c, h2]
      show d p < d p + 1
      omega
    · rw [if_neg c] at h1
      have pk := i.pb x q p h1 h2
      show (if p = S.count + 1 then _ else d p) < (if x = S.count + 1 then pd d r.par + 1 else d x)
      rw [if_neg (by omega), if_neg c]
      rw [addRow_keys, List.mem_append] at h3
      refine hd x q p h1 h2 (h3.resolve_right fun z => ?_) (by rw [mk] at h4; exact h4) h5
      have e : p = S.count + 1 := by simpa using z
      omega
  · rw [cc]
    rw [addRow_get nk] at h1
    by_cases c : x = S.count + 1
    · rw [if_pos c] at h1; cases h1
      have := i.kr p (there_key (hp p h2)); omega
    · rw [if_neg c] at h1
      have := i.pb x q p h1 h2; omega
  · rw [addRow_get nk] at h1
    by_cases c : x = S.count + 1
    · rw [if_pos c] at h1; cases h1
      rw [hm] at h2; cases h2
    · rw [if_neg c] at h1
      obtain ⟨p, p1, p2⟩ := i.pm x q m h1 h2 h3
      exact ⟨p, p1, by rw [mk]; exact p2⟩
  · rw [addRow_get nk] at h1
    by_cases c : x = S.count + 1
    · rw [if_pos c] at h1; cases h1
      exact th p (hp p h3)
    · rw [if_neg c] at h1
      exact th p (i.pt x q p h1 h2 h3)
/-! ### ties -/
theorem Stt.Inv.toTies (i : S.Inv) {ts : List (Int × Int)} (te : ∀ t ∈ ts, t.1 ∈ S.keys ∧ t.2 ∈ S.keys) (tn : ts.Nodup) : ({ S with ties := ts } : Stt).Inv := ⟨i.kr, i.c0, i.ct, i.cm, i.mc, te, tn, i.up, i.pb, i.pm, i.pt⟩
/-! ### a thing is cast off -/
theorem no_mark (i : S.Inv) (hn : S.there n = true) (x : Int) : S.mark x ≠ some n := fun z => by
  obtain ⟨c, c1, c2⟩ := List.mem_map.mp (i.mc x n z)
  have w := i.cm c c1
  rw [c2, there_mark' hn] at w
  cases w
theorem castOff_get (x : Int) : (S.castOff n).get x = (S.get x).map fun r => if x ∈ S.within n then { r with mrk := some n } else r := remark_get
theorem castOff_mark (x : Int) : (S.castOff n).mark x = if x ∈ S.within n then some n else S.mark x := by
  show (S.remark (S.within n) (some n)).mark x = _
  rw [remark_mark]
  by_cases c : x ∈ S.within n
  · rw [if_pos c, if_pos ⟨within_key c, c⟩]
  · rw [if_neg c, if_neg fun z => c z.2]
theorem castOff_keys : (S.castOff n).keys = S.keys := remark_keys
theorem Stt.Inv.castOff (i : S.Inv) (hn : S.there n = true) : (S.castOff n).Inv := by
  have nm := no_mark i hn
  have self : n ∈ S.within n := mem_within.mpr (.self hn)
  have nc : n ∉ S.casts.map (·.1) := fun z => by
    obtain ⟨c, c1, c2⟩ := List.mem_map.mp z
    exact nm c.1 (by rw [← c2]; exact i.cm c c1)
  have row : ∀ {x : Int} {q : Rw}, (S.castOff n).get x = some q → ∃ r, S.get x = some r ∧ q.par = r.par ∧ ((x ∈ S.within n ∧ q.mrk = some n) ∨ (x ∉ S.within n ∧ q.mrk = r.mrk)) := fun {x q} h => by
    rw [castOff_get] at h
    obtain ⟨r, hr, e⟩ := Option.map_eq_some_iff.mp h
    refine ⟨r, hr, ?_⟩
    by_cases c : x ∈ S.within n
    · rw [if_pos c] at e; subst e; exact ⟨rfl, .inl ⟨c, rfl⟩⟩
    · rw [if_neg c] at e; subst e; exact ⟨rfl, .inr ⟨c, rfl⟩⟩
  refine ⟨by rw [castOff_keys]; exact i.kr, i.c0, ?_, fun c hc => ?_, fun x m h => ?_, fun t ht => by rw [castOff_keys]; exact i.te t ht, i.tn, ?_, fun x q p h1 h2 => ?_, fun x q m h1 h2 h3 => ?_, fun x q p h1 h2 h3 => ?_⟩
  · show ((S.casts ++ [(n, S.day)]).map (·.1)).Nodup
    rw [List.map_append, List.nodup_append]
    refine ⟨i.ct, by simp, fun u hu w hw z => ?_⟩
    rw [show w = n by simpa using hw] at z
    exact nc (z ▸ hu)
  · rcases List.mem_append.mp (show c ∈ S.casts ++ [(n, S.day)] from hc) with z | z
    · have w := i.cm c z
      rw [castOff_mark, if_neg fun y => ?_]
      · exact w
      · rw [there_mark' (mem_within.mp y).there] at w; cases w
    · have e : c = (n, S.day) := by simpa using z
      subst e
      rw [castOff_mark, if_pos self]
  · show m ∈ (S.casts ++ [(n, S.day)]).map (·.1)
    rw [castOff_mark] at h
    rw [List.map_append, List.mem_append]
    by_cases c : x ∈ S.within n
    · rw [if_pos c] at h; cases h; exact .inr (by simp)
    · rw [if_neg c] at h; exact .inl (i.mc x m h)
  · obtain ⟨d, hd⟩ := i.up
    refine ⟨d, fun x q p h1 h2 h3 h4 h5 => ?_⟩
    obtain ⟨r, hr, ep, w⟩ := row h1
    rw [castOff_keys] at h3
    rw [castOff_mark] at h4
    rcases w with ⟨cx, em⟩ | ⟨cx, em⟩
    · rw [em] at h4 h5
      have xn : x ≠ n := fun z => h5 (by rw [z])
      obtain ⟨p', e1, e2⟩ := (mem_within.mp cx).up xn
      rw [rw_get hr, ← ep, h2] at e1
      cases e1
      have m0 : r.mrk = none := by rw [← mark_get hr]; exact there_mark' (mem_within.mp cx).there
      exact hd x r p hr (by rw [← ep]; exact h2) h3 (by rw [m0, there_mark' e2.there]) (by rw [m0]; intro z; cases z)
    · rw [em] at h4 h5
      by_cases cp : p ∈ S.within n
      · rw [if_pos cp] at h4
        exact absurd ((mark_get hr).trans h4) (nm x)
      · rw [if_neg cp] at h4
        exact hd x r p hr (by rw [← ep]; exact h2) h3 h4 h5
  · obtain ⟨r, hr, ep, _⟩ := row h1
    exact i.pb x r p hr (by rw [← ep]; exact h2)
  · obtain ⟨r, hr, ep, w⟩ := row h1
    rcases w with ⟨cx, em⟩ | ⟨cx, em⟩
    · rw [em] at h2; cases h2
      obtain ⟨p', e1, e2⟩ := (mem_within.mp cx).up h3
      rw [rw_get hr] at e1
      exact ⟨p', by rw [ep]; exact e1, by rw [castOff_mark, if_pos (mem_within.mpr e2)]⟩
    · rw [em] at h2
      obtain ⟨p, p1, p2⟩ := i.pm x r m hr h2 h3
      refine ⟨p, by rw [ep]; exact p1, ?_⟩
      rw [castOff_mark, if_neg fun y => ?_]
      · exact p2
      · rw [there_mark' (mem_within.mp y).there] at p2; cases p2
  · obtain ⟨r, hr, ep, w⟩ := row h1
    rcases w with ⟨cx, em⟩ | ⟨cx, em⟩
    · rw [em] at h2; cases h2
    · rw [em] at h2
      have tp := i.pt x r p hr h2 (by rw [← ep]; exact h3)
      rw [there_iff, castOff_keys, castOff_mark]
      have np : p ∉ S.within n := fun y => cx (mem_within.mpr (.step hr h2 (by rw [← ep]; exact h3) (mem_within.mp y)))
      rw [if_neg np]
      exact there_iff.mp tp
end
end Ho

set_option Elab.async false
set_option linter.all false
set_option maxRecDepth 100000
set_option maxHeartbeats 4000000
/-! M15: the invariant is kept by what comes back, by copies. -/
namespace Ho
open PySem PySem.Spec PyProof.Rows L2
section
variable {S S' : Stt} {n : Int}
/-! ### what comes back -/
theorem wake_get (x : Int) : (S.wake n).get x = (S.get x).map fun r => if r.mrk = some n then { r with mrk := none } else r := by
  show (S.rows.map fun p => if p.2.mrk = some n then (p.1, { p.2 with mrk := none }) else p).lookup x = _
  have e : (S.rows.map fun p : Int × Rw => if p.2.mrk = some n then (p.1, ({ p.2 with mrk := none } : Rw)) else p) = S.rows.map fun p => (p.1, if p.2.mrk = some n then ({ p.2 with mrk := none } : Rw) else p.2) := by
    refine List.map_congr_left fun p _ => ?_
    by_cases c : p.2.mrk = some n
    · rw [if_pos c, if_pos c]
    · rw [if_neg c, if_neg c]
  rw [e, lookup_mapIf]
  rfl
theorem back_get (wf : S.Wf) (hm : S.mark n = some n) (hk : n ∈ S.keys) (x : Int) : (S.bringBack n).get x = if x = n then some ⟨S.newPar n, S.newNm n, (S.rw n).tx, none⟩ else (S.get x).map fun r => if r.mrk = some n then { r with mrk := none } else r := by
  rw [← back_is wf hm hk, get_set, wake_get]
theorem back_keys (wf : S.Wf) (hm : S.mark n = some n) (hk : n ∈ S.keys) : (S.bringBack n).keys = S.keys := by
  rw [← back_is wf hm hk, setRow_keys (by rw [wake_keys]; exact hk), wake_keys]
theorem back_mark (wf : S.Wf) (hm : S.mark n = some n) (hk : n ∈ S.keys) (x : Int) : (S.bringBack n).mark x = if S.mark x = some n then none else S.mark x := by
  unfold Stt.mark
  rw [back_get wf hm hk]
  by_cases c : x = n
  · have e : (S.get x).bind (·.mrk) = some n := by rw [c]; exact hm
    rw [if_pos c, if_pos e]; rfl
  · rw [if_neg c]
    cases S.get x with
    | none => rfl
    | some r =>
      show (if r.mrk = some n then ({ r with mrk := none } : Rw) else r).mrk = if r.mrk = some n then none else r.mrk
      by_cases d : r.mrk = some n
      · rw [if_pos d, if_pos d]
      · rw [if_neg d, if_neg d]
theorem back_row (wf : S.Wf) (hm : S.mark n = some n) (hk : n ∈ S.keys) {x : Int} {q : Rw} (h : (S.bringBack n).get x = some q) (ne : x ≠ n) : ∃ r, S.get x = some r ∧ q.par = r.par ∧ q.mrk = if r.mrk = some n then none else r.mrk := by
  rw [back_get wf hm hk, if_neg ne] at h
  obtain ⟨r, hr, e⟩ := Option.map_eq_some_iff.mp h
  refine ⟨r, hr, ?_⟩
  by_cases d : r.mrk = some n
  · rw [if_pos d] at e ⊢; subst e; exact ⟨rfl, rfl⟩
  · rw [if_neg d] at e ⊢; subst e; exact ⟨rfl, rfl⟩
theorem Stt.Inv.bringBack (i : S.Inv) (wf : S.Wf) (hn : n ∈ S.casts.map (·.1)) : (S.bringBack n).Inv := by
  obtain ⟨c, hc, hcn⟩ := List.mem_map.mp hn
  have hk : n ∈ S.keys := by rw [← hcn]; exact cast_key i hc
  have hm : S.mark n = some n := by rw [← hcn]; exact i.cm c hc
  have kk := back_keys wf hm hk
  have mk := back_mark wf hm hk
  have gt := back_get wf hm hk
  have cs : (S.bringBack n).casts = S.casts.filter fun c => !decide (c.1 = n) := rfl
  have th : ∀ x, S.there x = true → (S.bringBack n).there x = true := fun x h => by
    rw [there_iff] at h ⊢
    exact ⟨by rw [kk]; exact h.1, by rw [mk, h.2]; simp⟩
  have np : ∀ p, S.newPar n = some p → S.there p = true := fun p e => by
    have z : S.newPar n = if S.thereO (S.rw n).par = true then (S.rw n).par else none := rfl
    rw [z] at e
    by_cases d : S.thereO (S.rw n).par = true
    · rw [if_pos d] at e
      rw [e] at d
      exact d
    · rw [if_neg d] at e; cases e
  refine ⟨by rw [kk]; exact i.kr, i.c0, ?_, fun c hc => ?_, fun x m h => ?_, fun t ht => by rw [kk]; exact i.te t ht, i.tn, ?_, fun x q p h1 h2 => ?_, fun x q m h1 h2 h3 => ?_, fun x q p h1 h2 h3 => ?_⟩
  · rw [cs]
    exact (List.filter_sublist.map _).nodup i.ct
  · rw [cs] at hc
    obtain ⟨c1, c2⟩ := List.mem_filter.mp hc
    have w := i.cm c c1
    rw [mk, w, if_neg (by simpa using c2)]
  · rw [mk] at h
    by_cases d : S.mark x = some n
    · rw [if_pos d] at h; cases h
    · rw [if_neg d] at h
      obtain ⟨q, q1, q2⟩ := List.mem_map.mp (i.mc x m h)
      rw [cs]
      refine List.mem_map.mpr ⟨q, List.mem_filter.mpr ⟨q1, ?_⟩, q2⟩
      simp only [Bool.not_eq_true', decide_eq_false_iff_not]
      intro z
      rw [q2] at z
      rw [z] at h
      exact d h
  · obtain ⟨d, hd⟩ := i.up
    refine ⟨fun x => if S.mark x = some n then d x + (pd d (S.newPar n) + 1) else d x, fun x q p h1 h2 h3 h4 h5 => ?_⟩
    rw [kk] at h3
    rw [mk] at h4
    show (if S.mark p = some n then d p + (pd d (S.newPar n) + 1) else d p) < (if S.mark x = some n then d x + (pd d (S.newPar n) + 1) else d x)
    by_cases xn : x = n
    · subst xn
      rw [gt, if_pos rfl] at h1; cases h1
      have tp := np p h2
      rw [there_mark' tp, if_neg (by intro z; cases z), if_pos hm]
      have e2 : S.newPar x = some p := h2
      rw [e2]
      show d p < d x + (d p + 1)
      omega
    · obtain ⟨r, hr, ep, em⟩ := back_row wf hm hk h1 xn
      rw [ep] at h2
      rw [em] at h4 h5
      have mx := mark_get hr
      by_cases cx : r.mrk = some n
      · rw [if_pos cx] at h4
        obtain ⟨p', p1, p2⟩ := i.pm x r n hr cx xn
        rw [h2] at p1; cases p1
        rw [if_pos p2, if_pos (by rw [mx]; exact cx)]
        have z := hd x r p hr h2 h3 (by rw [cx, p2]) (by rw [cx]; intro w; exact xn (Option.some.inj w).symm)
        omega
      · rw [if_neg cx] at h4 h5
        have nx : S.mark x ≠ some n := by rw [mx]; exact cx
        by_cases cp : S.mark p = some n
        · rw [if_pos cp] at h4
          have tp := i.pt x r p hr h4 h2
          rw [there_mark' tp] at cp; cases cp
        · rw [if_neg cp] at h4
          rw [if_neg cp, if_neg nx]
          exact hd x r p hr h2 h3 h4 h5
  · by_cases xn : x = n
    · rw [gt, if_pos xn] at h1; cases h1
      exact (i.kr p (there_key (np p h2))).2
    · obtain ⟨r, hr, ep, em⟩ := back_row wf hm hk h1 xn
      exact i.pb x r p hr (by rw [← ep]; exact h2)
  · by_cases xn : x = n
    · rw [gt, if_pos xn] at h1; cases h1; cases h2
    · obtain ⟨r, hr, ep, em⟩ := back_row wf hm hk h1 xn
      rw [em] at h2
      by_cases cx : r.mrk = some n
      · rw [if_pos cx] at h2; cases h2
      · rw [if_neg cx] at h2
        obtain ⟨p, p1, p2⟩ := i.pm x r m hr h2 h3
        refine ⟨p, by rw [ep]; exact p1, ?_⟩
        rw [mk, if_neg (by rw [p2, ← h2]; exact cx)]
        exact p2
  · by_cases xn : x = n
    · rw [gt, if_pos xn] at h1; cases h1
      exact th p (np p h3)
    · obtain ⟨r, hr, ep, em⟩ := back_row wf hm hk h1 xn
      rw [em] at h2
      rw [ep] at h3
      by_cases cx : r.mrk = some n
      · obtain ⟨p', p1, p2⟩ := i.pm x r n hr cx xn
        rw [h3] at p1; cases p1
        rw [there_iff, kk, mk, if_pos p2]
        exact ⟨mark_key' p2, rfl⟩
      · rw [if_neg cx] at h2
        exact th p (i.pt x r p hr h2 h3)
/-! ### copies -/
section
variable {par : Option Int} {nm : Str} {l : List Int}
theorem numb_inj {x y : Int} (nd : l.Nodup) (hx : x ∈ l) (hy : y ∈ l) (h : S.num l x = S.num l y) : x = y := by
  obtain ⟨i, hi⟩ := List.mem_iff_getElem?.mp hx
  obtain ⟨j, hj⟩ := List.mem_iff_getElem?.mp hy
  rw [num_at nd hi, num_at nd hj] at h
  have e : i = j := by omega
  subst e
  rw [hi] at hj; cases hj; rfl
theorem num_rng {x : Int} (hx : x ∈ l) : S.count + 1 ≤ S.num l x ∧ S.num l x ≤ S.count + l.length := by
  have z := List.idxOf_lt_length_of_mem hx
  unfold Stt.num
  omega
theorem copyTo_keys : (S.copyTo l n par nm).keys = S.keys ++ l.map (S.num l) := by
  unfold Stt.keys Stt.copyTo
  rw [List.map_append, List.map_map]; rfl
theorem copyTo_asc (wf : S.Wf) (i : S.Inv) (nd : l.Nodup) : (S.copyTo l n par nm).keys.Pairwise (· < ·) := by
  rw [copyTo_keys, List.pairwise_append]
  refine ⟨wf.asc, ?_, fun a ha b hb => ?_⟩
  · rw [List.pairwise_map, List.pairwise_iff_getElem]
    intro p q hp hq lt
    rw [num_at nd (List.getElem?_eq_getElem hp), num_at nd (List.getElem?_eq_getElem hq)]
    omega
  · obtain ⟨x, hx, rfl⟩ := List.mem_map.mp hb
    have := (i.kr a ha).2
    have := (num_rng (S := S) hx).1
    omega
theorem copyTo_old (wf : S.Wf) (i : S.Inv) (nd : l.Nodup) {x : Int} (hx : x ≤ S.count) : (S.copyTo l n par nm).get x = S.get x := by
  show (S.rows ++ l.map fun x => (S.num l x, S.copyRow l n par nm x)).lookup x = S.rows.lookup x
  rw [List.lookup_append]
  have z : (l.map fun x => (S.num l x, S.copyRow l n par nm x)).lookup x = none := lookup_none.mpr fun h => by
    rw [List.map_map] at h
    obtain ⟨y, hy, e⟩ := List.mem_map.mp h
    have := (num_rng (S := S) hy).1
    have e : S.num l y = x := e
    omega
  rw [z]
  cases S.rows.lookup x <;> rfl
theorem copyTo_new (wf : S.Wf) (i : S.Inv) (nd : l.Nodup) {x : Int} (hx : x ∈ l) : (S.copyTo l n par nm).get (S.num l x) = some (S.copyRow l n par nm x) := by
  refine lookup_nd (nd_of_asc (copyTo_asc wf i nd)) (List.mem_append_right _ (List.mem_map.mpr ⟨x, hx, rfl⟩))
theorem copyTo_row (wf : S.Wf) (i : S.Inv) (nd : l.Nodup) {x : Int} {r : Rw} (h : (S.copyTo l n par nm).get x = some r) : (x ≤ S.count ∧ S.get x = some r) ∨ ∃ y ∈ l, x = S.num l y ∧ r = S.copyRow l n par nm y := by
  rcases List.mem_append.mp (show (x, r) ∈ S.rows ++ l.map fun x => (S.num l x, S.copyRow l n par nm x) from row_get h) with z | z
  · have e := get_row wf.nd z
    exact .inl ⟨(i.kr x (key_get e)).2, e⟩
  · obtain ⟨y, hy, e⟩ := List.mem_map.mp z
    cases e
    exact .inr ⟨y, hy, rfl, rfl⟩
theorem copyTo_mark (wf : S.Wf) (i : S.Inv) (nd : l.Nodup) (x : Int) : (S.copyTo l n par nm).mark x = S.mark x := by
  cases e : (S.copyTo l n par nm).get x with
  | none =>
    unfold Stt.mark
    rw [e]
    cases e2 : S.get x with
    | none => rfl
    | some r =>
      have := (i.kr x (key_get e2)).2
      rw [copyTo_old wf i nd this, e2] at e
      cases e
  | some r =>
    rcases copyTo_row wf i nd e with ⟨_, z⟩ | ⟨y, hy, rfl, rfl⟩
    · unfold Stt.mark; rw [e, z]
    · have o : S.mark (S.num l y) = none := by
        cases q : S.mark (S.num l y) with
        | none => rfl
        | some m =>
          have := (i.kr _ (mark_key' q)).2
          have := (num_rng (S := S) hy).1
          omega
      rw [o]
      unfold Stt.mark
      rw [e]
      show (S.copyRow l n par nm y).mrk = none
      unfold Stt.copyRow
      by_cases c : y = n
      · rw [if_pos c]
      · rw [if_neg c]
theorem Stt.Inv.copyTo (i : S.Inv) (wf : S.Wf) (hn : S.there n = true) (hp : ∀ p, par = some p → S.there p = true) (hl : l = S.within n) : (S.copyTo l n par nm).Inv := by
  have nd : l.Nodup := hl ▸ within_nd wf n
  have nl : n ∈ l := hl ▸ mem_within.mpr (.self hn)
  have mk := copyTo_mark (n := n) (par := par) (nm := nm) wf i nd
  have cc : (S.copyTo l n par nm).count = S.count + (l.length : Int) := rfl
  have kk := copyTo_keys (S := S) (n := n) (par := par) (nm := nm) (l := l)
  have th : ∀ x, S.there x = true → (S.copyTo l n par nm).there x = true := fun x h => by
    rw [there_iff] at h ⊢
    exact ⟨by rw [kk]; exact List.mem_append_left _ h.1, by rw [mk]; exact h.2⟩
  have thn : ∀ x ∈ l, (S.copyTo l n par nm).there (S.num l x) = true := fun x hx => by
    unfold Stt.there
    rw [copyTo_new wf i nd hx]
    show (S.copyRow l n par nm x).mrk.isNone = true
    unfold Stt.copyRow
    by_cases c : x = n
    · rw [if_pos c]; rfl
    · rw [if_neg c]; rfl
  have upl : ∀ x ∈ l, x ≠ n → ∃ p ∈ l, (S.rw x).par = some p := fun x hx ne => by
    rw [hl] at hx
    obtain ⟨p, e1, e2⟩ := (mem_within.mp hx).up ne
    exact ⟨p, by rw [hl]; exact mem_within.mpr e2, e1⟩
  have tl : ∀ x ∈ l, S.there x = true := fun x hx => by rw [hl] at hx; exact (mem_within.mp hx).there
  refine ⟨fun x hx => ?_, by rw [cc]; have := i.c0; omega, i.ct, fun c hc => by rw [mk]; exact i.cm c hc, fun x m h => by rw [mk] at h; exact i.mc x m h, fun t ht => ?_, ?_, ?_, fun x q p h1 h2 => ?_, fun x q m h1 h2 h3 => ?_, fun x q p h1 h2 h3 => ?_⟩
  · rw [kk, List.mem_append] at hx
    rw [cc]
    rcases hx with z | z
    · have := i.kr x z; omega
    · obtain ⟨y, hy, rfl⟩ := List.mem_map.mp z
      have := num_rng (S := S) hy
      have := i.c0
      omega
  · rw [kk]
    rcases List.mem_append.mp (show t ∈ S.ties ++ _ from ht) with z | z
    · have w := i.te t z
      exact ⟨List.mem_append_left _ w.1, List.mem_append_left _ w.2⟩
    · obtain ⟨u, hu, rfl⟩ := List.mem_map.mp z
      have w := (List.mem_filter.mp hu).2
      rw [Bool.and_eq_true, decide_eq_true_eq, decide_eq_true_eq] at w
      exact ⟨List.mem_append_right _ (List.mem_map.mpr ⟨_, w.1, rfl⟩), List.mem_append_right _ (List.mem_map.mpr ⟨_, w.2, rfl⟩)⟩
  · show (S.ties ++ (S.ties.filter fun t => decide (t.1 ∈ l) && decide (t.2 ∈ l)).map fun t => (S.num l t.1, S.num l t.2)).Nodup
    rw [List.nodup_append]
    refine ⟨i.tn, ?_, fun u hu v hv e => ?_⟩
    · have z : (S.ties.filter fun t => decide (t.1 ∈ l) && decide (t.2 ∈ l)).Nodup := i.tn.filter _
      refine List.pairwise_map.mpr ((List.Pairwise.and_mem.mp z).imp fun ⟨ha, hb, ne⟩ e => ne ?_)
      have wa := (List.mem_filter.mp ha).2
      have wb := (List.mem_filter.mp hb).2
      rw [Bool.and_eq_true, decide_eq_true_eq, decide_eq_true_eq] at wa wb
      have e1 := numb_inj nd wa.1 wb.1 (congrArg Prod.fst e)
      have e2 := numb_inj nd wa.2 wb.2 (congrArg Prod.snd e)
      exact Prod.ext e1 e2
    · obtain ⟨t, ht, rfl⟩ := List.mem_map.mp hv
      have w := (List.mem_filter.mp ht).2
      rw [Bool.and_eq_true, decide_eq_true_eq, decide_eq_true_eq] at w
      have a := (i.kr _ (i.te u hu).1).2
      have b := (num_rng (S := S) w.1).1
      rw [e] at a
      have a : S.num l t.1 ≤ S.count := a
      omega
  · obtain ⟨d, hd⟩ := i.up
    let o : Int → Int := fun y => l.getD (y - S.count - 1).toNat 0
    have on : ∀ x ∈ l, o (S.num l x) = x := fun x hx => by
      obtain ⟨j, hj⟩ := List.mem_iff_getElem?.mp hx
      show l.getD (S.num l x - S.count - 1).toNat 0 = x
      rw [num_at nd hj, show (S.count + 1 + (j : Int) - S.count - 1).toNat = j by omega, List.getD_eq_getElem?_getD, hj]; rfl
    refine ⟨fun y => if y ≤ S.count then d y else d (o y) + (pd d par + 1), fun x q p h1 h2 h3 h4 h5 => ?_⟩
    show (if p ≤ S.count then d p else d (o p) + (pd d par + 1)) < (if x ≤ S.count then d x else d (o x) + (pd d par + 1))
    rw [mk] at h4
    rcases copyTo_row wf i nd h1 with ⟨xo, hr⟩ | ⟨y, hy, rfl, rfl⟩
    · have pl := i.pb x q p hr h2
      rw [if_pos xo, if_pos pl]
      rw [kk, List.mem_append] at h3
      refine hd x q p hr h2 (h3.resolve_right fun z => ?_) h4 h5
      obtain ⟨y, hy, rfl⟩ := List.mem_map.mp z
      have := (num_rng (S := S) hy).1
      omega
    · have r1 := num_rng (S := S) hy
      rw [if_neg (show ¬ S.num l y ≤ S.count by omega), on y hy]
      unfold Stt.copyRow at h2
      by_cases c : y = n
      · rw [if_pos c] at h2
        have e2 : par = some p := h2
        have pk := (i.kr p (there_key (hp p e2))).2
        rw [if_pos pk, e2]
        show d p < d y + (d p + 1)
        omega
      · rw [if_neg c] at h2
        obtain ⟨pp, hpp, e⟩ := upl y hy c
        have e2 : (S.rw y).par.map (S.num l) = some p := h2
        rw [e] at e2
        have e3 : S.num l pp = p := Option.some.inj e2
        subst e3
        have r2 := num_rng (S := S) hpp
        rw [if_neg (show ¬ S.num l pp ≤ S.count by omega), on pp hpp]
        have ty := tl y hy
        have tp := tl pp hpp
        have my : (S.rw y).mrk = none := by rw [← rw_mark' (there_key ty)]; exact there_mark' ty
        have z := hd y (S.rw y) pp (get_rw (there_key ty)) e (there_key tp) (by rw [my, there_mark' tp]) (by rw [my]; intro w; cases w)
        omega
  · rw [cc]
    rcases copyTo_row wf i nd h1 with ⟨xo, hr⟩ | ⟨y, hy, rfl, rfl⟩
    · have := i.pb x q p hr h2; omega
    · unfold Stt.copyRow at h2
      by_cases c : y = n
      · rw [if_pos c] at h2
        have := (i.kr p (there_key (hp p h2))).2; omega
      · rw [if_neg c] at h2
        obtain ⟨pp, hpp, e⟩ := upl y hy c
        have e2 : (S.rw y).par.map (S.num l) = some p := h2
        rw [e] at e2
        have e3 : S.num l pp = p := Option.some.inj e2
        have := (num_rng (S := S) hpp).2
        omega
  · rcases copyTo_row wf i nd h1 with ⟨xo, hr⟩ | ⟨y, hy, rfl, rfl⟩
    · obtain ⟨p, p1, p2⟩ := i.pm x q m hr h2 h3
      exact ⟨p, p1, by rw [mk]; exact p2⟩
    · unfold Stt.copyRow at h2
      by_cases c : y = n
      · rw [if_pos c] at h2; cases h2
      · rw [if_neg c] at h2; cases h2
  · rcases copyTo_row wf i nd h1 with ⟨xo, hr⟩ | ⟨y, hy, rfl, rfl⟩
    · exact th p (i.pt x q p hr h2 h3)
    · unfold Stt.copyRow at h3
      by_cases c : y = n
      · rw [if_pos c] at h3
        exact th p (hp p h3)
      · rw [if_neg c] at h3
        obtain ⟨pp, hpp, e⟩ := upl y hy c
        have e2 : (S.rw y).par.map (S.num l) = some p := h3
        rw [e] at e2
        have e3 : S.num l pp = p := Option.some.inj e2
        rw [← e3]
        exact thn pp hpp
end
end
end Ho

set_option Elab.async false
set_option linter.all false
set_option maxRecDepth 100000
set_option maxHeartbeats 4000000
/-! M16: how big a state can be behind so many deeds. -/
namespace Ho
open PySem PySem.Spec PyProof.Rows L2
/-- a state behind at most t deeds -/
structure Stt.Fit (S : Stt) (t : Nat) : Prop where
  inv : S.Inv
  asc : S.keys.Pairwise (· < ·)
  r1 : S.rows.length ≤ 2 ^ t
  r2 : S.rows.length ≤ 19 + t
  nm : ∀ p ∈ S.rows, p.2.nm.length ≤ 3 + 10 * t
  tx : ∀ p ∈ S.rows, ∀ x, p.2.tx = some x → x.length ≤ 100
  cn : S.count ≤ 64 * (t : Int)
section
variable {S : Stt} {n : Int} {t : Nat}
theorem pairs_len (ks : List Int) : (ks.flatMap fun x => ks.map fun y => (x, y)).length = ks.length * ks.length := by
  rw [List.length_flatMap]
  have e : (List.map (fun x => (List.map (fun y => (x, y)) ks).length) ks) = List.map (fun _ => ks.length) ks := List.map_congr_left fun x _ => List.length_map _
  rw [e, List.map_const', List.sum_replicate_nat]
theorem Stt.Fit.wf (h : S.Fit t) (ht : t ≤ 44) : S.Wf where
  asc := h.asc
  few := by have := h.r2; omega
  txl := fun p hp x e => by have := h.tx p hp x e; omega
  nml := fun p hp => by have := h.nm p hp; omega
  cl := by
    have z := nd_len (m := S.keys) h.inv.ct fun x hx => by
      obtain ⟨c, c1, c2⟩ := List.mem_map.mp hx
      rw [← c2]; exact cast_key h.inv c1
    rw [List.length_map] at z
    have e : S.keys.length = S.rows.length := by unfold Stt.keys; rw [List.length_map]
    have := h.r2
    omega
  tl := by
    have z := nd_len (m := S.keys.flatMap fun x => S.keys.map fun y => (x, y)) h.inv.tn fun p hp => by
      have w := h.inv.te p hp
      exact List.mem_flatMap.mpr ⟨p.1, w.1, List.mem_map.mpr ⟨p.2, w.2, rfl⟩⟩
    rw [pairs_len] at z
    have e : S.keys.length = S.rows.length := by unfold Stt.keys; rw [List.length_map]
    have y := h.r2
    have k : S.keys.length ≤ 63 := by omega
    have := Nat.mul_le_mul k k
    omega
theorem Stt.Fit.up (h : S.Fit t) : S.Fit (t + 1) where
  inv := h.inv
  asc := h.asc
  r1 := Nat.le_trans h.r1 (Nat.pow_le_pow_right (by decide) (Nat.le_succ t))
  r2 := by have := h.r2; omega
  nm := fun p hp => by have := h.nm p hp; omega
  tx := h.tx
  cn := by have := h.cn; omega
/-- rows that are like old ones -/
theorem Stt.Fit.like {S' : Stt} (h : S.Fit t) (inv : S'.Inv) (asc : S'.keys.Pairwise (· < ·)) (len : S'.rows.length ≤ S.rows.length) (cnt : S'.count = S.count) (row : ∀ p ∈ S'.rows, (p.2.nm.length ≤ 3 ∨ ∃ q ∈ S.rows, p.2.nm.length ≤ q.2.nm.length + 10) ∧ ∀ x, p.2.tx = some x → x.length ≤ 100 ∨ ∃ q ∈ S.rows, q.2.tx = some x) : S'.Fit (t + 1) where
  inv := inv
  asc := asc
  r1 := Nat.le_trans len h.up.r1
  r2 := Nat.le_trans len h.up.r2
  nm := fun p hp => by
    rcases (row p hp).1 with z | ⟨q, q1, q2⟩
    · omega
    · have := h.nm q q1; omega
  tx := fun p hp x e => by
    rcases (row p hp).2 x e with z | ⟨q, q1, q2⟩
    · exact z
    · exact h.tx q q1 x q2
  cn := by rw [cnt]; exact h.up.cn
theorem Stt.Fit.lose (h : S.Fit t) (n : Int) : (S.lose n).Fit t := by
  have nd : S.keys.Nodup := nd_of_asc h.asc
  refine ⟨h.inv.lose nd n, ?_, Nat.le_trans (List.length_filter_le _ _) h.r1, Nat.le_trans (List.length_filter_le _ _) h.r2, fun p hp => h.nm p (List.mem_filter.mp hp).1, fun p hp => h.tx p (List.mem_filter.mp hp).1, h.cn⟩
  show ((S.rows.filter _).map _).Pairwise _
  have z := h.asc
  unfold Stt.keys at z
  rw [List.pairwise_map] at z ⊢
  exact z.filter _
theorem Stt.Fit.mkRoom (more : Int) : ∀ (k : Nat) {S : Stt}, S.Fit t → (S.mkRoom k more).Fit t
  | 0, S, h => h
  | k + 1, S, h => by
    unfold Stt.mkRoom
    by_cases c : S.used + more > S.room
    · rw [if_pos c]
      cases S.casts with
      | nil => exact h
      | cons c cs => exact Stt.Fit.mkRoom more k (h.lose c.1)
    · rw [if_neg c]; exact h
theorem Stt.Fit.roomFor (h : S.Fit t) (more : Int) : (S.roomFor more).Fit t := Stt.Fit.mkRoom more _ h
theorem Stt.Fit.loseAll : ∀ (l : List Int) {S : Stt}, S.Fit t → (Stt.loseAll l S).1.Fit t
  | [], S, h => h
  | n :: l, S, h => Stt.Fit.loseAll l (h.lose n)
theorem set_row {r : Rw} (hk : n ∈ S.keys) {p : Int × Rw} (hp : p ∈ (S.setRow n r).rows) : p ∈ S.rows ∨ p.2 = r := by
  rw [setRow_rows hk] at hp
  obtain ⟨q, hq, e⟩ := List.mem_map.mp hp
  by_cases c : q.1 = n
  · rw [if_pos c] at e; subst e; exact .inr rfl
  · rw [if_neg c] at e; subst e; exact .inl hq
theorem set_len {r : Rw} (hk : n ∈ S.keys) : (S.setRow n r).rows.length = S.rows.length := by rw [setRow_rows hk, List.length_map]
theorem fit_set {r : Rw} (h : S.Fit t) (hk : n ∈ S.keys) (inv : (S.setRow n r).Inv) (hnm : r.nm.length ≤ 3 ∨ r.nm = (S.rw n).nm) (htx : ∀ x, r.tx = some x → x.length ≤ 100 ∨ (S.rw n).tx = some x) : (S.setRow n r).Fit (t + 1) := by
  refine h.like inv (by rw [setRow_keys hk]; exact h.asc) (Nat.le_of_eq (set_len hk)) rfl fun p hp => ?_
  have rn : (n, S.rw n) ∈ S.rows := row_get (get_rw hk)
  rcases set_row hk hp with z | z
  · exact ⟨.inr ⟨p, z, by omega⟩, fun x e => .inr ⟨p, z, e⟩⟩
  · rw [z]
    refine ⟨hnm.imp id fun e => ⟨_, rn, by rw [e]; exact Nat.le_add_right _ _⟩, fun x e => (htx x e).imp id fun w => ⟨_, rn, w⟩⟩
theorem par_there {p : Option Int} (h : S.noBox p = false) : ∀ q, p = some q → S.there q = true := fun q e => by rw [e] at h; exact noBox_there h
theorem Stt.Fit.deed (h : S.Fit t) (ht : t ≤ 43) {d : Deed} (ok : d.ok S) : (S.deed d).2.Fit (t + 1) := by
  have wf := h.wf (by omega)
  cases d with
  | make p nm b =>
    show (S.make p nm b).2.Fit _
    unfold Stt.make
    by_cases c : S.noBox p = true
    · rw [if_pos c]; exact h.up
    rw [if_neg c]
    by_cases c2 : nm ∈ S.names p none
    · rw [if_pos c2]; exact h.up
    rw [if_neg c2]
    have cf : S.noBox p = false := by simpa using c
    refine ⟨h.inv.addRow rfl (par_there cf), ?_, ?_, ?_, fun q hq => ?_, fun q hq x e => ?_, by have := h.cn; show S.count + 1 ≤ _; omega⟩
    · rw [addRow_keys, List.pairwise_append]
      refine ⟨h.asc, by simp, fun a ha b hb => ?_⟩
      have := (h.inv.kr a ha).2
      rw [show b = S.count + 1 by simpa using hb]; omega
    · show (S.rows ++ [_]).length ≤ _
      rw [List.length_append, List.length_singleton, Nat.pow_succ]
      have := h.r1
      have : 0 < 2 ^ t := Nat.pow_pos (by decide)
      omega
    · show (S.rows ++ [_]).length ≤ _
      rw [List.length_append, List.length_singleton]
      have := h.r2; omega
    · rcases List.mem_append.mp (show q ∈ S.rows ++ [_] from hq) with z | z
      · have := h.nm q z; omega
      · rw [List.mem_singleton.mp z]
        have : nm.length ≤ 3 := ok
        show nm.length ≤ _
        omega
    · rcases List.mem_append.mp (show q ∈ S.rows ++ [_] from hq) with z | z
      · exact h.tx q z x e
      · rw [List.mem_singleton.mp z] at e
        have e : (if b = true then none else some ("" : Str)) = some x := e
        cases b with
        | true => cases e
        | false =>
          have e := Option.some.inj e
          rw [← e]; exact Nat.zero_le _
  | rename n nm =>
    show (S.rename n nm).2.Fit _
    unfold Stt.rename
    by_cases c : S.there n = false
    · rw [if_pos c]; exact h.up
    rw [if_neg c]
    by_cases c2 : nm ∈ S.names (S.rw n).par (some n)
    · rw [if_pos c2]; exact h.up
    rw [if_neg c2]
    have hn : S.there n = true := by simpa using c
    have hk := there_key hn
    exact fit_set h hk (h.inv.setSame hk (rw_mark' hk).symm rfl) (.inl ok) fun x e => .inr e
  | move n p =>
    show (S.move n p).2.Fit _
    unfold Stt.move
    by_cases c : S.there n = false
    · rw [if_pos c]; exact h.up
    rw [if_neg c]
    by_cases c2 : S.noBox p = true
    · rw [if_pos c2]; exact h.up
    rw [if_neg c2]
    by_cases c3 : ∃ x ∈ S.within n, p = some x
    · rw [if_pos c3]; exact h.up
    rw [if_neg c3]
    by_cases c4 : (S.rw n).nm ∈ S.names p (some n)
    · rw [if_pos c4]; exact h.up
    rw [if_neg c4]
    have hn : S.there n = true := by simpa using c
    have hk := there_key hn
    exact fit_set h hk (h.inv.moved hn (by simpa using c2) c3) (.inr rfl) fun x e => .inr e
  | copy n p =>
    show (S.copy n p).2.Fit _
    unfold Stt.copy
    by_cases c : S.there n = false
    · rw [if_pos c]; exact h.up
    rw [if_neg c]
    by_cases c2 : S.noBox p = true
    · rw [if_pos c2]; exact h.up
    rw [if_neg c2]
    by_cases c3 : S.usedThere + S.signs (S.within n) > S.room
    · rw [if_pos c3]; exact h.up
    rw [if_neg c3]
    have hn : S.there n = true := by simpa using c
    have cf : S.noBox p = false := by simpa using c2
    dsimp only
    generalize hmore : S.signs (S.within n) = more
    have hR := h.roomFor more
    have tR := fun x => roomFor_there wf h.inv more x
    have gR := fun x (hx : S.there x = true) => roomFor_get wf h.inv more hx
    have lR := roomFor_rows wf h.inv more
    -- what is within is the same
    have wR : (S.roomFor more).within n = S.within n := by
      have wfR := hR.wf (by omega)
      have dd : ∀ x, (S.roomFor more).Desc n x ↔ S.Desc n x := fun x => by
        constructor
        · intro z
          induction z with
          | self q => exact .self (by rw [← tR]; exact q)
          | step e m q z ih =>
            rename_i x p r
            have tx : S.there x = true := by rw [← tR, there_iff]; exact ⟨key_get e, by rw [mark_get e]; exact m⟩
            exact .step (by rw [← gR _ tx]; exact e) m q ih
        · intro z
          induction z with
          | self q => exact .self (by rw [tR]; exact q)
          | step e m q z ih =>
            rename_i x p r
            have tx : S.there x = true := by rw [there_iff]; exact ⟨key_get e, by rw [mark_get e]; exact m⟩
            exact .step (by rw [gR _ tx]; exact e) m q ih
      refine sorted_unique ?_ (pw_lt_le (within_asc wfR n)) (pw_lt_le (within_asc wf n))
      rw [List.perm_ext_iff_of_nodup (within_nd wfR n) (within_nd wf n)]
      exact fun x => by rw [mem_within, mem_within, dd]
    have rn : (n, S.rw n) ∈ S.rows := row_get (get_rw (there_key hn))
    have lw : (S.within n).length ≤ S.rows.length := by
      have z : (S.within n).length ≤ S.keys.length := List.length_filter_le _ _
      have e : S.keys.length = S.rows.length := by unfold Stt.keys; rw [List.length_map]
      omega
    have ok : S.rows.length ≤ 12 := ok
    generalize hnm : freeNm (S.rw n).nm ((S.roomFor more).names p none) = nm
    have lnm : nm.length ≤ (S.rw n).nm.length + 10 := by
      rw [← hnm]
      refine freeNm_len _ _ ?_
      unfold Stt.names
      rw [List.length_map]
      have := List.length_filter_le (fun q : Int × Rw => q.2.mrk.isNone && (!decide (some q.1 = none) && decide (q.2.par = p))) (S.roomFor more).rows
      omega
    have inv' : ((S.roomFor more).copyTo (S.within n) n p nm).Inv := hR.inv.copyTo (hR.wf (by omega)) (by rw [tR]; exact hn) (fun q e => by rw [tR]; exact par_there cf q e) wR.symm
    have asc' := copyTo_asc (n := n) (par := p) (nm := nm) (hR.wf (by omega)) hR.inv (within_nd wf n)
    have len' : ((S.roomFor more).copyTo (S.within n) n p nm).rows.length ≤ 2 * S.rows.length := by
      show ((S.roomFor more).rows ++ (S.within n).map _).length ≤ _
      rw [List.length_append, List.length_map]
      omega
    have row : ∀ q ∈ ((S.roomFor more).copyTo (S.within n) n p nm).rows, (∃ r ∈ S.rows, q.2.nm.length ≤ r.2.nm.length + 10) ∧ ∀ x, q.2.tx = some x → x.length ≤ 100 := fun q hq => by
      rcases List.mem_append.mp (show q ∈ (S.roomFor more).rows ++ (S.within n).map _ from hq) with z | z
      · have sub : (S.roomFor more).rows ⊆ S.rows := mkRoom_ind (R := fun S' : Stt => S'.rows ⊆ S.rows) (fun S' _ _ r m => fun y hy => r (List.mem_filter.mp hy).1) _ S wf h.inv fun y hy => hy
        exact ⟨⟨q, sub z, by omega⟩, hR.tx q z⟩
      · obtain ⟨x, hx, rfl⟩ := List.mem_map.mp z
        have tx : S.there x = true := (mem_within.mp hx).there
        have rx : (x, S.rw x) ∈ S.rows := row_get (get_rw (there_key tx))
        have eR : (S.roomFor more).rw x = S.rw x := roomFor_rw wf h.inv more tx
        show (∃ r ∈ S.rows, ((S.roomFor more).copyRow (S.within n) n p nm x).nm.length ≤ r.2.nm.length + 10) ∧ ∀ y, ((S.roomFor more).copyRow (S.within n) n p nm x).tx = some y → y.length ≤ 100
        unfold Stt.copyRow
        by_cases c : x = n
        · rw [if_pos c, eR]
          exact ⟨⟨_, rn, lnm⟩, fun y e => h.tx _ rx y e⟩
        · rw [if_neg c, eR]
          exact ⟨⟨_, rx, Nat.le_add_right _ _⟩, fun y e => h.tx _ rx y e⟩
    refine ⟨inv', asc', ?_, ?_, fun q hq => ?_, fun q hq => (row q hq).2, by have := h.cn; show (S.roomFor more).count + ((S.within n).length : Int) ≤ _; rw [roomFor_count wf h.inv]; omega⟩
    · rw [Nat.pow_succ]
      have := h.r1; omega
    · rcases Nat.lt_or_ge t 4 with z | z
      · have a := h.r1
        have b : 2 ^ t ≤ 2 ^ 3 := Nat.pow_le_pow_right (by decide) (by omega)
        omega
      · omega
    · obtain ⟨r, r1, r2⟩ := (row q hq).1
      have := h.nm r r1; omega
  | write n x =>
    show (S.write n x).2.Fit _
    unfold Stt.write
    by_cases c : S.there n = false
    · rw [if_pos c]; exact h.up
    rw [if_neg c]
    cases e : (S.rw n).tx with
    | none => exact h.up
    | some o =>
      dsimp only
      by_cases c3 : S.usedThere + ((x.length : Int) - (o.length : Int)) > S.room
      · rw [if_pos c3]; exact h.up
      rw [if_neg c3]
      dsimp only
      have hn : S.there n = true := by simpa using c
      generalize (x.length : Int) - (o.length : Int) = more
      have hR := h.roomFor more
      have tR : (S.roomFor more).there n = true := by rw [roomFor_there wf h.inv]; exact hn
      have eR : (S.roomFor more).rw n = S.rw n := roomFor_rw wf h.inv more hn
      have hk := there_key tR
      rw [← eR]
      exact fit_set hR hk (hR.inv.setSame hk (rw_mark' hk).symm rfl) (.inr rfl) fun y ey => .inl (by
        have z : some x = some y := ey
        cases z; exact ok)
  | tie x y =>
    show (S.tie x y).2.Fit _
    unfold Stt.tie
    by_cases c : S.there x = false ∨ S.there y = false
    · rw [if_pos c]; exact h.up
    rw [if_neg c]
    by_cases c2 : x = y
    · rw [if_pos c2]; exact h.up
    rw [if_neg c2]
    dsimp only
    by_cases c3 : (x, y) ∈ S.ties
    · rw [if_pos c3]; exact h.up
    rw [if_neg c3]
    have hx : S.there x = true := by cases z : S.there x with
      | true => rfl
      | false => exact absurd (.inl z) c
    have hy : S.there y = true := by cases z : S.there y with
      | true => rfl
      | false => exact absurd (.inr z) c
    refine ⟨h.inv.toTies (fun t ht => ?_) ?_, h.asc, h.up.r1, h.up.r2, h.up.nm, h.up.tx, h.up.cn⟩
    · rcases List.mem_append.mp ht with z | z
      · exact h.inv.te t z
      · rw [List.mem_singleton.mp z]; exact ⟨there_key hx, there_key hy⟩
    · rw [List.nodup_append]
      exact ⟨h.inv.tn, by simp, fun u hu w hw e => c3 (by rw [List.mem_singleton.mp hw] at e; rw [← e]; exact hu)⟩
  | untie x y =>
    show (S.untie x y).2.Fit _
    unfold Stt.untie
    by_cases c : S.there x = false ∨ S.there y = false
    · rw [if_pos c]; exact h.up
    rw [if_neg c]
    by_cases c2 : (x, y) ∉ S.ties
    · rw [if_pos c2]; exact h.up
    rw [if_neg c2]
    exact ⟨h.inv.toTies (fun t ht => h.inv.te t (List.mem_of_mem_erase ht)) (h.inv.tn.erase _), h.asc, h.up.r1, h.up.r2, h.up.nm, h.up.tx, h.up.cn⟩
  | cast n =>
    show (S.cast n).2.Fit _
    unfold Stt.cast
    by_cases c : S.there n = false
    · rw [if_pos c]; exact h.up
    rw [if_neg c]
    have hn : S.there n = true := by simpa using c
    refine h.like (h.inv.castOff hn) (by rw [castOff_keys]; exact h.asc) (by show (S.rows.map _).length ≤ _; rw [List.length_map]; exact Nat.le_refl _) rfl fun p hp => ?_
    obtain ⟨q, hq, e⟩ := List.mem_map.mp (show p ∈ (S.remark (S.within n) (some n)).rows from hp)
    by_cases d : q.1 ∈ S.within n
    · rw [if_pos d] at e; subst e
      exact ⟨.inr ⟨q, hq, by show q.2.nm.length ≤ _; omega⟩, fun x ex => .inr ⟨q, hq, ex⟩⟩
    · rw [if_neg d] at e; subst e
      exact ⟨.inr ⟨q, hq, by omega⟩, fun x ex => .inr ⟨q, hq, ex⟩⟩
  | back n =>
    show (S.back n).2.Fit _
    unfold Stt.back
    by_cases c : n ∉ S.casts.map (·.1)
    · rw [if_pos c]; exact h.up
    rw [if_neg c]
    have hn : n ∈ S.casts.map (·.1) := by simpa using c
    obtain ⟨k, hc, hcn⟩ := List.mem_map.mp hn
    have hk : n ∈ S.keys := by rw [← hcn]; exact cast_key h.inv hc
    have hm : S.mark n = some n := by rw [← hcn]; exact h.inv.cm k hc
    have rn : (n, S.rw n) ∈ S.rows := row_get (get_rw hk)
    refine h.like (h.inv.bringBack wf hn) (by rw [back_keys wf hm hk]; exact h.asc) ?_ rfl fun p hp => ?_
    · rw [← back_is wf hm hk, set_len (by rw [wake_keys]; exact hk)]
      show (S.rows.map _).length ≤ _
      rw [List.length_map]; exact Nat.le_refl _
    · rw [← back_is wf hm hk] at hp
      rcases set_row (by rw [wake_keys]; exact hk) hp with z | z
      · obtain ⟨q, hq, e⟩ := List.mem_map.mp z
        by_cases d : q.2.mrk = some n
        · rw [if_pos d] at e; subst e
          exact ⟨.inr ⟨q, hq, by show q.2.nm.length ≤ _; omega⟩, fun x ex => .inr ⟨q, hq, ex⟩⟩
        · rw [if_neg d] at e; subst e
          exact ⟨.inr ⟨q, hq, by omega⟩, fun x ex => .inr ⟨q, hq, ex⟩⟩
      · rw [z]
        refine ⟨.inr ⟨_, rn, ?_⟩, fun x ex => .inr ⟨_, rn, ex⟩⟩
        show (S.newNm n).length ≤ (S.rw n).nm.length + 10
        refine freeNm_len _ _ ?_
        unfold Stt.names
        rw [List.length_map]
        have := List.length_filter_le (fun q : Int × Rw => q.2.mrk.isNone && (!decide (some q.1 = none) && decide (q.2.par = S.newPar n))) S.rows
        have := wf.few
        omega
  | gone n =>
    show (S.gone n).2.Fit _
    unfold Stt.gone
    by_cases c : n ∉ S.casts.map (·.1)
    · rw [if_pos c]; exact h.up
    rw [if_neg c]
    exact (h.lose n).up
  | empty => exact (Stt.Fit.loseAll _ h).up
  | nextDay =>
    have h1 : ({ S with day := S.day + 1 } : Stt).Fit t := ⟨⟨h.inv.kr, h.inv.c0, h.inv.ct, h.inv.cm, h.inv.mc, h.inv.te, h.inv.tn, h.inv.up, h.inv.pb, h.inv.pm, h.inv.pt⟩, h.asc, h.r1, h.r2, h.nm, h.tx, h.cn⟩
    exact (Stt.Fit.loseAll _ h1).up
end
end Ho

set_option Elab.async false
set_option linter.all false
set_option maxRecDepth 100000
set_option maxHeartbeats 4000000
/-! M18: what is kept step by step is kept by deeds. -/
namespace Ho
open PySem PySem.Spec PyProof.Rows L2
/-- signs of names, of names that are handed in, of texts -/
def okc (c : Nat) : Prop := (97 ≤ c ∧ c ≤ 122) ∨ (48 ≤ c ∧ c ≤ 57)
def ltc (c : Nat) : Prop := 97 ≤ c ∧ c ≤ 122
def txc (c : Nat) : Prop := c = 32 ∨ (97 ≤ c ∧ c ≤ 122)
def okN (s : Str) : Prop := ∀ c ∈ s.cps.toList, okc c
def ltN (s : Str) : Prop := ∀ c ∈ s.cps.toList, ltc c
def txN (s : Str) : Prop := ∀ c ∈ s.cps.toList, txc c
/-- what is handed in has signs as told; no name is one of the law's own -/
def Deed.fine : Deed → Prop
  | .make _ nm _ => ltN nm ∧ nm ≠ "" ∧ nm ≠ "xy" ∧ nm ≠ "xz"
  | .rename _ nm => ltN nm ∧ nm ≠ "" ∧ nm ≠ "xy" ∧ nm ≠ "xz"
  | .write _ t => txN t
  | _ => True
section
variable {S : Stt} {n : Int} {more : Int}
theorem mem_names (nd : S.keys.Nodup) {par but : Option Int} {nm : Str} : nm ∈ S.names par but ↔ ∃ y ry, S.get y = some ry ∧ ry.mrk = none ∧ some y ≠ but ∧ ry.par = par ∧ ry.nm = nm := by
  unfold Stt.names
  rw [List.mem_map]
  constructor
  · rintro ⟨p, hp, rfl⟩
    obtain ⟨h1, h2⟩ := List.mem_filter.mp hp
    simp only [Bool.and_eq_true, Bool.not_eq_true', decide_eq_false_iff_not, decide_eq_true_eq] at h2
    exact ⟨p.1, p.2, get_row nd h1, Option.isNone_iff_eq_none.mp h2.1, h2.2.1, h2.2.2, rfl⟩
  · rintro ⟨y, ry, h1, h2, h3, h4, h5⟩
    refine ⟨(y, ry), List.mem_filter.mpr ⟨row_get h1, ?_⟩, h5⟩
    simp only [Bool.and_eq_true, Bool.not_eq_true', decide_eq_false_iff_not, decide_eq_true_eq]
    exact ⟨Option.isNone_iff_eq_none.mpr h2, h3, h4⟩
theorem names_lenM (wf : S.Wf) (par but : Option Int) : (S.names par but).length < 1000000 := by
  unfold Stt.names
  rw [List.length_map]
  have := List.length_filter_le (fun q : Int × Rw => q.2.mrk.isNone && (!decide (some q.1 = but) && decide (q.2.par = par))) S.rows
  have := wf.few
  omega
theorem new_key (i : S.Inv) : S.count + 1 ∉ S.keys := fun z => by have := (i.kr _ z).2; omega
theorem roomFor_fits : ∀ (k : Nat) (S : Stt), S.casts.length = k → S.Wf → S.Inv → S.usedThere + more ≤ S.room → (S.mkRoom k more).used + more ≤ S.room
  | 0, S, hk, wf, i, h => by
    show S.used + more ≤ S.room
    rw [used_there i wf (List.eq_nil_of_length_eq_zero hk)]; exact h
  | k + 1, S, hk, wf, i, h => by
    by_cases c : S.used + more > S.room
    · cases e : S.casts with
      | nil => rw [e] at hk; cases hk
      | cons c cs =>
        have go := mkRoom_go (more := more) i (by assumption) e
        rw [hk] at go
        rw [go]
        have lh := lose_head i e
        have lk : (S.lose c.1).casts.length = k := by rw [lh]; rw [e] at hk; simpa using hk
        rw [lk]
        exact roomFor_fits k (S.lose c.1) lk (wf.lose _) (i.lose wf.nd _) (by rw [usedThere_lose]; exact h)
    · rw [mkRoom_stop c]; omega
theorem within_room (wf : S.Wf) (inv : S.Inv) (more : Int) (n : Int) : (S.roomFor more).within n = S.within n := by
  have wfR := (roomFor_ok wf inv more).1
  have tR := fun x => roomFor_there wf inv more x
  have gR := fun x (hx : S.there x = true) => roomFor_get wf inv more hx
  have dd : ∀ x, (S.roomFor more).Desc n x ↔ S.Desc n x := fun x => by
    constructor
    · intro z
      induction z with
      | self q => exact .self (by rw [← tR]; exact q)
      | step e m q z ih =>
        rename_i x p r
        have tx : S.there x = true := by rw [← tR, there_iff]; exact ⟨key_get e, by rw [mark_get e]; exact m⟩
        exact .step (by rw [← gR _ tx]; exact e) m q ih
    · intro z
      induction z with
      | self q => exact .self (by rw [tR]; exact q)
      | step e m q z ih =>
        rename_i x p r
        have tx : S.there x = true := by rw [there_iff]; exact ⟨key_get e, by rw [mark_get e]; exact m⟩
        exact .step (by rw [gR _ tx]; exact e) m q ih
  refine sorted_unique ?_ (pw_lt_le (within_asc wfR n)) (pw_lt_le (within_asc wf n))
  rw [List.perm_ext_iff_of_nodup (within_nd wfR n) (within_nd wf n)]
  exact fun x => by rw [mem_within, mem_within, dd]
theorem noBox_room (wf : S.Wf) (inv : S.Inv) (more : Int) {p : Option Int} (h : S.noBox p = false) : (S.roomFor more).noBox p = false := by
  cases p with
  | none => rfl
  | some p =>
    have tp := noBox_there h
    have e := roomFor_get wf inv more tp
    have t := roomFor_there wf inv more p
    show (!(S.roomFor more).there p || (((S.roomFor more).get p).bind (·.tx)).isSome) = false
    rw [e, t]; exact h
/-- kept in every step -/
structure Stt.Keeps (R : Stt → Prop) : Prop where
  add : ∀ S : Stt, S.Wf → S.Inv → R S → ∀ (par : Option Int) (nm : Str) (b : Bool), S.noBox par = false → nm ∉ S.names par none → (ltN nm ∧ nm ≠ "" ∧ nm ≠ "xy" ∧ nm ≠ "xz") → R (S.addRow ⟨par, nm, if b = true then none else some "", none⟩)
  ren : ∀ S : Stt, S.Wf → S.Inv → R S → ∀ (n : Int) (nm : Str), S.there n = true → nm ∉ S.names (S.rw n).par (some n) → (ltN nm ∧ nm ≠ "" ∧ nm ≠ "xy" ∧ nm ≠ "xz") → R (S.setRow n { S.rw n with nm := nm })
  mov : ∀ S : Stt, S.Wf → S.Inv → R S → ∀ (n : Int) (par : Option Int), S.there n = true → S.noBox par = false → (S.rw n).nm ∉ S.names par (some n) → R (S.setRow n { S.rw n with par := par })
  wri : ∀ S : Stt, S.Wf → S.Inv → R S → ∀ (n : Int) (t o : Str), S.there n = true → (S.rw n).tx = some o → txN t → S.used + ((t.length : Int) - (o.length : Int)) ≤ S.room → R (S.setRow n { S.rw n with tx := some t })
  tie : ∀ S : Stt, S.Wf → S.Inv → R S → ∀ ts : List (Int × Int), R { S with ties := ts }
  los : ∀ S : Stt, S.Wf → S.Inv → R S → ∀ n : Int, R (S.lose n)
  cas : ∀ S : Stt, S.Wf → S.Inv → R S → ∀ n : Int, S.there n = true → R (S.castOff n)
  bak : ∀ S : Stt, S.Wf → S.Inv → R S → ∀ n : Int, n ∈ S.casts.map (·.1) → R (S.bringBack n)
  cop : ∀ S : Stt, S.Wf → S.Inv → R S → ∀ (n : Int) (par : Option Int), S.there n = true → S.noBox par = false → S.used + S.signs (S.within n) ≤ S.room → R (S.copyTo (S.within n) n par (freeNm (S.rw n).nm (S.names par none)))
  day : ∀ S : Stt, S.Wf → S.Inv → R S → R { S with day := S.day + 1 }
theorem Stt.Keeps.all {R : Stt → Prop} (k : Stt.Keeps R) : ∀ (l : List Int) (S : Stt), S.Wf → S.Inv → R S → R (Stt.loseAll l S).1
  | [], S, _, _, h => h
  | n :: l, S, wf, i, h => k.all l (S.lose n) (wf.lose n) (i.lose wf.nd n) (k.los S wf i h n)
theorem Stt.Keeps.room {R : Stt → Prop} (k : Stt.Keeps R) (wf : S.Wf) (i : S.Inv) (h : R S) (more : Int) : R (S.roomFor more) :=
  mkRoom_ind (R := R) (fun S wf i r n => k.los S wf i r n) _ S wf i h
theorem inv_day (i : S.Inv) : ({ S with day := S.day + 1 } : Stt).Inv := ⟨i.kr, i.c0, i.ct, i.cm, i.mc, i.te, i.tn, i.up, i.pb, i.pm, i.pt⟩
theorem wf_day (w : S.Wf) : ({ S with day := S.day + 1 } : Stt).Wf := ⟨w.asc, w.few, w.txl, w.nml, w.cl, w.tl⟩
theorem Stt.Keeps.deed {R : Stt → Prop} (k : Stt.Keeps R) (wf : S.Wf) (i : S.Inv) (h : R S) {d : Deed} (fine : d.fine) : R (S.deed d).2 := by
  cases d with
  | make p nm b =>
    show R (S.make p nm b).2
    unfold Stt.make
    by_cases c : S.noBox p = true
    · rw [if_pos c]; exact h
    rw [if_neg c]
    by_cases c2 : nm ∈ S.names p none
    · rw [if_pos c2]; exact h
    rw [if_neg c2]
    exact k.add S wf i h p nm b (by simpa using c) c2 fine
  | rename n nm =>
    show R (S.rename n nm).2
    unfold Stt.rename
    by_cases c : S.there n = false
    · rw [if_pos c]; exact h
    rw [if_neg c]
    by_cases c2 : nm ∈ S.names (S.rw n).par (some n)
    · rw [if_pos c2]; exact h
    rw [if_neg c2]
    exact k.ren S wf i h n nm (by simpa using c) c2 fine
  | move n p =>
    show R (S.move n p).2
    unfold Stt.move
    by_cases c : S.there n = false
    · rw [if_pos c]; exact h
    rw [if_neg c]
    by_cases c2 : S.noBox p = true
    · rw [if_pos c2]; exact h
    rw [if_neg c2]
    by_cases c3 : ∃ x ∈ S.within n, p = some x
    · rw [if_pos c3]; exact h
    rw [if_neg c3]
    by_cases c4 : (S.rw n).nm ∈ S.names p (some n)
    · rw [if_pos c4]; exact h
    rw [if_neg c4]
    exact k.mov S wf i h n p (by simpa using c) (by simpa using c2) c4
  | copy n p =>
    show R (S.copy n p).2
    unfold Stt.copy
    by_cases c : S.there n = false
    · rw [if_pos c]; exact h
    rw [if_neg c]
    by_cases c2 : S.noBox p = true
    · rw [if_pos c2]; exact h
    rw [if_neg c2]
    by_cases c3 : S.usedThere + S.signs (S.within n) > S.room
    · rw [if_pos c3]; exact h
    rw [if_neg c3]
    have hn : S.there n = true := by simpa using c
    have cf : S.noBox p = false := by simpa using c2
    dsimp only
    have es : ∀ more, (S.roomFor more).signs (S.within n) = S.signs (S.within n) := fun more => by
      unfold Stt.signs
      exact congrArg List.sum (List.map_congr_left fun x hx => by rw [roomFor_rw wf i more (mem_within.mp hx).there])
    generalize hm : S.signs (S.within n) = more at c3 ⊢
    obtain ⟨wf', i'⟩ := roomFor_ok wf i more
    have z := k.cop (S.roomFor more) wf' i' (k.room wf i h more) n p (by rw [roomFor_there wf i]; exact hn) (noBox_room wf i more cf)
    rw [within_room wf i, es, hm, roomFor_room wf i, roomFor_rw wf i more hn] at z
    exact z (roomFor_fits _ S rfl wf i (by omega))
  | write n x =>
    show R (S.write n x).2
    unfold Stt.write
    by_cases c : S.there n = false
    · rw [if_pos c]; exact h
    rw [if_neg c]
    cases e : (S.rw n).tx with
    | none => exact h
    | some o =>
      dsimp only
      by_cases c3 : S.usedThere + ((x.length : Int) - (o.length : Int)) > S.room
      · rw [if_pos c3]; exact h
      rw [if_neg c3]
      dsimp only
      have hn : S.there n = true := by simpa using c
      generalize hm : (x.length : Int) - (o.length : Int) = more at c3 ⊢
      obtain ⟨wf', i'⟩ := roomFor_ok wf i more
      have eR : (S.roomFor more).rw n = S.rw n := roomFor_rw wf i more hn
      rw [← eR]
      refine k.wri (S.roomFor more) wf' i' (k.room wf i h more) n x o (by rw [roomFor_there wf i]; exact hn) (by rw [eR]; exact e) fine ?_
      rw [hm, roomFor_room wf i]
      exact roomFor_fits _ S rfl wf i (by omega)
  | tie x y =>
    show R (S.tie x y).2
    unfold Stt.tie
    by_cases c : S.there x = false ∨ S.there y = false
    · rw [if_pos c]; exact h
    rw [if_neg c]
    by_cases c2 : x = y
    · rw [if_pos c2]; exact h
    rw [if_neg c2]
    dsimp only
    by_cases c3 : (x, y) ∈ S.ties
    · rw [if_pos c3]; exact h
    rw [if_neg c3]
    exact k.tie S wf i h _
  | untie x y =>
    show R (S.untie x y).2
    unfold Stt.untie
    by_cases c : S.there x = false ∨ S.there y = false
    · rw [if_pos c]; exact h
    rw [if_neg c]
    by_cases c2 : (x, y) ∉ S.ties
    · rw [if_pos c2]; exact h
    rw [if_neg c2]
    exact k.tie S wf i h _
  | cast n =>
    show R (S.cast n).2
    unfold Stt.cast
    by_cases c : S.there n = false
    · rw [if_pos c]; exact h
    rw [if_neg c]
    exact k.cas S wf i h n (by simpa using c)
  | back n =>
    show R (S.back n).2
    unfold Stt.back
    by_cases c : n ∉ S.casts.map (·.1)
    · rw [if_pos c]; exact h
    rw [if_neg c]
    exact k.bak S wf i h n (by simpa using c)
  | gone n =>
    show R (S.gone n).2
    unfold Stt.gone
    by_cases c : n ∉ S.casts.map (·.1)
    · rw [if_pos c]; exact h
    rw [if_neg c]
    exact k.los S wf i h n
  | empty => exact k.all _ S wf i h
  | nextDay => exact k.all _ _ (wf_day wf) (inv_day i) (k.day S wf i h)
end
end Ho

set_option Elab.async false
set_option linter.all false
set_option maxRecDepth 100000
set_option maxHeartbeats 4000000
/-! C6: bounds, cells, deeds that are drawn. -/
namespace Ho
open PySem PySem.Spec PyProof.Rows L2
section
variable {P : Program} {w : World} {K : PySem.W.Frag} {mg : Str → Option Value} {base : Heap} {σ : L2.St} {H H' : Hp} {ta tb te tx td tl : TE} {b : SA} {S S' : Stt} {E : XK} {De : Ends} {tz : TS}
/-! ### _law_bounds, _law_cells -/
def bnd1 (c : Int) : Int := 1 + mixI c 9859 9
def bnd2 (c : Int) : Int := 5 + mixI c 9857 36
def sp_law_bounds (K : PySem.W.Frag) : Sp := fun vs H Q _ => ∃ c : Int, vs = [.int c] ∧ RetD (.tup [.int (bnd1 c), .int (bnd2 c)]) H Q
theorem sc_law_bounds : FnScope ["_law_cell_here"] ["_law_cell_here"] (defScope s_law_bounds) := ⟨rfl, rfl, rfl, by decide +kernel, rfl, by decide +kernel, by decide +kernel⟩
theorem ok_law_bounds (T : Tx K mg) : FnR P w K mg base (L2.CX P w) 2 (He.ga K "_law_bounds") (sp_law_bounds K) := by
  refine fnr (F_law_bounds T) sc_law_bounds (fun _ _ _ _ _ _ us hl => match us, hl with | [_], _ => rfl) (fun vs H Q E h => by obtain ⟨_, rfl, _⟩ := h; rfl) (fun cdv A outer s H vs Q E hr h => ?_)
  refine ⟨_, PSs.nox (pss_one (ps_ret (pe_tup (pa_cons (pe_op op_add pe_int (pe_callF (ok_law_mix T) (hr.mono (by decide)) (T_law_mix T).1 (T_law_mix T).2 passL (pa_cons (pv 0) (pa_cons pe_int (pa_cons pe_int pa_nil))))) (pa_cons (pe_op op_add pe_int (pe_callF (ok_law_mix T) (hr.mono (by decide)) (T_law_mix T).1 (T_law_mix T).2 passL (pa_cons (pv 0) (pa_cons pe_int (pa_cons pe_int pa_nil))))) pa_nil))))), ?_⟩
  obtain ⟨c, rfl, k⟩ := h
  exact s_ret (ev_tup (ea_cons (ev_add ev_int (e_mix (ev_vi rfl) ev_int ev_int (by decide) (by decide))) (ea_cons (ev_add ev_int (e_mix (ev_vi rfl) ev_int ev_int (by decide) (by decide))) ea_nil)) le_lit) k
theorem t_bounds {c : Int} {t1 : TE} (h1 : EvD t1 σ H (.int c)) : EvD (tCallF (sp_law_bounds K) E (tCons t1 tNil)) σ H (.tup [.int (bnd1 c), .int (bnd2 c)]) :=
  ev_call (ea_cons h1 ea_nil) fun vs H1 s as Q q => by
    cases as with | cons a1 as => cases as; cases a1; exact ⟨c, rfl, q⟩
def cellsI (s : List Int) (first many : Nat) : List Int := (List.range many).map fun t : Nat => s.getD (first + t % 7) 0 + 41 * (t : Int) + (first : Int)
def sp_law_cells (K : PySem.W.Frag) : Sp := fun vs H Q _ => ∃ (l : Addr) (s : List Int) (first many : Nat), vs = [.ref l, .int first, .int many] ∧ SqL K H l (s.map V.int) ∧ many ≤ 1000 ∧ RetL ((cellsI s first many).map D.int) H Q
theorem sc_law_cells : FnScope ["_law_script", "_law_first", "_law_many", "_law_turn"] ["_law_script", "_law_first", "_law_many"] (defScope s_law_cells) := ⟨rfl, rfl, rfl, by decide +kernel, rfl, by decide +kernel, by decide +kernel⟩
theorem ok_law_cells (T : Tx K mg) : FnR P w K mg base (L2.CX P w) 2 (He.ga K "_law_cells") (sp_law_cells K) := by
  refine fnr (F_law_cells T) sc_law_cells (fun _ _ _ _ _ _ us hl => match us, hl with | [_, _, _], _ => rfl) (fun vs H Q E h => by obtain ⟨_, _, _, _, rfl, _⟩ := h; rfl) (fun cdv A outer s H vs Q E hr h => ?_)
  refine ⟨_, PSs.nox (pss_one (ps_ret (pe_lc (own := [("_law_turn", 3)]) rfl sc_law_cells.nd (pi_range1 rfl (T_range T) (pa_cons (pv 2) pa_nil)) (blkOk_by (N := ["_law_script", "_law_first", "_law_many", "_law_turn"]) (sc := defScope s_law_cells) (by decide +kernel)) (fun _ _ _ _ _ => (pg_name (i := 3) sc_law_cells.nd rfl (Or.inl rfl))) (fun _ _ _ _ _ => pts_nil) (fun _ _ _ _ _ => (pe_op op_add (pe_op op_add (pe_callF (ok_law_cell T) (hr.mono (by decide)) (T_law_cell T).1 (T_law_cell T).2 passL (pa_cons (pv 0) (pa_cons (pe_op op_add (pv 1) (pe_op op_mod (pv 3) pe_int)) pa_nil))) (pe_op op_mul pe_int (pv 3))) (pv 1)))))), ?_⟩
  obtain ⟨l, s0, f, m, rfl, hl, hm, k⟩ := h
  refine s_retN ((en_lcR1 (hi := (m : Int)) (fun _ => true) (fun x : Int => D.int (s0.getD (f + x.toNat % 7) 0 + 41 * x + (f : Int))) (ea_cons (ev_vi rfl) ea_nil) (by omega) (fun _ => rfl) (fun _ => rfl) fun n n1 n2 G sg => ⟨et_yes, fun _ => ?_⟩).is ?_) k
  · refine ev_add (ev_add (e_cell (K := K) (i := f + n.toNat % 7) (sql_same sg hl) (ev_vr rfl) ((ev_add (ev_vi rfl) (ev_mod (ev_var rfl (.int n)) ev_int (by decide))).is ?_)) (ev_mul ev_int (ev_var rfl (.int n)) (.inl (by decide)))) (ev_vi rfl)
    congr 1
    omega
  · rw [List.filter_eq_self.mpr (by simp), List.map_map, Int.toNat_natCast]
    unfold cellsI
    rw [List.map_map]
    refine List.map_congr_left fun i _ => ?_
    show D.int (s0.getD (f + ((i : Int)).toNat % 7) 0 + 41 * (i : Int) + (f : Int)) = D.int (s0.getD (f + i % 7) 0 + 41 * (i : Int) + (f : Int))
    rw [Int.toNat_natCast]
theorem tn_cells {s0 : List Int} {f m : Nat} {l : Addr} {t1 t2 t3 : TE} (hl : SqL K H l (s0.map V.int)) (hm : m ≤ 1000) (h1 : EvD t1 σ H (.ref l)) (h2 : EvD t2 σ H (.int f)) (h3 : EvD t3 σ H (.int m)) : EvN (tCallF (sp_law_cells K) E (tCons t1 (tCons t2 (tCons t3 tNil)))) σ H ((cellsI s0 f m).map D.int) :=
  en_call (ea_cons h1 (ea_cons h2 (ea_cons h3 ea_nil))) fun vs H1 s as Q q => by
    cases as with | cons a1 as => cases as with | cons a2 as => cases as with | cons a3 as => cases as; cases a1; cases a2; cases a3; exact ⟨l, s0, f, m, rfl, sql_same s hl, hm, q⟩
theorem ev_lenDk {rr : Addr} {l : List (Int × D)} (h : DAt H rr l) (hd : EvD td σ H (.ref rr)) : EvD (tCB (fun xs H Q => ∃ a kvs, xs = [V.ref a] ∧ H a = some (.dK kvs) ∧ Q (.int kvs.length) H) (tCons td tNil)) σ H (.int (l.length : Int)) :=
  ev_cb (ea_cons hd ea_nil) fun vs H1 s as Q q => by
    cases as with
    | cons a as =>
      cases as; cases a
      obtain ⟨kvs, h1, h2⟩ := h.mono s
      refine ⟨rr, kvs, rfl, h1, ?_⟩
      rw [← h2.length]
      exact q _ H1 (Same.refl H1) (.int _)
/-! ### _law_deed -/
def nmS (c : Int) : Str := (["a", "b", "ab", ltrs c 1, ltrs c 3, "c"] : List Str).getD (mixI c 9907 6).toNat ""
theorem nmS_len (c : Int) : (nmS c).length ≤ 3 := by
  unfold nmS
  generalize (mixI c 9907 6).toNat = j
  match j with
  | 0 => exact (by decide : ("a" : Str).length ≤ 3)
  | 1 => exact (by decide : ("b" : Str).length ≤ 3)
  | 2 => exact (by decide : ("ab" : Str).length ≤ 3)
  | 3 => exact Nat.le_trans (ltrs_len c 1) (by decide)
  | 4 => exact ltrs_len c 3
  | 5 => exact (by decide : ("c" : Str).length ≤ 3)
  | j + 6 => exact Nat.zero_le 3
theorem ev_slS {z : Str} {i : Int} {t1 t2 : TE} (hz : z.length ≤ 1000000) (h1 : EvD t1 σ H (.str z)) (h2 : EvD t2 σ H (.int i)) : EvD (tSl rSlS t1 (tPart t2) tNoPart) σ H (.str (cutS z (some i) none)) := fun H1 s Q q =>
  h1 H1 s _ fun v H2 s2 av => h2 H2 (s.trans s2) _ fun u H3 s3 au => by
    cases av; cases au
    exact ⟨i, rfl, z, rfl, sz_of (by omega), q _ H3 (s2.trans s3) (.str _)⟩
theorem ev_repl {x : Str} {t1 : TE} {y z : Str} (hz : x.length + (x.length + 1) * z.length ≤ 16777216) (h1 : EvD t1 σ H (.str x)) : EvD (CwR.tReplC t1 y z) σ H (.str (Txt.replace x y z)) := fun H1 s Q q =>
  h1 H1 s _ fun v H2 s2 av => by
    cases av
    exact ⟨x, rfl, hz, q _ H2 s2 (.str _)⟩
def txS (c : Int) : Str := Txt.replace (cutS (ltrs (c + 3) 9) (some (mixI c 9887 10)) none) "e" " "
theorem txS_len0 (c : Int) : (cutS (ltrs (c + 3) 9) (some (mixI c 9887 10)) none).length ≤ 9 := Nat.le_trans (cutS_length _ _ _) (ltrs_len _ 9)
theorem txS_len (c : Int) : (txS c).length ≤ 100 := by
  have z := TK.replace_len (cutS (ltrs (c + 3) 9) (some (mixI c 9887 10)) none) "e" " "
  have y := txS_len0 c
  have e : (" " : Str).length = 1 := by decide
  rw [e] at z
  unfold txS
  omega
/-! ### signs of what is drawn -/
theorem glueL_nil : ∀ l : List Str, PySem.StrLaws.glueL [] l = l.flatMap fun x => x.cps.toList
  | [] => rfl
  | p :: r => by
    show [] ++ (p.cps.toList ++ PySem.StrLaws.glueL [] r) = _
    rw [glueL_nil r]; rfl
theorem join0 (l : List Str) : (Txt.join "" l).cps.toList = l.flatMap fun x => x.cps.toList := by
  cases l with
  | nil => rfl
  | cons p r =>
    show (PySem.Builtin.Str.glued "" (p :: r)).cps.toList = _
    rw [PySem.StrLaws.glued_list]
    show p.cps.toList ++ PySem.StrLaws.glueL [] r = _
    rw [glueL_nil r]; rfl
theorem ltrs_list (c : Int) (m : Nat) : (ltrs c m).cps.toList = (List.range m).map fun k : Nat => abc.cps.toList.getD (mixI (c + 7 * (k : Int)) 9829 26).toNat 0 := by
  unfold ltrs
  rw [join0, List.flatMap_map]
  show ((List.range m).flatMap fun k : Nat => [abc.cps.toList.getD (mixI (c + 7 * (k : Int)) 9829 26).toNat 0]) = _
  exact (List.map_eq_flatMap ..).symm
theorem abc_lt : ∀ j : Nat, j < 26 → ltc (abc.cps.toList.getD j 0) := by unfold ltc; decide +kernel
theorem ltrs_lt (c : Int) (m : Nat) : ltN (ltrs c m) := fun x hx => by
  rw [ltrs_list] at hx
  obtain ⟨k, _, rfl⟩ := List.mem_map.mp hx
  have mm := mix_lt (c := c + 7 * (k : Int)) (p := 9829) (m := 26) (by decide)
  exact abc_lt _ (by omega)
theorem ltrs_n (c : Int) (m : Nat) : (ltrs c m).cps.toList.length = m := by rw [ltrs_list, List.length_map, List.length_range]
theorem nmS_fine (c : Int) : ltN (nmS c) ∧ nmS c ≠ "" ∧ nmS c ≠ "xy" ∧ nmS c ≠ "xz" := by
  have m6 := mix_lt (c := c) (p := 9907) (m := 6) (by decide)
  have lt : (mixI c 9907 6).toNat < 6 := by omega
  have w : ∀ x : Str, (decide (x.cps.toList.all (fun c => decide (97 ≤ c) && decide (c ≤ 122)) = true) && (decide (x ≠ "") && (decide (x ≠ "xy") && decide (x ≠ "xz")))) = true → ltN x ∧ x ≠ "" ∧ x ≠ "xy" ∧ x ≠ "xz" := fun x h => by
    simp only [Bool.and_eq_true, decide_eq_true_eq] at h
    refine ⟨fun c hc => ?_, h.2⟩
    have z := List.all_eq_true.mp h.1 c hc
    exact (by simpa using z : 97 ≤ c ∧ c ≤ 122)
  have l : ∀ m : Nat, m ≠ 0 → m ≠ 2 → ltN (ltrs c m) ∧ ltrs c m ≠ "" ∧ ltrs c m ≠ "xy" ∧ ltrs c m ≠ "xz" := fun m h0 h2 => by
    have n := ltrs_n c m
    refine ⟨ltrs_lt c m, fun z => ?_, fun z => ?_, fun z => ?_⟩
    · rw [z] at n; exact h0 n.symm
    · rw [z] at n; exact h2 n.symm
    · rw [z] at n; exact h2 n.symm
  unfold nmS
  generalize (mixI c 9907 6).toNat = j at lt
  match j, lt with
  | 0, _ => exact w "a" (by decide +kernel)
  | 1, _ => exact w "b" (by decide +kernel)
  | 2, _ => exact w "ab" (by decide +kernel)
  | 3, _ => exact l 1 (by decide) (by decide)
  | 4, _ => exact l 3 (by decide) (by decide)
  | 5, _ => exact w "c" (by decide +kernel)
theorem replS_mem {y z : List Nat} {c : Nat} : ∀ (l : List Nat) (s : Nat), c ∈ PySem.StrLaws.replS y z s l → c ∈ z ∨ c ∈ l
  | [], s, h => by unfold PySem.StrLaws.replS at h; cases h
  | d :: r, 0, h => by
    rw [PySem.StrLaws.replS] at h
    by_cases q : (d :: r).take y.length = y
    · rw [if_pos q] at h
      rcases List.mem_append.mp h with w | w
      · exact .inl w
      · exact (replS_mem r _ w).imp id (List.mem_cons_of_mem _)
    · rw [if_neg q] at h
      rcases List.mem_cons.mp h with w | w
      · exact .inr (by rw [w]; exact List.mem_cons_self)
      · exact (replS_mem r _ w).imp id (List.mem_cons_of_mem _)
  | d :: r, s + 1, h => by
    rw [PySem.StrLaws.replS] at h
    exact (replS_mem r s h).imp id (List.mem_cons_of_mem _)
theorem txS_fine (c : Int) : txN (txS c) := fun x hx => by
  unfold txS at hx
  rw [PySem.StrLaws.replace_list (by decide)] at hx
  rcases replS_mem _ _ hx with z | z
  · have e : (" " : Str).cps.toList = [32] := by decide
    rw [e] at z
    exact .inl (List.mem_singleton.mp z)
  · have w : x ∈ (ltrs (c + 3) 9).cps.toList := by
      have z2 : x ∈ ((ltrs (c + 3) 9).cps.toList.drop _).take _ := z
      exact List.mem_of_mem_drop (List.mem_of_mem_take z2)
    exact .inr (ltrs_lt _ _ x w)
theorem wIn {x y : Str} {ws : List Str} (e : x = y) (h : x ∈ ws) : y ∈ ws := e ▸ h
theorem wOr {x y : Str} {ws : List Str} (e : x = y) (h : x ∈ ws ∨ x = "move") : y ∈ ws ∨ y = "move" := e ▸ h
abbrev cpOk (ws : List Str) : Prop := True
def sp_law_deed (K : PySem.W.Frag) : Sp := fun vs H Q _ => ∃ (b : SA) (S : Stt) (c : Int) (wa : Addr) (ws : List Str), vs = [.int c, .ref b.p, .ref wa] ∧ StAt H b S ∧ S.Wf ∧ 0 ≤ S.count ∧ H wa = some (.tup (ws.map V.str)) ∧ ws ≠ [] ∧ (∀ x ∈ ws, x ∈ words12) ∧ cpOk ws ∧ ∀ d : Deed, d.ok S → d.fine → (d.word ∈ ws ∨ d.word = "move") → RetD d.D H Q
theorem sc_law_deed : FnScope ["_law_cell_here", "_law_state", "_law_words", "_law_word_here", "_law_number_here", "_law_name", "_law_pairs", "_law_some", "_law_row"] ["_law_cell_here", "_law_state", "_law_words"] (defScope s_law_deed) := ⟨rfl, rfl, rfl, by decide +kernel, rfl, by decide +kernel, by decide +kernel⟩
theorem ok_law_deed (T : Tx K mg) : FnR P w K mg base (L2.CX P w) 4 (He.ga K "_law_deed") (sp_law_deed K) := by
  refine fnr (F_law_deed T) sc_law_deed (fun _ _ _ _ _ _ us hl => match us, hl with | [_, _, _], _ => rfl) (fun vs H Q E h => by obtain ⟨_, _, _, _, _, rfl, _⟩ := h; rfl) (fun cdv A outer s H vs Q E hr h => ?_)
  refine ⟨_, PSs.nox (pss_cons (ps_set (i := 3) sc_law_deed.nd rfl (Or.inl rfl) (pe_ix (ixtK K) (pv 2) (pe_callF (ok_law_mix T) (hr.mono (by decide)) (T_law_mix T).1 (T_law_mix T).2 passL (pa_cons (pv 0) (pa_cons pe_int (pa_cons (pe_callB (lenK K) rfl (T_len T) bt_len (pa_cons (pv 2) pa_nil)) pa_nil)))) (fun _ _ => rfl))) (pss_cons (ps_set (i := 4) sc_law_deed.nd rfl (Or.inl rfl) (pe_callF (ok_law_number T) (hr.mono (by decide)) (T_law_number T).1 (T_law_number T).2 passL (pa_cons (pe_op op_add (pv 0) pe_int) (pa_cons (pv 1) pa_nil)))) (pss_cons (ps_set (i := 5) sc_law_deed.nd rfl (Or.inl rfl) (pe_ix (ixtK K) (pe_tup (pa_cons pe_str (pa_cons pe_str (pa_cons pe_str (pa_cons (pe_callF (ok_law_letters T) (hr.mono (by decide)) (T_law_letters T).1 (T_law_letters T).2 passL (pa_cons (pv 0) (pa_cons pe_int pa_nil))) (pa_cons (pe_callF (ok_law_letters T) (hr.mono (by decide)) (T_law_letters T).1 (T_law_letters T).2 passL (pa_cons (pv 0) (pa_cons pe_int pa_nil))) (pa_cons pe_str pa_nil))))))) (pe_callF (ok_law_mix T) (hr.mono (by decide)) (T_law_mix T).1 (T_law_mix T).2 passL (pa_cons (pv 0) (pa_cons pe_int (pa_cons pe_int pa_nil)))) (fun _ _ => rfl))) (pss_cons (ps_if (pt_cmpR op_eq (pv 3) pe_str (nomark _)) (pss_one (ps_ret (pe_tup (pa_cons pe_str (pa_cons (pe_callF (ok_law_parent T) (hr.mono (by decide)) (T_law_parent T).1 (T_law_parent T).2 passL (pa_cons (pe_op op_add (pv 0) pe_int) (pa_cons (pv 1) pa_nil))) (pa_cons (pv 5) (pa_cons (pe_cmpR op_eq (pe_callF (ok_law_mix T) (hr.mono (by decide)) (T_law_mix T).1 (T_law_mix T).2 passL (pa_cons (pv 0) (pa_cons pe_int (pa_cons pe_int pa_nil)))) pe_int (nomark _)) pa_nil))))))) pss_nil) (pss_cons (ps_if (pt_cmpR op_eq (pv 3) pe_str (nomark _)) (pss_one (ps_ret (pe_tup (pa_cons pe_str (pa_cons (pv 4) (pa_cons (pv 5) pa_nil)))))) pss_nil) (pss_cons (ps_if (PW.pt (pw_and (pt_cmpR op_eq (pv 3) pe_str (nomark _)) (pw_and1 (pt_cmpR op_gt (pe_callB call_lenD rfl (T_len T) bt_len (pa_cons (pe_dget (hu_of hr) (pv 1) pe_str (fun _ _ => rfl)) pa_nil)) pe_int (nomark _))))) (pss_one (ps_set (i := 3) sc_law_deed.nd rfl (Or.inl rfl) pe_str)) pss_nil) (pss_cons (ps_if (pt_cmpR (inK K) (pv 3) (pe_tup (pa_cons pe_str (pa_cons pe_str pa_nil))) rfl) (pss_one (ps_ret (pe_tup (pa_cons (pv 3) (pa_cons (pv 4) (pa_cons (pe_callF (ok_law_parent T) (hr.mono (by decide)) (T_law_parent T).1 (T_law_parent T).2 passL (pa_cons (pe_op op_add (pv 0) pe_int) (pa_cons (pv 1) pa_nil))) pa_nil)))))) pss_nil) (pss_cons (ps_if (pt_cmpR op_eq (pv 3) pe_str (nomark _)) (pss_one (ps_ret (pe_tup (pa_cons pe_str (pa_cons (pv 4) (pa_cons (pe_repl1 (pe1_slice sl_str (pe1_callF (ok_law_letters T) (hr.mono (by decide)) (T_law_letters T).1 (T_law_letters T).2 passL (pa1_cons (pe1_op op_add (pv 0) pe1_int) (pa_cons pe_int pa_nil))) (po_some (pe_callF (ok_law_mix T) (hr.mono (by decide)) (T_law_mix T).1 (T_law_mix T).2 passL (pa_cons (pv 0) (pa_cons pe_int (pa_cons pe_int pa_nil))))) po_none)) pa_nil)))))) pss_nil) (pss_cons (ps_if (pt_cmpR (inK K) (pv 3) (pe_tup (pa_cons pe_str (pa_cons pe_str pa_nil))) rfl) (pss_cons (ps_set (i := 6) sc_law_deed.nd rfl (Or.inl rfl) (pe_dget (hu_of hr) (pv 1) pe_str (fun _ _ => rfl))) (pss_cons (ps_if (PW.pt (pw_and (pt_cmpR op_eq (pv 3) pe_str (nomark _)) (pw_and (truK K (pv 6)) (pw_and1 (pt_cmpR op_gt (pe_op op_mod (pv 0) pe_int) pe_int (nomark _)))))) (pss_one (ps_ret (pe_op (catTK K) (pe_tup (pa_cons pe_str pa_nil)) (pe_ix (ixlK K) (pv 6) (pe_callF (ok_law_mix T) (hr.mono (by decide)) (T_law_mix T).1 (T_law_mix T).2 passL (pa_cons (pv 0) (pa_cons pe_int (pa_cons (pe_callB (lenK K) rfl (T_len T) bt_len (pa_cons (pv 6) pa_nil)) pa_nil)))) (fun _ _ => rfl))))) pss_nil) (pss_one (ps_ret (pe_tup (pa_cons (pv 3) (pa_cons (pv 4) (pa_cons (pe_callF (ok_law_number T) (hr.mono (by decide)) (T_law_number T).1 (T_law_number T).2 passL (pa_cons (pe_op op_add (pv 0) pe_int) (pa_cons (pv 1) pa_nil))) pa_nil)))))))) pss_nil) (pss_cons (ps_if (pt_cmpR (inK K) (pv 3) (pe_tup (pa_cons pe_str (pa_cons pe_str pa_nil))) rfl) (pss_cons (ps_set (i := 7) sc_law_deed.nd rfl (Or.inl rfl) (pe_op op_cat (pe_lc (own := [("_law_row", 8)]) rfl sc_law_deed.nd (pilK K (pe_dget (hu_of hr) (pv 1) pe_str (fun _ _ => rfl))) (blkOk_by (N := ["_law_cell_here", "_law_state", "_law_words", "_law_word_here", "_law_number_here", "_law_name", "_law_pairs", "_law_some", "_law_row"]) (sc := defScope s_law_deed) (by decide +kernel)) (fun _ _ _ _ _ => (pg_name (i := 8) sc_law_deed.nd rfl (Or.inl rfl))) (fun _ _ _ _ _ => pts_nil) (fun _ _ _ _ _ => (pe_ix (ixtK K) (pv 8) pe_int (fun _ _ => rfl)))) (pe_lst (pa_cons (pv 4) pa_nil)))) (pss_one (ps_ret (pe_tup (pa_cons (pv 3) (pa_cons (pe_ix (ixlK K) (pv 7) (pe_callF (ok_law_mix T) (hr.mono (by decide)) (T_law_mix T).1 (T_law_mix T).2 passL (pa_cons (pv 0) (pa_cons pe_int (pa_cons (pe_callB (lenK K) rfl (T_len T) bt_len (pa_cons (pv 7) pa_nil)) pa_nil)))) (fun _ _ => rfl)) pa_nil)))))) pss_nil) (pss_one (ps_ret (pe_ifExp (pt_cmpR op_eq (pv 3) pe_str (nomark _)) (pe_tup (pa_cons pe_str (pa_cons (pv 4) pa_nil))) (pe_tup (pa_cons (pv 3) pa_nil))))))))))))))), ?_⟩
  obtain ⟨b, S, c, wa, ws, rfl, h, wf, c0, hw, wne, wok, cpo, k⟩ := h
  have ln := wf.klen
  have lw : (0 : Int) < ws.length := by
    have := List.length_pos_iff.mpr wne
    omega
  have mw := mix_lt (c := c) (p := 9923) lw
  have ltw : (mixI c 9923 ws.length).toNat < ws.length := by omega
  obtain ⟨wd, hwd⟩ : ∃ wd, ws[(mixI c 9923 ws.length).toNat]? = some wd := ⟨_, List.getElem?_eq_getElem ltw⟩
  have hws : wd ∈ ws := List.mem_of_getElem? hwd
  have hwm : wd ∈ words12 := wok wd hws
  have awT : ∀ {G : Hp}, Same H G → At G (.tup (ws.map D.str)) (.ref wa) := fun s => .tup (s _ _ hw) (ats_strs ws)
  refine q_asg (d := .str wd) (ev_ixTe (ev_var rfl (awT (Same.refl H))) (e_mix (ev_vi rfl) ev_int ((ev_lenT (ev_var rfl (awT (Same.refl H)))).is (by rw [List.length_map])) (by decide) lw) (show mixI c 9923 ws.length = (((mixI c 9923 ws.length).toNat : Nat) : Int) by omega) (by rw [List.getElem?_map, hwd]; rfl)) fun v H1 s1 av => ?_
  cases av
  have h1 := h.mono s1
  generalize hn : numI S (c + 1) = n
  refine q_asg (d := .int n) ((t_number h1.rd wf c0 (ev_add (ev_vi rfl) ev_int) (ev_vr rfl)).is (by rw [hn])) fun v H2 s2 av => ?_
  cases av
  have h2 := h1.mono s2
  have m6 := mix_lt (c := c) (p := 9907) (m := 6) (by decide)
  refine q_asg (d := .str (nmS c)) (ev_ixTe (ev_tup (ea_cons ev_str (ea_cons ev_str (ea_cons ev_str (ea_cons (t_letters (c := c) (m := 1) (by decide) (ev_vi rfl) ev_int) (ea_cons (t_letters (c := c) (m := 3) (by decide) (ev_vi rfl) ev_int) (ea_cons ev_str ea_nil)))))) le_lit) (e_mix (c := c) (ev_vi rfl) ev_int ev_int (by decide) (by decide)) (k := (mixI c 9907 6).toNat) (by omega) ?_) fun v H3 s3 av => ?_
  · have lt : (mixI c 9907 6).toNat < 6 := by omega
    unfold nmS
    generalize (mixI c 9907 6).toNat = j at lt
    match j, lt with
    | 0, _ => rfl
    | 1, _ => rfl
    | 2, _ => rfl
    | 3, _ => rfl
    | 4, _ => rfl
    | 5, _ => rfl
  cases av
  have s13 := (s1.trans s2).trans s3
  have h3 := h.mono s13
  refine q_ifN (et_test (ev_eqS (ev_vs rfl) ev_str)) (fun q H4 s4 => ?_) fun q1 H4 s4 => ?_
  · have s14 := s13.trans s4
    exact s_ret (ev_tup (ea_cons ev_str (ea_cons (t_parent (c := c + 2) (h.mono s14).rd wf c0 (ev_add (ev_vi rfl) ev_int) (ev_vr rfl)) (ea_cons (ev_vs rfl) (ea_cons (ev_eqI (e_mix (c := c) (ev_vi rfl) ev_int ev_int (by decide) (by decide)) ev_int) ea_nil)))) le_lit) (RetD.mono (k (.make (parI S (c + 2)) (nmS c) _) (nmS_len c) (nmS_fine c) (.inl (wIn (of_decide_eq_true q) hws))) s14)
  have s14 := s13.trans s4
  refine q_ifN (et_test (ev_eqS (ev_vs rfl) ev_str)) (fun q H5 s5 => ?_) fun q2 H5 s5 => ?_
  · exact s_ret (ev_tup (ea_cons ev_str (ea_cons (ev_vi rfl) (ea_cons (ev_vs rfl) ea_nil))) le_lit) (RetD.mono (k (.rename n (nmS c)) (nmS_len c) (nmS_fine c) (.inl (wIn (of_decide_eq_true q) hws))) (s14.trans s5))
  have s15 := s14.trans s5
  refine q_if2 (b := decide (wd = "copy") && decide ((12 : Int) < (S.rows.length : Int))) (fun σ' => ∃ w2 : Str, σ' = [some (.int c), some (.ref b.p), some (.ref wa), some (.str w2), some (.int n), some (.str (nmS c)), none, none, none] ∧ w2 ∈ words12 ∧ w2 ≠ "make" ∧ w2 ≠ "rename" ∧ (w2 = "copy" → S.rows.length ≤ 12) ∧ (w2 ∈ ws ∨ w2 = "move")) (et_and (et_test (ev_eqS (ev_vs rfl) ev_str)) fun _ => et_test (ev_gt ((ev_lenDk (h.mono s15).rows (t_rows (h.mono s15).rd (ev_vr rfl))).is (by unfold rows4; rw [List.length_map])) ev_int)) (fun σ' H6 hσ s6 => ?_) (fun q kk H6 s6 => ?_) fun q kk H6 s6 => ?_
  · obtain ⟨w2, rfl, o1, o2, o3, o4, o5⟩ := hσ
    have s16 := s15.trans s6
    have h6 := h.mono s16
    refine q_ifN (et_test (ev_inTS (l := ["move", "copy"]) (ev_vs rfl) (ev_tup (ea_cons ev_str (ea_cons ev_str ea_nil)) le_lit))) (fun q H7 s7 => ?_) fun q4 H7 s7 => ?_
    · have q := of_decide_eq_true q
      have s17 := s16.trans s7
      refine s_ret (ev_tup (ea_cons (ev_vs rfl) (ea_cons (ev_vi rfl) (ea_cons (t_parent (c := c + 3) (h.mono s17).rd wf c0 (ev_add (ev_vi rfl) ev_int) (ev_vr rfl)) ea_nil))) le_lit) ?_
      rcases List.mem_cons.mp q with e | e
      · subst e; exact RetD.mono (k (.move n (parI S (c + 3))) trivial trivial (.inr rfl)) s17
      · have e := List.mem_singleton.mp e
        subst e; exact RetD.mono (k (.copy n (parI S (c + 3))) (o4 rfl) trivial (o5.imp id id)) s17
    have q4 := of_decide_eq_false q4
    have s17 := s16.trans s7
    refine q_ifN (et_test (ev_eqS (ev_vs rfl) ev_str)) (fun q H8 s8 => ?_) fun q5 H8 s8 => ?_
    · have zl := txS_len0 c
      have el : (" " : Str).length = 1 := by decide
      exact s_ret (ev_tup (ea_cons ev_str (ea_cons (ev_vi rfl) (ea_cons (ev_repl (x := cutS (ltrs (c + 3) 9) (some (mixI c 9887 10)) none) (by rw [el]; omega) (ev_slS (Nat.le_trans (ltrs_len _ 9) (by decide)) (t_letters (c := c + 3) (m := 9) (by decide) (ev_add (ev_vi rfl) ev_int) ev_int) (e_mix (ev_vi rfl) ev_int ev_int (by decide) (by decide)))) ea_nil))) le_lit) (RetD.mono (k (.write n (txS c)) (txS_len c) (txS_fine c) (wOr (of_decide_eq_true q) o5)) (s17.trans s8))
    have q5 := of_decide_eq_false q5
    have s18 := s17.trans s8
    refine q_ifN (et_test (ev_inTS (l := ["tie", "untie"]) (ev_vs rfl) (ev_tup (ea_cons ev_str (ea_cons ev_str ea_nil)) le_lit))) (fun q H9 s9 => ?_) fun q6 H9 s9 => ?_
    · have q := of_decide_eq_true q
      have s19 := s18.trans s9
      have h9 := h.mono s19
      obtain ⟨ts, p1, p2⟩ := h9.ties
      refine q_asg (t_tiesR h9.rd (ev_vr rfl)) fun v H10 s10 av => ?_
      cases av
      have s110 := s19.trans s10
      have atT : ∀ {G : Hp}, Same H10 G → At G (.lst (S.ties.map pairD)) (.ref b.t) := fun s => .lst (s _ _ (s10 _ _ p1)) ((p2.mono s10).mono s)
      have tm : (S.ties.map pairD).isEmpty = S.ties.isEmpty := by cases S.ties <;> rfl
      refine q_ifN (b := decide (w2 = "untie") && (!S.ties.isEmpty && decide (0 < c % 3))) (et_and (et_test (ev_eqS (ev_vs rfl) ev_str)) fun _ => cond_and (et_tru (d := .lst (S.ties.map pairD)) (ev_var rfl (atT (Same.refl _))) trivial) (fun _ => et_test (ev_gt (ev_mod (ev_vi rfl) ev_int (by decide)) ev_int)) (by rw [show D.tru (.lst (S.ties.map pairD)) = !(S.ties.map pairD).isEmpty from rfl, tm])) (fun q7 H11 s11 => ?_) fun q7 H11 s11 => ?_
      · rw [Bool.and_eq_true, Bool.and_eq_true] at q7
        have ne : S.ties ≠ [] := fun z => by rw [z] at q7; simp at q7
        have lp : (0 : Int) < S.ties.length := by
          have := List.length_pos_iff.mpr ne
          omega
        have mt := mix_lt (c := c) (p := 9883) lp
        have lt : (mixI c 9883 S.ties.length).toNat < S.ties.length := by omega
        obtain ⟨p, hp⟩ : ∃ p, S.ties[(mixI c 9883 S.ties.length).toNat]? = some p := ⟨_, List.getElem?_eq_getElem lt⟩
        refine s_ret (ev_catT (ds := [.str "untie"]) (es := [.int p.1, .int p.2]) (ev_tup (ea_cons ev_str ea_nil) le_lit) (ev_ixL (ev_var rfl (atT s11)) (e_mix (ev_vi rfl) ev_int ((ev_lenL (ev_var rfl (atT s11))).is (by rw [List.length_map])) (by decide) lp) (k := (mixI c 9883 S.ties.length).toNat) (by omega) ?_) (by intro z; cases z) le_lit) (RetD.mono (k (.untie p.1 p.2) trivial trivial (wOr (of_decide_eq_true q7.1) o5)) (s110.trans s11))
        rw [List.getElem?_map, hp]; rfl
      · have s111 := s110.trans s11
        refine s_ret (ev_tup (ea_cons (ev_vs rfl) (ea_cons (ev_vi rfl) (ea_cons (t_number (c := c + 5) (h.mono s111).rd wf c0 (ev_add (ev_vi rfl) ev_int) (ev_vr rfl)) ea_nil))) le_lit) ?_
        rcases List.mem_cons.mp q with e | e
        · subst e; exact RetD.mono (k (.tie n (numI S (c + 5))) trivial trivial o5) s111
        · have e := List.mem_singleton.mp e
          subst e; exact RetD.mono (k (.untie n (numI S (c + 5))) trivial trivial o5) s111
    have q6 := of_decide_eq_false q6
    have s19 := s18.trans s9
    refine q_ifN (et_test (ev_inTS (l := ["back", "gone"]) (ev_vs rfl) (ev_tup (ea_cons ev_str (ea_cons ev_str ea_nil)) le_lit))) (fun q H10 s10 => ?_) fun q7 H10 s10 => ?_
    · have q := of_decide_eq_true q
      have s110 := s19.trans s10
      have h10 := h.mono s110
      have cl := wf.cl
      refine q_asgN ((en_cat (ds := (S.casts.map (·.1)).map D.int) (es := [.int n]) ((en_lc S.casts pairD (fun _ => true) (fun x => .int x.1) (t_casts h10.rd (ev_vr rfl)) (by omega) (fun _ _ => rfl) (fun _ => rfl) fun x hx v G sg av => ⟨et_yes, fun _ => ev_ixT (k := 0) (ev_var rfl av) rfl⟩).toD.is (by rw [List.filter_eq_self.mpr (by simp), List.map_map]; rfl)) (en_lst (ea_cons (ev_vi rfl) ea_nil) le_lit).toD (by simp only [List.length_map, List.length_cons, List.length_nil]; omega)).is (b := (S.casts.map (·.1) ++ [n]).map D.int) (by rw [List.map_append]; rfl)) fun L vs H11 hL s11 h11 as => ?_
      have e := Ats.ints as
      subst e
      refine s_ret (ev_tup (ea_cons (ev_vs rfl) (ea_cons (ev_pick h11 (by decide) (by simp) (ev_vi rfl) (ev_vr rfl)) ea_nil)) le_lit) ?_
      rcases List.mem_cons.mp q with e | e
      · subst e; exact RetD.mono (k (.back _) trivial trivial o5) (s110.trans s11)
      · have e := List.mem_singleton.mp e
        subst e; exact RetD.mono (k (.gone _) trivial trivial o5) (s110.trans s11)
    have q7 := of_decide_eq_false q7
    have s110 := s19.trans s10
    by_cases e : w2 = "cast"
    · subst e
      exact s_ret (ev_if ((et_test (ev_eqS (ev_vs rfl) ev_str)).is (b := true) (decide_eq_true rfl)) (fun _ => ev_tup (ea_cons ev_str (ea_cons (ev_vi rfl) ea_nil)) le_lit) (fun z => by cases z)) (RetD.mono (k (.cast n) trivial trivial o5) s110)
    · refine s_ret (ev_if ((et_test (ev_eqS (ev_vs rfl) ev_str)).is (b := false) (decide_eq_false e)) (fun z => by cases z) (fun _ => ev_tup (ea_cons (ev_vs rfl) ea_nil) le_lit)) ?_
      have o : w2 = "empty" ∨ w2 = "next_day" := by
        simp only [words12, List.mem_cons, List.not_mem_nil, or_false] at o1 q4 q6 q7
        rcases o1 with z | z | z | z | z | z | z | z | z | z | z | z
        · exact absurd z o2
        · exact absurd z o3
        · exact absurd (.inl z) q4
        · exact absurd (.inr z) q4
        · exact absurd z q5
        · exact absurd (.inl z) q6
        · exact absurd (.inr z) q6
        · exact absurd z e
        · exact absurd (.inl z) q7
        · exact absurd (.inr z) q7
        · exact .inl z
        · exact .inr z
      rcases o with z | z
      · subst z; exact RetD.mono (k .empty trivial trivial o5) s110
      · subst z; exact RetD.mono (k .nextDay trivial trivial o5) s110
  · rw [Bool.and_eq_true] at q
    refine s_asg ev_str fun v H7 s7 av => ?_
    cases av
    exact kk _ H7 ⟨"move", rfl, by decide, by decide, by decide, fun z => absurd z (by decide), .inr rfl⟩ (s6.trans s7)
  · refine kk _ H6 ⟨wd, rfl, hwm, of_decide_eq_false q1, of_decide_eq_false q2, fun z => ?_, .inl hws⟩ s6
    subst z
    simp only [decide_true, Bool.true_and, decide_eq_false_iff_not] at q
    omega
end
end Ho

set_option Elab.async false
set_option linter.all false
set_option maxRecDepth 100000
set_option maxHeartbeats 4000000
/-! C7: the law's own walk: what is gone, room. -/
namespace Ho
open PySem PySem.Spec PyProof.Rows L2
def Out.told : Out → D
  | .val d => d
  | .err k => .str k.word
section
variable {P : Program} {w : World} {K : PySem.W.Frag} {mg : Str → Option Value} {base : Heap} {σ : L2.St} {H H' : Hp} {ta tb te tx td tl : TE} {b : SA} {S S' : Stt} {E : XK} {De : Ends} {tz : TS}
/-- what a deed gives -/
def ResS (b : SA) (o : Out × Stt) (H : Hp) (Q : VK) : Prop := ∀ v b' H', b'.p = b.p → StAt H' b' o.2 → Mv b.all b'.all H H' → At H' o.1.told v → Q v H'
theorem ResS.mono {o : Out × Stt} {Q : VK} (r : ResS b o H Q) (s : Same H H') : ResS b o H' Q := fun v b' H2 e2 h m at_ => r v b' H2 e2 h ((Mv.of s).trans m) at_
theorem ress_of {o : Out × Stt} {d : D} {Q : VK} (r : ResS b o H Q) (e : o = (.val d, S')) : ∀ v b' H', b'.p = b.p → StAt H' b' S' → Mv b.all b'.all H H' → At H' d v → Q v H' := by subst e; exact r
theorem ress_err {o : Out × Stt} {k : Kd} {Q : VK} (r : ResS b o H Q) (e : o = (.err k, S)) (h : StAt H b S) : RetD (.str k.word) H Q := fun v H' s a => by subst e; exact r v b H' rfl (h.mono s) (Mv.of s) a
/-! ### changes of the state -/
theorem g_casts {cs : List (Int × Int)} (h : StAt H b S) (hv : EvN tx σ H (cs.map pairD)) (ho : EvD ta σ H (.ref b.p))
    (k : ∀ q H1, H q = none → StAt H1 { b with c := q } { S with casts := cs } → Mv b.all ({ b with c := q } : SA).all H H1 → De.nx σ H1) : sDPut ta (tC (.str "casts")) tx De σ H := hv H (Same.refl H) _ fun q vs H1 hq s1 h1 as => ho H1 s1 _ fun x H2 s2 ax => by
  cases ax
  have s := s1.trans s2
  have ht := h.mono s
  obtain ⟨v4, h4, _⟩ := h.ties
  refine ⟨b.p, _, rfl, DPut.k (k := Sum.inr "casts") ht.st (sz_lt (Nat.lt_of_le_of_lt (le_lit (by kernel_rfl)) (show 1000 < 10000000 by decide))), ?_⟩
  have e : putK (sKv b S) (Sum.inr "casts") (.ref q) = sKv { b with c := q } { S with casts := cs } := by kernel_rfl
  rw [e]
  refine k q _ hq (ht.castsTo (s2 _ _ h1) (as.mono s2) (Ne.symm (ne_of_none h4 hq))) (mv_upd2 s (by simp [SA.all]) ht.st (fun _ z => nomatch z) fun y hy => ?_)
  simp only [SA.all, List.mem_cons, List.not_mem_nil, or_false] at hy ⊢
  rcases hy with rfl | rfl | rfl | rfl
  · simp
  · simp
  · exact .inr hq
  · simp
theorem g_ties {cs : List (Int × Int)} (h : StAt H b S) (hv : EvN tx σ H (cs.map pairD)) (ho : EvD ta σ H (.ref b.p))
    (k : ∀ q H1, H q = none → StAt H1 { b with t := q } { S with ties := cs } → Mv b.all ({ b with t := q } : SA).all H H1 → De.nx σ H1) : sDPut ta (tC (.str "ties")) tx De σ H := hv H (Same.refl H) _ fun q vs H1 hq s1 h1 as => ho H1 s1 _ fun x H2 s2 ax => by
  cases ax
  have s := s1.trans s2
  have ht := h.mono s
  obtain ⟨v4, h4, _⟩ := h.casts
  refine ⟨b.p, _, rfl, DPut.k (k := Sum.inr "ties") ht.st (sz_lt (Nat.lt_of_le_of_lt (le_lit (by kernel_rfl)) (show 1000 < 10000000 by decide))), ?_⟩
  have e : putK (sKv b S) (Sum.inr "ties") (.ref q) = sKv { b with t := q } { S with ties := cs } := by kernel_rfl
  rw [e]
  refine k q _ hq (ht.tiesTo (s2 _ _ h1) (as.mono s2) (ne_of_none h4 hq)) (mv_upd2 s (by simp [SA.all]) ht.st (fun _ z => nomatch z) fun y hy => ?_)
  simp only [SA.all, List.mem_cons, List.not_mem_nil, or_false] at hy ⊢
  rcases hy with rfl | rfl | rfl | rfl
  · simp
  · simp
  · simp
  · exact .inr hq
theorem g_count {n : Int} (h : StAt H b S) (hv : EvD tx σ H (.int n)) (ho : EvD ta σ H (.ref b.p))
    (k : ∀ H1, StAt H1 b { S with count := n } → Mv b.all b.all H H1 → De.nx σ H1) : sDPut ta (tC (.str "count")) tx De σ H :=
  s_put kk_str h.st (Nat.lt_of_le_of_lt (le_lit (by kernel_rfl)) (show 1000 < 10000000 by decide)) hv ho ev_str fun v H1 s av => by
    cases av
    have ht := h.mono s
    have e : putK (sKv b S) (Sum.inr "count") (.int n) = sKv b { S with count := n } := by kernel_rfl
    rw [e]
    exact k _ (ht.flds rfl rfl rfl) (mv_upd s (by simp [SA.all]) ht.st fun _ z => nomatch z)
theorem g_day {n : Int} (h : StAt H b S) (hv : EvD tx σ H (.int n)) (ho : EvD ta σ H (.ref b.p))
    (k : ∀ H1, StAt H1 b { S with day := n } → Mv b.all b.all H H1 → De.nx σ H1) : sDPut ta (tC (.str "day")) tx De σ H :=
  s_put kk_str h.st (Nat.lt_of_le_of_lt (le_lit (by kernel_rfl)) (show 1000 < 10000000 by decide)) hv ho ev_str fun v H1 s av => by
    cases av
    have ht := h.mono s
    have e : putK (sKv b S) (Sum.inr "day") (.int n) = sKv b { S with day := n } := by kernel_rfl
    rw [e]
    exact k _ (ht.flds rfl rfl rfl) (mv_upd s (by simp [SA.all]) ht.st fun _ z => nomatch z)
theorem g_row {n : Int} {r : Rw} (h : StAt H b S) (hl : S.rows.length < 10000) (hv : EvD tx σ H (row4 r)) (ho : EvD td σ H (.ref b.r)) (hi : EvD te σ H (.int n))
    (k : ∀ H1, StAt H1 b (S.setRow n r) → Mv b.all b.all H H1 → De.nx σ H1) : sDPut td te tx De σ H := by
  obtain ⟨kvs, h1, h2⟩ := h.rows
  refine s_put kk_int h1 ?_ hv ho hi fun v H1 s av => ?_
  · rw [← h2.length]; unfold rows4; rw [List.length_map]; omega
  · have h1' := h.mono s
    exact k _ (h1'.put (s _ _ h1) av) (mv_upd s (by simp [SA.all]) (s _ _ h1) fun _ z => nomatch z)
theorem gq_row {n : Int} {r : Rw} (h : StAt H b S) (hl : S.rows.length < 10000) (hv : EvD tx σ H (row4 r)) (ho : EvD td σ H (.ref b.r)) (hi : EvD te σ H (.int n))
    (k : ∀ H1, StAt H1 b (S.setRow n r) → Mv b.all b.all H H1 → tz De σ H1) : tSeq (sDPut td te tx) tz De σ H := g_row (De := { De with nx := tz De }) h hl hv ho hi k
theorem ev_row4 {r : Rw} {t1 t2 t3 t4 : TE} (h1 : EvD t1 σ H (oi r.par)) (h2 : EvD t2 σ H (.str r.nm)) (h3 : EvD t3 σ H (os r.tx)) (h4 : EvD t4 σ H (oi r.mrk)) : EvD (tTup (tCons t1 (tCons t2 (tCons t3 (tCons t4 tNil))))) σ H (row4 r) := ev_tup (ea_cons h1 (ea_cons h2 (ea_cons h3 (ea_cons h4 ea_nil)))) le_lit
theorem g_unrow {x : Int} {r : Rw} (h : StAt H b S) (er : S'.rows = dropI S.rows x) (e1 : S'.casts = S.casts) (e2 : S'.ties = S.ties) (e3 : sKv b S' = sKv b S) (hx : S.get x = some r)
    (ho : EvD ta σ H (.ref b.p)) (hi : EvD te σ H (.int x)) (k : ∀ H1, StAt H1 b S' → Mv b.all b.all H H1 → De.nx σ H1) : tDrop (tDPop1 (tDGet ta (tC (.str "rows"))) te) De σ H := by
  refine t_rows h.rd ho H (Same.refl H) _ fun v H1 s1 av => ?_
  cases av
  obtain ⟨kvs, h1, h2⟩ := h.rows
  refine ⟨b.r, rfl, .inl ⟨kvs, .inl (s1 _ _ h1)⟩, hi H1 s1 _ fun u H2 s2 au => ?_⟩
  cases au
  have s12 := s1.trans s2
  obtain ⟨v, v1, v2⟩ := h2.some (n := x) (d := row4 r) (by rw [look4, hx]; rfl)
  refine ⟨kvs, .inl x, v, s12 _ _ h1, rfl, v1, ?_⟩
  have h' := h.mono s12
  have e0 : rows4 S' = dropI (rows4 S) x := by unfold rows4; rw [er, dropI_map]
  exact k _ (h'.rowsTo (by rw [e0]; exact (h2.mono s12).drop x) e1 e2 e3) (mv_upd s12 (by simp [SA.all]) (s12 _ _ h1) fun _ z => nomatch z)
theorem gq_casts {cs : List (Int × Int)} (h : StAt H b S) (hv : EvN tx σ H (cs.map pairD)) (ho : EvD ta σ H (.ref b.p))
    (k : ∀ q H1, H q = none → StAt H1 { b with c := q } { S with casts := cs } → Mv b.all ({ b with c := q } : SA).all H H1 → tz De σ H1) : tSeq (sDPut ta (tC (.str "casts")) tx) tz De σ H := g_casts (De := { De with nx := tz De }) h hv ho k
theorem gq_ties {cs : List (Int × Int)} (h : StAt H b S) (hv : EvN tx σ H (cs.map pairD)) (ho : EvD ta σ H (.ref b.p))
    (k : ∀ q H1, H q = none → StAt H1 { b with t := q } { S with ties := cs } → Mv b.all ({ b with t := q } : SA).all H H1 → tz De σ H1) : tSeq (sDPut ta (tC (.str "ties")) tx) tz De σ H := g_ties (De := { De with nx := tz De }) h hv ho k
theorem gq_count {n : Int} (h : StAt H b S) (hv : EvD tx σ H (.int n)) (ho : EvD ta σ H (.ref b.p))
    (k : ∀ H1, StAt H1 b { S with count := n } → Mv b.all b.all H H1 → tz De σ H1) : tSeq (sDPut ta (tC (.str "count")) tx) tz De σ H := g_count (De := { De with nx := tz De }) h hv ho k
/-! ### _law_lose -/
def sp_law_lose (K : PySem.W.Frag) : Sp := fun vs H Q _ => ∃ (b : SA) (S : Stt) (n : Int), vs = [.ref b.p, .int n] ∧ StAt H b S ∧ S.Wf ∧ ∀ b' H', b'.p = b.p → StAt H' b' (S.lose n) → Mv b.all b'.all H H' → Q (.int (S.many n)) H'
theorem sc_law_lose : FnScope ["_law_state", "_law_number_here", "_law_gone", "_law_one", "_law_row", "_law_pair"] ["_law_state", "_law_number_here"] (defScope s_law_lose) := ⟨rfl, rfl, rfl, by decide +kernel, rfl, by decide +kernel, by decide +kernel⟩
theorem ok_law_lose (T : Tx K mg) : FnR P w K mg base (L2.CX P w) 1 (He.ga K "_law_lose") (sp_law_lose K) := by
  refine fnr (F_law_lose T) sc_law_lose (fun _ _ _ _ _ _ us hl => match us, hl with | [_, _], _ => rfl) (fun vs H Q E h => by obtain ⟨_, _, _, rfl, _⟩ := h; rfl) (fun cdv A outer s H vs Q E hr h => ?_)
  refine ⟨_, PSs.nox (pss_cons (ps_set (i := 2) sc_law_lose.nd rfl (Or.inr rfl) (pe_lock (pe_lc (own := [("_law_one", 3)]) rfl sc_law_lose.nd (pi_keys (pe_dget (hu_of hr) (pv 0) pe_str (fun _ _ => rfl))) (blkOk_by (N := ["_law_state", "_law_number_here", "_law_gone", "_law_one", "_law_row", "_law_pair"]) (sc := defScope s_law_lose) (by decide +kernel)) (fun _ _ _ _ _ => (pg_name (i := 3) sc_law_lose.nd rfl (Or.inl rfl))) (fun _ _ _ _ _ => (pts_one (pt_cmpR op_eq (pe_ix (ixtK K) (pe_dget (hu_of hr) (pe_dget (hu_of hr) (pv 0) pe_str (fun _ _ => rfl)) (pv 3) (fun _ _ => rfl)) pe_int (fun _ _ => rfl)) (pv 1) (nomark _)))) (fun _ _ _ _ _ => (pv 3))))) (pss_cons (ps_for PassesOwn.never rfl (pilK K (pv 2)) (pg_name (i := 3) sc_law_lose.nd rfl (Or.inl rfl)) (pss_one (ps_expr (pe_dpop1 (pe_dget (hu_of hr) (pv 0) pe_str (fun _ _ => rfl)) (pv 3) ⟨rfl, rfl, rfl, rfl⟩)))) (pss_cons (ps_dput (hu_of hr) (pv 0) pe_str (pe_lc (own := [("_law_row", 4)]) rfl sc_law_lose.nd (pilK K (pe_dget (hu_of hr) (pv 0) pe_str (fun _ _ => rfl))) (blkOk_by (N := ["_law_state", "_law_number_here", "_law_gone", "_law_one", "_law_row", "_law_pair"]) (sc := defScope s_law_lose) (by decide +kernel)) (fun _ _ _ _ _ => (pg_name (i := 4) sc_law_lose.nd rfl (Or.inl rfl))) (fun _ _ _ _ _ => (pts_one (pt_cmpR op_ne (pe_ix (ixtK K) (pv 4) pe_int (fun _ _ => rfl)) (pv 1) (nomark _)))) (fun _ _ _ _ _ => (pv 4))) rfl) (pss_cons (ps_dput (hu_of hr) (pv 0) pe_str (pe_lc (own := [("_law_pair", 5)]) rfl sc_law_lose.nd (pilK K (pe_dget (hu_of hr) (pv 0) pe_str (fun _ _ => rfl))) (blkOk_by (N := ["_law_state", "_law_number_here", "_law_gone", "_law_one", "_law_row", "_law_pair"]) (sc := defScope s_law_lose) (by decide +kernel)) (fun _ _ _ _ _ => (pg_name (i := 5) sc_law_lose.nd rfl (Or.inl rfl))) (fun _ _ _ _ _ => (pts_one (PW.pt (pw_and (pt_cmpR (niK K) (pe_ix (ixtK K) (pv 5) pe_int (fun _ _ => rfl)) (pv 2) rfl) (pw_and1 (pt_cmpR (niK K) (pe_ix (ixtK K) (pv 5) pe_int (fun _ _ => rfl)) (pv 2) rfl)))))) (fun _ _ _ _ _ => (pv 5))) rfl) (pss_one (ps_ret (pe_callB (lenK K) rfl (T_len T) bt_len (pa_cons (pv 2) pa_nil)))))))), ?_⟩
  obtain ⟨b, S, n, rfl, h, wf, k⟩ := h
  have ln := wf.klen
  have cl := wf.cl
  have tl := wf.tl
  obtain ⟨kvs, hr', hk⟩ := h.rowsx
  refine q_asgN ((en_lcK (fun x => decide (S.mark x = some n)) D.int hr' hk (fun od => t_rows (h.lock hr' od) (ev_vr rfl)) (by omega) (fun _ _ => rfl) (fun _ => rfl) fun x hx od G sg => ⟨(et_test (ev_eq (b := some n) (t_mrk ((h.lock hr' od).mono sg) (get_rw hx) (ev_vr rfl) (ev_var rfl (.int x))) (ev_vi rfl))).is (by rw [rw_mark hx]), fun _ => ev_var rfl (.int x)⟩).is (b := (S.bundleL n).map D.int) rfl) fun L vs H1 hL s1 h1 as => ?_
  have e := Ats.ints as
  subst e
  have ht := h.mono s1
  have oL := h.out hL
  refine q_forR (ev_vr rfl) h1 fun H2 s2 => ⟨fun i σ' H' => ∃ o : Option V, σ' = [some (.ref b.p), some (.int n), some (.ref L), o, none, none] ∧ H' L = some (.lst ((S.bundleL n).map V.int)) ∧ StAt H' b (S.without ((S.bundleL n).take i)) ∧ Mv b.all b.all H H', ?_, fun i σ' H' p => ?_, fun i v σ' H' hv p => ?_, fun σ' H' p => ?_⟩
  · refine ⟨_, rfl, s2 _ _ h1, ?_, Mv.of (s1.trans s2)⟩
    rw [List.take_zero, without_nil]
    exact ht.mono s2
  · obtain ⟨_, _, z, _⟩ := p; exact z
  · obtain ⟨o, rfl, p1, p2, p3⟩ := p
    rw [List.getElem?_map] at hv
    obtain ⟨x, hx, ev⟩ := Option.map_eq_some_iff.mp hv
    subst ev
    have hxb : x ∈ S.bundleL n := List.mem_of_getElem? hx
    have hxo : x ∉ (S.bundleL n).take i := not_take ((wf.nd.filter _)) hx
    refine g_unrow (x := x) (r := S.rw x) (S' := S.without ((S.bundleL n).take (i + 1))) p2 (by rw [take_more hx, dropI_rows]) rfl rfl rfl ?_ (ev_vr rfl) (ev_var rfl (.int x)) fun H3 h3 m3 => ?_
    · show (S.rows.filter _).lookup x = _
      rw [lookup_filter wf.nd, show S.rows.lookup x = some (S.rw x) from get_rw (bundle_key hxb)]
      simp [hxo]
    · exact ⟨_, rfl, m3.keep _ _ oL p1, h3, p3.trans m3⟩
  · obtain ⟨o, rfl, p1, p2, p3⟩ := p
    rw [List.take_of_length_le (by rw [List.length_map]; exact Nat.le_refl _)] at p2
    refine gq_casts (cs := S.casts.filter fun c => !decide (c.1 = n)) p2 ((en_lc S.casts pairD (fun c => !decide (c.1 = n)) pairD (show EvD _ _ _ (.lst ((S.without (S.bundleL n)).casts.map pairD)) from t_casts p2.rd (ev_vr rfl)) (by omega) (fun p _ => pairD_nl p) (fun _ => rfl) fun c hc v H3 s3 av => ?_).is rfl) (ev_vr rfl) fun q H3 hq h3 m3 => ?_
    · exact ⟨et_test (ev_neI (ev_ixT (k := 0) (ev_var rfl av) rfl) (ev_var rfl (.int n))), fun _ => ev_var rfl av⟩
    have L3 := m3.keep _ _ oL p1
    have nq : L ≠ q := ne_of_none p1 hq
    have oL3 : L ∉ ({ b with c := q } : SA).all := by
      simp only [SA.all, List.mem_cons, List.not_mem_nil, or_false] at oL ⊢
      rintro (z | z | z | z)
      · exact oL (.inl z)
      · exact oL (.inr (.inl z))
      · exact nq z
      · exact oL (.inr (.inr (.inr z)))
    have aL : ∀ {G : Hp}, Same H3 G → At G (.lst ((S.bundleL n).map D.int)) (.ref L) := fun s => .lst (s _ _ L3) (ats_ints _)
    refine gq_ties (cs := (S.lose n).ties) h3 ((en_lc S.ties pairD (fun t => !decide (t.1 ∈ S.bundleL n) && !decide (t.2 ∈ S.bundleL n)) pairD (show EvD _ _ _ (.lst (({ S.without (S.bundleL n) with casts := S.casts.filter fun c => !decide (c.1 = n) } : Stt).ties.map pairD)) from t_ties h3.rd (ev_vr rfl)) (by omega) (fun p _ => pairD_nl p) (fun _ => rfl) fun c hc v G sg av => ?_).is (by rw [ties_out wf])) (ev_vr rfl) fun q4 H4 hq4 h4 m4 => ?_
    · exact ⟨et_and (et_test (ev_niInt (ev_ixT (k := 0) (ev_var rfl av) rfl) (ev_var rfl (aL sg)))) fun _ => et_test (ev_niInt (ev_ixT (k := 1) (ev_var rfl av) rfl) (ev_var rfl (aL sg))), fun _ => ev_var rfl av⟩
    refine s_ret ((ev_lenL (ev_var rfl (.lst (m4.keep _ _ oL3 L3) (ats_ints _)))).is (e := .int (S.many n)) (by rw [List.length_map, many_len wf])) fun v H5 s5 av => ?_
    cases av
    refine k { b with c := q, t := q4 } H5 rfl (StAt.mono s5 ?_) (((p3.trans m3).trans m4).trans (Mv.of s5))
    have e : ({ S.without (S.bundleL n) with casts := S.casts.filter fun c => !decide (c.1 = n), ties := (S.lose n).ties } : Stt) = S.lose n := stt_ext rfl rfl (lose_without wf) rfl rfl rfl rfl
    rw [← e]
    exact h4
theorem gc_lose {Q : VK} {n : Int} {t1 t2 : TE} (h : StAt H b S) (wf : S.Wf) (h1 : EvD t1 σ H (.ref b.p)) (h2 : EvD t2 σ H (.int n)) (k : ∀ b' H', b'.p = b.p → StAt H' b' (S.lose n) → Mv b.all b'.all H H' → Q (.int (S.many n)) H') : tCallF (sp_law_lose K) E (tCons t1 (tCons t2 tNil)) σ H Q :=
  c_call (ea_cons h1 (ea_cons h2 ea_nil)) fun vs H1 s as => by
    cases as with | cons a1 as => cases as with | cons a2 as => cases as; cases a1; cases a2; exact ⟨b, S, n, rfl, h.mono s, wf, fun b' H' e h' m => k b' H' e h' ((Mv.of s).trans m)⟩
/-! ### _law_no_room -/
def sp_law_no_room (K : PySem.W.Frag) : Sp := fun vs H Q _ => ∃ (b : SA) (S : Stt) (more : Int), vs = [.ref b.p, .int more] ∧ StAt H b S ∧ S.Wf ∧ S.Inv ∧ (S.usedThere + more > S.room → RetD (.bl true) H Q) ∧
  (¬ S.usedThere + more > S.room → ∀ b' H', b'.p = b.p → StAt H' b' (S.roomFor more) → Mv b.all b'.all H H' → Q (.bl false) H')
theorem used_thereL (wf : S.Wf) : ((thereL S).map fun n => Stt.txLen (S.rw n)).sum = S.usedThere := by
  have z := keys_rows (S := S) (β := Int) wf.nd S.there (fun n => Stt.txLen (S.rw n)) (fun p => p.2.mrk.isNone) (fun p => Stt.txLen p.2) (fun p hp => there_row wf.nd hp) (fun p hp => by rw [rw_row wf.nd hp])
  unfold thereL
  rw [z]; rfl
theorem sc_law_no_room : FnScope ["_law_state", "_law_more", "_law_there_here", "_law_one"] ["_law_state", "_law_more"] (defScope s_law_no_room) := ⟨rfl, rfl, rfl, by decide +kernel, rfl, by decide +kernel, by decide +kernel⟩
theorem ok_law_no_room (T : Tx K mg) : FnR P w K mg base (L2.CX P w) 2 (He.ga K "_law_no_room") (sp_law_no_room K) := by
  refine fnr (F_law_no_room T) sc_law_no_room (fun _ _ _ _ _ _ us hl => match us, hl with | [_, _], _ => rfl) (fun vs H Q E h => by obtain ⟨_, _, _, rfl, _⟩ := h; rfl) (fun cdv A outer s H vs Q E hr h => ?_)
  refine ⟨_, PSs.nox (pss_cons (ps_lock (ps_setLc (own := [("_law_one", 3)]) (i := 2) rfl sc_law_no_room.nd rfl rfl (sw_true rfl rfl rfl (by decide +kernel)) (pi_keys (pe_dget (hu_of hr) (pv 0) pe_str (fun _ _ => rfl))) (blkOk_by (N := ["_law_state", "_law_more", "_law_there_here", "_law_one"]) (sc := defScope s_law_no_room) (by decide +kernel)) (fun _ _ _ _ _ => (pg_name (i := 3) sc_law_no_room.nd rfl (Or.inl rfl))) (fun _ _ _ _ _ => (pts_one (truK K (pe_callF (ok_law_there T) (hr.mono (by decide)) (T_law_there T).1 (T_law_there T).2 passL (pa_cons (pv 0) (pa_cons (pv 3) pa_nil)))))) (fun _ _ _ _ _ => (pv 3)))) (pss_cons (ps_if (pt_cmpR op_gt (pe_op op_add (pe_callB (sumK K) rfl (T_sum T) bt_sum (pa_cons (pe_lc (own := [("_law_one", 3)]) rfl sc_law_no_room.nd (pilK K (pv 2)) (blkOk_by (N := ["_law_state", "_law_more", "_law_there_here", "_law_one"]) (sc := defScope s_law_no_room) (by decide +kernel)) (fun _ _ _ _ _ => (pg_name (i := 3) sc_law_no_room.nd rfl (Or.inl rfl))) (fun _ _ _ _ _ => pts_nil) (fun _ _ _ _ _ => (pe_callB lenStrK rfl (T_len T) bt_len (pa_cons (orTK K (pe_ix (ixtK K) (pe_dget (hu_of hr) (pe_dget (hu_of hr) (pv 0) pe_str (fun _ _ => rfl)) (pv 3) (fun _ _ => rfl)) pe_int (fun _ _ => rfl)) (pe_one pe_str)) pa_nil)))) pa_nil)) (pv 1)) (pe_dget (hu_of hr) (pv 0) pe_str (fun _ _ => rfl)) (nomark _)) (pss_one (ps_ret pe_bl)) pss_nil) (pss_cons (ps_while PassesOwn.never (pt_cmpR op_gt (pe_op op_add (pe_callF (ok_law_used T) (hr.mono (by decide)) (T_law_used T).1 (T_law_used T).2 passL (pa_cons (pv 0) pa_nil)) (pv 1)) (pe_dget (hu_of hr) (pv 0) pe_str (fun _ _ => rfl)) (nomark _)) (pss_one (ps_expr (pe_callF (ok_law_lose T) (hr.mono (by decide)) (T_law_lose T).1 (T_law_lose T).2 passL (pa_cons (pv 0) (pa_cons (pe_ix (ixtK K) (pe_ix (ixlK K) (pe_dget (hu_of hr) (pv 0) pe_str (fun _ _ => rfl)) pe_int (fun _ _ => rfl)) pe_int (fun _ _ => rfl)) pa_nil)))))) (pss_one (ps_ret pe_bl))))), ?_⟩
  obtain ⟨b, S, more, rfl, h, wf, inv, k1, k2⟩ := h
  have ln := wf.klen
  obtain ⟨kvs, hr', hk⟩ := h.rowsx
  refine q_asgLk ((en_lcK S.there D.int hr' hk (fun od => t_rows (h.lock hr' od) (ev_vr rfl)) (by omega) (fun _ _ => rfl) (fun _ => rfl) fun x hx od G sg => ⟨et_trB (t_thereI (K := K) ((h.lock hr' od).mono sg) (ev_vr rfl) (ev_var rfl (.int x))), fun _ => ev_var rfl (.int x)⟩).is (b := (thereL S).map D.int) rfl) fun L vs H1 hL s1 h1 as => ?_
  have e := Ats.ints as
  subst e
  have ht := h.mono s1
  have lt : (thereL S).length ≤ S.keys.length := List.length_filter_le _ _
  refine q_ifN (et_test ((ev_gt (ev_add (ev_sum (ns := (thereL S).map fun n => Stt.txLen (S.rw n)) ((en_lc (thereL S) D.int (fun _ => true) (fun n => .int (Stt.txLen (S.rw n))) (ev_var rfl (.lst h1 (ats_ints _))) (by omega) (fun _ _ => rfl) (fun _ => rfl) fun x hx v G sg av => ?_).toD.is (by rw [List.filter_eq_self.mpr (by simp), List.map_map]; rfl))) (ev_vi rfl)) (t_room ht.rd (ev_vr rfl))).is (e := .bl (decide (S.usedThere + more > S.room))) (by rw [used_thereL wf]))) (fun q H2 s2 => ?_) fun q H2 s2 => ?_
  · cases av
    exact ⟨et_yes, fun _ => t_sign (ht.rd.mono sg) wf (get_rw ((List.mem_filter.mp hx).1)) (ev_vr rfl) (ev_var rfl (.int x))⟩
  · exact s_ret ev_bl (RetD.mono (k1 (of_decide_eq_true q)) (s1.trans s2))
  have nb := of_decide_eq_false q
  refine q_while (fun m σ' H' => ∃ (b' : SA) (S' : Stt), b'.p = b.p ∧ σ' = [some (.ref b.p), some (.int more), some (.ref L), none] ∧ StAt H' b' S' ∧ Mv b.all b'.all H H' ∧ S'.Wf ∧ S'.Inv ∧ m = S'.casts.length ∧ S'.mkRoom S'.casts.length more = S.roomFor more ∧ S'.usedThere = S.usedThere ∧ S'.room = S.room) _ ⟨b, S, rfl, rfl, ht.mono s2, Mv.of (s1.trans s2), wf, inv, rfl, rfl, rfl, rfl⟩ fun m σ' H' hw => ?_
  obtain ⟨b', S', ep, rfl, h', m', wf', inv', rfl, hr2, hu, hro⟩ := hw
  have evr : ∀ {σ : L2.St} {G : Hp}, σ[0]? = some (some (.ref b.p)) → EvD (tVar 0) σ G (.ref b'.p) := fun q => by rw [ep]; exact ev_vr q
  refine ⟨_, et_test (ev_gt (ev_add (t_used h' wf' (evr rfl)) (ev_vi rfl)) (t_room h'.rd (evr rfl))), fun q H3 s3 => ?_, fun q H3 s3 => ?_⟩
  · have gt : S'.used + more > S'.room := of_decide_eq_true q
    cases ec : S'.casts with
    | nil =>
      have z := used_there inv' wf' ec
      rw [z, hu, hro] at gt
      exact absurd gt nb
    | cons c cs =>
      have h3 := h'.mono s3
      refine gc_lose (n := c.1) h3 wf' (evr rfl) (ev_ixT (k := 0) (ev_ixL (k := 0) (t_casts h3.rd (evr rfl)) ev_int rfl (d := pairD c) (by rw [ec]; rfl)) rfl) fun b4 H4 e4 h4 m4 => ?_
      have lc : (S'.lose c.1).casts.length = cs.length := by rw [lose_head inv' ec]
      refine ⟨cs.length, by simp, b4, S'.lose c.1, e4.trans ep, rfl, h4, (m'.trans (Mv.of s3)).trans m4, wf'.lose _, inv'.lose wf'.nd _, lc.symm, ?_, by rw [usedThere_lose]; exact hu, hro⟩
      rw [← hr2, mkRoom_go inv' gt ec]
  · have ng : ¬ S'.used + more > S'.room := of_decide_eq_false q
    rw [mkRoom_stop ng] at hr2
    rw [← hr2] at k2
    refine s_ret ev_bl fun v H4 s4 av => ?_
    cases av
    exact k2 nb b' H4 ep (h'.mono (s3.trans s4)) (m'.trans (Mv.of (s3.trans s4)))
end
end Ho

set_option Elab.async false
set_option linter.all false
set_option maxRecDepth 100000
set_option maxHeartbeats 4000000
/-! C8: the law's own walk: things are made, called otherwise, moved, written; ties. -/
namespace Ho
open PySem PySem.Spec PyProof.Rows L2
section
variable {P : Program} {w : World} {K : PySem.W.Frag} {mg : Str → Option Value} {base : Heap} {σ : L2.St} {H H' : Hp} {ta tb te tx td tl : TE} {b : SA} {S S' : Stt} {E : XK} {De : Ends} {tz : TS}
/-! ### _law_make -/
def sp_law_make (K : PySem.W.Frag) : Sp := fun vs H Q _ => ∃ (b : SA) (S : Stt) (par : Option Int) (nm : Str) (bb : Bool) (v : V), vs = [.ref b.p, v] ∧ At H (.tup [oi par, .str nm, .bl bb]) v ∧ StAt H b S ∧ S.Wf ∧ S.count + 1 ∉ S.keys ∧ ResS b (S.make par nm bb) H Q
theorem sc_law_make : FnScope ["_law_state", "_law_rest", "_law_parent_here", "_law_name", "_law_is_box"] ["_law_state", "_law_rest"] (defScope s_law_make) := ⟨rfl, rfl, rfl, by decide +kernel, rfl, by decide +kernel, by decide +kernel⟩
theorem ok_law_make (T : Tx K mg) : FnR P w K mg base (L2.CX P w) 3 (He.ga K "_law_make") (sp_law_make K) := by
  refine fnr (F_law_make T) sc_law_make (fun _ _ _ _ _ _ us hl => match us, hl with | [_, _], _ => rfl) (fun vs H Q E h => by obtain ⟨_, _, _, _, _, _, rfl, _⟩ := h; rfl) (fun cdv A outer s H vs Q E hr h => ?_)
  refine ⟨_, PSs.nox (pss_cons (ps_asg (pv 1) (gtupK K (n := 3) rfl (pgs_cons (pg_name (i := 2) sc_law_make.nd rfl (Or.inl rfl)) (pgs_cons (pg_name (i := 3) sc_law_make.nd rfl (Or.inl rfl)) (pgs_cons (pg_name (i := 4) sc_law_make.nd rfl (Or.inl rfl)) pgs_nil))))) (pss_cons (ps_if (truK K (pe_callF (ok_law_no_box T) (hr.mono (by decide)) (T_law_no_box T).1 (T_law_no_box T).2 passL (pa_cons (pv 0) (pa_cons (pv 2) pa_nil)))) (pss_one (ps_ret pe_str)) pss_nil) (pss_cons (ps_if (pt_cmpR (inK K) (pv 3) (pe_callF (ok_law_names T) (hr.mono (by decide)) (T_law_names T).1 (T_law_names T).2 passL (pa_cons (pv 0) (pa_cons (pv 2) (pa_cons pe_non pa_nil)))) rfl) (pss_one (ps_ret pe_str)) pss_nil) (pss_cons (ps_dput (hu_of hr) (pv 0) pe_str (pe_op op_add (pe_dget (hu_of hr) (pv 0) pe_str (fun _ _ => rfl)) pe_int) rfl) (pss_cons (ps_dput (hu_of hr) (pe_dget (hu_of hr) (pv 0) pe_str (fun _ _ => rfl)) (pe_dget (hu_of hr) (pv 0) pe_str (fun _ _ => rfl)) (pe_tup (pa_cons (pv 2) (pa_cons (pv 3) (pa_cons (pe_ifExp (truK K (pv 4)) pe_non pe_str) (pa_cons pe_non pa_nil))))) rfl) (pss_one (ps_ret (pe_dget (hu_of hr) (pv 0) pe_str (fun _ _ => rfl))))))))), ?_⟩
  obtain ⟨b, S, par, nm, bb, v, rfl, av, h, wf, nk, k⟩ := h
  have ln := wf.few
  unfold Stt.make at k
  refine q_unp3 (ev_var rfl av) fun v1 v2 v3 H1 s1 a1 a2 a3 => ?_
  cases at_oi' a1
  cases a2
  cases a3
  have h1 := h.mono s1
  refine q_ifN (et_trB (t_no_box h1.rd (ev_vr rfl) (ev_vo rfl))) (fun q H2 s2 => ?_) fun q H2 s2 => ?_
  · rw [if_pos q] at k
    exact s_ret ev_str (RetD.mono (ress_err k rfl h) (s1.trans s2))
  rw [if_neg (by rw [q]; decide)] at k
  have s12 := s1.trans s2
  have h2 := h.mono s12
  refine q_ifN (et_test (ev_inS (ev_vs rfl) (tn_names (but := none) h2 wf (ev_vr rfl) (ev_vo rfl) ev_non).toD)) (fun q H3 s3 => ?_) fun q H3 s3 => ?_
  · rw [if_pos (of_decide_eq_true q)] at k
    exact s_ret ev_str (RetD.mono (ress_err k rfl h) (s12.trans s3))
  rw [if_neg (of_decide_eq_false q)] at k
  have s13 := s12.trans s3
  have h3 := h.mono s13
  refine gq_count (n := S.count + 1) h3 (ev_add (t_count h3.rd (ev_vr rfl)) ev_int) (ev_vr rfl) fun H4 h4 m4 => ?_
  refine gq_row (n := S.count + 1) (r := ⟨par, nm, if bb = true then none else some "", none⟩) h4 (by show S.rows.length < _; omega) (ev_row4 (ev_vo rfl) (ev_vs rfl) (ev_if (b := bb) (et_trB (ev_vb rfl)) (fun z => ?_) fun z => ?_) ev_non) (t_rows h4.rd (ev_vr rfl)) (t_count h4.rd (ev_vr rfl)) fun H5 h5 m5 => ?_
  · rw [z]; exact ev_non
  · rw [z]; exact ev_str
  rw [addRow_set nk] at h5
  refine s_ret (t_count h5.rd (ev_vr rfl)) fun v H6 s6 av => ?_
  exact ress_of k rfl v b H6 rfl (h5.mono s6) ((((Mv.of s13).trans m4).trans m5).trans (Mv.of s6)) av
/-! ### _law_place -/
def sp_law_place (K : PySem.W.Frag) : Sp := fun vs H Q _ => ∃ (b : SA) (S : Stt) (n : Int) (wd : Str) (v : V) (o : Out × Stt), vs = [.ref b.p, .str wd, v] ∧ StAt H b S ∧ S.Wf ∧ S.Inv ∧
  ((∃ nm, wd = "rename" ∧ At H (.tup [.int n, .str nm]) v ∧ o = S.rename n nm) ∨ (∃ par, wd = "move" ∧ At H (.tup [.int n, oi par]) v ∧ o = S.move n par)) ∧ ResS b o H Q
theorem sc_law_place : FnScope ["_law_state", "_law_word_here", "_law_rest", "_law_number_here", "_law_thing", "_law_parent_here", "_law_name", "_law_text", "_law_mark"] ["_law_state", "_law_word_here", "_law_rest"] (defScope s_law_place) := ⟨rfl, rfl, rfl, by decide +kernel, rfl, by decide +kernel, by decide +kernel⟩
theorem ok_law_place (T : Tx K mg) : FnR P w K mg base (L2.CX P w) 3 (He.ga K "_law_place") (sp_law_place K) := by
  refine fnr (F_law_place T) sc_law_place (fun _ _ _ _ _ _ us hl => match us, hl with | [_, _, _], _ => rfl) (fun vs H Q E h => by obtain ⟨_, _, _, _, _, _, rfl, _⟩ := h; rfl) (fun cdv A outer s H vs Q E hr h => ?_)
  refine ⟨_, PSs.nox (pss_cons (ps_asg (pv 2) (gtupK K (n := 2) rfl (pgs_cons (pg_name (i := 3) sc_law_place.nd rfl (Or.inl rfl)) (pgs_cons (pg_name (i := 4) sc_law_place.nd rfl (Or.inl rfl)) pgs_nil)))) (pss_cons (ps_if (pt_not (truK K (pe_callF (ok_law_there T) (hr.mono (by decide)) (T_law_there T).1 (T_law_there T).2 passL (pa_cons (pv 0) (pa_cons (pv 3) pa_nil))))) (pss_one (ps_ret pe_str)) pss_nil) (pss_cons (ps_asg (pe_dget (hu_of hr) (pe_dget (hu_of hr) (pv 0) pe_str (fun _ _ => rfl)) (pv 3) (fun _ _ => rfl)) (gtupK K (n := 4) rfl (pgs_cons (pg_name (i := 5) sc_law_place.nd rfl (Or.inl rfl)) (pgs_cons (pg_name (i := 6) sc_law_place.nd rfl (Or.inl rfl)) (pgs_cons (pg_name (i := 7) sc_law_place.nd rfl (Or.inl rfl)) (pgs_cons (pg_name (i := 8) sc_law_place.nd rfl (Or.inl rfl)) pgs_nil)))))) (pss_cons (ps_if (pt_cmpR op_eq (pv 1) pe_str (nomark _)) (pss_one (ps_set (i := 6) sc_law_place.nd rfl (Or.inl rfl) (pv 4))) (pss_cons (ps_set (i := 5) sc_law_place.nd rfl (Or.inl rfl) (pv 4)) (pss_cons (ps_if (truK K (pe_callF (ok_law_no_box T) (hr.mono (by decide)) (T_law_no_box T).1 (T_law_no_box T).2 passL (pa_cons (pv 0) (pa_cons (pv 5) pa_nil)))) (pss_one (ps_ret pe_str)) pss_nil) (pss_one (ps_if (pt_cmpR (inK K) (pv 5) (pe_callF (ok_law_within T) (hr.mono (by decide)) (T_law_within T).1 (T_law_within T).2 passL (pa_cons (pv 0) (pa_cons (pv 3) pa_nil))) rfl) (pss_one (ps_ret pe_str)) pss_nil))))) (pss_cons (ps_if (pt_cmpR (inK K) (pv 6) (pe_callF (ok_law_names T) (hr.mono (by decide)) (T_law_names T).1 (T_law_names T).2 passL (pa_cons (pv 0) (pa_cons (pv 5) (pa_cons (pv 3) pa_nil)))) rfl) (pss_one (ps_ret pe_str)) pss_nil) (pss_cons (ps_dput (hu_of hr) (pe_dget (hu_of hr) (pv 0) pe_str (fun _ _ => rfl)) (pv 3) (pe_tup (pa_cons (pv 5) (pa_cons (pv 6) (pa_cons (pv 7) (pa_cons (pv 8) pa_nil))))) rfl) (pss_one (ps_ret pe_non)))))))), ?_⟩
  obtain ⟨b, S, n, wd, v, o, rfl, h, wf, inv, ho, k⟩ := h
  have ln := wf.few
  rcases ho with ⟨nm, rfl, av, rfl⟩ | ⟨par, rfl, av, rfl⟩
  · unfold Stt.rename at k
    refine q_unp2 (ev_var rfl av) fun v1 v2 H1 s1 a1 a2 => ?_
    cases a1; cases a2
    have h1 := h.mono s1
    refine q_ifN (et_not (et_trB (t_thereI h1.rd (ev_vr rfl) (ev_vi rfl)))) (fun q H2 s2 => ?_) fun q H2 s2 => ?_
    · rw [if_pos (by simpa using q)] at k
      exact s_ret ev_str (RetD.mono (ress_err k rfl h) (s1.trans s2))
    have q : S.there n = true := by simpa using q
    rw [if_neg (by rw [q]; decide)] at k
    have s12 := s1.trans s2
    have h2 := h.mono s12
    have hk := there_key q
    refine q_unp4 (t_row h2.rd (get_rw hk) (ev_vr rfl) (ev_vi rfl)) fun v1 v2 v3 v4 H3 s3 a1 a2 a3 a4 => ?_
    cases at_oi' a1
    cases a2
    cases at_os' a3
    cases at_oi' a4
    have s13 := s12.trans s3
    have h3 := h.mono s13
    refine q_if (b := true) ((et_test (ev_eqS (ev_vs rfl) ev_str)).is (decide_eq_true rfl)) (fun _ H4 s4 => ?_) fun z => by cases z
    refine s_asg (ev_vs rfl) fun v H5 s5 av => ?_
    cases av
    have s15 := (s13.trans s4).trans s5
    have h5 := h.mono s15
    refine q_ifN (et_test (ev_inS (ev_vs rfl) (tn_names (but := some n) h5 wf (ev_vr rfl) (ev_vo rfl) (ev_vi rfl)).toD)) (fun q H6 s6 => ?_) fun q H6 s6 => ?_
    · rw [if_pos (of_decide_eq_true q)] at k
      exact s_ret ev_str (RetD.mono (ress_err k rfl h) (s15.trans s6))
    rw [if_neg (of_decide_eq_false q)] at k
    have s16 := s15.trans s6
    have h6 := h.mono s16
    refine gq_row (n := n) (r := { S.rw n with nm := nm }) h6 (by omega) (ev_row4 (ev_vo rfl) (ev_vs rfl) (ev_vos rfl) (ev_vo rfl)) (t_rows h6.rd (ev_vr rfl)) (ev_vi rfl) fun H7 h7 m7 => ?_
    exact s_ret ev_non fun v H8 s8 av => ress_of k rfl v b H8 rfl (h7.mono s8) (((Mv.of s16).trans m7).trans (Mv.of s8)) av
  · unfold Stt.move at k
    refine q_unp2 (ev_var rfl av) fun v1 v2 H1 s1 a1 a2 => ?_
    cases a1; cases at_oi' a2
    have h1 := h.mono s1
    refine q_ifN (et_not (et_trB (t_thereI h1.rd (ev_vr rfl) (ev_vi rfl)))) (fun q H2 s2 => ?_) fun q H2 s2 => ?_
    · rw [if_pos (by simpa using q)] at k
      exact s_ret ev_str (RetD.mono (ress_err k rfl h) (s1.trans s2))
    have q : S.there n = true := by simpa using q
    rw [if_neg (by rw [q]; decide)] at k
    have s12 := s1.trans s2
    have h2 := h.mono s12
    have hk := there_key q
    refine q_unp4 (t_row h2.rd (get_rw hk) (ev_vr rfl) (ev_vi rfl)) fun v1 v2 v3 v4 H3 s3 a1 a2 a3 a4 => ?_
    cases at_oi' a1
    cases a2
    cases at_os' a3
    cases at_oi' a4
    have s13 := s12.trans s3
    refine q_if (b := false) ((et_test (ev_eqS (ev_vs rfl) ev_str)).is (decide_eq_false (by decide))) (fun z => by cases z) fun _ H4 s4 => ?_
    refine q_asg (ev_vo rfl) fun v H5 s5 av => ?_
    cases at_oi' av
    have s15 := (s13.trans s4).trans s5
    have h5 := h.mono s15
    refine q_ifN (et_trB (t_no_box h5.rd (ev_vr rfl) (ev_vo rfl))) (fun q2 H6 s6 => ?_) fun q2 H6 s6 => ?_
    · rw [if_pos q2] at k
      exact s_ret ev_str (RetD.mono (ress_err k rfl h) (s15.trans s6))
    rw [if_neg (by rw [q2]; decide)] at k
    have s16 := s15.trans s6
    have h6 := h.mono s16
    refine s_ifN (et_test (ev_inI (ev_vo rfl) (tn_within h6.rd wf inv q (ev_vr rfl) (ev_vi rfl)).toD)) (fun q3 H7 s7 => ?_) fun q3 H7 s7 => ?_
    · rw [if_pos (of_decide_eq_true q3)] at k
      exact s_ret ev_str (RetD.mono (ress_err k rfl h) (s16.trans s7))
    rw [if_neg (of_decide_eq_false q3)] at k
    have s17 := s16.trans s7
    have h7 := h.mono s17
    refine q_ifN (et_test (ev_inS (ev_vs rfl) (tn_names (but := some n) h7 wf (ev_vr rfl) (ev_vo rfl) (ev_vi rfl)).toD)) (fun q H8 s8 => ?_) fun q H8 s8 => ?_
    · rw [if_pos (of_decide_eq_true q)] at k
      exact s_ret ev_str (RetD.mono (ress_err k rfl h) (s17.trans s8))
    rw [if_neg (of_decide_eq_false q)] at k
    have s18 := s17.trans s8
    have h8 := h.mono s18
    refine gq_row (n := n) (r := { S.rw n with par := par }) h8 (by omega) (ev_row4 (ev_vo rfl) (ev_vs rfl) (ev_vos rfl) (ev_vo rfl)) (t_rows h8.rd (ev_vr rfl)) (ev_vi rfl) fun H9 h9 m9 => ?_
    exact s_ret ev_non fun v H8 s8 av => ress_of k rfl v b H8 rfl (h9.mono s8) (((Mv.of s18).trans m9).trans (Mv.of s8)) av
/-! ### _law_write -/
theorem gc_no_room {Q : VK} {more : Int} {t1 t2 : TE} (h : StAt H b S) (wf : S.Wf) (inv : S.Inv) (h1 : EvD t1 σ H (.ref b.p)) (h2 : EvD t2 σ H (.int more)) (k1 : S.usedThere + more > S.room → RetD (.bl true) H Q)
    (k2 : ¬ S.usedThere + more > S.room → ∀ b' H', b'.p = b.p → StAt H' b' (S.roomFor more) → Mv b.all b'.all H H' → Q (.bl false) H') : tCallF (sp_law_no_room K) E (tCons t1 (tCons t2 tNil)) σ H Q :=
  c_call (ea_cons h1 (ea_cons h2 ea_nil)) fun vs H1 s as => by
    cases as with | cons a1 as => cases as with | cons a2 as => cases as; cases a1; cases a2; exact ⟨b, S, more, rfl, h.mono s, wf, inv, fun z => (k1 z).mono s, fun z b' H' e h' m => k2 z b' H' e h' ((Mv.of s).trans m)⟩
theorem tru_t {t u : TS} {D : Ends} (h : t D σ H) : ∃ k, TruV K (.bl true) H k ∧ (if k = true then t D σ H else u D σ H) := ⟨true, rfl, by rw [if_pos rfl]; exact h⟩
theorem tru_f {t u : TS} {D : Ends} (h : u D σ H) : ∃ k, TruV K (.bl false) H k ∧ (if k = true then t D σ H else u D σ H) := ⟨false, rfl, by rw [if_neg (by decide)]; exact h⟩
def sp_law_write (K : PySem.W.Frag) : Sp := fun vs H Q _ => ∃ (b : SA) (S : Stt) (n : Int) (t : Str) (v : V), vs = [.ref b.p, v] ∧ At H (.tup [.int n, .str t]) v ∧ StAt H b S ∧ S.Wf ∧ S.Inv ∧ t.length ≤ 100000 ∧ ResS b (S.write n t) H Q
theorem sc_law_write : FnScope ["_law_state", "_law_rest", "_law_number_here", "_law_text", "_law_parent_here", "_law_name", "_law_old", "_law_mark"] ["_law_state", "_law_rest"] (defScope s_law_write) := ⟨rfl, rfl, rfl, by decide +kernel, rfl, by decide +kernel, by decide +kernel⟩
theorem ok_law_write (T : Tx K mg) : FnR P w K mg base (L2.CX P w) 3 (He.ga K "_law_write") (sp_law_write K) := by
  refine fnr (F_law_write T) sc_law_write (fun _ _ _ _ _ _ us hl => match us, hl with | [_, _], _ => rfl) (fun vs H Q E h => by obtain ⟨_, _, _, _, _, rfl, _⟩ := h; rfl) (fun cdv A outer s H vs Q E hr h => ?_)
  refine ⟨_, PSs.nox (pss_cons (ps_asg (pv 1) (gtupK K (n := 2) rfl (pgs_cons (pg_name (i := 2) sc_law_write.nd rfl (Or.inl rfl)) (pgs_cons (pg_name (i := 3) sc_law_write.nd rfl (Or.inl rfl)) pgs_nil)))) (pss_cons (ps_if (pt_not (truK K (pe_callF (ok_law_there T) (hr.mono (by decide)) (T_law_there T).1 (T_law_there T).2 passL (pa_cons (pv 0) (pa_cons (pv 2) pa_nil))))) (pss_one (ps_ret pe_str)) pss_nil) (pss_cons (ps_asg (pe_dget (hu_of hr) (pe_dget (hu_of hr) (pv 0) pe_str (fun _ _ => rfl)) (pv 2) (fun _ _ => rfl)) (gtupK K (n := 4) rfl (pgs_cons (pg_name (i := 4) sc_law_write.nd rfl (Or.inl rfl)) (pgs_cons (pg_name (i := 5) sc_law_write.nd rfl (Or.inl rfl)) (pgs_cons (pg_name (i := 6) sc_law_write.nd rfl (Or.inl rfl)) (pgs_cons (pg_name (i := 7) sc_law_write.nd rfl (Or.inl rfl)) pgs_nil)))))) (pss_cons (ps_if (pt_cmpR op_isN (pv 6) pe_non (nomark _)) (pss_one (ps_ret pe_str)) pss_nil) (pss_cons (ps_if (truK K (pe_callF (ok_law_no_room T) (hr.mono (by decide)) (T_law_no_room T).1 (T_law_no_room T).2 passL (pa_cons (pv 0) (pa_cons (pe_op op_sub (pe_callB lenStrK rfl (T_len T) bt_len (pa_cons (pv 3) pa_nil)) (pe_callB lenStrK rfl (T_len T) bt_len (pa_cons (pv 6) pa_nil))) pa_nil)))) (pss_one (ps_ret pe_str)) pss_nil) (pss_cons (ps_dput (hu_of hr) (pe_dget (hu_of hr) (pv 0) pe_str (fun _ _ => rfl)) (pv 2) (pe_tup (pa_cons (pv 4) (pa_cons (pv 5) (pa_cons (pv 3) (pa_cons (pv 7) pa_nil))))) rfl) (pss_one (ps_ret pe_non)))))))), ?_⟩
  obtain ⟨b, S, n, t, v, rfl, av, h, wf, inv, lt, k⟩ := h
  have ln := wf.few
  unfold Stt.write at k
  refine q_unp2 (ev_var rfl av) fun v1 v2 H1 s1 a1 a2 => ?_
  cases a1; cases a2
  have h1 := h.mono s1
  refine q_ifN (et_not (et_trB (t_thereI h1.rd (ev_vr rfl) (ev_vi rfl)))) (fun q H2 s2 => ?_) fun q H2 s2 => ?_
  · rw [if_pos (by simpa using q)] at k
    exact s_ret ev_str (RetD.mono (ress_err k rfl h) (s1.trans s2))
  have q : S.there n = true := by simpa using q
  rw [if_neg (by rw [q]; decide)] at k
  have s12 := s1.trans s2
  have h2 := h.mono s12
  have hk := there_key q
  refine q_unp4 (t_row h2.rd (get_rw hk) (ev_vr rfl) (ev_vi rfl)) fun v1 v2 v3 v4 H3 s3 a1 a2 a3 a4 => ?_
  cases at_oi' a1
  cases a2
  cases at_os' a3
  cases at_oi' a4
  have s13 := s12.trans s3
  have h3 := h.mono s13
  refine q_ifN (et_test (ev_isN (ev_vos rfl))) (fun q2 H4 s4 => ?_) fun q2 H4 s4 => ?_
  · rw [os_isN] at q2
    rw [Option.isNone_iff_eq_none.mp q2] at k
    exact s_ret ev_str (RetD.mono (ress_err k rfl h) (s13.trans s4))
  rw [os_isN] at q2
  obtain ⟨o, ht⟩ : ∃ o, (S.rw n).tx = some o := by
    cases e : (S.rw n).tx with
    | none => rw [e] at q2; cases q2
    | some o => exact ⟨o, rfl⟩
  rw [ht] at k
  dsimp only at k
  have lo : o.length ≤ 100000 := wf.txl _ (row_get (get_rw hk)) o ht
  have s14 := s13.trans s4
  have h4 := h.mono s14
  have ev6 : ∀ {G : Hp}, EvD (tVar 6) [some (.ref b.p), some v, some (.int n), some (.str t), some (oiV (S.rw n).par), some (.str (S.rw n).nm), some (osV (S.rw n).tx), some (oiV (S.rw n).mrk)] G (.str o) := (ev_vos (n := (S.rw n).tx) rfl).is (by rw [ht]; rfl)
  have er := roomFor_rw wf inv ((t.length : Int) - (o.length : Int)) q
  refine gc_no_room h4 wf inv (ev_vr rfl) (ev_sub (ev_lenS (ev_vs rfl) (by omega)) (ev_lenS ev6 (by omega))) (fun z v' H5 s5 av => ?_) fun z b' H5 ep h5 m5 => ?_
  · cases av
    rw [if_pos z] at k
    refine tru_t ?_
    exact s_ret ev_str (RetD.mono (ress_err k rfl h) (s14.trans s5))
  · rw [if_neg z] at k
    refine tru_f ?_
    have evr : ∀ {σ : L2.St} {G : Hp}, σ[0]? = some (some (.ref b.p)) → EvD (tVar 0) σ G (.ref b'.p) := fun q => by rw [ep]; exact ev_vr q
    refine gq_row (n := n) (r := { S.rw n with tx := some t }) h5 (Nat.lt_of_le_of_lt (roomFor_rows wf inv _) (by omega)) (ev_row4 (ev_vo rfl) (ev_vs rfl) (ev_vs rfl) (ev_vo rfl)) (t_rows h5.rd (evr rfl)) (ev_vi rfl) fun H7 h7 m7 => ?_
    exact s_ret ev_non fun v H8 s8 av => ress_of k rfl v b' H8 ep (h7.mono s8) ((((Mv.of s14).trans m5).trans m7).trans (Mv.of s8)) av
/-! ### _law_tie -/
def sp_law_tie (K : PySem.W.Frag) : Sp := fun vs H Q _ => ∃ (b : SA) (S : Stt) (x y : Int) (wd : Str) (v : V) (o : Out × Stt), vs = [.ref b.p, .str wd, v] ∧ StAt H b S ∧ S.Wf ∧ At H (pairD (x, y)) v ∧ ((wd = "tie" ∧ o = S.tie x y) ∨ (wd = "untie" ∧ o = S.untie x y)) ∧ ResS b o H Q
theorem sc_law_tie : FnScope ["_law_state", "_law_word_here", "_law_rest"] ["_law_state", "_law_word_here", "_law_rest"] (defScope s_law_tie) := ⟨rfl, rfl, rfl, by decide +kernel, rfl, by decide +kernel, by decide +kernel⟩
theorem ok_law_tie (T : Tx K mg) : FnR P w K mg base (L2.CX P w) 2 (He.ga K "_law_tie") (sp_law_tie K) := by
  refine fnr (F_law_tie T) sc_law_tie (fun _ _ _ _ _ _ us hl => match us, hl with | [_, _, _], _ => rfl) (fun vs H Q E h => by obtain ⟨_, _, _, _, _, _, _, rfl, _⟩ := h; rfl) (fun cdv A outer s H vs Q E hr h => ?_)
  refine ⟨_, PSs.nox (pss_cons (ps_if (PW.pt (pw_or (pt_not (truK K (pe_callF (ok_law_there T) (hr.mono (by decide)) (T_law_there T).1 (T_law_there T).2 passL (pa_cons (pv 0) (pa_cons (pe_ix (ixtK K) (pv 2) pe_int (fun _ _ => rfl)) pa_nil))))) (pw_or1 (pt_not (truK K (pe_callF (ok_law_there T) (hr.mono (by decide)) (T_law_there T).1 (T_law_there T).2 passL (pa_cons (pv 0) (pa_cons (pe_ix (ixtK K) (pv 2) pe_int (fun _ _ => rfl)) pa_nil)))))))) (pss_one (ps_ret pe_str)) pss_nil) (pss_cons (ps_if (PW.pt (pw_and (pt_cmpR op_eq (pv 1) pe_str (nomark _)) (pw_and1 (pt_cmpR op_eq (pe_ix (ixtK K) (pv 2) pe_int (fun _ _ => rfl)) (pe_ix (ixtK K) (pv 2) pe_int (fun _ _ => rfl)) (nomark _))))) (pss_one (ps_ret pe_str)) pss_nil) (pss_cons (ps_if (PW.pt (pw_and (pt_cmpR op_eq (pv 1) pe_str (nomark _)) (pw_and1 (pt_cmpR (niDK K (hD hr)) (pv 2) (pe_dget (hu_of hr) (pv 0) pe_str (fun _ _ => rfl)) rfl)))) (pss_one (ps_ret pe_str)) pss_nil) (pss_cons (ps_if (pt_cmpR op_eq (pv 1) pe_str (nomark _)) (pss_one (ps_expr (bmK K PySem.F.plainAttrs_list PySem.F.slot_list_remove PySem.F.type_list_remove (remK K (hD hr)) (pe_dget (hu_of hr) (pv 0) pe_str (fun _ _ => rfl)) (pa_cons (pv 2) pa_nil)))) (pss_one (ps_if (pt_cmpR (niDK K (hD hr)) (pv 2) (pe_dget (hu_of hr) (pv 0) pe_str (fun _ _ => rfl)) rfl) (pss_one (ps_expr (bmK K PySem.F.plainAttrs_list PySem.F.slot_list_append PySem.F.type_list_append mt_append (pe_dget (hu_of hr) (pv 0) pe_str (fun _ _ => rfl)) (pa_cons (pv 2) pa_nil)))) pss_nil))) (pss_one (ps_ret pe_non)))))), ?_⟩
  obtain ⟨b, S, x, y, wd, v, o, rfl, h, wf, av, ho, k⟩ := h
  have ln := wf.tl
  have e0 : ∀ {G : Hp}, Same H G → ∀ σ : L2.St, σ[2]? = some (some v) → EvD (tOp (rIxT K) (tVar 2) (tC (.int 0))) σ G (.int x) := fun s σ q => ev_ixT (k := 0) (ev_var q (av.mono s)) rfl
  have e1 : ∀ {G : Hp}, Same H G → ∀ σ : L2.St, σ[2]? = some (some v) → EvD (tOp (rIxT K) (tVar 2) (tC (.int 1))) σ G (.int y) := fun s σ q => ev_ixT (k := 1) (ev_var q (av.mono s)) rfl
  have hne : (S.there x = false ∨ S.there y = false) ↔ (!S.there x || !S.there y) = true := by cases S.there x <;> cases S.there y <;> simp
  refine q_ifN (b := !S.there x || !S.there y) (et_or (et_not (et_trB (t_thereI h.rd (ev_vr rfl) (e0 (Same.refl H) _ rfl)))) fun _ => et_not (et_trB (t_thereI h.rd (ev_vr rfl) (e1 (Same.refl H) _ rfl)))) (fun q H1 s1 => ?_) fun q H1 s1 => ?_
  · rcases ho with ⟨rfl, rfl⟩ | ⟨rfl, rfl⟩
    · unfold Stt.tie at k
      rw [if_pos (hne.mpr q)] at k
      exact s_ret ev_str (RetD.mono (ress_err k rfl h) s1)
    · unfold Stt.untie at k
      rw [if_pos (hne.mpr q)] at k
      exact s_ret ev_str (RetD.mono (ress_err k rfl h) s1)
  have qn : ¬ (S.there x = false ∨ S.there y = false) := fun z => by rw [hne.mp z] at q; cases q
  have h1 := h.mono s1
  rcases ho with ⟨rfl, rfl⟩ | ⟨rfl, rfl⟩
  · unfold Stt.tie at k
    rw [if_neg qn] at k
    refine q_ifN (b := decide (x = y)) (cond_and (a := true) ((et_test (ev_eqS (ev_vs rfl) ev_str)).is (decide_eq_true rfl)) (fun _ => et_test (ev_eqI (e0 s1 _ rfl) (e1 s1 _ rfl))) (by simp)) (fun q2 H2 s2 => ?_) fun q2 H2 s2 => ?_
    · rw [if_pos (of_decide_eq_true q2)] at k
      exact s_ret ev_str (RetD.mono (ress_err k rfl h) (s1.trans s2))
    rw [if_neg (of_decide_eq_false q2)] at k
    have s12 := s1.trans s2
    refine q_ifN (b := false) ((et_and (a := false) (b := true) ((et_test (ev_eqS (ev_vs rfl) ev_str)).is (decide_eq_false (by decide))) fun z => by cases z).is (by rfl)) (fun z => by cases z) fun _ H3 s3 => ?_
    have s13 := s12.trans s3
    refine q_if (b := false) ((et_test (ev_eqS (ev_vs rfl) ev_str)).is (decide_eq_false (by decide))) (fun z => by cases z) fun _ H4 s4 => ?_
    have s14 := s13.trans s4
    have h4 := h.mono s14
    refine s_ifN (et_test (ev_niP (p := (x, y)) (ev_var rfl (av.mono s14)) (t_ties h4.rd (ev_vr rfl)))) (fun q3 H5 s5 => ?_) fun q3 H5 s5 => ?_
    · have nb : (x, y) ∉ S.ties := by simpa using q3
      rw [if_neg nb] at k
      have s15 := s14.trans s5
      have h5 := h.mono s15
      obtain ⟨vs, p1, p2⟩ := h5.ties
      refine s_app p1 (t_tiesR h5.rd (ev_vr rfl)) (ev_var rfl (av.mono s15)) (by rw [← p2.length, List.length_map]; omega) fun v' H6 s6 av' => ?_
      have h6 := h5.mono s6
      have z : Ats H6 ((S.ties ++ [(x, y)]).map pairD) (vs ++ [v']) := by rw [List.map_append]; exact (p2.mono s6).app (.one av')
      dsimp only
      refine s_ret ev_non fun v H8 s8 av => ?_
      exact ress_of k rfl v b H8 rfl ((h6.tiesIn z).mono s8) (((Mv.of s15).trans (mv_upd s6 (by simp [SA.all]) (s6 _ _ p1) fun _ z => nomatch z)).trans (Mv.of s8)) av
    · have nb : (x, y) ∈ S.ties := by simpa using q3
      rw [if_pos nb] at k
      dsimp only
      refine s_ret ev_non fun v H8 s8 av => ?_
      exact ress_of k rfl v b H8 rfl (h.mono ((s14.trans s5).trans s8)) (Mv.of ((s14.trans s5).trans s8)) av
  · unfold Stt.untie at k
    rw [if_neg qn] at k
    refine q_ifN (b := false) ((et_and (a := false) (b := true) ((et_test (ev_eqS (ev_vs rfl) ev_str)).is (decide_eq_false (by decide))) fun z => by cases z).is (by rfl)) (fun z => by cases z) fun _ H2 s2 => ?_
    have s12 := s1.trans s2
    have h2 := h.mono s12
    refine q_ifN (b := !decide ((x, y) ∈ S.ties)) (cond_and (a := true) ((et_test (ev_eqS (ev_vs rfl) ev_str)).is (decide_eq_true rfl)) (fun _ => et_test (ev_niP (p := (x, y)) (ev_var rfl (av.mono s12)) (t_ties h2.rd (ev_vr rfl)))) (by simp)) (fun q2 H3 s3 => ?_) fun q2 H3 s3 => ?_
    · have nb : (x, y) ∉ S.ties := by simpa using q2
      rw [if_pos nb] at k
      exact s_ret ev_str (RetD.mono (ress_err k rfl h) (s12.trans s3))
    have nb : (x, y) ∈ S.ties := by simpa using q2
    rw [if_neg (by simpa using nb)] at k
    have s13 := s12.trans s3
    refine q_if (b := true) ((et_test (ev_eqS (ev_vs rfl) ev_str)).is (decide_eq_true rfl)) (fun _ H4 s4 => ?_) fun z => by cases z
    have s14 := s13.trans s4
    have h4 := h.mono s14
    obtain ⟨vs, p1, p2⟩ := h4.ties
    refine s_rem p1 p2 nb (t_tiesR h4.rd (ev_vr rfl)) (ev_var rfl (av.mono s14)) fun j H5 s5 z => ?_
    have h5 := h4.mono s5
    dsimp only
    refine s_ret ev_non fun v H8 s8 av => ?_
    exact ress_of k rfl v b H8 rfl ((h5.tiesIn z).mono s8) (((Mv.of s14).trans (mv_upd s5 (by simp [SA.all]) (s5 _ _ p1) fun _ z => nomatch z)).trans (Mv.of s8)) av
end
end Ho

set_option Elab.async false
set_option linter.all false
set_option maxRecDepth 100000
set_option maxHeartbeats 4000000
/-! C9: the law's own walk: things are cast off, brought back. -/
namespace Ho
open PySem PySem.Spec PyProof.Rows L2
section
variable {P : Program} {w : World} {K : PySem.W.Frag} {mg : Str → Option Value} {base : Heap} {σ : L2.St} {H H' : Hp} {ta tb te tx td tl : TE} {b : SA} {S S' : Stt} {E : XK} {De : Ends} {tz : TS}
theorem ev_remk {r : Rw} {t1 t2 : TE} {m : Option Int} (h1 : EvD t1 σ H (row4 r)) (h2 : EvD t2 σ H (oi m)) : EvD (tOp (rCatT K) (tSl (rSlT K) t1 tNoPart (tPart (tC (.int 3)))) (tTup (tCons t2 tNil))) σ H (row4 { r with mrk := m }) :=
  (ev_catT (ds := [oi r.par, .str r.nm, os r.tx]) (es := [oi m]) ((ev_slTo (k := 3) (by show 3 < 4; decide) h1).is rfl) (ev_tup (ea_cons h2 ea_nil) le_lit) (by intro z; cases z) le_lit).is rfl
def sp_law_shelve (K : PySem.W.Frag) : Sp := fun vs H Q _ => ∃ (b : SA) (S : Stt) (n : Int) (wd : Str) (o : Out × Stt), vs = [.ref b.p, .str wd, .int n] ∧ StAt H b S ∧ S.Wf ∧ S.Inv ∧ ((wd = "cast" ∧ o = S.cast n) ∨ (wd = "back" ∧ o = S.back n) ∨ (wd = "gone" ∧ o = S.gone n)) ∧ ResS b o H Q
theorem sc_law_shelve : FnScope ["_law_state", "_law_word_here", "_law_number_here", "_law_one", "_law_parent_here", "_law_name", "_law_text", "_law_mark", "_law_row"] ["_law_state", "_law_word_here", "_law_number_here"] (defScope s_law_shelve) := ⟨rfl, rfl, rfl, by decide +kernel, rfl, by decide +kernel, by decide +kernel⟩
theorem ok_law_shelve (T : Tx K mg) : FnR P w K mg base (L2.CX P w) 4 (He.ga K "_law_shelve") (sp_law_shelve K) := by
  refine fnr (F_law_shelve T) sc_law_shelve (fun _ _ _ _ _ _ us hl => match us, hl with | [_, _, _], _ => rfl) (fun vs H Q E h => by obtain ⟨_, _, _, _, _, rfl, _⟩ := h; rfl) (fun cdv A outer s H vs Q E hr h => ?_)
  refine ⟨_, PSs.nox (pss_cons (ps_if (pt_cmpR op_eq (pv 1) pe_str (nomark _)) (pss_cons (ps_if (pt_not (truK K (pe_callF (ok_law_there T) (hr.mono (by decide)) (T_law_there T).1 (T_law_there T).2 passL (pa_cons (pv 0) (pa_cons (pv 2) pa_nil))))) (pss_one (ps_ret pe_str)) pss_nil) (pss_cons (ps_for PassesOwn.never rfl (pilK K (pe_callF (ok_law_within T) (hr.mono (by decide)) (T_law_within T).1 (T_law_within T).2 passL (pa_cons (pv 0) (pa_cons (pv 2) pa_nil)))) (pg_name (i := 3) sc_law_shelve.nd rfl (Or.inl rfl)) (pss_one (ps_dput (hu_of hr) (pe_dget (hu_of hr) (pv 0) pe_str (fun _ _ => rfl)) (pv 3) (pe_op (catTK K) (pe_slice (sltK K) (pe_dget (hu_of hr) (pe_dget (hu_of hr) (pv 0) pe_str (fun _ _ => rfl)) (pv 3) (fun _ _ => rfl)) po_none (po_some pe_int)) (pe_tup (pa_cons (pv 2) pa_nil))) rfl))) (pss_cons (ps_expr (bmK K PySem.F.plainAttrs_list PySem.F.slot_list_append PySem.F.type_list_append mt_append (pe_dget (hu_of hr) (pv 0) pe_str (fun _ _ => rfl)) (pa_cons (pe_tup (pa_cons (pv 2) (pa_cons (pe_dget (hu_of hr) (pv 0) pe_str (fun _ _ => rfl)) pa_nil))) pa_nil))) (pss_one (ps_ret pe_non))))) pss_nil) (pss_cons (ps_if (pt_cmpR (niK K) (pv 2) (pe_lc (own := [("_law_row", 8)]) rfl sc_law_shelve.nd (pilK K (pe_dget (hu_of hr) (pv 0) pe_str (fun _ _ => rfl))) (blkOk_by (N := ["_law_state", "_law_word_here", "_law_number_here", "_law_one", "_law_parent_here", "_law_name", "_law_text", "_law_mark", "_law_row"]) (sc := defScope s_law_shelve) (by decide +kernel)) (fun _ _ _ _ _ => (pg_name (i := 8) sc_law_shelve.nd rfl (Or.inl rfl))) (fun _ _ _ _ _ => pts_nil) (fun _ _ _ _ _ => (pe_ix (ixtK K) (pv 8) pe_int (fun _ _ => rfl)))) rfl) (pss_one (ps_ret pe_str)) pss_nil) (pss_cons (ps_if (pt_cmpR op_eq (pv 1) pe_str (nomark _)) (pss_cons (ps_expr (pe_callF (ok_law_lose T) (hr.mono (by decide)) (T_law_lose T).1 (T_law_lose T).2 passL (pa_cons (pv 0) (pa_cons (pv 2) pa_nil)))) (pss_one (ps_ret pe_non))) pss_nil) (pss_cons (ps_asg (pe_dget (hu_of hr) (pe_dget (hu_of hr) (pv 0) pe_str (fun _ _ => rfl)) (pv 2) (fun _ _ => rfl)) (gtupK K (n := 4) rfl (pgs_cons (pg_name (i := 4) sc_law_shelve.nd rfl (Or.inl rfl)) (pgs_cons (pg_name (i := 5) sc_law_shelve.nd rfl (Or.inl rfl)) (pgs_cons (pg_name (i := 6) sc_law_shelve.nd rfl (Or.inl rfl)) (pgs_cons (pg_name (i := 7) sc_law_shelve.nd rfl (Or.inl rfl)) pgs_nil)))))) (pss_cons (ps_if (pt_not (truK K (pe_callF (ok_law_there T) (hr.mono (by decide)) (T_law_there T).1 (T_law_there T).2 passL (pa_cons (pv 0) (pa_cons (pv 4) pa_nil))))) (pss_one (ps_set (i := 4) sc_law_shelve.nd rfl (Or.inl rfl) pe_non)) pss_nil) (pss_cons (ps_dput (hu_of hr) (pe_dget (hu_of hr) (pv 0) pe_str (fun _ _ => rfl)) (pv 2) (pe_tup (pa_cons (pv 4) (pa_cons (pe_callF (ok_law_free T) (hr.mono (by decide)) (T_law_free T).1 (T_law_free T).2 passL (pa_cons (pv 0) (pa_cons (pv 4) (pa_cons (pv 5) pa_nil)))) (pa_cons (pv 6) (pa_cons (pv 7) pa_nil))))) rfl) (pss_cons (ps_for PassesOwn.never rfl (pilK K (pe_callTy (call_listD rfl) rfl (T_list T) bt_list (pa_cons (pe_dget (hu_of hr) (pv 0) pe_str (fun _ _ => rfl)) pa_nil))) (pg_name (i := 3) sc_law_shelve.nd rfl (Or.inl rfl)) (pss_one (ps_if (pt_cmpR op_eq (pe_ix (ixtK K) (pe_dget (hu_of hr) (pe_dget (hu_of hr) (pv 0) pe_str (fun _ _ => rfl)) (pv 3) (fun _ _ => rfl)) pe_int (fun _ _ => rfl)) (pv 2) (nomark _)) (pss_one (ps_dput (hu_of hr) (pe_dget (hu_of hr) (pv 0) pe_str (fun _ _ => rfl)) (pv 3) (pe_op (catTK K) (pe_slice (sltK K) (pe_dget (hu_of hr) (pe_dget (hu_of hr) (pv 0) pe_str (fun _ _ => rfl)) (pv 3) (fun _ _ => rfl)) po_none (po_some pe_int)) (pe_tup (pa_cons pe_non pa_nil))) rfl)) pss_nil))) (pss_cons (ps_dput (hu_of hr) (pv 0) pe_str (pe_lc (own := [("_law_row", 8)]) rfl sc_law_shelve.nd (pilK K (pe_dget (hu_of hr) (pv 0) pe_str (fun _ _ => rfl))) (blkOk_by (N := ["_law_state", "_law_word_here", "_law_number_here", "_law_one", "_law_parent_here", "_law_name", "_law_text", "_law_mark", "_law_row"]) (sc := defScope s_law_shelve) (by decide +kernel)) (fun _ _ _ _ _ => (pg_name (i := 8) sc_law_shelve.nd rfl (Or.inl rfl))) (fun _ _ _ _ _ => (pts_one (pt_cmpR op_ne (pe_ix (ixtK K) (pv 8) pe_int (fun _ _ => rfl)) (pv 2) (nomark _)))) (fun _ _ _ _ _ => (pv 8))) rfl) (pss_one (ps_ret pe_non)))))))))), ?_⟩
  obtain ⟨b, S, n, wd, o, rfl, h, wf, inv, ho, k⟩ := h
  have ln := wf.few
  have cl := wf.cl
  rcases ho with ⟨rfl, rfl⟩ | ho
  · unfold Stt.cast at k
    refine q_if (b := true) ((et_test (ev_eqS (ev_vs rfl) ev_str)).is (decide_eq_true rfl)) (fun _ H1 s1 => ?_) fun z => by cases z
    have h1 := h.mono s1
    refine q_ifN (et_not (et_trB (t_thereI h1.rd (ev_vr rfl) (ev_vi rfl)))) (fun q H2 s2 => ?_) fun q H2 s2 => ?_
    · rw [if_pos (by simpa using q)] at k
      exact s_ret ev_str (RetD.mono (ress_err k rfl h) (s1.trans s2))
    have q : S.there n = true := by simpa using q
    rw [if_neg (by rw [q]; decide)] at k
    have s12 := s1.trans s2
    have h2 := h.mono s12
    refine q_forN (tn_within h2.rd wf inv q (ev_vr rfl) (ev_vi rfl)) fun L vs H3 hL s3 h3l as => ?_
    have e := Ats.ints as
    subst e
    have oL := h2.out hL
    refine ⟨fun i σ' H' => ∃ o : Option V, σ' = [some (.ref b.p), some (.str "cast"), some (.int n), o, none, none, none, none, none] ∧ H' L = some (.lst ((S.within n).map V.int)) ∧ StAt H' b (S.remark ((S.within n).take i) (some n)) ∧ Mv b.all b.all H H', ?_, fun i σ' H' p => ?_, fun i v σ' H' hv p => ?_, fun σ' H' p => ?_⟩
    · refine ⟨_, rfl, h3l, ?_, Mv.of (s12.trans s3)⟩
      rw [List.take_zero, remark_nil]
      exact h2.mono s3
    · obtain ⟨_, _, z, _⟩ := p; exact z
    · obtain ⟨o, rfl, p1, p2, p3⟩ := p
      rw [List.getElem?_map] at hv
      obtain ⟨x, hx, ev⟩ := Option.map_eq_some_iff.mp hv
      subst ev
      have hxw : x ∈ S.within n := List.mem_of_getElem? hx
      have hxo : x ∉ (S.within n).take i := not_take (within_nd wf n) hx
      have gx := remark_rw (m := some n) (within_key hxw) hxo
      refine g_row (n := x) (r := { S.rw x with mrk := some n }) p2 (by rw [remark_rows, List.length_map]; omega) (ev_remk (m := some n) (t_row p2.rd gx (ev_vr rfl) (ev_var rfl (.int x))) (ev_vi rfl)) (t_rows p2.rd (ev_vr rfl)) (ev_var rfl (.int x)) fun H5 h5 m5 => ?_
      rw [remark_set wf.nd (within_key hxw), ← take_more hx] at h5
      exact ⟨_, rfl, m5.keep _ _ oL p1, h5, p3.trans m5⟩
    · obtain ⟨o, rfl, p1, p2, p3⟩ := p
      rw [List.take_of_length_le (by rw [List.length_map]; exact Nat.le_refl _)] at p2
      obtain ⟨vs, c1, c2⟩ := p2.casts
      have c2' : Ats H' (S.casts.map pairD) vs := c2
      refine q_app c1 (t_castsR p2.rd (ev_vr rfl)) (ev_pairD (y := (S.remark (S.within n) (some n)).day) (ev_vi rfl) (t_day p2.rd (ev_vr rfl))) (by rw [← c2'.length, List.length_map]; omega) fun v H5 s5 av => ?_
      have h5 := p2.mono s5
      have z : Ats H5 ((S.casts ++ [(n, S.day)]).map pairD) (vs ++ [v]) := by rw [List.map_append]; exact (c2'.mono s5).app (.one av)
      have h6 := h5.castsIn z
      exact s_ret ev_non fun v H8 s8 av => ress_of k rfl v b H8 rfl (StAt.mono s8 (by rw [castOff_is]; exact h6)) ((p3.trans (mv_upd s5 (by simp [SA.all]) (s5 _ _ c1) fun _ z => nomatch z)).trans (Mv.of s8)) av
  have wne : wd ≠ "cast" := by
    rcases ho with ⟨rfl, _⟩ | ⟨rfl, _⟩ <;> decide
  refine q_ifN (b := false) ((et_test (ev_eqS (ev_vs rfl) ev_str)).is (decide_eq_false wne)) (fun z => by cases z) fun _ H1 s1 => ?_
  have h1 := h.mono s1
  refine q_ifN (et_test (ev_niInt (ev_vi rfl) ((en_lc S.casts pairD (fun _ => true) (fun x => .int x.1) (t_casts h1.rd (ev_vr rfl)) (by omega) (fun _ _ => rfl) (fun _ => rfl) fun x hx v G sg av => ⟨et_yes, fun _ => ev_ixT (k := 0) (ev_var rfl av) rfl⟩).toD.is (e := .lst ((S.casts.map (·.1)).map D.int)) (by rw [List.filter_eq_self.mpr (by simp), List.map_map]; rfl)))) (fun q H2 s2 => ?_) fun q H2 s2 => ?_
  · have q : n ∉ S.casts.map (·.1) := by simpa using q
    have ke : ResS b (.err .noCast, S) H Q := by
      rcases ho with ⟨_, rfl⟩ | ⟨_, rfl⟩
      · unfold Stt.back at k; rw [if_pos q] at k; exact k
      · unfold Stt.gone at k; rw [if_pos q] at k; exact k
    exact s_ret ev_str (RetD.mono (ress_err ke rfl h) (s1.trans s2))
  have hn : n ∈ S.casts.map (·.1) := by simpa using q
  have s12 := s1.trans s2
  have h2 := h.mono s12
  rcases ho with ⟨rfl, rfl⟩ | ⟨rfl, rfl⟩
  · unfold Stt.back at k
    rw [if_neg (fun q => q hn)] at k
    obtain ⟨c, hc, hcn⟩ := List.mem_map.mp hn
    have hk : n ∈ S.keys := by rw [← hcn]; exact cast_key inv hc
    have hm : S.mark n = some n := by rw [← hcn]; exact inv.cm c hc
    refine q_ifN (b := false) ((et_test (ev_eqS (ev_vs rfl) ev_str)).is (decide_eq_false (by decide))) (fun z => by cases z) fun _ H3 s3 => ?_
    have s13 := s12.trans s3
    have h3 := h.mono s13
    refine q_unp4 (t_row h3.rd (get_rw hk) (ev_vr rfl) (ev_vi rfl)) fun v1 v2 v3 v4 H4 s4 a1 a2 a3 a4 => ?_
    cases at_oi' a1
    cases a2
    cases at_os' a3
    cases at_oi' a4
    have s14 := s13.trans s4
    have h4 := h.mono s14
    have lnm : (S.rw n).nm.length ≤ 100000 := wf.nml _ (row_get (get_rw hk))
    have hpar : S.newPar n = if S.thereO (S.rw n).par = true then (S.rw n).par else none := rfl
    refine q_if2 (b := !S.thereO (S.rw n).par) (fun σ' => σ' = [some (.ref b.p), some (.str "back"), some (.int n), none, some (oiV (S.newPar n)), some (.str (S.rw n).nm), some (osV (S.rw n).tx), some (oiV (S.rw n).mrk), none]) (et_not (et_trB (t_there h4.rd (ev_vr rfl) (ev_vo rfl)))) (fun σ' H5 eσ s5 => ?_) (fun q kk H5 s5 => ?_) fun q kk H5 s5 => ?_
    · subst eσ
      have s15 := s14.trans s5
      have h5 := h.mono s15
      generalize hT : S.setRow n { S.rw n with par := S.newPar n, nm := S.newNm n } = T
      refine gq_row (n := n) (r := { S.rw n with par := S.newPar n, nm := S.newNm n }) h5 (by omega) (ev_row4 (ev_vo rfl) (t_free h5 wf (by omega) (ev_vr rfl) (ev_vo rfl) (ev_vs rfl)) (ev_vos rfl) (ev_vo rfl)) (t_rows h5.rd (ev_vr rfl)) (ev_vi rfl) fun H6 h6 m6 => ?_
      rw [hT] at h6
      have tk : T.keys = S.keys := by rw [← hT]; exact setRow_keys hk
      have tnd : T.keys.Nodup := by rw [tk]; exact wf.nd
      have tl : T.rows.length < 64 := by
        have : T.keys.length = T.rows.length := by unfold Stt.keys; rw [List.length_map]
        rw [← this, tk]; exact wf.klen
      refine q_forN ((en_listD h6.rd.rows (t_rows h6.rd (ev_vr rfl))).is (b := T.keys.map D.int) (by rw [keys4])) fun L vs H7 hL s7 h7l as => ?_
      have e := Ats.ints as
      subst e
      have oL := h6.out hL
      have m6' := (Mv.of s15).trans m6
      refine ⟨fun i σ' H' => ∃ o : Option V, σ' = [some (.ref b.p), some (.str "back"), some (.int n), o, some (oiV (S.newPar n)), some (.str (S.rw n).nm), some (osV (S.rw n).tx), some (oiV (S.rw n).mrk), none] ∧ H' L = some (.lst (T.keys.map V.int)) ∧ StAt H' b (T.remark ((T.keys.take i).filter fun x => decide (T.mark x = some n)) none) ∧ Mv b.all b.all H H', ?_, fun i σ' H' p => ?_, fun i v σ' H' hv p => ?_, fun σ' H' p => ?_⟩
      · refine ⟨_, rfl, h7l, ?_, m6'.trans (Mv.of s7)⟩
        rw [List.take_zero, List.filter_nil, remark_nil]
        exact h6.mono s7
      · obtain ⟨_, _, z, _⟩ := p; exact z
      · obtain ⟨o, rfl, p1, p2, p3⟩ := p
        rw [List.getElem?_map] at hv
        obtain ⟨x, hx, ev⟩ := Option.map_eq_some_iff.mp hv
        subst ev
        have hxk : x ∈ T.keys := List.mem_of_getElem? hx
        have hxo : x ∉ (T.keys.take i).filter fun x => decide (T.mark x = some n) := fun z => not_take tnd hx (List.mem_filter.mp z).1
        have gx := remark_rw (m := none) hxk hxo
        refine s_ifN (b := decide (T.mark x = some n)) ((et_test (ev_eq (b := some n) (t_mrk p2.rd gx (ev_vr rfl) (ev_var rfl (.int x))) (ev_vi rfl))).is (by rw [rw_mark hxk])) (fun c H8 s8 => ?_) fun c H8 s8 => ?_
        · have p8 := p2.mono s8
          refine g_row (n := x) (r := { T.rw x with mrk := none }) p8 (by rw [remark_rows, List.length_map]; omega) (ev_remk (m := none) (t_row p8.rd gx (ev_vr rfl) (ev_var rfl (.int x))) ev_non) (t_rows p8.rd (ev_vr rfl)) (ev_var rfl (.int x)) fun H9 h9 m9 => ?_
          rw [remark_set tnd hxk] at h9
          refine ⟨_, rfl, m9.keep _ _ oL (s8 _ _ p1), ?_, (p3.trans (Mv.of s8)).trans m9⟩
          rw [take_more hx, List.filter_append, List.filter_cons, if_pos c]
          exact h9
        · refine ⟨_, rfl, s8 _ _ p1, ?_, p3.trans (Mv.of s8)⟩
          rw [take_more hx, List.filter_append, List.filter_cons, if_neg (by rw [c]; decide), List.filter_nil, List.append_nil]
          exact p2.mono s8
      · obtain ⟨o, rfl, p1, p2, p3⟩ := p
        rw [List.take_of_length_le (by rw [List.length_map]; exact Nat.le_refl _)] at p2
        have p2' : StAt H' b (T.remark (T.bundleL n) none) := p2
        have ec : T.casts = S.casts := by rw [← hT]; rfl
        refine gq_casts (cs := S.casts.filter fun c => !decide (c.1 = n)) p2' ((en_lc S.casts pairD (fun c => !decide (c.1 = n)) pairD ((t_casts p2'.rd (ev_vr rfl)).is (by rw [show (T.remark (T.bundleL n) none).casts = S.casts from ec])) (by omega) (fun p _ => pairD_nl p) (fun _ => rfl) fun c hc v H3 s3 av => ?_).is rfl) (ev_vr rfl) fun q H9 hq h9 m9 => ?_
        · exact ⟨et_test (ev_neI (ev_ixT (k := 0) (ev_var rfl av) rfl) (ev_var rfl (.int n))), fun _ => ev_var rfl av⟩
        · have fin : ({ T.remark (T.bundleL n) none with casts := S.casts.filter fun c => !decide (c.1 = n) } : Stt) = S.bringBack n := by
            unfold Stt.bringBack
            rw [hT, wake_remark' tnd, ec]
          rw [fin] at h9
          exact s_ret ev_non fun v H10 s10 av => ress_of k rfl v { b with c := q } H10 rfl (h9.mono s10) ((p3.trans m9).trans (Mv.of s10)) av
    · refine s_asg ev_non fun v H6 s6 av => ?_
      cases av
      refine kk _ H6 ?_ (s5.trans s6)
      rw [hpar, if_neg (by
        simp only [Bool.not_eq_true'] at q
        rw [q]; decide)]
      rfl
    · refine kk _ H5 ?_ s5
      have e : S.newPar n = (S.rw n).par := by
        rw [hpar, if_pos (by simpa using q)]
      rw [e]; rfl
  · unfold Stt.gone at k
    rw [if_neg (fun q => q hn)] at k
    refine q_if (b := true) ((et_test (ev_eqS (ev_vs rfl) ev_str)).is (decide_eq_true rfl)) (fun _ H3 s3 => ?_) fun z => by cases z
    have s13 := s12.trans s3
    refine gc_lose (h.mono s13) wf (ev_vr rfl) (ev_vi rfl) fun b' H4 ep h4 m4 => ?_
    dsimp only
    refine s_ret ev_non fun v H5 s5 av => ?_
    exact ress_of k rfl v b' H5 ep (h4.mono s5) (((Mv.of s13).trans m4).trans (Mv.of s5)) av
end
end Ho

set_option Elab.async false
set_option linter.all false
set_option maxRecDepth 100000
set_option maxHeartbeats 4000000
/-! C10: the law's own walk: copies. -/
namespace Ho
open PySem PySem.Spec PyProof.Rows L2
section
variable {P : Program} {w : World} {K : PySem.W.Frag} {mg : Str → Option Value} {base : Heap} {σ : L2.St} {H H' : Hp} {ta tb te tx td tl : TE} {b : SA} {S S' : Stt} {E : XK} {De : Ends} {tz : TS}
def sp_law_copy (K : PySem.W.Frag) : Sp := fun vs H Q _ => ∃ (b : SA) (S : Stt) (n : Int) (par : Option Int) (v : V), vs = [.ref b.p, v] ∧ At H (.tup [.int n, oi par]) v ∧ StAt H b S ∧ S.Wf ∧ S.Inv ∧ ResS b (S.copy n par) H Q
theorem sc_law_copy : FnScope ["_law_state", "_law_rest", "_law_number_here", "_law_parent_here", "_law_some", "_law_names_here", "_law_name", "_law_one", "_law_row", "_law_pairs", "_law_k", "_law_pair", "_law_other"] ["_law_state", "_law_rest"] (defScope s_law_copy) := ⟨rfl, rfl, rfl, by decide +kernel, rfl, by decide +kernel, by decide +kernel⟩
theorem ok_law_copy (T : Tx K mg) : FnR P w K mg base (L2.CX P w) 4 (He.ga K "_law_copy") (sp_law_copy K) := by
  refine fnr (F_law_copy T) sc_law_copy (fun _ _ _ _ _ _ us hl => match us, hl with | [_, _], _ => rfl) (fun vs H Q E h => by obtain ⟨_, _, _, _, _, rfl, _⟩ := h; rfl) (fun cdv A outer s H vs Q E hr h => ?_)
  refine ⟨_, PSs.nox (pss_cons (ps_asg (pv 1) (gtupK K (n := 2) rfl (pgs_cons (pg_name (i := 2) sc_law_copy.nd rfl (Or.inl rfl)) (pgs_cons (pg_name (i := 3) sc_law_copy.nd rfl (Or.inl rfl)) pgs_nil)))) (pss_cons (ps_if (pt_not (truK K (pe_callF (ok_law_there T) (hr.mono (by decide)) (T_law_there T).1 (T_law_there T).2 passL (pa_cons (pv 0) (pa_cons (pv 2) pa_nil))))) (pss_one (ps_ret pe_str)) pss_nil) (pss_cons (ps_if (truK K (pe_callF (ok_law_no_box T) (hr.mono (by decide)) (T_law_no_box T).1 (T_law_no_box T).2 passL (pa_cons (pv 0) (pa_cons (pv 3) pa_nil)))) (pss_one (ps_ret pe_str)) pss_nil) (pss_cons (ps_set (i := 4) sc_law_copy.nd rfl (Or.inl rfl) (pe_callF (ok_law_within T) (hr.mono (by decide)) (T_law_within T).1 (T_law_within T).2 passL (pa_cons (pv 0) (pa_cons (pv 2) pa_nil)))) (pss_cons (ps_if (truK K (pe_callF (ok_law_no_room T) (hr.mono (by decide)) (T_law_no_room T).1 (T_law_no_room T).2 passL (pa_cons (pv 0) (pa_cons (pe_callB (sumK K) rfl (T_sum T) bt_sum (pa_cons (pe_lc (own := [("_law_one", 7)]) rfl sc_law_copy.nd (pilK K (pv 4)) (blkOk_by (N := ["_law_state", "_law_rest", "_law_number_here", "_law_parent_here", "_law_some", "_law_names_here", "_law_name", "_law_one", "_law_row", "_law_pairs", "_law_k", "_law_pair", "_law_other"]) (sc := defScope s_law_copy) (by decide +kernel)) (fun _ _ _ _ _ => (pg_name (i := 7) sc_law_copy.nd rfl (Or.inl rfl))) (fun _ _ _ _ _ => pts_nil) (fun _ _ _ _ _ => (pe_callB lenStrK rfl (T_len T) bt_len (pa_cons (orTK K (pe_ix (ixtK K) (pe_dget (hu_of hr) (pe_dget (hu_of hr) (pv 0) pe_str (fun _ _ => rfl)) (pv 7) (fun _ _ => rfl)) pe_int (fun _ _ => rfl)) (pe_one pe_str)) pa_nil)))) pa_nil)) pa_nil)))) (pss_one (ps_ret pe_str)) pss_nil) (pss_cons (ps_set (i := 5) sc_law_copy.nd rfl (Or.inr rfl) (pe_callTy (dictPK K) rfl (T_dict T) bt_dict (pa_cons (pe_lc (own := [("_law_k", 10), ("_law_one", 7)]) rfl sc_law_copy.nd (enumK K rfl (T_enumerate T) (pa_cons (pv 4) pa_nil)) (blkOk_by (N := ["_law_state", "_law_rest", "_law_number_here", "_law_parent_here", "_law_some", "_law_names_here", "_law_name", "_law_one", "_law_row", "_law_pairs", "_law_k", "_law_pair", "_law_other"]) (sc := defScope s_law_copy) (by decide +kernel)) (fun _ _ _ _ _ => (gtupK K (n := 2) rfl (pgs_cons (pg_name (i := 10) sc_law_copy.nd rfl (Or.inl rfl)) (pgs_cons (pg_name (i := 7) sc_law_copy.nd rfl (Or.inl rfl)) pgs_nil)))) (fun _ _ _ _ _ => pts_nil) (fun _ _ _ _ _ => (pe_tup (pa_cons (pv 7) (pa_cons (pe_op op_add (pe_op op_add (pe_dget (hu_of hr) (pv 0) pe_str (fun _ _ => rfl)) pe_int) (pv 10)) pa_nil))))) pa_nil))) (pss_cons (ps_set (i := 6) sc_law_copy.nd rfl (Or.inl rfl) (pe_callF (ok_law_free T) (hr.mono (by decide)) (T_law_free T).1 (T_law_free T).2 passL (pa_cons (pv 0) (pa_cons (pv 3) (pa_cons (pe_ix (ixtK K) (pe_dget (hu_of hr) (pe_dget (hu_of hr) (pv 0) pe_str (fun _ _ => rfl)) (pv 2) (fun _ _ => rfl)) pe_int (fun _ _ => rfl)) pa_nil))))) (pss_cons (ps_for PassesOwn.never rfl (pilK K (pv 4)) (pg_name (i := 7) sc_law_copy.nd rfl (Or.inl rfl)) (pss_cons (ps_set (i := 8) sc_law_copy.nd rfl (Or.inl rfl) (pe_dget (hu_of hr) (pe_dget (hu_of hr) (pv 0) pe_str (fun _ _ => rfl)) (pv 7) (fun _ _ => rfl))) (pss_one (ps_if (pt_cmpR op_eq (pv 7) (pv 2) (nomark _)) (pss_one (ps_dput (hu_of hr) (pe_dget (hu_of hr) (pv 0) pe_str (fun _ _ => rfl)) (pe_dget (hu_of hr) (pv 5) (pv 7) (fun _ _ => rfl)) (pe_tup (pa_cons (pv 3) (pa_cons (pv 6) (pa_cons (pe_ix (ixtK K) (pv 8) pe_int (fun _ _ => rfl)) (pa_cons pe_non pa_nil))))) rfl)) (pss_one (ps_dput (hu_of hr) (pe_dget (hu_of hr) (pv 0) pe_str (fun _ _ => rfl)) (pe_dget (hu_of hr) (pv 5) (pv 7) (fun _ _ => rfl)) (pe_op (catTK K) (pe_tup (pa_cons (pe_dget (hu_of hr) (pv 5) (pe_ix (ixtK K) (pv 8) pe_int (fun _ _ => rfl)) (fun _ _ => rfl)) pa_nil)) (pe_slice (sltK K) (pv 8) (po_some pe_int) po_none)) rfl)))))) (pss_cons (ps_setLc (own := [("_law_pair", 11)]) (i := 9) rfl sc_law_copy.nd rfl rfl (sw_true rfl rfl rfl (by decide +kernel)) (pilK K (pe_dget (hu_of hr) (pv 0) pe_str (fun _ _ => rfl))) (blkOk_by (N := ["_law_state", "_law_rest", "_law_number_here", "_law_parent_here", "_law_some", "_law_names_here", "_law_name", "_law_one", "_law_row", "_law_pairs", "_law_k", "_law_pair", "_law_other"]) (sc := defScope s_law_copy) (by decide +kernel)) (fun _ _ _ _ _ => (pg_name (i := 11) sc_law_copy.nd rfl (Or.inl rfl))) (fun _ _ _ _ _ => (pts_one (PW.pt (pw_and (pt_cmp (pc_din (hu_of hr) (pe_ix (ixtK K) (pv 11) pe_int (fun _ _ => rfl)) (pv 5))) (pw_and1 (pt_cmp (pc_din (hu_of hr) (pe_ix (ixtK K) (pv 11) pe_int (fun _ _ => rfl)) (pv 5)))))))) (fun _ _ _ _ _ => (pv 11))) (pss_cons (ps_expr (bmK K PySem.F.plainAttrs_list PySem.F.slot_list_extend PySem.F.type_list_extend mt_extend (pe_dget (hu_of hr) (pv 0) pe_str (fun _ _ => rfl)) (pa_cons (pe_lc (own := [("_law_one", 7), ("_law_other", 12)]) rfl sc_law_copy.nd (pilK K (pv 9)) (blkOk_by (N := ["_law_state", "_law_rest", "_law_number_here", "_law_parent_here", "_law_some", "_law_names_here", "_law_name", "_law_one", "_law_row", "_law_pairs", "_law_k", "_law_pair", "_law_other"]) (sc := defScope s_law_copy) (by decide +kernel)) (fun _ _ _ _ _ => (gtupK K (n := 2) rfl (pgs_cons (pg_name (i := 7) sc_law_copy.nd rfl (Or.inl rfl)) (pgs_cons (pg_name (i := 12) sc_law_copy.nd rfl (Or.inl rfl)) pgs_nil)))) (fun _ _ _ _ _ => pts_nil) (fun _ _ _ _ _ => (pe_tup (pa_cons (pe_dget (hu_of hr) (pv 5) (pv 7) (fun _ _ => rfl)) (pa_cons (pe_dget (hu_of hr) (pv 5) (pv 12) (fun _ _ => rfl)) pa_nil))))) pa_nil))) (pss_cons (ps_dput (hu_of hr) (pv 0) pe_str (pe_op op_add (pe_dget (hu_of hr) (pv 0) pe_str (fun _ _ => rfl)) (pe_callB (lenK K) rfl (T_len T) bt_len (pa_cons (pv 4) pa_nil))) rfl) (pss_one (ps_ret (pe_dget (hu_of hr) (pv 5) (pv 2) (fun _ _ => rfl))))))))))))))), ?_⟩
  obtain ⟨b, S, n, par, v, rfl, av, h, wf, inv, k⟩ := h
  have ln := wf.few
  unfold Stt.copy at k
  refine q_unp2 (ev_var rfl av) fun v1 v2 H1 s1 a1 a2 => ?_
  cases a1; cases at_oi' a2
  have h1 := h.mono s1
  refine q_ifN (et_not (et_trB (t_thereI h1.rd (ev_vr rfl) (ev_vi rfl)))) (fun q H2 s2 => ?_) fun q H2 s2 => ?_
  · rw [if_pos (by simpa using q)] at k
    exact s_ret ev_str (RetD.mono (ress_err k rfl h) (s1.trans s2))
  have q : S.there n = true := by simpa using q
  rw [if_neg (by rw [q]; decide)] at k
  have s12 := s1.trans s2
  have h2 := h.mono s12
  have hk := there_key q
  refine q_ifN (et_trB (t_no_box h2.rd (ev_vr rfl) (ev_vo rfl))) (fun q2 H3 s3 => ?_) fun q2 H3 s3 => ?_
  · rw [if_pos q2] at k
    exact s_ret ev_str (RetD.mono (ress_err k rfl h) (s12.trans s3))
  rw [if_neg (by rw [q2]; decide)] at k
  have s13 := s12.trans s3
  have h3 := h.mono s13
  refine q_asgN (tn_within h3.rd wf inv q (ev_vr rfl) (ev_vi rfl)) fun L vs H4 hL s4 h4l as => ?_
  have e := Ats.ints as
  subst e
  have s14 := s13.trans s4
  have h4 := h.mono s14
  have oL := h3.out hL
  have wl := within_len wf n
  have wnd := within_nd wf n
  refine gc_no_room (more := S.signs (S.within n)) h4 wf inv (ev_vr rfl) (ev_sum (ns := (S.within n).map fun x => Stt.txLen (S.rw x)) ((en_lc (S.within n) D.int (fun _ => true) (fun x => .int (Stt.txLen (S.rw x))) (ev_var rfl (.lst h4l (ats_ints _))) (by omega) (fun _ _ => rfl) (fun _ => rfl) fun x hx v G sg av => ?_).toD.is (by rw [List.filter_eq_self.mpr (by simp), List.map_map]; rfl))) (fun z v' H5 s5 av => ?_) fun z b5 H5 ep h5 m5 => ?_
  · cases av
    exact ⟨et_yes, fun _ => t_sign (h4.rd.mono sg) wf (get_rw (within_key hx)) (ev_vr rfl) (ev_var rfl (.int x))⟩
  · cases av
    rw [if_pos z] at k
    refine tru_t ?_
    exact s_ret ev_str (RetD.mono (ress_err k rfl h) (s14.trans s5))
  rw [if_neg z] at k
  refine tru_f ?_
  show tSeq _ _ _ _ _
  generalize hm : S.signs (S.within n) = more at k h5
  obtain ⟨wfR, invR⟩ := roomFor_ok wf inv more
  have cR := roomFor_count wf inv more
  have gR : ∀ x, S.there x = true → (S.roomFor more).get x = S.get x := fun x hx => roomFor_get wf inv more hx
  have lR := roomFor_rows wf inv more
  have nR : (S.roomFor more).num (S.within n) = S.num (S.within n) := by funext x; unfold Stt.num; rw [cR]
  generalize hR : S.roomFor more = R at k h5 wfR invR cR gR lR nR
  generalize hl : S.within n = l at *
  have thl : ∀ x ∈ l, S.there x = true := fun x hx => by rw [← hl] at hx; exact (mem_within.mp hx).there
  have hL5 := m5.keep _ _ oL h4l
  have m5' := (Mv.of s14).trans m5
  rw [← ep]
  have oL5 : L ∉ b5.all := fun zz => (m5.new L zz).elim (fun y => oL y) fun y => by rw [h4l] at y; cases y
  refine q_asgDict (l := l.zipIdx.map fun p : Int × Nat => (p.1, D.int (R.count + 1 + (p.2 : Int)))) ((en_lcEn l D.int (fun p : Int × Nat => D.tup [.int p.1, .int (R.count + 1 + (p.2 : Int))]) (ea_cons (ev_var rfl (.lst hL5 (ats_ints l))) ea_nil) (by omega) (fun _ => rfl) (fun _ _ => rfl) fun i x hx v G sg av => ?_).is (by rw [List.map_map]; rfl)) (by rw [num_keys]; exact wnd) fun Nd H6 hN s6 hd => ?_
  · cases av
    exact ⟨et_yes, ev_tup (ea_cons (ev_var rfl (.int x)) (ea_cons (ev_add (ev_add (t_count (h5.rd.mono sg) (ev_vr rfl)) ev_int) (ev_var rfl (.int _))) ea_nil)) le_lit⟩
  have h6 := h5.mono s6
  have oN := h5.out hN
  have hnR : R.get n = some (S.rw n) := by rw [gR n q]; exact get_rw hk
  have lnm : (S.rw n).nm.length ≤ 100000 := wf.nml _ (row_get (get_rw hk))
  generalize hnm : freeNm (S.rw n).nm (R.names par none) = nm at k
  refine q_asg (d := .str nm) ((t_free h6 wfR (by omega) (ev_vr rfl) (ev_vo rfl) (t_nm h6.rd hnR (ev_vr rfl) (ev_vi rfl))).is (by rw [hnm])) fun v' H7 s7 av' => ?_
  cases av'
  have s67 := s6.trans s7
  have hL7 := s67 _ _ hL5
  have m7 : Mv b.all b5.all H H7 := m5'.trans (Mv.of s67)
  refine q_forR (ev_vr rfl) hL7 fun H8 s8 => ⟨fun i σ' H' => ∃ o7 o8 : Option V, σ' = [some (.ref b5.p), some v, some (.int n), some (oiV par), some (.ref L), some (.ref Nd), some (.str nm), o7, o8, none, none, none, none] ∧ H' L = some (.lst (l.map V.int)) ∧ DAt H' Nd (l.zipIdx.map fun p : Int × Nat => (p.1, D.int (R.count + 1 + (p.2 : Int)))) ∧ StAt H' b5 (R.copiedS l n par nm i) ∧ Mv b.all b5.all H H', ?_, fun i σ' H' p => ?_, fun i v' σ' H' hv p => ?_, fun σ' H' p => ?_⟩
  · refine ⟨_, _, rfl, s8 _ _ hL7, hd.mono (s7.trans s8), ?_, m7.trans (Mv.of s8)⟩
    rw [copiedS_zero]
    exact h5.mono (s67.trans s8)
  · obtain ⟨_, _, _, z, _⟩ := p; exact z
  · obtain ⟨o7, o8, rfl, p1, p2, p3, p4⟩ := p
    rw [List.getElem?_map] at hv
    obtain ⟨x, hx, ev⟩ := Option.map_eq_some_iff.mp hv
    subst ev
    have hxl : x ∈ l := List.mem_of_getElem? hx
    have hil : i < l.length := (List.getElem?_eq_some_iff.mp hx).1
    have htx := thl x hxl
    have hkx := there_key htx
    have hRx : R.get x = some (S.rw x) := by rw [gR x htx]; exact get_rw hkx
    have hRk : x ∈ R.keys := key_get hRx
    have hgx : (R.copiedS l n par nm i).get x = some (S.rw x) := by
      show (R.copied l n par nm i).get x = _
      rw [copied_get hRk]; exact hRx
    have rwx : R.rw x = S.rw x := rw_get hRx
    have mkx : (S.rw x).mrk = none := by rw [← rw_mark hkx]; exact there_mark htx
    refine q_asg (t_row p3.rd hgx (ev_vr rfl) (ev_var rfl (.int x))) fun v8 H9 s9 a8 => ?_
    have h9 := p3.mono s9
    have lnc : (R.copiedS l n par nm i).rows.length < 10000 := by
      show (R.rows ++ _).length < _
      rw [List.length_append, List.length_map, List.length_take]
      omega
    have fin : ∀ (σ' : L2.St) (o7 o8 : Option V) (G : Hp), σ' = [some (.ref b5.p), some v, some (.int n), some (oiV par), some (.ref L), some (.ref Nd), some (.str nm), o7, o8, none, none, none, none] → StAt G b5 ((R.copiedS l n par nm i).setRow (R.num l x) (R.copyRow l n par nm x)) → Mv b5.all b5.all H9 G →
        ∃ o7 o8 : Option V, σ' = [some (.ref b5.p), some v, some (.int n), some (oiV par), some (.ref L), some (.ref Nd), some (.str nm), o7, o8, none, none, none, none] ∧ G L = some (.lst (l.map V.int)) ∧ DAt G Nd (l.zipIdx.map fun p : Int × Nat => (p.1, D.int (R.count + 1 + (p.2 : Int)))) ∧ StAt G b5 (R.copiedS l n par nm (i + 1)) ∧ Mv b.all b5.all H G := fun σ' o7 o8 G e h9 m9 => by
      refine ⟨o7, o8, e, m9.keep _ _ oL5 (s9 _ _ p1), (p2.mono s9).keep (fun o z => m9.keep _ _ oN z) m9.tup (fun p hp => ?_), by rw [← copiedS_more invR wnd hx]; exact h9, (p4.trans (Mv.of s9)).trans m9⟩
      obtain ⟨u, _, rfl⟩ := List.mem_map.mp hp
      rfl
    by_cases c : x = n
    · subst c
      refine s_if (b := true) ((et_test (ev_eqI (ev_var rfl (.int x)) (ev_vi rfl))).is (by simp)) (fun _ H10 s10 => ?_) (fun b => by cases b)
      have ec : R.copyRow l x par nm x = ⟨par, nm, (S.rw x).tx, none⟩ := by unfold Stt.copyRow; rw [if_pos rfl, rwx]
      refine g_row (n := R.num l x) (r := R.copyRow l x par nm x) (h9.mono s10) lnc ?_ (t_rows (h9.mono s10).rd (ev_vr rfl)) (ev_dget ((p2.mono s9).mono s10).i (num_look wnd hxl) (ev_vr rfl) (ev_var rfl (.int x))) fun H11 h11 m11 => fin _ _ _ H11 rfl h11 ((Mv.of s10).trans m11)
      rw [ec]
      exact ev_row4 (ev_vo rfl) (ev_vs rfl) (ev_ixT (k := 2) (ev_var rfl (a8.mono s10)) rfl) ev_non
    · refine s_if (b := false) ((et_test (ev_eqI (ev_var rfl (.int x)) (ev_vi rfl))).is (by simp [c])) (fun b => by cases b) fun _ H10 s10 => ?_
      have dx : S.Desc n x := by rw [← hl] at hxl; exact mem_within.mp hxl
      obtain ⟨pp, hpp, dpp⟩ := dx.up c
      have hpl : pp ∈ l := by rw [← hl]; exact mem_within.mpr dpp
      have ec : R.copyRow l n par nm x = ⟨some (R.num l pp), (S.rw x).nm, (S.rw x).tx, none⟩ := by unfold Stt.copyRow; rw [if_neg c, rwx, hpp]; rfl
      have a8' := a8.mono s10
      have dN := ((p2.mono s9).mono s10).i
      refine g_row (n := R.num l x) (r := R.copyRow l n par nm x) (h9.mono s10) lnc ?_ (t_rows (h9.mono s10).rd (ev_vr rfl)) (ev_dget dN (num_look wnd hxl) (ev_vr rfl) (ev_var rfl (.int x))) fun H11 h11 m11 => fin _ _ _ H11 rfl h11 ((Mv.of s10).trans m11)
      rw [ec]
      refine (ev_catT (ds := [.int (R.num l pp)]) (es := [.str (S.rw x).nm, os (S.rw x).tx, .non]) (ev_tup (ea_cons (ev_dget dN (num_look wnd hpl) (ev_vr rfl) ((ev_ixT (k := 0) (ev_var rfl a8') rfl).is (e := .int pp) (by rw [hpp]; rfl))) ea_nil) le_lit) ((ev_slFrom (k := 1) (Nat.le_refl _) (by intro z; cases z) (ev_var rfl a8')).is ?_) (by intro z; cases z) le_lit).is rfl
      show D.tup [.str (S.rw x).nm, os (S.rw x).tx, oi (S.rw x).mrk] = _
      rw [mkx]; rfl
  · obtain ⟨o7, o8, rfl, p1, p2, p3, p4⟩ := p
    rw [List.length_map] at p3
    have ltR := wfR.tl
    have eT : (R.copiedS l n par nm l.length).ties = R.ties := rfl
    refine q_asgN (en_lc R.ties pairD (fun t => decide (t.1 ∈ l) && decide (t.2 ∈ l)) pairD (show EvD _ _ _ (.lst ((R.copiedS l n par nm l.length).ties.map pairD)) from t_ties p3.rd (ev_vr rfl)) (by omega) (fun p _ => pairD_nl p) (fun _ => rfl) fun t ht v G sg av => ?_) fun M ws H9 hM s9 h9l as9 => ?_
    · have p2g := (p2.mono sg).i
      exact ⟨(et_and (et_test (ev_din p2g (ev_ixT (k := 0) (ev_var rfl av) rfl) (ev_vr rfl))) fun _ => et_test (ev_din p2g (ev_ixT (k := 1) (ev_var rfl av) rfl) (ev_vr rfl))).is (by rw [num_in, num_in]), fun _ => ev_var rfl av⟩
    have h9 := p3.mono s9
    obtain ⟨ts, t1, t2⟩ := h9.ties
    have t2' : Ats H9 (R.ties.map pairD) ts := t2
    generalize hfl : R.ties.filter (fun t => decide (t.1 ∈ l) && decide (t.2 ∈ l)) = fl at as9
    have lfl : fl.length ≤ R.ties.length := by rw [← hfl]; exact List.length_filter_le _ _
    have mfl : ∀ t ∈ fl, t.1 ∈ l ∧ t.2 ∈ l := fun t ht => by
      rw [← hfl] at ht
      have z := (List.mem_filter.mp ht).2
      rwa [Bool.and_eq_true, decide_eq_true_eq, decide_eq_true_eq] at z
    refine q_ext t1 (t_tiesR h9.rd (ev_vr rfl)) (ds := (fl.map fun t => (R.num l t.1, R.num l t.2)).map pairD) ((en_lc2 fl (fun t => .int t.1) (fun t => .int t.2) (fun _ => true) (fun t => pairD (R.num l t.1, R.num l t.2)) (ev_var rfl (.lst h9l as9)) (by omega) (fun _ _ => rfl) (fun _ _ => rfl) fun t ht v w G sg av aw => ?_).is (by rw [List.filter_eq_self.mpr (by simp), List.map_map]; rfl)) (by rw [← t2'.length, List.length_map, List.length_map, List.length_map]; omega) fun us H10 s10 a10 => ?_
    · cases av; cases aw
      have p2g := ((p2.mono s9).mono sg).i
      exact ⟨et_yes, fun _ => ev_pairD (ev_dget p2g (num_look wnd (mfl t ht).1) (ev_vr rfl) (ev_var rfl (.int t.1))) (ev_dget p2g (num_look wnd (mfl t ht).2) (ev_vr rfl) (ev_var rfl (.int t.2)))⟩
    have h10 := h9.mono s10
    have z : Ats H10 ((R.copyTo l n par nm).ties.map pairD) (ts ++ us) := by
      show Ats H10 ((R.ties ++ (R.ties.filter fun t => decide (t.1 ∈ l) && decide (t.2 ∈ l)).map fun t => (R.num l t.1, R.num l t.2)).map pairD) _
      rw [hfl, List.map_append]
      exact (t2'.mono s10).app a10
    have h11 := h10.tiesIn z
    have m11 : Mv b5.all b5.all H9 (upd H10 b5.t (.lst (ts ++ us))) := mv_upd s10 (by simp [SA.all]) (s10 _ _ t1) fun _ z => nomatch z
    have L11 := m11.keep _ _ oL5 (s9 _ _ p1)
    have N11 := (p2.mono s9).keep (fun o z => m11.keep _ _ oN z) m11.tup (fun p hp => by obtain ⟨u, _, rfl⟩ := List.mem_map.mp hp; rfl)
    have e11 : ∀ σ : L2.St, σ[0]? = some (some (.ref b5.p)) → EvD (tDGet (tVar 0) (tC (.str "count"))) σ (upd H10 b5.t (.lst (ts ++ us))) (.int R.count) := fun σ q => by
      have z := t_count h11.rd (ev_vr (σ := σ) q)
      exact z
    refine gq_count (n := R.count + (l.length : Int)) h11 (ev_add (e11 _ rfl) ((ev_lenL (ev_var rfl (.lst L11 (ats_ints l)))).is (by rw [List.length_map]))) (ev_vr rfl) fun H12 h12 m12 => ?_
    have N12 := N11.keep (fun o z => m12.keep _ _ oN z) m12.tup (fun p hp => by obtain ⟨u, _, rfl⟩ := List.mem_map.mp hp; rfl)
    refine s_ret (ev_dget N12.i (num_look wnd (by rw [← hl]; exact mem_within.mpr (.self q))) (ev_vr rfl) (ev_vi rfl)) fun v H13 s13 av => ?_
    refine ress_of k rfl v b5 H13 ep (StAt.mono s13 ?_) ((((p4.trans (Mv.of s9)).trans m11).trans m12).trans (Mv.of s13)) (by rw [← nR]; exact av)
    have fin : ({ R.copiedS l n par nm l.length with ties := (R.copyTo l n par nm).ties, count := R.count + (l.length : Int) } : Stt) = R.copyTo l n par nm := by
      refine stt_ext rfl rfl ?_ rfl rfl rfl rfl
      show R.rows ++ (l.take l.length).map _ = _
      rw [List.take_length]; rfl
    rw [← fin]
    exact h12
end
end Ho

set_option Elab.async false
set_option linter.all false
set_option maxRecDepth 100000
set_option maxHeartbeats 4000000
/-! C11: the law's own walk: any deed. -/
namespace Ho
open PySem PySem.Spec PyProof.Rows L2
section
variable {P : Program} {w : World} {K : PySem.W.Frag} {mg : Str → Option Value} {base : Heap} {σ : L2.St} {H H' : Hp} {ta tb te tx td tl : TE} {b : SA} {S S' : Stt} {E : XK} {De : Ends} {tz : TS}
theorem c_if {c : TT} {q : Bool} {Q : VK} (h : EvT c σ H q) (h1 : q = true → ∀ H1, Same H H1 → ta σ H1 Q) (h2 : q = false → ∀ H1, Same H H1 → tb σ H1 Q) : tIf c ta tb σ H Q := h H (Same.refl H) _ fun H1 s => by
  cases q with
  | true => exact h1 rfl H1 s
  | false => exact h2 rfl H1 s
theorem c_loseAll {L : Addr} {ds : List Int} {T : Stt} {Q : VK} {j : Nat} {vs : List Nat} (h : StAt H b T) (wf : T.Wf) (inv : T.Inv) (nd : ds.Nodup) (hin : ∀ n ∈ ds, n ∈ T.casts.map (·.1)) (hz : ds.length < 1000000) (hL : H L = some (.lst (ds.map V.int))) (oL : L ∉ b.all) (h4 : EvD tl σ H (.ref L))
    (hw : ∀ x, wipe ((wipe σ vs).set j (some x)) vs = wipe σ vs) (h0 : ∀ x, ((wipe σ vs).set j (some x))[0]? = some (some (.ref b.p))) (hj : ∀ x, ((wipe σ vs).set j (some x))[j]? = some (some x))
    (k : ∀ b' H', b'.p = b.p → StAt H' b' (Stt.loseAll ds T).1 → Mv b.all b'.all H H' → Q (.int (Stt.loseAll ds T).2) H') :
    tCB (rSum K) (tCons (tLc (iList K tl) (gName j) tYes (tCallF (sp_law_lose K) E (tCons (tVar 0) (tCons (tVar j) tNil))) vs) tNil) σ H Q := by
  refine h4 H (Same.refl H) _ fun v H1 s1 av => ?_
  cases av
  have h1 := h.mono s1
  have L1 := s1 _ _ hL
  refine ⟨_, rfl, ⟨_, SqL.of L1⟩, fun D hD => lc_list (xs := ds.map V.int) (fun i H' => ∃ b' : SA, b'.p = b.p ∧ StAt H' b' ((ds.take i).foldl Stt.lose T) ∧ Mv b.all b'.all H1 H' ∧ H' L = some (.lst (ds.map V.int)) ∧ D ∉ b'.all ∧ H' D = some (.lst (((manys ds T).take i).map V.int))) ?_ (fun i H' _ p => ?_) (fun i v H' hv p => ?_) fun H' p => ?_⟩
  · have nLD : L ≠ D := ne_of_none L1 hD
    refine ⟨b, rfl, h1.mono (Same.new hD), Mv.of (Same.new hD), ?_, h1.out hD, upd_same⟩
    rw [upd_ne nLD]; exact L1
  · obtain ⟨_, _, _, _, z, _⟩ := p; exact SqL.of z
  · obtain ⟨b', ep, p1, p2, p3, p4, p5⟩ := p
    rw [List.getElem?_map] at hv
    obtain ⟨x, hx, ev⟩ := Option.map_eq_some_iff.mp hv
    subst ev
    obtain ⟨⟨wfi, invi⟩, hmi⟩ := lose_more ds T nd wf inv hin i
    refine ⟨hw _, ?_⟩
    refine tyes ?_
    refine gc_lose (n := x) p1 wfi (by rw [ep]; exact ev_vr (h0 _)) (ev_var (hj _) (.int x)) fun b4 H4 e4 h4 m4 => ?_
    have nD4 : D ∉ b4.all := fun z => (m4.new D z).elim p4 fun w => by rw [w] at p5; cases p5
    have nL4 : L ∉ b'.all := fun z => (p2.new L z).elim oL fun w => by rw [L1] at w; cases w
    have D4 := m4.keep _ _ p4 p5
    have nLD : L ≠ D := ne_of_none L1 hD
    have tl' : Tle H4 (upd H4 D (.lst (((manys ds T).take (i + 1)).map V.int))) := tle_upd D4 fun _ z => nomatch z
    have emore : ((manys ds T).take (i + 1)).map V.int = ((manys ds T).take i).map V.int ++ [.int ((((ds.take i).foldl Stt.lose T).many x : Nat) : Int)] := by
      rw [take_more (manys_get ds T i x hx), List.map_append]; rfl
    refine ⟨_, D4, ?_, ?_⟩
    · rw [List.length_map]
      refine sz_lt (Nat.lt_of_le_of_lt (List.length_take_le _ _) ?_)
      have z : i < ds.length := (List.getElem?_eq_some_iff.mp hx).1
      omega
    rw [← emore]
    refine ⟨b4, e4.trans ep, ?_, ?_, ?_, nD4, upd_same⟩
    · rw [fold_more hx]
      exact h4.keep (fun y hy o q => by rw [upd_ne (show y ≠ D from fun z => nD4 (z ▸ hy))]; exact q) tl'
    · exact ⟨fun c o nb q => by rw [upd_ne (ne_of_none q hD)]; exact (p2.trans m4).keep c o nb q, (p2.trans m4).new, (p2.trans m4).tup.trans tl'⟩
    · rw [upd_ne nLD]; exact m4.keep _ _ nL4 p3
  · obtain ⟨b', ep, p1, p2, p3, p4, p5⟩ := p
    rw [List.length_map, List.take_of_length_le (by rw [manys_len]; exact Nat.le_refl _)] at p5
    rw [List.length_map, List.take_of_length_le (Nat.le_refl _)] at p1
    refine ⟨_, manys ds T, rfl, SqL.of p5, ?_⟩
    have z := k b' H' ep (by rw [loseAll_fst]; exact p1) ((Mv.of s1).trans p2)
    rw [loseAll_snd] at z
    exact z
theorem Stt.Inv.fresh (i : S.Inv) : S.count + 1 ∉ S.keys := fun z => by
  have := i.kr _ z
  omega
def sp_law_do (K : PySem.W.Frag) : Sp := fun vs H Q _ => ∃ (b : SA) (S : Stt) (d : Deed) (v : V), vs = [.ref b.p, v] ∧ At H d.D v ∧ StAt H b S ∧ S.Wf ∧ S.Inv ∧ (∀ n t, d = .write n t → t.length ≤ 100000) ∧ ResS b (S.deed d) H Q
theorem sc_law_do : FnScope ["_law_state", "_law_deed_here", "_law_word_here", "_law_rest", "_law_some", "_law_many", "_law_row", "_law_number_here"] ["_law_state", "_law_deed_here"] (defScope s_law_do) := ⟨rfl, rfl, rfl, by decide +kernel, rfl, by decide +kernel, by decide +kernel⟩
theorem ok_law_do (T : Tx K mg) : FnR P w K mg base (L2.CX P w) 5 (He.ga K "_law_do") (sp_law_do K) := by
  refine fnr (F_law_do T) sc_law_do (fun _ _ _ _ _ _ us hl => match us, hl with | [_, _], _ => rfl) (fun vs H Q E h => by obtain ⟨_, _, _, _, rfl, _⟩ := h; rfl) (fun cdv A outer s H vs Q E hr h => ?_)
  refine ⟨_, PSs.nox (pss_cons (ps_asg (pe_tup (pa_cons (pe_ix (ixtK K) (pv 1) pe_int (fun _ _ => rfl)) (pa_cons (pe_slice (sltK K) (pv 1) (po_some pe_int) po_none) pa_nil))) (gtupK K (n := 2) rfl (pgs_cons (pg_name (i := 2) sc_law_do.nd rfl (Or.inr rfl)) (pgs_cons (pg_name (i := 3) sc_law_do.nd rfl (Or.inl rfl)) pgs_nil)))) (pss_cons (ps_if (pt_cmpR op_eq (pv 2) pe_str (nomark _)) (pss_one (ps_ret (pe_callF (ok_law_make T) (hr.mono (by decide)) (T_law_make T).1 (T_law_make T).2 passL (pa_cons (pv 0) (pa_cons (pv 3) pa_nil))))) pss_nil) (pss_cons (ps_if (pt_cmpR (inK K) (pv 2) (pe_tup (pa_cons pe_str (pa_cons pe_str pa_nil))) rfl) (pss_one (ps_ret (pe_callF (ok_law_place T) (hr.mono (by decide)) (T_law_place T).1 (T_law_place T).2 passL (pa_cons (pv 0) (pa_cons (pv 2) (pa_cons (pv 3) pa_nil)))))) pss_nil) (pss_cons (ps_if (pt_cmpR (inK K) (pv 2) (pe_tup (pa_cons pe_str (pa_cons pe_str pa_nil))) rfl) (pss_one (ps_ret (pe_ifExp (pt_cmpR op_eq (pv 2) pe_str (nomark _)) (pe_callF (ok_law_write T) (hr.mono (by decide)) (T_law_write T).1 (T_law_write T).2 passL (pa_cons (pv 0) (pa_cons (pv 3) pa_nil))) (pe_callF (ok_law_copy T) (hr.mono (by decide)) (T_law_copy T).1 (T_law_copy T).2 passL (pa_cons (pv 0) (pa_cons (pv 3) pa_nil)))))) pss_nil) (pss_cons (ps_if (pt_cmpR (inK K) (pv 2) (pe_tup (pa_cons pe_str (pa_cons pe_str pa_nil))) rfl) (pss_one (ps_ret (pe_callF (ok_law_tie T) (hr.mono (by decide)) (T_law_tie T).1 (T_law_tie T).2 passL (pa_cons (pv 0) (pa_cons (pv 2) (pa_cons (pv 3) pa_nil)))))) pss_nil) (pss_cons (ps_if (pt_cmpR (inK K) (pv 2) (pe_tup (pa_cons pe_str (pa_cons pe_str (pa_cons pe_str pa_nil)))) rfl) (pss_one (ps_ret (pe_callF (ok_law_shelve T) (hr.mono (by decide)) (T_law_shelve T).1 (T_law_shelve T).2 passL (pa_cons (pv 0) (pa_cons (pv 2) (pa_cons (pe_ix (ixtK K) (pv 3) pe_int (fun _ _ => rfl)) pa_nil)))))) pss_nil) (pss_cons (ps_if (pt_cmpR op_eq (pv 2) pe_str (nomark _)) (pss_one (ps_dput (hu_of hr) (pv 0) pe_str (pe_op op_add (pe_dget (hu_of hr) (pv 0) pe_str (fun _ _ => rfl)) pe_int) rfl)) pss_nil) (pss_cons (ps_setLc (own := [("_law_row", 6)]) (i := 4) rfl sc_law_do.nd rfl rfl (sw_true rfl rfl rfl (by decide +kernel)) (pilK K (pe_dget (hu_of hr) (pv 0) pe_str (fun _ _ => rfl))) (blkOk_by (N := ["_law_state", "_law_deed_here", "_law_word_here", "_law_rest", "_law_some", "_law_many", "_law_row", "_law_number_here"]) (sc := defScope s_law_do) (by decide +kernel)) (fun _ _ _ _ _ => (pg_name (i := 6) sc_law_do.nd rfl (Or.inl rfl))) (fun _ _ _ _ _ => (pts_one (PW.pt (pw_or (pt_cmpR op_eq (pv 2) pe_str (nomark _)) (pw_or1 (pt_cmpR op_le (pe_op op_add (pe_ix (ixtK K) (pv 6) pe_int (fun _ _ => rfl)) (pe_dget (hu_of hr) (pv 0) pe_str (fun _ _ => rfl))) (pe_dget (hu_of hr) (pv 0) pe_str (fun _ _ => rfl)) (nomark _))))))) (fun _ _ _ _ _ => (pe_ix (ixtK K) (pv 6) pe_int (fun _ _ => rfl)))) (pss_cons (ps_set (i := 5) sc_law_do.nd rfl (Or.inl rfl) (pe_callB (sumK K) rfl (T_sum T) bt_sum (pa_cons (pe_lc (own := [("_law_number_here", 7)]) rfl sc_law_do.nd (pilK K (pv 4)) (blkOk_by (N := ["_law_state", "_law_deed_here", "_law_word_here", "_law_rest", "_law_some", "_law_many", "_law_row", "_law_number_here"]) (sc := defScope s_law_do) (by decide +kernel)) (fun _ _ _ _ _ => (pg_name (i := 7) sc_law_do.nd rfl (Or.inl rfl))) (fun _ _ _ _ _ => pts_nil) (fun _ _ _ _ _ => (pe_callF (ok_law_lose T) (hr.mono (by decide)) (T_law_lose T).1 (T_law_lose T).2 passL (pa_cons (pv 0) (pa_cons (pv 7) pa_nil))))) pa_nil))) (pss_one (ps_ret (pe_ifExp (pt_cmpR op_eq (pv 2) pe_str (nomark _)) (pv 5) (pe_callTy (tupOfK K) rfl (T_tuple T) bt_tuple (pa_cons (pv 4) pa_nil)))))))))))))), ?_⟩
  obtain ⟨b, S, d, v, rfl, av, h, wf, inv, hd, k⟩ := h
  have cl := wf.cl
  refine q_unp2 (d1 := .str d.word) (d2 := .tup d.args) (ev_tup (ea_cons (ev_ixT (k := 0) (ev_var rfl av) rfl) (ea_cons ((ev_slFrom (k := 1) (Nat.le_refl _) (by intro z; cases z) (ev_var rfl av)).is rfl) ea_nil)) le_lit) fun v1 v2 H0 s0 a1 a2 => ?_
  cases a1
  have h0 := h.mono s0
  have k := k.mono s0
  cases d with
  | make p nm bb =>
    refine q_if (b := true) ((et_test (ev_eqS (ev_vs rfl) ev_str)).is (decide_eq_true (show ("make" : Str) = "make" by decide))) (fun _ H1 s1 => ?_) fun z => by cases z
    have h1 := h0.mono s1
    have a2 := a2.mono s1
    have k := k.mono s1
    refine c_call (ea_cons (ev_vr rfl) (ea_cons (ev_var rfl a2) ea_nil)) fun vs G sg as => ?_
    cases as with | cons b1 as => ?_
    cases as with | cons b2 as => ?_
    cases as; cases b1
    exact ⟨b, S, p, nm, bb, _, rfl, b2, h1.mono sg, wf, inv.fresh, k.mono sg⟩
  | rename n nm =>
    refine q_ifN (b := false) ((et_test (ev_eqS (ev_vs rfl) ev_str)).is (decide_eq_false (show ¬ ("rename" : Str) = "make" by decide))) (fun z => by cases z) fun _ H1 s1 => ?_
    have h1 := h0.mono s1
    have a2 := a2.mono s1
    have k := k.mono s1
    refine q_if (b := true) ((et_test (ev_inTS (l := ["rename", "move"]) (ev_vs rfl) (ev_tup (ea_cons ev_str (ea_cons ev_str ea_nil)) le_lit))).is (decide_eq_true (show ("rename" : Str) ∈ (["rename", "move"] : List Str) by decide))) (fun _ H2 s2 => ?_) fun z => by cases z
    have h2 := h1.mono s2
    have a2 := a2.mono s2
    have k := k.mono s2
    refine c_call (ea_cons (ev_vr rfl) (ea_cons (ev_vs rfl) (ea_cons (ev_var rfl a2) ea_nil))) fun vs G sg as => ?_
    cases as with | cons b1 as => ?_
    cases as with | cons b2 as => ?_
    cases as with | cons b3 as => ?_
    cases as; cases b1; cases b2
    exact ⟨b, S, n, _, _, _, rfl, h2.mono sg, wf, inv, .inl ⟨nm, rfl, b3, rfl⟩, k.mono sg⟩
  | move n p =>
    refine q_ifN (b := false) ((et_test (ev_eqS (ev_vs rfl) ev_str)).is (decide_eq_false (show ¬ ("move" : Str) = "make" by decide))) (fun z => by cases z) fun _ H1 s1 => ?_
    have h1 := h0.mono s1
    have a2 := a2.mono s1
    have k := k.mono s1
    refine q_if (b := true) ((et_test (ev_inTS (l := ["rename", "move"]) (ev_vs rfl) (ev_tup (ea_cons ev_str (ea_cons ev_str ea_nil)) le_lit))).is (decide_eq_true (show ("move" : Str) ∈ (["rename", "move"] : List Str) by decide))) (fun _ H2 s2 => ?_) fun z => by cases z
    have h2 := h1.mono s2
    have a2 := a2.mono s2
    have k := k.mono s2
    refine c_call (ea_cons (ev_vr rfl) (ea_cons (ev_vs rfl) (ea_cons (ev_var rfl a2) ea_nil))) fun vs G sg as => ?_
    cases as with | cons b1 as => ?_
    cases as with | cons b2 as => ?_
    cases as with | cons b3 as => ?_
    cases as; cases b1; cases b2
    exact ⟨b, S, n, _, _, _, rfl, h2.mono sg, wf, inv, .inr ⟨p, rfl, b3, rfl⟩, k.mono sg⟩
  | copy n p =>
    refine q_ifN (b := false) ((et_test (ev_eqS (ev_vs rfl) ev_str)).is (decide_eq_false (show ¬ ("copy" : Str) = "make" by decide))) (fun z => by cases z) fun _ H1 s1 => ?_
    have h1 := h0.mono s1
    have a2 := a2.mono s1
    have k := k.mono s1
    refine q_ifN (b := false) ((et_test (ev_inTS (l := ["rename", "move"]) (ev_vs rfl) (ev_tup (ea_cons ev_str (ea_cons ev_str ea_nil)) le_lit))).is (decide_eq_false (show ¬ ("copy" : Str) ∈ (["rename", "move"] : List Str) by decide))) (fun z => by cases z) fun _ H2 s2 => ?_
    have h2 := h1.mono s2
    have a2 := a2.mono s2
    have k := k.mono s2
    refine q_if (b := true) ((et_test (ev_inTS (l := ["write", "copy"]) (ev_vs rfl) (ev_tup (ea_cons ev_str (ea_cons ev_str ea_nil)) le_lit))).is (decide_eq_true (show ("copy" : Str) ∈ (["write", "copy"] : List Str) by decide))) (fun _ H3 s3 => ?_) fun z => by cases z
    have h3 := h2.mono s3
    have a2 := a2.mono s3
    have k := k.mono s3
    refine c_if (q := false) ((et_test (ev_eqS (ev_vs rfl) ev_str)).is (decide_eq_false (show ¬ ("copy" : Str) = "write" by decide))) (fun z => by cases z) fun _ H8 s8 => ?_
    refine c_call (ea_cons (ev_vr rfl) (ea_cons (ev_var rfl (a2.mono s8)) ea_nil)) fun vs G sg as => ?_
    cases as with | cons b1 as => ?_
    cases as with | cons b2 as => ?_
    cases as; cases b1
    exact ⟨b, S, n, p, _, rfl, b2, h3.mono (s8.trans sg), wf, inv, k.mono (s8.trans sg)⟩
  | write n t =>
    refine q_ifN (b := false) ((et_test (ev_eqS (ev_vs rfl) ev_str)).is (decide_eq_false (show ¬ ("write" : Str) = "make" by decide))) (fun z => by cases z) fun _ H1 s1 => ?_
    have h1 := h0.mono s1
    have a2 := a2.mono s1
    have k := k.mono s1
    refine q_ifN (b := false) ((et_test (ev_inTS (l := ["rename", "move"]) (ev_vs rfl) (ev_tup (ea_cons ev_str (ea_cons ev_str ea_nil)) le_lit))).is (decide_eq_false (show ¬ ("write" : Str) ∈ (["rename", "move"] : List Str) by decide))) (fun z => by cases z) fun _ H2 s2 => ?_
    have h2 := h1.mono s2
    have a2 := a2.mono s2
    have k := k.mono s2
    refine q_if (b := true) ((et_test (ev_inTS (l := ["write", "copy"]) (ev_vs rfl) (ev_tup (ea_cons ev_str (ea_cons ev_str ea_nil)) le_lit))).is (decide_eq_true (show ("write" : Str) ∈ (["write", "copy"] : List Str) by decide))) (fun _ H3 s3 => ?_) fun z => by cases z
    have h3 := h2.mono s3
    have a2 := a2.mono s3
    have k := k.mono s3
    refine c_if (q := true) ((et_test (ev_eqS (ev_vs rfl) ev_str)).is (decide_eq_true (show ("write" : Str) = "write" by decide))) (fun _ H8 s8 => ?_) fun z => by cases z
    refine c_call (ea_cons (ev_vr rfl) (ea_cons (ev_var rfl (a2.mono s8)) ea_nil)) fun vs G sg as => ?_
    cases as with | cons b1 as => ?_
    cases as with | cons b2 as => ?_
    cases as; cases b1
    exact ⟨b, S, n, t, _, rfl, b2, h3.mono (s8.trans sg), wf, inv, hd n t rfl, k.mono (s8.trans sg)⟩
  | tie x y =>
    refine q_ifN (b := false) ((et_test (ev_eqS (ev_vs rfl) ev_str)).is (decide_eq_false (show ¬ ("tie" : Str) = "make" by decide))) (fun z => by cases z) fun _ H1 s1 => ?_
    have h1 := h0.mono s1
    have a2 := a2.mono s1
    have k := k.mono s1
    refine q_ifN (b := false) ((et_test (ev_inTS (l := ["rename", "move"]) (ev_vs rfl) (ev_tup (ea_cons ev_str (ea_cons ev_str ea_nil)) le_lit))).is (decide_eq_false (show ¬ ("tie" : Str) ∈ (["rename", "move"] : List Str) by decide))) (fun z => by cases z) fun _ H2 s2 => ?_
    have h2 := h1.mono s2
    have a2 := a2.mono s2
    have k := k.mono s2
    refine q_ifN (b := false) ((et_test (ev_inTS (l := ["write", "copy"]) (ev_vs rfl) (ev_tup (ea_cons ev_str (ea_cons ev_str ea_nil)) le_lit))).is (decide_eq_false (show ¬ ("tie" : Str) ∈ (["write", "copy"] : List Str) by decide))) (fun z => by cases z) fun _ H3 s3 => ?_
    have h3 := h2.mono s3
    have a2 := a2.mono s3
    have k := k.mono s3
    refine q_if (b := true) ((et_test (ev_inTS (l := ["tie", "untie"]) (ev_vs rfl) (ev_tup (ea_cons ev_str (ea_cons ev_str ea_nil)) le_lit))).is (decide_eq_true (show ("tie" : Str) ∈ (["tie", "untie"] : List Str) by decide))) (fun _ H4 s4 => ?_) fun z => by cases z
    have h4 := h3.mono s4
    have a2 := a2.mono s4
    have k := k.mono s4
    refine c_call (ea_cons (ev_vr rfl) (ea_cons (ev_vs rfl) (ea_cons (ev_var rfl a2) ea_nil))) fun vs G sg as => ?_
    cases as with | cons b1 as => ?_
    cases as with | cons b2 as => ?_
    cases as with | cons b3 as => ?_
    cases as; cases b1; cases b2
    exact ⟨b, S, x, y, _, _, _, rfl, h4.mono sg, wf, b3, .inl ⟨rfl, rfl⟩, k.mono sg⟩
  | untie x y =>
    refine q_ifN (b := false) ((et_test (ev_eqS (ev_vs rfl) ev_str)).is (decide_eq_false (show ¬ ("untie" : Str) = "make" by decide))) (fun z => by cases z) fun _ H1 s1 => ?_
    have h1 := h0.mono s1
    have a2 := a2.mono s1
    have k := k.mono s1
    refine q_ifN (b := false) ((et_test (ev_inTS (l := ["rename", "move"]) (ev_vs rfl) (ev_tup (ea_cons ev_str (ea_cons ev_str ea_nil)) le_lit))).is (decide_eq_false (show ¬ ("untie" : Str) ∈ (["rename", "move"] : List Str) by decide))) (fun z => by cases z) fun _ H2 s2 => ?_
    have h2 := h1.mono s2
    have a2 := a2.mono s2
    have k := k.mono s2
    refine q_ifN (b := false) ((et_test (ev_inTS (l := ["write", "copy"]) (ev_vs rfl) (ev_tup (ea_cons ev_str (ea_cons ev_str ea_nil)) le_lit))).is (decide_eq_false (show ¬ ("untie" : Str) ∈ (["write", "copy"] : List Str) by decide))) (fun z => by cases z) fun _ H3 s3 => ?_
    have h3 := h2.mono s3
    have a2 := a2.mono s3
    have k := k.mono s3
    refine q_if (b := true) ((et_test (ev_inTS (l := ["tie", "untie"]) (ev_vs rfl) (ev_tup (ea_cons ev_str (ea_cons ev_str ea_nil)) le_lit))).is (decide_eq_true (show ("untie" : Str) ∈ (["tie", "untie"] : List Str) by decide))) (fun _ H4 s4 => ?_) fun z => by cases z
    have h4 := h3.mono s4
    have a2 := a2.mono s4
    have k := k.mono s4
    refine c_call (ea_cons (ev_vr rfl) (ea_cons (ev_vs rfl) (ea_cons (ev_var rfl a2) ea_nil))) fun vs G sg as => ?_
    cases as with | cons b1 as => ?_
    cases as with | cons b2 as => ?_
    cases as with | cons b3 as => ?_
    cases as; cases b1; cases b2
    exact ⟨b, S, x, y, _, _, _, rfl, h4.mono sg, wf, b3, .inr ⟨rfl, rfl⟩, k.mono sg⟩
  | cast n =>
    refine q_ifN (b := false) ((et_test (ev_eqS (ev_vs rfl) ev_str)).is (decide_eq_false (show ¬ ("cast" : Str) = "make" by decide))) (fun z => by cases z) fun _ H1 s1 => ?_
    have h1 := h0.mono s1
    have a2 := a2.mono s1
    have k := k.mono s1
    refine q_ifN (b := false) ((et_test (ev_inTS (l := ["rename", "move"]) (ev_vs rfl) (ev_tup (ea_cons ev_str (ea_cons ev_str ea_nil)) le_lit))).is (decide_eq_false (show ¬ ("cast" : Str) ∈ (["rename", "move"] : List Str) by decide))) (fun z => by cases z) fun _ H2 s2 => ?_
    have h2 := h1.mono s2
    have a2 := a2.mono s2
    have k := k.mono s2
    refine q_ifN (b := false) ((et_test (ev_inTS (l := ["write", "copy"]) (ev_vs rfl) (ev_tup (ea_cons ev_str (ea_cons ev_str ea_nil)) le_lit))).is (decide_eq_false (show ¬ ("cast" : Str) ∈ (["write", "copy"] : List Str) by decide))) (fun z => by cases z) fun _ H3 s3 => ?_
    have h3 := h2.mono s3
    have a2 := a2.mono s3
    have k := k.mono s3
    refine q_ifN (b := false) ((et_test (ev_inTS (l := ["tie", "untie"]) (ev_vs rfl) (ev_tup (ea_cons ev_str (ea_cons ev_str ea_nil)) le_lit))).is (decide_eq_false (show ¬ ("cast" : Str) ∈ (["tie", "untie"] : List Str) by decide))) (fun z => by cases z) fun _ H4 s4 => ?_
    have h4 := h3.mono s4
    have a2 := a2.mono s4
    have k := k.mono s4
    refine q_if (b := true) ((et_test (ev_inTS (l := ["cast", "back", "gone"]) (ev_vs rfl) (ev_tup (ea_cons ev_str (ea_cons ev_str (ea_cons ev_str ea_nil))) le_lit))).is (decide_eq_true (show ("cast" : Str) ∈ (["cast", "back", "gone"] : List Str) by decide))) (fun _ H5 s5 => ?_) fun z => by cases z
    have h5 := h4.mono s5
    have a2 := a2.mono s5
    have k := k.mono s5
    refine c_call (ea_cons (ev_vr rfl) (ea_cons (ev_vs rfl) (ea_cons (ev_ixT (k := 0) (ev_var rfl a2) (d := .int n) rfl) ea_nil))) fun vs G sg as => ?_
    cases as with | cons b1 as => ?_
    cases as with | cons b2 as => ?_
    cases as with | cons b3 as => ?_
    cases as; cases b1; cases b2; cases b3
    exact ⟨b, S, n, _, _, rfl, h5.mono sg, wf, inv, .inl ⟨rfl, rfl⟩, k.mono sg⟩
  | back n =>
    refine q_ifN (b := false) ((et_test (ev_eqS (ev_vs rfl) ev_str)).is (decide_eq_false (show ¬ ("back" : Str) = "make" by decide))) (fun z => by cases z) fun _ H1 s1 => ?_
    have h1 := h0.mono s1
    have a2 := a2.mono s1
    have k := k.mono s1
    refine q_ifN (b := false) ((et_test (ev_inTS (l := ["rename", "move"]) (ev_vs rfl) (ev_tup (ea_cons ev_str (ea_cons ev_str ea_nil)) le_lit))).is (decide_eq_false (show ¬ ("back" : Str) ∈ (["rename", "move"] : List Str) by decide))) (fun z => by cases z) fun _ H2 s2 => ?_
    have h2 := h1.mono s2
    have a2 := a2.mono s2
    have k := k.mono s2
    refine q_ifN (b := false) ((et_test (ev_inTS (l := ["write", "copy"]) (ev_vs rfl) (ev_tup (ea_cons ev_str (ea_cons ev_str ea_nil)) le_lit))).is (decide_eq_false (show ¬ ("back" : Str) ∈ (["write", "copy"] : List Str) by decide))) (fun z => by cases z) fun _ H3 s3 => ?_
    have h3 := h2.mono s3
    have a2 := a2.mono s3
    have k := k.mono s3
    refine q_ifN (b := false) ((et_test (ev_inTS (l := ["tie", "untie"]) (ev_vs rfl) (ev_tup (ea_cons ev_str (ea_cons ev_str ea_nil)) le_lit))).is (decide_eq_false (show ¬ ("back" : Str) ∈ (["tie", "untie"] : List Str) by decide))) (fun z => by cases z) fun _ H4 s4 => ?_
    have h4 := h3.mono s4
    have a2 := a2.mono s4
    have k := k.mono s4
    refine q_if (b := true) ((et_test (ev_inTS (l := ["cast", "back", "gone"]) (ev_vs rfl) (ev_tup (ea_cons ev_str (ea_cons ev_str (ea_cons ev_str ea_nil))) le_lit))).is (decide_eq_true (show ("back" : Str) ∈ (["cast", "back", "gone"] : List Str) by decide))) (fun _ H5 s5 => ?_) fun z => by cases z
    have h5 := h4.mono s5
    have a2 := a2.mono s5
    have k := k.mono s5
    refine c_call (ea_cons (ev_vr rfl) (ea_cons (ev_vs rfl) (ea_cons (ev_ixT (k := 0) (ev_var rfl a2) (d := .int n) rfl) ea_nil))) fun vs G sg as => ?_
    cases as with | cons b1 as => ?_
    cases as with | cons b2 as => ?_
    cases as with | cons b3 as => ?_
    cases as; cases b1; cases b2; cases b3
    exact ⟨b, S, n, _, _, rfl, h5.mono sg, wf, inv, .inr (.inl ⟨rfl, rfl⟩), k.mono sg⟩
  | gone n =>
    refine q_ifN (b := false) ((et_test (ev_eqS (ev_vs rfl) ev_str)).is (decide_eq_false (show ¬ ("gone" : Str) = "make" by decide))) (fun z => by cases z) fun _ H1 s1 => ?_
    have h1 := h0.mono s1
    have a2 := a2.mono s1
    have k := k.mono s1
    refine q_ifN (b := false) ((et_test (ev_inTS (l := ["rename", "move"]) (ev_vs rfl) (ev_tup (ea_cons ev_str (ea_cons ev_str ea_nil)) le_lit))).is (decide_eq_false (show ¬ ("gone" : Str) ∈ (["rename", "move"] : List Str) by decide))) (fun z => by cases z) fun _ H2 s2 => ?_
    have h2 := h1.mono s2
    have a2 := a2.mono s2
    have k := k.mono s2
    refine q_ifN (b := false) ((et_test (ev_inTS (l := ["write", "copy"]) (ev_vs rfl) (ev_tup (ea_cons ev_str (ea_cons ev_str ea_nil)) le_lit))).is (decide_eq_false (show ¬ ("gone" : Str) ∈ (["write", "copy"] : List Str) by decide))) (fun z => by cases z) fun _ H3 s3 => ?_
    have h3 := h2.mono s3
    have a2 := a2.mono s3
    have k := k.mono s3
    refine q_ifN (b := false) ((et_test (ev_inTS (l := ["tie", "untie"]) (ev_vs rfl) (ev_tup (ea_cons ev_str (ea_cons ev_str ea_nil)) le_lit))).is (decide_eq_false (show ¬ ("gone" : Str) ∈ (["tie", "untie"] : List Str) by decide))) (fun z => by cases z) fun _ H4 s4 => ?_
    have h4 := h3.mono s4
    have a2 := a2.mono s4
    have k := k.mono s4
    refine q_if (b := true) ((et_test (ev_inTS (l := ["cast", "back", "gone"]) (ev_vs rfl) (ev_tup (ea_cons ev_str (ea_cons ev_str (ea_cons ev_str ea_nil))) le_lit))).is (decide_eq_true (show ("gone" : Str) ∈ (["cast", "back", "gone"] : List Str) by decide))) (fun _ H5 s5 => ?_) fun z => by cases z
    have h5 := h4.mono s5
    have a2 := a2.mono s5
    have k := k.mono s5
    refine c_call (ea_cons (ev_vr rfl) (ea_cons (ev_vs rfl) (ea_cons (ev_ixT (k := 0) (ev_var rfl a2) (d := .int n) rfl) ea_nil))) fun vs G sg as => ?_
    cases as with | cons b1 as => ?_
    cases as with | cons b2 as => ?_
    cases as with | cons b3 as => ?_
    cases as; cases b1; cases b2; cases b3
    exact ⟨b, S, n, _, _, rfl, h5.mono sg, wf, inv, .inr (.inr ⟨rfl, rfl⟩), k.mono sg⟩
  | empty =>
    refine q_ifN (b := false) ((et_test (ev_eqS (ev_vs rfl) ev_str)).is (decide_eq_false (show ¬ ("empty" : Str) = "make" by decide))) (fun z => by cases z) fun _ H1 s1 => ?_
    have h1 := h0.mono s1
    have a2 := a2.mono s1
    have k := k.mono s1
    refine q_ifN (b := false) ((et_test (ev_inTS (l := ["rename", "move"]) (ev_vs rfl) (ev_tup (ea_cons ev_str (ea_cons ev_str ea_nil)) le_lit))).is (decide_eq_false (show ¬ ("empty" : Str) ∈ (["rename", "move"] : List Str) by decide))) (fun z => by cases z) fun _ H2 s2 => ?_
    have h2 := h1.mono s2
    have a2 := a2.mono s2
    have k := k.mono s2
    refine q_ifN (b := false) ((et_test (ev_inTS (l := ["write", "copy"]) (ev_vs rfl) (ev_tup (ea_cons ev_str (ea_cons ev_str ea_nil)) le_lit))).is (decide_eq_false (show ¬ ("empty" : Str) ∈ (["write", "copy"] : List Str) by decide))) (fun z => by cases z) fun _ H3 s3 => ?_
    have h3 := h2.mono s3
    have a2 := a2.mono s3
    have k := k.mono s3
    refine q_ifN (b := false) ((et_test (ev_inTS (l := ["tie", "untie"]) (ev_vs rfl) (ev_tup (ea_cons ev_str (ea_cons ev_str ea_nil)) le_lit))).is (decide_eq_false (show ¬ ("empty" : Str) ∈ (["tie", "untie"] : List Str) by decide))) (fun z => by cases z) fun _ H4 s4 => ?_
    have h4 := h3.mono s4
    have a2 := a2.mono s4
    have k := k.mono s4
    refine q_ifN (b := false) ((et_test (ev_inTS (l := ["cast", "back", "gone"]) (ev_vs rfl) (ev_tup (ea_cons ev_str (ea_cons ev_str (ea_cons ev_str ea_nil))) le_lit))).is (decide_eq_false (show ¬ ("empty" : Str) ∈ (["cast", "back", "gone"] : List Str) by decide))) (fun z => by cases z) fun _ H5 s5 => ?_
    have h5 := h4.mono s5
    have a2 := a2.mono s5
    have k := k.mono s5
    refine q_ifN (b := false) ((et_test (ev_eqS (ev_vs rfl) ev_str)).is (decide_eq_false (show ¬ ("empty" : Str) = "next_day" by decide))) (fun z => by cases z) fun _ H6 s6 => ?_
    have h6 := h5.mono s6
    have a2 := a2.mono s6
    have k := k.mono s6
    generalize hds : S.casts.map (·.1) = ds
    have nd : ds.Nodup := hds ▸ inv.ct
    have hin : ∀ n ∈ ds, n ∈ S.casts.map (·.1) := fun n hn => hds ▸ hn
    have ldz : ds.length < 1000000 := by rw [← hds, List.length_map]; omega
    refine q_asgN ((en_lc S.casts pairD (fun _ => true) (fun c => .int c.1) (t_casts h6.rd (ev_vr rfl)) (by omega) (fun _ _ => rfl) (fun _ => rfl) fun c hc v G sg av => ⟨(et_or (b := true) ((et_test (ev_eqS (ev_vs rfl) ev_str)).is (b := true) (decide_eq_true (show ("empty" : Str) = "empty" by decide))) fun z => by cases z).is rfl, fun _ => ev_ixT (k := 0) (ev_var rfl av) rfl⟩).is (b := ds.map D.int) (by rw [List.filter_eq_self.mpr (by simp), ← hds, List.map_map]; rfl)) fun L vs H7 hL s7 h7l as => ?_
    have e := Ats.ints as
    subst e
    have h7 := h6.mono s7
    have k := k.mono s7
    refine c_loseAll h7 wf inv nd hin ldz h7l (h6.out hL) (ev_vr rfl) (fun _ => rfl) (fun _ => rfl) (fun _ => rfl) fun b8 H8 ep h8 m8 => ?_
    refine s_ret (ev_if ((et_test (ev_eqS (ev_vs rfl) ev_str)).is (b := true) (decide_eq_true (show ("empty" : Str) = "empty" by decide))) (fun _ => ev_vi rfl) (fun z => by cases z)) fun v H9 s9 av => ?_
    refine ress_of k (show S.empty = _ by unfold Stt.empty; rw [hds]) v b8 H9 ep (h8.mono s9) (m8.trans (Mv.of s9)) av
  | nextDay =>
    refine q_ifN (b := false) ((et_test (ev_eqS (ev_vs rfl) ev_str)).is (decide_eq_false (show ¬ ("next_day" : Str) = "make" by decide))) (fun z => by cases z) fun _ H1 s1 => ?_
    have h1 := h0.mono s1
    have a2 := a2.mono s1
    have k := k.mono s1
    refine q_ifN (b := false) ((et_test (ev_inTS (l := ["rename", "move"]) (ev_vs rfl) (ev_tup (ea_cons ev_str (ea_cons ev_str ea_nil)) le_lit))).is (decide_eq_false (show ¬ ("next_day" : Str) ∈ (["rename", "move"] : List Str) by decide))) (fun z => by cases z) fun _ H2 s2 => ?_
    have h2 := h1.mono s2
    have a2 := a2.mono s2
    have k := k.mono s2
    refine q_ifN (b := false) ((et_test (ev_inTS (l := ["write", "copy"]) (ev_vs rfl) (ev_tup (ea_cons ev_str (ea_cons ev_str ea_nil)) le_lit))).is (decide_eq_false (show ¬ ("next_day" : Str) ∈ (["write", "copy"] : List Str) by decide))) (fun z => by cases z) fun _ H3 s3 => ?_
    have h3 := h2.mono s3
    have a2 := a2.mono s3
    have k := k.mono s3
    refine q_ifN (b := false) ((et_test (ev_inTS (l := ["tie", "untie"]) (ev_vs rfl) (ev_tup (ea_cons ev_str (ea_cons ev_str ea_nil)) le_lit))).is (decide_eq_false (show ¬ ("next_day" : Str) ∈ (["tie", "untie"] : List Str) by decide))) (fun z => by cases z) fun _ H4 s4 => ?_
    have h4 := h3.mono s4
    have a2 := a2.mono s4
    have k := k.mono s4
    refine q_ifN (b := false) ((et_test (ev_inTS (l := ["cast", "back", "gone"]) (ev_vs rfl) (ev_tup (ea_cons ev_str (ea_cons ev_str (ea_cons ev_str ea_nil))) le_lit))).is (decide_eq_false (show ¬ ("next_day" : Str) ∈ (["cast", "back", "gone"] : List Str) by decide))) (fun z => by cases z) fun _ H5 s5 => ?_
    have h5 := h4.mono s5
    have a2 := a2.mono s5
    have k := k.mono s5
    refine q_if (b := true) ((et_test (ev_eqS (ev_vs rfl) ev_str)).is (decide_eq_true (show ("next_day" : Str) = "next_day" by decide))) (fun _ H6 s6 => ?_) fun z => by cases z
    have h6 := h5.mono s6
    have k := k.mono s6
    refine g_day (n := S.day + 1) h6 (ev_add (t_day h6.rd (ev_vr rfl)) ev_int) (ev_vr rfl) fun H7 h7 m7 => ?_
    have wf1 := wf.toDay (S.day + 1)
    have inv1 := inv.toDay (S.day + 1)
    have eS : S.nextDay = (.val (.tup ((Stt.dues { S with day := S.day + 1 }).map D.int)), (Stt.loseAll (Stt.dues { S with day := S.day + 1 }) { S with day := S.day + 1 }).1) := rfl
    have cl1 : S.casts.length = ({ S with day := S.day + 1 } : Stt).casts.length := rfl
    have k : ResS b S.nextDay _ Q := k
    rw [eS] at k
    generalize ({ S with day := S.day + 1 } : Stt) = T at h7 wf1 inv1 cl1 k
    generalize hds : T.dues = ds at k
    have nd : ds.Nodup := by
      rw [← hds]
      exact (List.filter_sublist.map _).nodup inv1.ct
    have hin : ∀ n ∈ ds, n ∈ T.casts.map (·.1) := fun n hn => by
      rw [← hds] at hn
      exact (List.filter_sublist.map _).subset hn
    have ldz : ds.length < 1000000 := by
      rw [← hds]
      unfold Stt.dues
      rw [List.length_map]
      exact Nat.lt_of_le_of_lt (List.length_filter_le _ _) (by omega)
    dsimp only
    refine q_asgN ((en_lc T.casts pairD (fun c => decide (c.2 + T.keep ≤ T.day)) (fun c => .int c.1) (t_casts h7.rd (ev_vr rfl)) (by omega) (fun _ _ => rfl) (fun _ => rfl) fun c hc v G sg av => ⟨(et_or (a := false) ((et_test (ev_eqS (ev_vs rfl) ev_str)).is (decide_eq_false (show ¬ ("next_day" : Str) = "empty" by decide))) fun _ => et_test (ev_le (ev_add (ev_ixT (k := 1) (ev_var rfl av) (d := .int c.2) rfl) (t_keep (h7.rd.mono sg) (ev_vr rfl))) (t_day (h7.rd.mono sg) (ev_vr rfl)))).is (by rw [Bool.false_or]), fun _ => ev_ixT (k := 0) (ev_var rfl av) rfl⟩).is (b := ds.map D.int) (by rw [← hds]; unfold Stt.dues; rw [List.map_map]; rfl)) fun L vs H8 hL s8 h8l as => ?_
    have e := Ats.ints as
    subst e
    have h8 := h7.mono s8
    refine c_loseAll h8 wf1 inv1 nd hin ldz h8l (h7.out hL) (ev_vr rfl) (fun _ => rfl) (fun _ => rfl) (fun _ => rfl) fun b9 H9 ep h9 m9 => ?_
    refine s_ret (ev_if ((et_test (ev_eqS (ev_vs rfl) ev_str)).is (b := false) (decide_eq_false (show ¬ ("next_day" : Str) = "empty" by decide))) (fun z => by cases z) (fun _ => ev_tupOf (ev_var rfl (.lst (m9.keep _ _ (h7.out hL) h8l) (ats_ints ds))))) fun v H10 s10 av => ?_
    refine ress_of k rfl v b9 H10 ep (h9.mono s10) (((m7.trans (Mv.of s8)).trans m9).trans (Mv.of s10)) av
end
end Ho

set_option Elab.async false
set_option linter.all false
set_option maxRecDepth 100000
set_option maxHeartbeats 4000000
/-! C12: the house is asked for any deed; what a refusal is called. -/
namespace Ho
open PySem PySem.Spec PyProof.Rows L2
section
variable {P : Program} {w : World} {K : PySem.W.Frag} {mg : Str → Option Value} {base : Heap} {σ : L2.St} {H H' : Hp} {ta tb te tx td tl : TE} {a : HA} {b : SA} {S S' : Stt} {E : XK} {De : Ends} {tz : TS}
/-! ### _law_word -/
theorem ev_isK {k j : Kd} {x : Addr} (T : Tx K mg) (hH : H x = some (ExK (.ref (cE K k.nm)) none x)) (h0 : EvD ta σ H (.ref x)) : EvD (tCB (rIsK K) (tCons ta (tCons (tC (.ref (cE K j.nm))) tNil))) σ H (.bl (decide (k = j))) :=
  ev_cb (ea_cons h0 (ea_cons (show EvD (tC (.ref (cE K j.nm))) σ H (.ref (cE K j.nm)) from fun H1 _ _ q => q _ H1 (Same.refl H1) (.ref _)) ea_nil)) fun vs H1 s as Q q => by
    cases as with | cons a1 as => cases as with | cons a2 as => cases as; cases a1; cases a2; exact ⟨x, _, _, .ref (cE K j.nm), _, rfl, s _ _ hH, T.excC k, fun u r => by cases r; rfl, (T.k1 k).2.2 j, q _ H1 (Same.refl H1) (.bl _)⟩
theorem et_isV {k : Kd} {x : Addr} (T : Tx K mg) (hH : H x = some (ExK (.ref (cE K k.nm)) none x)) (h0 : EvD ta σ H (.ref x)) : EvT (fun σ H Q => tCB (rIsK K) (tCons ta (tCons (tC (.ty "ValueError")) tNil)) σ H fun x H' => ∃ k, TruV K x H' k ∧ Q k H') σ H true := fun H1 s Q q =>
  h0 H1 s _ fun v H2 s2 av => by
    cases av
    exact ⟨x, _, .ty "ValueError", .type "ValueError", true, rfl, (s.trans s2) _ _ hH, T.excC k, fun u r => by cases r; rfl, (T.k1 k).2.1, true, rfl, q H2 s2⟩
def kinds (k : Kd) : List Bool := Kd.all.map fun j => decide (k = j)
def sp_law_word (K : PySem.W.Frag) : Sp := fun vs H Q _ => ∃ (x : Addr) (k : Kd), vs = [.ref x] ∧ H x = some (ExK (.ref (cE K k.nm)) none x) ∧ RetD (.str k.word) H Q
theorem ats_bls : ∀ ns : List Bool, Ats H (ns.map D.bl) (ns.map V.bl)
  | [] => .nil
  | n :: ns => .cons (.bl n) (ats_bls ns)
theorem kinds_cnt (k : Kd) : ((kinds k).map V.bl).countP (fun z => eqV z (.bl true)) = 1 := by cases k <;> rfl
theorem kinds_flat (k : Kd) : ((kinds k).map V.bl).all flatV = true := by cases k <;> rfl
def kIx (k : Kd) : Nat := (kinds k).idxOf true
theorem kinds_at (k : Kd) : ((kinds k).map V.bl)[kIx k]? = some (.bl true) := by cases k <;> rfl
theorem kinds_bef (k : Kd) : ∀ (m : Nat) (z' : V), m < kIx k → ((kinds k).map V.bl)[m]? = some z' → eqV z' (.bl true) = false := by
  intro m z' hm hz
  rw [List.getElem?_map] at hz
  obtain ⟨b, hb, rfl⟩ := Option.map_eq_some_iff.mp hz
  cases b with
  | false => rfl
  | true =>
    exfalso
    have h1 := (List.getElem?_eq_some_iff.mp hb).1
    have h2 := (List.getElem?_eq_some_iff.mp hb).2
    have z := List.not_of_lt_findIdx (p := fun x => x == true) (xs := kinds k) hm
    rw [h2] at z
    simp at z
theorem kinds_word (k : Kd) : ((["no thing", "no box", "no sheet", "taken", "inside", "no room", "same", "no tie", "no cast"] : List Str).map D.str)[kIx k]? = some (.str k.word) := by cases k <;> rfl
theorem ev_cnt {k : Kd} {L : Addr} (hL : H L = some (.lst ((kinds k).map V.bl))) (h0 : EvD ta σ H (.ref L)) (h1 : EvD te σ H (.bl true)) : EvD (tBM K "list" (rCntV K) ta (tCons te tNil)) σ H (.int 1) := fun H1 s Q q =>
  h0 H1 s _ fun x H2 s2 ax => by
    cases ax
    have hL2 := (s.trans s2) _ _ hL
    refine ⟨Or.inl ⟨rfl, _, SqL.of hL2⟩, h1 H2 (s.trans s2) _ fun v H3 s3 av => ?_⟩
    cases av
    refine ⟨L, _, .bl true, rfl, rfl, SqL.of (s3 _ _ hL2), rfl, kinds_flat k, ?_⟩
    rw [kinds_cnt]
    exact q _ H3 (s2.trans s3) (.int 1)
theorem ev_idx {k : Kd} {L : Addr} (hL : H L = some (.lst ((kinds k).map V.bl))) (h0 : EvD ta σ H (.ref L)) (h1 : EvD te σ H (.bl true)) : EvD (tBM K "list" (rIndex K) ta (tCons te tNil)) σ H (.int (kIx k : Nat)) := fun H1 s Q q =>
  h0 H1 s _ fun x H2 s2 ax => by
    cases ax
    have hL2 := (s.trans s2) _ _ hL
    refine ⟨Or.inl ⟨rfl, _, SqL.of hL2⟩, h1 H2 (s.trans s2) _ fun v H3 s3 av => ?_⟩
    cases av
    exact ⟨L, _, .bl true, kIx k, .bl true, rfl, rfl, SqL.of (s3 _ _ hL2), rfl, kinds_flat k, kinds_at k, rfl, kinds_bef k, q _ H3 (s2.trans s3) (.int _)⟩
theorem sc_law_word : FnScope ["_law_kept", "_law_kinds", "_law_words"] ["_law_kept"] (defScope s_law_word) := ⟨rfl, rfl, rfl, by decide +kernel, rfl, by decide +kernel, by decide +kernel⟩
theorem ok_law_word (T : Tx K mg) : FnR P w K mg base (L2.CX P w) 1 (He.ga K "_law_word") (sp_law_word K) := by
  refine fnr (F_law_word T) sc_law_word (fun _ _ _ _ _ _ us hl => match us, hl with | [_], _ => rfl) (fun vs H Q E h => by obtain ⟨_, _, rfl, _⟩ := h; rfl) (fun cdv A outer s H vs Q E hr h => ?_)
  refine ⟨_, PSs.nox (pss_cons (ps_set (i := 1) sc_law_word.nd rfl (Or.inl rfl) (pe_lst (pa_cons (pe_callB (iskK K) rfl (T_isinstance T) bt_isinstance (pa_cons (pv 0) (pa_cons (pe_glob rfl (T_NoThing T).g (show RelV (.ref (cE K "NoThing")) _ from rfl)) pa_nil))) (pa_cons (pe_callB (iskK K) rfl (T_isinstance T) bt_isinstance (pa_cons (pv 0) (pa_cons (pe_glob rfl (T_NoBox T).g (show RelV (.ref (cE K "NoBox")) _ from rfl)) pa_nil))) pa_nil)))) (pss_cons (ps_set (i := 1) sc_law_word.nd rfl (Or.inl rfl) (pe_op op_cat (pv 1) (pe_lst (pa_cons (pe_callB (iskK K) rfl (T_isinstance T) bt_isinstance (pa_cons (pv 0) (pa_cons (pe_glob rfl (T_NoSheet T).g (show RelV (.ref (cE K "NoSheet")) _ from rfl)) pa_nil))) (pa_cons (pe_callB (iskK K) rfl (T_isinstance T) bt_isinstance (pa_cons (pv 0) (pa_cons (pe_glob rfl (T_Taken T).g (show RelV (.ref (cE K "Taken")) _ from rfl)) pa_nil))) pa_nil))))) (pss_cons (ps_set (i := 1) sc_law_word.nd rfl (Or.inl rfl) (pe_op op_cat (pv 1) (pe_lst (pa_cons (pe_callB (iskK K) rfl (T_isinstance T) bt_isinstance (pa_cons (pv 0) (pa_cons (pe_glob rfl (T_Inside T).g (show RelV (.ref (cE K "Inside")) _ from rfl)) pa_nil))) (pa_cons (pe_callB (iskK K) rfl (T_isinstance T) bt_isinstance (pa_cons (pv 0) (pa_cons (pe_glob rfl (T_NoRoom T).g (show RelV (.ref (cE K "NoRoom")) _ from rfl)) pa_nil))) pa_nil))))) (pss_cons (ps_set (i := 1) sc_law_word.nd rfl (Or.inl rfl) (pe_op op_cat (pv 1) (pe_lst (pa_cons (pe_callB (iskK K) rfl (T_isinstance T) bt_isinstance (pa_cons (pv 0) (pa_cons (pe_glob rfl (T_Same T).g (show RelV (.ref (cE K "Same")) _ from rfl)) pa_nil))) (pa_cons (pe_callB (iskK K) rfl (T_isinstance T) bt_isinstance (pa_cons (pv 0) (pa_cons (pe_glob rfl (T_NoTie T).g (show RelV (.ref (cE K "NoTie")) _ from rfl)) pa_nil))) pa_nil))))) (pss_cons (ps_set (i := 2) sc_law_word.nd rfl (Or.inl rfl) (pe_tup (pa_cons pe_str (pa_cons pe_str (pa_cons pe_str (pa_cons pe_str (pa_cons pe_str (pa_cons pe_str (pa_cons pe_str pa_nil))))))))) (pss_cons (ps_set (i := 2) sc_law_word.nd rfl (Or.inl rfl) (pe_op (catTK K) (pv 2) (pe_tup (pa_cons pe_str (pa_cons pe_str pa_nil))))) (pss_cons (ps_expr (bmK K PySem.F.plainAttrs_list PySem.F.slot_list_append PySem.F.type_list_append mt_append (pv 1) (pa_cons (pe_callB (iskK K) rfl (T_isinstance T) bt_isinstance (pa_cons (pv 0) (pa_cons (pe_glob rfl (T_NoCast T).g (show RelV (.ref (cE K "NoCast")) _ from rfl)) pa_nil))) pa_nil))) (pss_cons (ps_if (PW.pt (pw_or (pt_cmpR op_ne (bmK K PySem.F.plainAttrs_list PySem.F.slot_list_count PySem.F.type_list_count (cntK K) (pv 1) (pa_cons pe_bl pa_nil)) pe_int (nomark _)) (pw_or1 (pt_not (truK K (pe_callB (iskK K) rfl (T_isinstance T) bt_isinstance (pa_cons (pv 0) (pa_cons (pe_bltn (v := .ty "ValueError") rfl (T_ValueError T) bt_ValueError rfl) pa_nil)))))))) (pss_one (ps_ret pe_str)) pss_nil) (pss_one (ps_ret (pe_ix (ixtK K) (pv 2) (bmK K PySem.F.plainAttrs_list PySem.F.slot_list_index PySem.F.type_list_index (idxK K) (pv 1) (pa_cons pe_bl pa_nil)) (fun _ _ => rfl)))))))))))), ?_⟩
  obtain ⟨x, kd, rfl, hx, k⟩ := h
  have is : ∀ {G : Hp} (j : Kd), Same H G → ∀ σ : L2.St, σ[0]? = some (some (.ref x)) → EvD (tCB (rIsK K) (tCons (tVar 0) (tCons (tC (.ref (cE K j.nm))) tNil))) σ G (.bl (decide (kd = j))) := fun j s σ q => ev_isK T (s _ _ hx) (ev_vr q)
  have s0 := Same.refl H
  refine q_asgN (en_lst (ea_cons (is .noThing s0 _ rfl) (ea_cons (is .noBox s0 _ rfl) ea_nil)) le_lit) fun L1 w1 H1 _ s1 h1 as1 => ?_
  refine q_asgN (en_cat (ev_var rfl (.lst h1 as1)) (en_lst (ea_cons (is .noSheet s1 _ rfl) (ea_cons (is .taken s1 _ rfl) ea_nil)) le_lit).toD le_lit) fun L2 w2 H2 _ s2 h2 as2 => ?_
  have s12 := s1.trans s2
  refine q_asgN (en_cat (ev_var rfl (.lst h2 as2)) (en_lst (ea_cons (is .inside s12 _ rfl) (ea_cons (is .noRoom s12 _ rfl) ea_nil)) le_lit).toD le_lit) fun L3 w3 H3 _ s3 h3 as3 => ?_
  have s13 := s12.trans s3
  refine q_asgN (en_cat (ev_var rfl (.lst h3 as3)) (en_lst (ea_cons (is .same s13 _ rfl) (ea_cons (is .noTie s13 _ rfl) ea_nil)) le_lit).toD le_lit) fun L4 w4 H4 hL4 s4 h4 as4 => ?_
  have s14 := s13.trans s4
  refine q_asg (ev_tup (ea_cons ev_str (ea_cons ev_str (ea_cons ev_str (ea_cons ev_str (ea_cons ev_str (ea_cons ev_str (ea_cons ev_str ea_nil))))))) le_lit) fun v5 H5 s5 a5 => ?_
  refine q_asg (ev_catT (ev_var rfl a5) (ev_tup (ea_cons ev_str (ea_cons ev_str ea_nil)) le_lit) (by intro z; cases z) le_lit) fun v6 H6 s6 a6 => ?_
  have s46 := s5.trans s6
  have s16 := s14.trans s46
  refine q_app (s46 _ _ h4) (ev_vr rfl) (is .noCast s16 _ rfl) (by rw [← as4.length]; exact le_lit (by kernel_rfl)) fun v7 H7 s7 a7 => ?_
  cases a7
  have s47 := s46.trans s7
  have e4 : w4 = ((kinds kd).take 8).map V.bl := by
    have z : Ats H4 (((kinds kd).take 8).map D.bl) w4 := as4
    exact z.bls
  have el : w4 ++ [V.bl (decide (kd = .noCast))] = (kinds kd).map V.bl := by rw [e4]; rfl
  rw [el]
  have hx8 : upd H7 L4 (.lst ((kinds kd).map V.bl)) x = some (ExK (.ref (cE K kd.nm)) none x) := by
    have nx : x ≠ L4 := ne_of_none ((s1.trans (s2.trans s3)) _ _ hx) hL4
    rw [upd_ne nx]
    exact (s14.trans s47) _ _ hx
  have tl : Tle H7 (upd H7 L4 (.lst ((kinds kd).map V.bl))) := upd_tle (s47 _ _ h4)
  have aw : At (upd H7 L4 (.lst ((kinds kd).map V.bl))) (.tup ((["no thing", "no box", "no sheet", "taken", "inside", "no room", "same", "no tie", "no cast"] : List Str).map D.str)) v6 := (a6.mono s7).tle tl rfl
  have sk : Same H (upd H7 L4 (.lst ((kinds kd).map V.bl))) := Same.mut (s14.trans s47) (fresh_back (s1.trans (s2.trans s3)) hL4)
  have hG : upd H7 L4 (.lst ((kinds kd).map V.bl)) L4 = some (.lst ((kinds kd).map V.bl)) := upd_same
  generalize upd H7 L4 (.lst ((kinds kd).map V.bl)) = G at hx8 aw sk hG
  refine q_ifN (b := false) ((et_or (a := false) ((et_test (ev_neI (a := 1) (b := 1) (ev_cnt hG (ev_vr rfl) ev_bl) ev_int)).is (by decide)) fun _ => (et_not (et_isV T hx8 (ev_vr rfl))).is (b := false) rfl).is rfl) (fun z => by cases z) fun _ H8 s8 => ?_
  refine s_ret (ev_ixTe (k := kIx kd) (ev_var rfl (aw.mono s8)) (ev_idx (k := kd) (s8 _ _ hG) (ev_vr rfl) ev_bl) rfl (kinds_word kd)) fun v H9 s9 av => k v H9 ((sk.trans s8).trans s9) av

end
end Ho

set_option Elab.async false
set_option linter.all false
set_option maxRecDepth 100000
set_option maxHeartbeats 4000000
/-! C13: the house is asked for any deed; what it tells, or how it refuses. -/
namespace Ho
open PySem PySem.Spec PyProof.Rows L2
section
variable {P : Program} {w : World} {K : PySem.W.Frag} {mg : Str → Option Value} {base : Heap} {σ : L2.St} {H H' : Hp} {ta tb te tx td tl : TE} {a : HA} {b : SA} {S S' : Stt} {E : XK} {De : Ends} {tz : TS}
def sp_law_call (K : PySem.W.Frag) : Sp := fun vs H Q E => ∃ (a : HA) (S : Stt) (d : Deed) (v : V), vs = [.ref a.p, v] ∧ At H d.D v ∧ HouseAt (cH K) H a S ∧ S.Wf ∧ S.Inv ∧ (∀ n t, d = .write n t → t.length ≤ 100000) ∧ Res K a (S.deed d) H Q E
theorem sc_law_call : FnScope ["_law_house", "_law_deed_here", "_law_word_here", "_law_rest", "_law_one", "_law_other"] ["_law_house", "_law_deed_here"] (defScope s_law_call) := ⟨rfl, rfl, rfl, by decide +kernel, rfl, by decide +kernel, by decide +kernel⟩
theorem ok_law_call (T : Tx K mg) : FnR P w K mg base (L2.CX P w) 6 (He.ga K "_law_call") (sp_law_call K) := by
  refine fnr (F_law_call T) sc_law_call (fun _ _ _ _ _ _ us hl => match us, hl with | [_, _], _ => rfl) (fun vs H Q E h => by obtain ⟨_, _, _, _, rfl, _⟩ := h; rfl) (fun cdv A outer s H vs Q E hr h => ?_)
  refine ⟨_, (pss_cons (ps_par (i := 2) (j := 3) rfl sc_law_call.nd rfl rfl (by decide) rfl rfl (pa_cons (pe_ix (ixtK K) (pv 1) pe_int (fun _ _ => rfl)) (pa_cons (pe_slice (sltK K) (pv 1) (po_some pe_int) po_none) pa_nil)) rfl) (pss_cons (ps_if (pt_cmpR op_eq (pv 2) pe_str (nomark _)) (pss_one (ps_ret (pe_methR (pv 0) (T_cls T) (T_h_make T) (ok_h_make T) (hr.mono (by decide)) (passes_call (takes_of rfl rfl rfl rfl) (fun _ _ _ _ z => z)) (pa_cons (pe_ix (ixtK K) (pv 3) pe_int (fun _ _ => rfl)) (pa_cons (pe_ix (ixtK K) (pv 3) pe_int (fun _ _ => rfl)) (pa_cons (pe_ix (ixtK K) (pv 3) pe_int (fun _ _ => rfl)) pa_nil)))))) pss_nil) (pss_cons (ps_if (pt_cmpR (inK K) (pv 2) (pe_tup (pa_cons pe_str (pa_cons pe_str (pa_cons pe_str (pa_cons pe_str pa_nil))))) rfl) (pss_cons (ps_asg (pv 3) (gtupK K (n := 2) rfl (pgs_cons (pg_name (i := 4) sc_law_call.nd rfl (Or.inl rfl)) (pgs_cons (pg_name (i := 5) sc_law_call.nd rfl (Or.inl rfl)) pgs_nil)))) (pss_cons (ps_if (pt_cmpR op_eq (pv 2) pe_str (nomark _)) (pss_one (ps_ret (pe_methR (pv 0) (T_cls T) (T_h_rename T) (ok_h_rename T) (hr.mono (by decide)) (passes_call (takes_of rfl rfl rfl rfl) (fun _ _ _ _ z => z)) (pa_cons (pv 4) (pa_cons (pv 5) pa_nil))))) pss_nil) (pss_cons (ps_if (pt_cmpR op_eq (pv 2) pe_str (nomark _)) (pss_one (ps_ret (pe_methR (pv 0) (T_cls T) (T_h_move T) (ok_h_move T) (hr.mono (by decide)) (passes_call (takes_of rfl rfl rfl rfl) (fun _ _ _ _ z => z)) (pa_cons (pv 4) (pa_cons (pv 5) pa_nil))))) pss_nil) (pss_one (ps_ret (pe_ifExp (pt_cmpR op_eq (pv 2) pe_str (nomark _)) (pe_methR (pv 0) (T_cls T) (T_h_write T) (ok_h_write T) (hr.mono (by decide)) (passes_call (takes_of rfl rfl rfl rfl) (fun _ _ _ _ z => z)) (pa_cons (pv 4) (pa_cons (pv 5) pa_nil))) (pe_methR (pv 0) (T_cls T) (T_h_copy T) (ok_h_copy T) (hr.mono (by decide)) (passes_call (takes_of rfl rfl rfl rfl) (fun _ _ _ _ z => z)) (pa_cons (pv 4) (pa_cons (pv 5) pa_nil))))))))) pss_nil) (pss_cons (ps_if (pt_cmpR (inK K) (pv 2) (pe_tup (pa_cons pe_str (pa_cons pe_str pa_nil))) rfl) (pss_one (ps_ret (pe_ifExp (pt_cmpR op_eq (pv 2) pe_str (nomark _)) (pe_methR (pv 0) (T_cls T) (T_h_tie T) (ok_h_tie T) (hr.mono (by decide)) (passes_call (takes_of rfl rfl rfl rfl) (fun _ _ _ _ z => z)) (pa_cons (pe_ix (ixtK K) (pv 3) pe_int (fun _ _ => rfl)) (pa_cons (pe_ix (ixtK K) (pv 3) pe_int (fun _ _ => rfl)) pa_nil))) (pe_methR (pv 0) (T_cls T) (T_h_untie T) (ok_h_untie T) (hr.mono (by decide)) (passes_call (takes_of rfl rfl rfl rfl) (fun _ _ _ _ z => z)) (pa_cons (pe_ix (ixtK K) (pv 3) pe_int (fun _ _ => rfl)) (pa_cons (pe_ix (ixtK K) (pv 3) pe_int (fun _ _ => rfl)) pa_nil)))))) pss_nil) (pss_cons (ps_if (pt_cmpR (inK K) (pv 2) (pe_tup (pa_cons pe_str (pa_cons pe_str (pa_cons pe_str pa_nil)))) rfl) (pss_cons (ps_if (pt_cmpR op_eq (pv 2) pe_str (nomark _)) (pss_one (ps_ret (pe_methR (pv 0) (T_cls T) (T_h_cast T) (ok_h_cast T) (hr.mono (by decide)) (passes_call (takes_of rfl rfl rfl rfl) (fun _ _ _ _ z => z)) (pa_cons (pe_ix (ixtK K) (pv 3) pe_int (fun _ _ => rfl)) pa_nil)))) pss_nil) (pss_one (ps_ret (pe_ifExp (pt_cmpR op_eq (pv 2) pe_str (nomark _)) (pe_methR (pv 0) (T_cls T) (T_h_back T) (ok_h_back T) (hr.mono (by decide)) (passes_call (takes_of rfl rfl rfl rfl) (fun _ _ _ _ z => z)) (pa_cons (pe_ix (ixtK K) (pv 3) pe_int (fun _ _ => rfl)) pa_nil)) (pe_methR (pv 0) (T_cls T) (T_h_gone T) (ok_h_gone T) (hr.mono (by decide)) (passes_call (takes_of rfl rfl rfl rfl) (fun _ _ _ _ z => z)) (pa_cons (pe_ix (ixtK K) (pv 3) pe_int (fun _ _ => rfl)) pa_nil)))))) pss_nil) (pss_one (ps_ret (pe_ifExp (pt_cmpR op_eq (pv 2) pe_str (nomark _)) (pe_methF0 (pv 0) (T_cls T) (T_h_empty T) (ok_h_empty T) (hr.mono (by decide)) passL) (pe_methF0 (pv 0) (T_cls T) (T_h_next_day T) (ok_h_next_day T) (hr.mono (by decide)) passL))))))))), ?_⟩
  obtain ⟨a, S, d, v, rfl, av, h, wf, inv, hd, k⟩ := h
  refine q_par (d1 := .str d.word) (d2 := .tup d.args) (ea_cons (ev_ixT (k := 0) (ev_var rfl av) rfl) (ea_cons ((ev_slFrom (k := 1) (Nat.le_refl _) (by intro z; cases z) (ev_var rfl av)).is rfl) ea_nil)) fun v1 v2 H0 s0 a1 a2 => ?_
  cases a1
  have h0 := h.mono s0
  have k := k.mono s0
  cases d with
  | make p nm bb =>
    refine q_if (b := true) ((et_test (ev_eqS (ev_vs rfl) ev_str)).is (decide_eq_true (show ("make" : Str) = "make" by decide))) (fun _ H1 s1 => ?_) fun z => by cases z
    have h1 := h0.mono s1
    have a2 := a2.mono s1
    have k := k.mono s1
    refine c_meth h1.ins (by kernel_rfl) (ev_vr rfl) (ea_cons (ev_ixT (k := 0) (ev_var rfl a2) (d := oi p) rfl) (ea_cons (ev_ixT (k := 1) (ev_var rfl a2) (d := .str nm) rfl) (ea_cons (ev_ixT (k := 2) (ev_var rfl a2) (d := .bl bb) rfl) ea_nil))) fun vs G sg as => ?_
    cases as with | cons b1 as => ?_
    cases as with | cons b2 as => ?_
    cases as with | cons b3 as => ?_
    cases as
    cases at_oi' b1
    cases b2
    cases b3
    exact ⟨a, S, p, nm, bb, rfl, h1.mono sg, wf, inv.fresh, k.mono sg⟩
  | rename n nm =>
    refine q_ifN (b := false) ((et_test (ev_eqS (ev_vs rfl) ev_str)).is (decide_eq_false (show ¬ ("rename" : Str) = "make" by decide))) (fun z => by cases z) fun _ H1 s1 => ?_
    have h1 := h0.mono s1
    have a2 := a2.mono s1
    have k := k.mono s1
    refine q_if (b := true) ((et_test (ev_inTS (l := ["rename", "move", "write", "copy"]) (ev_vs rfl) (ev_tup (ea_cons ev_str (ea_cons ev_str (ea_cons ev_str (ea_cons ev_str ea_nil)))) le_lit))).is (decide_eq_true (show ("rename" : Str) ∈ (["rename", "move", "write", "copy"] : List Str) by decide))) (fun _ H2 s2 => ?_) fun z => by cases z
    have h2 := h1.mono s2
    have a2 := a2.mono s2
    have k := k.mono s2
    refine q_unp2 (d1 := .int n) (d2 := .str nm) (ev_var rfl a2) fun v3 v4 H3 s3 c1 c2 => ?_
    cases c1
    cases c2
    have h3 := h2.mono s3
    have a2 := a2.mono s3
    have k := k.mono s3
    refine q_if (b := true) ((et_test (ev_eqS (ev_vs rfl) ev_str)).is (decide_eq_true (show ("rename" : Str) = "rename" by decide))) (fun _ H4 s4 => ?_) fun z => by cases z
    have h4 := h3.mono s4
    have a2 := a2.mono s4
    have k := k.mono s4
    refine c_meth h4.ins (by kernel_rfl) (ev_vr rfl) (ea_cons (ev_vi rfl) (ea_cons (ev_vs rfl) ea_nil)) fun vs G sg as => ?_
    cases as with | cons b1 as => ?_
    cases as with | cons b2 as => ?_
    cases as
    cases b1
    cases b2
    exact ⟨a, S, n, nm, rfl, h4.mono sg, wf, k.mono sg⟩
  | move n p =>
    refine q_ifN (b := false) ((et_test (ev_eqS (ev_vs rfl) ev_str)).is (decide_eq_false (show ¬ ("move" : Str) = "make" by decide))) (fun z => by cases z) fun _ H1 s1 => ?_
    have h1 := h0.mono s1
    have a2 := a2.mono s1
    have k := k.mono s1
    refine q_if (b := true) ((et_test (ev_inTS (l := ["rename", "move", "write", "copy"]) (ev_vs rfl) (ev_tup (ea_cons ev_str (ea_cons ev_str (ea_cons ev_str (ea_cons ev_str ea_nil)))) le_lit))).is (decide_eq_true (show ("move" : Str) ∈ (["rename", "move", "write", "copy"] : List Str) by decide))) (fun _ H2 s2 => ?_) fun z => by cases z
    have h2 := h1.mono s2
    have a2 := a2.mono s2
    have k := k.mono s2
    refine q_unp2 (d1 := .int n) (d2 := oi p) (ev_var rfl a2) fun v3 v4 H3 s3 c1 c2 => ?_
    cases c1
    cases at_oi' c2
    have h3 := h2.mono s3
    have a2 := a2.mono s3
    have k := k.mono s3
    refine q_ifN (b := false) ((et_test (ev_eqS (ev_vs rfl) ev_str)).is (decide_eq_false (show ¬ ("move" : Str) = "rename" by decide))) (fun z => by cases z) fun _ H4 s4 => ?_
    have h4 := h3.mono s4
    have a2 := a2.mono s4
    have k := k.mono s4
    refine q_if (b := true) ((et_test (ev_eqS (ev_vs rfl) ev_str)).is (decide_eq_true (show ("move" : Str) = "move" by decide))) (fun _ H5 s5 => ?_) fun z => by cases z
    have h5 := h4.mono s5
    have a2 := a2.mono s5
    have k := k.mono s5
    refine c_meth h5.ins (by kernel_rfl) (ev_vr rfl) (ea_cons (ev_vi rfl) (ea_cons (ev_vo rfl) ea_nil)) fun vs G sg as => ?_
    cases as with | cons b1 as => ?_
    cases as with | cons b2 as => ?_
    cases as
    cases b1
    cases at_oi' b2
    exact ⟨a, S, n, p, rfl, h5.mono sg, wf, k.mono sg⟩
  | copy n p =>
    refine q_ifN (b := false) ((et_test (ev_eqS (ev_vs rfl) ev_str)).is (decide_eq_false (show ¬ ("copy" : Str) = "make" by decide))) (fun z => by cases z) fun _ H1 s1 => ?_
    have h1 := h0.mono s1
    have a2 := a2.mono s1
    have k := k.mono s1
    refine q_if (b := true) ((et_test (ev_inTS (l := ["rename", "move", "write", "copy"]) (ev_vs rfl) (ev_tup (ea_cons ev_str (ea_cons ev_str (ea_cons ev_str (ea_cons ev_str ea_nil)))) le_lit))).is (decide_eq_true (show ("copy" : Str) ∈ (["rename", "move", "write", "copy"] : List Str) by decide))) (fun _ H2 s2 => ?_) fun z => by cases z
    have h2 := h1.mono s2
    have a2 := a2.mono s2
    have k := k.mono s2
    refine q_unp2 (d1 := .int n) (d2 := oi p) (ev_var rfl a2) fun v3 v4 H3 s3 c1 c2 => ?_
    cases c1
    cases at_oi' c2
    have h3 := h2.mono s3
    have a2 := a2.mono s3
    have k := k.mono s3
    refine q_ifN (b := false) ((et_test (ev_eqS (ev_vs rfl) ev_str)).is (decide_eq_false (show ¬ ("copy" : Str) = "rename" by decide))) (fun z => by cases z) fun _ H4 s4 => ?_
    have h4 := h3.mono s4
    have a2 := a2.mono s4
    have k := k.mono s4
    refine q_ifN (b := false) ((et_test (ev_eqS (ev_vs rfl) ev_str)).is (decide_eq_false (show ¬ ("copy" : Str) = "move" by decide))) (fun z => by cases z) fun _ H5 s5 => ?_
    have h5 := h4.mono s5
    have a2 := a2.mono s5
    have k := k.mono s5
    refine c_if (q := false) ((et_test (ev_eqS (ev_vs rfl) ev_str)).is (decide_eq_false (show ¬ ("copy" : Str) = "write" by decide))) (fun z => by cases z) fun _ H6 s6 => ?_
    have h6 := h5.mono s6
    have a2 := a2.mono s6
    have k := k.mono s6
    refine c_meth h6.ins (by kernel_rfl) (ev_vr rfl) (ea_cons (ev_vi rfl) (ea_cons (ev_vo rfl) ea_nil)) fun vs G sg as => ?_
    cases as with | cons b1 as => ?_
    cases as with | cons b2 as => ?_
    cases as
    cases b1
    cases at_oi' b2
    exact ⟨a, S, n, p, rfl, h6.mono sg, wf, inv, k.mono sg⟩
  | write n t =>
    refine q_ifN (b := false) ((et_test (ev_eqS (ev_vs rfl) ev_str)).is (decide_eq_false (show ¬ ("write" : Str) = "make" by decide))) (fun z => by cases z) fun _ H1 s1 => ?_
    have h1 := h0.mono s1
    have a2 := a2.mono s1
    have k := k.mono s1
    refine q_if (b := true) ((et_test (ev_inTS (l := ["rename", "move", "write", "copy"]) (ev_vs rfl) (ev_tup (ea_cons ev_str (ea_cons ev_str (ea_cons ev_str (ea_cons ev_str ea_nil)))) le_lit))).is (decide_eq_true (show ("write" : Str) ∈ (["rename", "move", "write", "copy"] : List Str) by decide))) (fun _ H2 s2 => ?_) fun z => by cases z
    have h2 := h1.mono s2
    have a2 := a2.mono s2
    have k := k.mono s2
    refine q_unp2 (d1 := .int n) (d2 := .str t) (ev_var rfl a2) fun v3 v4 H3 s3 c1 c2 => ?_
    cases c1
    cases c2
    have h3 := h2.mono s3
    have a2 := a2.mono s3
    have k := k.mono s3
    refine q_ifN (b := false) ((et_test (ev_eqS (ev_vs rfl) ev_str)).is (decide_eq_false (show ¬ ("write" : Str) = "rename" by decide))) (fun z => by cases z) fun _ H4 s4 => ?_
    have h4 := h3.mono s4
    have a2 := a2.mono s4
    have k := k.mono s4
    refine q_ifN (b := false) ((et_test (ev_eqS (ev_vs rfl) ev_str)).is (decide_eq_false (show ¬ ("write" : Str) = "move" by decide))) (fun z => by cases z) fun _ H5 s5 => ?_
    have h5 := h4.mono s5
    have a2 := a2.mono s5
    have k := k.mono s5
    refine c_if (q := true) ((et_test (ev_eqS (ev_vs rfl) ev_str)).is (decide_eq_true (show ("write" : Str) = "write" by decide))) (fun _ H6 s6 => ?_) fun z => by cases z
    have h6 := h5.mono s6
    have a2 := a2.mono s6
    have k := k.mono s6
    refine c_meth h6.ins (by kernel_rfl) (ev_vr rfl) (ea_cons (ev_vi rfl) (ea_cons (ev_vs rfl) ea_nil)) fun vs G sg as => ?_
    cases as with | cons b1 as => ?_
    cases as with | cons b2 as => ?_
    cases as
    cases b1
    cases b2
    exact ⟨a, S, n, t, rfl, h6.mono sg, wf, inv, hd n t rfl, k.mono sg⟩
  | tie x y =>
    refine q_ifN (b := false) ((et_test (ev_eqS (ev_vs rfl) ev_str)).is (decide_eq_false (show ¬ ("tie" : Str) = "make" by decide))) (fun z => by cases z) fun _ H1 s1 => ?_
    have h1 := h0.mono s1
    have a2 := a2.mono s1
    have k := k.mono s1
    refine q_ifN (b := false) ((et_test (ev_inTS (l := ["rename", "move", "write", "copy"]) (ev_vs rfl) (ev_tup (ea_cons ev_str (ea_cons ev_str (ea_cons ev_str (ea_cons ev_str ea_nil)))) le_lit))).is (decide_eq_false (show ¬ ("tie" : Str) ∈ (["rename", "move", "write", "copy"] : List Str) by decide))) (fun z => by cases z) fun _ H2 s2 => ?_
    have h2 := h1.mono s2
    have a2 := a2.mono s2
    have k := k.mono s2
    refine q_if (b := true) ((et_test (ev_inTS (l := ["tie", "untie"]) (ev_vs rfl) (ev_tup (ea_cons ev_str (ea_cons ev_str ea_nil)) le_lit))).is (decide_eq_true (show ("tie" : Str) ∈ (["tie", "untie"] : List Str) by decide))) (fun _ H3 s3 => ?_) fun z => by cases z
    have h3 := h2.mono s3
    have a2 := a2.mono s3
    have k := k.mono s3
    refine c_if (q := true) ((et_test (ev_eqS (ev_vs rfl) ev_str)).is (decide_eq_true (show ("tie" : Str) = "tie" by decide))) (fun _ H4 s4 => ?_) fun z => by cases z
    have h4 := h3.mono s4
    have a2 := a2.mono s4
    have k := k.mono s4
    refine c_meth h4.ins (by kernel_rfl) (ev_vr rfl) (ea_cons (ev_ixT (k := 0) (ev_var rfl a2) (d := .int x) rfl) (ea_cons (ev_ixT (k := 1) (ev_var rfl a2) (d := .int y) rfl) ea_nil)) fun vs G sg as => ?_
    cases as with | cons b1 as => ?_
    cases as with | cons b2 as => ?_
    cases as
    cases b1
    cases b2
    exact ⟨a, S, x, y, rfl, h4.mono sg, wf, k.mono sg⟩
  | untie x y =>
    refine q_ifN (b := false) ((et_test (ev_eqS (ev_vs rfl) ev_str)).is (decide_eq_false (show ¬ ("untie" : Str) = "make" by decide))) (fun z => by cases z) fun _ H1 s1 => ?_
    have h1 := h0.mono s1
    have a2 := a2.mono s1
    have k := k.mono s1
    refine q_ifN (b := false) ((et_test (ev_inTS (l := ["rename", "move", "write", "copy"]) (ev_vs rfl) (ev_tup (ea_cons ev_str (ea_cons ev_str (ea_cons ev_str (ea_cons ev_str ea_nil)))) le_lit))).is (decide_eq_false (show ¬ ("untie" : Str) ∈ (["rename", "move", "write", "copy"] : List Str) by decide))) (fun z => by cases z) fun _ H2 s2 => ?_
    have h2 := h1.mono s2
    have a2 := a2.mono s2
    have k := k.mono s2
    refine q_if (b := true) ((et_test (ev_inTS (l := ["tie", "untie"]) (ev_vs rfl) (ev_tup (ea_cons ev_str (ea_cons ev_str ea_nil)) le_lit))).is (decide_eq_true (show ("untie" : Str) ∈ (["tie", "untie"] : List Str) by decide))) (fun _ H3 s3 => ?_) fun z => by cases z
    have h3 := h2.mono s3
    have a2 := a2.mono s3
    have k := k.mono s3
    refine c_if (q := false) ((et_test (ev_eqS (ev_vs rfl) ev_str)).is (decide_eq_false (show ¬ ("untie" : Str) = "tie" by decide))) (fun z => by cases z) fun _ H4 s4 => ?_
    have h4 := h3.mono s4
    have a2 := a2.mono s4
    have k := k.mono s4
    refine c_meth h4.ins (by kernel_rfl) (ev_vr rfl) (ea_cons (ev_ixT (k := 0) (ev_var rfl a2) (d := .int x) rfl) (ea_cons (ev_ixT (k := 1) (ev_var rfl a2) (d := .int y) rfl) ea_nil)) fun vs G sg as => ?_
    cases as with | cons b1 as => ?_
    cases as with | cons b2 as => ?_
    cases as
    cases b1
    cases b2
    exact ⟨a, S, x, y, rfl, h4.mono sg, wf, k.mono sg⟩
  | cast n =>
    refine q_ifN (b := false) ((et_test (ev_eqS (ev_vs rfl) ev_str)).is (decide_eq_false (show ¬ ("cast" : Str) = "make" by decide))) (fun z => by cases z) fun _ H1 s1 => ?_
    have h1 := h0.mono s1
    have a2 := a2.mono s1
    have k := k.mono s1
    refine q_ifN (b := false) ((et_test (ev_inTS (l := ["rename", "move", "write", "copy"]) (ev_vs rfl) (ev_tup (ea_cons ev_str (ea_cons ev_str (ea_cons ev_str (ea_cons ev_str ea_nil)))) le_lit))).is (decide_eq_false (show ¬ ("cast" : Str) ∈ (["rename", "move", "write", "copy"] : List Str) by decide))) (fun z => by cases z) fun _ H2 s2 => ?_
    have h2 := h1.mono s2
    have a2 := a2.mono s2
    have k := k.mono s2
    refine q_ifN (b := false) ((et_test (ev_inTS (l := ["tie", "untie"]) (ev_vs rfl) (ev_tup (ea_cons ev_str (ea_cons ev_str ea_nil)) le_lit))).is (decide_eq_false (show ¬ ("cast" : Str) ∈ (["tie", "untie"] : List Str) by decide))) (fun z => by cases z) fun _ H3 s3 => ?_
    have h3 := h2.mono s3
    have a2 := a2.mono s3
    have k := k.mono s3
    refine q_if (b := true) ((et_test (ev_inTS (l := ["cast", "back", "gone"]) (ev_vs rfl) (ev_tup (ea_cons ev_str (ea_cons ev_str (ea_cons ev_str ea_nil))) le_lit))).is (decide_eq_true (show ("cast" : Str) ∈ (["cast", "back", "gone"] : List Str) by decide))) (fun _ H4 s4 => ?_) fun z => by cases z
    have h4 := h3.mono s4
    have a2 := a2.mono s4
    have k := k.mono s4
    refine q_if (b := true) ((et_test (ev_eqS (ev_vs rfl) ev_str)).is (decide_eq_true (show ("cast" : Str) = "cast" by decide))) (fun _ H5 s5 => ?_) fun z => by cases z
    have h5 := h4.mono s5
    have a2 := a2.mono s5
    have k := k.mono s5
    refine c_meth h5.ins (by kernel_rfl) (ev_vr rfl) (ea_cons (ev_ixT (k := 0) (ev_var rfl a2) (d := .int n) rfl) ea_nil) fun vs G sg as => ?_
    cases as with | cons b1 as => ?_
    cases as
    cases b1
    exact ⟨a, S, n, rfl, h5.mono sg, wf, k.mono sg⟩
  | back n =>
    refine q_ifN (b := false) ((et_test (ev_eqS (ev_vs rfl) ev_str)).is (decide_eq_false (show ¬ ("back" : Str) = "make" by decide))) (fun z => by cases z) fun _ H1 s1 => ?_
    have h1 := h0.mono s1
    have a2 := a2.mono s1
    have k := k.mono s1
    refine q_ifN (b := false) ((et_test (ev_inTS (l := ["rename", "move", "write", "copy"]) (ev_vs rfl) (ev_tup (ea_cons ev_str (ea_cons ev_str (ea_cons ev_str (ea_cons ev_str ea_nil)))) le_lit))).is (decide_eq_false (show ¬ ("back" : Str) ∈ (["rename", "move", "write", "copy"] : List Str) by decide))) (fun z => by cases z) fun _ H2 s2 => ?_
    have h2 := h1.mono s2
    have a2 := a2.mono s2
    have k := k.mono s2
    refine q_ifN (b := false) ((et_test (ev_inTS (l := ["tie", "untie"]) (ev_vs rfl) (ev_tup (ea_cons ev_str (ea_cons ev_str ea_nil)) le_lit))).is (decide_eq_false (show ¬ ("back" : Str) ∈ (["tie", "untie"] : List Str) by decide))) (fun z => by cases z) fun _ H3 s3 => ?_
    have h3 := h2.mono s3
    have a2 := a2.mono s3
    have k := k.mono s3
    refine q_if (b := true) ((et_test (ev_inTS (l := ["cast", "back", "gone"]) (ev_vs rfl) (ev_tup (ea_cons ev_str (ea_cons ev_str (ea_cons ev_str ea_nil))) le_lit))).is (decide_eq_true (show ("back" : Str) ∈ (["cast", "back", "gone"] : List Str) by decide))) (fun _ H4 s4 => ?_) fun z => by cases z
    have h4 := h3.mono s4
    have a2 := a2.mono s4
    have k := k.mono s4
    refine q_ifN (b := false) ((et_test (ev_eqS (ev_vs rfl) ev_str)).is (decide_eq_false (show ¬ ("back" : Str) = "cast" by decide))) (fun z => by cases z) fun _ H5 s5 => ?_
    have h5 := h4.mono s5
    have a2 := a2.mono s5
    have k := k.mono s5
    refine c_if (q := true) ((et_test (ev_eqS (ev_vs rfl) ev_str)).is (decide_eq_true (show ("back" : Str) = "back" by decide))) (fun _ H6 s6 => ?_) fun z => by cases z
    have h6 := h5.mono s6
    have a2 := a2.mono s6
    have k := k.mono s6
    refine c_meth h6.ins (by kernel_rfl) (ev_vr rfl) (ea_cons (ev_ixT (k := 0) (ev_var rfl a2) (d := .int n) rfl) ea_nil) fun vs G sg as => ?_
    cases as with | cons b1 as => ?_
    cases as
    cases b1
    exact ⟨a, S, n, rfl, h6.mono sg, wf, inv, k.mono sg⟩
  | gone n =>
    refine q_ifN (b := false) ((et_test (ev_eqS (ev_vs rfl) ev_str)).is (decide_eq_false (show ¬ ("gone" : Str) = "make" by decide))) (fun z => by cases z) fun _ H1 s1 => ?_
    have h1 := h0.mono s1
    have a2 := a2.mono s1
    have k := k.mono s1
    refine q_ifN (b := false) ((et_test (ev_inTS (l := ["rename", "move", "write", "copy"]) (ev_vs rfl) (ev_tup (ea_cons ev_str (ea_cons ev_str (ea_cons ev_str (ea_cons ev_str ea_nil)))) le_lit))).is (decide_eq_false (show ¬ ("gone" : Str) ∈ (["rename", "move", "write", "copy"] : List Str) by decide))) (fun z => by cases z) fun _ H2 s2 => ?_
    have h2 := h1.mono s2
    have a2 := a2.mono s2
    have k := k.mono s2
    refine q_ifN (b := false) ((et_test (ev_inTS (l := ["tie", "untie"]) (ev_vs rfl) (ev_tup (ea_cons ev_str (ea_cons ev_str ea_nil)) le_lit))).is (decide_eq_false (show ¬ ("gone" : Str) ∈ (["tie", "untie"] : List Str) by decide))) (fun z => by cases z) fun _ H3 s3 => ?_
    have h3 := h2.mono s3
    have a2 := a2.mono s3
    have k := k.mono s3
    refine q_if (b := true) ((et_test (ev_inTS (l := ["cast", "back", "gone"]) (ev_vs rfl) (ev_tup (ea_cons ev_str (ea_cons ev_str (ea_cons ev_str ea_nil))) le_lit))).is (decide_eq_true (show ("gone" : Str) ∈ (["cast", "back", "gone"] : List Str) by decide))) (fun _ H4 s4 => ?_) fun z => by cases z
    have h4 := h3.mono s4
    have a2 := a2.mono s4
    have k := k.mono s4
    refine q_ifN (b := false) ((et_test (ev_eqS (ev_vs rfl) ev_str)).is (decide_eq_false (show ¬ ("gone" : Str) = "cast" by decide))) (fun z => by cases z) fun _ H5 s5 => ?_
    have h5 := h4.mono s5
    have a2 := a2.mono s5
    have k := k.mono s5
    refine c_if (q := false) ((et_test (ev_eqS (ev_vs rfl) ev_str)).is (decide_eq_false (show ¬ ("gone" : Str) = "back" by decide))) (fun z => by cases z) fun _ H6 s6 => ?_
    have h6 := h5.mono s6
    have a2 := a2.mono s6
    have k := k.mono s6
    refine c_meth h6.ins (by kernel_rfl) (ev_vr rfl) (ea_cons (ev_ixT (k := 0) (ev_var rfl a2) (d := .int n) rfl) ea_nil) fun vs G sg as => ?_
    cases as with | cons b1 as => ?_
    cases as
    cases b1
    exact ⟨a, S, n, rfl, h6.mono sg, wf, inv, k.mono sg⟩
  | empty =>
    refine q_ifN (b := false) ((et_test (ev_eqS (ev_vs rfl) ev_str)).is (decide_eq_false (show ¬ ("empty" : Str) = "make" by decide))) (fun z => by cases z) fun _ H1 s1 => ?_
    have h1 := h0.mono s1
    have a2 := a2.mono s1
    have k := k.mono s1
    refine q_ifN (b := false) ((et_test (ev_inTS (l := ["rename", "move", "write", "copy"]) (ev_vs rfl) (ev_tup (ea_cons ev_str (ea_cons ev_str (ea_cons ev_str (ea_cons ev_str ea_nil)))) le_lit))).is (decide_eq_false (show ¬ ("empty" : Str) ∈ (["rename", "move", "write", "copy"] : List Str) by decide))) (fun z => by cases z) fun _ H2 s2 => ?_
    have h2 := h1.mono s2
    have a2 := a2.mono s2
    have k := k.mono s2
    refine q_ifN (b := false) ((et_test (ev_inTS (l := ["tie", "untie"]) (ev_vs rfl) (ev_tup (ea_cons ev_str (ea_cons ev_str ea_nil)) le_lit))).is (decide_eq_false (show ¬ ("empty" : Str) ∈ (["tie", "untie"] : List Str) by decide))) (fun z => by cases z) fun _ H3 s3 => ?_
    have h3 := h2.mono s3
    have a2 := a2.mono s3
    have k := k.mono s3
    refine q_ifN (b := false) ((et_test (ev_inTS (l := ["cast", "back", "gone"]) (ev_vs rfl) (ev_tup (ea_cons ev_str (ea_cons ev_str (ea_cons ev_str ea_nil))) le_lit))).is (decide_eq_false (show ¬ ("empty" : Str) ∈ (["cast", "back", "gone"] : List Str) by decide))) (fun z => by cases z) fun _ H4 s4 => ?_
    have h4 := h3.mono s4
    have a2 := a2.mono s4
    have k := k.mono s4
    refine c_if (q := true) ((et_test (ev_eqS (ev_vs rfl) ev_str)).is (decide_eq_true (show ("empty" : Str) = "empty" by decide))) (fun _ H5 s5 => ?_) fun z => by cases z
    have h5 := h4.mono s5
    have a2 := a2.mono s5
    have k := k.mono s5
    refine c_meth0 h5.ins (by kernel_rfl) (ev_vr rfl) fun G sg => ?_
    exact ⟨a, S, rfl, h5.mono sg, wf, inv, k.mono sg⟩
  | nextDay =>
    refine q_ifN (b := false) ((et_test (ev_eqS (ev_vs rfl) ev_str)).is (decide_eq_false (show ¬ ("next_day" : Str) = "make" by decide))) (fun z => by cases z) fun _ H1 s1 => ?_
    have h1 := h0.mono s1
    have a2 := a2.mono s1
    have k := k.mono s1
    refine q_ifN (b := false) ((et_test (ev_inTS (l := ["rename", "move", "write", "copy"]) (ev_vs rfl) (ev_tup (ea_cons ev_str (ea_cons ev_str (ea_cons ev_str (ea_cons ev_str ea_nil)))) le_lit))).is (decide_eq_false (show ¬ ("next_day" : Str) ∈ (["rename", "move", "write", "copy"] : List Str) by decide))) (fun z => by cases z) fun _ H2 s2 => ?_
    have h2 := h1.mono s2
    have a2 := a2.mono s2
    have k := k.mono s2
    refine q_ifN (b := false) ((et_test (ev_inTS (l := ["tie", "untie"]) (ev_vs rfl) (ev_tup (ea_cons ev_str (ea_cons ev_str ea_nil)) le_lit))).is (decide_eq_false (show ¬ ("next_day" : Str) ∈ (["tie", "untie"] : List Str) by decide))) (fun z => by cases z) fun _ H3 s3 => ?_
    have h3 := h2.mono s3
    have a2 := a2.mono s3
    have k := k.mono s3
    refine q_ifN (b := false) ((et_test (ev_inTS (l := ["cast", "back", "gone"]) (ev_vs rfl) (ev_tup (ea_cons ev_str (ea_cons ev_str (ea_cons ev_str ea_nil))) le_lit))).is (decide_eq_false (show ¬ ("next_day" : Str) ∈ (["cast", "back", "gone"] : List Str) by decide))) (fun z => by cases z) fun _ H4 s4 => ?_
    have h4 := h3.mono s4
    have a2 := a2.mono s4
    have k := k.mono s4
    refine c_if (q := false) ((et_test (ev_eqS (ev_vs rfl) ev_str)).is (decide_eq_false (show ¬ ("next_day" : Str) = "empty" by decide))) (fun z => by cases z) fun _ H5 s5 => ?_
    have h5 := h4.mono s5
    have a2 := a2.mono s5
    have k := k.mono s5
    refine c_meth0 h5.ins (by kernel_rfl) (ev_vr rfl) fun G sg => ?_
    exact ⟨a, S, rfl, h5.mono sg, wf, inv, k.mono sg⟩
/-! ### _law_told -/
theorem q_tryCall {sp : Sp} {ts : Addr → Value → Option Addr → TS} {c : Value} {i j : Nat} {t : TA} {ds : List D} (ha : EvA t σ H ds) (k : ∀ vs H1, Same H H1 → Ats H1 ds vs → sp vs H1 (fun v H2 => tz De (σ.set j (some v)) H2) (fun cls d H2 => wKeep K c i ts { De with nx := tz De } cls d σ H2)) :
    tSeq (fun D σ H => tAsg (tCallFS sp (wKeep K c i ts D) t) (gName j) D σ H) tz De σ H := ha H (Same.refl H) _ fun vs H1 s as => k vs H1 s as
/-- what a deed tells, or its refusal's word -/
def ResT (K : PySem.W.Frag) (a : HA) (o : Out × Stt) (H : Hp) (Q : VK) : Prop := ∀ v a' H', a'.p = a.p → HouseAt (cH K) H' a' o.2 → Mv a.all a'.all H H' → At H' o.1.told v → Q v H'
def sp_law_told (K : PySem.W.Frag) : Sp := fun vs H Q _ => ∃ (a : HA) (S : Stt) (d : Deed) (v : V), vs = [.ref a.p, v] ∧ At H d.D v ∧ HouseAt (cH K) H a S ∧ S.Wf ∧ S.Inv ∧ (∀ n t, d = .write n t → t.length ≤ 100000) ∧ ResT K a (S.deed d) H Q
theorem sc_law_told : FnScope ["_law_house", "_law_deed_here", "_law_kept", "_law_answer", "e"] ["_law_house", "_law_deed_here"] (defScope s_law_told) := ⟨rfl, rfl, rfl, by decide +kernel, rfl, by decide +kernel, by decide +kernel⟩
theorem ok_law_told (T : Tx K mg) : FnR P w K mg base (L2.CX P w) 7 (He.ga K "_law_told") (sp_law_told K) := by
  refine fnr (F_law_told T) sc_law_told (fun _ _ _ _ _ _ us hl => match us, hl with | [_, _], _ => rfl) (fun vs H Q E h => by obtain ⟨_, _, _, _, rfl, _⟩ := h; rfl) (fun cdv A outer s H vs Q E hr h => ?_)
  refine ⟨_, PSs.nox (pss_cons (ps_set (i := 2) sc_law_told.nd rfl (Or.inl rfl) pe_non) (pss_cons (ps_set (i := 3) sc_law_told.nd rfl (Or.inl rfl) pe_non) (pss_cons (ps_try_keep (i := 4) rfl rfl rfl sc_law_told.nd rfl rfl ⟨rfl, rfl, .inl (T_HouseError T)⟩ (fun W pn xe tk hpo => (pss_one (ps_set (i := 3) sc_law_told.nd rfl (Or.inl rfl) (pe_callFS (ok_law_call T) (hr.mono (by decide)) (T_law_call T).1 (T_law_call T).2 tk (pa_cons (pv 0) (pa_cons (pv 1) pa_nil)))))) (fun a oe cls d pn hz hf => (pss_one (ps_set (i := 2) sc_law_told.nd rfl (Or.inl rfl) (pv 4)))) ) (pss_one (ps_ret (pe_ifExp (pt_cmpR op_isN (pv 2) pe_non (nomark _)) (pv 3) (pe_callF (ok_law_word T) (hr.mono (by decide)) (T_law_word T).1 (T_law_word T).2 passL (pa_cons (pv 2) pa_nil)))))))), ?_⟩
  obtain ⟨a, S, d, v, rfl, av, h, wf, inv, hd, k⟩ := h
  refine q_asg (d := .non) ev_non fun v1 H1 s1 a1 => ?_
  cases a1
  refine q_asg (d := .non) ev_non fun v2 H2 s2 a2 => ?_
  cases a2
  have s12 := s1.trans s2
  have h2 := h.mono s12
  refine q_tryCall (ea_cons (ev_vr rfl) (ea_cons (ev_var rfl (av.mono s12)) ea_nil)) fun vs H3 s3 as => ?_
  cases as with | cons b1 as => ?_
  cases as with | cons b2 as => ?_
  cases as; cases b1
  have s13 := s12.trans s3
  have h3 := h.mono s13
  refine ⟨a, S, d, _, rfl, b2, h3, wf, inv, hd, ?_⟩
  unfold Res
  unfold ResT at k
  generalize hO : S.deed d = O at k
  cases hv : O.1 with
  | val dd =>
    rw [hv] at k
    dsimp only
    intro v4 a' H4 ep h4 m4 av4
    refine s_ret (d := dd) (ev_if (b := true) (et_test (ev_isN (ev_var (d := .non) rfl .non))) (fun _ => ev_var rfl av4) (fun z => by cases z)) fun v5 H5 s5 av5 => ?_
    exact k v5 a' H5 ep (h4.mono s5) (((Mv.of s13).trans m4).trans (Mv.of s5)) av5
  | err kd =>
    rw [hv] at k
    have eS : O.2 = S := by
      rw [← hO] at hv ⊢
      exact deed_err hv
    rw [eS] at k
    dsimp only
    intro H4 s4
    refine ⟨T_exm T kd, fun x hx => ?_⟩
    refine s_asg (ev_vr rfl) fun v5 H5 s5 a5 => ?_
    cases a5
    have sx : Same H4 (upd H5 x (ExK (.ref (cE K kd.nm)) none x)) := Same.mut s5 hx
    have hxx : upd H5 x (ExK (.ref (cE K kd.nm)) none x) x = some (ExK (.ref (cE K kd.nm)) none x) := upd_same
    have sG := (s13.trans s4).trans sx
    refine s_ret (d := .str kd.word) (ev_if (b := false) (et_test (ev_isN (ev_vr (n := x) rfl))) (fun z => by cases z) (fun _ => ev_call (ea_cons (ev_vr (n := x) rfl) ea_nil) fun vs G1 sg as Q q => ?_)) fun v6 H6 s6 av6 => ?_
    · cases as with | cons b1 as => ?_
      cases as; cases b1
      exact ⟨x, kd, rfl, sg _ _ hxx, q⟩
    · exact k v6 a H6 rfl (h.mono (sG.trans s6)) (Mv.of (sG.trans s6)) av6

end
end Ho

set_option Elab.async false
set_option linter.all false
set_option maxRecDepth 100000
set_option maxHeartbeats 4000000
/-! C14: the same data are the same. -/
namespace Ho
open PySem PySem.Spec PyProof.Rows L2
mutual
/-- none, truth values, ints, texts, tuples of such -/
def D.pl : D → Bool
  | .non => true
  | .bl _ => true
  | .int _ => true
  | .str _ => true
  | .tup l => decide (l.length ≤ 1000000) && pls l
  | .lst _ => false
  | .ref _ => false
def pls : List D → Bool
  | [] => true
  | d :: ds => d.pl && pls ds
end
mutual
def D.dep : D → Nat
  | .tup l => deps l + 1
  | .non => 0
  | .bl _ => 0
  | .int _ => 0
  | .str _ => 0
  | .lst _ => 0
  | .ref _ => 0
def deps : List D → Nat
  | [] => 0
  | d :: ds => max d.dep (deps ds)
end
theorem pls_mem : ∀ {l : List D}, pls l = true → ∀ d ∈ l, d.pl = true
  | e :: l, h, d, hd => by
    unfold pls at h
    obtain ⟨h1, h2⟩ := Bool.and_eq_true_iff.mp h
    rcases List.mem_cons.mp hd with z | z
    · rw [z]; exact h1
    · exact pls_mem h2 d z
theorem deps_mem : ∀ {l : List D} (d : D), d ∈ l → d.dep ≤ deps l
  | e :: l, d, hd => by
    unfold deps
    rcases List.mem_cons.mp hd with z | z
    · rw [z]; exact Nat.le_max_left _ _
    · exact Nat.le_trans (deps_mem d z) (Nat.le_max_right _ _)
section
variable {P : Program} {w : World} {K : PySem.W.Frag} {mg : Str → Option Value} {base : Heap} {σ : L2.St} {H H' : Hp} {ta tb te tx td tl : TE} {a : HA} {b : SA} {S S' : Stt} {E : XK} {De : Ends} {tz : TS} {d : D}
def D.ty : D → String
  | .non => "NoneType"
  | .bl _ => "bool"
  | .int _ => "int"
  | .str _ => "str"
  | .tup _ => "tuple"
  | .lst _ => "list"
  | .ref _ => "object"
theorem at_ty {v : V} (h : At H d v) (p : d.pl = true) : TyX K H v (.type d.ty) := by
  cases h with
  | non => exact .base .non
  | bl b => exact .base (.bl b)
  | int i => exact .base (.int i)
  | str s => exact .base (.str s)
  | ref a => cases p
  | tup hp hs => exact .base (.tup hp)
  | lst hp hs => cases p
theorem ev_isi {n : String} {b : Bool} (p : d.pl = true) (e : PySem.W.kitOne K (.type d.ty) (.type n) = some b) (h : EvD te σ H d) : EvD (tCB (rIsi K) (tCons te (tCons (tC (.ty n)) tNil))) σ H (.bl b) := fun H1 s Q q =>
  h H1 s _ fun v H2 s2 av => ⟨v, .ty n, _, _, b, rfl, .ty n, at_ty av p, e, q _ H2 s2 (.bl b)⟩
theorem kt_tup {n : String} (d : D) (p : d.pl = true) (h : ∀ l, d ≠ .tup l) : PySem.W.kitOne K (.type d.ty) (.type "tuple") = some false := by
  cases d with
  | non => rfl
  | bl b => rfl
  | int i => rfl
  | str s => rfl
  | ref a => cases p
  | tup l => exact absurd rfl (h l)
  | lst l => cases p
theorem ev_isiT {b : Bool} {n1 n2 : String} (p : d.pl = true) (e : PySem.W.kitAny K (.type d.ty) [.type n1, .type n2] = some b) (h : EvD te σ H d) : EvD (tCB (rIsiT K) (tCons te (tCons (tTup (tCons (tC (.ty n1)) (tCons (tC (.ty n2)) tNil))) tNil))) σ H (.bl b) := fun H1 s Q q =>
  h H1 s _ fun v H2 s2 av => ⟨le_lit (by kernel_rfl), fun x hx => ⟨v, x, [.ty n1, .ty n2], _, _, b, rfl, upd_same, .cons (.ty n1) (.cons (.ty n2) .nil), at_ty (av.mono (Same.new hx)) p, e, q _ _ (s2.trans (Same.new hx)) (.bl b)⟩⟩
theorem walk_zipT {x y : Addr} {xs ys : List V} (hn : xs.length = ys.length) : Walk (RZ.ItzT K x y) xs.length (fun H => SqT K H x xs ∧ SqT K H y ys) (YPair (fun i => xs[i]?) (fun i => ys[i]?)) := by
  refine ⟨fun i _ hi q => ?_, fun _ q => ⟨xs, ys, q.1, q.2, by omega⟩, fun i H v H' _ q y => ?_⟩
  · have h2 : i < ys.length := by omega
    exact ⟨xs, ys, xs[i], ys[i], q.1, q.2, by simp [hi], by simp [h2]⟩
  · obtain ⟨T, x, z, h1, h2, h3, h4, h5⟩ := y
    exact ⟨T, x, z, h1, h2, h3, h4 xs q.1, h5 ys q.2⟩
theorem en_lcZ {tz : TA} {tt : TT} (ds : List D) {j k : Nat} {vs : List Nat} (h : EvA tz σ H [.tup ds, .tup ds]) (hl : ds.length ≤ 1000000)
    (hw : ∀ x y, wipe (((wipe σ vs).set j (some x)).set k (some y)) vs = wipe σ vs)
    (hb : ∀ d ∈ ds, ∀ v w H1, Same H H1 → At H1 d v → At H1 d w → EvT tt (((wipe σ vs).set j (some v)).set k (some w)) H1 true ∧ EvD te (((wipe σ vs).set j (some v)).set k (some w)) H1 (.bl true)) :
    EvN (tLc (RZ.iZipA K tz) (gTup K 2 (gCons (gName j) (gCons (gName k) gNil))) tt te vs) σ H (ds.map fun _ => .bl true) := fun H0 s Q q => h H0 s _ fun as H1 s1 av => by
  cases av with
  | cons a1 av =>
    cases av with
    | cons a2 av =>
      cases av
      cases a1 with
      | @tup A xs _ hp hs =>
        cases a2 with
        | @tup B ys _ hp2 hs2 =>
          have l1 : xs.length = ds.length := hs.length.symm
          have l2 : ys.length = ds.length := hs2.length.symm
          refine ⟨_, _, xs, ys, rfl, .inr ⟨SqT.of hp, SqT.of hp2, fun L hL => lc_it (walk_zipT (K := K) (xs := xs) (ys := ys) (by omega)) (Lw H1 L (fun _ => true) (fun _ => D.bl true) ds) (lw_start hL) (fun i H' _ p => ⟨SqT.of (p.2.1 _ _ hp), SqT.of (p.2.1 _ _ hp2)⟩) (fun i v H' H2 hi p y => ?_) fun H' p => ?_⟩⟩
          · obtain ⟨T, x, z, rfl, hT, rfl, ex, ey⟩ := y
            obtain ⟨d, hd, ad⟩ := hs.getv ex
            obtain ⟨d', hd', ad'⟩ := hs2.getv ey
            have e : d' = d := by rw [hd] at hd'; cases hd'; rfl
            subst e
            have s3 : Same H' (upd H' T (.tup [x, z])) := Same.new hT
            have s23 := p.2.1.trans s3
            obtain ⟨b1, b2⟩ := hb d' (List.mem_of_getElem? hd) x z _ ((s.trans s1).trans s23) (ad.mono s23) (ad'.mono s23)
            have p' : Lw H1 L (fun _ => true) (fun _ => D.bl true) ds i (upd H' T (.tup [x, z])) := by
              obtain ⟨p1, p2, acc, p3, p4⟩ := p
              exact ⟨p1, p2.trans s3, acc, s3 _ _ p3, p4.mono s3⟩
            exact ⟨T, _, rfl, SqT.of upd_same, rfl, _, _, rfl, _, _, rfl, rfl, hw _ _, lw_turn hd hl (fun _ _ => rfl) p' b1 fun _ => b2⟩
          · obtain ⟨p1, p2, acc, p3, p4⟩ := p
            rw [List.take_of_length_le (by rw [l1]; exact Nat.le_refl _), List.filter_eq_self.mpr (by simp)] at p4
            exact q L acc H' (fresh_back s1 p1) (s1.trans p2) p3 p4
theorem D.pl_tup {l : List D} (h : D.pl (.tup l) = true) : l.length ≤ 1000000 ∧ pls l = true := by
  unfold D.pl at h
  obtain ⟨h1, h2⟩ := Bool.and_eq_true_iff.mp h
  exact ⟨of_decide_eq_true h1, h2⟩
theorem D.dep_tup {l : List D} {n : Nat} (h : D.dep (.tup l) < n + 1) : ∀ d ∈ l, d.dep < n := fun d hd => by
  unfold D.dep at h
  have z := deps_mem d hd
  omega
end
end Ho

set_option Elab.async false
set_option linter.all false
set_option maxRecDepth 100000
set_option maxHeartbeats 4000000
/-! C15: the house tells what the law's own walk tells. -/
namespace Ho
open PySem PySem.Spec PyProof.Rows L2
section
variable {P : Program} {w : World} {K : PySem.W.Frag} {mg : Str → Option Value} {base : Heap} {σ : L2.St} {H H' : Hp} {ta tb te tx td tl : TE} {a : HA} {b : SA} {S S' : Stt} {E : XK} {De : Ends} {tz : TS}
theorem pls_map {α : Type} (f : α → D) (h : ∀ x, (f x).pl = true) : ∀ l : List α, pls (l.map f) = true
  | [] => rfl
  | x :: l => by
    show ((f x).pl && pls (l.map f)) = true
    rw [h x, pls_map f h l]; rfl
theorem deps_map {α : Type} (f : α → D) (k : Nat) (h : ∀ x, (f x).dep ≤ k) : ∀ l : List α, deps (l.map f) ≤ k
  | [] => Nat.zero_le _
  | x :: l => by
    show max (f x).dep (deps (l.map f)) ≤ k
    exact Nat.max_le.mpr ⟨h x, deps_map f k h l⟩
theorem oi_pl (o : Option Int) : (oi o).pl = true := by cases o <;> rfl
theorem os_pl (o : Option Str) : (os o).pl = true := by cases o <;> rfl
theorem oi_dep (o : Option Int) : (oi o).dep = 0 := by cases o <;> rfl
theorem os_dep (o : Option Str) : (os o).dep = 0 := by cases o <;> rfl
theorem rowD_pl (n : Int) (r : Rw) : (rowD n r).pl = true := by simp [rowD, D.pl, pls, oi_pl, os_pl]
theorem rowD_dep (n : Int) (r : Rw) : (rowD n r).dep ≤ 1 := by simp [rowD, D.dep, deps, oi_dep, os_dep]
theorem shD_pl (c : Int × Int) : (shD S c).pl = true := by simp [shD, D.pl, pls]
theorem shD_dep (c : Int × Int) : (shD S c).dep ≤ 1 := by simp [shD, D.dep, deps]
theorem tup_pl {l : List D} (h1 : l.length ≤ 1000000) (h2 : pls l = true) : (D.tup l).pl = true := by
  unfold D.pl
  rw [h2, decide_eq_true h1]; rfl
theorem tup_dep {l : List D} {k : Nat} (h : deps l ≤ k) : (D.tup l).dep ≤ k + 1 := by
  unfold D.dep
  omega
theorem things_pl (wf : S.Wf) : (D.tup S.thingsL).pl = true ∧ (D.tup S.thingsL).dep ≤ 2 := by
  have ln := wf.few
  unfold Stt.thingsL
  refine ⟨tup_pl ?_ (pls_map _ (fun p => rowD_pl _ _) _), tup_dep (deps_map _ 1 (fun p => rowD_dep _ _) _)⟩
  rw [List.length_map]
  exact Nat.le_trans (List.length_filter_le _ _) (by omega)
theorem inner_pl (wf : S.Wf) (n : Int) : (D.tup (S.innerL n)).pl = true ∧ (D.tup (S.innerL n)).dep ≤ 2 := by
  have ln := wf.few
  unfold Stt.innerL
  refine ⟨tup_pl ?_ (pls_map _ (fun p => rowD_pl _ _) _), tup_dep (deps_map _ 1 (fun p => rowD_dep _ _) _)⟩
  rw [List.length_map]
  exact Nat.le_trans (List.length_filter_le _ _) (by omega)
theorem shelf_pl (wf : S.Wf) : (D.tup S.shelfL).pl = true ∧ (D.tup S.shelfL).dep ≤ 2 := by
  have ln := wf.cl
  refine ⟨tup_pl (l := S.casts.map (shD S)) ?_ (pls_map _ (fun p => shD_pl _) _), tup_dep (deps_map (shD S) 1 (fun p => shD_dep _) _)⟩
  rw [List.length_map]; omega
theorem ints_pl (l : List Int) (h : l.length ≤ 1000000) : (D.tup (l.map D.int)).pl = true ∧ (D.tup (l.map D.int)).dep ≤ 1 :=
  ⟨tup_pl (by rw [List.length_map]; exact h) (pls_map _ (fun _ => rfl) _), tup_dep (deps_map _ 0 (fun _ => Nat.le_refl _) _)⟩
theorem two_pl {d e : D} (h1 : d.pl = true) (h2 : e.pl = true) : (D.tup [d, e]).pl = true := tup_pl (le_lit (by kernel_rfl)) (by unfold pls pls pls; rw [h1, h2]; rfl)
theorem two_dep {d e : D} {k : Nat} (h1 : d.dep ≤ k) (h2 : e.dep ≤ k) : (D.tup [d, e]).dep ≤ k + 1 := tup_dep (by unfold deps deps deps; exact Nat.max_le.mpr ⟨h1, Nat.max_le.mpr ⟨h2, Nat.zero_le _⟩⟩)
theorem ev_rowT {n : Int} {r : Rw} {t1 t2 : TE} (h1 : EvD t1 σ H (.int n)) (h2 : EvD t2 σ H (row4 r)) : EvD (tOp (rCatT K) (tTup (tCons t1 tNil)) (tSl (rSlT K) t2 tNoPart (tPart (tC (.int 3))))) σ H (rowD n r) :=
  (ev_catT (ds := [.int n]) (es := [oi r.par, .str r.nm, os r.tx]) (ev_tup (ea_cons h1 ea_nil) le_lit) ((ev_slTo (k := 3) (by show 3 < 4; decide) h2).is rfl) (by intro z; cases z) le_lit).is rfl
theorem e_inner {n : Int} (h : HouseRd (cH K) H a S) (wf : S.Wf) (hn : n ∈ S.casts.map (·.1)) (ho : EvD ta σ H (.ref a.p)) (hx : EvD te σ H (.int n)) : EvD (tMethR (cH K) "inner" (sp_h_inner K) E ta (tCons te tNil)) σ H (.tup (S.innerL n)) :=
  ev_meth h.ins (by kernel_rfl) ho (ea_cons hx ea_nil) fun vs H1 s as Q q => by
    cases as with | cons a1 as => cases as; cases a1; exact ⟨a, S, n, rfl, h.mono s, wf, fun _ => q, fun z => absurd hn z⟩
theorem e_ties {n : Int} (h : HouseRd (cH K) H a S) (wf : S.Wf) (hn : S.there n = true) (ho : EvD ta σ H (.ref a.p)) (hx : EvD te σ H (.int n)) : EvD (tMethR (cH K) "ties" (sp_h_ties K) E ta (tCons te tNil)) σ H (.tup ((S.tiesL n).map D.int)) :=
  ev_meth h.ins (by kernel_rfl) ho (ea_cons hx ea_nil) fun vs H1 s as Q q => by
    cases as with | cons a1 as => cases as; cases a1; exact ⟨a, S, n, rfl, h.mono s, wf, fun _ => q, fun z => by rw [hn] at z; cases z⟩
theorem sortI_len (l : List Int) : (Stt.sortI l).length = l.length := (List.mergeSort_perm l _).length_eq
end
end Ho

set_option Elab.async false
set_option linter.all false
set_option maxRecDepth 100000
set_option maxHeartbeats 4000000
/-! M19: names are unlike within a parent; parents are boxes. -/
namespace Ho
open PySem PySem.Spec PyProof.Rows L2
structure Stt.Uq (S : Stt) : Prop where
  un : ∀ x y rx ry, S.get x = some rx → S.get y = some ry → x ≠ y → rx.mrk = ry.mrk → rx.par = ry.par → rx.nm = ry.nm → rx.mrk = some x ∨ ry.mrk = some y
  bx : ∀ x r p, S.get x = some r → r.par = some p → p ∈ S.keys → (S.rw p).tx = none
section
variable {S S' : Stt} {n : Int} {more : Int}
theorem uq_rows (h : S.Uq) (e : S'.rows = S.rows) : S'.Uq := by
  have g : ∀ x, S'.get x = S.get x := fun x => by unfold Stt.get; rw [e]
  have k : S'.keys = S.keys := by unfold Stt.keys; rw [e]
  refine ⟨fun x y rx ry h1 h2 => h.un x y rx ry (by rw [← g]; exact h1) (by rw [← g]; exact h2), fun x r p h1 h2 h3 => ?_⟩
  have z := h.bx x r p (by rw [← g]; exact h1) h2 (by rw [← k]; exact h3)
  unfold Stt.rw at z ⊢
  rw [g]; exact z
/-- two that are there, with one parent, one name: one -/
theorem Stt.Uq.one (h : S.Uq) {x y : Int} {rx ry : Rw} (h1 : S.get x = some rx) (h2 : S.get y = some ry) (m1 : rx.mrk = none) (m2 : ry.mrk = none) (p : rx.par = ry.par) (q : rx.nm = ry.nm) : x = y :=
  Classical.byContradiction fun ne => by
    rcases h.un x y rx ry h1 h2 ne (m1.trans m2.symm) p q with z | z
    · rw [m1] at z; cases z
    · rw [m2] at z; cases z
/-- a row that is there is changed: its name is free in its parent, its parent is a box, it has a text as before -/
theorem Stt.Uq.set (h : S.Uq) {r : Rw} (nd : S.keys.Nodup) (hn : S.there n = true) (hm : r.mrk = none) (fr : r.nm ∉ S.names r.par (some n)) (ht : r.tx.isNone = (S.rw n).tx.isNone) (hb : ∀ p, r.par = some p → p ∈ S.keys → (S.rw p).tx = none) : (S.setRow n r).Uq := by
  have hk := there_key hn
  have frx : ∀ y ry, S.get y = some ry → y ≠ n → ry.mrk = none → ry.par = r.par → ry.nm = r.nm → False := fun y ry e ne m p q => fr ((mem_names nd).mpr ⟨y, ry, e, m, fun z => ne (Option.some.inj z), p, q⟩)
  have txr : ∀ p, ((S.setRow n r).rw p).tx.isNone = (S.rw p).tx.isNone := fun p => by
    unfold Stt.rw
    rw [get_set]
    by_cases c : p = n
    · rw [if_pos c, c]; exact ht
    · rw [if_neg c]
  refine ⟨fun x y rx ry h1 h2 ne em ep en => ?_, fun x q p h1 h2 h3 => ?_⟩
  · rw [get_set] at h1 h2
    by_cases cx : x = n
    · rw [if_pos cx] at h1; cases h1
      have cy : y ≠ n := fun z => ne (cx.trans z.symm)
      rw [if_neg cy] at h2
      exact (frx y ry h2 cy (em.symm.trans hm) ep.symm en.symm).elim
    · rw [if_neg cx] at h1
      by_cases cy : y = n
      · rw [if_pos cy] at h2; cases h2
        exact (frx x rx h1 cx (em.trans hm) ep en).elim
      · rw [if_neg cy] at h2
        exact h.un x y rx ry h1 h2 ne em ep en
  · rw [setRow_keys hk] at h3
    rw [← Option.isNone_iff_eq_none, txr, Option.isNone_iff_eq_none]
    rw [get_set] at h1
    by_cases c : x = n
    · rw [if_pos c] at h1; cases h1; exact hb p h2 h3
    · rw [if_neg c] at h1; exact h.bx x q p h1 h2 h3
theorem noBox_tx {p : Int} (h : S.noBox (some p) = false) : (S.rw p).tx = none := by
  unfold Stt.noBox at h
  rw [Bool.or_eq_false_iff] at h
  unfold Stt.rw
  cases e : S.get p with
  | none => rfl
  | some r =>
    have z := h.2
    rw [e] at z
    cases q : r.tx with
    | none => exact q
    | some t =>
      have w : r.tx.isSome = false := z
      rw [q] at w; cases w
theorem Stt.Uq.addRow (h : S.Uq) (wf : S.Wf) (i : S.Inv) {r : Rw} (hm : r.mrk = none) (fr : r.nm ∉ S.names r.par none) (hb : S.noBox r.par = false) : (S.addRow r).Uq := by
  have nk := new_key i
  have gt := addRow_get (r := r) nk
  have frx : ∀ y ry, S.get y = some ry → ry.mrk = none → ry.par = r.par → ry.nm = r.nm → False := fun y ry e m p q => fr ((mem_names wf.nd).mpr ⟨y, ry, e, m, (fun z => nomatch z), p, q⟩)
  refine ⟨fun x y rx ry h1 h2 ne em ep en => ?_, fun x q p h1 h2 h3 => ?_⟩
  · rw [gt] at h1 h2
    by_cases cx : x = S.count + 1
    · rw [if_pos cx] at h1; cases h1
      rw [if_neg fun z => ne (cx.trans z.symm)] at h2
      exact (frx y ry h2 (em.symm.trans hm) ep.symm en.symm).elim
    · rw [if_neg cx] at h1
      by_cases cy : y = S.count + 1
      · rw [if_pos cy] at h2; cases h2
        exact (frx x rx h1 (em.trans hm) ep en).elim
      · rw [if_neg cy] at h2
        exact h.un x y rx ry h1 h2 ne em ep en
  · have old : p ∈ S.keys → ((S.addRow r).rw p) = S.rw p := fun k => by
      have ne : p ≠ S.count + 1 := fun z => nk (z ▸ k)
      unfold Stt.rw
      rw [gt, if_neg ne]
    rw [gt] at h1
    by_cases c : x = S.count + 1
    · rw [if_pos c] at h1; cases h1
      rw [h2] at hb
      rw [old (there_key (noBox_there hb))]
      exact noBox_tx hb
    · rw [if_neg c] at h1
      have pk : p ∈ S.keys := by
        rw [addRow_keys, List.mem_append] at h3
        rcases h3 with z | z
        · exact z
        · have := i.pb x q p h1 h2
          have e : p = S.count + 1 := by simpa using z
          omega
      rw [old pk]
      exact h.bx x q p h1 h2 pk
theorem Stt.Uq.lose (h : S.Uq) (wf : S.Wf) (n : Int) : (S.lose n).Uq := by
  have gt := fun {x r} (e : (S.lose n).get x = some r) => lose_old wf.nd e
  refine ⟨fun x y rx ry h1 h2 => h.un x y rx ry (gt h1) (gt h2), fun x r p h1 h2 h3 => ?_⟩
  obtain ⟨k1, k2⟩ := (lose_keys wf.nd).mp h3
  have z := h.bx x r p (gt h1) h2 k1
  unfold Stt.rw at z ⊢
  rw [lose_get wf.nd, if_neg k2]; exact z
theorem Stt.Uq.castOff (h : S.Uq) (i : S.Inv) (hn : S.there n = true) : (S.castOff n).Uq := by
  have gt := castOff_get (S := S) (n := n)
  have row : ∀ {x q}, (S.castOff n).get x = some q → ∃ r, S.get x = some r ∧ q.par = r.par ∧ q.nm = r.nm ∧ q.tx = r.tx ∧ q.mrk = if x ∈ S.within n then some n else r.mrk := fun {x q} e => by
    rw [gt] at e
    obtain ⟨r, hr, e⟩ := Option.map_eq_some_iff.mp e
    refine ⟨r, hr, ?_⟩
    by_cases c : x ∈ S.within n
    · rw [if_pos c] at e ⊢; subst e; exact ⟨rfl, rfl, rfl, rfl⟩
    · rw [if_neg c] at e ⊢; subst e; exact ⟨rfl, rfl, rfl, rfl⟩
  have mk0 : ∀ {x r}, S.get x = some r → r.mrk ≠ some n := fun {x r} e z => no_mark i hn x (by rw [mark_get e]; exact z)
  have th : ∀ {x r}, S.get x = some r → x ∈ S.within n → r.mrk = none := fun {x r} e z => by
    have w := there_mark' (mem_within.mp z).there
    rwa [mark_get e] at w
  refine ⟨fun x y rx ry h1 h2 ne em ep en => ?_, fun x q p h1 h2 h3 => ?_⟩
  · obtain ⟨r, g1, a1, a2, a3, a4⟩ := row h1
    obtain ⟨r', g2, b1, b2, b3, b4⟩ := row h2
    have ep' : r.par = r'.par := by rw [← a1, ← b1]; exact ep
    have en' : r.nm = r'.nm := by rw [← a2, ← b2]; exact en
    by_cases cx : x ∈ S.within n
    · rw [if_pos cx] at a4
      by_cases cy : y ∈ S.within n
      · exact absurd (h.one g1 g2 (th g1 cx) (th g2 cy) ep' en') ne
      · rw [if_neg cy] at b4
        exact absurd (b4.symm.trans (em.symm.trans a4)) (mk0 g2)
    · rw [if_neg cx] at a4
      by_cases cy : y ∈ S.within n
      · rw [if_pos cy] at b4
        exact absurd (a4.symm.trans (em.trans b4)) (mk0 g1)
      · rw [if_neg cy] at b4
        rw [a4, b4]
        exact h.un x y r r' g1 g2 ne (by rw [← a4, ← b4]; exact em) ep' en'
  · obtain ⟨r, g1, a1, _, _, _⟩ := row h1
    rw [castOff_keys] at h3
    have z := h.bx x r p g1 (by rw [← a1]; exact h2) h3
    obtain ⟨rp, hrp⟩ := get_key h3
    rw [rw_get hrp] at z
    have e2 : (S.castOff n).get p = some (if p ∈ S.within n then { rp with mrk := some n } else rp) := by rw [gt, hrp]; rfl
    rw [rw_get e2]
    by_cases c : p ∈ S.within n
    · rw [if_pos c]; exact z
    · rw [if_neg c]; exact z
theorem newPar_there {p : Int} (e : S.newPar n = some p) : (S.rw n).par = some p ∧ S.there p = true := by
  unfold Stt.newPar at e
  by_cases d : S.thereO (S.rw n).par = true
  · rw [if_pos d] at e
    rw [e] at d
    exact ⟨e, d⟩
  · rw [if_neg d] at e; cases e
theorem on_shelf (i : S.Inv) (hn : n ∈ S.casts.map (·.1)) : n ∈ S.keys ∧ S.mark n = some n := by
  obtain ⟨c, hc, hcn⟩ := List.mem_map.mp hn
  exact ⟨by rw [← hcn]; exact cast_key i hc, by rw [← hcn]; exact i.cm c hc⟩
theorem Stt.Uq.bringBack (h : S.Uq) (wf : S.Wf) (i : S.Inv) (hn : n ∈ S.casts.map (·.1)) : (S.bringBack n).Uq := by
  obtain ⟨hk, hm⟩ := on_shelf i hn
  have gt := back_get wf hm hk
  have row : ∀ {x q}, (S.bringBack n).get x = some q → x ≠ n → ∃ r, S.get x = some r ∧ q.par = r.par ∧ q.nm = r.nm ∧ q.tx = r.tx ∧ q.mrk = if r.mrk = some n then none else r.mrk := fun {x q} e ne => by
    rw [gt, if_neg ne] at e
    obtain ⟨r, hr, e⟩ := Option.map_eq_some_iff.mp e
    refine ⟨r, hr, ?_⟩
    by_cases c : r.mrk = some n
    · rw [if_pos c] at e ⊢; subst e; exact ⟨rfl, rfl, rfl, rfl⟩
    · rw [if_neg c] at e ⊢; subst e; exact ⟨rfl, rfl, rfl, rfl⟩
  have tx : ∀ p, p ∈ S.keys → ((S.bringBack n).rw p).tx = (S.rw p).tx := fun p hp => by
    obtain ⟨rp, hrp⟩ := get_key hp
    unfold Stt.rw
    rw [gt, hrp]
    by_cases c : p = n
    · rw [if_pos c]
      show ((S.get n).getD r0).tx = _
      rw [← c, hrp]
    · rw [if_neg c]
      show (if rp.mrk = some n then ({ rp with mrk := none } : Rw) else rp).tx = rp.tx
      by_cases d : rp.mrk = some n
      · rw [if_pos d]
      · rw [if_neg d]
  have ny : S.newNm n ∉ S.names (S.newPar n) none := freeNm_not _ _ (names_lenM wf _ _)
  -- nothing else there has the new one's name
  have clash : ∀ y q, (S.bringBack n).get y = some q → y ≠ n → q.mrk = none → q.par = S.newPar n → q.nm = S.newNm n → False := fun y q e ne m p nm => by
    obtain ⟨r, hr, a1, a2, a3, a4⟩ := row e ne
    by_cases d : r.mrk = some n
    · obtain ⟨pp, p1, p2⟩ := i.pm y r n hr d ne
      have e2 : S.newPar n = some pp := by rw [← p, a1]; exact p1
      have t := (newPar_there e2).2
      rw [there_mark' t] at p2; cases p2
    · rw [if_neg d] at a4
      exact ny ((mem_names wf.nd).mpr ⟨y, r, hr, by rw [← a4]; exact m, (fun z => nomatch z), by rw [← a1]; exact p, by rw [← a2]; exact nm⟩)
  refine ⟨fun x y rx ry h1 h2 ne em ep en => ?_, fun x q p h1 h2 h3 => ?_⟩
  · by_cases cx : x = n
    · rw [gt, if_pos cx] at h1; cases h1
      exact (clash y ry h2 (fun z => ne (cx.trans z.symm)) em.symm ep.symm en.symm).elim
    · by_cases cy : y = n
      · rw [gt, if_pos cy] at h2; cases h2
        exact (clash x rx h1 cx em ep en).elim
      · obtain ⟨r, g1, a1, a2, a3, a4⟩ := row h1 cx
        obtain ⟨r', g2, b1, b2, b3, b4⟩ := row h2 cy
        have ep' : r.par = r'.par := by rw [← a1, ← b1]; exact ep
        have en' : r.nm = r'.nm := by rw [← a2, ← b2]; exact en
        by_cases d1 : r.mrk = some n
        · by_cases d2 : r'.mrk = some n
          · rcases h.un x y r r' g1 g2 ne (d1.trans d2.symm) ep' en' with z | z
            · rw [d1] at z; exact absurd (Option.some.inj z).symm cx
            · rw [d2] at z; exact absurd (Option.some.inj z).symm cy
          · rw [if_pos d1] at a4
            rw [if_neg d2] at b4
            have m2 : r'.mrk = none := by rw [← b4, ← em, a4]
            obtain ⟨pp, p1, p2⟩ := i.pm x r n g1 d1 cx
            have t := i.pt y r' pp g2 m2 (by rw [← ep']; exact p1)
            rw [there_mark' t] at p2; cases p2
        · by_cases d2 : r'.mrk = some n
          · rw [if_neg d1] at a4
            rw [if_pos d2] at b4
            have m1 : r.mrk = none := by rw [← a4, em, b4]
            obtain ⟨pp, p1, p2⟩ := i.pm y r' n g2 d2 cy
            have t := i.pt x r pp g1 m1 (by rw [ep']; exact p1)
            rw [there_mark' t] at p2; cases p2
          · rw [if_neg d1] at a4
            rw [if_neg d2] at b4
            rw [a4, b4]
            exact h.un x y r r' g1 g2 ne (by rw [← a4, ← b4]; exact em) ep' en'
  · rw [back_keys wf hm hk] at h3
    rw [tx p h3]
    by_cases cx : x = n
    · rw [gt, if_pos cx] at h1; cases h1
      exact h.bx n _ p (get_rw hk) (newPar_there h2).1 h3
    · obtain ⟨r, g1, a1, _, _, _⟩ := row h1 cx
      exact h.bx x r p g1 (by rw [← a1]; exact h2) h3
theorem Stt.Uq.copyTo (h : S.Uq) (wf : S.Wf) (i : S.Inv) {par : Option Int} (hn : S.there n = true) (hb : S.noBox par = false) : (S.copyTo (S.within n) n par (freeNm (S.rw n).nm (S.names par none))).Uq := by
  have nd := within_nd wf n
  generalize hnm : freeNm (S.rw n).nm (S.names par none) = nm
  have ny : nm ∉ S.names par none := hnm ▸ freeNm_not _ _ (names_lenM wf _ _)
  generalize hl : S.within n = l at nd ⊢
  have nl : n ∈ l := hl ▸ mem_within.mpr (.self hn)
  have upl : ∀ x ∈ l, x ≠ n → ∃ p ∈ l, (S.rw x).par = some p := fun x hx ne => by
    rw [← hl] at hx
    obtain ⟨p, e1, e2⟩ := (mem_within.mp hx).up ne
    exact ⟨p, by rw [← hl]; exact mem_within.mpr e2, e1⟩
  have tl : ∀ x ∈ l, S.there x = true := fun x hx => by rw [← hl] at hx; exact (mem_within.mp hx).there
  have row := fun {x r} (e : (S.copyTo l n par nm).get x = some r) => copyTo_row (n := n) (par := par) (nm := nm) wf i nd e
  have rt : S.copyRow l n par nm n = ⟨par, nm, (S.rw n).tx, none⟩ := by unfold Stt.copyRow; rw [if_pos rfl]
  have rn : ∀ x, x ≠ n → S.copyRow l n par nm x = ⟨(S.rw x).par.map (S.num l), (S.rw x).nm, (S.rw x).tx, none⟩ := fun x ne => by unfold Stt.copyRow; rw [if_neg ne]
  have rm : ∀ x, (S.copyRow l n par nm x).mrk = none ∧ (S.copyRow l n par nm x).tx = (S.rw x).tx := fun x => by
    by_cases c : x = n
    · rw [c, rt]; exact ⟨rfl, rfl⟩
    · rw [rn x c]; exact ⟨rfl, rfl⟩
  have pold : ∀ p, par = some p → p ≤ S.count := fun p e => (i.kr p (there_key (by rw [e] at hb; exact noBox_there hb))).2
  -- an old one against a new one
  have mix : ∀ y ry x, S.get y = some ry → x ∈ l → ry.mrk = none → ry.par = (S.copyRow l n par nm x).par → ry.nm = (S.copyRow l n par nm x).nm → False := fun y ry x e hx m ep en => by
    by_cases c : x = n
    · rw [c, rt] at ep en
      exact ny ((mem_names wf.nd).mpr ⟨y, ry, e, m, (fun z => nomatch z), ep, en⟩)
    · obtain ⟨p, hp, e2⟩ := upl x hx c
      rw [rn x c, e2] at ep
      have := i.pb y ry _ e ep
      have := (num_rng (S := S) hp).1
      omega
  refine ⟨fun x y rx ry h1 h2 ne em ep en => ?_, fun x q p h1 h2 h3 => ?_⟩
  · rcases row h1 with ⟨l1, g1⟩ | ⟨u, hu, rfl, rfl⟩
    · rcases row h2 with ⟨l2, g2⟩ | ⟨v, hv, rfl, rfl⟩
      · exact h.un x y rx ry g1 g2 ne em ep en
      · exact (mix x rx v g1 hv (em.trans (rm v).1) ep en).elim
    · rcases row h2 with ⟨l2, g2⟩ | ⟨v, hv, rfl, rfl⟩
      · exact (mix y ry u g2 hu (em.symm.trans (rm u).1) ep.symm en.symm).elim
      · exfalso
        have nuv : u ≠ v := fun z => ne (by rw [z])
        by_cases cu : u = n
        · have cv : v ≠ n := fun z => nuv (cu.trans z.symm)
          obtain ⟨p, hp, e2⟩ := upl v hv cv
          rw [cu, rt, rn v cv, e2] at ep
          have := pold _ ep
          have := (num_rng (S := S) hp).1
          omega
        · obtain ⟨p, hp, e1⟩ := upl u hu cu
          by_cases cv : v = n
          · rw [cv, rt, rn u cu, e1] at ep
            have := pold _ ep.symm
            have := (num_rng (S := S) hp).1
            omega
          · obtain ⟨p', hp', e2⟩ := upl v hv cv
            rw [rn u cu, rn v cv, e1, e2] at ep
            rw [rn u cu, rn v cv] at en
            have epp : p = p' := numb_inj nd hp hp' (Option.some.inj ep)
            have mu := there_mark' (tl u hu)
            have mv := there_mark' (tl v hv)
            have gu := get_rw (there_key (tl u hu))
            have gv := get_rw (there_key (tl v hv))
            exact nuv (h.one gu gv (by rw [mark_get gu] at mu; exact mu) (by rw [mark_get gv] at mv; exact mv) (by rw [e1, e2, epp]) en)
  · have pin : p ∈ S.keys ∨ ∃ v ∈ l, p = S.num l v := by
      rw [copyTo_keys, List.mem_append] at h3
      rcases h3 with z | z
      · exact .inl z
      · obtain ⟨v, hv, e⟩ := List.mem_map.mp z
        exact .inr ⟨v, hv, e.symm⟩
    have old : p ∈ S.keys → (S.copyTo l n par nm).rw p = S.rw p := fun k => by
      unfold Stt.rw
      rw [copyTo_old wf i nd (i.kr p k).2]
    have lt : ∀ v, p = S.num l v → v ∈ l → S.count < p := fun v e hv => by
      have := (num_rng (S := S) hv).1
      omega
    rcases row h1 with ⟨l1, g1⟩ | ⟨u, hu, rfl, rfl⟩
    · rcases pin with k | ⟨v, hv, e⟩
      · rw [old k]; exact h.bx x q p g1 h2 k
      · have := lt v e hv
        have := i.pb x q p g1 h2
        omega
    · by_cases cu : u = n
      · rw [cu, rt] at h2
        have h2 : par = some p := h2
        rw [h2] at hb
        rw [old (there_key (noBox_there hb))]
        exact noBox_tx hb
      · obtain ⟨p', hp', e2⟩ := upl u hu cu
        rw [rn u cu, e2] at h2
        have h2 : p = S.num l p' := (Option.some.inj h2).symm
        rw [h2, rw_get (copyTo_new wf i nd hp'), (rm p').2]
        exact h.bx u _ p' (get_rw (there_key (tl u hu))) e2 (there_key (tl p' hp'))
theorem uq_keeps : Stt.Keeps Stt.Uq where
  add := fun S wf i h par nm b hb fr _ => h.addRow wf i (r := ⟨par, nm, _, none⟩) rfl fr hb
  ren := fun S wf i h n nm hn fr _ => by
    have hk := there_key hn
    have hm := there_mark' hn
    rw [rw_mark' hk] at hm
    exact h.set (r := { S.rw n with nm := nm }) wf.nd hn hm fr rfl fun p e k => h.bx n _ p (get_rw hk) e k
  mov := fun S wf i h n par hn hb fr => by
    have hk := there_key hn
    have hm := there_mark' hn
    rw [rw_mark' hk] at hm
    exact h.set (r := { S.rw n with par := par }) wf.nd hn hm fr rfl fun p e k => noBox_tx (by rw [← show par = some p from e]; exact hb)
  wri := fun S wf i h n t o hn ht _ _ => by
    have hk := there_key hn
    have hm := there_mark' hn
    rw [rw_mark' hk] at hm
    refine h.set (r := { S.rw n with tx := some t }) wf.nd hn hm (fun z => ?_) (by rw [ht]; rfl) fun p e k => h.bx n _ p (get_rw hk) e k
    obtain ⟨y, ry, g, m, ne, p, q⟩ := (mem_names wf.nd).mp z
    exact ne (by rw [h.one g (get_rw hk) m hm p q])
  tie := fun S wf i h ts => uq_rows h rfl
  los := fun S wf i h n => h.lose wf n
  cas := fun S wf i h n hn => h.castOff i hn
  bak := fun S wf i h n hn => h.bringBack wf i hn
  cop := fun S wf i h n par hn hb _ => h.copyTo wf i hn hb
  day := fun S wf i h => uq_rows h rfl
end
end Ho

set_option Elab.async false
set_option linter.all false
set_option maxRecDepth 100000
set_option maxHeartbeats 4000000
/-! M20: signs are never more than there is room; what signs names and texts have. -/
namespace Ho
open PySem PySem.Spec PyProof.Rows L2
section
variable {S S' : Stt} {n : Int} {more : Int}
theorem txLen_nn (r : Rw) : 0 ≤ Stt.txLen r := by
  unfold Stt.txLen
  cases r.tx with
  | none => exact Int.le_refl 0
  | some t => exact Int.natCast_nonneg _
theorem sum_nn {α : Type} (g : α → Int) (h : ∀ x, 0 ≤ g x) : ∀ l : List α, 0 ≤ (l.map g).sum
  | [] => Int.le_refl 0
  | x :: l => by
    rw [List.map_cons, List.sum_cons]
    have := h x
    have := sum_nn g h l
    omega
theorem sum_set (r : Rw) : ∀ (l : List (Int × Rw)), (l.map (·.1)).Nodup → ∀ o, l.lookup n = some o → ((l.map fun p => if p.1 = n then (p.1, r) else p).map fun p => Stt.txLen p.2).sum = (l.map fun p => Stt.txLen p.2).sum - Stt.txLen o + Stt.txLen r
  | [], _, o, h => by cases h
  | p :: l, nd, o, h => by
    rw [List.map_cons, List.nodup_cons] at nd
    rw [List.lookup_cons] at h
    rw [List.map_cons, List.map_cons, List.map_cons, List.sum_cons, List.sum_cons]
    cases q : (n == p.1) with
    | true =>
      rw [q] at h
      have e := eq_of_beq q
      have eo : p.2 = o := Option.some.inj h
      rw [if_pos e.symm]
      have same : (l.map fun p => if p.1 = n then (p.1, r) else p) = l := by
        have z : ∀ p' ∈ l, (if p'.1 = n then (p'.1, r) else p') = p' := fun p' hp' => by
          rw [if_neg]
          intro w
          exact nd.1 (List.mem_map.mpr ⟨p', hp', w.trans e⟩)
        exact (List.map_congr_left z).trans (List.map_id _)
      rw [same, eo]
      show Stt.txLen r + _ = Stt.txLen o + _ - _ + _
      omega
    | false =>
      rw [q] at h
      have e : ¬ n = p.1 := beq_eq_false_iff_ne.mp q
      rw [if_neg fun z => e z.symm, sum_set r l nd.2 o h]
      omega
theorem used_set (nd : S.keys.Nodup) {r : Rw} (hk : n ∈ S.keys) : (S.setRow n r).used = S.used - Stt.txLen (S.rw n) + Stt.txLen r := by
  unfold Stt.used
  rw [setRow_rows hk]
  exact sum_set r S.rows nd _ (get_rw hk)
theorem used_filter (f : Int × Rw → Bool) : ((S.rows.filter f).map fun p => Stt.txLen p.2).sum ≤ S.used := by
  unfold Stt.used
  rw [sum_part f (fun p => Stt.txLen p.2) S.rows]
  have := sum_nn (fun p : Int × Rw => Stt.txLen p.2) (fun p => txLen_nn p.2) (S.rows.filter fun x => !f x)
  omega
theorem used_lose : (S.lose n).used ≤ S.used := used_filter _
theorem used_mapped {f : Int × Rw → Int × Rw} (h : ∀ p, (f p).2.tx = p.2.tx) (l : List (Int × Rw)) : ((l.map f).map fun p => Stt.txLen p.2).sum = (l.map fun p => Stt.txLen p.2).sum := by
  rw [List.map_map]
  refine congrArg List.sum (List.map_congr_left fun p _ => ?_)
  show Stt.txLen (f p).2 = Stt.txLen p.2
  unfold Stt.txLen
  rw [h]
theorem used_cast : (S.castOff n).used = S.used := by
  classical
  show ((S.rows.map fun p => if p.1 ∈ S.within n then (p.1, { p.2 with mrk := some n }) else p).map _).sum = _
  refine used_mapped (fun p => ?_) S.rows
  by_cases c : p.1 ∈ S.within n
  · rw [if_pos c]
  · rw [if_neg c]
theorem used_back (wf : S.Wf) (hk : n ∈ S.keys) : (S.bringBack n).used = S.used := by
  have e : (S.bringBack n).used = (S.setRow n { S.rw n with par := S.newPar n, nm := S.newNm n }).used := by
    refine used_mapped (fun p => ?_) _
    by_cases c : p.2.mrk = some n
    · rw [if_pos c]
    · rw [if_neg c]
  rw [e, used_set wf.nd hk]
  show _ - Stt.txLen (S.rw n) + Stt.txLen (S.rw n) = _
  omega
theorem used_copy {l : List Int} {par : Option Int} {nm : Str} : (S.copyTo l n par nm).used = S.used + S.signs l := by
  show ((S.rows ++ l.map fun x => (S.num l x, S.copyRow l n par nm x)).map _).sum = _
  rw [List.map_append, List.sum_append, List.map_map]
  show S.used + _ = S.used + (l.map fun x => Stt.txLen (S.rw x)).sum
  refine congrArg (S.used + List.sum ·) (List.map_congr_left fun x _ => ?_)
  show Stt.txLen (S.copyRow l n par nm x) = Stt.txLen (S.rw x)
  unfold Stt.copyRow
  by_cases c : x = n
  · rw [if_pos c]; rfl
  · rw [if_neg c]; rfl
theorem used_add {r : Rw} : (S.addRow r).used = S.used + Stt.txLen r := by
  show ((S.rows ++ [(S.count + 1, r)]).map _).sum = _
  rw [List.map_append, List.sum_append]
  show S.used + (Stt.txLen r + 0) = _
  omega
def Stt.Roomy (S : Stt) : Prop := S.used ≤ S.room
theorem roomy_keeps : Stt.Keeps Stt.Roomy where
  add := fun S wf i h par nm b hb fr _ => by
    show (S.addRow _).used ≤ S.room
    rw [used_add]
    have h : S.used ≤ S.room := h
    cases b with
    | true => show S.used + 0 ≤ _; omega
    | false => show S.used + 0 ≤ _; omega
  ren := fun S wf i h n nm hn fr _ => by
    show (S.setRow n _).used ≤ S.room
    have h : S.used ≤ S.room := h
    rw [used_set wf.nd (there_key hn)]
    show _ - Stt.txLen (S.rw n) + Stt.txLen (S.rw n) ≤ _
    omega
  mov := fun S wf i h n par hn hb fr => by
    show (S.setRow n _).used ≤ S.room
    have h : S.used ≤ S.room := h
    rw [used_set wf.nd (there_key hn)]
    show _ - Stt.txLen (S.rw n) + Stt.txLen (S.rw n) ≤ _
    omega
  wri := fun S wf i h n t o hn ht _ hr => by
    show (S.setRow n _).used ≤ S.room
    rw [used_set wf.nd (there_key hn)]
    show S.used - Stt.txLen (S.rw n) + (t.length : Int) ≤ _
    have e : Stt.txLen (S.rw n) = (o.length : Int) := by unfold Stt.txLen; rw [ht]
    omega
  tie := fun S wf i h ts => h
  los := fun S wf i h n => Int.le_trans used_lose h
  cas := fun S wf i h n hn => by
    show (S.castOff n).used ≤ S.room
    rw [used_cast]; exact h
  bak := fun S wf i h n hn => by
    show (S.bringBack n).used ≤ S.room
    rw [used_back wf (on_shelf i hn).1]; exact h
  cop := fun S wf i h n par hn hb hr => by
    show (S.copyTo _ n par _).used ≤ S.room
    rw [used_copy]; exact hr
  day := fun S wf i h => h
/-! ### signs -/
theorem okN_lt {s : Str} (h : ltN s) : okN s := fun c hc => .inl (h c hc)
theorem okN_app {s t : Str} (h : okN s) (k : okN t) : okN (s ++ t) := fun c hc => by
  have e : (s ++ t).cps.toList = s.cps.toList ++ t.cps.toList := by
    show (s.cps ++ t.cps).toList = _
    exact Array.toList_append
  rw [e] at hc
  rcases List.mem_append.mp hc with z | z
  · exact h c z
  · exact k c z
theorem okN_num (k : Nat) : okN (Str.ofString (toString ((k : Nat) : Int))) := fun c hc => by
  have e : (Str.ofString (toString ((k : Nat) : Int))).cps.toList = TL.numL k := TL.tl_num k
  rw [e] at hc
  exact .inr (TL.numL_digits k c hc)
theorem okN_free {s : Str} (h : okN s) (tk : List Str) : okN (freeNm s tk) := by
  unfold freeNm
  by_cases c : s ∈ tk
  · rw [if_pos c]; exact okN_app h (okN_num _)
  · rw [if_neg c]; exact h
structure Stt.Sg (S : Stt) : Prop where
  nc : ∀ p ∈ S.rows, okN p.2.nm
  tc : ∀ p ∈ S.rows, ∀ t, p.2.tx = some t → txN t
theorem Stt.Sg.rw (h : S.Sg) (hk : n ∈ S.keys) : okN (S.rw n).nm ∧ ∀ t, (S.rw n).tx = some t → txN t := ⟨h.nc _ (row_get (get_rw hk)), h.tc _ (row_get (get_rw hk))⟩
theorem Stt.Sg.sub (h : S.Sg) (e : ∀ p ∈ S'.rows, (p ∈ S.rows) ∨ (∃ q ∈ S.rows, p.2.nm = q.2.nm ∧ p.2.tx = q.2.tx) ∨ (okN p.2.nm ∧ ∀ t, p.2.tx = some t → txN t)) : S'.Sg := by
  refine ⟨fun p hp => ?_, fun p hp t ht => ?_⟩
  · rcases e p hp with z | ⟨q, hq, e1, e2⟩ | z
    · exact h.nc p z
    · rw [e1]; exact h.nc q hq
    · exact z.1
  · rcases e p hp with z | ⟨q, hq, e1, e2⟩ | z
    · exact h.tc p z t ht
    · exact h.tc q hq t (by rw [← e2]; exact ht)
    · exact z.2 t ht
theorem txN_empty : txN "" := fun c hc => by
  have e : ("" : Str).cps.toList = [] := by decide
  rw [e] at hc; cases hc
theorem Stt.Sg.set (h : S.Sg) (hk : n ∈ S.keys) {r : Rw} (h1 : okN r.nm) (h2 : ∀ t, r.tx = some t → txN t) : (S.setRow n r).Sg := h.sub fun p hp => by
  rcases set_row hk hp with z | z
  · exact .inl z
  · exact .inr (.inr (by rw [z]; exact ⟨h1, h2⟩))
theorem sg_keeps : Stt.Keeps Stt.Sg where
  add := fun S wf i h par nm b hb fr g => h.sub fun p hp => by
    rcases List.mem_append.mp (show p ∈ S.rows ++ [_] from hp) with z | z
    · exact .inl z
    · rw [List.mem_singleton.mp z]
      refine .inr (.inr ⟨okN_lt g.1, fun t ht => ?_⟩)
      have ht : (if b = true then none else some ("" : Str)) = some t := ht
      cases b with
      | true => cases ht
      | false => rw [← Option.some.inj ht]; exact txN_empty
  ren := fun S wf i h n nm hn fr g => h.set (there_key hn) (okN_lt g.1) (h.rw (there_key hn)).2
  mov := fun S wf i h n par hn hb fr => h.set (there_key hn) (h.rw (there_key hn)).1 (h.rw (there_key hn)).2
  wri := fun S wf i h n t o hn ht g _ => h.set (there_key hn) (h.rw (there_key hn)).1 (fun x e => by
    have e : some t = some x := e
    cases e; exact g)
  tie := fun S wf i h ts => ⟨h.nc, h.tc⟩
  los := fun S wf i h n => h.sub fun p hp => .inl (List.mem_filter.mp hp).1
  cas := fun S wf i h n hn => h.sub fun p hp => by
    obtain ⟨q, hq, e⟩ := List.mem_map.mp (show p ∈ (S.remark (S.within n) (some n)).rows from hp)
    refine .inr (.inl ⟨q, hq, ?_⟩)
    by_cases d : q.1 ∈ S.within n
    · rw [if_pos d] at e; subst e; exact ⟨rfl, rfl⟩
    · rw [if_neg d] at e; subst e; exact ⟨rfl, rfl⟩
  bak := fun S wf i h n hn => by
    obtain ⟨hk, hm⟩ := on_shelf i hn
    rw [← back_is wf hm hk]
    have hw : (S.wake n).Sg := h.sub fun p hp => by
      obtain ⟨q, hq, e⟩ := List.mem_map.mp (show p ∈ S.rows.map _ from hp)
      refine .inr (.inl ⟨q, hq, ?_⟩)
      by_cases d : q.2.mrk = some n
      · rw [if_pos d] at e; subst e; exact ⟨rfl, rfl⟩
      · rw [if_neg d] at e; subst e; exact ⟨rfl, rfl⟩
    exact hw.set (by rw [wake_keys]; exact hk) (okN_free (h.rw hk).1 _) (h.rw hk).2
  cop := fun S wf i h n par hn hb hr => h.sub fun p hp => by
    rcases List.mem_append.mp (show p ∈ S.rows ++ (S.within n).map _ from hp) with z | z
    · exact .inl z
    · obtain ⟨x, hx, rfl⟩ := List.mem_map.mp z
      have tx : S.there x = true := (mem_within.mp hx).there
      have w := h.rw (there_key tx)
      refine .inr (.inr ?_)
      show okN (S.copyRow _ n par _ x).nm ∧ ∀ t, (S.copyRow _ n par _ x).tx = some t → txN t
      unfold Stt.copyRow
      by_cases c : x = n
      · rw [if_pos c]; exact ⟨okN_free (h.rw (there_key hn)).1 _, w.2⟩
      · rw [if_neg c]; exact w
  day := fun S wf i h => ⟨h.nc, h.tc⟩
/-- all of it -/
structure Stt.Good (S : Stt) : Prop where
  uq : S.Uq
  ro : S.Roomy
  sg : S.Sg
theorem Stt.Good.deed (h : S.Good) (wf : S.Wf) (i : S.Inv) {d : Deed} (f : d.fine) : (S.deed d).2.Good := ⟨uq_keeps.deed wf i h.uq f, roomy_keeps.deed wf i h.ro f, sg_keeps.deed wf i h.sg f⟩
end
end Ho

set_option Elab.async false
set_option linter.all false
set_option maxRecDepth 100000
set_option maxHeartbeats 4000000
/-! C16: a house and the law's state begin; deeds are done to both. -/
namespace Ho
open PySem PySem.Spec PyProof.Rows L2
section
variable {P : Program} {w : World} {K : PySem.W.Frag} {mg : Str → Option Value} {base : Heap} {σ : L2.St} {H H' : Hp} {ta tb te tx td tl : TE} {a : HA} {b : SA} {S S' : Stt} {E : XK} {De : Ends} {tz : TS}
/-! ### _law_begin -/
def sp_law_begin (K : PySem.W.Frag) : Sp := fun vs H Q _ => ∃ (keep room : Int), vs = [.int keep, .int room] ∧ ∀ b H', (∀ y ∈ b.all, H y = none) → StAt H' b (S0 keep room) → Same H H' → Q (.ref b.p) H'
theorem sc_law_begin : FnScope ["_law_keep", "_law_room"] ["_law_keep", "_law_room"] (defScope s_law_begin) := ⟨rfl, rfl, rfl, by decide +kernel, rfl, by decide +kernel, by decide +kernel⟩
theorem ok_law_begin (T : Tx K mg) : FnR P w K mg base (L2.CX P w) 1 (He.ga K "_law_begin") (sp_law_begin K) := by
  refine fnr (F_law_begin T) sc_law_begin (fun _ _ _ _ _ _ us hl => match us, hl with | [_, _], _ => rfl) (fun vs H Q E h => by obtain ⟨_, _, rfl, _⟩ := h; rfl) (fun cdv A outer s H vs Q E hr h => ?_)
  refine ⟨_, PSs.nox (pss_one (ps_ret (pe_disp (pps_cons pe_str (pv 0) (pps_cons pe_str (pv 1) (pps_cons pe_str pe_dnewK (pps_cons pe_str (pe_lst pa_nil) (pps_cons pe_str (pe_lst pa_nil) (pps_cons pe_str pe_int (pps_cons pe_str pe_int pps_nil))))))) rfl rfl (by intro z; cases z) (by decide)))), ?_⟩
  obtain ⟨keep, room, rfl, k⟩ := h
  intro p hp
  have s1 : Same H (upd H p (.dK [])) := Same.new hp
  refine ⟨_, rfl, ?_⟩
  refine ⟨_, rfl, ?_⟩
  intro r hr'
  have s2 := s1.trans (Same.new (o := .dK []) hr')
  refine ⟨sz_of (le_lit (by kernel_rfl)), fun c hc => ?_⟩
  have s3 := s2.trans (Same.new (o := .lst []) hc)
  refine ⟨sz_of (le_lit (by kernel_rfl)), fun t ht => ?_⟩
  have s4 := s3.trans (Same.new (o := .lst []) ht)
  have nr : r ≠ p := fun z => by rw [z, upd_same] at hr'; cases hr'
  have r2 : upd (upd H p (.dK [])) r (.dK []) r = some (.dK []) := upd_same
  have p2 : upd (upd H p (.dK [])) r (.dK []) p = some (.dK []) := by rw [upd_ne (Ne.symm nr)]; exact upd_same
  have nc : c ≠ r := fun z => by rw [z, r2] at hc; cases hc
  have ncp : c ≠ p := fun z => by rw [z, p2] at hc; cases hc
  have c3 : upd (upd (upd H p (.dK [])) r (.dK [])) c (.lst []) c = some (.lst []) := upd_same
  have nt : t ≠ c := fun z => by rw [z, c3] at ht; cases ht
  have r3 := Same.new (o := .lst []) hc _ _ r2
  have p3 := Same.new (o := .lst []) hc _ _ p2
  have ntr : t ≠ r := fun z => by rw [z, r3] at ht; cases ht
  have ntp : t ≠ p := fun z => by rw [z, p3] at ht; cases ht
  have r4 := Same.new (o := .lst []) ht _ _ r3
  have p4 := Same.new (o := .lst []) ht _ _ p3
  have c4 := Same.new (o := .lst []) ht _ _ c3
  have t4 : upd (upd (upd (upd H p (.dK [])) r (.dK [])) c (.lst [])) t (.lst []) t = some (.lst []) := upd_same
  refine ⟨p4, [(Sum.inr "keep", .int keep), (Sum.inr "room", .int room), (Sum.inr "rows", .ref r), (Sum.inr "casts", .ref c), (Sum.inr "ties", .ref t), (Sum.inr "day", .int 0), (Sum.inr "count", .int 0)], rfl, le_lit (by kernel_rfl), ?_⟩
  have em : mergeK [] [(Sum.inr "keep", V.int keep), (Sum.inr "room", .int room), (Sum.inr "rows", .ref r), (Sum.inr "casts", .ref c), (Sum.inr "ties", .ref t), (Sum.inr "day", .int 0), (Sum.inr "count", .int 0)] = sKv ⟨p, r, c, t⟩ (S0 keep room) := by kernel_rfl
  rw [em]
  have hc' : H c = none := fresh_back s2 hc
  have ht' : H t = none := fresh_back s3 ht
  have hr0 : H r = none := fresh_back s1 hr'
  refine k ⟨p, r, c, t⟩ _ (fun y hy => ?_) ⟨upd_same, ⟨[], ?_, .nil⟩, ⟨[], ?_, .nil⟩, ⟨[], ?_, .nil⟩, Ne.symm nr, Ne.symm nt⟩ (Same.mut s4 hp)
  · simp only [SA.all, List.mem_cons, List.not_mem_nil, or_false] at hy
    rcases hy with rfl | rfl | rfl | rfl
    · exact hp
    · exact hr0
    · exact hc'
    · exact ht'
  · rw [upd_ne nr]; exact r4
  · rw [upd_ne ncp]; exact c4
  · rw [upd_ne ntp]; exact t4
/-! ### _law_run -/
/-- the house at a and the law's state at b are S, behind at most t deeds -/
structure Both (K : PySem.W.Frag) (H : Hp) (a : HA) (b : SA) (S : Stt) (t : Nat) : Prop where
  h : HouseAt (cH K) H a S
  s : StAt H b S
  ap : ∀ x ∈ a.all, x ∉ b.all
  fit : S.Fit t
  good : S.Good
theorem Both.mono {t : Nat} (s : Same H H') (B : Both K H a b S t) : Both K H' a b S t := ⟨B.h.mono s, B.s.mono s, B.ap, B.fit, B.good⟩
theorem ifSame_of {sp1 sp2 spS : Sp} {E1 E2 E3 : XK} {t1 t2 : TA} {tc : TT} {t u : TS}
    (h : tCallF sp1 E1 t1 σ H fun x H1 => tCallF sp2 E2 t2 σ H1 fun y H2 => spS [x, y] H2 (fun v H3 => ∃ k, TruV K v H3 k ∧ (if (!k) = true then (if true = true then t De σ H3 else u De σ H3) else tc σ H3 fun b H4 => if b = true then t De σ H4 else u De σ H4)) E3) :
    tIfS (tOr (tNot fun σ H Q => tCallF spS E3 (tCons (tCallF sp1 E1 t1) (tCons (tCallF sp2 E2 t2) tNil)) σ H fun x H' => ∃ k, TruV K x H' k ∧ Q k H') tc) t u De σ H := h
theorem q_asgC {sp : Sp} {tr : TA} {ds : List D} {i : Nat} (ha : EvA tr σ H ds) (k : ∀ vs H1, Same H H1 → Ats H1 ds vs → sp vs H1 (fun v H2 => tz De (σ.set i (some v)) H2) E) : tSeq (tAsg (tCallF sp E tr) (gName i)) tz De σ H := ha H (Same.refl H) _ fun vs H2 s2 as => k vs H2 s2 as
theorem ifTail {tc : TT} {t : TS} (h : EvT tc σ H false) (k : ∀ H1, Same H H1 → De.nx σ H1) : tc σ H fun b H4 => if b = true then t De σ H4 else tNext De σ H4 := h H (Same.refl H) _ fun H1 s => by
  show if false = true then t De σ H1 else tNext De σ H1
  rw [if_neg (by decide)]
  exact k H1 s
theorem Mv.left {A A' B : List Addr} (m : Mv A A' H H') : Mv (A ++ B) (A' ++ B) H H' where
  keep := fun b o n q => m.keep b o (fun z => n (List.mem_append_left _ z)) q
  new := fun b h => (List.mem_append.mp h).elim (fun z => (m.new b z).imp (fun w => List.mem_append_left _ w) id) fun z => .inl (List.mem_append_right _ z)
  tup := m.tup
theorem Mv.right {A A' B : List Addr} (m : Mv A A' H H') : Mv (B ++ A) (B ++ A') H H' where
  keep := fun b o n q => m.keep b o (fun z => n (List.mem_append_right _ z)) q
  new := fun b h => (List.mem_append.mp h).elim (fun z => .inl (List.mem_append_left _ z)) fun z => (m.new b z).imp (fun w => List.mem_append_right _ w) id
  tup := m.tup
/-- the house changes, the law's state stands -/
theorem ap_h {a' : HA} (m : Mv a.all a'.all H H') (hs : StAt H b S) (ap : ∀ x ∈ a.all, x ∉ b.all) : (∀ x ∈ a'.all, x ∉ b.all) ∧ StAt H' b S := by
  refine ⟨fun x hx hb => ?_, hs.keep (fun x hx o q => m.keep x o (fun z => ap x z hx) q) m.tup⟩
  rcases m.new x hx with z | z
  · exact ap x z hb
  · obtain ⟨o, e, _⟩ := hs.there x hb
    rw [z] at e; cases e
theorem ap_s {b' : SA} (m : Mv b.all b'.all H H') (hh : HouseAt (cH K) H a S) (ap : ∀ x ∈ a.all, x ∉ b.all) : (∀ x ∈ a.all, x ∉ b'.all) ∧ HouseAt (cH K) H' a S := by
  refine ⟨fun x hx hb => ?_, hh.keep (fun x hx o q => m.keep x o (fun z => ap x hx z) q) m.tup⟩
  rcases m.new x hb with z | z
  · exact ap x hx z
  · obtain ⟨o, e, _⟩ := hh.there x hx
    rw [z] at e; cases e
theorem Deed.D_nl (d : Deed) : d.D.nl = true := by
  cases d <;> simp [Deed.D, Deed.args, D.nl, nls, oi_nl]
theorem told_pl (wf : S.Wf) (d : Deed) : (S.deed d).1.told.pl = true ∧ (S.deed d).1.told.dep ≤ 1 := by
  have w : ∀ k : Kd, (Out.err k).told.pl = true ∧ (Out.err k).told.dep ≤ 1 := fun k => ⟨rfl, Nat.zero_le _⟩
  have n0 : (Out.val .non).told.pl = true ∧ (Out.val .non).told.dep ≤ 1 := ⟨rfl, Nat.zero_le _⟩
  have i0 : ∀ i : Int, (Out.val (.int i)).told.pl = true ∧ (Out.val (.int i)).told.dep ≤ 1 := fun i => ⟨rfl, Nat.zero_le _⟩
  cases d with
  | make p nm b => unfold Stt.deed Stt.make; dsimp only; split; exact w _; split; exact w _; exact i0 _
  | rename n nm => unfold Stt.deed Stt.rename; dsimp only; split; exact w _; split; exact w _; exact n0
  | move n p => unfold Stt.deed Stt.move; dsimp only; split; exact w _; split; exact w _; split; exact w _; split; exact w _; exact n0
  | copy n p => unfold Stt.deed Stt.copy; dsimp only; split; exact w _; split; exact w _; split; exact w _; exact i0 _
  | write n t =>
    unfold Stt.deed Stt.write; dsimp only; split; exact w _
    cases (S.rw n).tx with
    | none => exact w _
    | some o => dsimp only; split; exact w _; exact n0
  | tie x y => unfold Stt.deed Stt.tie; dsimp only; split; exact w _; split; exact w _; exact n0
  | untie x y => unfold Stt.deed Stt.untie; dsimp only; split; exact w _; split; exact w _; exact n0
  | cast n => unfold Stt.deed Stt.cast; dsimp only; split; exact w _; exact n0
  | back n => unfold Stt.deed Stt.back; dsimp only; split; exact w _; exact n0
  | gone n => unfold Stt.deed Stt.gone; dsimp only; split; exact w _; exact n0
  | empty => exact i0 _
  | nextDay =>
    refine ints_pl (Stt.dues { S with day := S.day + 1 }) ?_
    unfold Stt.dues
    rw [List.length_map]
    exact Nat.le_trans (List.length_filter_le _ _) (by have := wf.cl; show S.casts.length ≤ _; omega)
mutual
theorem D.pl_nl : ∀ {d : D}, d.pl = true → d.nl = true
  | .non, _ => rfl
  | .bl _, _ => rfl
  | .int _, _ => rfl
  | .str _, _ => rfl
  | .tup l, h => by
    unfold D.nl
    exact pls_nls (D.pl_tup h).2
  | .lst _, h => by cases h
  | .ref _, h => by cases h
theorem pls_nls : ∀ {l : List D}, pls l = true → nls l = true
  | [], _ => rfl
  | d :: l, h => by
    unfold pls at h
    obtain ⟨h1, h2⟩ := Bool.and_eq_true_iff.mp h
    unfold nls
    rw [D.pl_nl h1, pls_nls h2]; rfl
end
theorem deed_wlen {d : Deed} (ok : d.ok S) : ∀ n t, d = .write n t → t.length ≤ 100000 := fun n t e => by
  subst e
  have : t.length ≤ 100 := ok
  omega
end
end Ho

set_option Elab.async false
set_option linter.all false
set_option maxRecDepth 100000
set_option maxHeartbeats 4000000
/-! C17: a house and the law's state are begun, deeds are run: steps of a law. -/
namespace Ho
open PySem PySem.Spec PyProof.Rows L2
section
variable {P : Program} {w : World} {K : PySem.W.Frag} {mg : Str → Option Value} {base : Heap} {σ : L2.St} {H H' : Hp} {ta tb te tx td tl : TE} {a : HA} {b : SA} {S S' : Stt} {E E' : XK} {De : Ends} {tz : TS}
theorem fit0 (keep room : Int) : (S0 keep room).Fit 0 where
  inv := by
    have g : ∀ x, (S0 keep room).get x = none := fun _ => rfl
    have m : ∀ x, (S0 keep room).mark x = none := fun _ => rfl
    exact { kr := fun n h => absurd h List.not_mem_nil, c0 := Int.le_refl 0, ct := List.nodup_nil, cm := fun c h => absurd h List.not_mem_nil, mc := fun n k h => by (rw [m] at h; cases h), te := fun t h => absurd h List.not_mem_nil, tn := List.nodup_nil, up := ⟨fun _ => 0, fun x r p h => by (rw [g] at h; cases h)⟩,
            pb := fun x r p h => by (rw [g] at h; cases h), pm := fun x r k h => by (rw [g] at h; cases h), pt := fun x r p h => by (rw [g] at h; cases h) }
  asc := .nil
  r1 := Nat.zero_le _
  r2 := Nat.zero_le _
  nm := fun p h => absurd h List.not_mem_nil
  tx := fun p h => absurd h List.not_mem_nil
  cn := Int.le_refl 0
theorem good0 (keep room : Int) (h : 0 ≤ room) : (S0 keep room).Good where
  uq := ⟨fun x y rx ry h1 => (by cases h1), fun x r p h1 => (by cases h1)⟩
  ro := h
  sg := ⟨fun p hp => absurd hp List.not_mem_nil, fun p hp => absurd hp List.not_mem_nil⟩
theorem bnd2_nn (c : Int) : 0 ≤ bnd2 c := by
  have := (mix_lt (c := c) (p := 9857) (m := 36) (by decide)).1
  unfold bnd2
  omega
/-- what stood there before the two -/
structure Past (H : Hp) (a : HA) (b : SA) : Prop where
  new : ∀ y ∈ a.all ++ b.all, H y = none
theorem ext_same {x : Addr} (e : Ext x H H') (h : H x = none) : Same H H' := fun y o q => e y o (ne_of_none q h) q
theorem g_start {keep room : Int} {t1 t2 : TE} {QA : List V → Hp → Prop} (h1 : EvD t1 σ H (.int keep)) (h2 : EvD t2 σ H (.int room))
    (k : ∀ a b H1, Same H H1 → Both K H1 a b (S0 keep room) 0 → (∀ y ∈ a.all ++ b.all, H y = none) → QA [.ref a.p, .ref b.p] H1) (hr : 0 ≤ room := by first | decide | exact bnd2_nn _) :
    tCons (StX.tMakeR (cH K) (sp_h_init__ K) E (tCons t1 (tCons t2 tNil))) (tCons (tCallF (sp_law_begin K) E' (tCons t1 (tCons t2 tNil))) tNil) σ H QA := by
  refine h1 H (Same.refl H) _ fun v1 H0 s0 c1 => ?_
  cases c1
  refine h2 H0 s0 _ fun v2 H1 s01 c2 => ?_
  cases c2
  have s1 := s0.trans s01
  intro x dx hx hdx nd
  have n2 : upd H1 dx (.own x) x = none := by rw [upd_ne (Ne.symm nd)]; exact hx
  have s2 : Same H1 (upd (upd H1 dx (.own x)) x (.ins (cH K) dx [])) := (Same.new hdx).trans (Same.new n2)
  refine ⟨x, dx, keep, room, rfl, upd_same, fun a H2 ep hh he hf => ⟨rfl, ?_⟩⟩
  have s12 : Same H1 H2 := fun y o q => he y o (ne_of_none q hx) (s2 y o q)
  have aN : ∀ y ∈ a.all, H1 y = none := fun y hy => by
    have hy' : y = a.p ∨ y ∈ [a.r, a.s, a.c, a.t] := by simpa [HA.all] using hy
    rcases hy' with z | z
    · rw [z, ep]; exact hx
    · exact fresh_back s2 (hf y z)
  refine h1 H2 (s1.trans s12) _ fun v1 H20 s30 c1 => ?_
  cases c1
  refine h2 H20 ((s1.trans s12).trans s30) _ fun v2 H3 s31 c2 => ?_
  cases c2
  have s3 := s30.trans s31
  refine ⟨keep, room, rfl, fun b H4 bN hb s4 => ?_⟩
  have s14 := (s1.trans s12).trans (s3.trans s4)
  rw [← ep]
  refine k a b H4 s14 ⟨hh.mono (s3.trans s4), hb, fun y hy hy2 => ?_, fit0 keep room, good0 keep room hr⟩ fun y hy => ?_
  · obtain ⟨o, e, _⟩ := (hh.mono s3).there y hy
    rw [bN y hy2] at e; cases e
  · rcases List.mem_append.mp hy with z | z
    · exact fresh_back s1 (aN y z)
    · exact fresh_back ((s1.trans s12).trans s3) (bN y z)
theorem q_start {keep room : Int} {i j : Nat} {t1 t2 : TE} (h1 : EvD t1 σ H (.int keep)) (h2 : EvD t2 σ H (.int room))
    (k : ∀ a b H1, Same H H1 → Both K H1 a b (S0 keep room) 0 → (∀ y ∈ a.all ++ b.all, H y = none) → tz De ((σ.set i (some (.ref a.p))).set j (some (.ref b.p))) H1) (hr : 0 ≤ room := by first | decide | exact bnd2_nn _) :
    tSeq (tPar i j (tCons (StX.tMakeR (cH K) (sp_h_init__ K) E (tCons t1 (tCons t2 tNil))) (tCons (tCallF (sp_law_begin K) E' (tCons t1 (tCons t2 tNil))) tNil))) tz De σ H :=
  g_start (QA := fun vs G => ∃ x y, vs = [x, y] ∧ tz De ((σ.set i (some x)).set j (some y)) G) h1 h2 (fun a b H1 s B n => ⟨_, _, rfl, k a b H1 s B n⟩) hr
/-- one of the two is a cell: a tuple is made -/
theorem q_startT {keep room : Int} {i j : Nat} {t1 t2 : TE} (h1 : EvD t1 σ H (.int keep)) (h2 : EvD t2 σ H (.int room))
    (k : ∀ a b H1, Same H H1 → Both K H1 a b (S0 keep room) 0 → (∀ y ∈ a.all ++ b.all, H y = none) → tz De ((σ.set i (some (.ref a.p))).set j (some (.ref b.p))) H1) (hr : 0 ≤ room := by first | decide | exact bnd2_nn _) :
    tSeq (tAsg (tTup (tCons (StX.tMakeR (cH K) (sp_h_init__ K) E (tCons t1 (tCons t2 tNil))) (tCons (tCallF (sp_law_begin K) E' (tCons t1 (tCons t2 tNil))) tNil))) (gTup K 2 (gCons (gName i) (gCons (gName j) gNil)))) tz De σ H :=
  g_start (QA := fun vs G => vs.length ≤ sizeLine ∧ ∀ p, G p = none → gTup K 2 (gCons (gName i) (gCons (gName j) gNil)) (.ref p) σ (upd G p (.tup vs)) fun σ' G' => tz De σ' G') h1 h2 (fun a b H1 s B n => ⟨sz_of (le_lit (by kernel_rfl)), fun p hp => ⟨p, _, rfl, SqT.of upd_same, rfl, _, _, rfl, _, _, rfl, rfl, k a b _ (s.trans (Same.new hp)) (B.mono (Same.new hp)) n⟩⟩) hr
/-- the script's list, told apart from what is owned -/
def Scr (K : PySem.W.Frag) (H : Hp) (l : Addr) (xs : List V) (A : List Addr) : Prop := SqL K H l xs ∧ (H l = none ∨ l ∉ A)
theorem scr_start {l : Addr} {xs : List V} {A : List Addr} (s : Same H H') (h : SqL K H l xs) (n : ∀ y ∈ A, H y = none) : SqL K H' l xs ∧ ((∃ u, H' l = some u ∧ Rd H' l (.lst xs) ∧ l ∉ A) ∨ ∀ G : Hp, SqL K G l xs) := by
  refine ⟨sql_same s h, ?_⟩
  rcases h with z | z
  · refine .inl ?_
    have out : ∀ u, H l = some u → l ∉ A := fun u e y => by rw [n l y] at e; cases e
    rcases z with y | ⟨o, y⟩
    · exact ⟨_, s _ _ y, .inl (s _ _ y), out _ y⟩
    · exact ⟨_, s _ _ y, .inr ⟨o, s _ _ y⟩, out _ y⟩
  · exact .inr fun G => .inr z
theorem scr_mv {l : Addr} {xs : List V} {A A' : List Addr} (m : Mv A A' H H') (h : (∃ u, H l = some u ∧ Rd H l (.lst xs) ∧ l ∉ A) ∨ ∀ G : Hp, SqL K G l xs) : (∃ u, H' l = some u ∧ Rd H' l (.lst xs) ∧ l ∉ A') ∨ ∀ G : Hp, SqL K G l xs := by
  rcases h with ⟨u, e, r, o⟩ | h
  · refine .inl ⟨u, m.keep _ _ o e, r.imp (fun z => m.keep _ _ o z) (fun ⟨q, z⟩ => ⟨q, m.keep _ _ o z⟩), fun z => ?_⟩
    rcases m.new l z with y | y
    · exact o y
    · rw [e] at y; cases y
  · exact .inr h
theorem scr_sq {l : Addr} {xs : List V} {A : List Addr} (h : (∃ u, H l = some u ∧ Rd H l (.lst xs) ∧ l ∉ A) ∨ ∀ G : Hp, SqL K G l xs) : SqL K H l xs := by
  rcases h with ⟨u, e, r, o⟩ | h
  · exact .inl r
  · exact h H
theorem q_forR1 {g : TG} {t : TS} (n : Nat) (h : EvD te σ H (.int (n : Int))) (hn : n ≤ 1000000) (k : ∀ H1, Same H H1 → ∃ Pv : Nat → L2.St → Hp → Prop, Pv 0 σ H1 ∧
      (∀ i σ' H', i < n → Pv i σ' H' → g (.int (i : Int)) σ' H' fun σ2 H2 => t { De with nx := Pv (i + 1), ct := Pv (i + 1), bk := tz De } σ2 H2) ∧ ∀ σ' H', Pv n σ' H' → tz De σ' H') : tSeq (tFor (iRng1 (tCons te tNil)) g t) tz De σ H := by
  refine h H (Same.refl H) _ fun v H1 s1 av => ?_
  cases av
  obtain ⟨Pv, k1, k2, k3⟩ := k H1 s1
  refine ⟨_, rfl, by omega, by omega, for_it (D := { De with nx := tz De }) (walk_range (lo := 0) (n := ((n : Int)).toNat)) Pv k1 (fun _ _ _ _ _ => trivial) (fun i x σ' G G' hi p y => ?_) fun σ' G p => ?_⟩
  · obtain ⟨rfl, rfl⟩ := y
    rw [Int.toNat_natCast] at hi
    show g (.int (0 + (i : Int))) σ' G' _
    rw [Int.zero_add]
    exact k2 i σ' _ hi p
  · rw [Int.toNat_natCast] at p
    exact k3 σ' G p
theorem cellsI_len (s : List Int) (f m : Nat) : (cellsI s f m).length = m := by unfold cellsI; rw [List.length_map, List.length_range]
end
end Ho

set_option Elab.async false
set_option linter.all false
set_option maxRecDepth 100000
set_option maxHeartbeats 4000000
/-! M22: data are compared. -/
namespace Ho
open PySem PySem.Spec PyProof.Rows L2
mutual
def D.py : D → PyData
  | .non => .none
  | .bl b => .bool b
  | .int i => .int i
  | .str s => .str s
  | .tup l => .tuple (pys l)
  | .lst l => .list (pys l)
  | .ref _ => .none
def pys : List D → List PyData
  | [] => []
  | d :: l => d.py :: pys l
end
theorem pys_map : ∀ l : List D, pys l = l.map D.py
  | [] => rfl
  | d :: l => by rw [pys, pys_map l]; rfl
/-- data n deep, texts of signs -/
def D.shp : Nat → D → Prop
  | _, .non => True
  | _, .bl _ => True
  | _, .int _ => True
  | _, .str s => PyData.strOk s = true
  | n + 1, .tup l => ∀ d ∈ l, D.shp n d
  | n + 1, .lst l => ∀ d ∈ l, D.shp n d
  | 0, .tup _ => False
  | 0, .lst _ => False
  | _, .ref _ => False
def pD (p : List Str) : D := .tup (p.map D.str)
theorem pD_nl (p : List Str) : (pD p).nl = true := by
  show nls (p.map D.str) = true
  exact nls_map _ (fun _ => rfl) _
section
variable {K : PySem.W.Frag} {σ : L2.St} {H H' : Hp} {ta tb te : TE}
theorem dpall_of {n : Nat} (ih : ∀ d v, D.shp n d → At H d v → Dp K H v d.py) : ∀ {l : List D} {vs : List V}, (∀ d ∈ l, D.shp n d) → Ats H l vs → DpAll K H vs (pys l)
  | _, _, _, .nil => .nil
  | _, _, h, .cons a t => .cons (ih _ _ (h _ List.mem_cons_self) a) (dpall_of ih (fun d hd => h d (List.mem_cons_of_mem _ hd)) t)
theorem shp_dp : ∀ (n : Nat) (d : D) (v : V), D.shp n d → At H d v → Dp K H v d.py
  | 0, d, v, h, a => by
    cases a with
    | non => exact .non
    | bl b => exact .bl b
    | int i => exact .int i
    | str s => exact .str s
    | ref a => exact h.elim
    | tup hp hs => exact h.elim
    | lst hp hs => exact h.elim
  | n + 1, d, v, h, a => by
    cases a with
    | non => exact .non
    | bl b => exact .bl b
    | int i => exact .int i
    | str s => exact .str s
    | ref a => exact h.elim
    | tup hp hs => exact .tup (SqT.of hp) (dpall_of (shp_dp n) h hs)
    | lst hp hs => exact .lst (SqL.of hp) (dpall_of (shp_dp n) h hs)
theorem layall_of {n : Nat} (ih : ∀ d, D.shp n d → d.py.canLay0 = true ∧ d.py.depth ≤ n) : ∀ {l : List D}, (∀ d ∈ l, D.shp n d) → PyData.canLayAll0 (pys l) = true ∧ PyData.depthAll (pys l) ≤ n
  | [], _ => ⟨rfl, Nat.zero_le _⟩
  | d :: l, h => by
    obtain ⟨a1, a2⟩ := ih d (h d List.mem_cons_self)
    obtain ⟨b1, b2⟩ := layall_of ih (l := l) fun e he => h e (List.mem_cons_of_mem _ he)
    rw [pys]
    exact ⟨by rw [PyData.canLayAll0, a1, b1]; rfl, by rw [PyData.depthAll]; exact Nat.max_le.mpr ⟨a2, b2⟩⟩
theorem shp_lay : ∀ (n : Nat) (d : D), D.shp n d → d.py.canLay0 = true ∧ d.py.depth ≤ n
  | 0, d, h => by
    cases d with
    | non => exact ⟨rfl, Nat.le_refl _⟩
    | bl b => exact ⟨rfl, Nat.le_refl _⟩
    | int i => exact ⟨rfl, Nat.le_refl _⟩
    | str s => exact ⟨by rw [D.py, PyData.canLay0]; exact h, Nat.le_refl _⟩
    | ref a => exact h.elim
    | tup l => exact h.elim
    | lst l => exact h.elim
  | n + 1, d, h => by
    cases d with
    | non => exact ⟨rfl, Nat.zero_le _⟩
    | bl b => exact ⟨rfl, Nat.zero_le _⟩
    | int i => exact ⟨rfl, Nat.zero_le _⟩
    | str s => exact ⟨by rw [D.py, PyData.canLay0]; exact h, Nat.zero_le _⟩
    | ref a => exact h.elim
    | tup l =>
      obtain ⟨a, b⟩ := layall_of (shp_lay n) (l := l) h
      exact ⟨by rw [D.py, PyData.canLay0]; exact a, by rw [D.py, PyData.depth]; omega⟩
    | lst l =>
      obtain ⟨a, b⟩ := layall_of (shp_lay n) (l := l) h
      exact ⟨by rw [D.py, PyData.canLay0]; exact a, by rw [D.py, PyData.depth]; omega⟩
theorem shp_shaped {n : Nat} {d : D} (hn : n ≤ 64) (h : D.shp n d) : SeqAt.shaped d.py = true := by
  obtain ⟨a, b⟩ := shp_lay n d h
  unfold SeqAt.shaped
  rw [a, decide_eq_true (Nat.le_trans b hn)]; rfl
theorem eqv_same {n : Nat} {d : D} (h : D.shp n d) : PyData.eqv d.py d.py = true := SeqAt.eqv_refl _ (shp_lay n d h).1
/-- the same data are equal -/
theorem ev_eqSame {n : Nat} {d : D} (hn : n ≤ 64) (h : D.shp n d) (ha : EvD ta σ H d) (hb : EvD tb σ H d) : EvD (tOp (rEqD K) ta tb) σ H (.bl true) :=
  ev_op ha hb fun x y H1 _ ax ay Q q => by
    refine ⟨d.py, d.py, shp_dp n d x h ax, shp_dp n d y h ay, shp_shaped hn h, shp_shaped hn h, ?_⟩
    rw [eqv_same h]
    exact q _ H1 (Same.refl H1) (.bl _)
theorem ev_neSame {n : Nat} {d : D} (hn : n ≤ 64) (h : D.shp n d) (ha : EvD ta σ H d) (hb : EvD tb σ H d) : EvD (tOp (rNeD K) ta tb) σ H (.bl false) :=
  ev_op ha hb fun x y H1 _ ax ay Q q => by
    refine ⟨d.py, d.py, shp_dp n d x h ax, shp_dp n d y h ay, shp_shaped hn h, shp_shaped hn h, ?_⟩
    rw [eqv_same h]
    exact q _ H1 (Same.refl H1) (.bl _)
/-- any two data -/
theorem ev_eqAny {n m : Nat} {d e : D} {b : Bool} (hn : n ≤ 64) (hm : m ≤ 64) (h : D.shp n d) (k : D.shp m e) (eq : PyData.eqv d.py e.py = b) (ha : EvD ta σ H d) (hb : EvD tb σ H e) : EvD (tOp (rEqD K) ta tb) σ H (.bl b) :=
  ev_op ha hb fun x y H1 _ ax ay Q q => by
    refine ⟨d.py, e.py, shp_dp n d x h ax, shp_dp m e y k ay, shp_shaped hn h, shp_shaped hm k, ?_⟩
    rw [eq]
    exact q _ H1 (Same.refl H1) (.bl _)
theorem ev_neAny {n m : Nat} {d e : D} {b : Bool} (hn : n ≤ 64) (hm : m ≤ 64) (h : D.shp n d) (k : D.shp m e) (eq : PyData.eqv d.py e.py = b) (ha : EvD ta σ H d) (hb : EvD tb σ H e) : EvD (tOp (rNeD K) ta tb) σ H (.bl (!b)) :=
  ev_op ha hb fun x y H1 _ ax ay Q q => by
    refine ⟨d.py, e.py, shp_dp n d x h ax, shp_dp m e y k ay, shp_shaped hn h, shp_shaped hm k, ?_⟩
    rw [eq]
    exact q _ H1 (Same.refl H1) (.bl _)
/-! ### tuples of texts -/
theorem ok_str {s : Str} (h : okN s) : PyData.strOk s = true := by
  unfold PyData.strOk
  rw [← Array.all_toList, List.all_eq_true]
  intro c hc
  have z := h c hc
  unfold okc at z
  exact decide_eq_true (by omega)
theorem tx_str {s : Str} (h : txN s) : PyData.strOk s = true := by
  unfold PyData.strOk
  rw [← Array.all_toList, List.all_eq_true]
  intro c hc
  have z := h c hc
  unfold txc at z
  exact decide_eq_true (by omega)
theorem eqv_strs : ∀ p q : List Str, PyData.eqvAll (pys (p.map D.str)) (pys (q.map D.str)) = decide (p = q)
  | [], [] => rfl
  | [], _ :: _ => rfl
  | _ :: _, [] => rfl
  | s :: p, t :: q => by
    show (PyData.eqv (.str s) (.str t) && PyData.eqvAll (pys (p.map D.str)) (pys (q.map D.str))) = _
    rw [eqv_strs p q, PyData.eqv]
    by_cases h1 : s = t <;> by_cases h2 : p = q <;> simp [h1, h2]
theorem eqv_path (p q : List Str) : PyData.eqv (D.tup (p.map D.str)).py (D.tup (q.map D.str)).py = decide (p = q) := by
  show PyData.eqv (.tuple (pys (p.map D.str))) (.tuple (pys (q.map D.str))) = _
  rw [PyData.eqv, eqv_strs]
theorem shp_path {p : List Str} (h : ∀ s ∈ p, PyData.strOk s = true) (n : Nat) : D.shp (n + 1) (.tup (p.map D.str)) := fun d hd => by
  obtain ⟨s, hs, rfl⟩ := List.mem_map.mp hd
  cases n <;> exact h s hs
theorem shp_lst {n : Nat} {l : List D} (h : ∀ d ∈ l, D.shp n d) : D.shp (n + 1) (.lst l) := h
theorem shp_tup {n : Nat} {l : List D} (h : ∀ d ∈ l, D.shp n d) : D.shp (n + 1) (.tup l) := h
theorem any_path (p : List Str) : ∀ l : List (List Str), ((l.map fun q => (D.tup (q.map D.str)).py).any fun z => PyData.eqv z (D.tup (p.map D.str)).py) = decide (p ∈ l)
  | [] => by simp
  | q :: l => by
    rw [List.map_cons, List.any_cons, any_path p l, eqv_path]
    by_cases h : q = p
    · subst h; simp
    · have h2 : ¬ p = q := fun z => h z.symm
      simp [h, h2]
/-- a path in a list of paths -/
theorem ev_niPath {p : List Str} {l : List (List Str)} (hp : ∀ s ∈ p, PyData.strOk s = true) (hl : ∀ q ∈ l, ∀ s ∈ q, PyData.strOk s = true) (ha : EvD ta σ H (.tup (p.map D.str))) (hb : EvD tb σ H (.lst (l.map fun q => .tup (q.map D.str)))) : EvD (tOp (rNotInD K) ta tb) σ H (.bl (!decide (p ∈ l))) :=
  ev_op ha hb fun x y H1 _ ax ay Q q => by
    have s1 := shp_path hp 0
    have s2 : D.shp 2 (.lst (l.map fun q => .tup (q.map D.str))) := fun d hd => by
      obtain ⟨q, hq, rfl⟩ := List.mem_map.mp hd
      exact shp_path (hl q hq) 0
    have z := shp_dp (K := K) 2 _ y s2 ay
    have e : (D.lst (l.map fun q => .tup (q.map D.str))).py = .list (l.map fun q => (D.tup (q.map D.str)).py) := by
      show PyData.list (pys _) = _
      rw [pys_map, List.map_map]; rfl
    have sh := shp_shaped (by decide) s2
    rw [e] at z sh
    refine ⟨_, _, shp_dp 1 _ x s1 ax, z, shp_shaped (by decide) s1, sh, ?_⟩
    rw [any_path]
    exact q _ H1 (Same.refl H1) (.bl _)
end
end Ho

set_option Elab.async false
set_option linter.all false
set_option maxRecDepth 100000
set_option maxHeartbeats 4000000
/-! M17: paths on the plain state. -/
namespace Ho
open PySem PySem.Spec PyProof.Rows L2
/-- the names that lead to a thing that is there -/
inductive PathTo (S : Stt) : Option Int → List Str → Prop
  | nil : PathTo S none []
  | step {x : Int} {p : List Str} : S.there x = true → PathTo S (S.rw x).par p → PathTo S (some x) (p ++ [(S.rw x).nm])
section
variable {S : Stt}
theorem path_ex (i : S.Inv) : ∀ {x : Int}, S.there x = true → ∃ p, PathTo S (some x) p := by
  obtain ⟨d, hd⟩ := i.up
  have key : ∀ (k : Nat) (x : Int), d x ≤ k → S.there x = true → ∃ p, PathTo S (some x) p := by
    intro k
    induction k with
    | zero =>
      intro x hx h
      have hk := there_key h
      cases e : (S.rw x).par with
      | none => exact ⟨_, .step h (by rw [e]; exact .nil)⟩
      | some p =>
        have tp := i.pt x _ p (get_rw hk) (by rw [← rw_mark' hk]; exact there_mark' h) e
        have z := hd x _ p (get_rw hk) e (there_key tp) (by rw [← rw_mark' hk, there_mark' h, there_mark' tp]) (by rw [← rw_mark' hk, there_mark' h]; intro w; cases w)
        omega
    | succ k ih =>
      intro x hx h
      have hk := there_key h
      cases e : (S.rw x).par with
      | none => exact ⟨_, .step h (by rw [e]; exact .nil)⟩
      | some p =>
        have tp := i.pt x _ p (get_rw hk) (by rw [← rw_mark' hk]; exact there_mark' h) e
        have z := hd x _ p (get_rw hk) e (there_key tp) (by rw [← rw_mark' hk, there_mark' h, there_mark' tp]) (by rw [← rw_mark' hk, there_mark' h]; intro w; cases w)
        obtain ⟨q, hq⟩ := ih p (by omega) tp
        exact ⟨_, .step h (by rw [e]; exact hq)⟩
  exact fun {x} h => key (d x) x (Nat.le_refl _) h
theorem path_one {o : Option Int} {p q : List Str} (h : PathTo S o p) : PathTo S o q → p = q := by
  induction h generalizing q with
  | nil => intro z; cases z; rfl
  | step t h ih =>
    intro z
    cases z with
    | step t' h' => rw [ih h']
/-- a path is no longer than there are things -/
theorem path_len (i : S.Inv) {o : Option Int} {p : List Str} (h : PathTo S o p) : p.length ≤ S.keys.length := by
  obtain ⟨d, hd⟩ := i.up
  have key : ∃ ks : List Int, ks.length = p.length ∧ (∀ y ∈ ks, y ∈ S.keys) ∧ ks.Nodup ∧ ∀ x, o = some x → ∀ y ∈ ks, d y ≤ d x := by
    induction h with
    | nil => exact ⟨[], rfl, fun y hy => absurd hy List.not_mem_nil, List.nodup_nil, fun x e => nomatch e⟩
    | @step x q th hq ih =>
      obtain ⟨ks, k1, k2, k3, k4⟩ := ih
      have hk := there_key th
      have lt : ∀ y ∈ ks, d y < d x := fun y hy => by
        cases e : (S.rw x).par with
        | none =>
          rw [e] at hq
          cases hq
          rw [List.eq_nil_of_length_eq_zero k1] at hy
          exact absurd hy List.not_mem_nil
        | some z =>
          have tz := i.pt x _ z (get_rw hk) (by rw [← rw_mark' hk]; exact there_mark' th) e
          have w := hd x _ z (get_rw hk) e (there_key tz) (by rw [← rw_mark' hk, there_mark' th, there_mark' tz]) (by rw [← rw_mark' hk, there_mark' th]; intro w; cases w)
          exact Nat.lt_of_le_of_lt (k4 z e y hy) w
      refine ⟨x :: ks, by rw [List.length_cons, List.length_append, k1]; rfl, fun y hy => ?_, List.nodup_cons.mpr ⟨fun z => Nat.lt_irrefl _ (lt x z), k3⟩, fun x' e y hy => ?_⟩
      · rcases List.mem_cons.mp hy with z | z
        · rw [z]; exact hk
        · exact k2 y z
      · cases e
        rcases List.mem_cons.mp hy with z | z
        · rw [z]; exact Nat.le_refl _
        · exact Nat.le_of_lt (lt y z)
  obtain ⟨ks, k1, k2, k3, _⟩ := key
  rw [← k1]
  exact nd_len k3 k2
end
end Ho

set_option Elab.async false
set_option linter.all false
set_option maxRecDepth 100000
set_option maxHeartbeats 4000000
/-! M21: where a path leads, on the plain state. -/
namespace Ho
open PySem PySem.Spec PyProof.Rows L2
def Stt.cands (S : Stt) (o : Option Int) (nm : Str) : List Int := ((S.rows.filter fun p => p.2.mrk.isNone).filter fun p => decide (p.2.par = o) && decide (p.2.nm = nm)).map (·.1)
def Stt.atL (S : Stt) : Option Int → List Str → Option Int
  | o, [] => o
  | o, nm :: p => match S.cands o nm with
    | [] => none
    | x :: _ => Stt.atL S (some x) p
section
variable {S : Stt}
theorem mem_cands (nd : S.keys.Nodup) {o : Option Int} {nm : Str} {x : Int} : x ∈ S.cands o nm ↔ S.there x = true ∧ (S.rw x).par = o ∧ (S.rw x).nm = nm := by
  unfold Stt.cands
  rw [List.mem_map]
  constructor
  · rintro ⟨p, hp, rfl⟩
    obtain ⟨h1, h2⟩ := List.mem_filter.mp hp
    obtain ⟨h3, h4⟩ := List.mem_filter.mp h1
    simp only [Bool.and_eq_true, decide_eq_true_eq] at h2
    rw [there_row nd h3, rw_row nd h3]
    exact ⟨h4, h2.1, h2.2⟩
  · rintro ⟨h1, h2, h3⟩
    have g := get_rw (there_key h1)
    refine ⟨(x, S.rw x), List.mem_filter.mpr ⟨List.mem_filter.mpr ⟨row_get g, ?_⟩, ?_⟩, rfl⟩
    · rw [← there_rw (there_key h1)]; exact h1
    · simp only [Bool.and_eq_true, decide_eq_true_eq]; exact ⟨h2, h3⟩
theorem there_mrk {x : Int} (h : S.there x = true) : (S.rw x).mrk = none := by
  rw [← rw_mark' (there_key h)]; exact there_mark' h
theorem cands_head (uq : S.Uq) (nd : S.keys.Nodup) {x : Int} (h : S.there x = true) : ∃ xs, S.cands (S.rw x).par (S.rw x).nm = x :: xs := by
  have hm := (mem_cands nd).mpr ⟨h, rfl, rfl⟩
  cases e : S.cands (S.rw x).par (S.rw x).nm with
  | nil => rw [e] at hm; cases hm
  | cons y ys =>
    have hy : y ∈ S.cands (S.rw x).par (S.rw x).nm := by rw [e]; exact List.mem_cons_self
    obtain ⟨h1, h2, h3⟩ := (mem_cands nd).mp hy
    have z := uq.one (get_rw (there_key h1)) (get_rw (there_key h)) (there_mrk h1) (there_mrk h) h2 h3
    rw [z]
    exact ⟨ys, rfl⟩
/-- a thing's path leads to it -/
theorem at_path (uq : S.Uq) (nd : S.keys.Nodup) {o : Option Int} {p : List Str} (h : PathTo S o p) : ∀ q, S.atL none (p ++ q) = S.atL o q := by
  induction h with
  | nil => intro q; rfl
  | @step x p th hp ih =>
    intro q
    rw [List.append_assoc, ih]
    obtain ⟨xs, e⟩ := cands_head uq nd th
    show (match S.cands (S.rw x).par (S.rw x).nm with
      | [] => none
      | x :: _ => S.atL (some x) q) = _
    rw [e]
theorem at_path0 (uq : S.Uq) (nd : S.keys.Nodup) {o : Option Int} {p : List Str} (h : PathTo S o p) : S.atL none p = o := by
  have z := at_path uq nd h []
  rw [List.append_nil] at z
  exact z
/-- what a path leads to has that path -/
theorem path_at (nd : S.keys.Nodup) : ∀ (q : List Str) (o : Option Int) (p : List Str) (y : Int), PathTo S o p → S.atL o q = some y → PathTo S (some y) (p ++ q)
  | [], o, p, y, hp, h => by
    have h : o = some y := h
    rw [← h, List.append_nil]; exact hp
  | nm :: q, o, p, y, hp, h => by
    have h : (match S.cands o nm with
      | [] => none
      | x :: _ => S.atL (some x) q) = some y := h
    cases e : S.cands o nm with
    | nil => rw [e] at h; cases h
    | cons x xs =>
      rw [e] at h
      have hx : x ∈ S.cands o nm := by rw [e]; exact List.mem_cons_self
      obtain ⟨h1, h2, h3⟩ := (mem_cands nd).mp hx
      have step := PathTo.step h1 (by rw [h2]; exact hp)
      rw [h3] at step
      have z := path_at nd q (some x) (p ++ [nm]) y step h
      rw [List.append_assoc] at z
      exact z
open Classical in
/-- the path of a thing that is there -/
noncomputable def pth (S : Stt) (x : Int) : List Str := if h : ∃ p, PathTo S (some x) p then h.choose else []
theorem pth_is (i : S.Inv) {x : Int} (h : S.there x = true) : PathTo S (some x) (pth S x) := by
  have e := path_ex i h
  unfold pth
  rw [dif_pos e]
  exact e.choose_spec
theorem pth_len (i : S.Inv) (wf : S.Wf) {x : Int} (h : S.there x = true) : (pth S x).length ≤ 1000 := by
  have := path_len i (pth_is i h)
  have := wf.klen
  omega
theorem pth_ne (i : S.Inv) {x : Int} (h : S.there x = true) : pth S x ≠ [] := fun z => by
  have y := pth_is i h
  rw [z] at y
  have gen : ∀ (o : Option Int) (p : List Str), PathTo S o p → p = [] → o = none := fun o p h e => by
    cases h with
    | nil => rfl
    | step _ _ => simp at e
  cases gen _ _ y rfl
theorem pth_sg (sg : S.Sg) {o : Option Int} {p : List Str} (h : PathTo S o p) : ∀ s ∈ p, okN s := by
  induction h with
  | nil => exact fun s hs => absurd hs List.not_mem_nil
  | @step x p th hp ih =>
    intro s hs
    rcases List.mem_append.mp hs with z | z
    · exact ih s z
    · rw [List.mem_singleton.mp z]
      exact (sg.rw (there_key th)).1
theorem there_rng (i : S.Inv) {n : Int} (h : S.there n = true) : 1 ≤ n ∧ n ≤ S.count := i.kr n (there_key h)
end
end Ho

set_option Elab.async false
set_option linter.all false
set_option maxRecDepth 100000
set_option maxHeartbeats 4000000
/-! M23: days; deeds that leave the shelf as it is. -/
namespace Ho
open PySem PySem.Spec PyProof.Rows L2
section
variable {S : Stt} {n : Int}
theorem bound_keeps (k r : Int) : Stt.Keeps (fun S => S.keep = k ∧ S.room = r) where
  add := fun _ _ _ h _ _ _ _ _ _ => h
  ren := fun _ _ _ h _ _ _ _ _ => h
  mov := fun _ _ _ h _ _ _ _ _ => h
  wri := fun _ _ _ h _ _ _ _ _ _ _ => h
  tie := fun _ _ _ h _ => h
  los := fun _ _ _ h _ => h
  cas := fun _ _ _ h _ _ => h
  bak := fun _ _ _ h _ _ => h
  cop := fun _ _ _ h _ _ _ _ _ => h
  day := fun _ _ _ h => h
theorem bound_deed (wf : S.Wf) (i : S.Inv) {d : Deed} (f : d.fine) : (S.deed d).2.keep = S.keep ∧ (S.deed d).2.room = S.room := (bound_keeps S.keep S.room).deed wf i ⟨rfl, rfl⟩ f
/-- deeds that neither use the shelf nor let days go by -/
def Deed.quiet : Deed → Prop
  | .make _ _ _ => True
  | .rename _ _ => True
  | .move _ _ => True
  | .write _ _ => True
  | .tie _ _ => True
  | .untie _ _ => True
  | _ => False
def qwords : List Str := ["make", "rename", "move", "write", "tie", "untie"]
theorem quiet_word {d : Deed} (h : d.word ∈ qwords) : d.quiet := by
  cases d with
  | copy n p => exact absurd (show ("copy" : Str) ∈ qwords from h) (by decide +kernel)
  | cast n => exact absurd (show ("cast" : Str) ∈ qwords from h) (by decide +kernel)
  | back n => exact absurd (show ("back" : Str) ∈ qwords from h) (by decide +kernel)
  | gone n => exact absurd (show ("gone" : Str) ∈ qwords from h) (by decide +kernel)
  | empty => exact absurd h (by decide +kernel)
  | nextDay => exact absurd h (by decide +kernel)
  | _ => exact trivial
theorem quiet_of {d : Deed} {ws : List Str} (h : d.word ∈ ws ∨ d.word = "move") (k : ∀ x ∈ ws, x ∈ qwords) : d.quiet :=
  quiet_word (h.elim (k _) fun e => by rw [e]; decide +kernel)
theorem room_quiet (h : S.casts = []) (more : Int) : S.roomFor more = S := by
  unfold Stt.roomFor
  rw [h]; rfl
theorem quiet_deed {d : Deed} (q : d.quiet) (h : S.casts = []) : (S.deed d).2.casts = [] ∧ (S.deed d).2.day = S.day := by
  cases d with
  | make p nm b =>
    show (S.make p nm b).2.casts = [] ∧ (S.make p nm b).2.day = S.day
    unfold Stt.make
    by_cases c : S.noBox p = true
    · rw [if_pos c]; exact ⟨h, rfl⟩
    rw [if_neg c]
    by_cases c2 : nm ∈ S.names p none
    · rw [if_pos c2]; exact ⟨h, rfl⟩
    rw [if_neg c2]; exact ⟨h, rfl⟩
  | rename n nm =>
    show (S.rename n nm).2.casts = [] ∧ (S.rename n nm).2.day = S.day
    unfold Stt.rename
    by_cases c : S.there n = false
    · rw [if_pos c]; exact ⟨h, rfl⟩
    rw [if_neg c]
    by_cases c2 : nm ∈ S.names (S.rw n).par (some n)
    · rw [if_pos c2]; exact ⟨h, rfl⟩
    rw [if_neg c2]; exact ⟨h, rfl⟩
  | move n p =>
    show (S.move n p).2.casts = [] ∧ (S.move n p).2.day = S.day
    unfold Stt.move
    by_cases c : S.there n = false
    · rw [if_pos c]; exact ⟨h, rfl⟩
    rw [if_neg c]
    by_cases c2 : S.noBox p = true
    · rw [if_pos c2]; exact ⟨h, rfl⟩
    rw [if_neg c2]
    by_cases c3 : ∃ x ∈ S.within n, p = some x
    · rw [if_pos c3]; exact ⟨h, rfl⟩
    rw [if_neg c3]
    by_cases c4 : (S.rw n).nm ∈ S.names p (some n)
    · rw [if_pos c4]; exact ⟨h, rfl⟩
    rw [if_neg c4]; exact ⟨h, rfl⟩
  | write n x =>
    show (S.write n x).2.casts = [] ∧ (S.write n x).2.day = S.day
    unfold Stt.write
    by_cases c : S.there n = false
    · rw [if_pos c]; exact ⟨h, rfl⟩
    rw [if_neg c]
    cases e : (S.rw n).tx with
    | none => exact ⟨h, rfl⟩
    | some o =>
      dsimp only
      by_cases c3 : S.usedThere + ((x.length : Int) - (o.length : Int)) > S.room
      · rw [if_pos c3]; exact ⟨h, rfl⟩
      rw [if_neg c3, room_quiet h]
      exact ⟨h, rfl⟩
  | tie x y =>
    show (S.tie x y).2.casts = [] ∧ (S.tie x y).2.day = S.day
    unfold Stt.tie
    by_cases c : S.there x = false ∨ S.there y = false
    · rw [if_pos c]; exact ⟨h, rfl⟩
    rw [if_neg c]
    by_cases c2 : x = y
    · rw [if_pos c2]; exact ⟨h, rfl⟩
    rw [if_neg c2]
    dsimp only
    by_cases c3 : (x, y) ∈ S.ties
    · rw [if_pos c3]; exact ⟨h, rfl⟩
    rw [if_neg c3]; exact ⟨h, rfl⟩
  | untie x y =>
    show (S.untie x y).2.casts = [] ∧ (S.untie x y).2.day = S.day
    unfold Stt.untie
    by_cases c : S.there x = false ∨ S.there y = false
    · rw [if_pos c]; exact ⟨h, rfl⟩
    rw [if_neg c]
    by_cases c2 : (x, y) ∉ S.ties
    · rw [if_pos c2]; exact ⟨h, rfl⟩
    rw [if_neg c2]; exact ⟨h, rfl⟩
  | copy n p => exact q.elim
  | cast n => exact q.elim
  | back n => exact q.elim
  | gone n => exact q.elim
  | empty => exact q.elim
  | nextDay => exact q.elim
/-! ### what goes -/
theorem lose_things : (S.lose n).thingsL = S.thingsL := by
  unfold Stt.thingsL Stt.lose
  dsimp only
  rw [List.filter_filter]
  congr 1
  refine List.filter_congr fun p _ => ?_
  cases p.2.mrk <;> simp
theorem all_things : ∀ (l : List Int) (S : Stt), (Stt.loseAll l S).1.thingsL = S.thingsL
  | [], S => rfl
  | n :: l, S => (all_things l (S.lose n)).trans lose_things
theorem all_casts : ∀ (l : List Int) (S : Stt), (Stt.loseAll l S).1.casts = S.casts.filter fun c => !decide (c.1 ∈ l)
  | [], S => by
    show S.casts = _
    rw [List.filter_eq_self.mpr fun c _ => by simp]
  | n :: l, S => by
    show (Stt.loseAll l (S.lose n)).1.casts = _
    rw [all_casts l]
    show (S.casts.filter _).filter _ = _
    rw [List.filter_filter]
    refine List.filter_congr fun c _ => ?_
    by_cases h1 : c.1 = n <;> by_cases h2 : c.1 ∈ l <;> simp [h1, h2]
theorem all_rest : ∀ (l : List Int) (S : Stt), (Stt.loseAll l S).1.day = S.day ∧ (Stt.loseAll l S).1.keep = S.keep ∧ (Stt.loseAll l S).1.room = S.room ∧ (Stt.loseAll l S).1.count = S.count
  | [], S => ⟨rfl, rfl, rfl, rfl⟩
  | n :: l, S => all_rest l (S.lose n)
theorem due_mem (i : S.Inv) {c : Int × Int} (h : c ∈ S.casts) : c.1 ∈ S.dues ↔ c.2 + S.keep ≤ S.day := by
  unfold Stt.dues
  rw [List.mem_map]
  constructor
  · rintro ⟨c', hc, e⟩
    obtain ⟨h1, h2⟩ := List.mem_filter.mp hc
    have h2 := of_decide_eq_true h2
    have ec : c' = c := by
      have nd := i.ct
      rw [List.nodup_iff_pairwise_ne, List.pairwise_map] at nd
      exact Classical.byContradiction fun ne => by
        obtain ⟨p, hp, hp2⟩ := List.mem_iff_getElem.mp h1
        obtain ⟨q, hq, hq2⟩ := List.mem_iff_getElem.mp h
        have pw := List.pairwise_iff_getElem.mp nd
        rcases Nat.lt_trichotomy p q with z | z | z
        · exact pw p q hp hq z (by rw [hp2, hq2]; exact e)
        · subst z; exact ne (hp2.symm.trans hq2)
        · exact pw q p hq hp z (by rw [hp2, hq2]; exact e.symm)
    rw [← ec]; exact h2
  · exact fun z => ⟨c, List.mem_filter.mpr ⟨h, decide_eq_true z⟩, rfl⟩
theorem next_casts (i : S.Inv) : S.nextDay.2.casts = S.casts.filter fun c => decide (S.day + 1 < c.2 + S.keep) := by
  show (Stt.loseAll _ { S with day := S.day + 1 }).1.casts = _
  rw [all_casts]
  refine List.filter_congr fun c hc => ?_
  have z := due_mem (S := { S with day := S.day + 1 }) (inv_day i) (c := c) hc
  have z : c.1 ∈ Stt.dues { S with day := S.day + 1 } ↔ c.2 + S.keep ≤ S.day + 1 := z
  by_cases h : c.2 + S.keep ≤ S.day + 1
  · rw [decide_eq_true (z.mpr h), decide_eq_false (by omega)]; rfl
  · rw [decide_eq_false fun w => h (z.mp w), decide_eq_true (by omega)]; rfl
theorem next_things : S.nextDay.2.thingsL = S.thingsL := all_things _ _
theorem next_rest : S.nextDay.2.day = S.day + 1 ∧ S.nextDay.2.keep = S.keep := ⟨(all_rest _ _).1, (all_rest _ _).2.1⟩
theorem next_told (h : ∀ c ∈ S.casts, S.day < c.2 + S.keep) : S.nextDay.1 = .val (.tup (((S.casts.filter fun c => decide (c.2 + S.keep = S.day + 1)).map (·.1)).map D.int)) := by
  show Out.val (.tup ((((S.casts.filter fun c => decide (c.2 + S.keep ≤ S.day + 1)).map (·.1)).map D.int))) = _
  congr 4
  refine List.filter_congr fun c hc => decide_eq_decide.mpr ?_
  have := h c hc
  constructor <;> intro z <;> omega
end
end Ho

set_option Elab.async false
set_option linter.all false
set_option maxRecDepth 100000
set_option maxHeartbeats 4000000
/-! N5: comprehensions over tuples; branches that meet again. -/
namespace Ho
open PySem PySem.Spec PyProof.Rows L2
section
variable {K : PySem.W.Frag} {σ : L2.St} {H H' : Hp} {ta tb te tx td tl : TE} {t u tz : TS} {De : Ends} {C : Addr} {a : HA} {S : Stt}
/-- [e for x in tuple if t] -/
theorem en_lcT {tt : TT} {α : Type} (xs : List α) (c : α → D) (f : α → Bool) (g : α → D) {j : Nat} {vs : List Nat} (h : EvD tl σ H (.tup (xs.map c))) (hl : xs.length ≤ 1000000) (hn : ∀ x ∈ xs, (g x).nl = true)
    (hw : ∀ x, wipe ((wipe σ vs).set j (some x)) vs = wipe σ vs)
    (hb : ∀ x ∈ xs, ∀ v H1, Same H H1 → At H1 (c x) v → EvT tt ((wipe σ vs).set j (some v)) H1 (f x) ∧ (f x = true → EvD te ((wipe σ vs).set j (some v)) H1 (g x))) :
    EvN (tLc (iTup K tl) (gName j) tt te vs) σ H ((xs.filter f).map g) := fun H0 s Q q => h H0 s _ fun v H1 s1 av => by
  cases av with
  | @tup A ws _ hp hs =>
    have lw : ws.length = xs.length := by rw [← hs.length, List.length_map]
    refine ⟨_, rfl, ⟨_, SqT.of hp⟩, fun L hL => lc_it (walk_tup (K := K) (xs := ws)) (Lw H1 L f g xs) (lw_start hL) (fun i H' _ p => SqT.of (p.2.1 _ _ hp)) (fun i v H' H2 hi p y => ?_) (fun H' p => ?_)⟩
    · obtain ⟨rfl, hv⟩ := y
      obtain ⟨x, hx, ax⟩ := getElem_map hs hv
      obtain ⟨b1, b2⟩ := hb x (List.mem_of_getElem? hx) v _ ((s.trans s1).trans p.2.1) (ax.mono p.2.1)
      exact ⟨hw v, lw_turn hx hl hn p b1 b2⟩
    · obtain ⟨p1, p2, acc, p3, p4⟩ := p
      rw [lw, List.take_of_length_le (Nat.le_refl _)] at p4
      exact q L acc H' (fresh_back s1 p1) (s1.trans p2) p3 p4
theorem q_if3 {c : TT} {b : Bool} (R : L2.St → Hp → Prop) (h : EvT c σ H b) (k : ∀ σ' G, R σ' G → tz De σ' G) (h1 : b = true → (∀ σ' G, R σ' G → tz De σ' G) → ∀ H1, Same H H1 → t { De with nx := tz De } σ H1)
    (h2 : b = false → (∀ σ' G, R σ' G → tz De σ' G) → ∀ H1, Same H H1 → u { De with nx := tz De } σ H1) : tSeq (tIfS c t u) tz De σ H := q_if h (fun e => h1 e k) fun e => h2 e k
theorem q_ifN3 {c : TT} {b : Bool} (R : L2.St → Hp → Prop) (h : EvT c σ H b) (k : ∀ σ' G, R σ' G → tz De σ' G) (h1 : b = true → (∀ σ' G, R σ' G → tz De σ' G) → ∀ H1, Same H H1 → t { De with nx := tz De } σ H1)
    (h2 : b = false → ∀ H1, Same H H1 → R σ H1) : tSeq (tIfS c t tNext) tz De σ H := q_if h (fun e => h1 e k) fun e H1 s => k σ H1 (h2 e H1 s)
theorem s_asgN {ds : List D} {i : Nat} (h : EvN te σ H ds) (k : ∀ p vs H1, H p = none → Same H H1 → H1 p = some (.lst vs) → Ats H1 ds vs → De.nx (σ.set i (some (.ref p))) H1) : tAsg te (gName i) De σ H := h H (Same.refl H) _ k
theorem HouseAt.app {l : Addr} {xs ys : List V} (h : HouseAt C H a S) (n : l ∉ a.all) (hl : H l = some (.lst xs)) : HouseAt C (upd H l (.lst ys)) a S :=
  h.keep (fun x hx o q => by rw [upd_ne (show x ≠ l from fun z => n (z ▸ hx))]; exact q) (upd_tle hl)
theorem StAt.app {b : SA} {l : Addr} {xs ys : List V} (h : StAt H b S) (n : l ∉ b.all) (hl : H l = some (.lst xs)) : StAt (upd H l (.lst ys)) b S :=
  h.keep (fun x hx o q => by rw [upd_ne (show x ≠ l from fun z => n (z ▸ hx))]; exact q) (upd_tle hl)
theorem mv_app {A : List Addr} {l : Addr} {xs ys : List V} {H1 : Hp} (s : Same H H1) (hl : H1 l = some (.lst xs)) (hA : l ∈ A) : Mv A A H (upd H1 l (.lst ys)) := mv_upd s hA hl fun _ z => nomatch z
end
end Ho

set_option Elab.async false
set_option linter.all false
set_option maxRecDepth 100000
set_option maxHeartbeats 4000000
/-! N3: tuples put together, slices of tuples, of any kind. -/
namespace Ho
open PySem PySem.Spec PyProof.Rows L2
section
variable {X : Cx} (K : PySem.W.Frag) {σ : L2.St} {H H' : Hp} {ta tb te : TE}
theorem catAK (hK : X.K = K := by rfl) : OpR X (binaryOp .Add) (rCatA K) := hK ▸ op_catA
theorem slAK (hK : X.K = K := by rfl) : SlR X (rSlA K) := hK ▸ sl_tupA
variable {K}
theorem ev_catA {ds es : List D} (ha : EvD ta σ H (.tup ds)) (hb : EvD tb σ H (.tup es)) (hl : ds.length + es.length ≤ 10000000) : EvD (tOp (rCatA K) ta tb) σ H (.tup (ds ++ es)) :=
  ev_op ha hb fun x y H1 _ ax ay Q q => by
    cases ax with
    | @tup a vs _ hp hs => cases ay with
      | @tup b ws _ hp2 hs2 =>
        refine ⟨_, _, vs, ws, rfl, rfl, SqT.of hp, SqT.of hp2, by rw [← hs.length, ← hs2.length]; exact sz_of hl, fun z => ?_, fun _ z => ?_, fun _ _ p hp3 => q _ _ (Same.new hp3) (.tup upd_same ((hs.mono (Same.new hp3)).app (hs2.mono (Same.new hp3))))⟩
        · subst z
          cases hs
          exact q _ H1 (Same.refl H1) (.tup hp2 hs2)
        · subst z
          cases hs2
          rw [List.append_nil] at q
          exact q _ H1 (Same.refl H1) (.tup hp hs)
/-- t[1:], t of one item or more -/
theorem ev_slT1 {d : D} {ds : List D} (h : EvD te σ H (.tup (d :: ds))) : EvD (tSl (rSlA K) te (tPart (tC (.int 1))) tNoPart) σ H (.tup ds) := fun H1 s Q q =>
  h H1 s _ fun v H2 s2 av => by
    cases av with
    | @tup a vs _ hp hs =>
      cases hs with
      | @cons _ v _ vs hv hs =>
        refine ⟨1, rfl, a, _, rfl, SqT.of hp, fun z => ?_, fun _ p hp3 => ?_⟩
        · have z1 := z.1
          simp [HT.sIx] at z1
        · refine q _ _ (s2.trans (Same.new hp3)) (.tup upd_same ?_)
          have e : cutV (v :: vs) (some 1) none = vs := by
            unfold cutV
            simp [HT.sIx]
          rw [e]
          exact hs.mono (Same.new hp3)
/-- t[:-1], t of one item or more -/
theorem ev_slTi {d : D} {ds : List D} {tn : TE} (hn : EvD tn σ H (.int (-1))) (h : EvD te σ H (.tup (ds ++ [d]))) : EvD (tSl (rSlA K) te tNoPart (tPart tn)) σ H (.tup ds) := fun H1 s Q q =>
  h H1 s _ fun v H2 s2 av => hn H2 (s.trans s2) _ fun w H3 s3 aw => by
    cases aw
    cases av with
    | @tup a vs _ hp hs =>
      have hs := hs.mono s3
      have hl : vs.length = ds.length + 1 := by rw [← hs.length, List.length_append]; rfl
      refine ⟨-1, rfl, a, _, rfl, SqT.of (s3 _ _ hp), fun z => ?_, fun _ p hp3 => ?_⟩
      · have z2 := z.2
        simp [HT.sIx] at z2
        omega
      · refine q _ _ ((s2.trans s3).trans (Same.new hp3)) (.tup upd_same ?_)
        have e : cutV vs none (some (-1)) = vs.take ds.length := by
          unfold cutV
          simp [HT.sIx]
          congr 1
          omega
        rw [e]
        have z := (hs.mono (Same.new (o := .tup (vs.take ds.length)) hp3)).take ds.length
        rw [List.take_left] at z
        exact z
theorem ev_neg {i : Int} (h : EvD te σ H (.int i)) : EvD (tUn (rU fun i => .int (-i)) te) σ H (.int (-i)) := fun H1 s Q q =>
  h H1 s _ fun v H2 s2 av => by
    cases av
    exact ⟨i, rfl, q _ H2 s2 (.int _)⟩
end
end Ho

set_option Elab.async false
set_option linter.all false
set_option maxRecDepth 100000
set_option maxHeartbeats 4000000
/-! F1: steps of the laws over the whole. -/
namespace Ho
open PySem PySem.Spec PyProof.Rows L2
section
variable {P : Program} {w : World} {K : PySem.W.Frag} {mg : Str → Option Value} {base : Heap} {σ : L2.St} {H H' : Hp} {ta tb te tx td tl : TE} {a : HA} {b : SA} {S S' : Stt} {E E' : XK} {De : Ends} {tz : TS}
/-- a deed is drawn -/
theorem q_deed {t : Nat} {c : Int} {ws : List Str} {tc ts tw : TE} {i : Nat} (B : Both K H a b S t) (ht : t ≤ 44) (hc : EvD tc σ H (.int c)) (hs : EvD ts σ H (.ref b.p)) (hw : EvD tw σ H (.tup (ws.map D.str))) (wne : ws ≠ []) (wok : ∀ x ∈ ws, x ∈ words12)
    (k : ∀ d : Deed, d.ok S → d.fine → (d.word ∈ ws ∨ d.word = "move") → ∀ v H1, Same H H1 → At H1 d.D v → tz De (σ.set i (some v)) H1) (cp : cpOk ws := by first | exact trivial | decide) :
    tSeq (tAsg (tCallF (sp_law_deed K) E (tCons tc (tCons ts (tCons tw tNil)))) (gName i)) tz De σ H := by
  refine q_asgC (ea_cons hc (ea_cons hs (ea_cons hw ea_nil))) fun vs G sg as => ?_
  cases as with | cons c1 as => ?_
  cases as with | cons c2 as => ?_
  cases as with | cons c3 as => ?_
  cases as; cases c1; cases c2
  cases c3 with
  | @tup wa us _ hp hs2 =>
    cases hs2.strs
    exact ⟨b, S, c, wa, ws, rfl, B.s.mono sg, B.fit.wf ht, B.fit.inv.c0, hp, wne, wok, cp, fun d hd hf hw v H2 s2 ad => k d hd hf hw v H2 (sg.trans s2) ad⟩
/-- it is told of the house -/
theorem g_told {d : Deed} {Q : VK} {th td : TE} (h : HouseAt (cH K) H a S) (wf : S.Wf) (inv : S.Inv) (ok : d.ok S) (h0 : EvD th σ H (.ref a.p)) (hd : EvD td σ H d.D)
    (k : ∀ u a2 H2, a2.p = a.p → HouseAt (cH K) H2 a2 (S.deed d).2 → Mv a.all a2.all H H2 → At H2 (S.deed d).1.told u → Q u H2) : tCallF (sp_law_told K) E (tCons th (tCons td tNil)) σ H Q := by
  refine c_call (ea_cons h0 (ea_cons hd ea_nil)) fun vs G sg as => ?_
  cases as with | cons c1 as => ?_
  cases as with | cons c2 as => ?_
  cases as; cases c1
  exact ⟨a, S, d, _, rfl, c2, h.mono sg, wf, inv, deed_wlen ok, fun u a2 H2 e h2 m au => k u a2 H2 e h2 ((Mv.of sg).trans m) au⟩
/-- .. and of the law's state -/
theorem g_do {d : Deed} {Q : VK} {th td : TE} (h : StAt H b S) (wf : S.Wf) (inv : S.Inv) (ok : d.ok S) (h0 : EvD th σ H (.ref b.p)) (hd : EvD td σ H d.D)
    (k : ∀ u b2 H2, b2.p = b.p → StAt H2 b2 (S.deed d).2 → Mv b.all b2.all H H2 → At H2 (S.deed d).1.told u → Q u H2) : tCallF (sp_law_do K) E (tCons th (tCons td tNil)) σ H Q := by
  refine c_call (ea_cons h0 (ea_cons hd ea_nil)) fun vs G sg as => ?_
  cases as with | cons c1 as => ?_
  cases as with | cons c2 as => ?_
  cases as; cases c1
  exact ⟨b, S, d, _, rfl, c2, h.mono sg, wf, inv, deed_wlen ok, fun u b2 H2 e h2 m au => k u b2 H2 e h2 ((Mv.of sg).trans m) au⟩
/-- told, then done, both let go -/
theorem g_both {d : Deed} {v : V} {t i j m : Nat} {Q : Hp → Prop} (B : Both K H a b S t) (ok : d.ok S) (fine : d.fine) (ht : t ≤ 43) (e0 : σ[i]? = some (some (.ref a.p))) (e1 : σ[j]? = some (some (.ref b.p))) (e2 : σ[m]? = some (some v)) (av : At H d.D v)
    (k : ∀ a2 b2 H2, a2.p = a.p → b2.p = b.p → Both K H2 a2 b2 (S.deed d).2 (t + 1) → Mv (a.all ++ b.all) (a2.all ++ b2.all) H H2 → Q H2) :
    tCallF (sp_law_told K) E (tCons (tVar i) (tCons (tVar m) tNil)) σ H fun _ H1 => tCallF (sp_law_do K) E' (tCons (tVar j) (tCons (tVar m) tNil)) σ H1 fun _ H2 => Q H2 := by
  have wf := B.fit.wf (Nat.le_trans ht (by decide))
  have inv := B.fit.inv
  refine g_told B.h wf inv ok (ev_vr e0) (ev_var e2 av) fun u a2 H2 ea h2 m2 _ => ?_
  obtain ⟨ap2, st2⟩ := ap_h m2 B.s B.ap
  refine g_do st2 wf inv ok (ev_vr e1) (ev_var e2 (av.tle m2.tup d.D_nl)) fun u b2 H3 eb h3 m3 _ => ?_
  obtain ⟨ap3, hh3⟩ := ap_s m3 h2 ap2
  exact k a2 b2 H3 ea eb ⟨hh3, h3, ap3, B.fit.deed ht ok, B.good.deed wf inv fine⟩ (m2.left.trans m3.right)
theorem q_both {d : Deed} {v : V} {t i j m : Nat} (B : Both K H a b S t) (ok : d.ok S) (fine : d.fine) (ht : t ≤ 43) (e0 : σ[i]? = some (some (.ref a.p))) (e1 : σ[j]? = some (some (.ref b.p))) (e2 : σ[m]? = some (some v)) (av : At H d.D v)
    (k : ∀ a2 b2 H2, a2.p = a.p → b2.p = b.p → Both K H2 a2 b2 (S.deed d).2 (t + 1) → Mv (a.all ++ b.all) (a2.all ++ b2.all) H H2 → tz De σ H2) :
    tSeq (tDrop (tCallF (sp_law_told K) E (tCons (tVar i) (tCons (tVar m) tNil)))) (tSeq (tDrop (tCallF (sp_law_do K) E' (tCons (tVar j) (tCons (tVar m) tNil)))) tz) De σ H := g_both (Q := fun H2 => tz De σ H2) B ok fine ht e0 e1 e2 av k
theorem s_both {d : Deed} {v : V} {t i j m : Nat} (B : Both K H a b S t) (ok : d.ok S) (fine : d.fine) (ht : t ≤ 43) (e0 : σ[i]? = some (some (.ref a.p))) (e1 : σ[j]? = some (some (.ref b.p))) (e2 : σ[m]? = some (some v)) (av : At H d.D v)
    (k : ∀ a2 b2 H2, a2.p = a.p → b2.p = b.p → Both K H2 a2 b2 (S.deed d).2 (t + 1) → Mv (a.all ++ b.all) (a2.all ++ b2.all) H H2 → De.nx σ H2) :
    tSeq (tDrop (tCallF (sp_law_told K) E (tCons (tVar i) (tCons (tVar m) tNil)))) (tDrop (tCallF (sp_law_do K) E' (tCons (tVar j) (tCons (tVar m) tNil)))) De σ H := g_both (Q := fun H2 => De.nx σ H2) B ok fine ht e0 e1 e2 av k
/-- for i, x in enumerate(a new list) -/
theorem s_forEn {ds : List D} {i j : Nat} {t : TS} (h : EvN tl σ H ds) (k : ∀ L vs H1, H L = none → Same H H1 → H1 L = some (.lst vs) → Ats H1 ds vs → ∃ Pv : Nat → L2.St → Hp → Prop, Pv 0 σ H1 ∧ (∀ n σ' H', Pv n σ' H' → H' L = some (.lst vs)) ∧
      (∀ n v σ' H' H2, vs[n]? = some v → Pv n σ' H' → Same H' H2 → t { De with nx := Pv (n + 1), ct := Pv (n + 1), bk := De.nx } ((σ'.set i (some (.int (n : Nat)))).set j (some v)) H2) ∧ ∀ σ' H', Pv vs.length σ' H' → De.nx σ' H') :
    tFor (iEnum K (tCons tl tNil)) (gTup K 2 (gCons (gName i) (gCons (gName j) gNil))) t De σ H :=
  h H (Same.refl H) _ fun p vs H1 n s hp hs => by
    obtain ⟨Pv, k1, k2, k3, k4⟩ := k _ _ H1 n s hp hs
    refine ⟨_, vs, rfl, SqL.of hp, for_it (walk_enum (K := K) (xs := vs)) Pv k1 (fun m σ' H' _ q => SqL.of (k2 m σ' H' q)) (fun m x σ' G G' hi q y => ?_) fun σ' G q => k4 σ' G q⟩
    obtain ⟨T, x, y, rfl, hT, rfl, ex, ey⟩ := y
    cases ex
    exact ⟨T, _, rfl, SqT.of upd_same, rfl, _, _, rfl, _, _, rfl, rfl, k3 m y σ' G _ ey q (Same.new hT)⟩
/-- a tuple's last item -/
theorem ev_ixTl {ds : List D} {d : D} {tn : TE} (ha : EvD ta σ H (.tup (ds ++ [d]))) (hn : EvD tn σ H (.int (-1))) : EvD (tOp (rIxT K) ta tn) σ H d :=
  ev_op ha hn fun x y H1 _ ax ay Q q => by
    cases ay
    cases ax with
    | @tup A vs _ hp hs =>
      have hl : vs.length = ds.length + 1 := by rw [← hs.length, List.length_append]; rfl
      obtain ⟨v, hv, av⟩ := hs.get (i := ds.length) (d := d) (by simp)
      refine ⟨_, _, _, v, rfl, rfl, SqT.of hp, ?_, q v H1 (Same.refl H1) av⟩
      unfold atI ixN
      rw [hl, if_neg (by decide), if_pos (by omega)]
      show vs[((-1 : Int) + ((ds.length + 1 : Nat) : Int)).toNat]? = some v
      rw [show ((-1 : Int) + ((ds.length + 1 : Nat) : Int)).toNat = ds.length by omega]
      exact hv
/-! ### deeds that are called by themselves -/
theorem q_cast {n : Int} {th tn : TE} (h : HouseAt (cH K) H a S) (wf : S.Wf) (hn : S.there n = true) (h0 : EvD th σ H (.ref a.p)) (h1 : EvD tn σ H (.int n))
    (k : ∀ a2 H2, a2.p = a.p → HouseAt (cH K) H2 a2 (S.castOff n) → Mv a.all a2.all H H2 → tz De σ H2) : tSeq (tDrop (tMethR (cH K) "cast" (sp_h_cast K) E th (tCons tn tNil))) tz De σ H :=
  c_meth h.ins (by kernel_rfl) h0 (ea_cons h1 ea_nil) fun vs H1 s as => by
    cases as with | cons b1 as => ?_
    cases as; cases b1
    refine ⟨a, S, n, rfl, h.mono s, wf, ?_⟩
    unfold Stt.cast
    rw [if_neg (by rw [hn]; decide)]
    exact fun u a2 H2 e h2 m _ => k a2 H2 e h2 ((Mv.of s).trans m)
theorem q_next {i : Nat} {th : TE} {l : List Int} (h : HouseAt (cH K) H a S) (wf : S.Wf) (inv : S.Inv) (hl : S.nextDay.1 = .val (.tup (l.map D.int))) (h0 : EvD th σ H (.ref a.p))
    (k : ∀ u a2 H2, a2.p = a.p → HouseAt (cH K) H2 a2 S.nextDay.2 → Mv a.all a2.all H H2 → At H2 (.tup (l.map D.int)) u → tz De (σ.set i (some u)) H2) : tSeq (tAsg (tMethF0 (cH K) "next_day" (sp_h_next_day K) E th) (gName i)) tz De σ H :=
  c_meth0 h.ins (by kernel_rfl) h0 fun H1 s => by
    refine ⟨a, S, rfl, h.mono s, wf, inv, ?_⟩
    unfold Res
    rw [hl]
    exact fun u a2 H2 e h2 m au => k u a2 H2 e h2 ((Mv.of s).trans m) au
/-! ### what the house tells, in signs -/
theorem shp_os {o : Option Str} {n : Nat} (h : ∀ t, o = some t → txN t) : D.shp n (os o) := by
  cases o with
  | none => cases n <;> exact trivial
  | some t => cases n <;> exact tx_str (h t rfl)
theorem shp_oi {o : Option Int} {n : Nat} : D.shp n (oi o) := by cases o <;> cases n <;> exact trivial
theorem shp_nm {s : Str} {n : Nat} (h : okN s) : D.shp n (.str s) := by cases n <;> exact ok_str h
theorem shp_int {i : Int} {n : Nat} : D.shp n (.int i) := by cases n <;> exact trivial
theorem shp_cons {n : Nat} {d : D} {l : List D} (h : D.shp n d) (k : ∀ e ∈ l, D.shp n e) : ∀ e ∈ d :: l, D.shp n e := fun e he => by
  rcases List.mem_cons.mp he with z | z
  · rw [z]; exact h
  · exact k e z
theorem shp_nil {n : Nat} : ∀ e ∈ ([] : List D), D.shp n e := fun e he => absurd he List.not_mem_nil
theorem shp_row {n : Int} {r : Rw} {m : Nat} (h1 : okN r.nm) (h2 : ∀ t, r.tx = some t → txN t) : D.shp (m + 1) (rowD n r) := shp_tup (shp_cons shp_int (shp_cons shp_oi (shp_cons (shp_nm h1) (shp_cons (shp_os h2) shp_nil))))
theorem shp_things (sg : S.Sg) : D.shp 2 (.tup S.thingsL) := shp_tup fun d hd => by
  obtain ⟨p, hp, rfl⟩ := List.mem_map.mp hd
  have hp := (List.mem_filter.mp hp).1
  exact shp_row (sg.nc p hp) (sg.tc p hp)
theorem shp_inner (sg : S.Sg) (n : Int) : D.shp 2 (.tup (S.innerL n)) := shp_tup fun d hd => by
  obtain ⟨p, hp, rfl⟩ := List.mem_map.mp hd
  have hp := (List.mem_filter.mp hp).1
  exact shp_row (sg.nc p hp) (sg.tc p hp)
theorem shp_shelf (sg : S.Sg) (hk : ∀ c ∈ S.casts, c.1 ∈ S.keys) : D.shp 2 (.tup S.shelfL) := shp_tup fun d hd => by
  obtain ⟨c, hc, rfl⟩ := List.mem_map.mp hd
  exact shp_tup (shp_cons shp_int (shp_cons (shp_nm (sg.rw (hk c hc)).1) (shp_cons shp_int (shp_cons shp_int shp_nil))))
theorem shp_ints {l : List Int} {m : Nat} : D.shp (m + 1) (.tup (l.map D.int)) := shp_tup fun d hd => by
  obtain ⟨p, _, rfl⟩ := List.mem_map.mp hd
  exact shp_int
theorem shp_told {o : Out} (h : ∀ d, o = .val d → D.shp 2 d) : D.shp 2 o.told := by
  cases o with
  | val d => exact h d rfl
  | err k => exact (show PyData.strOk k.word = true by cases k <;> decide +kernel)
end
end Ho

set_option Elab.async false
set_option linter.all false
set_option maxRecDepth 100000
set_option maxHeartbeats 4000000
/-! M24: what a deed tells. -/
namespace Ho
open PySem PySem.Spec PyProof.Rows L2
def plainV (x : D) : Prop := x = .non ∨ (∃ i, x = .int i) ∨ ∃ l : List Int, x = .tup (l.map D.int)
section
variable {S : Stt}
theorem deed_val {d : Deed} {x : D} (h : (S.deed d).1 = .val x) : plainV x := by
  have nn : ∀ {y : D}, Out.val .non = .val y → plainV y := fun e => by cases e; exact .inl rfl
  have ii : ∀ {i : Int} {y : D}, Out.val (.int i) = .val y → plainV y := fun e => by cases e; exact .inr (.inl ⟨_, rfl⟩)
  have ee : ∀ {k : Kd} {y : D}, Out.err k = .val y → plainV y := fun e => nomatch e
  cases d with
  | make p nm b =>
    have h : (S.make p nm b).1 = .val x := h
    unfold Stt.make at h
    by_cases c : S.noBox p = true
    · rw [if_pos c] at h; exact ee h
    rw [if_neg c] at h
    by_cases c2 : nm ∈ S.names p none
    · rw [if_pos c2] at h; exact ee h
    rw [if_neg c2] at h; exact ii h
  | rename n nm =>
    have h : (S.rename n nm).1 = .val x := h
    unfold Stt.rename at h
    by_cases c : S.there n = false
    · rw [if_pos c] at h; exact ee h
    rw [if_neg c] at h
    by_cases c2 : nm ∈ S.names (S.rw n).par (some n)
    · rw [if_pos c2] at h; exact ee h
    rw [if_neg c2] at h; exact nn h
  | move n p =>
    have h : (S.move n p).1 = .val x := h
    unfold Stt.move at h
    by_cases c : S.there n = false
    · rw [if_pos c] at h; exact ee h
    rw [if_neg c] at h
    by_cases c2 : S.noBox p = true
    · rw [if_pos c2] at h; exact ee h
    rw [if_neg c2] at h
    by_cases c3 : ∃ x ∈ S.within n, p = some x
    · rw [if_pos c3] at h; exact ee h
    rw [if_neg c3] at h
    by_cases c4 : (S.rw n).nm ∈ S.names p (some n)
    · rw [if_pos c4] at h; exact ee h
    rw [if_neg c4] at h; exact nn h
  | copy n p =>
    have h : (S.copy n p).1 = .val x := h
    unfold Stt.copy at h
    by_cases c : S.there n = false
    · rw [if_pos c] at h; exact ee h
    rw [if_neg c] at h
    by_cases c2 : S.noBox p = true
    · rw [if_pos c2] at h; exact ee h
    rw [if_neg c2] at h
    by_cases c3 : S.usedThere + S.signs (S.within n) > S.room
    · rw [if_pos c3] at h; exact ee h
    rw [if_neg c3] at h; exact ii h
  | write n t =>
    have h : (S.write n t).1 = .val x := h
    unfold Stt.write at h
    by_cases c : S.there n = false
    · rw [if_pos c] at h; exact ee h
    rw [if_neg c] at h
    cases e : (S.rw n).tx with
    | none => rw [e] at h; exact ee h
    | some o =>
      rw [e] at h
      dsimp only at h
      by_cases c3 : S.usedThere + ((t.length : Int) - (o.length : Int)) > S.room
      · rw [if_pos c3] at h; exact ee h
      rw [if_neg c3] at h; exact nn h
  | tie y z =>
    have h : (S.tie y z).1 = .val x := h
    unfold Stt.tie at h
    by_cases c : S.there y = false ∨ S.there z = false
    · rw [if_pos c] at h; exact ee h
    rw [if_neg c] at h
    by_cases c2 : y = z
    · rw [if_pos c2] at h; exact ee h
    rw [if_neg c2] at h; exact nn h
  | untie y z =>
    have h : (S.untie y z).1 = .val x := h
    unfold Stt.untie at h
    by_cases c : S.there y = false ∨ S.there z = false
    · rw [if_pos c] at h; exact ee h
    rw [if_neg c] at h
    by_cases c2 : (y, z) ∉ S.ties
    · rw [if_pos c2] at h; exact ee h
    rw [if_neg c2] at h; exact nn h
  | cast n =>
    have h : (S.cast n).1 = .val x := h
    unfold Stt.cast at h
    by_cases c : S.there n = false
    · rw [if_pos c] at h; exact ee h
    rw [if_neg c] at h; exact nn h
  | back n =>
    have h : (S.back n).1 = .val x := h
    unfold Stt.back at h
    by_cases c : n ∉ S.casts.map (·.1)
    · rw [if_pos c] at h; exact ee h
    rw [if_neg c] at h; exact nn h
  | gone n =>
    have h : (S.gone n).1 = .val x := h
    unfold Stt.gone at h
    by_cases c : n ∉ S.casts.map (·.1)
    · rw [if_pos c] at h; exact ee h
    rw [if_neg c] at h; exact nn h
  | empty => exact ii h
  | nextDay =>
    have h : Out.val _ = .val x := h
    cases h
    exact .inr (.inr ⟨_, rfl⟩)
theorem copy_ok {d : Deed} (ok : d.ok S) (h : d.word = "copy") : S.rows.length ≤ 12 := by
  cases d with
  | copy n p => exact ok
  | make p nm b => exact absurd h (by show ¬ (("make" : Str) = "copy"); decide)
  | rename n nm => exact absurd h (by show ¬ (("rename" : Str) = "copy"); decide)
  | move n p => exact absurd h (by show ¬ (("move" : Str) = "copy"); decide)
  | write n t => exact absurd h (by show ¬ (("write" : Str) = "copy"); decide)
  | tie x y => exact absurd h (by show ¬ (("tie" : Str) = "copy"); decide)
  | untie x y => exact absurd h (by show ¬ (("untie" : Str) = "copy"); decide)
  | cast n => exact absurd h (by show ¬ (("cast" : Str) = "copy"); decide)
  | back n => exact absurd h (by show ¬ (("back" : Str) = "copy"); decide)
  | gone n => exact absurd h (by show ¬ (("gone" : Str) = "copy"); decide)
  | empty => exact absurd h (by show ¬ (("empty" : Str) = "copy"); decide)
  | nextDay => exact absurd h (by show ¬ (("next_day" : Str) = "copy"); decide)
end
end Ho

set_option Elab.async false
set_option linter.all false
set_option maxRecDepth 100000
set_option maxHeartbeats 4000000
/-! F2: more steps: all that a house tells, kept while deeds are done. -/
namespace Ho
open PySem PySem.Spec PyProof.Rows L2
section
variable {P : Program} {w : World} {K : PySem.W.Frag} {mg : Str → Option Value} {base : Heap} {σ : L2.St} {H H' : Hp} {ta tb te tx td tl : TE} {a : HA} {b : SA} {S S' : Stt} {E E' : XK} {De : Ends} {tz t u : TS}
/-- arguments, the last of them a new list -/
def EvAL (ta : TA) (σ : L2.St) (H : Hp) (ds es : List D) : Prop := ∀ H1, Same H H1 → ∀ Q : List V → Hp → Prop, (∀ vs L H2, H1 L = none → Same H1 H2 → LAt H2 L es → Ats H2 (ds ++ [.ref L]) vs → Q vs H2) → ta σ H1 Q
theorem eal_one {es : List D} (h : EvN te σ H es) : EvAL (tCons te tNil) σ H [] es := fun H1 s Q q => h H1 s _ fun p vs H2 n s2 hp as => q _ p H2 n s2 ⟨vs, hp, as⟩ (.cons (.ref p) .nil)
theorem eal_cons {tr : TA} {d : D} {ds es : List D} (h : EvD te σ H d) (hr : EvAL tr σ H ds es) : EvAL (tCons te tr) σ H (d :: ds) es := fun H1 s Q q =>
  h H1 s _ fun v H2 s2 av => hr H2 (s.trans s2) _ fun vs L H3 n s3 l as => q _ L H3 (fresh_back s2 n) (s2.trans s3) l (.cons (av.mono s3) as)
theorem s_retTL {tr : TA} {ds es : List D} (h : EvAL tr σ H ds es) (hl : ds.length ≤ 1000) (k : ∀ v L H1, H L = none → Same H H1 → LAt H1 L es → At H1 (.tup (ds ++ [.ref L])) v → De.rt v H1) : tRet (tTup tr) De σ H :=
  h H (Same.refl H) _ fun vs L H1 n s l as => ⟨sz_of (by rw [← as.length, List.length_append]; simp; omega), fun p hp => k _ L _ n (s.trans (Same.new hp)) (l.mono (Same.new hp)) (.tup upd_same (as.mono (Same.new hp)))⟩
/-- at the end of a tuple stands a list -/
theorem at_lastL {ds es : List D} {v : V} {L : Addr} (h : At H (.tup (ds ++ [.ref L])) v) (l : LAt H L es) : At H (.tup (ds ++ [.lst es])) v := by
  cases h with
  | @tup A vs _ hp hs =>
    refine .tup hp ?_
    have key : ∀ {ds : List D} {vs : List V}, Ats H (ds ++ [.ref L]) vs → Ats H (ds ++ [.lst es]) vs := fun {ds} => by
      induction ds with
      | nil =>
        intro vs h
        cases h with
        | cons a t => cases t; cases a; exact .cons l.at .nil
      | cons d ds ih =>
        intro vs h
        cases h with
        | cons a t => exact .cons a (ih t)
    exact key hs
theorem at_fifthL {d1 d2 d3 d4 d6 : D} {es : List D} {v : V} {L : Addr} (h : At H (.tup [d1, d2, d3, d4, .ref L, d6]) v) (l : LAt H L es) : At H (.tup [d1, d2, d3, d4, .lst es, d6]) v := by
  cases h with
  | tup hp hs =>
    cases hs with | cons a1 hs => ?_
    cases hs with | cons a2 hs => ?_
    cases hs with | cons a3 hs => ?_
    cases hs with | cons a4 hs => ?_
    cases hs with | cons a5 hs => ?_
    cases a5
    exact .tup hp (.cons a1 (.cons a2 (.cons a3 (.cons a4 (.cons l.at hs)))))
theorem lat_mv {A A' : List Addr} {L : Addr} {ds : List D} (m : Mv A A' H H') (h : LAt H L ds) (n : L ∉ A) (nl : nls ds = true) : LAt H' L ds := h.keep (fun o q => m.keep _ _ n q) m.tup nl
/-! ### tests, open -/
theorem ifNe_of {r : R2} {t1 : TE} {sp : Sp} {t2 : TA} (h : t1 σ H fun x H1 => tCallF sp E t2 σ H1 fun y H2 => r x y H2 fun v H3 => ∃ k, v = .bl k ∧ (if k = true then t De σ H3 else u De σ H3)) :
    tIfS (tTest (tOp r t1 (tCallF sp E t2))) t u De σ H := h
theorem q_ifNe_of {r : R2} {t1 : TE} {sp : Sp} {t2 : TA} (h : t1 σ H fun x H1 => tCallF sp E t2 σ H1 fun y H2 => r x y H2 fun v H3 => ∃ k, v = .bl k ∧ (if k = true then t { De with nx := tz De } σ H3 else u { De with nx := tz De } σ H3)) :
    tSeq (tIfS (tTest (tOp r t1 (tCallF sp E t2))) t u) tz De σ H := h
theorem q_told {d : Deed} {th td : TE} {i : Nat} (h : HouseAt (cH K) H a S) (wf : S.Wf) (inv : S.Inv) (ok : d.ok S) (h0 : EvD th σ H (.ref a.p)) (hd : EvD td σ H d.D)
    (k : ∀ u a2 H2, a2.p = a.p → HouseAt (cH K) H2 a2 (S.deed d).2 → Mv a.all a2.all H H2 → At H2 (S.deed d).1.told u → tz De (σ.set i (some u)) H2) : tSeq (tAsg (tCallF (sp_law_told K) E (tCons th (tCons td tNil))) (gName i)) tz De σ H :=
  g_told (Q := fun u H2 => tz De (σ.set i (some u)) H2) h wf inv ok h0 hd k
theorem q_ifO {c : TT} (h : c σ H fun b H1 => if b = true then t { De with nx := tz De } σ H1 else u { De with nx := tz De } σ H1) : tSeq (tIfS c t u) tz De σ H := h
theorem s_ifO {c : TT} (h : c σ H fun b H1 => if b = true then t De σ H1 else u De σ H1) : tIfS c t u De σ H := h
/-- told(..) is not None: it is None -/
theorem tt_told {d : Deed} {th td : TE} {Q : Bool → Hp → Prop} (h : HouseAt (cH K) H a S) (wf : S.Wf) (inv : S.Inv) (ok : d.ok S) (e : S.deed d = (.val .non, S')) (h0 : EvD th σ H (.ref a.p)) (hd : EvD td σ H d.D)
    (k : ∀ a2 H2, a2.p = a.p → HouseAt (cH K) H2 a2 S' → Mv a.all a2.all H H2 → Q false H2) : tTest (tOp (fun x y H Q => y = .non ∧ Q (.bl (!decide (x = .non))) H) (tCallF (sp_law_told K) E (tCons th (tCons td tNil))) (tC .non)) σ H Q :=
  g_told h wf inv ok h0 hd fun v a2 H2 ea h2 m av => by
    rw [e] at h2 av
    cases av
    exact ⟨rfl, false, rfl, k a2 H2 ea h2 m⟩
theorem s_forT {ds : List D} {g : TG} (h : EvD tl σ H (.tup ds)) (k : ∀ a vs H1, Same H H1 → H1 a = some (.tup vs) → Ats H1 ds vs → ∃ Pv : Nat → L2.St → Hp → Prop, Pv 0 σ H1 ∧ (∀ i σ' H', Pv i σ' H' → H' a = some (.tup vs)) ∧
      (∀ i v σ' H', vs[i]? = some v → Pv i σ' H' → g v σ' H' fun σ2 H2 => t { De with nx := Pv (i + 1), ct := Pv (i + 1), bk := De.nx } σ2 H2) ∧ ∀ σ' H', Pv vs.length σ' H' → De.nx σ' H') : tFor (iTup K tl) g t De σ H :=
  q_forT (tz := fun D => D.nx) (De := De) h k
theorem or_f {c1 c2 : TT} {Q : Bool → Hp → Prop} (h : EvT c1 σ H false) (k : ∀ H1, Same H H1 → c2 σ H1 Q) : tOr c1 c2 σ H Q := h H (Same.refl H) _ fun H1 s => k H1 s
theorem or_g {c1 c2 : TT} {Q : Bool → Hp → Prop} (h : c1 σ H fun b H1 => if b = true then Q true H1 else c2 σ H1 Q) : tOr c1 c2 σ H Q := h
/-! ### what is told, in signs -/
theorem shp_plain {x : D} (h : plainV x) : D.shp 2 x := by
  rcases h with rfl | ⟨i, rfl⟩ | ⟨l, rfl⟩
  · exact trivial
  · exact trivial
  · exact shp_ints
theorem shp_deed (d : Deed) : D.shp 2 (S.deed d).1.told := shp_told fun x e => shp_plain (deed_val e)
theorem told_nl (d : Deed) : (S.deed d).1.told.nl = true := by
  cases e : (S.deed d).1 with
  | err k => rfl
  | val x =>
    show x.nl = true
    rcases deed_val e with rfl | ⟨i, rfl⟩ | ⟨l, rfl⟩
    · rfl
    · rfl
    · show nls (l.map D.int) = true
      exact nls_map _ (fun _ => rfl) _
theorem things_pick {j : Nat} (nd : S.keys.Nodup) (h : j < S.thingsL.length) : ∃ n, S.there n = true ∧ S.thingsL[j]? = some (rowD n (S.rw n)) := by
  have e : S.thingsL[j]? = some S.thingsL[j] := List.getElem?_eq_getElem h
  have m : S.thingsL[j] ∈ S.thingsL := List.getElem_mem h
  obtain ⟨p, hp, ep⟩ := List.mem_map.mp m
  obtain ⟨h1, h2⟩ := List.mem_filter.mp hp
  refine ⟨p.1, by rw [there_row nd h1]; exact h2, ?_⟩
  rw [e, ← ep, rw_row nd h1]
theorem q_back {n : Int} {th tn : TE} (h : HouseAt (cH K) H a S) (wf : S.Wf) (inv : S.Inv) (hn : n ∈ S.casts.map (·.1)) (h0 : EvD th σ H (.ref a.p)) (h1 : EvD tn σ H (.int n))
    (k : ∀ a2 H2, a2.p = a.p → HouseAt (cH K) H2 a2 (S.bringBack n) → Mv a.all a2.all H H2 → tz De σ H2) : tSeq (tDrop (tMethR (cH K) "back" (sp_h_back K) E th (tCons tn tNil))) tz De σ H :=
  c_meth h.ins (by kernel_rfl) h0 (ea_cons h1 ea_nil) fun vs H1 s as => by
    cases as with | cons b1 as => ?_
    cases as; cases b1
    refine ⟨a, S, n, rfl, h.mono s, wf, inv, ?_⟩
    unfold Stt.back
    rw [if_neg (by simpa using hn)]
    exact fun u a2 H2 e h2 m _ => k a2 H2 e h2 ((Mv.of s).trans m)
theorem q_doD {d : Deed} {th td : TE} (h : StAt H b S) (wf : S.Wf) (inv : S.Inv) (ok : d.ok S) (h0 : EvD th σ H (.ref b.p)) (hd : EvD td σ H d.D)
    (k : ∀ b2 H2, b2.p = b.p → StAt H2 b2 (S.deed d).2 → Mv b.all b2.all H H2 → tz De σ H2) : tSeq (tDrop (tCallF (sp_law_do K) E (tCons th (tCons td tNil)))) tz De σ H :=
  g_do (Q := fun _ H2 => tz De σ H2) h wf inv ok h0 hd fun _ b2 H2 e h2 m _ => k b2 H2 e h2 m
/-- a comprehension over the things that are there -/
theorem en_rows {tt : TT} (wf : S.Wf) (g : Int × Rw → D) {j : Nat} {vs : List Nat} (h : EvD tl σ H (.tup S.thingsL)) (hn : ∀ x, (g x).nl = true)
    (hw : ∀ x, wipe ((wipe σ vs).set j (some x)) vs = wipe σ vs)
    (hb : ∀ p ∈ S.rows, p.2.mrk = none → S.get p.1 = some p.2 → ∀ v H1, Same H H1 → At H1 (rowD p.1 p.2) v → EvT tt ((wipe σ vs).set j (some v)) H1 true ∧ EvD te ((wipe σ vs).set j (some v)) H1 (g p)) :
    EvN (tLc (iTup K tl) (gName j) tt te vs) σ H ((S.rows.filter fun p => p.2.mrk.isNone).map g) := by
  have ln := wf.few
  refine (en_lcT (S.rows.filter fun p => p.2.mrk.isNone) (fun p => rowD p.1 p.2) (fun _ => true) g h (Nat.le_trans (List.length_filter_le _ _) (by omega)) (fun x _ => hn x) hw fun p hp v H1 s av => ?_).is (by rw [List.filter_eq_self.mpr (by simp)])
  obtain ⟨h1, h2⟩ := List.mem_filter.mp hp
  obtain ⟨b1, b2⟩ := hb p h1 (Option.isNone_iff_eq_none.mp h2) (get_row wf.nd h1) v H1 s av
  exact ⟨b1, fun _ => b2⟩
end
end Ho

set_option Elab.async false
set_option linter.all false
set_option maxRecDepth 100000
set_option maxHeartbeats 4000000
/-! N1: a method's call within a try, its error wished for at the slots. -/
namespace Ho
open PySem PySem.Spec PyProof.Rows L2
def tMethRS (C : Addr) (m : Str) (sp : Sp) (W : WX) (ta : TE) (t : TA) : TE := fun σ H Q => ta σ H fun x H1 => ∃ a dx fs, x = .ref a ∧ H1 a = some (.ins C dx fs) ∧ fs.lookup m = none ∧ t σ H1 fun vs H2 => sp (x :: vs) H2 Q fun cls d H3 => W cls d σ H3
section
variable {X : Cx} {k : Nat} {f C : Addr} {sp : Sp} {m : Str} {e o : Expr} {es : List Expr} {t : TA} {ta : TE} {pos apos : Pos} {W : WX} {pl : Sem Bool}
theorem pe_methRS (he : PE X o ta) (c : Cls X.K C) (hm : Meth X.K C m f) (F : FnR X.prog X.w X.K X.mg X.base (L2.CX X.prog X.w) k f sp) (hr : Room k X.A) (tk : Takes X W) (ha : PA X (e :: es) t)
    (h1 : starEach (e :: es) X.env = (false, eval e X.env) :: starEach es X.env := by rfl) (h2 : (backTo pos (starEach es X.env)).any (·.1) = false := by rfl)
    (ht : eval (.Call (.Attribute o m apos) (e :: es) [] pos) X.env = (do
        let ov ← eval o X.env
        standAt apos.atName
        let (g, first) ← holding [ov] (getMethod ov m pl)
        callWith pos g first (backTo pos (starEach (e :: es) X.env)) (backToKw pos (keywordEach [] X.env))) := by rfl) :
    PE X (.Call (.Attribute o m apos) (e :: es) [] pos) (tMethRS C m sp W ta t) :=
  ⟨fun pins s σ H Q I h => PySem.W.methodCall_KW (pl := pl) (thn (he.run pins s σ H _ I h) fun u s1 ⟨y, H1, I1, ry, a, dx, fs, ey, ea, l, q⟩ => by
    subst ey
    cases (show u = Value.ref a from ry)
    exact getmeth_ok I1 ea c hm l (PySem.W.callWith_K (first := [.ref a]) (h₀ := X.base) I.ok.mod.kin hm.kp (thn (ha.run pos pins s1 σ H1 _ I1 q) fun us s2 ⟨vs, H2, I2, r, q2⟩ =>
      ⟨I2.kIn, wpAny_call (codeAny_mono (F X.A X.stack s2 H2 (.ref a :: us) (.ref a :: vs) Q _ hr I2.env0 (.cons rfl r) q2) fun z s' hq => by
        cases z with
        | error u => exact passAt tk σ pins H2 s2 u s' I2 hq
        | ok fl => cases fl with
          | ret u => exact I2.after hq
          | _ => exact False.elim hq)⟩) h1 h2)) ht⟩
end
end Ho

set_option Elab.async false
set_option linter.all false
set_option maxRecDepth 100000
set_option maxHeartbeats 4000000
/-! D3: paths are told. -/
namespace Ho
open PySem PySem.Spec PyProof.Rows L2
section
variable {P : Program} {w : World} {K : PySem.W.Frag} {mg : Str → Option Value} {base : Heap} {σ : L2.St} {H H' : Hp} {ta tb te tx td tl : TE} {a : HA} {S S' : Stt} {E : XK} {De : Ends} {tz : TS}
def rInsert : V → List V → Hp → VK → Prop := fun x vs H Q => ∃ (l : Addr) (xs : List V) (i : Int) (y : V), x = .ref l ∧ vs = [.int i, y] ∧ H l = some (.lst xs) ∧ xs.length < sizeLine ∧ 0 ≤ i ∧ i < 2 ^ 63 ∧ Q .non (upd H l (.lst (xs.take i.toNat ++ [y] ++ xs.drop i.toNat)))
/-- l.insert(0, e) -/
theorem q_ins0 {l : Addr} {xs : List V} {d : D} (hl : H l = some (.lst xs)) (ha : EvD ta σ H (.ref l)) (h : EvD te σ H d) (hz : xs.length < 10000000) (k : ∀ v H1, Same H H1 → At H1 d v → tz De σ (upd H1 l (.lst (v :: xs)))) :
    tSeq (tDrop (tBM K "list" rInsert ta (tCons (tC (.int 0)) (tCons te tNil)))) tz De σ H := ha H (Same.refl H) _ fun x H1 s1 ax => by
  cases ax
  refine ⟨Or.inl ⟨rfl, xs, SqL.of (s1 _ _ hl)⟩, ?_⟩
  refine h H1 s1 _ fun v H2 s2 av => ?_
  exact ⟨l, xs, 0, v, rfl, rfl, s2 _ _ (s1 _ _ hl), sz_lt hz, Int.le_refl 0, by decide, k v H2 (s1.trans s2) av⟩
def sp_h_path (K : PySem.W.Frag) : Sp := fun vs H Q E => ∃ (a : HA) (S : Stt) (n : Int), vs = [.ref a.p, .int n] ∧ HouseRd (cH K) H a S ∧ (S.there n = false → RaiE (cE K Kd.noThing.nm) H E) ∧ (∀ p, PathTo S (some n) p → p.length ≤ 1000 ∧ RetD (.tup (p.map D.str)) H Q) ∧ (S.there n = true → ∃ p, PathTo S (some n) p)
theorem sc_h_path : FnScope ["self", "number", "found", "here"] ["self", "number"] (defScope s_h_path) := ⟨rfl, rfl, rfl, by decide +kernel, rfl, by decide +kernel, by decide +kernel⟩
theorem ok_h_path (T : Tx K mg) : FnR P w K mg base (L2.CX P w) 3 (He.ma K (cH K) "path") (sp_h_path K) := by
  refine fnr (F_h_path T) sc_h_path (fun _ _ _ _ _ _ us hl => match us, hl with | [_, _], _ => rfl) (fun vs H Q E h => by obtain ⟨_, _, _, rfl, _⟩ := h; rfl) (fun cdv A outer s H vs Q E hr h => ?_)
  refine ⟨_, (pss_cons (ps_expr (pe_methR (pv 0) (T_cls T) (T_h_must T) (ok_h_must T) (hr.mono (by decide)) (passes_call (takes_of rfl rfl rfl rfl) (fun _ _ _ _ z => z)) (pa_cons (pv 1) pa_nil))) (pss_cons (ps_set (i := 2) sc_h_path.nd rfl (Or.inl rfl) (pe_lst pa_nil)) (pss_cons (ps_set (i := 3) sc_h_path.nd rfl (Or.inl rfl) (pv 1)) (pss_cons (ps_while (passes_of rfl) (pt_cmpR op_notN (pv 3) pe_non (nomark _)) (pss_cons (ps_expr (bmK K PySem.F.plainAttrs_list PySem.F.slot_list_insert PySem.F.type_list_insert mt_insert (pv 2) (pa_cons pe_int (pa_cons (pe_ix (ixtK K) (pe_dget (hu_of hr) (fldK K (pv 0)) (pv 3) (fun _ _ => rfl)) pe_int (fun _ _ => rfl)) pa_nil)))) (pss_one (ps_set (i := 3) sc_h_path.nd rfl (Or.inl rfl) (pe_ix (ixtK K) (pe_dget (hu_of hr) (fldK K (pv 0)) (pv 3) (fun _ _ => rfl)) pe_int (fun _ _ => rfl)))))) (pss_one (ps_ret (pe_callTy (tupOfK K) rfl (T_tuple T) bt_tuple (pa_cons (pv 2) pa_nil)))))))), ?_⟩
  obtain ⟨a, S, n, rfl, h, k1, k2, k3⟩ := h
  refine m_must h (ev_vr rfl) (ev_vi rfl) k1 fun q H1 s1 => ?_
  obtain ⟨p, hp⟩ := k3 q
  obtain ⟨lp, k⟩ := k2 p hp
  refine q_asgN (en_lst (ds := []) ea_nil le_lit) fun L vs H2 hL s2 h2 as => ?_
  cases as
  have hL0 : H L = none := fresh_back s1 hL
  refine q_asg (d := .int n) (ev_vi rfl) fun v H3 s3 av => ?_
  cases av
  refine q_while (fun m σ' H' => ∃ (o : Option Int) (p1 p2 : List Str), σ' = [some (.ref a.p), some (.int n), some (.ref L), some (oiV o)] ∧ Same H H' ∧ H' L = some (.lst (p2.map V.str)) ∧ PathTo S o p1 ∧ p1 ++ p2 = p ∧ m = p1.length) _ ⟨some n, p, [], rfl, (s1.trans s2).trans s3, s3 _ _ h2, hp, List.append_nil p, rfl⟩ fun m σ' H' hw => ?_
  obtain ⟨o, p1, p2, rfl, sH, hl, hpt, ep, rfl⟩ := hw
  have ll : p2.length ≤ 1000 := by
    have z := congrArg List.length ep
    rw [List.length_append] at z
    omega
  refine ⟨_, et_test (ev_notN (ev_vo rfl)), fun b H4 s4 => ?_, fun b H4 s4 => ?_⟩
  · cases hpt with
    | nil => cases b
    | @step x p1 th hpt =>
      have h4 := h.mono (sH.trans s4)
      have gx := get_rw (there_key th)
      refine q_ins0 (s4 _ _ hl) (ev_vr rfl) (e_nm T h4 gx (ev_vr rfl) (ev_vi rfl)) (by rw [List.length_map]; omega) fun v H5 s5 av => ?_
      cases av
      have s6 : Same H (upd H5 L (.lst (.str (S.rw x).nm :: p2.map V.str))) := Same.mut ((sH.trans s4).trans s5) hL0
      refine s_asg (e_par T (h.mono s6) gx (ev_vr rfl) (ev_vi rfl)) fun v H6 s7 av => ?_
      cases at_oi' av
      exact ⟨p1.length, by simp, (S.rw x).par, p1, (S.rw x).nm :: p2, rfl, s6.trans s7, s7 _ _ upd_same, hpt, by rw [← ep]; simp, rfl⟩
  · cases hpt with
    | step th hpt => cases b
    | nil =>
      have e2 : p2 = p := by rw [← ep]; rfl
      rw [← e2] at k
      exact s_ret (ev_tupOf (ev_var rfl (.lst (s4 _ _ hl) (ats_strs p2)))) (RetD.mono k (sH.trans s4))
end
end Ho

set_option Elab.async false
set_option linter.all false
set_option maxRecDepth 100000
set_option maxHeartbeats 4000000
/-! D4: where a path leads. -/
namespace Ho
open PySem PySem.Spec PyProof.Rows L2
section
variable {P : Program} {w : World} {K : PySem.W.Frag} {mg : Str → Option Value} {base : Heap} {σ : L2.St} {H H' : Hp} {ta tb te tx td tl : TE} {a : HA} {S S' : Stt} {E : XK} {De : Ends} {tz : TS}
def sp_h_at (K : PySem.W.Frag) : Sp := fun vs H Q _ => ∃ (a : HA) (S : Stt) (pa : Addr) (p : List Str), vs = [.ref a.p, .ref pa] ∧ HouseRd (cH K) H a S ∧ S.Wf ∧ H pa = some (.tup (p.map V.str)) ∧ RetD (oi (S.atL none p)) H Q
theorem sc_h_at : FnScope ["self", "path", "here", "name", "some", "row"] ["self", "path"] (defScope s_h_at) := ⟨rfl, rfl, rfl, by decide +kernel, rfl, by decide +kernel, by decide +kernel⟩
theorem ok_h_at (T : Tx K mg) : FnR P w K mg base (L2.CX P w) 3 (He.ma K (cH K) "at") (sp_h_at K) := by
  refine fnr (F_h_at T) sc_h_at (fun _ _ _ _ _ _ us hl => match us, hl with | [_, _], _ => rfl) (fun vs H Q E h => by obtain ⟨_, _, _, _, rfl, _⟩ := h; rfl) (fun cdv A outer s H vs Q E hr h => ?_)
  refine ⟨_, PSs.nox (pss_cons (ps_set (i := 2) sc_h_at.nd rfl (Or.inr rfl) pe_non) (pss_cons (ps_for PassesOwn.never rfl (pitK K (pv 1)) (pg_name (i := 3) sc_h_at.nd rfl (Or.inr rfl)) (pss_cons (ps_setLc (own := [("row", 5)]) (i := 4) rfl sc_h_at.nd rfl rfl (sw_true rfl rfl rfl (by decide +kernel)) (pitK K (pe_methF0 (pv 0) (T_cls T) (T_h_things T) (ok_h_things T) (hr.mono (by decide)) passL)) (blkOk_by (N := ["self", "path", "here", "name", "some", "row"]) (sc := defScope s_h_at) (by decide +kernel)) (fun _ _ _ _ _ => (pg_name (i := 5) sc_h_at.nd rfl (Or.inl rfl))) (fun _ _ _ _ _ => (pts_one (PW.pt (pw_and (pt_cmpR op_eq (pe_ix (ixtK K) (pv 5) pe_int (fun _ _ => rfl)) (pv 2) (nomark _)) (pw_and1 (pt_cmpR op_eq (pe_ix (ixtK K) (pv 5) pe_int (fun _ _ => rfl)) (pv 3) (nomark _))))))) (fun _ _ _ _ _ => (pe_ix (ixtK K) (pv 5) pe_int (fun _ _ => rfl)))) (pss_cons (ps_if (pt_not (truK K (pv 4))) (pss_one (ps_ret pe_non)) pss_nil) (pss_one (ps_set (i := 2) sc_h_at.nd rfl (Or.inr rfl) (pe_ix (ixlK K) (pv 4) pe_int (fun _ _ => rfl))))))) (pss_one (ps_ret (pv 2))))), ?_⟩
  obtain ⟨a, S, pa, p, rfl, h, wf, hp, k⟩ := h
  have ln := wf.few
  refine q_asg (d := .non) ev_non fun v H1 s1 av => ?_
  cases av
  refine q_forTR (ev_vr rfl) (s1 _ _ hp) fun H2 s2 => ⟨fun i σ' H' => ∃ (o : Option Int) (o3 o4 : Option V), σ' = [some (.ref a.p), some (.ref pa), some (oiV o), o3, o4, none] ∧ Same H H' ∧ S.atL o (p.drop i) = S.atL none p, ⟨none, _, _, rfl, s1.trans s2, rfl⟩, fun i σ' H' q => ?_, fun i v σ' H' hv q => ?_, fun σ' H' q => ?_⟩
  · obtain ⟨_, _, _, _, z, _⟩ := q; exact z _ _ hp
  · obtain ⟨o, o3, o4, rfl, sH, e⟩ := q
    rw [List.getElem?_map] at hv
    obtain ⟨nm, hx, ev⟩ := Option.map_eq_some_iff.mp hv
    subst ev
    have ed : p.drop i = nm :: p.drop (i + 1) := by
      have lt := (List.getElem?_eq_some_iff.mp hx).1
      have eg := (List.getElem?_eq_some_iff.mp hx).2
      rw [List.drop_eq_getElem_cons lt, eg]
    rw [ed] at e
    have h' := h.mono sH
    refine q_asgN ((en_lcT (S.rows.filter fun p => p.2.mrk.isNone) (fun p => rowD p.1 p.2) (fun p => decide (p.2.par = o) && decide (p.2.nm = nm)) (fun p => .int p.1) (e_things h' wf (ev_vr rfl)) (Nat.le_trans (List.length_filter_le _ _) (by omega)) (fun _ _ => rfl) (fun _ => rfl) fun r hr v G sg av => ?_).is (b := (S.cands o nm).map D.int) (by unfold Stt.cands; rw [List.map_map]; rfl)) fun L vs H3 hL s3 h3 as => ?_
    · exact ⟨et_and (et_test (ev_eq (ev_ixT (k := 1) (ev_var rfl av) rfl) (ev_vo rfl))) fun _ => et_test (ev_eqS (ev_ixT (k := 2) (ev_var rfl av) (d := .str r.2.nm) rfl) (ev_vs rfl)), fun _ => ev_ixT (k := 0) (ev_var rfl av) rfl⟩
    have ee := Ats.ints as
    subst ee
    rw [show S.atL o (nm :: p.drop (i + 1)) = (match S.cands o nm with | [] => none | x :: _ => S.atL (some x) (p.drop (i + 1))) from rfl] at e
    cases hc : S.cands o nm with
    | nil =>
      rw [hc] at e h3
      refine q_if (b := true) ((et_not (et_tru (d := .lst []) (ev_var rfl (.lst h3 .nil)) trivial)).is rfl) (fun _ H4 s4 => ?_) fun z => by cases z
      have e : none = S.atL none p := e
      exact s_ret ev_non (RetD.mono (by rw [← e] at k; exact k) ((sH.trans s3).trans s4))
    | cons x xs =>
      rw [hc] at e h3
      refine q_ifN (b := false) ((et_not (et_tru (d := .lst ((x :: xs).map D.int)) (ev_var rfl (.lst h3 (ats_ints _))) trivial)).is rfl) (fun z => by cases z) fun _ H4 s4 => ?_
      refine s_asg (ev_ixL (k := 0) (ev_var rfl (.lst (s4 _ _ h3) (ats_ints (x :: xs)))) ev_int rfl rfl) fun v H5 s5 av => ?_
      cases av
      exact ⟨some x, _, _, rfl, ((sH.trans s3).trans s4).trans s5, e⟩
  · obtain ⟨o, o3, o4, rfl, sH, e⟩ := q
    rw [List.length_map, List.drop_eq_nil_of_le (Nat.le_refl _)] at e
    have e : o = S.atL none p := e
    exact s_ret ((ev_vo rfl).is (by rw [e])) (RetD.mono k sH)
end
end Ho

set_option Elab.async false
set_option linter.all false
set_option maxRecDepth 100000
set_option maxHeartbeats 4000000
/-! D7: a path that is told. -/
namespace Ho
open PySem PySem.Spec PyProof.Rows L2
section
variable {P : Program} {w : World} {K : PySem.W.Frag} {mg : Str → Option Value} {base : Heap} {σ : L2.St} {H H' : Hp} {ta tb te tx td tl : TE} {a : HA} {S S' : Stt} {E : XK} {De : Ends} {tz : TS}
theorem e_path {n : Int} {t1 t2 : TE} (h : HouseRd (cH K) H a S) (wf : S.Wf) (inv : S.Inv) (hn : S.there n = true) (h1 : EvD t1 σ H (.ref a.p)) (h2 : EvD t2 σ H (.int n)) : EvD (tMethR (cH K) "path" (sp_h_path K) E t1 (tCons t2 tNil)) σ H (pD (pth S n)) :=
  ev_meth h.ins (by kernel_rfl) h1 (ea_cons h2 ea_nil) fun vs H1 s as Q q => by
    cases as with | cons a1 as => cases as; cases a1; exact ⟨a, S, n, rfl, h.mono s, fun z => (by rw [hn] at z; cases z), fun p hp => (by
      have e := path_one hp (pth_is inv hn)
      rw [e]
      exact ⟨pth_len inv wf hn, q⟩), fun _ => ⟨_, pth_is inv hn⟩⟩
end
end Ho

set_option Elab.async false
set_option linter.all false
set_option maxRecDepth 100000
set_option maxHeartbeats 4000000
/-! SN1: a set of tuples of None, ints, texts that are all unlike: one more is added. -/
namespace Ho
open PySem PySem.Spec PyProof.Rows L2
abbrev NKs := List (Option Key)
section
variable {P : Program} {w : World} {A : Around} {E : Value → Shared → Prop} {s : Shared}
abbrev nH (P : Program) (w : World) (k : NKs) : Int := tupleKeyHash (noneKind P w) k
abbrev IsN (P : Program) (w : World) (h : Heap) (k : NKs) (b : Addr) : Prop := IsTupleKey (noneKind P w) h k b
/-- an item that is no reference -/
def Flat (v : Value) : Prop := (∀ n, ofAClassStatement n v = pure false) ∧ ∃ c, ∀ n, hashByValue n v = pure c
theorem flat_of {k : Option Key} {v : Value} (h : (noneKind P w).is k v = true) : Flat v := by
  cases k with
  | none =>
    cases nk_none h
    exact ⟨fun n => by cases n <;> rfl, true, fun n => by cases n <;> rfl⟩
  | some k =>
    rcases keyIs_shape h with ⟨i, t, _, rfl⟩ | ⟨x, t, _, rfl⟩
    · exact ⟨fun n => by cases n <;> rfl, true, fun n => by cases n <;> rfl⟩
    · exact ⟨fun n => by cases n <;> rfl, false, fun n => by cases n <;> rfl⟩
theorem flats {k : NKs} {vs : List Value} (h : ItemsAre (noneKind P w) k vs) : ∀ v ∈ vs, Flat v := by
  induction h with
  | nil => exact fun v hv => absurd hv List.not_mem_nil
  | cons h1 _ ih => exact fun v hv => (List.mem_cons.mp hv).elim (fun e => e ▸ flat_of h1) (ih v)
theorem n_cls {k : NKs} {b : Addr} {Q : Bool → Shared → Prop} (hb : IsN P w s.heap k b) (q : Q false s) : wpAny (model P w) A (ofAClassStatement 8 (.ref b)) Q E s := by
  have ty := hb.typeIs
  obtain ⟨ob, xs, m, e1, _, e2, it⟩ := hb
  have fl := flats it
  unfold ofAClassStatement
  refine wpAny_bind (wpAny_typeOf ty ?_)
  dsimp only
  rw [if_pos (show (("tuple" : String) == "tuple") = true by decide)]
  try refine wpAny_bind (wpAny_pure ?_)
  try simp only [Bool.not_true, Bool.false_eq_true, if_false]
  show wpAny _ _ (seqItems? (.ref b) >>= _) _ _ s
  refine wpAny_bind (wpAny_seqItems e1 e2 ?_)
  dsimp only
  refine wpAny_bind ?_
  show wpAny _ _ (forIn xs _ _) _ _ s
  rw [← Array.forIn_toList]
  refine wpAny_forIn_list _ (fun l r s2 => s2 = s ∧ r.1 = none ∧ ∀ v ∈ l, Flat v) _ (fun v l r s2 h => ?_) (fun r s2 h => ?_) _ _ ⟨rfl, rfl, fl⟩
  · obtain ⟨rfl, hr, hl⟩ := h
    rw [(hl v List.mem_cons_self).1]
    refine wpAny_bind (wpAny_pure ?_)
    simp only [Bool.false_eq_true, if_false]
    exact wpAny_pure ⟨rfl, rfl, fun u hu => hl u (List.mem_cons_of_mem _ hu)⟩
  · obtain ⟨rfl, hr, _⟩ := h
    obtain ⟨r1, r2⟩ := r
    simp only at hr
    subst hr
    exact wpAny_pure q
theorem n_hbv {k : NKs} {b : Addr} {Q : Bool → Shared → Prop} (hb : IsN P w s.heap k b) (q : ∀ c, Q c s) : wpAny (model P w) A (hashByValue 8 (.ref b)) Q E s := by
  have ty := hb.typeIs
  obtain ⟨ob, xs, m, e1, _, e2, it⟩ := hb
  have fl := flats it
  unfold hashByValue
  refine wpAny_bind (wpAny_specialOf ty F.slot_tuple_hash.lookup ?_)
  show wpAny _ _ (seqItems? (.ref b) >>= _) _ _ s
  refine wpAny_bind (wpAny_seqItems e1 e2 ?_)
  refine wpAny_bind ?_
  show wpAny _ _ (forIn xs _ _) _ _ s
  rw [← Array.forIn_toList]
  refine wpAny_forIn_list _ (fun l r s2 => s2 = s ∧ r.1 = none ∧ ∀ v ∈ l, Flat v) _ (fun v l r s2 h => ?_) (fun r s2 h => ?_) _ _ ⟨rfl, rfl, fl⟩
  · obtain ⟨rfl, hr, hl⟩ := h
    obtain ⟨c, hc⟩ := (hl v List.mem_cons_self).2
    rw [hc]
    refine wpAny_bind (wpAny_pure ?_)
    cases c with
    | true =>
      simp only [Bool.not_true, Bool.false_eq_true, if_false]
      exact wpAny_pure ⟨rfl, rfl, fun u hu => hl u (List.mem_cons_of_mem _ hu)⟩
    | false =>
      simp only [Bool.not_false, if_true]
      exact wpAny_pure (wpAny_pure (q false))
  · obtain ⟨rfl, hr, _⟩ := h
    obtain ⟨r1, r2⟩ := r
    simp only at hr
    subst hr
    exact wpAny_pure (q true)
theorem n_seen {k : NKs} {b : Addr} {Q : Bool → Shared → Prop} (hb : IsN P w s.heap k b) {ys : List Value} (hy : ∀ y ∈ ys, ∃ j c, y = Value.ref c ∧ IsN P w s.heap j c) (q : Q false s) : wpAny (model P w) A (searchCouldBeSeen (.ref b) ys) Q E s := by
  unfold searchCouldBeSeen
  refine wpAny_bind ?_
  refine wpAny_forIn_list _ (fun l r s2 => s2 = s ∧ r.1 = none ∧ ∀ y ∈ l, ∃ j c, y = Value.ref c ∧ IsN P w s.heap j c) _ (fun y l r s2 h => ?_) (fun r s2 h => ?_) _ _ ⟨rfl, rfl, hy⟩
  · obtain ⟨rfl, hr, hl⟩ := h
    obtain ⟨j, c, rfl, hc⟩ := hl _ List.mem_cons_self
    have more : (∀ y ∈ l, ∃ j c, y = Value.ref c ∧ IsN P w s2.heap j c) := fun u hu => hl u (List.mem_cons_of_mem _ hu)
    dsimp only
    by_cases v : (b == c || (carriedByValue (.ref b) && carriedByValue (.ref c))) = true
    · exact wp_if_pos v (wpAny_pure ⟨rfl, rfl, more⟩)
    · refine wp_if_neg v ?_
      refine wpAny_bind (wpAny_eqIsQuiet_tuple hb ?_)
      simp only [Bool.not_true, Bool.false_eq_true, if_false]
      refine wpAny_bind (wpAny_eqIsQuiet_tuple hc ?_)
      simp only [Bool.not_true, Bool.false_eq_true, if_false]
      refine wpAny_bind (n_cls hb ?_)
      simp only [Bool.false_eq_true, if_false]
      refine wpAny_bind (n_cls hc ?_)
      simp only [Bool.false_eq_true, if_false]
      exact wpAny_pure ⟨rfl, rfl, more⟩
  · obtain ⟨rfl, hr, _⟩ := h
    obtain ⟨r1, r2⟩ := r
    simp only at hr
    subst hr
    exact wpAny_pure q
/-- the entries of such tuples -/
def nRows (P : Program) (w : World) (L : List (Addr × NKs)) : List (Int × Value) := L.map fun p => (nH P w p.2, Value.ref p.1)
/-- the set at a -/
structure TN (P : Program) (w : World) (h : Heap) (a : Addr) (L : List (Addr × NKs)) (es : Array (Int × Value)) (ep : Nat) (t : SetTable) : Prop where
  ob : ∃ o, h.get? a = some o ∧ o.ExactSet ∧ o.data = .set es ep t
  rows : es.toList = nRows P w L
  tab : TabOk t (L.map fun p => nH P w p.2)
  tup : ∀ p ∈ L, IsN P w h p.2 p.1
  room : L.length * 5 < t.mask * 3
variable {a : Addr} {L : List (Addr × NKs)} {es : Array (Int × Value)} {ep : Nat} {t : SetTable}
theorem rows_size (e : es.toList = nRows P w L) : es.size = L.length := by
  rw [← Array.length_toList, e]
  exact List.length_map _
theorem rows_at (e : es.toList = nRows P w L) {i : Nat} {p : Addr × NKs} (h : L[i]? = some p) : es[i]? = some (nH P w p.2, Value.ref p.1) := by
  rw [← Array.getElem?_toList, e]
  show (L.map _)[i]? = _
  rw [List.getElem?_map, h]; rfl
theorem tab_size {hs : List Int} (T : TabOk t hs) (l : hs.length ≤ t.mask) : t.fits hs.length = true := by
  unfold SetTable.fits SetTable.fill
  rw [T.dm, T.sz, Bool.and_eq_true, beq_iff_eq, decide_eq_true_eq]
  exact ⟨rfl, l⟩
theorem TN.fits {h : Heap} (R : TN P w h a L es ep t) : t.fits es.size = true := by
  have l := R.room
  have z := tab_size R.tab (by rw [List.length_map]; omega)
  rwa [List.length_map, ← rows_size R.rows] at z
/-- where a search stands behind c steps -/
abbrev stp (t : SetTable) (h : Int) (c : Nat) : SetTable.Probe := nth t.mask (runAt t.mask (SetTable.bits h % (t.mask + 1)) (SetTable.bits h)) c
theorem stp_add (t : SetTable) (h : Int) (c q : Nat) : nth t.mask (stp t h c) q = stp t h (c + q) := (nth_add t.mask c _ q).symm
theorem stp_dm (t : SetTable) (h : Int) (c : Nat) : (stp t h c).dummy = none := by
  have key : ∀ (n : Nat) (p : SetTable.Probe), p.dummy = none → (nth t.mask p n).dummy = none := fun n => by
    induction n with
    | zero => exact fun p z => z
    | succ n ih =>
      refine fun p z => ih (adv t.mask p) ?_
      unfold adv
      split <;> exact z
  exact key c _ rfl
/-- the search for what is not in the set ends at the first empty slot -/
theorem n_from (R : TN P w s.heap a L es ep t) {x : Addr} {k : NKs} (hx : IsN P w s.heap k x) (hu : A.units < cLine) (hk : k ∉ L.map (·.2)) {K : Nat} (hf : K < 10 * SetTable.turns t.mask) (hK : way t.mask (nH P w k) K ∉ t.place.toList)
    (hb : ∀ c, c < K → way t.mask (nH P w k) c ∈ t.place.toList) {Q : SetFound → Shared → Prop} (q : Q (.free (way t.mask (nH P w k) K) false) s) :
    ∀ (f c : Nat) (stand : Option SetTable.Probe), stand.getD (t.probeStart (nH P w k)) = stp t (nH P w k) c → c ≤ K → K - c < f → wpAny (model P w) A (setSearchFrom a (.ref x) (nH P w k) true f stand) Q E s
  | 0, _, _, _, _, lt => absurd lt (Nat.not_lt_zero _)
  | f + 1, c, stand, hs, hc, lt => by
    obtain ⟨o, ho, _, hd⟩ := R.ob
    rw [setSearchFrom_succ]
    refine wpAny_bind (wpAny_setState_of ho hd R.fits ?_)
    dsimp only
    refine wp_if_neg (by unfold SetTable.gaveWay; rw [mask_odd R.tab.mok]; decide) ?_
    try refine wpAny_bind (wpAny_pure ?_)
    rcases go_spec t R.tab.ris R.tab.dm (fun i => (es[i]?.map (·.1)).getD 0) (nH P w k) (10 * SetTable.turns t.mask) (K - c) (stp t (nH P w k) c) (stp_dm t _ c) (by omega) (fun n hn => by rw [stp_add]; exact hb (c + n) (by omega)) (by rw [stp_add, show c + (K - c) = K by omega]; exact hK) with ⟨n, i, hn, hi, _, _, e⟩ | ⟨_, e⟩
    · have e' : t.probe (fun i => (es[i]?.map (·.1)).getD 0) (nH P w k) (stand.getD (t.probeStart (nH P w k))) = some (.candidate (way t.mask (nH P w k) (c + n)) i (stp t (nH P w k) (c + (n + 1)))) := by
        rw [hs]
        rw [stp_add, stp_add] at e
        exact e
      rw [e']
      dsimp only
      rw [stp_add] at hi
      have il : i < L.length := by
        have z := (List.getElem?_eq_some_iff.mp hi).1
        rw [Array.length_toList, R.tab.sz, List.length_map] at z
        exact z
      obtain ⟨p, hp⟩ : ∃ p, L[i]? = some p := ⟨_, List.getElem?_eq_getElem il⟩
      have hm := List.mem_of_getElem? hp
      have en := rows_at R.rows hp
      have ne : p.2 ≠ k := fun z => hk (List.mem_map.mpr ⟨p, hm, z⟩)
      have go : wpAny (model P w) A (searchRest a (.ref x) (nH P w k) true f es t (way t.mask (nH P w k) (c + n)) i (stp t (nH P w k) (c + (n + 1)))) Q E s := by
        unfold searchRest
        rw [en]
        dsimp only
        refine wpAny_bind (wpAny_holding (wpAny_eqBool_tuple hu (R.tup p hm) hx ?_))
        refine wpAny_bind (wpAny_setState_of ho hd R.fits ?_)
        dsimp only
        refine wp_if_neg (by simp [ne]) ?_
        try refine wpAny_bind (wpAny_pure ?_)
        rw [sameMem]
        dsimp only
        simp only [if_true, slot_live R.tab.ris hi, en]
        refine wpAny_bind (wpAny_isSame_ref_self (wpAny_bind (wpAny_pure ?_)))
        simp only [if_true]
        refine wp_if_neg (by simp [ne]) ?_
        exact n_from R hx hu hk hf hK hb q f (c + (n + 1)) _ rfl (by omega) (by omega)
      by_cases l : t.led = true
      · refine wp_if_neg (by simp [l]) ?_
        try refine wpAny_bind (wpAny_pure ?_)
        exact go
      · refine wp_if_pos (by simp [l]) ?_
        refine wpAny_bind (n_seen hx (fun y hy => ?_) ?_)
        · obtain ⟨u, hu2, rfl⟩ := List.mem_map.mp hy
          have u2 : u ∈ es.toList := by
            have z : u ∈ es ∧ u.1 = nH P w k := by simpa using hu2
            simpa using z.1
          rw [R.rows] at u2
          obtain ⟨p2, hp2, rfl⟩ := List.mem_map.mp u2
          exact ⟨p2.2, p2.1, rfl, R.tup p2 hp2⟩
        · refine wp_if_neg (by decide) ?_
          try refine wpAny_bind (wpAny_pure ?_)
          exact go
    · have e' : t.probe (fun i => (es[i]?.map (·.1)).getD 0) (nH P w k) (stand.getD (t.probeStart (nH P w k))) = some (.empty (way t.mask (nH P w k) K) none) := by
        rw [hs]
        rw [stp_add, show c + (K - c) = K by omega] at e
        exact e
      rw [e']
      exact wpAny_pure q
end
end Ho

set_option Elab.async false
set_option linter.all false
set_option maxRecDepth 100000
set_option maxHeartbeats 4000000
/-! SN2: a tuple more in the set; the whole set; its length. -/
namespace Ho
open PySem PySem.Spec PyProof.Rows L2
theorem range_items {α : Type} : ∀ L : List α, (List.range L.length).filterMap (fun i => L[i]?) = L
  | [] => rfl
  | x :: L => by
    have ih := range_items L
    rw [List.length_cons, List.range_succ_eq_map, List.filterMap_cons_some (show (x :: L)[0]? = some x from rfl), List.filterMap_map]
    exact congrArg (x :: ·) ih
section
variable {P : Program} {w : World} {A : Around} {E : Value → Shared → Prop} {s : Shared} {a : Addr} {L : List (Addr × NKs)} {es : Array (Int × Value)} {ep : Nat} {t : SetTable}
/-- the entries in another order -/
theorem reord (hr : es.toList = nRows P w L) {order : Array Nat} (hp : order.toList.Perm (List.range L.length)) :
    ∃ L2, (order.filterMap (es[·]?)).toList = nRows P w L2 ∧ L2.Perm L ∧ (L2.map fun p => nH P w p.2) = order.toList.map fun i => (es.map (·.1)).getD i 0 := by
  have en : ∀ i : Nat, es[i]? = (L[i]?).map fun p : Addr × NKs => (nH P w p.2, Value.ref p.1) := fun i => by
    rw [← Array.getElem?_toList, hr]
    exact List.getElem?_map
  refine ⟨order.toList.filterMap fun i => L[i]?, ?_, ?_, ?_⟩
  · rw [Array.toList_filterMap]
    unfold nRows
    rw [List.map_filterMap]
    exact congrArg (fun f => List.filterMap f order.toList) (funext en)
  · have z := hp.filterMap fun i => L[i]?
    rwa [range_items] at z
  · rw [List.map_filterMap]
    have key : ∀ l : List Nat, (∀ i ∈ l, i < L.length) → l.filterMap (fun i => (L[i]?).map fun p : Addr × NKs => nH P w p.2) = l.map fun i => (es.map (·.1)).getD i 0 := fun l => by
      induction l with
      | nil => exact fun _ => rfl
      | cons i l ih =>
        intro hl
        have hi := hl i List.mem_cons_self
        have e1 : L[i]? = some L[i] := List.getElem?_eq_getElem hi
        have e2 : (es.map (·.1)).getD i 0 = nH P w (L[i]).2 := by
          have e3 : (es.map (·.1))[i]? = some (nH P w (L[i]).2) := by rw [Array.getElem?_map, en i, e1]; rfl
          simp [Array.getD_eq_getD_getElem?, e3]
        have e4 : (fun i : Nat => (L[i]?).map fun p : Addr × NKs => nH P w p.2) i = some (nH P w (L[i]).2) := by
          show (L[i]?).map _ = _
          rw [e1]; rfl
        rw [List.filterMap_cons_some (f := fun i : Nat => (L[i]?).map fun p : Addr × NKs => nH P w p.2) e4, List.map_cons, e2, ih fun j hj => hl j (List.mem_cons_of_mem _ hj)]
    exact key order.toList fun i hi => List.mem_range.mp (hp.mem_iff.mp hi)
/-- a tuple stands while the set changes -/
theorem isN_same {h h' : Heap} {k : NKs} {b : Addr} {o : Obj} (x : IsN P w h k b) (ho : h.get? a = some o) (hd : o.data = .set es ep t) (hs : Heap.SameBut a h h') : IsN P w h' k b := by
  obtain ⟨u, xs, n, e1, e2, e3, e4⟩ := x
  refine ⟨u, xs, n, (hs.2 b fun z => ?_).trans e1, e2, e3, e4⟩
  rw [z, ho] at e1
  cases e1
  rw [hd] at e3
  cases e3
theorem isN_keep {h h' : Heap} {k : NKs} {b : Addr} (x : IsN P w h k b) (hk : ∀ c o, h.get? c = some o → h'.get? c = some o) : IsN P w h' k b := by
  obtain ⟨u, xs, n, e1, z⟩ := x
  exact ⟨u, xs, n, hk b u e1, z⟩
theorem n_relay {o : Obj} (ho : s.heap.get? a = some o) (hx : o.ExactSet) (hd : o.data = .set es ep t) (hr : es.toList = nRows P w L) (T : TabOk t (L.map fun p => nH P w p.2)) (hl : L.length ≤ t.mask) (tup : ∀ p ∈ L, IsN P w s.heap p.2 p.1) {wanted M : Nat}
    (e1 : SetTable.sizeAbove wanted - 1 = M) (hM : MaskOk M) (e2 : SetTable.sizeAbove wanted ≤ 128) (lt : L.length * 5 < M * 3) {Q : Unit → Shared → Prop}
    (q : ∀ h' L' es' ep' t', Heap.SameBut a s.heap h' → TN P w h' a L' es' ep' t' → L'.Perm L → Q () { s with heap := h' }) : wpAny (model P w) A (setRelay a wanted) Q E s := by
  have sz := rows_size hr
  have ft : t.fits es.size = true := by
    have z := tab_size T (by rw [List.length_map]; exact hl)
    rwa [List.length_map, ← sz] at z
  obtain ⟨t2, order, e, pm, T2, m2, _, _, _⟩ := relaid_ok t (hs := es.map (·.1)) e1 hM (by rw [Array.size_map, sz]; omega)
  rw [Array.size_map, sz] at pm
  obtain ⟨L2, r1, r2, r3⟩ := reord hr pm
  rw [← r3] at T2
  have sz2 : (order.filterMap (es[·]?)).size = es.size := by rw [rows_size r1, r2.length_eq, sz]
  rw [setRelay_eq]
  refine wpAny_bind (wpAny_setState_of ho hd ft ?_)
  dsimp only
  refine wp_if_neg (by rw [sizeLine_eq]; omega) ?_
  try refine wpAny_bind (wpAny_pure ?_)
  rw [e]
  dsimp only
  refine wpAny_bind ?_
  refine wp_if_neg (by rw [sz2]; simp) ?_
  try refine wpAny_bind (wpAny_pure ?_)
  refine wpAny_pure ?_
  dsimp only
  refine wpAny_storeSet_of ho hd ?_ (by rw [sz2, sz, sizeLine_eq]; rcases T.mok with e | e | e <;> omega)
  have sb : Heap.SameBut a s.heap (s.heap.update a (Obj.putSet (order.filterMap (es[·]?)) t2)) := Heap.SameBut.update ..
  exact q _ L2 _ (ep + 1) t2 sb ⟨⟨_, store_at ho hd, ⟨hx.1, hx.2.1, hx.2.2⟩, rfl⟩, r1, T2, fun p hp => isN_same (tup p (r2.mem_iff.mp hp)) ho hd sb, by rw [r2.length_eq, m2]; exact lt⟩ r2
theorem n_add (R : TN P w s.heap a L es ep t) {x : Addr} {k : NKs} (hx : IsN P w s.heap k x) (hu : A.units < cLine) (hk : k ∉ L.map (·.2)) (few : L.length + 1 < 64) {Q : Bool → Shared → Prop}
    (q : ∀ c h' L' es' ep' t', Heap.SameBut a s.heap h' → TN P w h' a L' es' ep' t' → L'.Perm ((x, k) :: L) → Q c { s with heap := h' }) : wpAny (model P w) A (setAddHashed a (.ref x) (nH P w k)) Q E s := by
  obtain ⟨o, ho, hex, hd⟩ := R.ob
  have sz := rows_size R.rows
  have room := R.room
  have turns : 10 * SetTable.turns t.mask ≤ 1420 := by
    unfold SetTable.turns
    rcases R.tab.mok with e | e | e <;> omega
  obtain ⟨K, k1, k2, k3⟩ := R.tab.first (by rw [List.length_map]; omega) (nH P w k)
  unfold setAddHashed
  refine wpAny_holding ?_
  rw [show (100000 : Nat) = 99999 + 1 from rfl, setAddHashedIn_succ]
  refine wpAny_bind (wpAny_setState_of ho hd R.fits ?_)
  dsimp only
  refine wp_if_neg (by simp [byScan, Value.scannable]) ?_
  try refine wpAny_bind (wpAny_pure ?_)
  refine wpAny_bind ?_
  unfold setSearch
  refine n_from R hx hu hk k1 k2 k3 ?_ 100000 0 none rfl (Nat.zero_le _) (by omega)
  dsimp only
  refine wpAny_bind (wpAny_setState_of ho hd R.fits ?_)
  dsimp only
  obtain ⟨p1, p2, p3, p4, _, _, _, _, p9⟩ := R.tab.put k2 k3
  generalize t.put (way t.mask (nH P w k) K) = pt at p1 p3 p4 p9 ⊢
  obtain ⟨t1, p⟩ := pt
  dsimp only at p1 p3 p4 p9 ⊢
  subst p1
  generalize SetTable.below t.place (way t.mask (nH P w k) K) = p at p2 p3 ⊢
  have hr1 : (SetTable.insertAt es p (nH P w k, Value.ref x)).toList = nRows P w (L.take p ++ (x, k) :: L.drop p) := by
    rw [SetTable.toList_insertAt, R.rows]
    unfold nRows
    rw [List.map_append, List.map_cons, List.map_take, List.map_drop]
  have hh : (L.take p ++ (x, k) :: L.drop p).map (fun p => nH P w p.2) = (L.map fun p => nH P w p.2).take p ++ nH P w k :: (L.map fun p => nH P w p.2).drop p := by
    rw [List.map_append, List.map_cons, List.map_take, List.map_drop]
  rw [← hh] at p3
  have pm := put_perm L p (x, k)
  generalize SetTable.insertAt es p (nH P w k, Value.ref x) = es1 at hr1 ⊢
  generalize L.take p ++ (x, k) :: L.drop p = L1 at pm p3 hr1
  have len : L1.length = L.length + 1 := pm.length_eq
  have sz1 := rows_size hr1
  rw [List.length_map] at p9
  have rest : ∀ t2 : SetTable, TabOk t2 (L1.map fun p => nH P w p.2) → t2.mask = t.mask → t2.fill = L.length + 1 → wpAny (model P w) A (do
      storeSet a es1 t2
      if (!false && t2.tooFull) = true then setRelay a (SetTable.grown (es.size + 1))
      return true) Q E s := fun t2 T2 m2 f2 => by
    refine wpAny_bind (wpAny_storeSet_of ho hd ?_ (by rw [sz1, len, sizeLine_eq]; omega))
    have sb : Heap.SameBut a s.heap (s.heap.update a (Obj.putSet es1 t2)) := Heap.SameBut.update ..
    have ho1 := store_at (es' := es1) (t' := t2) ho hd
    generalize s.heap.update a (Obj.putSet es1 t2) = h1 at sb ho1 ⊢
    have tup1 : ∀ p ∈ L1, IsN P w h1 p.2 p.1 := fun p hp => by
      rcases List.mem_cons.mp (pm.mem_iff.mp hp) with e | z
      · rw [e]; exact isN_same hx ho hd sb
      · exact isN_same (R.tup p z) ho hd sb
    by_cases full : t2.tooFull = true
    · first
        | (refine wpAny_bind ?_; refine wp_if_pos (by simp [full]) ?_)
        | (refine wp_if_pos (by simp [full]) ?_; refine wpAny_bind ?_)
      have big : (L.length + 1) * 5 ≥ t.mask * 3 := by
        have z := full
        unfold SetTable.tooFull at z
        rw [decide_eq_true_eq, f2, m2] at z
        exact z
      have two : (t.mask = 7 ∧ L.length = 4) ∨ (t.mask = 31 ∧ L.length = 18) := by
        rcases R.tab.mok with e | e | e <;> omega
      have go : ∀ M, SetTable.sizeAbove (SetTable.grown (L.length + 1)) - 1 = M → MaskOk M → SetTable.sizeAbove (SetTable.grown (L.length + 1)) ≤ 128 → (L.length + 1) * 5 < M * 3 →
          wpAny (model P w) A (setRelay a (SetTable.grown (es.size + 1))) (fun _ s' => wpAny (model P w) A (pure true) Q E s') E { s with heap := h1 } := fun M g1 g2 g3 g4 => by
        rw [sz]
        refine n_relay (s := { s with heap := h1 }) ho1 ⟨hex.1, hex.2.1, hex.2.2⟩ rfl hr1 T2 (by rw [len, m2]; omega) tup1 g1 g2 g3 (by rw [len]; exact g4) fun h2 L2 es2 ep2 t3 sb2 R2 pm2 => ?_
        exact wpAny_pure (q true h2 L2 es2 ep2 t3 (sb.trans sb2) R2 (pm2.trans pm))
      rcases two with ⟨_, e2⟩ | ⟨_, e2⟩
      · exact go 31 (by rw [e2, size_20]) (.inr (.inl rfl)) (by rw [e2, size_20]; decide) (by omega)
      · exact go 127 (by rw [e2, size_76]) (.inr (.inr rfl)) (by rw [e2, size_76]; decide) (by omega)
    · first
        | refine wp_if_neg (by simp [full]) ?_
        | (refine wpAny_bind ?_; refine wp_if_neg (by simp [full]) ?_; refine wpAny_pure ?_)
      have small : (L.length + 1) * 5 < t2.mask * 3 := by
        have z := full
        unfold SetTable.tooFull at z
        rw [decide_eq_true_eq, f2] at z
        omega
      exact wpAny_pure (q true h1 L1 es1 (ep + 1) t2 sb ⟨⟨_, ho1, ⟨hex.1, hex.2.1, hex.2.2⟩, rfl⟩, hr1, T2, tup1, by rw [len]; exact small⟩ pm)
  have fin : ∀ c : Bool, wpAny (model P w) A (do
      storeSet a es1 (if c = true then t1 else { t1 with plain := false })
      if (!false && (if c = true then t1 else { t1 with plain := false }).tooFull) = true then setRelay a (SetTable.grown (es.size + 1))
      return true) Q E s := fun c => by
    cases c with
    | true => exact rest t1 p3 p4 p9
    | false => exact rest { t1 with plain := false } ⟨p3.ris, p3.dm, p3.sz, p3.mok, p3.bd, p3.reach⟩ p4 p9
  by_cases c : t1.plain = true
  · exact wp_if_pos c (wpAny_bind (n_hbv hx fin))
  · exact wp_if_neg c (wpAny_bind (wpAny_pure (fin true)))
end
end Ho

set_option Elab.async false
set_option linter.all false
set_option maxRecDepth 100000
set_option maxHeartbeats 4000000
/-! SN3: set(a list of such tuples); len of it, as a rule of the layer. -/
namespace Ho
open PySem PySem.Spec PyProof.Rows L2
section
variable {P : Program} {w : World} {A : Around} {E : Value → Shared → Prop} {s : Shared}
abbrev freshSet (w : World) : Obj := { cls := .type "set", dict := none, data := .set #[] 0 (.fresh 0 0 (!w.params.followText "set-order")) }
theorem TN.new {h : Heap} {a : Addr} (ho : h.get? a = some (freshSet w)) : TN P w h a [] #[] 0 (.fresh 0 0 (!w.params.followText "set-order")) :=
  ⟨⟨_, ho, ⟨rfl, rfl, rfl⟩, rfl⟩, rfl, ⟨List.Pairwise.nil, rfl, rfl, .inl rfl, fun x hx => (by cases hx), fun i h j hi => (by simp at hi)⟩, fun p hp => (by cases hp), (show 0 * 5 < 7 * 3 by decide)⟩
theorem TN.keep {h h' : Heap} {a : Addr} {L : List (Addr × NKs)} {es : Array (Int × Value)} {ep : Nat} {t : SetTable} (R : TN P w h a L es ep t) (ha : ∀ o, h.get? a = some o → h'.get? a = some o) (ht : ∀ p ∈ L, IsN P w h' p.2 p.1) : TN P w h' a L es ep t :=
  ⟨let ⟨o, ho, r⟩ := R.ob; ⟨o, ha o ho, r⟩, R.rows, R.tab, ht, R.room⟩
/-- all items, one by one -/
theorem n_loop {I : Addr} {fp wr : List Addr} {G : Array GenState → Array GenState → Prop} {n : Nat} {Pv : Nat → Value → Prop} {St : Nat → Shared → Prop} {R : Result → Shared → Prop} (W : WalksS P w A.in1 I fp wr G n Pv St) (Z : Addr) (hZ : Z ∉ fp) (ks : List (Addr × NKs))
    (hn : n = ks.length) (few : ks.length < 64) (nd : (ks.map (·.2)).Nodup) (hv : ∀ i v, Pv i v → ∃ p, ks[i]? = some p ∧ v = .ref p.1) (h0 : Heap) (hk : ∀ p ∈ ks, IsN P w h0 p.2 p.1) (z0 : h0.get? Z = none) (w0 : ∀ b ∈ wr, h0.get? b = none) (hu : A.in1.units < cLine) :
    ∀ (m i : Nat) (s : Shared), m + i = n → St i s → (∀ b o, h0.get? b = some o → s.heap.get? b = some o) → (∃ L es ep t, TN P w s.heap Z L es ep t ∧ L.Perm (ks.take i)) →
      (∀ s' L es ep t, Moved (Z :: wr) G s s' → TN P w s'.heap Z L es ep t → L.Perm ks → (∀ b o, h0.get? b = some o → s'.heap.get? b = some o) → R (.ok (.ret .none)) s') →
      codeAny (model P w) A (.builtin "set.update.loop" ⟨[.ref Z, .ref I], []⟩) R s := by
  have zw : Z ∉ wr := fun h => hZ (W.sub _ h)
  have grow : ∀ b ∈ wr, b ∈ Z :: wr := fun b hb => List.mem_cons_of_mem _ hb
  have old : ∀ {s s' : Shared}, Moved wr G s s' → (∀ b o, h0.get? b = some o → s.heap.get? b = some o) → ∀ b o, h0.get? b = some o → s'.heap.get? b = some o := fun m k b o e => m.heap b o (fun hb => by rw [w0 b hb] at e; cases e) (k b o e)
  intro m
  induction m with
  | zero =>
    intro i s hi st kp ⟨L, es, ep, t, T, pm⟩ k
    have ei : i = n := by omega
    subst ei
    refine codeAny_builtin F.entry_set_update_loop ?_
    rw [Around.under_plainId F.plain_set_update_loop _]
    show wpAny _ A.in1 (pyNext (.ref I) >>= _) _ _ s
    refine wpAny_bind (W.done s _ _ st fun s' mv => ?_)
    show wpAny _ A.in1 (ret Value.none) _ _ s'
    rw [hn, List.take_length] at pm
    exact wpAny_pure (k s' L es ep t (mv.mono grow) (T.keep (fun o e => mv.heap Z o zw e) fun p hp => isN_keep (hk p (pm.mem_iff.mp hp)) (old mv kp)) pm (old mv kp))
  | succ m ih =>
    intro i s hi st kp ⟨L, es, ep, t, T, pm⟩ k
    refine codeAny_builtin F.entry_set_update_loop ?_
    rw [Around.under_plainId F.plain_set_update_loop _]
    show wpAny _ A.in1 (pyNext (.ref I) >>= _) _ _ s
    refine wpAny_bind (W.item i s _ _ (by omega) st fun v s' hP st' mv => ?_)
    obtain ⟨p, hp, rfl⟩ := hv i v hP
    have kp' := old mv kp
    have T' : TN P w s'.heap Z L es ep t := T.keep (fun o e => mv.heap Z o zw e) fun p hp => isN_keep (hk p (List.mem_of_mem_take (pm.mem_iff.mp hp))) kp'
    have hx : IsN P w s'.heap p.2 p.1 := isN_keep (hk p (List.mem_of_getElem? hp)) kp'
    have new : p.2 ∉ L.map (·.2) := fun z => by
      have z2 := (pm.map (·.2)).mem_iff.mp z
      have e : (ks.take (i + 1)).map (·.2) = (ks.take i).map (·.2) ++ [p.2] := by rw [take_more hp, List.map_append]; rfl
      have nd2 : ((ks.take (i + 1)).map (·.2)).Nodup := ((List.take_sublist (i + 1) ks).map _).nodup nd
      rw [e, List.nodup_append] at nd2
      exact nd2.2.2 _ z2 _ (List.mem_singleton.mpr rfl) rfl
    have ll : L.length + 1 < 64 := by
      have z := pm.length_eq
      rw [List.length_take] at z
      have hi2 := (List.getElem?_eq_some_iff.mp hp).1
      omega
    show wpAny _ A.in1 (holding [Value.ref p.1] (setAdd Z (.ref p.1)) >>= _) _ _ s'
    refine wpAny_bind (wpAny_holding ?_)
    unfold setAdd
    refine wpAny_holding ?_
    refine wpAny_bind (wpAny_pyHash_tuple hu hx ?_)
    refine n_add (s := { s' with toks := s'.toks + (p.2.length + 1) }) T' hx hu new ll fun c h' L' es' ep' t' sb T2 pm2 => ?_
    have kp2 : ∀ b o, h0.get? b = some o → h'.get? b = some o := fun b o e => (sb.2 b (fun z => by rw [z, z0] at e; cases e)).trans (kp' b o e)
    have pm3 : L'.Perm (ks.take (i + 1)) := by
      rw [take_more hp]
      exact pm2.trans ((List.Perm.cons _ pm).trans (List.perm_append_comm (l₁ := [p]) (l₂ := ks.take i)))
    refine wpAny_pure ⟨plainId_quiet F.plain_set_update_loop _, ih (i + 1) _ (by omega) (W.frame _ s' _ _ st' (Nat.le_add_right _ _) fun b hb o e => ?_) kp2 ⟨L', es', ep', t', T2, pm3⟩ fun s'' L2 es2 ep2 t2 mv2 T3 pm4 kp3 => ?_⟩
    · rw [sb.2 b fun h : b = Z => hZ (h ▸ hb)]; exact e
    · refine k s'' L2 es2 ep2 t2 (Moved.trans W.gtrans ((mv.mono grow).then_heap (Nat.le_add_right _ _) fun b o hb e => ?_) mv2) T3 pm4 kp3
      rw [sb.2 b fun h : b = Z => hb (h ▸ List.mem_cons_self)]; exact e
set_option maxRecDepth 100000 in
set_option maxHeartbeats 3200000 in
/-- set(list) -/
theorem n_set {l : Addr} {items : Array Value} (ks : List (Addr × NKs)) {Q : Value → Shared → Prop} (hh : A.handled = none) (hl : s.heap.IsList l items) (hit : items.toList = ks.map fun p => Value.ref p.1) (hk : ∀ p ∈ ks, IsN P w s.heap p.2 p.1) (few : ks.length < 64) (nd : (ks.map (·.2)).Nodup) (hu : A.units + 3 < cLine)
    (q : ∀ (h' : Heap) (tk : Nat) L es ep t, TN P w h' s.heap.objs.size L es ep t → L.Perm ks → (∀ b o, s.heap.get? b = some o → h'.get? b = some o) → Q (.ref s.heap.objs.size) { s with heap := h', toks := tk }) : wpAny (model P w) A (call (.type "set") [.ref l]) Q E s := by
  have size : items.size = ks.length := by
    have z := congrArg List.length hit
    rwa [Array.length_toList, List.length_map] at z
  obtain ⟨c, tl, hmro⟩ := F.called_set.mro
  have hmade := F.called_set.made
  have hsub := F.called_set.sub
  refine wpAny_call (codeAny_of_tree ?_)
  show wpAny _ _ (callAny (.type "set") _) _ _ _
  refine wpAny_pure ⟨Code.quiet_builtin _ (by decide +kernel), codeAny_builtin F.entry_type_call ?_⟩
  rw [Around.under_plain (weight_type_call_type "set" [.ref l] []) rfl]
  have h1 := F.called_set.notType
  have h2 := F.called_set.canCreate
  have hct := F.typeCall_set_1 (.ref l)
  repeat (any_goals (first | assumption | wp_step))
  refine codeAny_mono (code_set_led1 (.ref l) (E := E) (Q₁ := fun obj s₁ => obj = .ref s.heap.objs.size ∧ s₁ = { s with heap := s.heap.push (freshSet w) }) ⟨rfl, rfl⟩) fun r s₁ hr => ?_
  cases r with
  | error e => exact hr
  | ok fl =>
    cases fl with
    | ret obj =>
      obtain ⟨rfl, rfl⟩ := hr
      have hS : (s.heap.push (freshSet w)).get? s.heap.objs.size = some (freshSet w) := Heap.get?_push_size _ rfl
      have hT : Shared.TypeIs { s with heap := s.heap.push (freshSet w) } (.ref s.heap.objs.size) "set" := ⟨_, hS, rfl⟩
      have hli := F.called_set.init.lookup
      have hbi := F.called_set.init.bind (.ref s.heap.objs.size)
      repeat (any_goals (first | assumption | wp_step))
      refine codeAny_mono (codeAny_call_builtin (R := wants (fun r s₂ => r = .none ∧ ∃ h' tk L es ep t, s₂ = { s with heap := h', toks := tk } ∧ TN P w h' s.heap.objs.size L es ep t ∧ L.Perm ks ∧ (∀ b o, s.heap.get? b = some o → h'.get? b = some o)) E) F.called_set.init.plain F.entry_set_init (check_set_init_1 hT ?_)) fun r₂ s₂ hr₂ => ?_
      · obtain ⟨ol, hol, hcl, nl, hdl⟩ := hl
        obtain ⟨ocls, odict, odata, oslots⟩ := ol
        simp only at hcl hdl
        subst hcl; subst hdl
        have hol' : (s.heap.push (freshSet w)).get? l = some { cls := .type "list", dict := odict, data := .seq items nl, slots := oslots } := Heap.get?_push_of_some _ hol
        have hsls := F.sub_list_set
        have hslf := F.sub_list_frozenset
        have hne : (Value.type "list" == Value.type "dict") = false := by decide
        have hl1 : (s.heap.push (freshSet w)).IsList l items := ⟨_, hol', rfl, nl, rfl⟩
        unfold Builtin.«set.__init__» noKeywords Builtin.Frozenset.updateFrom
        generalize hPI : pyIter = PI
        wp_walk
        subst hPI
        refine wpAny_pyIter_list hl1 ?_
        refine wpAny_bind (wpAny_runValue ?_)
        have lS : l < s.heap.objs.size := Heap.lt_size hol
        have h3 : A.in1.in1.in1.handled = none := by simp [hh]
        have neI : l ≠ (s.heap.push (freshSet w)).objs.size := by
          rw [Heap.size_push]; exact Nat.ne_of_lt (Nat.lt_succ_of_lt lS)
        have none_of : ∀ b, s.heap.objs.size ≤ b → s.heap.get? b = none := fun b hb => by
          cases z : s.heap.get? b with
          | none => rfl
          | some o => exact absurd (Nat.lt_of_lt_of_le (Heap.lt_size z) hb) (Nat.lt_irrefl _)
        refine n_loop ((Walks.list h3 _ l neI items).toS) s.heap.objs.size ?_ ks size few nd (fun i v hv => ?_) s.heap hk (none_of _ (Nat.le_refl _)) (fun b hb => none_of b (by
            rw [List.mem_singleton.mp hb, Heap.size_push]
            exact Nat.le_succ _)) hu items.size 0 _ (Nat.add_zero _)
          ⟨⟨_, Heap.get?_push_size _ rfl, rfl, rfl⟩, (hl1.push _)⟩ (fun b o e => Heap.get?_push_of_some _ (Heap.get?_push_of_some _ e)) ⟨[], #[], 0, _, TN.new (Heap.get?_push_of_some _ hS), List.Perm.refl _⟩ ?_
        · rw [Heap.size_push]
          simp only [List.mem_cons, List.not_mem_nil, or_false, not_or]
          exact ⟨Nat.ne_of_lt (Nat.lt_succ_self _), Nat.ne_of_gt lS⟩
        · have z : items.toList[i]? = some v := by rw [Array.getElem?_toList]; exact hv
          rw [hit, List.getElem?_map] at z
          obtain ⟨p, hp, e⟩ := Option.map_eq_some_iff.mp z
          exact ⟨p, hp, e.symm⟩
        · intro s' L es ep t mv T pm kp
          obtain ⟨h', g2, d', tk', os'⟩ := s'
          have eg : g2 = s.gens := mv.gens
          have ed : d' = s.drawn := mv.drawn
          have eo : os' = s.os := mv.os
          subst eg; subst ed; subst eo
          show wpAny _ _ _ _ _ _
          refine wpAny_pure ?_
          show wpAny _ _ (ret Value.none) _ _ _
          exact wpAny_pure ⟨rfl, h', tk', L, es, ep, t, rfl, T, pm, kp⟩
      · cases r₂ with
        | error e => exact hr₂
        | ok fl₂ =>
          cases fl₂ with
          | ret r =>
            obtain ⟨rfl, h', tk, L, es, ep, t, rfl, T, pm, kp⟩ := hr₂
            repeat (any_goals (first | assumption | wp_step))
            exact q _ _ _ _ _ _ T pm kp
          | _ => exact hr₂.elim
    | _ => exact hr.elim
end
/-- values of such items -/
def nV : Option Key → V
  | none => .non
  | some (.inl i) => .int i
  | some (.inr x) => .str x
theorem n_items {P : Program} {w : World} : ∀ {k : NKs} {us : List Value}, Vals (k.map nV) us → ItemsAre (noneKind P w) k us
  | [], _, .nil => .nil
  | none :: k, _, .cons r t => by
    cases r
    exact .cons rfl (n_items t)
  | some (.inl i) :: k, _, .cons r t => by
    obtain ⟨tk, rfl⟩ := r
    exact .cons (keyIs_int i tk) (n_items t)
  | some (.inr x) :: k, _, .cons r t => by
    obtain ⟨tk, rfl⟩ := r
    exact .cons (keyIs_str x tk) (n_items t)
theorem vals_refs : ∀ {ks : List (Addr × NKs)} {us : List Value}, Vals (ks.map fun p => V.ref p.1) us → us = ks.map fun p => Value.ref p.1
  | [], _, .nil => rfl
  | _ :: _, _, .cons r t => by
    cases r
    rw [vals_refs t]; rfl
section
variable {X : Cx}
def tLenSetN (K : PySem.W.Frag) (ta : TE) : TE := fun σ H Q => ta σ H fun x H1 => ∃ (l : Addr) (ks : List (Addr × NKs)), x = V.ref l ∧ SqL K H1 l (ks.map fun p => V.ref p.1) ∧ (∀ p ∈ ks, SqT K H1 p.1 (p.2.map nV)) ∧ (ks.map (·.2)).Nodup ∧ ks.length < 64 ∧ Q (.int ks.length) H1
theorem pe_lenSetN {a : Expr} {ta : TE} {p p2 q pos : Pos} (hc : X.calm = true) (hu : X.A.units + 64 < cLine) (hg : Gl X "len") (hm : X.mg "len" = none) (hg2 : Gl X "set") (hm2 : X.mg "set" = none) (ha : PE X a ta)
    (na : starEach [a] X.env = (false, eval a X.env) :: starEach [] X.env := by rfl) : PE X (.Call (.Name "len" p) [.Call (.Name "set" p2) [a] [] q] [] pos) (tLenSetN X.K ta) := by
  refine ⟨fun pins s σ H Q I h => ?_⟩
  refine Call_ (ld_blt I hg hm PySem.boot_len ?_)
  refine PyProof.Rows.callWith_builtin1 (PyProof.Rows.args_cons ?_ rfl) rfl rfl
  refine Call_ (ld_blt I hg2 hm2 PyProof.Rows.boot_set ?_)
  refine PyProof.Rows.callWith_type1 (PyProof.Rows.args_cons (thn (ha.run pins s σ H _ I h) fun v s1 ⟨x, H1, I1, r1, q1⟩ => PyProof.Rows.args_nil ?_) na) na rfl
  obtain ⟨l, ks, rfl, hq, ht, nd, few, q1⟩ := q1
  cases r1
  obtain ⟨its, r, pl, hz⟩ := I1.list hq
  refine n_set (P := X.prog) (w := X.w) ks (I1.ok.hd hc) pl.isList (by simpa using vals_refs r) (fun p hp => ?_) few nd (by omega) fun h' tk L es ep t T pm kp => ?_
  · obtain ⟨us, r2, ⟨o, ho, hcl, n, hd⟩, _⟩ := I1.tuple (ht p hp)
    exact ⟨o, us.toArray, n, ho, hcl, hd, by simpa using n_items r2⟩
  · refine PyProof.Rows.args_nil ?_
    obtain ⟨o, ho, hex, hd⟩ := T.ob
    have sz : es.size = ks.length := by rw [rows_size T.rows, pm.length_eq]
    have I2 : Inv X pins σ H1 { s1 with heap := h', toks := tk } := I1.kept fun b o e => kp b o e
    refine call_len_set ho hex hd T.fits (by rw [sz]; omega) ⟨.int ks.length, H1, I2.tok _, ⟨_, by rw [sz]⟩, q1⟩
end
end Ho

set_option Elab.async false
set_option linter.all false
set_option maxRecDepth 100000
set_option maxHeartbeats 4000000
/-! M29: each thing stands at one place, there or on the shelf: on the plain state. -/
namespace Ho
open PySem PySem.Spec PyProof.Rows L2
theorem filter_or {α : Type} (p q : α → Bool) : ∀ l : List α, (∀ x ∈ l, ¬ (p x = true ∧ q x = true)) → (l.filter p ++ l.filter q).Perm (l.filter fun x => p x || q x)
  | [], _ => List.Perm.refl _
  | x :: l, h => by
    have ih := filter_or p q l fun y hy => h y (List.mem_cons_of_mem _ hy)
    have hx := h x List.mem_cons_self
    cases e1 : p x with
    | true =>
      cases e2 : q x with
      | true => exact absurd ⟨e1, e2⟩ hx
      | false =>
        rw [List.filter_cons_of_pos e1, List.filter_cons_of_neg (by rw [e2]; decide), List.filter_cons_of_pos (p := fun x => p x || q x) (show (p x || q x) = true by rw [e1]; rfl)]
        exact List.Perm.cons x ih
    | false =>
      cases e2 : q x with
      | true =>
        rw [List.filter_cons_of_neg (by rw [e1]; decide), List.filter_cons_of_pos e2, List.filter_cons_of_pos (p := fun x => p x || q x) (show (p x || q x) = true by rw [e1, e2]; rfl)]
        exact List.perm_middle.trans (List.Perm.cons x ih)
      | false =>
        rw [List.filter_cons_of_neg (by rw [e1]; decide), List.filter_cons_of_neg (by rw [e2]; decide), List.filter_cons_of_neg (p := fun x => p x || q x) (show ¬ (p x || q x) = true by rw [e1, e2]; decide)]
        exact ih
theorem perm_sum {α : Type} (f : α → Int) {l m : List α} (h : l.Perm m) : (l.map f).sum = (m.map f).sum := by
  induction h with
  | nil => rfl
  | cons x _ ih => rw [List.map_cons, List.map_cons, List.sum_cons, List.sum_cons, ih]
  | swap x y l => rw [List.map_cons, List.map_cons, List.map_cons, List.map_cons, List.sum_cons, List.sum_cons, List.sum_cons, List.sum_cons]; omega
  | trans _ _ h1 h2 => exact h1.trans h2
def liveR (S : Stt) : List (Int × Rw) := S.rows.filter fun p => p.2.mrk.isNone
def bundR (S : Stt) (n : Int) : List (Int × Rw) := S.rows.filter fun p => decide (p.2.mrk = some n)
def shelR (S : Stt) : List (Int × Rw) := S.casts.flatMap fun c => bundR S c.1
def bothR (S : Stt) : List (Int × Rw) := liveR S ++ shelR S
section
variable {S : Stt}
theorem both_some : ∀ cs : List (Int × Int), (cs.map (·.1)).Nodup → (liveR S ++ cs.flatMap fun c => bundR S c.1).Perm (S.rows.filter fun p => p.2.mrk.isNone || cs.any fun c => decide (p.2.mrk = some c.1))
  | [], _ => by
    rw [List.flatMap_nil, List.append_nil]
    refine List.Perm.of_eq ?_
    unfold liveR
    exact List.filter_congr fun p _ => by simp
  | c :: cs, nd => by
    rw [List.map_cons, List.nodup_cons] at nd
    have ih := both_some cs nd.2
    rw [List.flatMap_cons]
    refine (List.perm_append_comm_assoc (liveR S) (bundR S c.1) _).trans ?_
    refine (List.Perm.append_left (bundR S c.1) ih).trans ?_
    refine (filter_or _ _ S.rows fun p _ z => ?_).trans (List.Perm.of_eq (List.filter_congr fun p _ => ?_))
    · obtain ⟨z1, z2⟩ := z
      have e := of_decide_eq_true z1
      rw [e] at z2
      obtain ⟨c2, hc2, e2⟩ := List.any_eq_true.mp (show (cs.any fun c2 => decide (some c.1 = some c2.1)) = true from z2)
      exact nd.1 (List.mem_map.mpr ⟨c2, hc2, (Option.some.inj (of_decide_eq_true e2)).symm⟩)
    · rw [List.any_cons]
      cases p.2.mrk.isNone <;> cases decide (p.2.mrk = some c.1) <;> simp
theorem both_perm (inv : S.Inv) (nd : S.keys.Nodup) : (bothR S).Perm S.rows := by
  refine (both_some S.casts inv.ct).trans (List.Perm.of_eq (List.filter_eq_self.mpr fun p hp => ?_))
  cases e : p.2.mrk with
  | none => rfl
  | some m =>
    obtain ⟨c, hc, e2⟩ := List.mem_map.mp (inv.mc p.1 m (by rw [mark_row nd hp]; exact e))
    show (S.casts.any fun c => decide (some m = some c.1)) = true
    exact List.any_eq_true.mpr ⟨c, hc, decide_eq_true (by rw [e2])⟩
def numsA (S : Stt) : List Int := (liveR S).map (·.1) ++ (shelR S).map (·.1)
theorem nums_perm (inv : S.Inv) (nd : S.keys.Nodup) : (numsA S).Perm S.keys := by
  have z := (both_perm inv nd).map (·.1)
  unfold bothR at z
  rwa [List.map_append] at z
theorem nums_nd (inv : S.Inv) (nd : S.keys.Nodup) : (numsA S).Nodup := (nums_perm inv nd).nodup_iff.mpr nd
theorem inner_bund (n : Int) : S.innerL n = (bundR S n).map fun p => rowD p.1 p.2 := rfl
theorem shel_inner : (S.casts.flatMap fun c => S.innerL c.1) = (shelR S).map fun p => rowD p.1 p.2 := by
  unfold shelR
  rw [List.map_flatMap]; rfl
theorem things_live : S.thingsL = (liveR S).map fun p => rowD p.1 p.2 := rfl
theorem used_both (inv : S.Inv) (nd : S.keys.Nodup) : ((bothR S).map fun p => Stt.txLen p.2).sum = S.used := perm_sum _ (both_perm inv nd)
theorem both_row (inv : S.Inv) (nd : S.keys.Nodup) {p : Int × Rw} (h : p ∈ bothR S) : p ∈ S.rows := (both_perm inv nd).mem_iff.mp h
theorem cast_bund (inv : S.Inv) (nd : S.keys.Nodup) {c : Int × Int} (hc : c ∈ S.casts) : c.1 ∈ (bundR S c.1).map (·.1) := by
  have m := inv.cm c hc
  have hk := cast_key inv hc
  have e := get_rw hk
  refine List.mem_map.mpr ⟨(c.1, S.rw c.1), List.mem_filter.mpr ⟨row_get e, decide_eq_true ?_⟩, rfl⟩
  unfold Stt.mark at m
  rw [e] at m
  exact m
/-- the boxes that are there, and the house -/
def boxA (S : Stt) : List (Option Int) := ((liveR S).filter fun p => p.2.tx.isNone).map (fun p => some p.1) ++ [none]
theorem par_box (inv : S.Inv) (uq : S.Uq) (nd : S.keys.Nodup) {p : Int × Rw} (hp : p ∈ liveR S) : p.2.par ∈ boxA S := by
  obtain ⟨h1, h2⟩ := List.mem_filter.mp hp
  cases e : p.2.par with
  | none => exact List.mem_append_right _ (List.mem_singleton.mpr rfl)
  | some q =>
    have g := get_row nd h1
    have th := inv.pt p.1 p.2 q g (Option.isNone_iff_eq_none.mp h2) e
    have hk := there_key th
    refine List.mem_append_left _ (List.mem_map.mpr ⟨(q, S.rw q), List.mem_filter.mpr ⟨List.mem_filter.mpr ⟨row_get (get_rw hk), ?_⟩, ?_⟩, rfl⟩)
    · rw [← there_rw hk]; exact th
    · show (S.rw q).tx.isNone = true
      rw [uq.bx p.1 p.2 q g e hk]; rfl
/-- parent and name, as a key -/
def pnK (p : Int × Rw) : NKs := [p.2.par.map Sum.inl, some (Sum.inr p.2.nm)]
theorem pn_nd (uq : S.Uq) (nd : S.keys.Nodup) : ((liveR S).map pnK).Nodup := by
  have pw : S.rows.Pairwise fun p q => p.1 ≠ q.1 := List.pairwise_map.mp nd
  have pw2 : (liveR S).Pairwise fun p q => p.1 ≠ q.1 := pw.sublist List.filter_sublist
  refine List.pairwise_map.mpr (pw2.imp_of_mem fun {p q} hp hq ne e => ?_)
  obtain ⟨h1, h2⟩ := List.mem_filter.mp hp
  obtain ⟨k1, k2⟩ := List.mem_filter.mp hq
  have m1 := Option.isNone_iff_eq_none.mp h2
  have m2 := Option.isNone_iff_eq_none.mp k2
  unfold pnK at e
  injection e with e1 e2
  injection e2 with e2 _
  have inj : ∀ x y : Option Int, x.map (Sum.inl : Int → Key) = y.map Sum.inl → x = y := fun x y h => by
    cases x with
    | none => cases y with
      | none => rfl
      | some y => cases h
    | some x => cases y with
      | none => cases h
      | some y => exact congrArg some (Sum.inl.inj (Option.some.inj h))
  have ep : p.2.par = q.2.par := inj _ _ e1
  have en : p.2.nm = q.2.nm := Sum.inr.inj (Option.some.inj e2)
  rcases uq.un p.1 q.1 p.2 q.2 (get_row nd h1) (get_row nd k1) ne (by rw [m1, m2]) ep en with z | z
  · rw [m1] at z; cases z
  · rw [m2] at z; cases z
end
end Ho

set_option Elab.async false
set_option linter.all false
set_option maxRecDepth 100000
set_option maxHeartbeats 4000000
/-! J1: all that is asked of one place. -/
namespace Ho
open PySem PySem.Spec PyProof.Rows L2
section
variable {P : Program} {w : World} {K : PySem.W.Frag} {mg : Str → Option Value} {base : Heap} {σ : L2.St} {H H' : Hp} {ta tb tc te tx td tl : TE} {a : HA} {S S' : Stt} {E E' : XK} {De : Ends} {tz t u : TS}
theorem e_at {p : List Str} {t1 t2 : TE} (h : HouseRd (cH K) H a S) (wf : S.Wf) (h1 : EvD t1 σ H (.ref a.p)) (h2 : EvD t2 σ H (.tup (p.map D.str))) : EvD (tMethR (cH K) "at" (sp_h_at K) E t1 (tCons t2 tNil)) σ H (oi (S.atL none p)) :=
  ev_meth h.ins (by kernel_rfl) h1 (ea_cons h2 ea_nil) fun vs H1 s as Q q => by
    cases as with | cons a1 as => cases as; cases a1 with | tup hp hs => cases hs.strs; exact ⟨a, S, _, p, rfl, h.mono s, wf, hp, q⟩
theorem en_listT {ds : List D} (h : EvD te σ H (.tup ds)) : EvN (tCB (rListOf K) (tCons te tNil)) σ H ds := en_cb (ea_cons h ea_nil) fun vs H1 _ as Q q => by
  cases as with
  | cons a as =>
    cases as
    cases a with
    | tup hp hs => exact ⟨_, _, rfl, .inr (SqT.of hp), fun l hl => q l _ _ hl (Same.new hl) upd_same (hs.mono (Same.new hl))⟩
theorem Ats.ois {H : Hp} : ∀ {l : List (Option Int)} {vs : List V}, Ats H (l.map oi) vs → vs = l.map oiV
  | [], _, h => by cases h; rfl
  | n :: ns, _, h => by
    cases h with
    | cons h t => cases at_oi' h; rw [t.ois]; rfl
theorem inV_oo (a : Option Int) : ∀ l : List (Option Int), inV (oiV a) (l.map oiV) = decide (a ∈ l)
  | [] => by simp [inV]
  | b :: l => by
    have ih := inV_oo a l
    unfold inV at ih ⊢
    rw [List.map_cons, List.any_cons, ih]
    cases a with
    | none => cases b with
      | none =>
        show (true || _) = _
        simp
      | some y =>
        show (false || _) = _
        simp
    | some z => cases b with
      | none =>
        show (false || _) = _
        simp
      | some y =>
        show ((y == z) || _) = _
        by_cases h : y = z
        · subst h; simp
        · have h2 : (y == z) = false := beq_eq_false_iff_ne.mpr h
          rw [h2]
          have h3 : ¬ z = y := fun q => h q.symm
          simp [h3]
theorem flat_oo : ∀ l : List (Option Int), (l.map oiV).all flatV = true
  | [] => rfl
  | a :: l => by rw [List.map_cons, List.all_cons, flat_oo l]; cases a <;> rfl
theorem ev_niO {a : Option Int} {l : List (Option Int)} (ha : EvD ta σ H (oi a)) (hb : EvD tb σ H (.lst (l.map oi))) : EvD (tOp (rIn K true) ta tb) σ H (.bl (!decide (a ∈ l))) :=
  ev_op ha hb fun x y H1 _ ax ay Q q => by
    cases at_oi' ax
    cases ay with
    | lst hp hs =>
      cases hs.ois
      refine ⟨_, _, rfl, .inl (SqL.of hp), by cases a <;> rfl, flat_oo l, ?_⟩
      show Q (.bl (!inV (oiV a) (l.map oiV))) H1
      rw [inV_oo]
      exact q _ H1 (Same.refl H1) (.bl _)
/-- row[1:3] -/
theorem ev_sl13 {d0 d1 d2 d3 : D} (h : EvD te σ H (.tup [d0, d1, d2, d3])) : EvD (tSl (rSlA K) te (tPart (tC (.int 1))) (tPart (tC (.int 3)))) σ H (.tup [d1, d2]) := fun H1 s Q q =>
  h H1 s _ fun v H2 s2 av => by
    cases av with
    | @tup a vs _ hp hs =>
      cases hs with | cons b0 hs => ?_
      cases hs with | cons b1 hs => ?_
      cases hs with | cons b2 hs => ?_
      cases hs with | cons b3 hs => ?_
      cases hs
      refine ⟨1, rfl, 3, rfl, a, _, rfl, SqT.of hp, fun z => ?_, fun _ p hp3 => ?_⟩
      · have z1 := z.1
        simp [HT.sIx] at z1
      · exact q _ _ (s2.trans (Same.new hp3)) (.tup upd_same (.cons (b1.mono (Same.new hp3)) (.cons (b2.mono (Same.new hp3)) .nil)))
theorem ev_lenSetI {ns : List Int} (h : EvD te σ H (.lst (ns.map D.int))) (nd : ns.Nodup) (few : ns.length < 64) : EvD (tLenSetI K te) σ H (.int ns.length) := fun H1 s Q q =>
  h H1 s _ fun v H2 s2 av => by
    cases av with
    | lst hp hs =>
      cases hs.ints
      exact ⟨_, ns, rfl, SqL.of hp, few, nd, q _ H2 s2 (.int _)⟩
theorem pn_keys {H : Hp} : ∀ {ps : List (Int × Rw)} {vs : List V}, Ats H (ps.map fun p => D.tup [oi p.2.par, .str p.2.nm]) vs → ∃ ks : List (Addr × NKs), vs = ks.map (fun p => V.ref p.1) ∧ ks.map (·.2) = ps.map pnK ∧ ∀ p ∈ ks, H p.1 = some (.tup (p.2.map nV))
  | [], _, h => by cases h; exact ⟨[], rfl, rfl, fun p hp => absurd hp List.not_mem_nil⟩
  | p :: ps, _, h => by
    cases h with
    | cons h t =>
      obtain ⟨ks, e1, e2, e3⟩ := pn_keys t
      cases h with
      | @tup A us _ hp hs =>
        cases hs with | cons b1 hs => ?_
        cases hs with | cons b2 hs => ?_
        cases hs
        cases at_oi' b1
        cases b2
        refine ⟨(A, pnK p) :: ks, by rw [e1]; rfl, by rw [List.map_cons, e2]; rfl, fun q hq => ?_⟩
        rcases List.mem_cons.mp hq with z | z
        · rw [z, hp]
          show some (HO.tup [oiV p.2.par, V.str p.2.nm]) = some (HO.tup ((pnK p).map nV))
          unfold pnK
          cases p.2.par <;> rfl
        · exact e3 q z
theorem ev_lenSetN {ps : List (Int × Rw)} (h : EvD te σ H (.lst (ps.map fun p => D.tup [oi p.2.par, .str p.2.nm]))) (nd : (ps.map pnK).Nodup) (few : ps.length < 64) : EvD (tLenSetN K te) σ H (.int ps.length) := fun H1 s Q q =>
  h H1 s _ fun v H2 s2 av => by
    cases av with
    | lst hp hs =>
      obtain ⟨ks, e1, e2, e3⟩ := pn_keys hs
      subst e1
      have l : ks.length = ps.length := by
        have z := congrArg List.length e2
        rwa [List.length_map, List.length_map] at z
      exact ⟨_, ks, rfl, SqL.of hp, fun p hp => SqT.of (e3 p hp), by rw [e2]; exact nd, by rw [l]; exact few, by rw [l]; exact q _ H2 s2 (.int _)⟩
theorem ev_chain {i k : Int} (h1 : EvD ta σ H (.int i)) (h2 : EvD tb σ H (.int i)) (h3 : EvD tc σ H (.int k)) (le : i ≤ k) : EvD (tChain rEq (rI0 fun i j => .bl (decide (i ≤ j))) ta tb tc) σ H (.bl true) := fun H1 s Q q =>
  h1 H1 s _ fun x H2 s2 ax => h2 H2 (s.trans s2) _ fun y H3 s3 ay => by
    cases ax; cases ay
    refine ⟨rfl, ?_⟩
    rw [decide_eq_true (show V.int i = V.int i from rfl)]
    refine ⟨true, rfl, ?_⟩
    rw [if_pos rfl]
    refine h3 H3 ((s.trans s2).trans s3) _ fun z H4 s4 az => ?_
    cases az
    refine ⟨i, k, rfl, rfl, ?_⟩
    show Q (V.bl (decide (i ≤ k))) H4
    rw [decide_eq_true le]
    exact q _ H4 ((s2.trans s3).trans s4) (.bl true)
theorem f_true {α : Type} (l : List α) : (l.filter fun _ => true) = l := List.filter_eq_self.mpr (by simp)
theorem liveR_len (wf : S.Wf) : (liveR S).length < 64 := Nat.lt_of_le_of_lt (List.length_filter_le _ _) wf.few
theorem liveR_there (nd : S.keys.Nodup) {p : Int × Rw} (h : p ∈ liveR S) : S.there p.1 = true ∧ S.get p.1 = some p.2 := by
  obtain ⟨h1, h2⟩ := List.mem_filter.mp h
  exact ⟨by rw [there_row nd h1]; exact h2, get_row nd h1⟩
def sp_law_is_right (K : PySem.W.Frag) : Sp := fun vs H Q _ => ∃ (a : HA) (S : Stt) (rm : Int) (g : Addr) (gone : List Int), vs = [.ref a.p, .int rm, .ref g] ∧ HouseRd (cH K) H a S ∧ S.Wf ∧ S.Inv ∧ S.Uq ∧ S.used ≤ rm ∧ LAt H g (gone.map D.int) ∧ (∀ n ∈ S.keys, n ∉ gone) ∧ RetD (.bl true) H Q
theorem sc_law_is_right : FnScope ["_law_house", "_law_room", "_law_gone", "_law_rows", "_law_shelved", "_law_number_here", "_law_name", "_law_day", "_law_many", "_law_some", "_law_numbers", "_law_boxes", "_law_row", "_law_one"] ["_law_house", "_law_room", "_law_gone"] (defScope s_law_is_right) := ⟨rfl, rfl, rfl, by decide +kernel, rfl, by decide +kernel, by decide +kernel⟩
theorem ok_law_is_right (T : Tx K mg) : FnR P w K mg base (L2.CX P w) 4 (He.ga K "_law_is_right") (sp_law_is_right K) := by
  refine fnr (F_law_is_right T) sc_law_is_right (fun _ _ _ _ _ _ us hl => match us, hl with | [_, _, _], _ => rfl) (fun vs H Q E h => by obtain ⟨_, _, _, _, _, rfl, _⟩ := h; rfl) (fun cdv A outer s H vs Q E hr h => ?_)
  refine ⟨_, PSs.nox (pss_cons (ps_set (i := 3) sc_law_is_right.nd rfl (Or.inl rfl) (pe_methF0 (pv 0) (T_cls T) (T_h_things T) (ok_h_things T) (hr.mono (by decide)) passL)) (pss_cons (ps_set (i := 4) sc_law_is_right.nd rfl (Or.inl rfl) (pe_lst pa_nil)) (pss_cons (ps_for PassesOwn.never rfl (pitK K (pe_methF0 (pv 0) (T_cls T) (T_h_shelf T) (ok_h_shelf T) (hr.mono (by decide)) passL)) (gtupK K (n := 4) rfl (pgs_cons (pg_name (i := 5) sc_law_is_right.nd rfl (Or.inl rfl)) (pgs_cons (pg_name (i := 6) sc_law_is_right.nd rfl (Or.inl rfl)) (pgs_cons (pg_name (i := 7) sc_law_is_right.nd rfl (Or.inl rfl)) (pgs_cons (pg_name (i := 8) sc_law_is_right.nd rfl (Or.inl rfl)) pgs_nil))))) (pss_cons (ps_set (i := 9) sc_law_is_right.nd rfl (Or.inl rfl) (pe_methR (pv 0) (T_cls T) (T_h_inner T) (ok_h_inner T) (hr.mono (by decide)) passL (pa_cons (pv 5) pa_nil))) (pss_cons (ps_if (PW.pt (pw_or (pt_cmpR op_ne (pe_callB (lenK K) rfl (T_len T) bt_len (pa_cons (pv 9) pa_nil)) (pv 8) (nomark _)) (pw_or1 (pt_cmpR (niK K) (pv 5) (pe_lc (own := [("_law_row", 12)]) rfl sc_law_is_right.nd (pitK K (pv 9)) (blkOk_by (N := ["_law_house", "_law_room", "_law_gone", "_law_rows", "_law_shelved", "_law_number_here", "_law_name", "_law_day", "_law_many", "_law_some", "_law_numbers", "_law_boxes", "_law_row", "_law_one"]) (sc := defScope s_law_is_right) (by decide +kernel)) (fun _ _ _ _ _ => (pg_name (i := 12) sc_law_is_right.nd rfl (Or.inl rfl))) (fun _ _ _ _ _ => pts_nil) (fun _ _ _ _ _ => (pe_ix (ixtK K) (pv 12) pe_int (fun _ _ => rfl)))) rfl)))) (pss_one (ps_ret pe_bl)) pss_nil) (pss_one (ps_expr (bmK K PySem.F.plainAttrs_list PySem.F.slot_list_extend PySem.F.type_list_extend mt_extend (pv 4) (pa_cons (pe_callTy (listOfK K) rfl (T_list T) bt_list (pa_cons (pv 9) pa_nil)) pa_nil))))))) (pss_cons (ps_set (i := 10) sc_law_is_right.nd rfl (Or.inl rfl) (pe_op op_cat (pe_lc (own := [("_law_row", 12)]) rfl sc_law_is_right.nd (pitK K (pv 3)) (blkOk_by (N := ["_law_house", "_law_room", "_law_gone", "_law_rows", "_law_shelved", "_law_number_here", "_law_name", "_law_day", "_law_many", "_law_some", "_law_numbers", "_law_boxes", "_law_row", "_law_one"]) (sc := defScope s_law_is_right) (by decide +kernel)) (fun _ _ _ _ _ => (pg_name (i := 12) sc_law_is_right.nd rfl (Or.inl rfl))) (fun _ _ _ _ _ => pts_nil) (fun _ _ _ _ _ => (pe_ix (ixtK K) (pv 12) pe_int (fun _ _ => rfl)))) (pe_lc (own := [("_law_row", 12)]) rfl sc_law_is_right.nd (pilK K (pv 4)) (blkOk_by (N := ["_law_house", "_law_room", "_law_gone", "_law_rows", "_law_shelved", "_law_number_here", "_law_name", "_law_day", "_law_many", "_law_some", "_law_numbers", "_law_boxes", "_law_row", "_law_one"]) (sc := defScope s_law_is_right) (by decide +kernel)) (fun _ _ _ _ _ => (pg_name (i := 12) sc_law_is_right.nd rfl (Or.inl rfl))) (fun _ _ _ _ _ => pts_nil) (fun _ _ _ _ _ => (pe_ix (ixtK K) (pv 12) pe_int (fun _ _ => rfl)))))) (pss_cons (ps_if (PW.pt (pw_or (pt_cmpR op_ne (pe_lenSetI rfl rfl (T_len T) rfl (T_set T) (pv 10)) (pe_callB (lenK K) rfl (T_len T) bt_len (pa_cons (pv 10) pa_nil)) (nomark _)) (pw_or1 (pt_cmpR (neDK K (hE hr)) (pe_lc (own := [("_law_one", 13)]) rfl sc_law_is_right.nd (pilK K (pv 10)) (blkOk_by (N := ["_law_house", "_law_room", "_law_gone", "_law_rows", "_law_shelved", "_law_number_here", "_law_name", "_law_day", "_law_many", "_law_some", "_law_numbers", "_law_boxes", "_law_row", "_law_one"]) (sc := defScope s_law_is_right) (by decide +kernel)) (fun _ _ _ _ _ => (pg_name (i := 13) sc_law_is_right.nd rfl (Or.inl rfl))) (fun _ _ _ _ _ => (pts_one (pt_cmpR (inK K) (pv 13) (pv 2) rfl))) (fun _ _ _ _ _ => (pv 13))) (pe_lst pa_nil) (nomark _))))) (pss_one (ps_ret pe_bl)) pss_nil) (pss_cons (ps_set (i := 11) sc_law_is_right.nd rfl (Or.inr rfl) (pe_op op_cat (pe_lc (own := [("_law_row", 12)]) rfl sc_law_is_right.nd (pitK K (pv 3)) (blkOk_by (N := ["_law_house", "_law_room", "_law_gone", "_law_rows", "_law_shelved", "_law_number_here", "_law_name", "_law_day", "_law_many", "_law_some", "_law_numbers", "_law_boxes", "_law_row", "_law_one"]) (sc := defScope s_law_is_right) (by decide +kernel)) (fun _ _ _ _ _ => (pg_name (i := 12) sc_law_is_right.nd rfl (Or.inl rfl))) (fun _ _ _ _ _ => (pts_one (pt_cmpR op_isN (pe_ix (ixtK K) (pv 12) pe_int (fun _ _ => rfl)) pe_non (nomark _)))) (fun _ _ _ _ _ => (pe_ix (ixtK K) (pv 12) pe_int (fun _ _ => rfl)))) (pe_lst (pa_cons pe_non pa_nil)))) (pss_cons (ps_if (PW.pt (pw_or (pt_cmpR (neDK K (hE hr)) (pe_lc (own := [("_law_row", 12)]) rfl sc_law_is_right.nd (pitK K (pv 3)) (blkOk_by (N := ["_law_house", "_law_room", "_law_gone", "_law_rows", "_law_shelved", "_law_number_here", "_law_name", "_law_day", "_law_many", "_law_some", "_law_numbers", "_law_boxes", "_law_row", "_law_one"]) (sc := defScope s_law_is_right) (by decide +kernel)) (fun _ _ _ _ _ => (pg_name (i := 12) sc_law_is_right.nd rfl (Or.inl rfl))) (fun _ _ _ _ _ => (pts_one (pt_cmpR (niK K) (pe_ix (ixtK K) (pv 12) pe_int (fun _ _ => rfl)) (pv 11) rfl))) (fun _ _ _ _ _ => (pv 12))) (pe_lst pa_nil) (nomark _)) (pw_or1 (pt_cmpR op_ne (pe_lenSetN rfl (hE hr) rfl (T_len T) rfl (T_set T) (pe_lc (own := [("_law_row", 12)]) rfl sc_law_is_right.nd (pitK K (pv 3)) (blkOk_by (N := ["_law_house", "_law_room", "_law_gone", "_law_rows", "_law_shelved", "_law_number_here", "_law_name", "_law_day", "_law_many", "_law_some", "_law_numbers", "_law_boxes", "_law_row", "_law_one"]) (sc := defScope s_law_is_right) (by decide +kernel)) (fun _ _ _ _ _ => (pg_name (i := 12) sc_law_is_right.nd rfl (Or.inl rfl))) (fun _ _ _ _ _ => pts_nil) (fun _ _ _ _ _ => (pe_slice (slAK K) (pv 12) (po_some pe_int) (po_some pe_int))))) (pe_callB (lenK K) rfl (T_len T) bt_len (pa_cons (pv 3) pa_nil)) (nomark _))))) (pss_one (ps_ret pe_bl)) pss_nil) (pss_cons (ps_if (pt_cmpR (neDK K (hE hr)) (pe_lc (own := [("_law_row", 12)]) rfl sc_law_is_right.nd (pitK K (pv 3)) (blkOk_by (N := ["_law_house", "_law_room", "_law_gone", "_law_rows", "_law_shelved", "_law_number_here", "_law_name", "_law_day", "_law_many", "_law_some", "_law_numbers", "_law_boxes", "_law_row", "_law_one"]) (sc := defScope s_law_is_right) (by decide +kernel)) (fun _ _ _ _ _ => (pg_name (i := 12) sc_law_is_right.nd rfl (Or.inl rfl))) (fun _ _ _ _ _ => (pts_one (pt_cmpR op_ne (pe_methR (pv 0) (T_cls T) (T_h_at T) (ok_h_at T) (hr.mono (by decide)) passL (pa_cons (pe_methR (pv 0) (T_cls T) (T_h_path T) (ok_h_path T) (hr.mono (by decide)) passL (pa_cons (pe_ix (ixtK K) (pv 12) pe_int (fun _ _ => rfl)) pa_nil)) pa_nil)) (pe_ix (ixtK K) (pv 12) pe_int (fun _ _ => rfl)) (nomark _)))) (fun _ _ _ _ _ => (pv 12))) (pe_lst pa_nil) (nomark _)) (pss_one (ps_ret pe_bl)) pss_nil) (pss_one (ps_ret (pe_chain op_eq op_le (pe_methF0 (pv 0) (T_cls T) (T_h_used T) (ok_h_used T) (hr.mono (by decide)) passL) (pe_callB (sumK K) rfl (T_sum T) bt_sum (pa_cons (pe_lc (own := [("_law_row", 12)]) rfl sc_law_is_right.nd (pilK K (pe_op op_cat (pe_callTy (listOfK K) rfl (T_list T) bt_list (pa_cons (pv 3) pa_nil)) (pv 4))) (blkOk_by (N := ["_law_house", "_law_room", "_law_gone", "_law_rows", "_law_shelved", "_law_number_here", "_law_name", "_law_day", "_law_many", "_law_some", "_law_numbers", "_law_boxes", "_law_row", "_law_one"]) (sc := defScope s_law_is_right) (by decide +kernel)) (fun _ _ _ _ _ => (pg_name (i := 12) sc_law_is_right.nd rfl (Or.inl rfl))) (fun _ _ _ _ _ => pts_nil) (fun _ _ _ _ _ => (pe_callB lenStrK rfl (T_len T) bt_len (pa_cons (orTK K (pe_ix (ixtK K) (pv 12) pe_int (fun _ _ => rfl)) (pe_one pe_str)) pa_nil)))) pa_nil)) (pv 1)))))))))))), ?_⟩
  obtain ⟨a, S, rm, g, gone, rfl, h, wf, inv, uq, le, hg, hgone, k⟩ := h
  have nd := wf.nd
  have ck : ∀ c ∈ S.casts, c.1 ∈ S.keys := fun c hc => cast_key inv hc
  have lb : (bothR S).length < 64 := by rw [(both_perm inv nd).length_eq]; exact wf.few
  have ll := liveR_len wf
  have ls : (shelR S).length < 64 := by
    have z : (bothR S).length = (liveR S).length + (shelR S).length := List.length_append
    omega
  refine q_asg (e_things h wf (ev_vr rfl)) fun v1 H1 s1 a1 => ?_
  have h1 := h.mono s1
  refine q_asgN (ds := []) (en_lst ea_nil le_lit) fun L vs H2 hL s2 h2 as2 => ?_
  cases as2
  have h2' := h1.mono s2
  refine q_forT (ds := S.shelfL) (e_shelf h2' wf ck (ev_vr rfl)) fun A ws H3 s3 hA as3 => ⟨fun i σ' H' => ∃ (o5 o6 o7 o8 o9 : Option V) (xs : List V), σ' = [some (.ref a.p), some (.int rm), some (.ref g), some v1, some (.ref L), o5, o6, o7, o8, o9, none, none, none, none] ∧ Same H1 H' ∧ H' A = some (.tup ws) ∧ Ats H' (S.casts.map (shD S)) ws ∧ H' L = some (.lst xs) ∧ Ats H' (((S.casts.take i).flatMap fun c => bundR S c.1).map fun p => rowD p.1 p.2) xs, ?_, fun i σ' H' p => ?_, fun i v σ' H' hv p => ?_, fun σ' H' p => ?_⟩
  · exact ⟨_, _, _, _, _, [], rfl, s2.trans s3, hA, as3, s3 _ _ h2, .nil⟩
  · obtain ⟨_, _, _, _, _, _, _, _, z, _⟩ := p; exact z
  · obtain ⟨o5, o6, o7, o8, o9, xs, rfl, p1, p2, p3, p4, p5⟩ := p
    obtain ⟨c, hc, ac⟩ := getElem_map p3 hv
    have hcm := List.mem_of_getElem? hc
    cases ac with
    | @tup B us _ hp hs =>
      cases hs with | cons b1 hs => ?_
      cases hs with | cons b2 hs => ?_
      cases hs with | cons b3 hs => ?_
      cases hs with | cons b4 hs => ?_
      cases hs
      cases b1; cases b2; cases b3; cases b4
      refine ⟨_, _, rfl, SqT.of hp, rfl, _, _, rfl, _, _, rfl, _, _, rfl, _, _, rfl, rfl, ?_⟩
      refine q_asg (e_inner (h1.mono p1) wf (List.mem_map.mpr ⟨c, hcm, rfl⟩) (ev_vr rfl) (ev_vi rfl)) fun v9 G1 t1 a9 => ?_
      have mny : (S.innerL c.1).length = S.many c.1 := List.length_map _
      have bl : (bundR S c.1).length < 64 := Nat.lt_of_le_of_lt (List.length_filter_le _ _) wf.few
      refine q_ifN (b := false) ((et_or (a := false) (b := false) (et_test ((ev_neI (ev_lenT (ev_var rfl a9)) (ev_vi rfl)).is (by rw [mny]; simp))) fun _ => et_test ((ev_niInt (l := (bundR S c.1).map (·.1)) (ev_vi rfl) ((en_lcT (bundR S c.1) (fun p => rowD p.1 p.2) (fun _ => true) (fun p => .int p.1) (ev_var rfl a9) (by omega) (fun _ _ => rfl) (fun _ => rfl) fun p hp v G sg av => ⟨et_yes, fun _ => ev_ixT (k := 0) (ev_var rfl av) rfl⟩).toD.is (by rw [f_true, List.map_map]; rfl))).is (by rw [decide_eq_true (cast_bund inv nd hcm)]; rfl))).is rfl) (fun z => by cases z) fun _ G2 t2 => ?_
      have t12 := t1.trans t2
      have pre : shelR S = ((S.casts.take i).flatMap fun c => bundR S c.1) ++ (S.casts.drop i).flatMap fun c => bundR S c.1 := by
        rw [← List.flatMap_append, List.take_append_drop]; rfl
      have xl : xs.length < 64 := by
        rw [← p5.length, List.length_map]
        have z := congrArg List.length pre
        rw [List.length_append] at z
        omega
      have hL2 := t12 _ _ p4
      refine s_ext hL2 (ev_vr rfl) (en_listT (ev_var rfl (a9.mono t2))) (by rw [mny]; have : S.many c.1 = (bundR S c.1).length := rfl; omega) fun us2 G3 t3 as4 => ?_
      have t13 := t12.trans t3
      have hL3 := t3 _ _ hL2
      have tl := upd_tle (ys := xs ++ us2) hL3
      refine ⟨_, _, _, _, _, xs ++ us2, rfl, Same.mut (p1.trans t13) hL, ?_, (p3.mono t13).tle tl (nls_map _ (fun _ => shD_nl _) _), upd_same, ?_⟩
      · rw [upd_ne (ne_of (t13 _ _ p2) hL3 (by intro z; cases z))]
        exact t13 _ _ p2
      · rw [take_more hc, List.flatMap_append, List.map_append]
        refine ((p5.mono t13).tle tl (nls_of fun p _ => rowD_nl _ _)).app ?_
        rw [show ([c] : List (Int × Int)).flatMap (fun c => bundR S c.1) = bundR S c.1 from by simp]
        exact as4.tle tl (nls_of fun p _ => rowD_nl _ _)
  · obtain ⟨o5, o6, o7, o8, o9, xs, rfl, p1, _, p3, p4, p5⟩ := p
    have wl : ws.length = S.casts.length := by rw [← p3.length, List.length_map]
    rw [wl, List.take_of_length_le (Nat.le_refl _)] at p5
    have p5 : Ats H' ((shelR S).map fun p => rowD p.1 p.2) xs := p5
    have hh := h1.mono p1
    have sH := s1.trans p1
    have a1 := a1.mono p1
    have rows : ∀ {G : Hp} {σ : L2.St}, Same H' G → σ[3]? = some (some v1) → EvD (tVar 3) σ G (.tup ((liveR S).map fun p => rowD p.1 p.2)) := fun sg e => ev_var e (a1.mono sg)
    have shel : ∀ {G : Hp} {σ : L2.St}, Same H' G → σ[4]? = some (some (.ref L)) → EvD (tVar 4) σ G (.lst ((shelR S).map fun p => rowD p.1 p.2)) := fun sg e => ev_var e (.lst (sg _ _ p4) (p5.mono sg))
    refine q_asgN (ds := (numsA S).map D.int) ((en_cat (en_lcT (liveR S) (fun p => rowD p.1 p.2) (fun _ => true) (fun p => .int p.1) (rows (Same.refl _) rfl) (by omega) (fun _ _ => rfl) (fun _ => rfl) fun p hp v G sg av => ⟨et_yes, fun _ => ev_ixT (k := 0) (ev_var rfl av) rfl⟩).toD (en_lc (shelR S) (fun p => rowD p.1 p.2) (fun _ => true) (fun p => .int p.1) (shel (Same.refl _) rfl) (by omega) (fun _ _ => rfl) (fun _ => rfl) fun p hp v G sg av => ⟨et_yes, fun _ => ev_ixT (k := 0) (ev_var rfl av) rfl⟩).toD (by rw [f_true, f_true, List.length_map, List.length_map]; omega)).is (by rw [f_true, f_true]; unfold numsA; rw [List.map_append, List.map_map, List.map_map]; rfl)) fun N ns G1 hN t1 h10 as10 => ?_
    cases as10.ints
    have nn := nums_nd inv nd
    have nl : (numsA S).length < 64 := by rw [(nums_perm inv nd).length_eq]; exact wf.klen
    refine q_ifN (b := false) ((et_or (a := false) (b := false) (et_test ((ev_neI (ev_lenSetI (ev_var rfl (.lst h10 (ats_ints _))) nn nl) ((ev_lenL (ev_var rfl (.lst h10 (ats_ints _)))).is (by rw [List.length_map]))).is (by simp))) fun _ => et_test (ev_neSame (n := 1) (d := .lst []) (by decide) (shp_lst shp_nil) ((en_lc (numsA S) D.int (fun n => decide (n ∈ gone)) D.int (ev_var rfl (.lst h10 (ats_ints _))) (by omega) (fun _ _ => rfl) (fun _ => rfl) fun n hn v G sg av => ?_).toD.is ?_) (en_lst ea_nil le_lit).toD)).is rfl) (fun z => by cases z) fun _ G2 t2 => ?_
    · cases av
      exact ⟨et_test (ev_inInt (ev_vi rfl) (ev_var rfl (hg.mono ((sH.trans t1).trans sg)).at)), fun _ => ev_vi rfl⟩
    · rw [List.filter_eq_nil_iff.mpr fun n hn => by simpa using hgone n ((nums_perm inv nd).mem_iff.mp hn)]; rfl
    have t12 := t1.trans t2
    refine q_asgN (ds := (boxA S).map oi) ((en_cat (en_lcT (liveR S) (fun p => rowD p.1 p.2) (fun p => p.2.tx.isNone) (fun p => .int p.1) (rows t12 rfl) (by omega) (fun _ _ => rfl) (fun _ => rfl) fun p hp v G sg av => ⟨(et_test (ev_isN (ev_ixT (k := 3) (ev_var rfl av) rfl))).is (by rw [os_isN]), fun _ => ev_ixT (k := 0) (ev_var rfl av) rfl⟩).toD (en_lst (ds := [.non]) (ea_cons ev_non ea_nil) le_lit).toD (by have := List.length_filter_le (fun p : Int × Rw => p.2.tx.isNone) (liveR S); rw [List.length_map]; show _ + 1 ≤ _; omega)).is (by unfold boxA; rw [List.map_append, List.map_map]; rfl)) fun B bs G3 hB t3 h11 as11 => ?_
    have t13 := t12.trans t3
    refine q_ifN (b := false) ((et_or (a := false) (b := false) (et_test (ev_neSame (n := 1) (d := .lst []) (by decide) (shp_lst shp_nil) ((en_lcT (liveR S) (fun p => rowD p.1 p.2) (fun p => !decide (p.2.par ∈ boxA S)) (fun p => rowD p.1 p.2) (rows t13 rfl) (by omega) (fun _ _ => rowD_nl _ _) (fun _ => rfl) fun p hp v G sg av => ⟨et_test (ev_niO (ev_ixT (k := 1) (ev_var rfl av) rfl) (ev_var rfl (.lst (sg _ _ h11) (as11.mono sg)))), fun _ => ev_var rfl av⟩).toD.is ?_) (en_lst ea_nil le_lit).toD)) fun _ => et_test ((ev_neI (ev_lenSetN (ps := liveR S) ((en_lcT (liveR S) (fun p => rowD p.1 p.2) (fun _ => true) (fun p => .tup [oi p.2.par, .str p.2.nm]) (rows t13 rfl) (by omega) (fun p _ => by show ((oi p.2.par).nl && (true && true)) = true; rw [oi_nl]; rfl) (fun _ => rfl) fun p hp v G sg av => ⟨et_yes, fun _ => ev_sl13 (ev_var rfl av)⟩).toD.is (by rw [f_true])) (pn_nd uq nd) ll) ((ev_lenT (rows t13 rfl)).is (by rw [List.length_map]))).is (by simp))).is rfl) (fun z => by cases z) fun _ G4 t4 => ?_
    · rw [List.filter_eq_nil_iff.mpr fun p hp => by simpa using par_box inv uq nd hp]; rfl
    have t14 := t13.trans t4
    refine q_ifN (b := false) (et_test (ev_neSame (n := 1) (d := .lst []) (by decide) (shp_lst shp_nil) ((en_lcT (liveR S) (fun p => rowD p.1 p.2) (fun p => !decide (S.atL none (pth S p.1) = some p.1)) (fun p => rowD p.1 p.2) (rows t14 rfl) (by omega) (fun _ _ => rowD_nl _ _) (fun _ => rfl) fun p hp v G sg av => ⟨et_test (ev_ne (b := some p.1) (e_at (hh.mono (t14.trans sg)) wf (ev_vr rfl) (e_path (hh.mono (t14.trans sg)) wf inv (liveR_there nd hp).1 (ev_vr rfl) (ev_ixT (k := 0) (ev_var rfl av) rfl))) (ev_ixT (k := 0) (ev_var rfl av) rfl)), fun _ => ev_var rfl av⟩).toD.is ?_) (en_lst ea_nil le_lit).toD)) (fun z => by cases z) fun _ G5 t5 => ?_
    · rw [List.filter_eq_nil_iff.mpr fun p hp => by simpa using at_path0 uq nd (pth_is inv (liveR_there nd hp).1)]; rfl
    have t15 := t14.trans t5
    refine s_ret (ev_chain (i := S.used) (e_used (hh.mono t15) wf (ev_vr rfl)) ((ev_sum (ns := (bothR S).map fun p => Stt.txLen p.2) ((en_lc (bothR S) (fun p => rowD p.1 p.2) (fun _ => true) (fun p => .int (Stt.txLen p.2)) ((en_cat (en_listT (rows t15 rfl)).toD (shel t15 rfl) (by rw [List.length_map, List.length_map]; omega)).toD.is (by unfold bothR; rw [List.map_append])) (by omega) (fun _ _ => rfl) (fun _ => rfl) fun p hp v G sg av => ⟨et_yes, fun _ => ev_len0 (ev_ixT (k := 3) (ev_var rfl av) rfl) (wf.txl p (both_row inv nd hp))⟩).toD.is (by rw [f_true, List.map_map]; rfl))).is (by rw [used_both inv nd])) (ev_vi rfl) le) (RetD.mono k (sH.trans t15))
theorem e_right {rm : Int} {g : Addr} {gone : List Int} {t1 t2 t3 : TE} (h : HouseRd (cH K) H a S) (wf : S.Wf) (inv : S.Inv) (uq : S.Uq) (le : S.used ≤ rm) (hg : LAt H g (gone.map D.int)) (hgone : ∀ n ∈ S.keys, n ∉ gone) (h1 : EvD t1 σ H (.ref a.p)) (h2 : EvD t2 σ H (.int rm)) (h3 : EvD t3 σ H (.ref g)) :
    EvD (tCallF (sp_law_is_right K) E (tCons t1 (tCons t2 (tCons t3 tNil)))) σ H (.bl true) :=
  ev_call (ea_cons h1 (ea_cons h2 (ea_cons h3 ea_nil))) fun vs H1 s as Q q => by
    cases as with | cons a1 as => cases as with | cons a2 as => cases as with | cons a3 as => cases as; cases a1; cases a2; cases a3; exact ⟨a, S, rm, g, gone, rfl, h.mono s, wf, inv, uq, le, hg.mono s, hgone, q⟩
end
end Ho

set_option Elab.async false
set_option linter.all false
set_option maxRecDepth 100000
set_option maxHeartbeats 4000000
/-! H13: each thing stands at one place: the law. -/
namespace Ho
open PySem PySem.Spec PyProof.Rows L2
theorem room_keeps (rm : Int) : Stt.Keeps (fun S : Stt => S.room = rm) where
  add := fun S wf i h p nm b h1 h2 h3 => h
  ren := fun S wf i h n nm h1 h2 h3 => h
  mov := fun S wf i h n p h1 h2 h3 => h
  wri := fun S wf i h n t o h1 h2 h3 h4 => h
  tie := fun S wf i h ts => h
  los := fun S wf i h n => h
  cas := fun S wf i h n h1 => h
  bak := fun S wf i h n h1 => h
  cop := fun S wf i h n p h1 h2 h3 => h
  day := fun S wf i h => h
/-- the numbers that are gone -/
def goneL (S : Stt) : List Int := ((List.range (S.count + 1 - 1).toNat).map fun i : Nat => 1 + (i : Int)).filter fun n => !((rows4 S).lookup n).isSome
theorem gone_out {S : Stt} : ∀ n ∈ S.keys, n ∉ goneL S := fun n hn z => by
  have z2 := (List.mem_filter.mp z).2
  obtain ⟨r, e⟩ := get_key hn
  rw [look4, e] at z2
  cases z2
section
variable {P : Program} {w : World} {K : PySem.W.Frag} {mg : Str → Option Value} {base : Heap} {σ : L2.St} {H H' : Hp} {ta tb te tx td tl : TE} {a : HA} {b : SA} {S S' : Stt} {E E' : XK} {De : Ends} {tz t u : TS}
def wds13a : List Str := ["make", "make", "write"]
def wds13 : List Str := ["make", "write", "rename", "move", "cast", "cast", "back", "gone", "next_day", "copy", "empty", "back"]
def sp_law (K : PySem.W.Frag) : Sp := fun vs H Q _ => ∃ (l : Addr) (s : List Int), vs = [.ref l] ∧ SqL K H l (s.map V.int) ∧ ∀ G, Q (.bl true) G
theorem sc_law : FnScope ["_law_script", "_law_words", "_law_k", "_law_keep", "_law_room", "_law_house", "_law_state", "_law_turn", "_law_cell_here", "_law_deed_here", "_law_gone", "_law_one"] ["_law_script"] (defScope s_law) := ⟨rfl, rfl, rfl, by decide +kernel, rfl, by decide +kernel, by decide +kernel⟩
theorem law_fn (T : Tx K mg) : ∃ fd : FuncData, (∀ (s : Shared) (v : Value), BindsTo s fd ⟨[v], []⟩ [("_law_script", v)]) ∧ ∀ base : Heap, FnOk P w K mg base CX0 8 (He.ga K "law") fd ["_law_script"] (sp_law K) := by
  obtain ⟨fd, F⟩ := F_law T
  have b := FunD.bindsA (ps := ["_law_script"]) F fun _ _ _ _ _ _ us hl => match us, hl with | [_], _ => rfl
  refine ⟨fd, fun s v => b s [v] rfl, fun base => FunD.ok F sc_law (fun vs H Q E h => by obtain ⟨_, _, rfl, _⟩ := h; rfl) fun cdv A outer s H vs Q E hr h => ?_⟩
  refine ⟨_, PSs.nox (pss_cons (ps_set (i := 1) sc_law.nd rfl (Or.inl rfl) (pe_tup (pa_cons pe_str (pa_cons pe_str (pa_cons pe_str (pa_cons pe_str (pa_cons pe_str (pa_cons pe_str (pa_cons pe_str (pa_cons pe_str pa_nil)))))))))) (pss_cons (ps_set (i := 1) sc_law.nd rfl (Or.inl rfl) (pe_op (catAK K) (pv 1) (pe_tup (pa_cons pe_str (pa_cons pe_str (pa_cons pe_str (pa_cons pe_str pa_nil))))))) (pss_cons (ps_for PassesOwn.never rfl (pi_range1 rfl (T_range T) (pa_cons pe_int pa_nil)) (pg_name (i := 2) sc_law.nd rfl (Or.inl rfl)) (pss_cons (ps_asg (pe_callF (ok_law_bounds T) (hr.mono (by decide)) (T_law_bounds T).1 (T_law_bounds T).2 passL (pa_cons (pe_op op_add (pe_callF (ok_law_cell T) (hr.mono (by decide)) (T_law_cell T).1 (T_law_cell T).2 passL (pa_cons (pv 0) (pa_cons (pv 2) pa_nil))) (pe_op op_mul pe_int (pv 2))) pa_nil)) (gtupK K (n := 2) rfl (pgs_cons (pg_name (i := 3) sc_law.nd rfl (Or.inl rfl)) (pgs_cons (pg_name (i := 4) sc_law.nd rfl (Or.inl rfl)) pgs_nil)))) (pss_cons (ps_asg (pe_tup (pa_cons (StX.pe_makeR (T_mkr T) (ok_h_init__ T) (hr.mono (by decide)) rfl (T_House T) passL (pa_cons (pv 3) (pa_cons (pv 4) pa_nil))) (pa_cons (pe_callF (ok_law_begin T) (hr.mono (by decide)) (T_law_begin T).1 (T_law_begin T).2 passL (pa_cons (pv 3) (pa_cons (pv 4) pa_nil))) pa_nil))) (gtupK K (n := 2) rfl (pgs_cons (pg_name (i := 5) sc_law.nd rfl (Or.inl rfl)) (pgs_cons (pg_name (i := 6) sc_law.nd rfl (Or.inr rfl)) pgs_nil)))) (pss_one (ps_for PassesOwn.never rfl (enumK K rfl (T_enumerate T) (pa_cons (pe_callF (ok_law_cells T) (hr.mono (by decide)) (T_law_cells T).1 (T_law_cells T).2 passL (pa_cons (pv 0) (pa_cons (pv 2) (pa_cons pe_int pa_nil)))) pa_nil)) (gtupK K (n := 2) rfl (pgs_cons (pg_name (i := 7) sc_law.nd rfl (Or.inl rfl)) (pgs_cons (pg_name (i := 8) sc_law.nd rfl (Or.inl rfl)) pgs_nil))) (pss_cons (ps_set (i := 9) sc_law.nd rfl (Or.inl rfl) (pe_callF (ok_law_deed T) (hr.mono (by decide)) (T_law_deed T).1 (T_law_deed T).2 passL (pa_cons (pv 8) (pa_cons (pv 6) (pa_cons (pe_ifExp (pt_cmpR op_lt (pv 7) pe_int (nomark _)) (pe_tup (pa_cons pe_str (pa_cons pe_str (pa_cons pe_str pa_nil)))) (pv 1)) pa_nil))))) (pss_cons (ps_if (PW.pt (pw_and (pt_cmpR op_eq (pe_ix (ixtK K) (pv 9) pe_int (fun _ _ => rfl)) pe_str (nomark _)) (pw_and1 (pt_cmpR op_gt (pe_callB call_lenD rfl (T_len T) bt_len (pa_cons (pe_dget (hu_of hr) (pv 6) pe_str (fun _ _ => rfl)) pa_nil)) pe_int (nomark _))))) (pss_one (ps_set (i := 9) sc_law.nd rfl (Or.inl rfl) (pe_tup (pa_cons pe_str pa_nil)))) pss_nil) (pss_cons (ps_expr (pe_callF (ok_law_told T) (hr.mono (by decide)) (T_law_told T).1 (T_law_told T).2 passL (pa_cons (pv 5) (pa_cons (pv 9) pa_nil)))) (pss_cons (ps_expr (pe_callF (ok_law_do T) (hr.mono (by decide)) (T_law_do T).1 (T_law_do T).2 passL (pa_cons (pv 6) (pa_cons (pv 9) pa_nil)))) (pss_cons (ps_setLc (own := [("_law_one", 11)]) (i := 10) rfl sc_law.nd rfl rfl (sw_true rfl rfl rfl (by decide +kernel)) (pi_range2 rfl (T_range T) (pa_cons pe_int (pa_cons (pe_op op_add (pe_dget (hu_of hr) (pv 6) pe_str (fun _ _ => rfl)) pe_int) pa_nil))) (blkOk_by (N := ["_law_script", "_law_words", "_law_k", "_law_keep", "_law_room", "_law_house", "_law_state", "_law_turn", "_law_cell_here", "_law_deed_here", "_law_gone", "_law_one"]) (sc := defScope s_law) (by decide +kernel)) (fun _ _ _ _ _ => (pg_name (i := 11) sc_law.nd rfl (Or.inl rfl))) (fun _ _ _ _ _ => (pts_one (pt_cmp (pc_dnotin (hu_of hr) (pv 11) (pe_dget (hu_of hr) (pv 6) pe_str (fun _ _ => rfl)))))) (fun _ _ _ _ _ => (pv 11))) (pss_one (ps_if (pt_not (truK K (pe_callF (ok_law_is_right T) (hr.mono (by decide)) (T_law_is_right T).1 (T_law_is_right T).2 passL (pa_cons (pv 5) (pa_cons (pv 4) (pa_cons (pv 10) pa_nil)))))) (pss_one (ps_ret pe_bl)) pss_nil)))))))))))) (pss_one (ps_ret pe_bl))))), ?_⟩
  obtain ⟨l, s0, rfl, hl, k⟩ := h
  refine q_asg (d := .tup ((["make", "write", "rename", "move", "cast", "cast", "back", "gone"] : List Str).map D.str)) ((ev_tup (ea_cons ev_str (ea_cons ev_str (ea_cons ev_str (ea_cons ev_str (ea_cons ev_str (ea_cons ev_str (ea_cons ev_str (ea_cons ev_str ea_nil)))))))) le_lit).is rfl) fun vw0 H0 s00 aw0 => ?_
  refine q_asg (d := .tup (wds13.map D.str)) ((ev_catA (ds := (["make", "write", "rename", "move", "cast", "cast", "back", "gone"] : List Str).map D.str) (es := (["next_day", "copy", "empty", "back"] : List Str).map D.str) (ev_var rfl aw0) (ev_tup (ea_cons ev_str (ea_cons ev_str (ea_cons ev_str (ea_cons ev_str ea_nil)))) le_lit) (le_lit (by kernel_rfl))).is rfl) fun vw H1 s01 aw => ?_
  have s1 := s00.trans s01
  have hl := sql_same s1 hl
  refine q_forR1 3 ev_int (by decide) fun HL sL => ⟨fun i σ' G => ∃ o2 o3 o4 o5 o6 o7 o8 o9 o10 : Option V, σ' = [some (.ref l), some vw, o2, o3, o4, o5, o6, o7, o8, o9, o10, none] ∧ SqL K G l (s0.map V.int) ∧ At G (.tup (wds13.map D.str)) vw, ⟨_, _, _, _, _, _, _, _, _, rfl, sql_same sL hl, aw.mono sL⟩, fun i σ' G hi p => ?_, fun σ' G p => ?_⟩
  · obtain ⟨o2, o3, o4, o5, o6, o7, o8, o9, o10, rfl, hl, aw⟩ := p
    refine q_unp2 (d1 := .int (bnd1 (s0.getD i 0 + 3 * (i : Int)))) (d2 := .int (bnd2 (s0.getD i 0 + 3 * (i : Int)))) (t_bounds (ev_add (e_cell (K := K) (i := i) hl (ev_vr rfl) (ev_vi rfl)) (ev_mul ev_int (ev_vi rfl) (.inl (by decide))))) fun v1 v2 G1 t1 a1 a2 => ?_
    cases a1; cases a2
    have hl := sql_same t1 hl
    have aw := aw.mono t1
    refine q_startT (ev_vi rfl) (ev_vi rfl) fun a b G2 t2 B nw => ?_
    obtain ⟨hl, sc⟩ := scr_start t2 hl nw
    have aw := aw.mono t2
    refine s_forEn (ds := (cellsI s0 i 36).map D.int) ?hc fun L vs G3 hL t3 h3 as => ⟨fun n σ' G => ∃ (a' : HA) (b' : SA) (S' : Stt) (o7 o8 o9 o10 : Option V), a'.p = a.p ∧ b'.p = b.p ∧ σ' = [some (.ref l), some vw, some (.int (i : Int)), some (.int (bnd1 (s0.getD i 0 + 3 * (i : Int)))), some (.int (bnd2 (s0.getD i 0 + 3 * (i : Int)))), some (.ref a.p), some (.ref b.p), o7, o8, o9, o10, none] ∧ Both K G a' b' S' n ∧ S'.room = bnd2 (s0.getD i 0 + 3 * (i : Int)) ∧ Mv (a.all ++ b.all) (a'.all ++ b'.all) G3 G, ?_, fun n σ' G p => ?_, fun n v σ' G G4 hj p t4 => ?_, fun σ' G p => ?_⟩
    case hc => exact tn_cells (f := i) (m := 36) (scr_sq sc) (by decide) (ev_vr rfl) (ev_vi rfl) ev_int
    · exact ⟨a, b, _, _, _, _, _, rfl, rfl, rfl, B.mono t3, rfl, Mv.of (Same.refl _)⟩
    · obtain ⟨_, _, _, _, _, _, _, _, _, _, _, _, m⟩ := p
      exact m.keep _ _ (fun z => (List.mem_append.mp z).elim (B.h.out hL) (B.s.out hL)) h3
    · obtain ⟨a', b', S', o7, o8, o9, o10, ea, eb, rfl, B', rm, m⟩ := p
      have ev := Ats.ints as
      subst ev
      rw [List.getElem?_map] at hj
      obtain ⟨c, hc', rfl⟩ := Option.map_eq_some_iff.mp hj
      have hj36 : n < 36 := by
        have := (List.getElem?_eq_some_iff.mp hc').1
        rwa [cellsI_len] at this
      have B' := B'.mono t4
      have m := m.trans (Mv.of t4)
      have aw4 : At G4 (.tup (wds13.map D.str)) vw := (aw.mono t3).tle m.tup (by decide)
      obtain ⟨ws, hws⟩ : ∃ ws : List Str, ws = if decide ((n : Int) < 9) = true then wds13a else wds13 := ⟨_, rfl⟩
      have wok : ws ≠ [] ∧ ∀ x ∈ ws, x ∈ words12 := by
        rw [hws]
        by_cases q : decide ((n : Int) < 9) = true
        · rw [if_pos q]; exact ⟨by decide, by decide⟩
        · rw [if_neg q]; exact ⟨by decide, by decide⟩
      have e6 : ∀ {σ : L2.St} {G : Hp}, σ[6]? = some (some (.ref b.p)) → EvD (tVar 6) σ G (.ref b'.p) := fun q => by rw [eb]; exact ev_vr q
      refine q_deed (c := c) (ws := ws) B' (by omega) (ev_var rfl (.int c)) (e6 rfl) (ev_if (et_test (ev_lt (ev_var rfl (.int (n : Nat))) ev_int)) (fun q => (ev_tup (ea_cons ev_str (ea_cons ev_str (ea_cons ev_str ea_nil))) le_lit).is (by rw [hws, if_pos q]; rfl)) fun q => (ev_var rfl aw4).is (by rw [hws, if_neg (by rw [q]; decide)])) wok.1 wok.2 fun d hd hf hw v9 G5 t5 ad => ?_
      have B5 := B'.mono t5
      have wf := B5.fit.wf (by omega)
      have inv := B5.fit.inv
      refine q_ifN (b := false) ((et_and (a := decide (d.word = "copy")) (b := decide ((12 : Int) < (S'.rows.length : Int))) (et_test (ev_eqS (ev_ixT (k := 0) (ev_var rfl ad) rfl) ev_str)) fun _ => et_test (ev_gt ((ev_lenDk B5.s.rows (t_rows B5.s.rd (e6 rfl))).is (by unfold rows4; rw [List.length_map])) ev_int)).is ?_) (fun z => by cases z) fun _ G6 t6 => ?_
      · by_cases q : d.word = "copy"
        · have := copy_ok hd q
          rw [decide_eq_false (show ¬ ((12 : Int) < (S'.rows.length : Int)) by omega), Bool.and_false]
        · rw [decide_eq_false q]; rfl
      have B6 := B5.mono t6
      have ad6 := ad.mono t6
      refine q_both (i := 5) (j := 6) (m := 9) B6 hd hf (by omega) (by rw [ea]; rfl) (by rw [eb]; rfl) rfl ad6 fun a2 b2 G7 ea2 eb2 B7 m7 => ?_
      have ea2 := ea2.trans ea
      have eb2 := eb2.trans eb
      have rm7 : (S'.deed d).2.room = bnd2 (s0.getD i 0 + 3 * (i : Int)) := (room_keeps _).deed wf inv rm hf
      have m7' := (m.trans (Mv.of (t5.trans t6))).trans m7
      generalize (S'.deed d).2 = S2 at B7 rm7
      have wf2 := B7.fit.wf (by omega)
      have inv2 := B7.fit.inv
      have cn := B7.fit.cn
      have c0 := inv2.c0
      have e6 : ∀ {σ : L2.St} {G : Hp}, σ[6]? = some (some (.ref b.p)) → EvD (tVar 6) σ G (.ref b2.p) := fun q => by rw [eb2]; exact ev_vr q
      have e5 : ∀ {σ : L2.St} {G : Hp}, σ[5]? = some (some (.ref a.p)) → EvD (tVar 5) σ G (.ref a2.p) := fun q => by rw [ea2]; exact ev_vr q
      refine q_asgN (ds := (goneL S2).map D.int) (en_lcR2 (lo := 1) (hi := S2.count + 1) (fun n => !((rows4 S2).lookup n).isSome) D.int (ea_cons ev_int (ea_cons (ev_add (t_count B7.s.rd (e6 rfl)) ev_int) ea_nil)) (by omega) (fun _ => rfl) (fun _ => rfl) fun n h1 h2 G sg => ⟨et_B (ev_dni (B7.s.mono sg).rd.rows (ev_var rfl (.int n)) (t_rows (B7.s.mono sg).rd (e6 rfl))), fun _ => ev_var rfl (.int n)⟩) fun N ns G8 hN t8 h8 as8 => ?_
      have B8 := B7.mono t8
      refine s_ifN (b := false) ((et_not (et_trB (e_right B8.h.rd wf2 inv2 B8.good.uq (by rw [← rm7]; exact B8.good.ro) ⟨_, h8, as8⟩ gone_out (e5 rfl) (ev_vi rfl) (ev_vr rfl)))).is rfl) (fun z => by cases z) fun _ G9 t9 => ?_
      exact ⟨a2, b2, S2, _, _, _, _, ea2, eb2, rfl, B8.mono t9, rm7, m7'.trans (Mv.of (t8.trans t9))⟩
    · obtain ⟨a', b', S', o7, o8, o9, o10, ea, eb, rfl, B', rm, m⟩ := p
      exact ⟨_, _, _, _, _, _, _, _, _, rfl, scr_sq (scr_mv m (scr_mv (Mv.of (A := a.all ++ b.all) t3) sc)), (aw.mono t3).tle m.tup (by decide)⟩
  · obtain ⟨o2, o3, o4, o5, o6, o7, o8, o9, o10, rfl, hl, aw⟩ := p
    refine s_ret ev_bl fun v G2 t2 av => ?_
    cases av
    exact k G2
end
end Ho

set_option Elab.async false
set_option linter.all false
set_option maxRecDepth 100000
set_option maxHeartbeats 0
/-! C19: the end. -/
open PySem PySem.W PySem.Calls PyProof.Rows
theorem PySem.Challenge.cw_castshelf_k13_whole_one_place_holds : PySem.Challenge.rw_castshelf_k13_whole_one_place.Holds := by
  w_on; o_law
  refine HandSHeadRun.head_any (r := OpenLaw.row PySem.Challenge.rw_castshelf_k13_whole_one_place) (q := view (OpenLaw.row PySem.Challenge.rw_castshelf_k13_whole_one_place).prog [45]) (H := Ho.hk) (ob := Ho.ob) (M := 6000) (loose := Ho.loose)
    (d := HandSHeadRun.topDef (OpenLaw.row PySem.Challenge.rw_castshelf_k13_whole_one_place).prog 45) (kwd := []) Ho.ob_eq (by kernel_rfl) (fun s => by kernel_rfl) Ho.run
    (by kernel_rfl) (by kernel_rfl) (by kernel_rfl) (by rfl) (by first | assumption | decide +kernel) (by decide +kernel) ⟨rfl, rfl, rfl, rfl, rfl, by decide +kernel⟩ ?hw ?hc
  case hw => w_witness2
  case hc =>
    refine L2.walk_ofE (l := PySem.Challenge.rw_castshelf_k13_whole_one_place) (n := 63) (k := 8) (x := "_law_script") (CX := L2.CX0) rfl (by decide) (by kernel_rfl) ⟨rfl, by decide, by decide⟩ ?F (fun _ _ _ _ z => z)
    intro w mg fa h Y G hmg0
    obtain ⟨K, KX, c, ex⟩ := Y
    have hmg : mg ("law" : PySem.Str) = some (.ref fa) := by
      have e : (HandSHeadRun.topDef (OpenLaw.row PySem.Challenge.rw_castshelf_k13_whole_one_place).prog 45).name = ("law" : PySem.Str) := by kernel_rfl
      rw [← e]
      exact hmg0
    have T : Ho.Tx K mg := ⟨c, ex, h, KX, G⟩
    have e := hmg.symm.trans (Ho.T_law T).1
    cases e
    obtain ⟨fd, hb, hF⟩ := Ho.law_fn (P := (PySem.Challenge.rw_castshelf_k13_whole_one_place).prog) (w := w) T
    exact ⟨K, fd, Ho.sp_law K, KX, hb, fun H a ns hl _ hS => ⟨a, ns, rfl, hS, fun _ => rfl⟩, fun base _ _ => hF base⟩

