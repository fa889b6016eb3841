import PyProof.Rows.All
import Wide.All
import OpenK.AllK
import Wide.FinOn
import HandS.ForMost
import HandS.IsInst
import HandS.Rev
import HandS.TupAny
import HandS.TupLe
import HandS.Conv
import HandS.NoneIn
import HandS.Deep
import HandS.SortRule
import HandS.Replace
import KE.KDictKeyed
import KE.GoesEnum
import PyProof.Rows.StrMeet
import PySem.Challenge.RW_rulewright_k94_whole_marks_and_trees_by
set_option Elab.async false
set_option linter.all false
section
set_option maxRecDepth 100000
set_option maxHeartbeats 4000000
/-! data, what stands for it, what a pure def may do to the heap, expressions' readings as data -/
namespace RN
open PySem L2

inductive D where
  | non | bl (b : Bool) | int (i : Int) | str (s : Str) | opq (v : V)
  | tup (l : List D) | lst (l : List D) | dct (l : List (Str × D)) | fz (q : Hp → Addr → Prop)

mutual
inductive Rep (H : Hp) : V → D → Prop
  | non : Rep H .non .non
  | bl (b : Bool) : Rep H (.bl b) (.bl b)
  | int (i : Int) : Rep H (.int i) (.int i)
  | str (s : Str) : Rep H (.str s) (.str s)
  | opq (v : V) : Rep H v (.opq v)
  | tup {a : Addr} {xs : List V} {ds : List D} : H a = some (.tup xs) → Reps H xs ds → Rep H (.ref a) (.tup ds)
  | lst {a : Addr} {xs : List V} {ds : List D} : H a = some (.lst xs) → Reps H xs ds → Rep H (.ref a) (.lst ds)
  | dct {a : Addr} {kvs : List (Key × V)} {ks : List (Str × D)} : H a = some (.dK kvs) → RepK H kvs ks → Rep H (.ref a) (.dct ks)
  | fz {a : Addr} {q : Hp → Addr → Prop} : (∀ H', Same H H' → q H' a) → Rep H (.ref a) (.fz q)
inductive Reps (H : Hp) : List V → List D → Prop
  | nil : Reps H [] []
  | cons {v : V} {vs : List V} {d : D} {ds : List D} : Rep H v d → Reps H vs ds → Reps H (v :: vs) (d :: ds)
inductive RepK (H : Hp) : List (Key × V) → List (Str × D) → Prop
  | nil : RepK H [] []
  | cons {k : Str} {v : V} {d : D} {kvs : List (Key × V)} {ks : List (Str × D)} : Rep H v d → RepK H kvs ks → RepK H ((.inr k, v) :: kvs) ((k, d) :: ks)
end

mutual
theorem Rep.mono {H H' : Hp} (e : Same H H') : ∀ {v : V} {d : D}, Rep H v d → Rep H' v d
  | _, _, .non => .non
  | _, _, .bl b => .bl b
  | _, _, .int i => .int i
  | _, _, .str s => .str s
  | _, _, .opq v => .opq v
  | _, _, .tup h r => .tup (e _ _ h) (Reps.mono e r)
  | _, _, .lst h r => .lst (e _ _ h) (Reps.mono e r)
  | _, _, .dct h r => .dct (e _ _ h) (RepK.mono e r)
  | _, _, .fz h => .fz fun H' e' => h H' (e.trans e')
theorem Reps.mono {H H' : Hp} (e : Same H H') : ∀ {vs : List V} {ds : List D}, Reps H vs ds → Reps H' vs ds
  | _, _, .nil => .nil
  | _, _, .cons h r => .cons (Rep.mono e h) (Reps.mono e r)
theorem RepK.mono {H H' : Hp} (e : Same H H') : ∀ {vs : List (Key × V)} {ds : List (Str × D)}, RepK H vs ds → RepK H' vs ds
  | _, _, .nil => .nil
  | _, _, .cons h r => .cons (Rep.mono e h) (RepK.mono e r)
end

mutual
def imm : D → Bool
  | .lst _ => false
  | .dct _ => false
  | .fz _ => false
  | .tup l => imms l
  | _ => true
def imms : List D → Bool
  | [] => true
  | d :: l => imm d && imms l
end
def immK : List (Str × D) → Bool
  | [] => true
  | d :: l => imm d.2 && immK l
/-- a list or dict of immutable things -/
def flat : D → Bool
  | .lst l => imms l
  | .dct l => immK l
  | _ => false

mutual
theorem Rep.imm {H H' : Hp} (e : ∀ b xs, H b = some (.tup xs) → H' b = some (.tup xs)) : ∀ {v : V} {d : D}, RN.imm d = true → Rep H v d → Rep H' v d
  | _, _, _, .non => .non
  | _, _, _, .bl b => .bl b
  | _, _, _, .int i => .int i
  | _, _, _, .str s => .str s
  | _, _, _, .opq v => .opq v
  | _, _, i, .tup h r => .tup (e _ _ h) (Reps.imm e (by simpa [RN.imm] using i) r)
  | _, _, i, .lst _ _ => by simp [RN.imm] at i
  | _, _, i, .dct _ _ => by simp [RN.imm] at i
  | _, _, i, .fz _ => by simp [RN.imm] at i
theorem Reps.imm {H H' : Hp} (e : ∀ b xs, H b = some (.tup xs) → H' b = some (.tup xs)) : ∀ {vs : List V} {ds : List D}, imms ds = true → Reps H vs ds → Reps H' vs ds
  | _, _, _, .nil => .nil
  | _, _, i, .cons h r => by
    simp only [imms, Bool.and_eq_true] at i
    exact .cons (Rep.imm e i.1 h) (Reps.imm e i.2 r)
end
theorem RepK.imm {H H' : Hp} (e : ∀ b xs, H b = some (.tup xs) → H' b = some (.tup xs)) : ∀ {vs : List (Key × V)} {ds : List (Str × D)}, immK ds = true → RepK H vs ds → RepK H' vs ds
  | _, _, _, .nil => .nil
  | _, _, i, .cons h r => by
    simp only [immK, Bool.and_eq_true] at i
    exact .cons (Rep.imm e i.1 h) (RepK.imm e i.2 r)

theorem Reps.length : ∀ {H : Hp} {vs : List V} {ds : List D}, Reps H vs ds → vs.length = ds.length
  | _, _, _, .nil => rfl
  | _, _, _, .cons _ r => by rw [List.length_cons, List.length_cons, Reps.length r]
theorem RepK.length : ∀ {H : Hp} {vs : List (Key × V)} {ds : List (Str × D)}, RepK H vs ds → vs.length = ds.length
  | _, _, _, .nil => rfl
  | _, _, _, .cons _ r => by rw [List.length_cons, List.length_cons, RepK.length r]
theorem Reps.get {H : Hp} : ∀ {vs : List V} {ds : List D}, Reps H vs ds → ∀ {i : Nat} {d : D}, ds[i]? = some d → ∃ v, vs[i]? = some v ∧ Rep H v d
  | _, _, .cons h r, 0, d, e => by
    simp at e
    subst e
    exact ⟨_, rfl, h⟩
  | _, _, .cons h r, i + 1, d, e => by
    obtain ⟨v, a, b⟩ := Reps.get r (i := i) (d := d) (by simpa using e)
    exact ⟨v, by simpa using a, b⟩
theorem Reps.getV {H : Hp} : ∀ {vs : List V} {ds : List D}, Reps H vs ds → ∀ {i : Nat} {v : V}, vs[i]? = some v → ∃ d, ds[i]? = some d ∧ Rep H v d
  | _, _, .cons h r, 0, d, e => by
    simp at e
    subst e
    exact ⟨_, rfl, h⟩
  | _, _, .cons h r, i + 1, d, e => by
    obtain ⟨v, a, b⟩ := Reps.getV r (i := i) (v := d) (by simpa using e)
    exact ⟨v, by simpa using a, b⟩
theorem Reps.append {H : Hp} : ∀ {vs ws : List V} {ds es : List D}, Reps H vs ds → Reps H ws es → Reps H (vs ++ ws) (ds ++ es)
  | _, _, _, _, .nil, s => s
  | _, _, _, _, .cons h r, s => .cons h (Reps.append r s)
theorem Reps.one {H : Hp} {v : V} {d : D} (h : Rep H v d) : Reps H [v] [d] := .cons h .nil
theorem Reps.drop {H : Hp} : ∀ {vs : List V} {ds : List D}, Reps H vs ds → ∀ n, Reps H (vs.drop n) (ds.drop n)
  | _, _, .nil, n => by simpa using Reps.nil
  | _, _, .cons h r, 0 => .cons h r
  | _, _, .cons h r, n + 1 => by simpa using Reps.drop r n
theorem Reps.take {H : Hp} : ∀ {vs : List V} {ds : List D}, Reps H vs ds → ∀ n, Reps H (vs.take n) (ds.take n)
  | _, _, .nil, n => by simpa using Reps.nil
  | _, _, .cons h r, 0 => by simpa using Reps.nil
  | _, _, .cons h r, n + 1 => by simpa using Reps.cons h (Reps.take r n)
theorem Reps.reverse {H : Hp} : ∀ {vs : List V} {ds : List D}, Reps H vs ds → Reps H vs.reverse ds.reverse
  | _, _, .nil => .nil
  | _, _, .cons h r => by
    rw [List.reverse_cons, List.reverse_cons]
    exact (Reps.reverse r).append (.one h)
theorem Reps.strs {H : Hp} : ∀ {vs : List V} {ss : List Str}, Reps H vs (ss.map D.str) → vs = ss.map V.str
  | _, [], .nil => rfl
  | _, s :: ss, .cons h r => by
    cases h
    rw [List.map_cons, Reps.strs r]
theorem Reps.ints {H : Hp} : ∀ {vs : List V} {ss : List Int}, Reps H vs (ss.map D.int) → vs = ss.map V.int
  | _, [], .nil => rfl
  | _, s :: ss, .cons h r => by
    cases h
    rw [List.map_cons, Reps.ints r]
theorem Reps.bls {H : Hp} : ∀ {vs : List V} {ss : List Bool}, Reps H vs (ss.map D.bl) → vs = ss.map V.bl
  | _, [], .nil => rfl
  | _, s :: ss, .cons h r => by
    cases h
    rw [List.map_cons, Reps.bls r]
theorem Reps.ofStrs {H : Hp} : ∀ (ss : List Str), Reps H (ss.map V.str) (ss.map D.str)
  | [] => .nil
  | s :: ss => .cons (.str s) (Reps.ofStrs ss)
theorem Reps.ofInts {H : Hp} : ∀ (ss : List Int), Reps H (ss.map V.int) (ss.map D.int)
  | [] => .nil
  | s :: ss => .cons (.int s) (Reps.ofInts ss)

/-! ### the heap: M what may be seen, H all -/
structure Grow (M H M' H' : Hp) : Prop where
  m : Same M M'
  h : Same H H'
  s : Same M' H'
  n : ∀ b, H b ≠ none → M b = none → M' b = none
theorem Same.none {M H : Hp} (e : Same M H) {b : Addr} (h : H b = Option.none) : M b = Option.none := e.free h
theorem Grow.refl {M H : Hp} (e : Same M H) : Grow M H M H := ⟨.refl _, .refl _, e, fun _ _ h => h⟩
theorem Grow.trans {M H M1 H1 M2 H2 : Hp} (a : Grow M H M1 H1) (b : Grow M1 H1 M2 H2) : Grow M H M2 H2 :=
  ⟨a.m.trans b.m, a.h.trans b.h, b.s, fun x h1 h2 => b.n x (fun e => h1 (a.h.free e)) (a.n x h1 h2)⟩
theorem same_new {H : Hp} {p : Addr} (h : H p = none) (o : HO) : Same H (upd H p o) := fun b u q => by rw [upd_ne (ne_of_none q h)]; exact q
theorem Grow.new {M H : Hp} (e : Same M H) {p : Addr} (h : H p = none) (o : HO) : Grow M H (upd M p o) (upd H p o) :=
  ⟨same_new (e.free h) o, same_new h o, fun b u q => by
    by_cases hb : b = p
    · subst hb
      rw [upd_same] at q ⊢
      exact q
    · rw [upd_ne hb] at q ⊢
      exact e _ _ q, fun b h1 h2 => by
    have hb : b ≠ p := fun z => h1 (by rw [z]; exact h)
    rw [upd_ne hb]
    exact h2⟩
/-- a new object that nobody is to see -/
theorem Grow.hid {M H : Hp} (e : Same M H) {p : Addr} (h : H p = none) (o : HO) : Grow M H M (upd H p o) :=
  ⟨.refl _, same_new h o, e.trans (same_new h o), fun _ _ q => q⟩
theorem Grow.fresh {M H M' H' : Hp} (g : Grow M H M' H') {p : Addr} (h : H' p = none) : H p = none := g.h.free h

/-! ### slots -/
abbrev Gm := List (Option D)
structure Slots (M : Hp) (σ : L2.St) (Γ : Gm) : Prop where
  len : σ.length = Γ.length
  at_ : ∀ (i : Nat) (d : D), Γ[i]? = some (some d) → ∃ v, σ[i]? = some (some v) ∧ Rep M v d
theorem Slots.mono {M M' : Hp} {σ : L2.St} {Γ : Gm} (e : Same M M') (h : Slots M σ Γ) : Slots M' σ Γ := ⟨h.len, fun i d q => by
  obtain ⟨v, a, b⟩ := h.at_ i d q
  exact ⟨v, a, b.mono e⟩⟩

/-! ### expressions -/
def ED (te : TE) (Γ : Gm) (d : D) : Prop := ∀ (σ : L2.St) (M H : Hp), Same M H → Slots M σ Γ → ∀ Q : VK, (∀ v M' H', Grow M H M' H' → Rep M' v d → Q v H') → te σ H Q
/-- what an object of one's own holds -/
inductive Cont (R : Hp) : HO → D → Prop
  | lst {xs : List V} {ds : List D} : Reps R xs ds → Cont R (.lst xs) (.lst ds)
  | dct {kvs : List (Key × V)} {ks : List (Str × D)} : RepK R kvs ks → Cont R (.dK kvs) (.dct ks)
theorem Cont.mono {R R' : Hp} {o : HO} {d : D} (e : Same R R') (h : Cont R o d) : Cont R' o d := by
  cases h with
  | lst h => exact .lst (h.mono e)
  | dct h => exact .dct (h.mono e)
theorem Cont.rep {R R' : Hp} {o : HO} {d : D} {p : Addr} (e : Same R R') (h : R' p = some o) (c : Cont R o d) : Rep R' (.ref p) d := by
  cases c with
  | lst c => exact .lst h (c.mono e)
  | dct c => exact .dct h (c.mono e)
theorem Cont.imm {R R' : Hp} {o : HO} {d : D} (e : ∀ b xs, R b = some (.tup xs) → R' b = some (.tup xs)) (hf : flat d = true) (h : Cont R o d) : Cont R' o d := by
  cases h with
  | lst h => exact .lst (h.imm e hf)
  | dct h => exact .dct (h.imm e hf)
theorem Cont.nt {R : Hp} {o : HO} {d : D} (h : Cont R o d) : ∀ xs, o ≠ .tup xs := fun xs e => by
  cases h <;> cases e
/-- a new list or dict -/
def EF (te : TE) (Γ : Gm) (d : D) : Prop := ∀ (σ : L2.St) (M H : Hp), Same M H → Slots M σ Γ → ∀ Q : VK,
  (∀ p o M' H', Grow M H M' H' → H p = none → M' p = none → H' p = some o → Cont M' o d → Q (.ref p) H') → te σ H Q
def ET (tt : TT) (Γ : Gm) (b : Bool) : Prop := ∀ (σ : L2.St) (M H : Hp), Same M H → Slots M σ Γ → ∀ Q : Bool → Hp → Prop, (∀ M' H', Grow M H M' H' → Q b H') → tt σ H Q
def EA (ta : TA) (Γ : Gm) (ds : List D) : Prop := ∀ (σ : L2.St) (M H : Hp), Same M H → Slots M σ Γ → ∀ Q : List V → Hp → Prop, (∀ vs M' H', Grow M H M' H' → Reps M' vs ds → Q vs H') → ta σ H Q

theorem Grow.add {M H M' H' : Hp} (g : Grow M H M' H') {p : Addr} {o : HO} (h0 : H p = none) (h1 : M' p = none) (h2 : H' p = some o) : Grow M H (upd M' p o) H' :=
  ⟨g.m.trans (same_new h1 o), g.h, fun b u q => by
    by_cases hb : b = p
    · subst hb
      rw [upd_same] at q
      rw [h2]
      exact q
    · rw [upd_ne hb] at q
      exact g.s _ _ q, fun b e1 e2 => by
    have hb : b ≠ p := fun z => e1 (by rw [z]; exact h0)
    rw [upd_ne hb]
    exact g.n b e1 e2⟩
theorem EF.ed {te : TE} {Γ : Gm} {d : D} (h : EF te Γ d) : ED te Γ d := fun σ M H e sl Q q => h σ M H e sl Q fun p o M' H' g h0 h1 h2 c =>
  q (.ref p) (upd M' p o) H' (g.add h0 h1 h2) (c.rep (same_new h1 o) upd_same)
theorem ED.is {te : TE} {Γ : Gm} {d d' : D} (h : ED te Γ d) (e : d = d') : ED te Γ d' := e ▸ h
theorem EF.is {te : TE} {Γ : Gm} {d d' : D} (h : EF te Γ d) (e : d = d') : EF te Γ d' := e ▸ h
theorem ET.is {te : TT} {Γ : Gm} {d d' : Bool} (h : ET te Γ d) (e : d = d') : ET te Γ d' := e ▸ h

section
variable {Γ : Gm} {ta tb te : TE} {t u : TT} {a b c d : D} {K : PySem.W.Frag}
theorem ed_var {i : Nat} (h : Γ[i]? = some (some d)) : ED (tVar i) Γ d := fun σ M H e sl Q q => by
  obtain ⟨v, h1, h2⟩ := sl.at_ i d h
  exact ⟨v, h1, q v M H (.refl e) h2⟩
theorem ed_cint {i : Int} : ED (tC (.int i)) Γ (.int i) := fun σ M H e sl Q q => q _ M H (.refl e) (.int i)
theorem ed_cstr {i : Str} : ED (tC (.str i)) Γ (.str i) := fun σ M H e sl Q q => q _ M H (.refl e) (.str i)
theorem ed_cbl {i : Bool} : ED (tC (.bl i)) Γ (.bl i) := fun σ M H e sl Q q => q _ M H (.refl e) (.bl i)
theorem ed_cnon : ED (tC .non) Γ .non := fun σ M H e sl Q q => q _ M H (.refl e) .non

/-- a two-place operation by data -/
def RD (r : R2) (a b c : D) : Prop := ∀ (M H : Hp) (x y : V) (Q : VK), Same M H → Rep M x a → Rep M y b → (∀ v M' H', Grow M H M' H' → Rep M' v c → Q v H') → r x y H Q
def RF (r : R2) (a b c : D) : Prop := ∀ (M H : Hp) (x y : V) (Q : VK), Same M H → Rep M x a → Rep M y b →
  (∀ p o M' H', Grow M H M' H' → H p = none → M' p = none → H' p = some o → Cont M' o c → Q (.ref p) H') → r x y H Q
theorem ed_op {r : R2} (ha : ED ta Γ a) (hb : ED tb Γ b) (hr : RD r a b c) : ED (tOp r ta tb) Γ c := fun σ M H e sl Q q =>
  ha σ M H e sl _ fun x M1 H1 g1 r1 => hb σ M1 H1 g1.s (sl.mono g1.m) _ fun y M2 H2 g2 r2 => hr M2 H2 x y Q g2.s (r1.mono g2.m) r2 fun v M3 H3 g3 r3 => q v M3 H3 ((g1.trans g2).trans g3) r3
theorem ef_op {r : R2} (ha : ED ta Γ a) (hb : ED tb Γ b) (hr : RF r a b c) : EF (tOp r ta tb) Γ c := fun σ M H e sl Q q =>
  ha σ M H e sl _ fun x M1 H1 g1 r1 => hb σ M1 H1 g1.s (sl.mono g1.m) _ fun y M2 H2 g2 r2 => hr M2 H2 x y Q g2.s (r1.mono g2.m) r2 fun p o M3 H3 g3 h0 h1 h2 r3 =>
    q p o M3 H3 ((g1.trans g2).trans g3) ((g1.trans g2).fresh h0) h1 h2 r3
theorem rd_I0 {g : Int → Int → V} {i j : Int} {c : D} (h : ∀ M, Rep M (g i j) c) : RD (rI0 g) (.int i) (.int j) c := fun M H x y Q e rx ry q => by
  cases rx
  cases ry
  exact ⟨i, j, rfl, rfl, q _ M H (.refl e) (h M)⟩
theorem rd_I {C : Int → Int → Prop} {g : Int → Int → V} {i j : Int} {c : D} (hc : C i j) (h : ∀ M, Rep M (g i j) c) : RD (rI C g) (.int i) (.int j) c := fun M H x y Q e rx ry q => by
  cases rx
  cases ry
  exact ⟨i, j, rfl, rfl, hc, q _ M H (.refl e) (h M)⟩
theorem ed_add {i j : Int} (ha : ED ta Γ (.int i)) (hb : ED tb Γ (.int j)) : ED (tOp (rI0 fun i j => .int (i + j)) ta tb) Γ (.int (i + j)) := ed_op ha hb (rd_I0 fun M => .int _)
theorem ed_sub {i j : Int} (ha : ED ta Γ (.int i)) (hb : ED tb Γ (.int j)) : ED (tOp (rI0 fun i j => .int (i - j)) ta tb) Γ (.int (i - j)) := ed_op ha hb (rd_I0 fun M => .int _)
theorem ed_lt {i j : Int} (ha : ED ta Γ (.int i)) (hb : ED tb Γ (.int j)) : ED (tOp (rI0 fun i j => .bl (decide (i < j))) ta tb) Γ (.bl (decide (i < j))) := ed_op ha hb (rd_I0 fun M => .bl _)
theorem ed_le {i j : Int} (ha : ED ta Γ (.int i)) (hb : ED tb Γ (.int j)) : ED (tOp (rI0 fun i j => .bl (decide (i ≤ j))) ta tb) Γ (.bl (decide (i ≤ j))) := ed_op ha hb (rd_I0 fun M => .bl _)
theorem ed_gt {i j : Int} (ha : ED ta Γ (.int i)) (hb : ED tb Γ (.int j)) : ED (tOp (rI0 fun i j => .bl (decide (j < i))) ta tb) Γ (.bl (decide (j < i))) := ed_op ha hb (rd_I0 fun M => .bl _)
theorem ed_ge {i j : Int} (ha : ED ta Γ (.int i)) (hb : ED tb Γ (.int j)) : ED (tOp (rI0 fun i j => .bl (decide (j ≤ i))) ta tb) Γ (.bl (decide (j ≤ i))) := ed_op ha hb (rd_I0 fun M => .bl _)
theorem ed_mod {i j : Int} (ha : ED ta Γ (.int i)) (hb : ED tb Γ (.int j)) (h : 0 < j) : ED (tOp (rI (fun _ j => 0 < j) fun i j => .int (i % j)) ta tb) Γ (.int (i % j)) := ed_op ha hb (rd_I h fun M => .int _)
theorem ed_fdiv {i j : Int} (ha : ED ta Γ (.int i)) (hb : ED tb Γ (.int j)) (h : CDiv i j) : ED (tOp (rI CDiv fun i j => .int (i / j)) ta tb) Γ (.int (i / j)) := ed_op ha hb (rd_I h fun M => .int _)
/-- == of scalars -/
theorem ed_eqI {i j : Int} (ha : ED ta Γ (.int i)) (hb : ED tb Γ (.int j)) : ED (tOp rEq ta tb) Γ (.bl (decide (i = j))) := ed_op ha hb fun M H x y Q e rx ry q => by
  cases rx
  cases ry
  refine ⟨rfl, ?_⟩
  have h : decide (V.int i = V.int j) = decide (i = j) := by simp
  rw [h]
  exact q _ M H (.refl e) (.bl _)
theorem ed_neI {i j : Int} (ha : ED ta Γ (.int i)) (hb : ED tb Γ (.int j)) : ED (tOp rNe ta tb) Γ (.bl (!decide (i = j))) := ed_op ha hb fun M H x y Q e rx ry q => by
  cases rx
  cases ry
  refine ⟨rfl, ?_⟩
  have h : decide (V.int i = V.int j) = decide (i = j) := by simp
  rw [h]
  exact q _ M H (.refl e) (.bl _)
theorem ed_eqS {i j : Str} (ha : ED ta Γ (.str i)) (hb : ED tb Γ (.str j)) : ED (tOp rEq ta tb) Γ (.bl (decide (i = j))) := ed_op ha hb fun M H x y Q e rx ry q => by
  cases rx
  cases ry
  refine ⟨rfl, ?_⟩
  have h : decide (V.str i = V.str j) = decide (i = j) := by simp
  rw [h]
  exact q _ M H (.refl e) (.bl _)
theorem ed_neS {i j : Str} (ha : ED ta Γ (.str i)) (hb : ED tb Γ (.str j)) : ED (tOp rNe ta tb) Γ (.bl (!decide (i = j))) := ed_op ha hb fun M H x y Q e rx ry q => by
  cases rx
  cases ry
  refine ⟨rfl, ?_⟩
  have h : decide (V.str i = V.str j) = decide (i = j) := by simp
  rw [h]
  exact q _ M H (.refl e) (.bl _)

/-! tests -/
theorem et_test {b : Bool} (h : ED te Γ (.bl b)) : ET (tTest te) Γ b := fun σ M H e sl Q q => h σ M H e sl _ fun v M' H' g r => by
  cases r
  exact ⟨b, rfl, q M' H' g⟩
theorem et_B {b : Bool} (h : ED te Γ (.bl b)) : ET (tB te) Γ b := fun σ M H e sl Q q => h σ M H e sl _ fun v M' H' g r => by
  cases r
  exact ⟨b, rfl, q M' H' g⟩
theorem et_and {a b : Bool} (h1 : ET t Γ a) (h2 : a = true → ET u Γ b) : ET (tAnd t u) Γ (a && b) := fun σ M H e sl Q q => h1 σ M H e sl _ fun M1 H1 g1 => by
  cases a with
  | true =>
    show u σ H1 Q
    exact h2 rfl σ M1 H1 g1.s (sl.mono g1.m) Q fun M2 H2 g2 => q M2 H2 (g1.trans g2)
  | false =>
    show Q false H1
    exact q M1 H1 g1
theorem et_or {a b : Bool} (h1 : ET t Γ a) (h2 : a = false → ET u Γ b) : ET (tOr t u) Γ (a || b) := fun σ M H e sl Q q => h1 σ M H e sl _ fun M1 H1 g1 => by
  cases a with
  | true =>
    show Q true H1
    exact q M1 H1 g1
  | false =>
    show u σ H1 Q
    exact h2 rfl σ M1 H1 g1.s (sl.mono g1.m) Q fun M2 H2 g2 => q M2 H2 (g1.trans g2)
theorem et_not {a : Bool} (h1 : ET t Γ a) : ET (tNot t) Γ (!a) := fun σ M H e sl Q q => h1 σ M H e sl _ fun M1 H1 g1 => q M1 H1 g1
theorem et_yes : ET tYes Γ true := fun σ M H e sl Q q => q M H (.refl e)
theorem ed_andV {a b : Bool} (h1 : ED ta Γ (.bl a)) (h2 : a = true → ED tb Γ (.bl b)) : ED (tAndV ta tb) Γ (.bl (a && b)) := fun σ M H e sl Q q => h1 σ M H e sl _ fun v M1 H1 g1 r1 => by
  cases r1
  refine ⟨a, rfl, ?_⟩
  cases a with
  | true =>
    show tb σ H1 Q
    exact h2 rfl σ M1 H1 g1.s (sl.mono g1.m) Q fun v M2 H2 g2 r2 => q v M2 H2 (g1.trans g2) r2
  | false =>
    show Q (.bl false) H1
    exact q _ M1 H1 g1 (.bl _)
theorem ed_orV {a b : Bool} (h1 : ED ta Γ (.bl a)) (h2 : a = false → ED tb Γ (.bl b)) : ED (tOrV ta tb) Γ (.bl (a || b)) := fun σ M H e sl Q q => h1 σ M H e sl _ fun v M1 H1 g1 r1 => by
  cases r1
  refine ⟨a, rfl, ?_⟩
  cases a with
  | true =>
    show Q (.bl true) H1
    exact q _ M1 H1 g1 (.bl _)
  | false =>
    show tb σ H1 Q
    exact h2 rfl σ M1 H1 g1.s (sl.mono g1.m) Q fun v M2 H2 g2 r2 => q v M2 H2 (g1.trans g2) r2
theorem ed_notV {a : Bool} (h1 : ED ta Γ (.bl a)) : ED (tNotV ta) Γ (.bl (!a)) := fun σ M H e sl Q q => h1 σ M H e sl _ fun v M1 H1 g1 r1 => by
  cases r1
  exact ⟨a, rfl, q _ M1 H1 g1 (.bl _)⟩
theorem ed_if {b : Bool} (h : ET t Γ b) (h1 : b = true → ED ta Γ d) (h2 : b = false → ED tb Γ d) : ED (tIf t ta tb) Γ d := fun σ M H e sl Q q => h σ M H e sl _ fun M1 H1 g1 => by
  cases b with
  | true =>
    show ta σ H1 Q
    exact h1 rfl σ M1 H1 g1.s (sl.mono g1.m) Q fun v M2 H2 g2 r2 => q v M2 H2 (g1.trans g2) r2
  | false =>
    show tb σ H1 Q
    exact h2 rfl σ M1 H1 g1.s (sl.mono g1.m) Q fun v M2 H2 g2 r2 => q v M2 H2 (g1.trans g2) r2
theorem ed_chain {r r' : R2} {x y z : D} {tc : TE} {k k' : Bool} (ha : ED ta Γ x) (hb : ED tb Γ y) (hr : RD r x y (.bl k)) (hc : k = true → ED tc Γ z) (hr' : k = true → RD r' y z (.bl k')) : ED (tChain r r' ta tb tc) Γ (.bl (k && k')) := fun σ M H e sl Q q =>
  ha σ M H e sl _ fun x M1 H1 g1 r1 => hb σ M1 H1 g1.s (sl.mono g1.m) _ fun y M2 H2 g2 r2 => hr M2 H2 x y _ g2.s (r1.mono g2.m) r2 fun v M3 H3 g3 r3 => by
    cases r3
    refine ⟨k, rfl, ?_⟩
    cases k with
    | true =>
      rw [if_pos rfl]
      refine hc rfl σ M3 H3 g3.s (sl.mono ((g1.m.trans g2.m).trans g3.m)) _ fun z M4 H4 g4 r4 => ?_
      exact hr' rfl M4 H4 y z Q g4.s (r2.mono (g3.m.trans g4.m)) r4 fun v M5 H5 g5 r5 => q v M5 H5 ((((g1.trans g2).trans g3).trans g4).trans g5) r5
    | false =>
      rw [if_neg Bool.false_ne_true]
      exact q _ M3 H3 ((g1.trans g2).trans g3) (.bl _)
/-! is None -/
theorem ed_isN (ha : ED ta Γ a) (hn : ∀ H v, Rep H v a → (v = .non ↔ c = .bl true)) (hc : c = .bl true ∨ c = .bl false) : ED (tIsN ta) Γ c := fun σ M H e sl Q q => ha σ M H e sl _ fun v M1 H1 g1 r1 => by
  have h := hn _ _ r1
  rcases hc with rfl | rfl
  · have e1 : v = .non := h.mpr rfl
    rw [decide_eq_true e1]
    exact q _ M1 H1 g1 (.bl _)
  · have e1 : ¬ v = .non := fun z => by
      have := h.mp z
      cases this
    rw [decide_eq_false e1]
    exact q _ M1 H1 g1 (.bl _)

/-! arguments, displays -/
theorem ea_nil : EA tNil Γ [] := fun σ M H e sl Q q => q [] M H (.refl e) .nil
theorem ea_cons {tr : TA} {ds : List D} (h : ED ta Γ a) (hr : EA tr Γ ds) : EA (tCons ta tr) Γ (a :: ds) := fun σ M H e sl Q q =>
  h σ M H e sl _ fun x M1 H1 g1 r1 => hr σ M1 H1 g1.s (sl.mono g1.m) _ fun xs M2 H2 g2 r2 => q _ M2 H2 (g1.trans g2) (.cons (r1.mono g2.m) r2)
theorem ed_tup {tr : TA} {ds : List D} (h : EA tr Γ ds) (hl : ds.length ≤ 100000) : ED (tTup tr) Γ (.tup ds) := fun σ M H e sl Q q =>
  h σ M H e sl _ fun xs M1 H1 g1 r1 => ⟨by rw [r1.length]; exact Nat.le_trans hl (by decide), fun p hp =>
    q _ _ _ (g1.trans (.new g1.s hp _)) (.tup upd_same (r1.mono (same_new (g1.s.free hp) _)))⟩
theorem ef_lst {tr : TA} {ds : List D} (h : EA tr Γ ds) (hl : ds.length ≤ 100000) : EF (tLst tr) Γ (.lst ds) := fun σ M H e sl Q q =>
  h σ M H e sl _ fun xs M1 H1 g1 r1 => ⟨by rw [r1.length]; exact Nat.le_trans hl (by decide), fun p hp =>
    q p _ M1 _ (g1.trans (.hid g1.s hp _)) (g1.fresh hp) (g1.s.free hp) upd_same (.lst r1)⟩
theorem ef_dnew : EF tDNewK Γ (.dct []) := fun σ M H e sl Q q p hp => q p _ M _ (.hid e hp _) hp (e.free hp) upd_same (.dct .nil)
/-! calls of built-ins by value -/
def CD (r : List V → Hp → VK → Prop) (ds : List D) (c : D) : Prop := ∀ (M H : Hp) (xs : List V) (Q : VK), Same M H → Reps M xs ds → (∀ v M' H', Grow M H M' H' → Rep M' v c → Q v H') → r xs H Q
def CF (r : List V → Hp → VK → Prop) (ds : List D) (c : D) : Prop := ∀ (M H : Hp) (xs : List V) (Q : VK), Same M H → Reps M xs ds →
  (∀ p o M' H', Grow M H M' H' → H p = none → M' p = none → H' p = some o → Cont M' o c → Q (.ref p) H') → r xs H Q
theorem ed_cb {r : List V → Hp → VK → Prop} {tr : TA} {ds : List D} (h : EA tr Γ ds) (hr : CD r ds c) : ED (tCB r tr) Γ c := fun σ M H e sl Q q =>
  h σ M H e sl _ fun xs M1 H1 g1 r1 => hr M1 H1 xs Q g1.s r1 fun v M2 H2 g2 r2 => q v M2 H2 (g1.trans g2) r2
theorem ef_cb {r : List V → Hp → VK → Prop} {tr : TA} {ds : List D} (h : EA tr Γ ds) (hr : CF r ds c) : EF (tCB r tr) Γ c := fun σ M H e sl Q q =>
  h σ M H e sl _ fun xs M1 H1 g1 r1 => hr M1 H1 xs Q g1.s r1 fun p o M2 H2 g2 h0 h1 h2 r2 => q p o M2 H2 (g1.trans g2) (g1.fresh h0) h1 h2 r2
theorem CF.cd {r : List V → Hp → VK → Prop} {ds : List D} (h : CF r ds c) : CD r ds c := fun M H xs Q e rx q => h M H xs Q e rx fun p o M' H' g h0 h1 h2 k =>
  q (.ref p) (upd M' p o) H' (g.add h0 h1 h2) (k.rep (same_new h1 o) upd_same)
/-- a def's promise: pure -/
def spF (R : List D → D → Prop) : Sp := fun vs H Q _ => ∃ M ds d, Same M H ∧ Reps M vs ds ∧ R ds d ∧ ∀ v M' H', Grow M H M' H' → Rep M' v d → Q v H'
theorem ed_call {R : List D → D → Prop} {E : XK} {tr : TA} {ds : List D} (h : EA tr Γ ds) (hr : R ds d) : ED (tCall (spF R) [] E tr) Γ d := fun σ M H e sl Q q =>
  h σ M H e sl _ fun xs M1 H1 g1 r1 => ⟨M1, ds, d, g1.s, by rw [List.append_nil]; exact r1, hr, fun v M2 H2 g2 r2 => q v M2 H2 (g1.trans g2) r2⟩
end
end RN

end
section
set_option maxRecDepth 100000
set_option maxHeartbeats 4000000
/-! a def's state: slots as data, owned lists and dicts, statements -/
namespace RN
open PySem L2 Classical

/-- R: what the slots' data lean on; own: the slots that own a list or a dict; X: raw objects of one's own; M0, H0: the heap at the start (seen, all) -/
structure Stt (M0 H0 : Hp) (own : List Nat) (X : Hp) (Γ : Gm) (σ : L2.St) (H R : Hp) : Prop where
  len : σ.length = Γ.length
  g : Grow M0 H0 R H
  non : ∀ (i : Nat) (d : D), i ∉ own → Γ[i]? = some (some d) → ∃ v, σ[i]? = some (some v) ∧ Rep R v d
  ow : ∀ (i : Nat) (d : D), i ∈ own → Γ[i]? = some (some d) → ∃ p, σ[i]? = some (some (.ref p)) ∧ R p = none ∧ H0 p = none ∧ X p = none ∧ ∃ o, H p = some o ∧ Cont R o d
  dis : ∀ (i j : Nat) (di dj : D) (p : Addr), i ∈ own → j ∈ own → Γ[i]? = some (some di) → Γ[j]? = some (some dj) → σ[i]? = some (some (.ref p)) → σ[j]? = some (some (.ref p)) → i = j
  x : ∀ (b : Addr) (o : HO), X b = some o → H b = some o ∧ R b = none ∧ H0 b = none
def ST (M0 H0 : Hp) (own : List Nat) (X : Hp) (Γ : Gm) (σ : L2.St) (H : Hp) : Prop := ∃ R, Stt M0 H0 own X Γ σ H R
def nilH : Hp := fun _ => none

/-- an address that a slot owns -/
def OwnA (own : List Nat) (Γ : Gm) (σ : L2.St) (b : Addr) : Prop := ∃ (i : Nat) (d : D), i ∈ own ∧ Γ[i]? = some (some d) ∧ σ[i]? = some (some (.ref b))
section
variable {M0 H0 M1 H1 : Hp} {own : List Nat} {X : Hp} {Γ Γ' : Gm} {σ : L2.St} {H R : Hp}
theorem Stt.ownA (s : Stt M0 H0 own X Γ σ H R) {b : Addr} (h : OwnA own Γ σ b) : R b = none ∧ H0 b = none ∧ X b = none ∧ ∃ o d, H b = some o ∧ Cont R o d := by
  obtain ⟨i, d, hi, hd, hs⟩ := h
  obtain ⟨p, h1, h2, h3, h4, o, h5, h6⟩ := s.ow i d hi hd
  rw [hs] at h1
  cases h1
  exact ⟨h2, h3, h4, o, d, h5, h6⟩
/-- all that the state's expressions may read -/
noncomputable def seen (own : List Nat) (Γ : Gm) (σ : L2.St) (H R : Hp) : Hp := fun b => if OwnA own Γ σ b then H b else R b
noncomputable def less (own : List Nat) (Γ : Gm) (σ : L2.St) (M : Hp) : Hp := fun b => if OwnA own Γ σ b then none else M b
theorem less_own {M : Hp} {b : Addr} (h : OwnA own Γ σ b) : less own Γ σ M b = none := by unfold less; rw [if_pos h]
theorem less_not {M : Hp} {b : Addr} (h : ¬ OwnA own Γ σ b) : less own Γ σ M b = M b := by unfold less; rw [if_neg h]
theorem Stt.seen_sub (s : Stt M0 H0 own X Γ σ H R) : Same R (seen own Γ σ H R) := fun b o h => by
  unfold seen
  by_cases q : OwnA own Γ σ b
  · rw [(s.ownA q).1] at h
    cases h
  · rw [if_neg q]
    exact h
theorem Stt.seen_le (s : Stt M0 H0 own X Γ σ H R) : Same (seen own Γ σ H R) H := fun b o h => by
  unfold seen at h
  by_cases q : OwnA own Γ σ b
  · rw [if_pos q] at h
    exact h
  · rw [if_neg q] at h
    exact s.g.s _ _ h
theorem Stt.slots (s : Stt M0 H0 own X Γ σ H R) : Slots (seen own Γ σ H R) σ Γ := ⟨s.len, fun i d e => by
  by_cases hi : i ∈ own
  · obtain ⟨p, h1, h2, h3, h4, o, h5, h6⟩ := s.ow i d hi e
    refine ⟨_, h1, h6.rep s.seen_sub ?_⟩
    unfold seen
    rw [if_pos ⟨i, d, hi, e, h1⟩]
    exact h5
  · obtain ⟨v, h1, h2⟩ := s.non i d hi e
    exact ⟨v, h1, h2.mono s.seen_sub⟩⟩
/-- behind an evaluation over all that is seen -/
theorem Stt.after (s : Stt M0 H0 own X Γ σ H R) {M' H' : Hp} (g : Grow (seen own Γ σ H R) H M' H') : Stt M0 H0 own X Γ σ H' (less own Γ σ M') := by
  have sub : Same R (less own Γ σ M') := fun b o h => by
    by_cases q : OwnA own Γ σ b
    · rw [(s.ownA q).1] at h
      cases h
    · rw [less_not q]
      exact g.m _ _ (s.seen_sub _ _ h)
  have none_ : ∀ b, H b ≠ none → R b = none → less own Γ σ M' b = none := fun b h1 h2 => by
    by_cases q : OwnA own Γ σ b
    · exact less_own q
    · rw [less_not q]
      refine g.n b h1 ?_
      unfold seen
      rw [if_neg q]
      exact h2
  refine ⟨s.len, ⟨s.g.m.trans sub, s.g.h.trans g.h, fun b o h => ?_, fun b h1 h2 => ?_⟩, fun i d hi e => ?_, fun i d hi e => ?_, s.dis, fun b o e => ?_⟩
  · by_cases q : OwnA own Γ σ b
    · rw [less_own q] at h
      cases h
    · rw [less_not q] at h
      exact g.s _ _ h
  · exact none_ b (fun z => h1 (s.g.h.free z)) (s.g.n b h1 h2)
  · obtain ⟨v, h1, h2⟩ := s.non i d hi e
    exact ⟨v, h1, h2.mono sub⟩
  · obtain ⟨p, h1, h2, h3, h4, o, h5, h6⟩ := s.ow i d hi e
    exact ⟨p, h1, less_own ⟨i, d, hi, e, h1⟩, h3, h4, o, g.h _ _ h5, h6.mono sub⟩
  · obtain ⟨h1, h2, h3⟩ := s.x b o e
    exact ⟨g.h _ _ h1, none_ b (by rw [h1]; simp) h2, h3⟩
theorem Stt.immAfter (s : Stt M0 H0 own X Γ σ H R) {M' H' : Hp} (g : Grow (seen own Γ σ H R) H M' H') {v : V} {d : D} (hi : imm d = true) (r : Rep M' v d) : Rep (less own Γ σ M') v d := by
  refine r.imm (fun b xs h => ?_) hi
  rw [less_not]
  · exact h
  · intro q
    obtain ⟨_, _, _, o, d', h5, h6⟩ := s.ownA q
    have := g.h _ _ h5
    rw [g.s _ _ h] at this
    exact h6.nt xs (Option.some.inj this).symm
theorem Stt.contAfter (s : Stt M0 H0 own X Γ σ H R) {M' H' : Hp} (g : Grow (seen own Γ σ H R) H M' H') {o : HO} {d : D} (hf : flat d = true) (c : Cont M' o d) : Cont (less own Γ σ M') o d := by
  refine c.imm (fun b xs h => ?_) hf
  rw [less_not]
  · exact h
  · intro q
    obtain ⟨_, _, _, o, d', h5, h6⟩ := s.ownA q
    have := g.h _ _ h5
    rw [g.s _ _ h] at this
    exact h6.nt xs (Option.some.inj this).symm
/-- behind an evaluation that reads nothing owned -/
theorem Stt.grow (s : Stt M0 H0 own X Γ σ H R) {R' H' : Hp} (g : Grow R H R' H') : Stt M0 H0 own X Γ σ H' R' := by
  refine ⟨s.len, s.g.trans g, fun i d hi e => ?_, fun i d hi e => ?_, s.dis, fun b o e => ?_⟩
  · obtain ⟨v, h1, h2⟩ := s.non i d hi e
    exact ⟨v, h1, h2.mono g.m⟩
  · obtain ⟨p, h1, h2, h3, h4, o, h5, h6⟩ := s.ow i d hi e
    exact ⟨p, h1, g.n p (by rw [h5]; simp) h2, h3, h4, o, g.h _ _ h5, h6.mono g.m⟩
  · obtain ⟨h1, h2, h3⟩ := s.x b o e
    exact ⟨g.h _ _ h1, g.n b (by rw [h1]; simp) h2, h3⟩
end
/-- Γ' knows no more than Γ -/
def LeG : Gm → Gm → Prop
  | [], [] => True
  | none :: a, _ :: b => LeG a b
  | some x :: a, y :: b => y = some x ∧ LeG a b
  | _, _ => False
theorem LeG.len : ∀ {a b : Gm}, LeG a b → a.length = b.length
  | [], [], _ => rfl
  | none :: a, _ :: b, h => by rw [List.length_cons, List.length_cons, LeG.len (a := a) (b := b) h]
  | some x :: a, y :: b, h => by rw [List.length_cons, List.length_cons, LeG.len (a := a) (b := b) h.2]
  | [], _ :: _, h => h.elim
  | some _ :: _, [], h => h.elim
  | none :: _, [], h => h.elim
theorem LeG.get : ∀ {a b : Gm}, LeG a b → ∀ {i : Nat} {d : D}, a[i]? = some (some d) → b[i]? = some (some d)
  | none :: a, _ :: b, h, 0, d, e => by simp at e
  | none :: a, _ :: b, h, i + 1, d, e => by simpa using LeG.get (a := a) (b := b) h (i := i) (by simpa using e)
  | some x :: a, y :: b, h, 0, d, e => by
    obtain ⟨rfl, _⟩ := h
    exact e
  | some x :: a, y :: b, h, i + 1, d, e => by simpa using LeG.get (a := a) (b := b) h.2 (i := i) (by simpa using e)
  | [], [], h, i, d, e => by simp at e
theorem LeG.refl : ∀ a : Gm, LeG a a
  | [] => trivial
  | none :: a => LeG.refl a
  | some x :: a => ⟨rfl, LeG.refl a⟩
/-- the slots at own forgotten -/
def maskG (own : List Nat) : Nat → Gm → Gm
  | _, [] => []
  | n, x :: a => (if own.contains n then none else x) :: maskG own (n + 1) a
theorem maskG_get {own : List Nat} : ∀ {n : Nat} {Γ : Gm} {i : Nat} {d : D}, (maskG own n Γ)[i]? = some (some d) → Γ[i]? = some (some d) ∧ n + i ∉ own
  | n, [], i, d, e => by simp [maskG] at e
  | n, x :: a, 0, d, e => by
    unfold maskG at e
    by_cases h : own.contains n = true
    · rw [if_pos h] at e
      simp at e
    · rw [if_neg h] at e
      refine ⟨by simpa using e, fun z => h ?_⟩
      simpa using z
  | n, x :: a, i + 1, d, e => by
    unfold maskG at e
    have q := maskG_get (own := own) (n := n + 1) (Γ := a) (i := i) (d := d) (by simpa using e)
    refine ⟨by simpa using q.1, ?_⟩
    rw [show n + (i + 1) = n + 1 + i by omega]
    exact q.2
section
variable {M0 H0 M1 H1 : Hp} {own : List Nat} {X : Hp} {Γ Γ' : Gm} {σ : L2.St} {H R : Hp}
theorem Stt.le (s : Stt M0 H0 own X Γ σ H R) (h : LeG Γ' Γ) : Stt M0 H0 own X Γ' σ H R :=
  ⟨by rw [s.len, h.len], s.g, fun i d hi e => s.non i d hi (h.get e), fun i d hi e => s.ow i d hi (h.get e), fun i j di dj p hi hj e1 e2 => s.dis i j di dj p hi hj (h.get e1) (h.get e2), s.x⟩
theorem maskG_len {own : List Nat} : ∀ (n : Nat) (Γ : Gm), (maskG own n Γ).length = Γ.length
  | _, [] => rfl
  | n, x :: a => by rw [maskG, List.length_cons, List.length_cons, maskG_len (n + 1) a]
theorem Stt.mask (s : Stt M0 H0 own X Γ σ H R) : Slots R σ (maskG own 0 Γ) := ⟨by rw [maskG_len]; exact s.len, fun i d e => by
  obtain ⟨h1, h2⟩ := maskG_get e
  rw [Nat.zero_add] at h2
  exact s.non i d h2 h1⟩
/-- the slot at i owns no more -/
theorem Stt.freeze (s : Stt M0 H0 own X Γ σ H R) (i : Nat) {own' : List Nat} (ho : ∀ j, j ∈ own' ↔ j ∈ own ∧ j ≠ i) : ∃ R', Stt M0 H0 own' X Γ σ H R' := by
  by_cases hi : ∃ d, i ∈ own ∧ Γ[i]? = some (some d)
  · obtain ⟨d, hi, hd⟩ := hi
    obtain ⟨p, h1, h2, h3, h4, o, h5, h6⟩ := s.ow i d hi hd
    have sub : Same R (upd R p o) := same_new h2 o
    refine ⟨upd R p o, s.len, ⟨s.g.m.trans sub, s.g.h, fun b u e => ?_, fun b e1 e2 => ?_⟩, fun j dj hj e => ?_, fun j dj hj e => ?_, fun j k dj dk q hj hk => s.dis j k dj dk q ((ho j).mp hj).1 ((ho k).mp hk).1, fun b u e => ?_⟩
    · by_cases hb : b = p
      · subst hb
        rw [upd_same] at e
        cases e
        exact h5
      · rw [upd_ne hb] at e
        exact s.g.s _ _ e
    · have hb : b ≠ p := fun z => e1 (by rw [z]; exact h3)
      rw [upd_ne hb]
      exact s.g.n b e1 e2
    · by_cases hji : j = i
      · subst hji
        rw [hd] at e
        cases e
        exact ⟨_, h1, h6.rep sub upd_same⟩
      · obtain ⟨v, q1, q2⟩ := s.non j dj (fun z => hj ((ho j).mpr ⟨z, hji⟩)) e
        exact ⟨v, q1, q2.mono sub⟩
    · obtain ⟨jo, ji⟩ := (ho j).mp hj
      obtain ⟨q, q1, q2, q3, q4, u, q5, q6⟩ := s.ow j dj jo e
      have hq : q ≠ p := fun z => ji (s.dis j i dj d p jo hi e hd (by rw [q1, z]) h1)
      exact ⟨q, q1, by rw [upd_ne hq]; exact q2, q3, q4, u, q5, q6.mono sub⟩
    · obtain ⟨q1, q2, q3⟩ := s.x b u e
      have hb : b ≠ p := fun z => by rw [z, h4] at e; cases e
      exact ⟨q1, by rw [upd_ne hb]; exact q2, q3⟩
  · refine ⟨R, s.len, s.g, fun j dj hj e => ?_, fun j dj hj e => s.ow j dj ((ho j).mp hj).1 e, fun j k dj dk q hj hk => s.dis j k dj dk q ((ho j).mp hj).1 ((ho k).mp hk).1, s.x⟩
    by_cases hj2 : j ∈ own
    · have : j = i := Classical.byContradiction fun z => hj ((ho j).mpr ⟨hj2, z⟩)
      subst this
      exact absurd ⟨dj, hj2, e⟩ hi
    · exact s.non j dj hj2 e
/-- a non-owning slot is stored -/
theorem Stt.set (s : Stt M0 H0 own X Γ σ H R) {i : Nat} {v : V} {d : D} (hi : i ∉ own) (hl : i < Γ.length) (r : Rep R v d) : Stt M0 H0 own X (Γ.set i (some d)) (σ.set i (some v)) H R := by
  have hl' : i < σ.length := by rw [s.len]; exact hl
  refine ⟨by rw [List.length_set, List.length_set]; exact s.len, s.g, fun j dj hj e => ?_, fun j dj hj e => ?_, fun j k dj dk p hj hk e1 e2 e3 e4 => ?_, s.x⟩
  · by_cases hji : i = j
    · subst hji
      rw [List.getElem?_set_self hl] at e
      cases e
      exact ⟨v, List.getElem?_set_self hl', r⟩
    · rw [List.getElem?_set_ne hji] at e ⊢
      exact s.non j dj hj e
  · have hji : i ≠ j := fun z => hi (z ▸ hj)
    rw [List.getElem?_set_ne hji] at e ⊢
    exact s.ow j dj hj e
  · have h1 : i ≠ j := fun z => hi (z ▸ hj)
    have h2 : i ≠ k := fun z => hi (z ▸ hk)
    rw [List.getElem?_set_ne h1] at e1 e3
    rw [List.getElem?_set_ne h2] at e2 e4
    exact s.dis j k dj dk p hj hk e1 e2 e3 e4
/-- an owning slot takes a new object -/
theorem Stt.take (s : Stt M0 H0 own X Γ σ H R) {i : Nat} {p : Addr} {o : HO} {d : D} (hi : i ∈ own) (hl : i < Γ.length) (h0 : R p = none) (h1 : H0 p = none) (hx : X p = none) (ho : ¬ OwnA own Γ σ p) (h2 : H p = some o) (c : Cont R o d) :
    Stt M0 H0 own X (Γ.set i (some d)) (σ.set i (some (.ref p))) H R := by
  have hl' : i < σ.length := by rw [s.len]; exact hl
  refine ⟨by rw [List.length_set, List.length_set]; exact s.len, s.g, fun j dj hj e => ?_, fun j dj hj e => ?_, fun j k dj dk q hj hk e1 e2 e3 e4 => ?_, s.x⟩
  · have hji : i ≠ j := fun z => hj (z ▸ hi)
    rw [List.getElem?_set_ne hji] at e ⊢
    exact s.non j dj hj e
  · by_cases hji : i = j
    · subst hji
      rw [List.getElem?_set_self hl] at e
      cases e
      exact ⟨p, List.getElem?_set_self hl', h0, h1, hx, o, h2, c⟩
    · rw [List.getElem?_set_ne hji] at e ⊢
      exact s.ow j dj hj e
  · by_cases h1 : i = j
    · subst h1
      by_cases h2 : i = k
      · exact h2
      · rw [List.getElem?_set_self hl'] at e3
        cases e3
        rw [List.getElem?_set_ne h2] at e2 e4
        exact absurd ⟨k, dk, hk, e2, e4⟩ ho
    · by_cases h2 : i = k
      · subst h2
        rw [List.getElem?_set_self hl'] at e4
        cases e4
        rw [List.getElem?_set_ne h1] at e1 e3
        exact absurd ⟨j, dj, hj, e1, e3⟩ ho
      · rw [List.getElem?_set_ne h1] at e1 e3
        rw [List.getElem?_set_ne h2] at e2 e4
        exact s.dis j k dj dk q hj hk e1 e2 e3 e4
/-- an owned object is changed -/
theorem Stt.put (s : Stt M0 H0 own X Γ σ H R) {i : Nat} {p : Addr} {o : HO} {d d' : D} (hi : i ∈ own) (hd : Γ[i]? = some (some d)) (hp : σ[i]? = some (some (.ref p))) (c : Cont R o d') :
    Stt M0 H0 own X (Γ.set i (some d')) σ (upd H p o) R := by
  have hl : i < Γ.length := (List.getElem?_eq_some_iff.mp hd).1
  obtain ⟨p', h1, h2, h3, h4, u, h5, h6⟩ := s.ow i d hi hd
  rw [hp] at h1
  cases h1
  refine ⟨by rw [List.length_set]; exact s.len, ⟨s.g.m, fun b v e => ?_, fun b v e => ?_, s.g.n⟩, fun j dj hj e => ?_, fun j dj hj e => ?_, fun j k dj dk q hj hk e1 e2 e3 e4 => ?_, fun b v e => ?_⟩
  · rw [upd_ne (fun z => by rw [z, h3] at e; cases e)]
    exact s.g.h _ _ e
  · rw [upd_ne (fun z => by rw [z, h2] at e; cases e)]
    exact s.g.s _ _ e
  · have hji : i ≠ j := fun z => hj (z ▸ hi)
    rw [List.getElem?_set_ne hji] at e
    exact s.non j dj hj e
  · by_cases hji : i = j
    · subst hji
      rw [List.getElem?_set_self hl] at e
      cases e
      exact ⟨p, hp, h2, h3, h4, o, upd_same, c⟩
    · rw [List.getElem?_set_ne hji] at e
      obtain ⟨q, q1, q2, q3, q4, w, q5, q6⟩ := s.ow j dj hj e
      have hq : q ≠ p := fun z => hji (s.dis i j d dj p hi hj hd e hp (by rw [q1, z]))
      exact ⟨q, q1, q2, q3, q4, w, by rw [upd_ne hq]; exact q5, q6⟩
  · have f : ∀ (n : Nat) (dn : D), (Γ.set i (some d'))[n]? = some (some dn) → ∃ dn', Γ[n]? = some (some dn') := fun n dn e => by
      by_cases hn : i = n
      · subst hn
        exact ⟨d, hd⟩
      · rw [List.getElem?_set_ne hn] at e
        exact ⟨dn, e⟩
    obtain ⟨d1, f1⟩ := f j dj e1
    obtain ⟨d2, f2⟩ := f k dk e2
    exact s.dis j k d1 d2 q hj hk f1 f2 e3 e4
  · obtain ⟨q1, q2, q3⟩ := s.x b v e
    have hb : b ≠ p := fun z => by rw [z, h4] at e; cases e
    exact ⟨by rw [upd_ne hb]; exact q1, q2, q3⟩
/-- another start -/
structure BLe (M0 H0 M1 H1 : Hp) : Prop where
  m : Same M0 M1
  h : Same H0 H1
  n : ∀ b, H0 b ≠ none → M0 b = none → M1 b = none
theorem BLe.grow (b : BLe M0 H0 M1 H1) {M H : Hp} (g : Grow M1 H1 M H) : Grow M0 H0 M H := ⟨b.m.trans g.m, b.h.trans g.h, g.s, fun a h1 h2 => g.n a (fun z => h1 (b.h.free z)) (b.n a h1 h2)⟩
theorem BLe.refl : BLe M0 H0 M0 H0 := ⟨.refl _, .refl _, fun _ _ h => h⟩
theorem BLe.trans {M2 H2 : Hp} (a : BLe M0 H0 M1 H1) (b : BLe M1 H1 M2 H2) : BLe M0 H0 M2 H2 := ⟨a.m.trans b.m, a.h.trans b.h, fun x h1 h2 => b.n x (fun z => h1 (a.h.free z)) (a.n x h1 h2)⟩
theorem Stt.back (b : BLe M0 H0 M1 H1) (s : Stt M1 H1 own X Γ σ H R) : Stt M0 H0 own X Γ σ H R :=
  ⟨s.len, b.grow s.g, s.non, fun i d hi e => let ⟨p, h1, h2, h3, h4⟩ := s.ow i d hi e; ⟨p, h1, h2, b.h.free h3, h4⟩, s.dis, fun a o e => let ⟨h1, h2, h3⟩ := s.x a o e; ⟨h1, h2, b.h.free h3⟩⟩
/-- a loop's own start: all but what is owned -/
theorem Stt.base (s : Stt M0 H0 own X Γ σ H R) : ∃ H1, BLe M0 H0 R H1 ∧ Stt R H1 own X Γ σ H R := by
  refine ⟨fun b => if OwnA own Γ σ b ∨ X b ≠ none then none else H b, ⟨s.g.m, fun b o e => ?_, s.g.n⟩, s.len, ⟨.refl _, fun b o e => ?_, s.g.s, fun _ _ h => h⟩, s.non, fun i d hi e => ?_, s.dis, fun b o e => ?_⟩
  · show (if OwnA own Γ σ b ∨ X b ≠ none then none else H b) = some o
    rw [if_neg]
    · exact s.g.h _ _ e
    · rintro (q | q)
      · rw [(s.ownA q).2.1] at e
        cases e
      · cases hx : X b with
        | none => exact q hx
        | some u =>
          rw [(s.x b u hx).2.2] at e
          cases e
  · have e : (if OwnA own Γ σ b ∨ X b ≠ none then none else H b) = some o := e
    split at e
    · cases e
    · exact e
  · obtain ⟨p, h1, h2, h3, h4⟩ := s.ow i d hi e
    refine ⟨p, h1, h2, ?_, h4⟩
    show (if OwnA own Γ σ p ∨ X p ≠ none then none else H p) = none
    rw [if_pos (.inl ⟨i, d, hi, e, h1⟩)]
  · obtain ⟨h1, h2, h3⟩ := s.x b o e
    refine ⟨h1, h2, ?_⟩
    show (if OwnA own Γ σ b ∨ X b ≠ none then none else H b) = none
    rw [if_pos (.inr (by rw [e]; simp))]
end

/-! ### values that lean on nothing owned -/
/-- te gives a value of the rest -/
def EV (own : List Nat) (te : TE) (Γ : Gm) (d : D) : Prop := ∀ (M0 H0 X : Hp) (σ : L2.St) (H R : Hp), Stt M0 H0 own X Γ σ H R → ∀ Q : VK, (∀ v H' R', Stt M0 H0 own X Γ σ H' R' → Rep R' v d → Q v H') → te σ H Q
/-- .. a new object, owned by nobody -/
def EN (own : List Nat) (te : TE) (Γ : Gm) (d : D) : Prop := ∀ (M0 H0 X : Hp) (σ : L2.St) (H R : Hp), Stt M0 H0 own X Γ σ H R → ∀ Q : VK,
  (∀ p o H' R', Stt M0 H0 own X Γ σ H' R' → R' p = none → H0 p = none → X p = none → ¬ OwnA own Γ σ p → H' p = some o → Cont R' o d → Q (.ref p) H') → te σ H Q
def ETT (own : List Nat) (tt : TT) (Γ : Gm) (b : Bool) : Prop := ∀ (M0 H0 X : Hp) (σ : L2.St) (H R : Hp), Stt M0 H0 own X Γ σ H R → ∀ Q : Bool → Hp → Prop, (∀ H' R', Stt M0 H0 own X Γ σ H' R' → Q b H') → tt σ H Q
section
variable {own : List Nat} {te : TE} {tt : TT} {Γ : Gm} {d : D} {b : Bool}
theorem ev_imm (h : ED te Γ d) (hi : imm d = true) : EV own te Γ d := fun M0 H0 X σ H R s Q q => h σ _ H s.seen_le s.slots Q fun v M' H' g r => q v H' _ (s.after g) (s.immAfter g hi r)
theorem ev_mask (h : ED te (maskG own 0 Γ) d) : EV own te Γ d := fun M0 H0 X σ H R s Q q => h σ R H s.g.s s.mask Q fun v M' H' g r => q v H' M' (s.grow g) r
theorem ev_all (h : ED te Γ d) : EV [] te Γ d := fun M0 H0 X σ H R s Q q => by
  refine h σ R H s.g.s ⟨s.len, fun i d e => s.non i d (by simp) e⟩ Q fun v M' H' g r => q v H' M' (s.grow g) r
theorem en_flat (h : EF te Γ d) (hf : flat d = true) : EN own te Γ d := fun M0 H0 X σ H R s Q q => h σ _ H s.seen_le s.slots Q fun p o M' H' g h0 h1 h2 c => by
  have hx : X p = none := by
    cases e : X p with
    | none => rfl
    | some u =>
      rw [(s.x p u e).1] at h0
      cases h0
  have ho : ¬ OwnA own Γ σ p := fun z => by
    obtain ⟨_, _, _, u, _, e, _⟩ := s.ownA z
    rw [e] at h0
    cases h0
  exact q p o H' _ (s.after g) (by rw [less_not ho]; exact h1) (s.g.h.free h0) hx ho h2 (s.contAfter g hf c)
theorem EN.ev (h : EN own te Γ d) : EV own te Γ d := fun M0 H0 X σ H R s Q q => h M0 H0 X σ H R s Q fun p o H' R' s' h0 h1 h2 h3 h4 c => by
  have sub : Same R' (upd R' p o) := same_new h0 o
  refine q (.ref p) H' (upd R' p o) ⟨s'.len, ⟨s'.g.m.trans sub, s'.g.h, fun b u e => ?_, fun b e1 e2 => ?_⟩, fun i d hi e => ?_, fun i d hi e => ?_, s'.dis, fun b u e => ?_⟩ (c.rep sub upd_same)
  · by_cases hb : b = p
    · subst hb
      rw [upd_same] at e
      cases e
      exact h4
    · rw [upd_ne hb] at e
      exact s'.g.s _ _ e
  · have hb : b ≠ p := fun z => e1 (by rw [z]; exact h1)
    rw [upd_ne hb]
    exact s'.g.n b e1 e2
  · obtain ⟨v, q1, q2⟩ := s'.non i d hi e
    exact ⟨v, q1, q2.mono sub⟩
  · obtain ⟨q', q1, q2, q3, q4, u, q5, q6⟩ := s'.ow i d hi e
    have hq : q' ≠ p := fun z => h3 ⟨i, d, hi, e, by rw [q1, z]⟩
    exact ⟨q', q1, by rw [upd_ne hq]; exact q2, q3, q4, u, q5, q6.mono sub⟩
  · obtain ⟨q1, q2, q3⟩ := s'.x b u e
    have hb : b ≠ p := fun z => by rw [z, h2] at e; cases e
    exact ⟨q1, by rw [upd_ne hb]; exact q2, q3⟩
theorem ev_flat (h : EF te Γ d) (hf : flat d = true) : EV own te Γ d := (en_flat h hf).ev
theorem ett (h : ET tt Γ b) : ETT own tt Γ b := fun M0 H0 X σ H R s Q q => h σ _ H s.seen_le s.slots Q fun M' H' g => q H' _ (s.after g)
end

/-! ### statements -/
def Ho (M0 H0 : Hp) (own : List Nat) (X : Hp) (Γ : Gm) (t : TS) (D : Ends) : Prop := ∀ σ H, ST M0 H0 own X Γ σ H → t D σ H
/-- what follows, from a known state -/
def Nx (M0 H0 : Hp) (own : List Nat) (X : Hp) (Γ : Gm) (P : L2.St → Hp → Prop) : Prop := ∀ σ H, ST M0 H0 own X Γ σ H → P σ H
def TgV (own : List Nat) (g : TG) (d : D) (Γ Γ' : Gm) : Prop := ∀ (M0 H0 X : Hp) (σ : L2.St) (H R : Hp) (v : V), Stt M0 H0 own X Γ σ H R → Rep R v d → ∀ Q : L2.St → Hp → Prop, (∀ σ', Stt M0 H0 own X Γ' σ' H R → Q σ' H) → g v σ H Q
section
variable {M0 H0 : Hp} {own : List Nat} {X : Hp} {Γ Γ' : Gm} {t u tb : TS} {D : Ends} {te ta : TE} {tt : TT} {d d' : RN.D} {g : TG} {b : Bool} {K : PySem.W.Frag}
theorem tg_name {i : Nat} (hi : i ∉ own) (hl : i < Γ.length) : TgV own (gName i) d Γ (Γ.set i (some d)) := fun M0 H0 X σ H R v s r Q q => q _ (s.set hi hl r)
theorem tg_tup2 {i j : Nat} {d1 d2 : RN.D} (hi : i ∉ own) (hj : j ∉ own) (li : i < Γ.length) (lj : j < Γ.length) : TgV own (gTup K 2 (gCons (gName i) (gCons (gName j) gNil))) (.tup [d1, d2]) Γ ((Γ.set i (some d1)).set j (some d2)) := fun M0 H0 X σ H R v s r Q q => by
  cases r with
  | tup h r =>
    cases r with
    | cons r1 r =>
      cases r with
      | cons r2 r =>
        cases r
        exact ⟨_, _, rfl, .inl (.inl (s.g.s _ _ h)), rfl, _, _, rfl, _, _, rfl, rfl, q _ ((s.set hi li r1).set hj (by rw [List.length_set]; exact lj) r2)⟩
theorem tg_tup3 {i j k : Nat} {d1 d2 d3 : RN.D} (hi : i ∉ own) (hj : j ∉ own) (hk : k ∉ own) (li : i < Γ.length) (lj : j < Γ.length) (lk : k < Γ.length) : TgV own (gTup K 3 (gCons (gName i) (gCons (gName j) (gCons (gName k) gNil)))) (.tup [d1, d2, d3]) Γ (((Γ.set i (some d1)).set j (some d2)).set k (some d3)) := fun M0 H0 X σ H R v s r Q q => by
  cases r with
  | tup h r =>
    cases r with
    | cons r1 r =>
      cases r with
      | cons r2 r =>
        cases r with
        | cons r3 r =>
          cases r
          exact ⟨_, _, rfl, .inl (.inl (s.g.s _ _ h)), rfl, _, _, rfl, _, _, rfl, _, _, rfl, rfl, q _ (((s.set hi li r1).set hj (by rw [List.length_set]; exact lj) r2).set hk (by rw [List.length_set, List.length_set]; exact lk) r3)⟩
theorem ho_seq (h : Ho M0 H0 own X Γ t { D with nx := u D }) : Ho M0 H0 own X Γ (tSeq t u) D := h
theorem ho_asg (h : EV own te Γ d) (hg : TgV own g d Γ Γ') (k : Nx M0 H0 own X Γ' D.nx) : Ho M0 H0 own X Γ (tAsg te g) D := fun σ H ⟨R, s⟩ =>
  h M0 H0 X σ H R s _ fun v H' R' s' r => hg M0 H0 X σ H' R' v s' r _ fun σ' s2 => k σ' H' ⟨R', s2⟩
theorem ho_own {i : Nat} (h : EN own te Γ d) (hi : i ∈ own) (hl : i < Γ.length) (k : Nx M0 H0 own X (Γ.set i (some d)) D.nx) : Ho M0 H0 own X Γ (tAsg te (gName i)) D := fun σ H ⟨R, s⟩ =>
  h M0 H0 X σ H R s _ fun p o H' R' s' h0 h1 hx ho h2 c => k _ H' ⟨R', s'.take hi hl h0 h1 hx ho h2 c⟩
theorem ho_drop (h : EV own te Γ d) (k : Nx M0 H0 own X Γ D.nx) : Ho M0 H0 own X Γ (tDrop te) D := fun σ H ⟨R, s⟩ => h M0 H0 X σ H R s _ fun v H' R' s' r => k σ H' ⟨R', s'⟩
theorem ho_ret (h : EV own te Γ d) (k : ∀ v M' H', Grow M0 H0 M' H' → Rep M' v d → D.rt v H') : Ho M0 H0 own X Γ (tRet te) D := fun σ H ⟨R, s⟩ => h M0 H0 X σ H R s _ fun v H' R' s' r => k v R' H' s'.g r
theorem ho_retN (k : ∀ M' H', Grow M0 H0 M' H' → D.rt .non H') : Ho M0 H0 own X Γ tRetN D := fun σ H ⟨R, s⟩ => k R H s.g
theorem ho_freeze (i : Nat) {own' : List Nat} (ho : ∀ j, j ∈ own' ↔ j ∈ own ∧ j ≠ i) (h : Ho M0 H0 own' X Γ t D) : Ho M0 H0 own X Γ t D := fun σ H ⟨R, s⟩ => h σ H (s.freeze i ho)
theorem ho_if (h : ETT own tt Γ b) (h1 : b = true → Ho M0 H0 own X Γ t D) (h2 : b = false → Ho M0 H0 own X Γ u D) : Ho M0 H0 own X Γ (tIfS tt t u) D := fun σ H ⟨R, s⟩ => h M0 H0 X σ H R s _ fun H' R' s' => by
  cases b with
  | true => exact h1 rfl σ H' ⟨R', s'⟩
  | false => exact h2 rfl σ H' ⟨R', s'⟩
theorem ho_next (k : Nx M0 H0 own X Γ D.nx) : Ho M0 H0 own X Γ tNext D := k
theorem ho_cont (k : Nx M0 H0 own X Γ D.ct) : Ho M0 H0 own X Γ tCont D := k
theorem ho_le (h : LeG Γ' Γ) (k : Ho M0 H0 own X Γ' t D) : Ho M0 H0 own X Γ t D := fun σ H ⟨R, s⟩ => k σ H ⟨R, s.le h⟩
theorem nx_le {P : L2.St → Hp → Prop} (h : LeG Γ' Γ) (k : Nx M0 H0 own X Γ' P) : Nx M0 H0 own X Γ P := fun σ H ⟨R, s⟩ => k σ H ⟨R, s.le h⟩

/-! loops -/
/-- what an iterator gives: ds one by one, over any later heap -/
structure Wk (J : It) (ds : List RN.D) (M0 : Hp) : Prop where
  go : ∀ i M H, i < ds.length → Same M0 M → Same M H → J.go i H
  stop : ∀ M H, Same M0 M → Same M H → J.stop ds.length H
  yld : ∀ i M H x H', i < ds.length → Same M0 M → Same M H → J.yld i H x H' → ∃ M' d, ds[i]? = some d ∧ Grow M H M' H' ∧ Rep M' x d
theorem Wk.mono {J : It} {ds : List RN.D} {M M' : Hp} (e : Same M M') (w : Wk J ds M) : Wk J ds M' :=
  ⟨fun i M2 H hi a b => w.go i M2 H hi (e.trans a) b, fun M2 H a b => w.stop M2 H (e.trans a) b, fun i M2 H x H' hi a b y => w.yld i M2 H x H' hi (e.trans a) b y⟩
def EI (wi : TI) (Γ : Gm) (ds : List RN.D) : Prop := ∀ (σ : L2.St) (M H : Hp), Same M H → Slots M σ Γ → ∀ R : It → Hp → Prop, (∀ J M' H', Grow M H M' H' → Wk J ds M' → R J H') → wi σ H R
/-- a loop's invariant J by the turn -/
def SJ (M0 H0 : Hp) (own : List Nat) (X : Hp) (J : Gm → Prop) (σ : L2.St) (H : Hp) : Prop := ∃ Γ, J Γ ∧ ST M0 H0 own X Γ σ H
theorem ho_for {α : Type} {wi : TI} (as : List α) (enc : α → RN.D) (J : Nat → Gm → Prop) (hI : EI wi (maskG own 0 Γ) (as.map enc)) (h0 : J 0 Γ)
    (hs : ∀ M1 H1, BLe M0 H0 M1 H1 → ∀ (k : Nat) (a : α) (Γ1 : Gm), as[k]? = some a → J k Γ1 → ∃ Γ2, TgV own g (enc a) Γ1 Γ2 ∧ Ho M1 H1 own X Γ2 tb { D with nx := SJ M1 H1 own X (J (k + 1)), ct := SJ M1 H1 own X (J (k + 1)), bk := D.nx })
    (hd : ∀ Γ1, J as.length Γ1 → Nx M0 H0 own X Γ1 D.nx) : Ho M0 H0 own X Γ (tFor wi g tb) D := fun σ H ⟨R, s⟩ => by
  refine hI σ R H s.g.s s.mask _ fun I R1 H1 g1 wk => ?_
  obtain ⟨H2, bl, s2⟩ := (s.grow g1).base
  refine ⟨fun i m σ' H' => m = as.length - i ∧ i ≤ as.length ∧ SJ R1 H2 own X (J i) σ' H', ⟨as.length, by simp, Nat.zero_le _, Γ, h0, R1, s2⟩, ?_⟩
  rintro i m σ' H' ⟨rfl, hi, Γ1, hJ, R2, s3⟩
  by_cases hlt : i < as.length
  · have hl : i < (as.map enc).length := by rw [List.length_map]; exact hlt
    refine .inr ⟨wk.go i R2 H' hl s3.g.m s3.g.s, SJ R1 H2 own X (J (i + 1)), fun σ3 H3 q => ⟨as.length - (i + 1), by omega, rfl, hlt, q⟩, fun x H3 y => ?_⟩
    obtain ⟨R3, d, ed, g3, rd⟩ := wk.yld i R2 H' x H3 hl s3.g.m s3.g.s y
    have ha : as[i]? = some as[i] := List.getElem?_eq_getElem hlt
    rw [List.getElem?_map, ha] at ed
    cases ed
    obtain ⟨Γ2, tg, ho⟩ := hs R1 H2 bl i as[i] Γ1 ha hJ
    exact tg R1 H2 X σ' H3 R3 x (s3.grow g3) rd _ fun σ4 s4 => ho σ4 H3 ⟨R3, s4⟩
  · have e : i = as.length := by omega
    subst e
    refine .inl ⟨?_, hd Γ1 hJ σ' H' ⟨R2, s3.back bl⟩⟩
    have q := wk.stop R2 H' s3.g.m s3.g.s
    rw [List.length_map] at q
    exact q
theorem ho_while (J : Nat → Gm → Prop) (m0 : Nat) (h0 : J m0 Γ)
    (hs : ∀ (m : Nat) (Γ1 : Gm), J m Γ1 → ∃ b, ETT own tt Γ1 b ∧ (b = true → Ho M0 H0 own X Γ1 tb { D with nx := SJ M0 H0 own X (fun Γ2 => ∃ m', m' < m ∧ J m' Γ2), ct := SJ M0 H0 own X (fun Γ2 => ∃ m', m' < m ∧ J m' Γ2), bk := D.nx }) ∧ (b = false → Nx M0 H0 own X Γ1 D.nx)) :
    Ho M0 H0 own X Γ (tWhile tt tb) D := fun σ H s => by
  refine ⟨fun m σ' H' => SJ M0 H0 own X (J m) σ' H', ⟨m0, Γ, h0, s⟩, ?_⟩
  rintro m σ' H' ⟨Γ1, hJ, R1, s1⟩
  obtain ⟨b, e, h1, h2⟩ := hs m Γ1 hJ
  refine e M0 H0 X σ' H' R1 s1 _ fun H2 R2 s2 => ?_
  cases b with
  | true => exact ⟨SJ M0 H0 own X (fun Γ2 => ∃ m', m' < m ∧ J m' Γ2), fun σ3 H3 ⟨Γ3, ⟨m', hm, hj⟩, s3⟩ => ⟨m', hm, Γ3, hj, s3⟩, h1 rfl σ' H2 ⟨R2, s2⟩⟩
  | false => exact h2 rfl σ' H2 ⟨R2, s2⟩
theorem nx_sj {J : Gm → Prop} (h : LeG Γ' Γ) (j : J Γ') : Nx M0 H0 own X Γ (SJ M0 H0 own X J) := fun σ H ⟨R, s⟩ => ⟨Γ', j, R, s.le h⟩

/-! owned objects changed -/
theorem ho_app {i : Nat} {ds : List RN.D} (hi : i ∈ own) (hd : Γ[i]? = some (some (.lst ds))) (h : EV own te Γ d) (hl : ds.length < 100000) (k : Nx M0 H0 own X (Γ.set i (some (.lst (ds ++ [d])))) D.nx) :
    Ho M0 H0 own X Γ (tDrop (tBM K "list" rAppend (tVar i) (tCons te tNil))) D := fun σ H ⟨R, s⟩ => by
  obtain ⟨p, h1, h2, h3, h4, o, h5, h6⟩ := s.ow i _ hi hd
  cases h6 with
  | @lst xs _ r =>
    refine ⟨.ref p, h1, .inl ⟨rfl, xs, .inl (.inl h5)⟩, ?_⟩
    refine h M0 H0 X σ H R s _ fun v H' R' s' rv => ?_
    obtain ⟨p', q1, q2, q3, q4, o', q5, q6⟩ := s'.ow i _ hi hd
    rw [h1] at q1
    cases q1
    cases q6 with
    | @lst xs' _ r' =>
      exact ⟨p, xs', v, rfl, rfl, q5, by rw [r'.length]; exact Nat.lt_of_lt_of_le hl (by decide), k σ _ ⟨R', s'.put hi hd h1 (.lst (r'.append (.one rv)))⟩⟩
theorem ho_ext {i : Nat} {ds es : List RN.D} (hi : i ∈ own) (hd : Γ[i]? = some (some (.lst ds))) (h : EV own te Γ (.lst es)) (hl : ds.length + es.length ≤ 100000) (k : Nx M0 H0 own X (Γ.set i (some (.lst (ds ++ es)))) D.nx) :
    Ho M0 H0 own X Γ (tDrop (tBM K "list" rExtend (tVar i) (tCons te tNil))) D := fun σ H ⟨R, s⟩ => by
  obtain ⟨p, h1, h2, h3, h4, o, h5, h6⟩ := s.ow i _ hi hd
  cases h6 with
  | @lst xs _ r =>
    refine ⟨.ref p, h1, .inl ⟨rfl, xs, .inl (.inl h5)⟩, ?_⟩
    refine h M0 H0 X σ H R s _ fun v H' R' s' rv => ?_
    obtain ⟨p', q1, q2, q3, q4, o', q5, q6⟩ := s'.ow i _ hi hd
    rw [h1] at q1
    cases q1
    cases q6 with
    | @lst xs' _ r' =>
      cases rv with
      | @lst a zs _ hz rz =>
        exact ⟨p, a, xs', zs, rfl, rfl, q5, s'.g.s _ _ hz, by rw [r'.length, rz.length]; exact Nat.le_trans hl (by decide), k σ _ ⟨R', s'.put hi hd h1 (.lst (r'.append rz))⟩⟩
theorem ho_rev {i : Nat} {ds : List RN.D} (hi : i ∈ own) (hd : Γ[i]? = some (some (.lst ds))) (k : Nx M0 H0 own X (Γ.set i (some (.lst ds.reverse))) D.nx) :
    Ho M0 H0 own X Γ (tDrop (tBM0 K "list" rReverse (tVar i))) D := fun σ H ⟨R, s⟩ => by
  obtain ⟨p, h1, h2, h3, h4, o, h5, h6⟩ := s.ow i _ hi hd
  cases h6 with
  | @lst xs _ r => exact ⟨.ref p, h1, .inl ⟨rfl, xs, .inl (.inl h5)⟩, p, xs, rfl, rfl, h5, k σ _ ⟨R, s.put hi hd h1 (.lst r.reverse)⟩⟩
/-- x = l.pop() -/
theorem ho_pop {i j : Nat} {ds : List RN.D} (hi : i ∈ own) (hj : j ∉ own) (lj : j < Γ.length) (hd : Γ[i]? = some (some (.lst (ds ++ [d])))) (k : Nx M0 H0 own X ((Γ.set i (some (.lst ds))).set j (some d)) D.nx) :
    Ho M0 H0 own X Γ (tAsg (tBM0 K "list" rPop (tVar i)) (gName j)) D := fun σ H ⟨R, s⟩ => by
  obtain ⟨p, h1, h2, h3, h4, o, h5, h6⟩ := s.ow i _ hi hd
  cases h6 with
  | @lst xs _ r =>
    have hl := r.length
    rw [List.length_append, List.length_singleton] at hl
    obtain ⟨v, e1, rv⟩ := r.get (i := ds.length) (d := d) (by simp)
    refine ⟨.ref p, h1, .inl ⟨rfl, xs, .inl (.inl h5)⟩, p, xs, v, rfl, rfl, h5, by rw [hl]; simpa using e1, ?_⟩
    have rd : Reps R xs.dropLast ds := by
      have q := r.take ds.length
      rw [List.take_left] at q
      rw [List.dropLast_eq_take, hl]
      simpa using q
    exact k _ _ ⟨R, (s.put hi hd h1 (.lst rd)).set hj (by rw [List.length_set]; exact lj) rv⟩
end
end RN

end
section
set_option maxRecDepth 100000
set_option maxHeartbeats 4000000
/-! the readings of expressions, by data -/
namespace RN
open PySem L2

theorem sqL {K : PySem.W.Frag} {H : Hp} {a : Addr} {xs : List V} (h : H a = some (.lst xs)) : SqL K H a xs := .inl (.inl h)
theorem sqT {K : PySem.W.Frag} {H : Hp} {a : Addr} {xs : List V} (h : H a = some (.tup xs)) : SqT K H a xs := .inl (.inl h)
theorem le100 {n : Nat} (h : n ≤ 100000) : n ≤ sizeLine := Nat.le_trans h (by decide)

/-! dicts as data -/
def getK (ks : List (Str × D)) (s : Str) : Option D := (ks.find? fun e => decide (e.1 = s)).map (·.2)
def hasK (ks : List (Str × D)) (s : Str) : Bool := (getK ks s).isSome
def putD (ks : List (Str × D)) (s : Str) (d : D) : List (Str × D) :=
  if (ks.any fun e => decide (e.1 = s)) = true then ks.map (fun e => if e.1 = s then (e.1, d) else e) else ks ++ [(s, d)]
theorem dec_inr {a b : Str} : decide ((Sum.inr a : Key) = Sum.inr b) = decide (a = b) := key_rr a b
theorem RepK.getNone {H : Hp} {s : Str} : ∀ {kvs : List (Key × V)} {ks : List (Str × D)}, RepK H kvs ks → (valV kvs (.inr s)).isSome = (getK ks s).isSome ∧ ∀ d, getK ks s = some d → ∃ v, valV kvs (.inr s) = some v ∧ Rep H v d
  | _, _, .nil => ⟨rfl, fun d e => by cases e⟩
  | _, _, @RepK.cons _ k v d kvs ks h r => by
    have ih := RepK.getNone (s := s) r
    by_cases e : k = s
    · subst e
      have e1 : valV ((Sum.inr k, v) :: kvs) (Sum.inr k : Key) = some v := valV_pos rfl
      have e2 : getK ((k, d) :: ks) k = some d := by simp [getK, List.find?_cons]
      rw [e1, e2]
      exact ⟨rfl, fun d' q => by cases q; exact ⟨v, rfl, h⟩⟩
    · have e1 : valV ((Sum.inr k, v) :: kvs) (Sum.inr s : Key) = valV kvs (Sum.inr s) := valV_neg (fun z => e (Sum.inr.inj z))
      have e2 : getK ((k, d) :: ks) s = getK ks s := by simp [getK, List.find?_cons, e]
      rw [e1, e2]
      exact ih
theorem RepK.any {H : Hp} {s : Str} : ∀ {kvs : List (Key × V)} {ks : List (Str × D)}, RepK H kvs ks → (kvs.any fun kv => decide (kv.1 = (Sum.inr s : Key))) = ks.any fun e => decide (e.1 = s)
  | _, _, .nil => rfl
  | _, _, @RepK.cons _ k v d kvs ks h r => by
    rw [List.any_cons, List.any_cons, RepK.any (s := s) r]
    show (decide ((Sum.inr k : Key) = Sum.inr s) || _) = _
    rw [dec_inr]
theorem RepK.putGo {H : Hp} {s : Str} {v : V} {d : D} (h : Rep H v d) : ∀ {kvs : List (Key × V)} {ks : List (Str × D)}, RepK H kvs ks → RepK H (kvs.map fun kv => if kv.1 = (Sum.inr s : Key) then (kv.1, v) else kv) (ks.map fun e => if e.1 = s then (e.1, d) else e)
  | _, _, .nil => .nil
  | _, _, @RepK.cons _ k w d' kvs ks h' r => by
    rw [List.map_cons, List.map_cons]
    by_cases e : k = s
    · subst e
      rw [if_pos rfl, if_pos rfl]
      exact .cons h (RepK.putGo h r)
    · rw [if_neg (fun z => e (Sum.inr.inj z)), if_neg e]
      exact .cons h' (RepK.putGo h r)
theorem RepK.putEnd {H : Hp} {s : Str} {v : V} {d : D} (h : Rep H v d) : ∀ {kvs : List (Key × V)} {ks : List (Str × D)}, RepK H kvs ks → RepK H (kvs ++ [(Sum.inr s, v)]) (ks ++ [(s, d)])
  | _, _, .nil => .cons h .nil
  | _, _, .cons h' r => .cons h' (RepK.putEnd h r)
theorem RepK.put {H : Hp} {s : Str} {v : V} {d : D} {kvs : List (Key × V)} {ks : List (Str × D)} (r : RepK H kvs ks) (h : Rep H v d) : RepK H (putK kvs (.inr s) v) (putD ks s d) := by
  unfold putK putD
  rw [r.any]
  split
  · exact RepK.putGo h r
  · exact RepK.putEnd h r
theorem RepK.keys {H : Hp} : ∀ {kvs : List (Key × V)} {ks : List (Str × D)}, RepK H kvs ks → kvs.map (fun kv => kV kv.1) = ks.map fun e => V.str e.1
  | _, _, .nil => rfl
  | _, _, .cons _ r => by rw [List.map_cons, List.map_cons, RepK.keys r]; rfl

section
variable {Γ : Gm} {ta tb tc te : TE} {t u : TT} {a b c d : D} {K : PySem.W.Frag} {ds es : List D}

theorem ed_copq {v : V} : ED (tC v) Γ (.opq v) := fun σ M H e sl Q q => q _ M H (.refl e) (.opq v)
/-! subscripts -/
theorem ed_ixL {i : Int} {j : Nat} (ha : ED ta Γ (.lst ds)) (hb : ED tb Γ (.int i)) (hi : i = (j : Int)) (hj : ds[j]? = some d) : ED (tOp (rIxL K) ta tb) Γ d := ed_op ha hb fun M H x y Q e rx ry q => by
  cases ry
  cases rx with
  | lst h r =>
    obtain ⟨v, e1, rv⟩ := r.get hj
    subst hi
    exact ⟨_, _, _, v, rfl, rfl, sqL (e _ _ h), atI_nat e1, q v M H (.refl e) rv⟩
theorem ed_ixLast (ha : ED ta Γ (.lst (ds ++ [d]))) (hb : ED tb Γ (.int (-1))) : ED (tOp (rIxL K) ta tb) Γ d := ed_op ha hb fun M H x y Q e rx ry q => by
  cases ry
  cases rx with
  | @lst p xs _ h r =>
    obtain ⟨v, e1, rv⟩ := r.get (i := ds.length) (d := d) (by simp)
    have hl := r.length
    rw [List.length_append, List.length_singleton] at hl
    refine ⟨_, _, _, v, rfl, rfl, sqL (e _ _ h), ?_, q v M H (.refl e) rv⟩
    have e2 : xs = xs.take ds.length ++ [v] := by
      have hd : xs.drop ds.length = [v] := by
        rw [List.drop_eq_getElem_cons (by omega)]
        have : xs[ds.length]? = some xs[ds.length] := List.getElem?_eq_getElem (by omega)
        rw [this] at e1
        cases e1
        rw [List.drop_eq_nil_of_le (by omega)]
      rw [← hd, List.take_append_drop]
    rw [e2]
    exact atI_last _ _
theorem ed_ixT {i : Int} {j : Nat} (ha : ED ta Γ (.tup ds)) (hb : ED tb Γ (.int i)) (hi : i = (j : Int)) (hj : ds[j]? = some d) : ED (tOp (rIxT K) ta tb) Γ d := ed_op ha hb fun M H x y Q e rx ry q => by
  cases ry
  cases rx with
  | tup h r =>
    obtain ⟨v, e1, rv⟩ := r.get hj
    subst hi
    exact ⟨_, _, _, v, rfl, rfl, sqT (e _ _ h), atI_nat e1, q v M H (.refl e) rv⟩
theorem ed_ixS {z : Str} {i : Int} {j : Nat} {ch : Nat} (ha : ED ta Γ (.str z)) (hb : ED tb Γ (.int i)) (hi : i = (j : Int)) (hz : z.length ≤ 100000) (hj : z.cps.toList[j]? = some ch) : ED (tOp rIxS ta tb) Γ (.str ⟨#[ch]⟩) := ed_op ha hb fun M H x y Q e rx ry q => by
  cases ry
  cases rx
  subst hi
  exact ⟨z, _, ch, rfl, rfl, le100 hz, atI_nat hj, q _ M H (.refl e) (.str _)⟩
/-! len -/
abbrev rLen (K : PySem.W.Frag) : List V → Hp → VK → Prop := fun xs H Q => ∃ p ys, xs = [.ref p] ∧ (SqL K H p ys ∨ SqT K H p ys) ∧ Q (.int ys.length) H
abbrev rLenStr : List V → Hp → VK → Prop := fun xs H Q => ∃ z, xs = [.str z] ∧ z.length ≤ sizeLine ∧ Q (.int z.length) H
theorem ed_lenL (ha : ED ta Γ (.lst ds)) : ED (tCB (rLen K) (tCons ta tNil)) Γ (.int ds.length) := ed_cb (ea_cons ha ea_nil) fun M H xs Q e rx q => by
  cases rx with
  | cons r1 rn =>
    cases rn
    cases r1 with
    | lst h r =>
      refine ⟨_, _, rfl, .inl (sqL (e _ _ h)), ?_⟩
      rw [r.length]
      exact q _ M H (.refl e) (.int _)
theorem ed_lenT (ha : ED ta Γ (.tup ds)) : ED (tCB (rLen K) (tCons ta tNil)) Γ (.int ds.length) := ed_cb (ea_cons ha ea_nil) fun M H xs Q e rx q => by
  cases rx with
  | cons r1 rn =>
    cases rn
    cases r1 with
    | tup h r =>
      refine ⟨_, _, rfl, .inr (sqT (e _ _ h)), ?_⟩
      rw [r.length]
      exact q _ M H (.refl e) (.int _)
theorem ed_lenS {z : Str} (ha : ED ta Γ (.str z)) (hz : z.length ≤ 100000) : ED (tCB rLenStr (tCons ta tNil)) Γ (.int z.length) := ed_cb (ea_cons ha ea_nil) fun M H xs Q e rx q => by
  cases rx with
  | cons r1 rn =>
    cases rn
    cases r1
    exact ⟨z, rfl, le100 hz, q _ M H (.refl e) (.int _)⟩
/-! in -/
theorem inV_str (s : Str) : ∀ ss : List Str, inV (.str s) (ss.map V.str) = decide (s ∈ ss)
  | [] => by simp [inV]
  | x :: r => by
    have ih := inV_str s r
    unfold inV at ih ⊢
    rw [List.map_cons, List.any_cons, ih]
    show ((x == s) || decide (s ∈ r)) = decide (s ∈ x :: r)
    by_cases e : x = s
    · subst e
      simp
    · have e1 : (x == s) = false := beq_eq_false_iff_ne.mpr e
      rw [e1, Bool.false_or]
      simp [Ne.symm e]
theorem flat_strs (ss : List Str) : (ss.map V.str).all flatV = true := by
  rw [List.all_map]
  exact List.all_eq_true.mpr fun x _ => rfl
theorem ed_inL {s : Str} {ss : List Str} (ha : ED ta Γ (.str s)) (hb : ED tb Γ (.lst (ss.map .str))) : ED (tOp (rIn K false) ta tb) Γ (.bl (decide (s ∈ ss))) := ed_op ha hb fun M H x y Q e rx ry q => by
  cases rx
  cases ry with
  | lst h r =>
    have z := r.strs
    subst z
    refine ⟨_, _, rfl, .inl (sqL (e _ _ h)), rfl, flat_strs ss, ?_⟩
    rw [inV_str]
    exact q _ M H (.refl e) (.bl _)
theorem ed_notInL {s : Str} {ss : List Str} (ha : ED ta Γ (.str s)) (hb : ED tb Γ (.lst (ss.map .str))) : ED (tOp (rIn K true) ta tb) Γ (.bl (!decide (s ∈ ss))) := ed_op ha hb fun M H x y Q e rx ry q => by
  cases rx
  cases ry with
  | lst h r =>
    have z := r.strs
    subst z
    refine ⟨_, _, rfl, .inl (sqL (e _ _ h)), rfl, flat_strs ss, ?_⟩
    rw [inV_str]
    exact q _ M H (.refl e) (.bl _)
theorem ed_inT {s : Str} {ss : List Str} (ha : ED ta Γ (.str s)) (hb : ED tb Γ (.tup (ss.map .str))) : ED (tOp (rIn K false) ta tb) Γ (.bl (decide (s ∈ ss))) := ed_op ha hb fun M H x y Q e rx ry q => by
  cases rx
  cases ry with
  | tup h r =>
    have z := r.strs
    subst z
    refine ⟨_, _, rfl, .inr (sqT (e _ _ h)), rfl, flat_strs ss, ?_⟩
    rw [inV_str]
    exact q _ M H (.refl e) (.bl _)
abbrev rInSign : R2 := fun x y H Q => ∃ (c : Nat) (z : Str), x = .str ⟨#[c]⟩ ∧ y = .str z ∧ Q (.bl (decide (c ∈ z.cps.toList))) H
abbrev rNotInSign : R2 := fun x y H Q => ∃ (c : Nat) (z : Str), x = .str ⟨#[c]⟩ ∧ y = .str z ∧ Q (.bl (!decide (c ∈ z.cps.toList))) H
theorem ed_inSign {ch : Nat} {z : Str} (ha : ED ta Γ (.str ⟨#[ch]⟩)) (hb : ED tb Γ (.str z)) : ED (tOp rInSign ta tb) Γ (.bl (decide (ch ∈ z.cps.toList))) := ed_op ha hb fun M H x y Q e rx ry q => by
  cases rx
  cases ry
  exact ⟨ch, z, rfl, rfl, q _ M H (.refl e) (.bl _)⟩
theorem ed_notInSign {ch : Nat} {z : Str} (ha : ED ta Γ (.str ⟨#[ch]⟩)) (hb : ED tb Γ (.str z)) : ED (tOp rNotInSign ta tb) Γ (.bl (!decide (ch ∈ z.cps.toList))) := ed_op ha hb fun M H x y Q e rx ry q => by
  cases rx
  cases ry
  exact ⟨ch, z, rfl, rfl, q _ M H (.refl e) (.bl _)⟩
/-! texts -/
abbrev rAddS : R2 := fun x y H Q => ∃ i j, x = .str i ∧ y = .str j ∧ i.length + j.length ≤ sizeLine ∧ Q (.str (i ++ j)) H
theorem ed_addS {i j : Str} (ha : ED ta Γ (.str i)) (hb : ED tb Γ (.str j)) (hl : i.length + j.length ≤ 100000) : ED (tOp rAddS ta tb) Γ (.str (i ++ j)) := ed_op ha hb fun M H x y Q e rx ry q => by
  cases rx
  cases ry
  exact ⟨i, j, rfl, rfl, le100 hl, q _ M H (.refl e) (.str _)⟩
theorem ed_slS {z : Str} {lo hi : Option Int} {tl th : TO} (ha : ED ta Γ (.str z)) (hl : ∀ (σ : L2.St) (M H : Hp), Same M H → Slots M σ Γ → ∀ Q : Option Int → Hp → Prop, (∀ M' H', Grow M H M' H' → Q lo H') → tl σ H Q)
    (hh : ∀ (σ : L2.St) (M H : Hp), Same M H → Slots M σ Γ → ∀ Q : Option Int → Hp → Prop, (∀ M' H', Grow M H M' H' → Q hi H') → th σ H Q) (hz : z.length ≤ 100000) : ED (tSl rSlS ta tl th) Γ (.str (cutS z lo hi)) := fun σ M H e sl Q q =>
  ha σ M H e sl _ fun x M1 H1 g1 r1 => hl σ M1 H1 g1.s (sl.mono g1.m) _ fun M2 H2 g2 => hh σ M2 H2 g2.s (sl.mono (g1.m.trans g2.m)) _ fun M3 H3 g3 => by
    cases r1
    exact ⟨z, rfl, le100 hz, q _ M3 H3 ((g1.trans g2).trans g3) (.str _)⟩
/-- a part of a slice -/
def EO (to : TO) (Γ : Gm) (o : Option Int) : Prop := ∀ (σ : L2.St) (M H : Hp), Same M H → Slots M σ Γ → ∀ Q : Option Int → Hp → Prop, (∀ M' H', Grow M H M' H' → Q o H') → to σ H Q
theorem eo_none : EO tNoPart Γ none := fun σ M H e sl Q q => q M H (.refl e)
theorem eo_some {i : Int} (h : ED te Γ (.int i)) : EO (tPart te) Γ (some i) := fun σ M H e sl Q q => h σ M H e sl _ fun v M' H' g r => by
  cases r
  exact ⟨i, rfl, q M' H' g⟩
theorem ed_sliceS {z : Str} {lo hi : Option Int} {tl th : TO} (ha : ED ta Γ (.str z)) (hl : EO tl Γ lo) (hh : EO th Γ hi) (hz : z.length ≤ 100000) : ED (tSl rSlS ta tl th) Γ (.str (cutS z lo hi)) := ed_slS ha hl hh hz
def cutD (ds : List D) (lo hi : Option Int) : List D := (ds.drop (HT.sIx ds.length 0 lo)).take (HT.sIx ds.length ds.length hi - HT.sIx ds.length 0 lo)
theorem Reps.cut {H : Hp} {xs : List V} {ds : List D} (r : Reps H xs ds) (lo hi : Option Int) : Reps H (cutV xs lo hi) (cutD ds lo hi) := by
  unfold cutV cutD
  rw [r.length]
  exact (r.drop _).take _
theorem ed_sliceT {lo hi : Option Int} {tl th : TO} (ha : ED ta Γ (.tup ds)) (hl : EO tl Γ lo) (hh : EO th Γ hi) : ED (tSl (rSlA K) ta tl th) Γ (.tup (cutD ds lo hi)) := fun σ M H e sl Q q =>
  ha σ M H e sl _ fun x M1 H1 g1 r1 => hl σ M1 H1 g1.s (sl.mono g1.m) _ fun M2 H2 g2 => hh σ M2 H2 g2.s (sl.mono (g1.m.trans g2.m)) _ fun M3 H3 g3 => by
    cases r1 with
    | @tup p xs _ h r =>
      have h3 : M3 p = some (.tup xs) := g3.m _ _ (g2.m _ _ h)
      have r3 := r.mono (g2.m.trans g3.m)
      refine ⟨p, xs, rfl, sqT (g3.s _ _ h3), fun ⟨e1, e2⟩ => ?_, fun _ p2 hp2 => ?_⟩
      · refine q _ M3 H3 ((g1.trans g2).trans g3) (.tup h3 ?_)
        have e3 : cutD ds lo hi = ds := by
          unfold cutD
          rw [r.length] at e1 e2
          rw [e1, e2, List.drop_zero, Nat.sub_zero, List.take_length]
        rw [e3]
        exact r3
      · exact q _ _ _ (((g1.trans g2).trans g3).trans (.new g3.s hp2 _)) (.tup upd_same ((r3.cut lo hi).mono (same_new (g3.s.free hp2) _)))
theorem ef_sliceL {lo hi : Option Int} {tl th : TO} (ha : ED ta Γ (.lst ds)) (hl : EO tl Γ lo) (hh : EO th Γ hi) : EF (tSl (rSlL K) ta tl th) Γ (.lst (cutD ds lo hi)) := fun σ M H e sl Q q =>
  ha σ M H e sl _ fun x M1 H1 g1 r1 => hl σ M1 H1 g1.s (sl.mono g1.m) _ fun M2 H2 g2 => hh σ M2 H2 g2.s (sl.mono (g1.m.trans g2.m)) _ fun M3 H3 g3 => by
    cases r1 with
    | @lst p xs _ h r =>
      have h3 : M3 p = some (.lst xs) := g3.m _ _ (g2.m _ _ h)
      have r3 := r.mono (g2.m.trans g3.m)
      have g := (g1.trans g2).trans g3
      exact ⟨p, xs, rfl, sqL (g3.s _ _ h3), fun p2 hp2 => q p2 _ M3 _ (g.trans (.hid g3.s hp2 _)) (g.fresh hp2) (g3.s.free hp2) upd_same (.lst (r3.cut lo hi))⟩
/-! + of lists and tuples -/
theorem ef_cat (ha : ED ta Γ (.lst ds)) (hb : ED tb Γ (.lst es)) (hl : ds.length + es.length ≤ 100000) : EF (tOp rCat ta tb) Γ (.lst (ds ++ es)) := ef_op ha hb fun M H x y Q e rx ry q => by
  cases rx with
  | lst h r =>
    cases ry with
    | lst h' r' =>
      exact ⟨_, _, _, _, rfl, rfl, e _ _ h, e _ _ h', by rw [r.length, r'.length]; exact le100 hl, fun p hp => q p _ M _ (.hid e hp _) hp (e.free hp) upd_same (.lst (r.append r'))⟩
theorem ed_catT (ha : ED ta Γ (.tup ds)) (hb : ED tb Γ (.tup es)) (hl : ds.length + es.length ≤ 100000) : ED (tOp (rCatA K) ta tb) Γ (.tup (ds ++ es)) := ed_op ha hb fun M H x y Q e rx ry q => by
  cases rx with
  | @tup p xs _ h r =>
    cases ry with
    | @tup p' xs' _ h' r' =>
      refine ⟨_, _, _, _, rfl, rfl, sqT (e _ _ h), sqT (e _ _ h'), by rw [r.length, r'.length]; exact le100 hl, fun z => ?_, fun _ z => ?_, fun _ _ p hp => ?_⟩
      · subst z
        cases r
        exact q _ M H (.refl e) (.tup h' r')
      · subst z
        cases r'
        rw [List.append_nil] at q
        exact q _ M H (.refl e) (.tup h r)
      · exact q _ _ _ (.new e hp _) (.tup upd_same ((r.append r').mono (same_new (e.free hp) _)))
/-! list(..), tuple(..) -/
abbrev rListOf (K : PySem.W.Frag) : List V → Hp → VK → Prop := fun xs H Q => ∃ p ys, xs = [.ref p] ∧ (SqL K H p ys ∨ SqT K H p ys) ∧ ∀ l, H l = none → Q (.ref l) (upd H l (.lst ys))
abbrev rTupOf (K : PySem.W.Frag) : List V → Hp → VK → Prop := fun xs H Q => ∃ p ys, xs = [.ref p] ∧ ((SqL K H p ys ∧ ∀ l, H l = none → Q (.ref l) (upd H l (.tup ys))) ∨ (SqT K H p ys ∧ Q (.ref p) H))
theorem ef_listT (ha : ED ta Γ (.tup ds)) : EF (tCB (rListOf K) (tCons ta tNil)) Γ (.lst ds) := ef_cb (ea_cons ha ea_nil) fun M H xs Q e rx q => by
  cases rx with
  | cons r1 rn =>
    cases rn
    cases r1 with
    | tup h r => exact ⟨_, _, rfl, .inr (sqT (e _ _ h)), fun p hp => q p _ M _ (.hid e hp _) hp (e.free hp) upd_same (.lst r)⟩
theorem ef_listL (ha : ED ta Γ (.lst ds)) : EF (tCB (rListOf K) (tCons ta tNil)) Γ (.lst ds) := ef_cb (ea_cons ha ea_nil) fun M H xs Q e rx q => by
  cases rx with
  | cons r1 rn =>
    cases rn
    cases r1 with
    | lst h r => exact ⟨_, _, rfl, .inl (sqL (e _ _ h)), fun p hp => q p _ M _ (.hid e hp _) hp (e.free hp) upd_same (.lst r)⟩
theorem ed_tupL (ha : ED ta Γ (.lst ds)) : ED (tCB (rTupOf K) (tCons ta tNil)) Γ (.tup ds) := ed_cb (ea_cons ha ea_nil) fun M H xs Q e rx q => by
  cases rx with
  | cons r1 rn =>
    cases rn
    cases r1 with
    | lst h r => exact ⟨_, _, rfl, .inl ⟨sqL (e _ _ h), fun p hp => q _ _ _ (.new e hp _) (.tup upd_same (r.mono (same_new (e.free hp) _)))⟩⟩
theorem ef_listD {ks : List (Str × D)} (ha : ED ta Γ (.dct ks)) : EF (tCB rListD (tCons ta tNil)) Γ (.lst (ks.map fun e => .str e.1)) := ef_cb (ea_cons ha ea_nil) fun M H xs Q e rx q => by
  cases rx with
  | cons r1 rn =>
    cases rn
    cases r1 with
    | dct h r =>
      refine ⟨_, _, rfl, e _ _ h, fun p hp => ?_⟩
      rw [r.keys]
      refine q p _ M _ (.hid e hp _) hp (e.free hp) upd_same (.lst ?_)
      have z : ∀ ks : List (Str × D), Reps M (ks.map fun e => V.str e.1) (ks.map fun e => D.str e.1) := fun ks => by
        have := Reps.ofStrs (H := M) (ks.map (·.1))
        rw [List.map_map, List.map_map] at this
        exact this
      exact z ks
/-! sum, all, max, min -/
theorem ed_sum {ns : List Int} (ha : ED ta Γ (.lst (ns.map .int))) : ED (tCB (rSum K) (tCons ta tNil)) Γ (.int ns.sum) := ed_cb (ea_cons ha ea_nil) fun M H xs Q e rx q => by
  cases rx with
  | cons r1 rn =>
    cases rn
    cases r1 with
    | lst h r =>
      have z := r.ints
      subst z
      exact ⟨_, ns, rfl, sqL (e _ _ h), q _ M H (.refl e) (.int _)⟩
theorem ed_all {bs : List Bool} (ha : ED ta Γ (.lst (bs.map .bl))) : ED (tCB (rAll K) (tCons ta tNil)) Γ (.bl (bs.all id)) := ed_cb (ea_cons ha ea_nil) fun M H xs Q e rx q => by
  cases rx with
  | cons r1 rn =>
    cases rn
    cases r1 with
    | lst h r =>
      have z := r.bls
      subst z
      exact ⟨_, bs, rfl, sqL (e _ _ h), q _ M H (.refl e) (.bl _)⟩
/-- the greatest; 0 of none -/
def maxL (ns : List Int) : Int := ns.foldr max 0
theorem maxL_of : ∀ {ns : List Int} {m : Int}, m ∈ ns → (∀ y ∈ ns, y ≤ m) → (∀ y ∈ ns, 0 ≤ y) → maxL ns = m
  | [], m, h, _, _ => by simp at h
  | [x], m, h, h2, h3 => by
    have e : m = x := by simpa using h
    subst e
    have := h3 m h
    simp only [maxL, List.foldr_cons, List.foldr_nil]
    omega
  | x :: y :: r, m, h, h2, h3 => by
    have hx := h2 x (by simp)
    rcases List.mem_cons.mp h with e | h'
    · subst e
      have q : ∀ l : List Int, (∀ z ∈ l, z ≤ m) → 0 ≤ m → maxL l ≤ m := by
        intro l
        induction l with
        | nil => intro _ h; exact h
        | cons a l ih =>
          intro h hm
          have h1 := h a (by simp)
          have h2 := ih (fun z hz => h z (by simp [hz])) hm
          simp only [maxL, List.foldr_cons] at h2 ⊢
          omega
      have h4 := q (y :: r) (fun z hz => h2 z (by simp [hz])) (h3 m (by simp))
      show max m (maxL (y :: r)) = m
      omega
    · have ih := maxL_of (ns := y :: r) h' (fun z hz => h2 z (List.mem_cons_of_mem _ hz)) (fun z hz => h3 z (List.mem_cons_of_mem _ hz))
      show max x (maxL (y :: r)) = m
      rw [ih]
      omega
theorem ed_max {ns : List Int} (ha : ED ta Γ (.lst (ns.map .int))) (h0 : 0 < ns.length) (hp : ∀ y ∈ ns, 0 ≤ y) : ED (tCB (rMax K) (tCons ta tNil)) Γ (.int (maxL ns)) := ed_cb (ea_cons ha ea_nil) fun M H xs Q e rx q => by
  cases rx with
  | cons r1 rn =>
    cases rn
    cases r1 with
    | lst h r =>
      have z := r.ints
      subst z
      refine ⟨_, ns, rfl, sqL (e _ _ h), h0, fun m h1 h2 => ?_⟩
      rw [maxL_of h1 h2 hp] at q
      exact q _ M H (.refl e) (.int _)
abbrev rMin2 : List V → Hp → VK → Prop := fun xs H Q => ∃ i j, xs = [.int i, .int j] ∧ Q (.int (if j < i then j else i)) H
theorem ed_min2 {i j : Int} (ha : ED ta Γ (.int i)) (hb : ED tb Γ (.int j)) : ED (tCB rMin2 (tCons ta (tCons tb tNil))) Γ (.int (if j < i then j else i)) := ed_cb (ea_cons ha (ea_cons hb ea_nil)) fun M H xs Q e rx q => by
  cases rx with
  | cons r1 rn =>
    cases rn with
    | cons r2 rn =>
      cases rn
      cases r1
      cases r2
      exact ⟨i, j, rfl, q _ M H (.refl e) (.int _)⟩
/-! join, split -/
abbrev rJoin (K : PySem.W.Frag) : V → List V → Hp → VK → Prop := fun x xs H Q => ∃ a p, ∃ ys : List Str, x = .str a ∧ xs = [.ref p] ∧ (SqL K H p (ys.map V.str) ∨ SqT K H p (ys.map V.str)) ∧ (ys.map (·.length)).sum + ys.length * a.length ≤ 16777216 ∧ Q (.str (Txt.join a ys)) H
theorem ed_join {z : Str} {ss : List Str} (ha : ED ta Γ (.str z)) (hb : ED tb Γ (.lst (ss.map .str))) (hl : (ss.map (·.length)).sum + ss.length * z.length ≤ 16777216) : ED (tM1 (rJoin K) ta tb) Γ (.str (Txt.join z ss)) := fun σ M H e sl Q q =>
  ha σ M H e sl _ fun x M1 H1 g1 r1 => by
    cases r1
    refine ⟨⟨z, rfl⟩, hb σ M1 H1 g1.s (sl.mono g1.m) _ fun y M2 H2 g2 r2 => ?_⟩
    cases r2 with
    | lst h r =>
      have e1 := r.strs
      subst e1
      exact ⟨z, _, ss, rfl, rfl, .inl (sqL (g2.s _ _ h)), hl, q _ M2 H2 (g1.trans g2) (.str _)⟩
abbrev rSplit : V → List V → Hp → VK → Prop := fun x xs H Q => ∃ a b, x = .str a ∧ xs = [.str b] ∧ (b.length == 0) = false ∧ a.length + 2 ≤ sizeLine ∧ rNewStrs (Txt.split a b) H Q
theorem ef_split {z y : Str} (ha : ED ta Γ (.str z)) (hb : ED tb Γ (.str y)) (h0 : (y.length == 0) = false) (hl : z.length ≤ 100000) : EF (tM1 rSplit ta tb) Γ (.lst ((Txt.split z y).map .str)) := fun σ M H e sl Q q =>
  ha σ M H e sl _ fun x M1 H1 g1 r1 => by
    cases r1
    refine ⟨⟨z, rfl⟩, hb σ M1 H1 g1.s (sl.mono g1.m) _ fun y M2 H2 g2 r2 => ?_⟩
    cases r2
    refine ⟨z, _, rfl, rfl, h0, Nat.le_trans (Nat.add_le_add_right hl 2) (by decide), fun p hp => ?_⟩
    exact q p _ M2 _ ((g1.trans g2).trans (.hid g2.s hp _)) ((g1.trans g2).fresh hp) (g2.s.free hp) upd_same (.lst (Reps.ofStrs _))
abbrev rSIndex : V → List V → Hp → VK → Prop := fun x xs H Q => ∃ a b i rest, x = .str a ∧ xs = [.str b] ∧ Builtin.Str.occurrences a b 0 a.length 1 = i :: rest ∧ Q (.int (i : Nat)) H
theorem ed_sindex {z y : Str} {i : Nat} {rest : List Nat} (ha : ED ta Γ (.str z)) (hb : ED tb Γ (.str y)) (h0 : Builtin.Str.occurrences z y 0 z.length 1 = i :: rest) : ED (tM1 rSIndex ta tb) Γ (.int (i : Nat)) := fun σ M H e sl Q q =>
  ha σ M H e sl _ fun x M1 H1 g1 r1 => by
    cases r1
    refine ⟨⟨z, rfl⟩, hb σ M1 H1 g1.s (sl.mono g1.m) _ fun y M2 H2 g2 r2 => ?_⟩
    cases r2
    exact ⟨z, _, i, rest, rfl, rfl, h0, q _ M2 H2 (g1.trans g2) (.int _)⟩
/-! str(n), int(s) -/
abbrev rStrInt : List V → Hp → VK → Prop := fun xs H Q => ∃ i, xs = [.int i] ∧ i.natAbs.log2 < 1920 ∧ Q (.str (toString i)) H
theorem ed_strInt {i : Int} (ha : ED ta Γ (.int i)) (hi : i.natAbs.log2 < 1920) : ED (tCB rStrInt (tCons ta tNil)) Γ (.str (toString i)) := ed_cb (ea_cons ha ea_nil) fun M H xs Q e rx q => by
  cases rx with
  | cons r1 rn =>
    cases rn
    cases r1
    exact ⟨i, rfl, hi, q _ M H (.refl e) (.str _)⟩
abbrev rIntStr : List V → Hp → VK → Prop := fun xs H Q => ∃ a n, xs = [.str a] ∧ PySem.intText? a = some n ∧ a.length ≤ 640 ∧ Q (.int n) H
theorem ed_intStr {z : Str} {n : Int} (ha : ED ta Γ (.str z)) (h : PySem.intText? z = some n) (hl : z.length ≤ 640) : ED (tCB rIntStr (tCons ta tNil)) Γ (.int n) := ed_cb (ea_cons ha ea_nil) fun M H xs Q e rx q => by
  cases rx with
  | cons r1 rn =>
    cases rn
    cases r1
    exact ⟨z, n, rfl, h, hl, q _ M H (.refl e) (.int _)⟩
/-! sorted -/
theorem ef_sortedS {ss ts : List Str} (ha : ED ta Γ (.lst (ss.map .str))) (hl : ss.length < 64) (hu : ∀ ys : List Str, ys.Perm ss → PyProof.Rows.sortedS ys = true → ys = ts) : EF (tCB (rSortedS K) (tCons ta tNil)) Γ (.lst (ts.map .str)) := ef_cb (ea_cons ha ea_nil) fun M H xs Q e rx q => by
  cases rx with
  | cons r1 rn =>
    cases rn
    cases r1 with
    | lst h r =>
      have z := r.strs
      subst z
      refine ⟨_, ss, rfl, sqL (e _ _ h), hl, fun ys p h1 h2 hp => ?_⟩
      rw [hu ys h1 h2]
      exact q p _ M _ (.hid e hp _) hp (e.free hp) upd_same (.lst (Reps.ofStrs _))
/-! isinstance(x, str) -/
theorem ed_isStr {s : Str} (ha : ED ta Γ (.str s)) : ED (tCB (rIsi K) (tCons ta (tCons (tC (.ty "str")) tNil))) Γ (.bl true) := ed_cb (ea_cons ha (ea_cons ed_copq ea_nil)) fun M H xs Q e rx q => by
  cases rx with
  | cons r1 rn =>
    cases rn with
    | cons r2 rn =>
      cases rn
      cases r1
      cases r2
      exact ⟨_, _, _, _, true, rfl, .ty "str", .base (.str s), kit_ty (by decide +kernel), q _ M H (.refl e) (.bl _)⟩
theorem ed_isTup (ha : ED ta Γ (.tup ds)) : ED (tCB (rIsi K) (tCons ta (tCons (tC (.ty "str")) tNil))) Γ (.bl false) := ed_cb (ea_cons ha (ea_cons ed_copq ea_nil)) fun M H xs Q e rx q => by
  cases rx with
  | cons r1 rn =>
    cases rn with
    | cons r2 rn =>
      cases rn
      cases r2
      cases r1 with
      | tup h r => exact ⟨_, _, _, _, false, rfl, .ty "str", .base (.tup (e _ _ h)), kit_ty (by decide +kernel), q _ M H (.refl e) (.bl _)⟩
/-! dicts -/
theorem ed_dinB {s : Str} {ks : List (Str × D)} (ha : ED ta Γ (.str s)) (hb : ED tb Γ (.dct ks)) : ED (tDIn ta tb) Γ (.bl (hasK ks s)) := fun σ M H e sl Q q =>
  ha σ M H e sl _ fun x M1 H1 g1 r1 => hb σ M1 H1 g1.s (sl.mono g1.m) _ fun y M2 H2 g2 r2 => by
    cases r1
    cases r2 with
    | dct h r =>
      refine ⟨_, _, rfl, DGet.k (k := Sum.inr s) (g2.s _ _ h), ?_⟩
      rw [(r.getNone (s := s)).1]
      exact q _ M2 H2 (g1.trans g2) (.bl _)
theorem ed_dnotinB {s : Str} {ks : List (Str × D)} (ha : ED ta Γ (.str s)) (hb : ED tb Γ (.dct ks)) : ED (tDNotIn ta tb) Γ (.bl (!hasK ks s)) := fun σ M H e sl Q q =>
  ha σ M H e sl _ fun x M1 H1 g1 r1 => hb σ M1 H1 g1.s (sl.mono g1.m) _ fun y M2 H2 g2 r2 => by
    cases r1
    cases r2 with
    | dct h r =>
      refine ⟨_, _, rfl, DGet.k (k := Sum.inr s) (g2.s _ _ h), ?_⟩
      rw [(r.getNone (s := s)).1]
      exact q _ M2 H2 (g1.trans g2) (.bl _)
theorem ed_dget {s : Str} {ks : List (Str × D)} (hb : ED tb Γ (.dct ks)) (ha : ED ta Γ (.str s)) (hd : getK ks s = some d) : ED (tDGet tb ta) Γ d := fun σ M H e sl Q q =>
  hb σ M H e sl _ fun y M1 H1 g1 r1 => ha σ M1 H1 g1.s (sl.mono g1.m) _ fun x M2 H2 g2 r2 => by
    cases r2
    cases r1 with
    | dct h r =>
      obtain ⟨v, e1, rv⟩ := (r.getNone (s := s)).2 d hd
      refine ⟨_, v, rfl, ?_, q v M2 H2 (g1.trans g2) (rv.mono g2.m)⟩
      rw [← e1]
      exact DGet.k (k := Sum.inr s) (g2.s _ _ (g2.m _ _ h))
theorem ed_dget1 {s : Str} {ks : List (Str × D)} (hb : ED tb Γ (.dct ks)) (ha : ED ta Γ (.str s)) : ED (tDGet1 tb ta) Γ ((getK ks s).getD .non) := fun σ M H e sl Q q =>
  hb σ M H e sl _ fun y M1 H1 g1 r1 => by
    cases r1 with
    | @dct p kvs _ h r =>
      refine ⟨p, rfl, .inl ⟨kvs, .inl (g1.s _ _ h)⟩, ha σ M1 H1 g1.s (sl.mono g1.m) _ fun x M2 H2 g2 r2 => ?_⟩
      cases r2
      obtain ⟨i1, i2⟩ := r.getNone (s := s)
      refine ⟨_, DGet.k (k := Sum.inr s) (g2.s _ _ (g2.m _ _ h)), ?_⟩
      cases hg : getK ks s with
      | none =>
        rw [hg] at i1
        cases hv : valV kvs (Sum.inr s) with
        | none => exact q _ M2 H2 (g1.trans g2) (by rw [hg]; exact .non)
        | some v => rw [hv] at i1; cases i1
      | some d =>
        obtain ⟨v, e1, rv⟩ := i2 d hg
        rw [e1]
        exact q _ M2 H2 (g1.trans g2) (by rw [hg]; exact rv.mono g2.m)
theorem ed_dget2 {s : Str} {ks : List (Str × D)} {d0 : D} (hb : ED tb Γ (.dct ks)) (ha : ED ta Γ (.str s)) (hc : ED tc Γ d0) : ED (tDGet2 tb ta tc) Γ ((getK ks s).getD d0) := fun σ M H e sl Q q =>
  hb σ M H e sl _ fun y M1 H1 g1 r1 => by
    cases r1 with
    | @dct p kvs _ h r =>
      refine ⟨p, rfl, .inl ⟨kvs, .inl (g1.s _ _ h)⟩, ha σ M1 H1 g1.s (sl.mono g1.m) _ fun x M2 H2 g2 r2 => hc σ M2 H2 g2.s (sl.mono (g1.m.trans g2.m)) _ fun z M3 H3 g3 r3 => ?_⟩
      cases r2
      obtain ⟨i1, i2⟩ := r.getNone (s := s)
      refine ⟨_, DGet.k (k := Sum.inr s) (g3.s _ _ (g3.m _ _ (g2.m _ _ h))), ?_⟩
      cases hg : getK ks s with
      | none =>
        rw [hg] at i1
        cases hv : valV kvs (Sum.inr s) with
        | none => exact q _ M3 H3 ((g1.trans g2).trans g3) (by rw [hg]; exact r3)
        | some v => rw [hv] at i1; cases i1
      | some d =>
        obtain ⟨v, e1, rv⟩ := i2 d hg
        rw [e1]
        exact q _ M3 H3 ((g1.trans g2).trans g3) (by rw [hg]; exact rv.mono (g2.m.trans g3.m))
end

/-! ### == of data -/
mutual
def py : D → PyData
  | .non => .none
  | .bl b => .bool b
  | .int i => .int i
  | .str s => .str s
  | .tup l => .tuple (pys l)
  | .lst l => .list (pys l)
  | _ => .none
def pys : List D → List PyData
  | [] => []
  | d :: l => py d :: pys l
end
mutual
/-- no dict in it, not deeper than n -/
def plain : Nat → D → Bool
  | 0, .tup _ => false
  | 0, .lst _ => false
  | n + 1, .tup l => plains n l
  | n + 1, .lst l => plains n l
  | _, .opq _ => false
  | _, .dct _ => false
  | _, .fz _ => false
  | _, .str s => PyData.strOk s
  | _, _ => true
def plains : Nat → List D → Bool
  | _, [] => true
  | n, d :: l => plain n d && plains n l
end
mutual
theorem Rep.dp {K : PySem.W.Frag} {M H : Hp} (e : Same M H) : ∀ {v : V} {d : D}, Rep M v d → ∀ n, plain n d = true → Dp K H v (py d)
  | _, _, .non, n, _ => by simpa [py] using Dp.non
  | _, _, .bl b, n, _ => by simpa [py] using Dp.bl b
  | _, _, .int i, n, _ => by simpa [py] using Dp.int i
  | _, _, .str s, n, _ => by simpa [py] using Dp.str s
  | _, _, .opq v, n, h => by cases n <;> simp [plain] at h
  | _, _, .tup a r, n, h => by
    cases n with
    | zero => simp [plain] at h
    | succ n =>
      rw [py]
      exact .tup (sqT (e _ _ a)) (Reps.dp e r n (by simpa [plain] using h))
  | _, _, .lst a r, n, h => by
    cases n with
    | zero => simp [plain] at h
    | succ n =>
      rw [py]
      exact .lst (sqL (e _ _ a)) (Reps.dp e r n (by simpa [plain] using h))
  | _, _, .dct _ _, n, h => by cases n <;> simp [plain] at h
  | _, _, .fz _, n, h => by cases n <;> simp [plain] at h
theorem Reps.dp {K : PySem.W.Frag} {M H : Hp} (e : Same M H) : ∀ {vs : List V} {ds : List D}, Reps M vs ds → ∀ n, plains n ds = true → DpAll K H vs (pys ds)
  | _, _, .nil, n, _ => by rw [pys]; exact .nil
  | _, _, .cons h1 r, n, h => by
    rw [pys]
    simp only [plains, Bool.and_eq_true] at h
    exact .cons (Rep.dp e h1 n h.1) (Reps.dp e r n h.2)
end
mutual
theorem py_lay : ∀ d : D, ∀ n, plain n d = true → (py d).canLay0 = true ∧ (py d).depth ≤ n + 1
  | .non, n, _ => by simp [py, PyData.canLay0, PyData.depth]
  | .bl _, n, _ => by simp [py, PyData.canLay0, PyData.depth]
  | .int _, n, _ => by simp [py, PyData.canLay0, PyData.depth]
  | .str _, n, h => by cases n <;> simpa [py, PyData.canLay0, PyData.depth, plain] using h
  | .opq _, n, h => by cases n <;> simp [plain] at h
  | .dct _, n, h => by cases n <;> simp [plain] at h
  | .fz _, n, h => by cases n <;> simp [plain] at h
  | .tup l, 0, h => by simp [plain] at h
  | .lst l, 0, h => by simp [plain] at h
  | .tup l, n + 1, h => by
    have ih := pys_lay l n (by simpa [plain] using h)
    simp only [py, PyData.canLay0, PyData.depth]
    exact ⟨ih.1, by omega⟩
  | .lst l, n + 1, h => by
    have ih := pys_lay l n (by simpa [plain] using h)
    simp only [py, PyData.canLay0, PyData.depth]
    exact ⟨ih.1, by omega⟩
theorem pys_lay : ∀ l : List D, ∀ n, plains n l = true → PyData.canLayAll0 (pys l) = true ∧ PyData.depthAll (pys l) ≤ n + 1
  | [], n, _ => by simp [pys, PyData.canLayAll0, PyData.depthAll]
  | d :: l, n, h => by
    simp only [plains, Bool.and_eq_true] at h
    have h1 := py_lay d n h.1
    have h2 := pys_lay l n h.2
    simp only [pys, PyData.canLayAll0, PyData.depthAll, Bool.and_eq_true]
    exact ⟨⟨h1.1, h2.1⟩, by omega⟩
end
theorem py_shaped {d : D} {n : Nat} (h : plain n d = true) (hn : n ≤ 63) : SeqAt.shaped (py d) = true := by
  have q := py_lay d n h
  unfold SeqAt.shaped
  rw [q.1, Bool.true_and]
  exact decide_eq_true (by omega)
section
variable {Γ : Gm} {ta tb tc te : TE} {a b c d : D} {K : PySem.W.Frag} {ds es : List D}
theorem ed_eqD {n : Nat} (ha : ED ta Γ a) (hb : ED tb Γ b) (e : a = b) (h : plain n a = true) (hn : n ≤ 63) : ED (tOp (rEqD K) ta tb) Γ (.bl true) := by
  subst e
  refine ed_op ha hb fun M H x y Q e rx ry q => ⟨py a, py a, rx.dp e n h, ry.dp e n h, py_shaped h hn, py_shaped h hn, ?_⟩
  rw [SeqAt.eqv_refl _ (py_lay a n h).1]
  exact q _ M H (.refl e) (.bl _)
theorem ed_neD {n : Nat} (ha : ED ta Γ a) (hb : ED tb Γ b) (e : a = b) (h : plain n a = true) (hn : n ≤ 63) : ED (tOp (rNeD K) ta tb) Γ (.bl false) := by
  subst e
  refine ed_op ha hb fun M H x y Q e rx ry q => ⟨py a, py a, rx.dp e n h, ry.dp e n h, py_shaped h hn, py_shaped h hn, ?_⟩
  rw [SeqAt.eqv_refl _ (py_lay a n h).1]
  exact q _ M H (.refl e) (.bl _)
/-- l != [] -/
theorem ed_neNil {n : Nat} (ha : ED ta Γ (.lst ds)) (hb : ED tb Γ (.lst [])) (h : plain n (.lst ds) = true) (hn : n ≤ 63) : ED (tOp (rNeD K) ta tb) Γ (.bl (!ds.isEmpty)) := ed_op ha hb fun M H x y Q e rx ry q => by
  refine ⟨py (.lst ds), py (.lst []), rx.dp e n h, ry.dp e 1 rfl, py_shaped h hn, py_shaped (n := 1) rfl (by decide), ?_⟩
  have z : PyData.eqv (py (.lst ds)) (py (.lst [])) = ds.isEmpty := by
    cases ds with
    | nil => simp [py, pys, PyData.eqv, PyData.eqvAll]
    | cons d l => simp [py, pys, PyData.eqv, PyData.eqvAll]
  rw [z]
  exact q _ M H (.refl e) (.bl _)
/-- a scalar and the same -/
def scalD : D → Bool
  | .non => true | .bl _ => true | .int _ => true | .str _ => true | _ => false
theorem ed_neSame (ha : ED ta Γ a) (hb : ED tb Γ b) (e : a = b) (h : scalD a = true) : ED (tOp rNe ta tb) Γ (.bl false) := by
  subst e
  refine ed_op ha hb fun M H x y Q e rx ry q => ?_
  have z : x = y ∧ scal x y = true := by
    cases rx <;> first
      | (cases ry; exact ⟨rfl, rfl⟩)
      | (simp [scalD] at h)
  obtain ⟨rfl, z⟩ := z
  refine ⟨z, ?_⟩
  rw [decide_eq_true rfl]
  exact q _ M H (.refl e) (.bl _)
end

/-! ### what is walked -/
section
variable {Γ : Gm} {ta tb tc te : TE} {a b c d : D} {K : PySem.W.Frag} {ds es : List D}
theorem ei_list (h : ED te Γ (.lst ds)) : EI (iList K te) Γ ds := fun σ M H e sl R q => h σ M H e sl _ fun v M1 H1 g r => by
  cases r with
  | @lst p xs _ hp r =>
    refine ⟨p, rfl, ⟨xs, sqL (g.s _ _ hp)⟩, q _ M1 H1 g ⟨fun i M2 H2 hi e1 e2 => ?_, fun M2 H2 e1 e2 => ?_, fun i M2 H2 x H3 hi e1 e2 y => ?_⟩⟩
    · exact ⟨xs, xs[i]'(by rw [r.length]; exact hi), sqL (e2 _ _ (e1 _ _ hp)), by simp [r.length, hi]⟩
    · exact ⟨xs, sqL (e2 _ _ (e1 _ _ hp)), Nat.le_of_eq r.length⟩
    · obtain ⟨rfl, y2⟩ := y
      have hx := y2 xs (sqL (e2 _ _ (e1 _ _ hp)))
      obtain ⟨d, hd, rd⟩ := r.getV hx
      exact ⟨M2, d, hd, .refl e2, rd.mono e1⟩
theorem ei_tup (h : ED te Γ (.tup ds)) : EI (iTup K te) Γ ds := fun σ M H e sl R q => h σ M H e sl _ fun v M1 H1 g r => by
  cases r with
  | @tup p xs _ hp r =>
    refine ⟨p, rfl, ⟨xs, sqT (g.s _ _ hp)⟩, q _ M1 H1 g ⟨fun i M2 H2 hi e1 e2 => ?_, fun M2 H2 e1 e2 => ?_, fun i M2 H2 x H3 hi e1 e2 y => ?_⟩⟩
    · exact ⟨xs, xs[i]'(by rw [r.length]; exact hi), sqT (e2 _ _ (e1 _ _ hp)), by simp [r.length, hi]⟩
    · exact ⟨xs, sqT (e2 _ _ (e1 _ _ hp)), Nat.le_of_eq r.length⟩
    · obtain ⟨rfl, y2⟩ := y
      have hx := y2 xs (sqT (e2 _ _ (e1 _ _ hp)))
      obtain ⟨d, hd, rd⟩ := r.getV hx
      exact ⟨M2, d, hd, .refl e2, rd.mono e1⟩
theorem ei_revT (h : ED te Γ (.tup ds)) : EI (RT.iRevA K te) Γ ds.reverse := fun σ M H e sl R q => h σ M H e sl _ fun v M1 H1 g r => by
  cases r with
  | @tup p xs _ hp r =>
    have hl := r.length
    refine ⟨p, xs, rfl, .inr ⟨sqT (g.s _ _ hp), q _ M1 H1 g ⟨fun i M2 H2 hi e1 e2 => ?_, fun M2 H2 e1 e2 => ?_, fun i M2 H2 x H3 hi e1 e2 y => ?_⟩⟩⟩
    · rw [List.length_reverse] at hi
      exact ⟨by omega, xs, xs[xs.length - 1 - i]'(by omega), sqT (e2 _ _ (e1 _ _ hp)), by simp [show xs.length - 1 - i < xs.length by omega]⟩
    · show xs.length ≤ ds.reverse.length
      rw [List.length_reverse]
      omega
    · obtain ⟨rfl, y2⟩ := y
      rw [List.length_reverse] at hi
      have hx := y2 xs (sqT (e2 _ _ (e1 _ _ hp)))
      obtain ⟨d, hd, rd⟩ := r.getV hx
      refine ⟨M2, d, ?_, .refl e2, rd.mono e1⟩
      rw [List.getElem?_reverse hi, ← hl]
      exact hd
theorem ei_range {n : Nat} (h : ED te Γ (.int (n : Int))) (hn : n ≤ 100000) : EI (iRng1 (tCons te tNil)) Γ ((List.range n).map fun (i : Nat) => D.int ((i : Nat) : Int)) := fun σ M H e sl R q => h σ M H e sl _ fun v M1 H1 g r => by
  cases r
  refine ⟨(n : Int), rfl, by omega, by omega, q _ M1 H1 g ⟨fun i M2 H2 hi e1 e2 => ?_, fun M2 H2 e1 e2 => ?_, fun i M2 H2 x H3 hi e1 e2 y => ?_⟩⟩
  · show i < (n : Int).toNat
    simpa using hi
  · show (n : Int).toNat ≤ _
    simp
  · obtain ⟨rfl, rfl⟩ := y
    have hi' : i < n := by simpa using hi
    refine ⟨M2, .int (i : Int), ?_, .refl e2, ?_⟩
    · rw [List.getElem?_map, List.getElem?_range hi']
      rfl
    · rw [Int.zero_add]
      exact .int _
theorem ei_str {z : Str} (h : ED te Γ (.str z)) : EI (iStr te) Γ (z.cps.toList.map fun c => .str ⟨#[c]⟩) := fun σ M H e sl R q => h σ M H e sl _ fun v M1 H1 g r => by
  cases r
  refine ⟨z, rfl, q _ M1 H1 g ⟨fun i M2 H2 hi e1 e2 => ?_, fun M2 H2 e1 e2 => ?_, fun i M2 H2 x H3 hi e1 e2 y => ?_⟩⟩
  · show i < z.cps.size
    simpa using hi
  · show z.cps.size ≤ _
    simp
  · obtain ⟨rfl, ch, hc, rfl⟩ := y
    refine ⟨M2, .str ⟨#[ch]⟩, ?_, .refl e2, .str _⟩
    rw [List.getElem?_map, Array.getElem?_toList, hc]
    rfl
/-- (0, a), (1, b), .. -/
def enumD (n : Nat) : List D → List D
  | [] => []
  | d :: l => .tup [.int (n : Int), d] :: enumD (n + 1) l
theorem enumD_len : ∀ (n : Nat) (l : List D), (enumD n l).length = l.length
  | _, [] => rfl
  | n, d :: l => by rw [enumD, List.length_cons, List.length_cons, enumD_len]
theorem enumD_get : ∀ (n : Nat) (l : List D) (i : Nat) (d : D), l[i]? = some d → (enumD n l)[i]? = some (.tup [.int ((n + i : Nat) : Int), d])
  | _, [], i, d, h => by simp at h
  | n, x :: l, 0, d, h => by
    simp at h
    subst h
    simp [enumD]
  | n, x :: l, i + 1, d, h => by
    have q := enumD_get (n + 1) l i d (by simpa using h)
    rw [enumD, List.getElem?_cons_succ, q, show n + 1 + i = n + (i + 1) by omega]
theorem ei_enumL (h : ED te Γ (.lst ds)) : EI (iEnum K (tCons te tNil)) Γ (enumD 0 ds) := fun σ M H e sl R q => h σ M H e sl _ fun v M1 H1 g r => by
  cases r with
  | @lst p xs _ hp r =>
    refine ⟨p, xs, rfl, sqL (g.s _ _ hp), q _ M1 H1 g ⟨fun i M2 H2 hi e1 e2 => ?_, fun M2 H2 e1 e2 => ?_, fun i M2 H2 x H3 hi e1 e2 y => ?_⟩⟩
    · rw [enumD_len] at hi
      exact ⟨xs, xs[i]'(by rw [r.length]; exact hi), sqL (e2 _ _ (e1 _ _ hp)), by simp [r.length, hi]⟩
    · rw [enumD_len]
      exact ⟨xs, sqL (e2 _ _ (e1 _ _ hp)), Nat.le_of_eq r.length⟩
    · obtain ⟨T, x', rfl, hT, rfl, y2⟩ := y
      have hx := y2 xs (sqL (e2 _ _ (e1 _ _ hp)))
      obtain ⟨d, hd, rd⟩ := r.getV hx
      refine ⟨_, _, enumD_get 0 ds i d hd, .new e2 hT _, ?_⟩
      rw [Nat.zero_add]
      exact .tup upd_same (.cons (.int _) (.one ((rd.mono e1).mono (same_new (e2.free hT) _))))
end

/-! ### comprehensions -/
def wipeG (Γ : Gm) : List Nat → Gm
  | [] => Γ
  | v :: vs => (wipeG Γ vs).set v none
theorem wipeG_len (Γ : Gm) : ∀ vs, (wipeG Γ vs).length = Γ.length
  | [] => rfl
  | v :: vs => by rw [wipeG, List.length_set, wipeG_len Γ vs]
theorem Slots.wipe {M : Hp} {σ : L2.St} {Γ : Gm} (h : Slots M σ Γ) : ∀ vs : List Nat, Slots M (L2.wipe σ vs) (wipeG Γ vs)
  | [] => h
  | v :: vs => ⟨by rw [L2.wipe_length, wipeG_len]; exact h.len, fun i d e => by
    have ih := Slots.wipe h vs
    unfold wipeG at e
    unfold L2.wipe
    by_cases hi : v = i
    · subst hi
      by_cases hl : v < (wipeG Γ vs).length
      · rw [List.getElem?_set_self hl] at e
        cases e
      · rw [List.getElem?_eq_none (by rw [List.length_set]; omega)] at e
        cases e
    · rw [List.getElem?_set_ne hi] at e ⊢
      exact ih.at_ i d e⟩
theorem wipe_set_mem {τ : L2.St} {j : Nat} {x : Option V} : ∀ {vs : List Nat}, j ∈ vs → L2.wipe (τ.set j x) vs = L2.wipe τ vs
  | [], h => by simp at h
  | v :: vs, h => by
    unfold L2.wipe
    by_cases hj : j ∈ vs
    · rw [wipe_set_mem hj]
    · have e : j = v := by
        rcases List.mem_cons.mp h with e | e
        · exact e
        · exact absurd e hj
      subst e
      have com : ∀ (ws : List Nat), j ∉ ws → (L2.wipe (τ.set j x) ws) = (L2.wipe τ ws).set j x := by
        intro ws
        induction ws with
        | nil => intro _; rfl
        | cons w ws ih =>
          intro hw
          have h1 : j ≠ w := fun z => hw (by simp [z])
          unfold L2.wipe
          rw [ih (fun z => hw (List.mem_cons_of_mem _ z)), List.set_comm _ _ h1]
      rw [com vs hj, List.set_set]
theorem wipe_wipe {σ : L2.St} : ∀ (vs ws : List Nat), (∀ v ∈ vs, v ∈ ws) → L2.wipe (L2.wipe σ vs) ws = L2.wipe σ ws
  | [], ws, _ => rfl
  | v :: vs, ws, h => by
    show L2.wipe ((L2.wipe σ vs).set v none) ws = _
    rw [wipe_set_mem (h v (by simp)), wipe_wipe vs ws fun u hu => h u (by simp [hu])]
/-- a comprehension's target -/
def TgS (g : TG) (d : D) (vs : List Nat) (Γ Γ' : Gm) : Prop := ∀ (σ : L2.St) (M H : Hp) (v : V), Same M H → Slots M σ Γ → Rep M v d → ∀ Q : L2.St → Hp → Prop, (∀ σ', Slots M σ' Γ' → L2.wipe σ' vs = L2.wipe σ vs → Q σ' H) → g v σ H Q
theorem Slots.set {M : Hp} {σ : L2.St} {Γ : Gm} (h : Slots M σ Γ) {j : Nat} {v : V} {d : D} (r : Rep M v d) : Slots M (σ.set j (some v)) (Γ.set j (some d)) := ⟨by rw [List.length_set, List.length_set]; exact h.len, fun i e q => by
  by_cases hi : j = i
  · subst hi
    by_cases hj : j < Γ.length
    · rw [List.getElem?_set_self hj] at q
      cases q
      exact ⟨v, List.getElem?_set_self (by rw [h.len]; exact hj), r⟩
    · rw [List.getElem?_eq_none (by rw [List.length_set]; omega)] at q
      cases q
  · rw [List.getElem?_set_ne hi] at q ⊢
    exact h.at_ i e q⟩
section
variable {Γ Γ' : Gm} {K : PySem.W.Frag} {d d1 d2 d3 : D} {vs : List Nat}
theorem ts_name {j : Nat} (hj : j ∈ vs) : TgS (gName j) d vs Γ (Γ.set j (some d)) := fun σ M H v e sl r Q q => q _ (sl.set r) (wipe_set_mem hj)
theorem ts_tup2 {i j : Nat} (hi : i ∈ vs) (hj : j ∈ vs) : TgS (gTup K 2 (gCons (gName i) (gCons (gName j) gNil))) (.tup [d1, d2]) vs Γ ((Γ.set i (some d1)).set j (some d2)) := fun σ M H v e sl r Q q => by
  cases r with
  | tup h r =>
    cases r with
    | cons r1 r =>
      cases r with
      | cons r2 r =>
        cases r
        refine ⟨_, _, rfl, sqT (e _ _ h), rfl, _, _, rfl, _, _, rfl, rfl, q _ ((sl.set r1).set r2) ?_⟩
        rw [wipe_set_mem hj, wipe_set_mem hi]
theorem ts_tup3 {i j k : Nat} (hi : i ∈ vs) (hj : j ∈ vs) (hk : k ∈ vs) : TgS (gTup K 3 (gCons (gName i) (gCons (gName j) (gCons (gName k) gNil)))) (.tup [d1, d2, d3]) vs Γ (((Γ.set i (some d1)).set j (some d2)).set k (some d3)) := fun σ M H v e sl r Q q => by
  cases r with
  | tup h r =>
    cases r with
    | cons r1 r =>
      cases r with
      | cons r2 r =>
        cases r with
        | cons r3 r =>
          cases r
          refine ⟨_, _, rfl, sqT (e _ _ h), rfl, _, _, rfl, _, _, rfl, _, _, rfl, rfl, q _ (((sl.set r1).set r2).set r3) ?_⟩
          rw [wipe_set_mem hk, wipe_set_mem hj, wipe_set_mem hi]
/-- [te for g in wi if tt] -/
theorem ef_lc {α : Type} {wi : TI} {g : TG} {tt : TT} {te : TE} (as : List α) (enc : α → D) (f : α → Bool) (el : α → D) (hI : EI wi Γ (as.map enc)) (hl : as.length ≤ 100000)
    (ht : ∀ a, a ∈ as → ∃ Γ', TgS g (enc a) vs (wipeG Γ vs) Γ' ∧ ET tt Γ' (f a) ∧ (f a = true → ED te Γ' (el a))) : EF (tLc wi g tt te vs) Γ (.lst ((as.filter f).map el)) := fun σ M H e sl Q q =>
  hI σ M H e sl _ fun J M1 H1 g1 wk DD hDD => by
    have sl1 : Slots M1 (L2.wipe σ vs) (wipeG Γ vs) := (sl.mono g1.m).wipe vs
    refine ⟨fun i m H' => m = as.length - i ∧ i ≤ as.length ∧ ∃ M' ys, Same M1 M' ∧ Same H1 H' ∧ Same M' H' ∧ M' DD = none ∧ (∀ b, H1 b ≠ none → M1 b = none → M' b = none) ∧ H' DD = some (.lst ys) ∧ Reps M' ys (((as.take i).filter f).map el),
      ⟨as.length, by simp, Nat.zero_le _, M1, [], .refl _, same_new hDD _, g1.s.trans (same_new hDD _), g1.s.free hDD, fun _ _ h => h, upd_same, by simpa using Reps.nil⟩, ?_⟩
    rintro i m H' ⟨rfl, hi, M', ys, s1, s2, s3, hd, hn, hy, ry⟩
    by_cases hlt : i < as.length
    · have hl' : i < (as.map enc).length := by rw [List.length_map]; exact hlt
      refine .inr ⟨wk.go i M' H' hl' s1 s3, fun H2 => i + 1 ≤ as.length ∧ ∃ M' ys, Same M1 M' ∧ Same H1 H2 ∧ Same M' H2 ∧ M' DD = none ∧ (∀ b, H1 b ≠ none → M1 b = none → M' b = none) ∧ H2 DD = some (.lst ys) ∧ Reps M' ys (((as.take (i + 1)).filter f).map el),
        fun H2 ⟨h1, h2⟩ => ⟨as.length - (i + 1), by omega, rfl, h1, h2⟩, fun x H2 y => ?_⟩
      obtain ⟨M2, d, ed, g2, rd⟩ := wk.yld i M' H' x H2 hl' s1 s3 y
      have ha : as[i]? = some as[i] := List.getElem?_eq_getElem hlt
      rw [List.getElem?_map, ha] at ed
      cases ed
      obtain ⟨Γ', tg, et, ee⟩ := ht as[i] (List.getElem_mem hlt)
      have take1 : as.take (i + 1) = as.take i ++ [as[i]] := by rw [List.take_add_one, ha]; rfl
      have none_ : ∀ {M3 H3 : Hp}, Grow M' H' M3 H3 → M3 DD = none := fun g3 => g3.n DD (by rw [hy]; simp) hd
      have nn : ∀ {M3 H3 : Hp}, Grow M' H' M3 H3 → ∀ b, H1 b ≠ none → M1 b = none → M3 b = none := fun g3 b h1 h2 => g3.n b (fun z => h1 (s2.free z)) (hn b h1 h2)
      refine tg (L2.wipe σ vs) M2 H2 x g2.s (sl1.mono (s1.trans g2.m)) rd _ fun σ2 sl2 hw => ⟨?_, ?_⟩
      · rw [hw, wipe_wipe vs vs fun _ h => h]
      · refine et σ2 M2 H2 g2.s sl2 _ fun M3 H3 g3 => ?_
        have g23 := g2.trans g3
        cases hf : f as[i] with
        | false =>
          show i + 1 ≤ as.length ∧ _
          refine ⟨hlt, M3, ys, s1.trans g23.m, s2.trans g23.h, g23.s, none_ g23, nn g23, g23.h _ _ hy, ?_⟩
          rw [take1, List.filter_append, List.map_append]
          simpa [hf] using ry.mono g23.m
        | true =>
          show te σ2 H3 _
          refine ee hf σ2 M3 H3 g3.s (sl2.mono g3.m) _ fun v M4 H4 g4 r4 => ?_
          have g24 := g23.trans g4
          have h4 : H4 DD = some (.lst ys) := g24.h _ _ hy
          refine ⟨ys, h4, ?_, hlt, M4, ys ++ [v], s1.trans g24.m, ?_, ?_, none_ g24, nn g24, upd_same, ?_⟩
          · rw [ry.length, List.length_map]
            refine Nat.lt_of_le_of_lt (List.length_filter_le _ _) ?_
            rw [List.length_take]
            exact Nat.lt_of_le_of_lt (Nat.min_le_left _ _) (Nat.lt_of_lt_of_le hlt (le100 hl))
          · intro b o hb
            rw [upd_ne (fun z => by rw [z, hDD] at hb; cases hb)]
            exact g24.h _ _ (s2 _ _ hb)
          · intro b o hb
            rw [upd_ne (fun z => by rw [z, none_ g24] at hb; cases hb)]
            exact g4.s _ _ hb
          · rw [take1, List.filter_append, List.map_append]
            simpa [hf] using (ry.mono g24.m).append (Reps.one r4)
    · have e1 : i = as.length := by omega
      subst e1
      refine .inl ⟨?_, ?_⟩
      · have := wk.stop M' H' s1 s3
        rwa [List.length_map] at this
      · rw [List.take_length] at ry
        exact q DD (.lst ys) M' H' (g1.trans ⟨s1, s2, s3, hn⟩) (g1.fresh hDD) hd hy (.lst ry)
/-- the plain one -/
theorem ef_lcM {α : Type} {wi : TI} {g : TG} {te : TE} (as : List α) (enc : α → D) (el : α → D) (hI : EI wi Γ (as.map enc)) (hl : as.length ≤ 100000)
    (ht : ∀ a, a ∈ as → ∃ Γ', TgS g (enc a) vs (wipeG Γ vs) Γ' ∧ ED te Γ' (el a)) : EF (tLc wi g tYes te vs) Γ (.lst (as.map el)) := by
  have q := ef_lc (tt := tYes) (te := te) as enc (fun _ => true) el hI hl fun a h => by
    obtain ⟨Γ', h1, h2⟩ := ht a h
    exact ⟨Γ', h1, et_yes, fun _ => h2⟩
  rw [List.filter_eq_self.mpr (fun _ _ => rfl)] at q
  exact q
end
end RN

end
section
set_option maxRecDepth 100000
set_option maxHeartbeats 4000000
/-! defs of the text, their promises; a few rules that the layer lacks -/
namespace RN
open PySem L2 PySem.Spec PyProof.Rows

/-- the def x stands behind the top -/
def DefAt (K : PySem.W.Frag) (mg : Str → Option Value) (x : Str) (st : Stmt) (ps : List Str) : Prop := ∃ (f : Addr) (fd : FuncData), Fun K x x st f fd ∧ mg x = some (.ref f) ∧ Binds K fd ps []
/-- the def x keeps the promise sp -/
def Cal (P : Program) (w : World) (K : PySem.W.Frag) (mg : Str → Option Value) (base : Heap) (k : Nat) (x : Str) (ps : List Str) (sp : Sp) : Prop :=
  ∃ (f : Addr) (fd : FuncData), FnOk P w K mg base CX0 k f fd ps sp ∧ mg x = some (.ref f) ∧ PySem.W.keepIn K (.ref f) = true ∧ Binds K fd ps []
section
variable {P : Program} {w : World} {K : PySem.W.Frag} {mg : Str → Option Value} {base : Heap}
theorem Cal.mono {j k : Nat} {x : Str} {ps : List Str} {sp : Sp} (C : Cal P w K mg base j x ps sp) (h : j ≤ k) : Cal P w K mg base k x ps sp :=
  let ⟨f, fd, a, b⟩ := C; ⟨f, fd, a.mono h, b⟩
theorem units65 {k : Nat} {A : Around} (r : Room k A) : A.units + 65 < cLine := by have := r.un; omega
theorem st_start {M H : Hp} {vs : List V} {ds : List D} (e : Same M H) (r : Reps M vs ds) (n : Nat) (own : List Nat) (ho : ∀ i ∈ own, ds.length ≤ i) : ST M H own nilH (ds.map some ++ List.replicate n none) (vs.map some ++ List.replicate n none) H := by
  have hl := r.length
  have get : ∀ (i : Nat) (d : D), (ds.map some ++ List.replicate n none)[i]? = some (some d) → i < ds.length ∧ ds[i]? = some d := fun i d q => by
    by_cases hi : i < ds.length
    · rw [List.getElem?_append_left (by rw [List.length_map]; exact hi), List.getElem?_map, List.getElem?_eq_getElem hi] at q
      refine ⟨hi, ?_⟩
      rw [List.getElem?_eq_getElem hi]
      simpa using q
    · rw [List.getElem?_append_right (by rw [List.length_map]; omega), List.getElem?_replicate] at q
      split at q <;> simp at q
  refine ⟨M, by simp [hl], .refl e, fun i d _ q => ?_, fun i d hi q => ?_, fun i j di dj p hi _ q => ?_, fun b o q => by cases q⟩
  · obtain ⟨h1, h2⟩ := get i d q
    obtain ⟨v, e1, rv⟩ := r.get h2
    refine ⟨v, ?_, rv⟩
    rw [List.getElem?_append_left (by rw [List.length_map, hl]; exact h1), List.getElem?_map, e1]
    rfl
  · exact absurd (ho i hi) (Nat.not_le.mpr (get i d q).1)
  · exact absurd (ho i hi) (Nat.not_le.mpr (get i di q).1)
theorem DefAt.cal {x : Str} {st : Stmt} {ps N : List Str} {k : Nat} {R : List D → D → Prop} (d : DefAt K mg x st ps) (S : FnScope N ps (defScope st)) (own : List Nat) (ho : ∀ i ∈ own, ps.length ≤ i) (len : ∀ ds d, R ds d → ds.length = ps.length)
    (hb : ∀ (f : Addr) (cdv : Value) (A : Around) (outer : List Env) (s : Shared) (H : Hp) (E : XK), Room k (A.deeper (envOfC x (defScope st) s.heap.objs.size f cdv)) →
      ∃ t, PSs (cxOf CX0 P w K mg base N x (defScope st) f cdv A outer s H E).nox (defBody st) t ∧
        ∀ ds d, R ds d → ∀ (M0 H0 : Hp) (Q : VK), (∀ v M' H', Grow M0 H0 M' H' → Rep M' v d → Q v H') →
          Ho M0 H0 own nilH (ds.map some ++ List.replicate (N.length - ds.length) none) t { nx := fun _ H' => Q .non H', rt := Q }) : Cal P w K mg base (k + 1) x ps (spF R) := by
  obtain ⟨f, fd, F, m, b⟩ := d
  refine ⟨f, fd, F.ok S (fun vs H Q E ⟨M, ds, d, _, r, h, _⟩ => by rw [r.length]; exact len _ _ h) (fun cdv A outer s H vs Q E hr h => ?_), m, F.kp, b⟩
  obtain ⟨M, ds, d, e, r, h, q⟩ := h
  obtain ⟨t, h1, h2⟩ := hb f cdv A outer s H E hr
  refine ⟨t, h1, h2 ds d h M H Q q _ _ ?_⟩
  show ST M H own nilH _ (vs.map some ++ List.replicate (N.length - vs.length) none) H
  rw [r.length]
  exact st_start e r _ own fun i hi => by rw [len _ _ h]; exact ho i hi
end
section
variable {X : Cx}
theorem peC {k : Nat} {x : Str} {ps : List Str} {sp : Sp} {p pos : Pos} {e : Expr} {es : List Expr} {t : TA} (C : Cal X.prog X.w X.K X.mg X.base k x ps sp) (hr : Room k X.A) (hg : Gl X x) (ha : PA X (e :: es) t)
    (hdb : (x == ("__debug__" : Str)) = false := by decide) (he : starEach (e :: es) X.env = (false, eval e X.env) :: starEach es X.env := by rfl) (hpl : (backTo pos (starEach es X.env)).any (·.1) = false := by rfl) :
    PE X (.Call (.Name x p) (e :: es) [] pos) (tCall sp [] E0 t) := by
  obtain ⟨f, fd, F, m, kp, b⟩ := C
  exact pe_call F hr hg m kp b .nil pass0 ha hdb he hpl
theorem peGS {x s : Str} {pos : Pos} (hg : Gl X x) (hm : ∃ t, X.mg x = some (.str s t)) (hd : (x == ("__debug__" : Str)) = false := by decide) : PE X (.Name x pos) (tC (.str s)) := by
  obtain ⟨t, h⟩ := hm
  exact pe_glob hg h ⟨t, rfl⟩ hd
theorem peGI {x : Str} {i : Int} {pos : Pos} (hg : Gl X x) (hm : ∃ t, X.mg x = some (.int i t)) (hd : (x == ("__debug__" : Str)) = false := by decide) : PE X (.Name x pos) (tC (.int i)) := by
  obtain ⟨t, h⟩ := hm
  exact pe_glob hg h ⟨t, rfl⟩ hd
end
/-! truth of a list -/
abbrev tTru (K : PySem.W.Frag) (ta : TE) : TT := fun σ H Q => ta σ H fun x H' => ∃ k, TruV K x H' k ∧ Q k H'
theorem et_truL {Γ : Gm} {ta : TE} {ds : List D} {K : PySem.W.Frag} (h : ED ta Γ (.lst ds)) : ET (tTru K ta) Γ (!ds.isEmpty) := fun σ M H e sl Q q => h σ M H e sl _ fun v M' H' g r => by
  cases r with
  | @lst p xs _ hp r =>
    refine ⟨!ds.isEmpty, .inl ⟨xs, sqL (g.s _ _ hp), ?_⟩, q M' H' g⟩
    cases r <;> rfl
/-! bools by is -/
abbrev rIsNotB : R2 := fun x y H Q => ∃ a b, x = .bl a ∧ y = .bl b ∧ Q (.bl (!decide (a = b))) H
theorem ed_isNotB {Γ : Gm} {ta tb : TE} {a b : Bool} (ha : ED ta Γ (.bl a)) (hb : ED tb Γ (.bl b)) : ED (tOp rIsNotB ta tb) Γ (.bl (!decide (a = b))) := ed_op ha hb fun M H x y Q e rx ry q => by
  cases rx
  cases ry
  exact ⟨a, b, rfl, rfl, q _ M H (.refl e) (.bl _)⟩
/-! (n, s) < (m, t) -/
def ltIS (n : Int) (s : Str) (m : Int) (t : Str) : Bool := if n = m then decide (s.cps.toList < t.cps.toList) else decide (n < m)
def rLtIS (K : PySem.W.Frag) : R2 := fun x y H Q => ∃ (a b : Addr) (n m : Int) (s t : Str), x = .ref a ∧ y = .ref b ∧ SqT K H a [.int n, .str s] ∧ SqT K H b [.int m, .str t] ∧ Q (.bl (ltIS n s m t)) H
theorem op_ltIS {X : Cx} (hu : X.A.units < cLine) : OpR X (compareOp .Lt) (rLtIS X.K) := by
  intro pins s σ H x y v u Q I rx ry h
  obtain ⟨a, b, n, m, z, z', rfl, rfl, ha, hb, q⟩ := h
  cases rx
  cases ry
  obtain ⟨its, r1, p1, _⟩ := I.tuple ha
  obtain ⟨its2, r2, p2, _⟩ := I.tuple hb
  obtain ⟨u1, u2, rfl, ⟨t1, rfl⟩, ⟨t2, rfl⟩⟩ := vals2 r1
  obtain ⟨w1, w2, rfl, ⟨t3, rfl⟩, ⟨t4, rfl⟩⟩ := vals2 r2
  have R := Ob.RcOp.tuples_lt (A := X.A) (s := s) (e := fun j => if j = 0 then (n == m) else (z == z')) (r := fun j => if j = 0 then decide (n < m) else decide (z.cps.toList < z'.cps.toList)) p1 p2 hu (fun j h1 h2 => by
    match j, h1, h2 with
    | 0, _, _ => exact SeqAt.EqAt.int_int _ _ _ _
    | 1, _, _ => exact SeqAt.EqAt.str_str _ _ _ _
    | j + 2, h1, _ => exact absurd h1 (by simp)) (fun j h1 h2 _ => by
    match j, h1, h2 with
    | 0, _, _ => exact Ob.RcOp.lt_int _ _ _ _
    | 1, _, _ => exact fun _ _ _ _ h => lt_str h
    | j + 2, h1, _ => exact absurd h1 (by simp))
  have z0 : (Ob.lexAt (fun j => if j = 0 then (n == m) else (z == z')) (fun j => if j = 0 then decide (n < m) else decide (z.cps.toList < z'.cps.toList)) (decide (2 < 2)) 0 (min 2 2)) = ltIS n z m z' := by
    show (if (n == m) = true then (if (z == z') = true then decide (2 < 2) else decide (z.cps.toList < z'.cps.toList)) else decide (n < m)) = ltIS n z m z'
    unfold ltIS
    by_cases e1 : n = m
    · subst e1
      rw [if_pos (by simp), if_pos rfl]
      by_cases e2 : z = z'
      · subst e2
        rw [if_pos (by simp)]
        have : ¬ z.cps.toList < z.cps.toList := List.lt_irrefl _
        rw [decide_eq_false this]
        rfl
      · rw [if_neg (by simpa using e2)]
    · rw [if_neg (by simpa using e1), if_neg e1]
  exact R X.prog X.w X.xe (EP X pins σ Q) ⟨.bl _, H, I, rfl, by
    show Q (.bl (Ob.lexAt (fun j => if j = 0 then (n == m) else (z == z')) (fun j => if j = 0 then decide (n < m) else decide (z.cps.toList < z'.cps.toList)) (decide (2 < 2)) 0 (min 2 2))) H
    rw [z0]
    exact q⟩
theorem ed_ltIS {Γ : Gm} {ta tb : TE} {K : PySem.W.Frag} {n m : Int} {s t : Str} (ha : ED ta Γ (.tup [.int n, .str s])) (hb : ED tb Γ (.tup [.int m, .str t])) : ED (tOp (rLtIS K) ta tb) Γ (.bl (ltIS n s m t)) := ed_op ha hb fun M H x y Q e rx ry q => by
  cases rx with
  | tup h r =>
    cases ry with
    | tup h' r' =>
      cases r with
      | cons r1 r => cases r with
        | cons r2 r => cases r; cases r1; cases r2; cases r' with
          | cons r1 r' => cases r' with
            | cons r2 r' => cases r'; cases r1; cases r2; exact ⟨_, _, n, m, s, t, rfl, rfl, sqT (e _ _ h), sqT (e _ _ h'), q _ M H (.refl e) (.bl _)⟩
end RN

end
section
set_option maxRecDepth 100000
set_option maxHeartbeats 4000000
/-! a dict whose keys are rules: (text, (texts)) -/
namespace RN
open PySem L2 PySem.Spec PyProof.Rows

def nk (r : Str × List Str) : NestedKey := .tup [.text r.1, .tup (r.2.map .text)]
theorem text_inj : ∀ {a b : List Str}, a.map NestedKey.text = b.map NestedKey.text → a = b
  | [], [], _ => rfl
  | x :: a, y :: b, h => by
    simp only [List.map_cons, List.cons.injEq, NestedKey.text.injEq] at h
    rw [h.1, text_inj h.2]
  | [], _ :: _, h => by simp at h
  | _ :: _, [], h => by simp at h
theorem nk_inj {r r' : Str × List Str} (h : nk r = nk r') : r = r' := by
  obtain ⟨a, b⟩ := r
  obtain ⟨a', b'⟩ := r'
  simp only [nk, NestedKey.tup.injEq, List.cons.injEq, NestedKey.text.injEq, and_true] at h
  rw [h.1, text_inj h.2]
theorem depth_texts : ∀ l : List Str, NestedKey.depthAll (l.map NestedKey.text) ≤ 1
  | [] => by simp [NestedKey.depthAll]
  | x :: l => by
    have := depth_texts l
    simp only [List.map_cons, NestedKey.depthAll, NestedKey.depth]
    omega
theorem nk_depth (r : Str × List Str) : (nk r).depth ≤ 8 := by
  have := depth_texts r.2
  simp only [nk, NestedKey.depth, NestedKey.depthAll]
  omega
def NdP (P : Program) (w : World) (d : Addr) (xs : List ((Str × List Str) × Addr)) (h : Heap) : Prop :=
  (d == sysModules) = false ∧ ∃ o es ep, h.get? d = some o ∧ o.ExactDict ∧ o.data = .dict es ep ∧ es.toList = (xs.map fun x => (nk x.1, x.2, Value.bool true)).map (entryOfKey (nestedKind P w))
def NdO (P : Program) (w : World) (d : Addr) (xs : List ((Str × List Str) × Addr)) : HO := .ext (NdP P w d xs)
/-- a rule's tuple stands at q -/
def RuleAt (H : Hp) (q : Addr) (r : Str × List Str) : Prop := ∃ b, H q = some (.tup [.str r.1, .ref b]) ∧ H b = some (.tup (r.2.map V.str))
theorem RuleAt.mono {H H' : Hp} {q : Addr} {r : Str × List Str} (e : Same H H') (h : RuleAt H q r) : RuleAt H' q r := let ⟨b, h1, h2⟩ := h; ⟨b, e _ _ h1, e _ _ h2⟩
theorem all_texts {h : Heap} : ∀ {ss : List Str} {us : List Value}, Vals (ss.map V.str) us → NestedAll h (ss.map .text) us
  | [], _, .nil => .nil
  | s :: ss, _, .cons r t => by
    obtain ⟨tk, rfl⟩ := r
    exact .cons (.text s tk) (all_texts t)
section
variable {X : Cx} {pins : List (Addr × Obj)} {σ : L2.St} {H : Hp} {s : Shared}
theorem RuleAt.is {q : Addr} {r : Str × List Str} (I : Inv X pins σ H s) (h : RuleAt H q r) : (nestedKind X.prog X.w).is s.heap (nk r) q := by
  obtain ⟨b, h1, h2⟩ := h
  obtain ⟨_, its, rv, o, e1, e2, n, e3⟩ := (show ObjOk X.prog X.w H s.heap q (.tup [.str r.1, .ref b]) from I.hok q _ h1)
  obtain ⟨_, its2, rv2, o2, f1, f2, n2, f3⟩ := (show ObjOk X.prog X.w H s.heap b (.tup (r.2.map V.str)) from I.hok b _ h2)
  obtain ⟨u1, u2, rfl, ⟨t1, rfl⟩, q2⟩ := vals2 rv
  cases (show u2 = Value.ref b from q2)
  refine ⟨.tup e1 e2 e3 ?_, nk_depth r⟩
  exact .cons (.text _ _) (.cons (.tup f1 f2 f3 (by simpa using all_texts rv2)) .nil)
theorem nd_of {d : Addr} {xs : List ((Str × List Str) × Addr)} (I : Inv X pins σ H s) (hd : H d = some (NdO X.prog X.w d xs)) (hk : ∀ e ∈ xs, RuleAt H e.2 e.1) (hn : (xs.map (·.1)).Nodup) :
    (d == sysModules) = false ∧ s.heap.DictOfH (nestedKind X.prog X.w) d (xs.map fun x => (nk x.1, x.2, Value.bool true)) := by
  obtain ⟨⟨h0, o, es, ep, h1, h2, h3, h4⟩, _, _⟩ := I.hok d _ hd
  refine ⟨h0, o, es, ep, h1, h2, h3, h4, fun x hx => ?_, ?_⟩
  · obtain ⟨e, he, rfl⟩ := List.mem_map.mp hx
    exact (hk e he).is I
  · rw [List.map_map]
    have z : (xs.map ((·.1) ∘ fun x => (nk x.1, x.2, Value.bool true))) = (xs.map (·.1)).map nk := by rw [List.map_map]; rfl
    rw [z]
    exact List.Pairwise.map nk (fun a b h e => h (nk_inj e)) hn
theorem atKey_nk {r : Str × List Str} : ∀ xs : List ((Str × List Str) × Addr), (atKey (xs.map fun x => (nk x.1, x.2, Value.bool true)) (nk r)).isSome = decide (r ∈ xs.map (·.1))
  | [] => rfl
  | x :: xs => by
    have ih := atKey_nk (r := r) xs
    unfold atKey at ih ⊢
    rw [List.map_cons, List.find?_cons]
    by_cases e : x.1 = r
    · subst e
      simp
    · have e1 : ¬ nk x.1 = nk r := fun z => e (nk_inj z)
      simp only [e1, decide_false]
      rw [ih]
      simp [Ne.symm e]
end
def tDNewX (P : Program) (w : World) : TE := fun _ H Q => ∀ p, H p = none → Q (.ref p) (upd H p (NdO P w p []))
def tDInX (P : Program) (w : World) (ty td : TE) : TE := fun σ H Q => ty σ H fun y H1 => td σ H1 fun x H2 => ∃ d q r xs, x = .ref d ∧ y = .ref q ∧ H2 d = some (NdO P w d xs) ∧ RuleAt H2 q r ∧ (∀ e ∈ xs, RuleAt H2 e.2 e.1) ∧ (xs.map (·.1)).Nodup ∧
  Q (.bl (decide (r ∈ xs.map (·.1)))) H2
def sDPutX (P : Program) (w : World) (td ty tv : TE) : TS := fun D σ H => tv σ H fun v H1 => td σ H1 fun x H2 => ty σ H2 fun y H3 => ∃ d q r xs, v = .bl true ∧ x = .ref d ∧ y = .ref q ∧ H3 d = some (NdO P w d xs) ∧ RuleAt H3 q r ∧ (∀ e ∈ xs, RuleAt H3 e.2 e.1) ∧
  (xs.map (·.1)).Nodup ∧ r ∉ xs.map (·.1) ∧ xs.length ≤ 1000 ∧ D.nx σ (upd H3 d (NdO P w d (xs ++ [(r, q)])))
section
variable {X : Cx} {o i e value : Expr} {pos pos' tpos : Pos} {td ty tv : TE}
theorem nd_ok {P : Program} {w : World} {H : Hp} {h : Heap} {d : Addr} {xs : List ((Str × List Str) × Addr)} (n : NdP P w d xs h) : ObjOk P w H h d (NdO P w d xs) := by
  obtain ⟨h0, o, es, ep, h1, r⟩ := id n
  refine ⟨n, ⟨o, h1⟩, fun a b p k => ?_⟩
  obtain ⟨q0, o', es', ep', q1, q⟩ := p
  exact ⟨q0, o', es', ep', k o' q1, q⟩
theorem pe_dnewX : PE X (.Dict [] [] pos) (tDNewX X.prog X.w) := ⟨fun pins s σ H Q I h =>
  wpAny_Dict_empty ⟨.ref s.heap.objs.size, _, I.laid (a := s.heap.objs.size) (o := NdO X.prog X.w s.heap.objs.size []) (t' := s.toks) (fun _ _ q => Heap.get?_push_of_some _ q) (Nat.le_refl _)
    (nd_ok ⟨beq_eq_false_iff_ne.mpr (Ne.symm (Nat.ne_of_lt I.big)), _, #[], 0, Heap.get?_push_size _ rfl, ⟨rfl, rfl, rfl⟩, rfl, rfl⟩), rfl, h _ (I.hok.fresh (Nat.le_refl _))⟩⟩
theorem room9 {A : Around} {w : World} {P : Program} (hu : A.units + 65 < cLine) : (nestedKind P w).room A.in1 := by
  show A.units + 1 + 8 < cLine
  omega
theorem pc_dinX (hu : X.A.units + 65 < cLine) (hi : PE X i ty) (ho : PE X o td) : PC X .In i o (tDInX X.prog X.w ty td) := by
  refine ⟨fun pins s σ H Q I h => ?_⟩
  refine thn (hi.run pins s σ H _ I h) fun iv s1 ⟨y, H1, I1, ry, q1⟩ => thn (ho.run pins s1 σ H1 _ I1 q1) fun u s2 ⟨x, H2, I2, rx, d, q, r, xs, ex, ey, hd, hq, hk, hn, q2⟩ => ?_
  subst ex ey
  obtain rfl : u = Value.ref d := rx
  obtain rfl : iv = Value.ref q := ry
  obtain ⟨h0, hm⟩ := nd_of I2 hd hk hn
  refine wpAny_in_heap (room9 hu) (hq.is I2) h0 hm ?_
  rw [atKey_nk]
  exact ⟨.bl _, H2, I2.tok _, rfl, q2⟩
theorem ps_dputX (hu : X.A.units + 65 < cLine) (ho : PE X o td) (hi : PE X i ty) (hv : PE X value tv) (hs : swapsWith value (some (.Subscript o i pos')) pos.line X.env = pure false) :
    PS X (.Assign [.Subscript o i pos'] value pos) (sDPutX X.prog X.w td ty tv) := by
  refine ⟨fun pins s σ H D I h => ?_⟩
  refine wpAny_Assign_Subscript (thn (hv.run pins s σ H _ I h) fun rr s1 ⟨v, H1, I1, rv, q1⟩ => thn (ho.run pins s1 σ H1 _ I1 q1) fun u s2 ⟨x, H2, I2, rx, q2⟩ => thn (hi.run pins s2 σ H2 _ I2 q2) fun iv s3 ⟨y, H3, I3, ry, d, q, r, xs, ev, ex, ey, hd, hq, hk, hn, hr, hl, q3⟩ => ?_) hs
  subst ex ey ev
  obtain rfl : u = Value.ref d := rx
  obtain rfl : iv = Value.ref q := ry
  obtain rfl : rr = Value.bool true := rv
  obtain ⟨h0, hm⟩ := nd_of I3 hd hk hn
  refine wpAny_setItem_heap (hsz := by rw [List.length_map]; exact Nat.le_trans hl (by decide)) (room9 hu) (hq.is I3) hm fun h' dd' hs' => ?_
  have hnone : atKey (xs.map fun x => (nk x.1, x.2, Value.bool true)) (nk r) = none := by
    have z := atKey_nk (r := r) xs
    rw [decide_eq_false hr] at z
    cases e : atKey (xs.map fun x => (nk x.1, x.2, Value.bool true)) (nk r) with
    | none => rfl
    | some p => rw [e] at z; cases z
  rw [storedH_new hnone] at dd'
  obtain ⟨o', es, ep, g1, g2, g3, g4, _, _⟩ := dd'
  refine ⟨σ, _, d_write I3 (by rw [hd]; exact True.intro) hs' ⟨o', g1⟩ (nd_ok ⟨h0, o', es, ep, g1, g2, g3, ?_⟩), q3⟩
  rw [g4, List.map_append, List.map_append, List.map_append]
  rfl
end
end RN

end
section
set_option maxRecDepth 100000
set_option maxHeartbeats 4000000
/-! enumerate(a tuple), list(a text) -/
namespace PySem
section
variable {prog : Program} {w : World} {A : Around} {E : Value → Shared → Prop} {s : Shared}
theorem rn_enumerate_newB {v : Value} {o : Obj} {H : Heap → Prop} (B : Begins v o H) :
    Meets (Builtin.«enumerate.__new__» ⟨[.type "enumerate", v], []⟩) (fun _ R s => H s.heap ∧
      R (.ok (.ret (.ref (s.heap.push o).objs.size))) { s with heap := (s.heap.push o).push { cls := .type "enumerate", data := .fields #[.none, .bool false, .ref s.heap.objs.size, rawInt 0, .none, .none] } }) :=
  .of_wp fun prog w A R s h => by
    obtain ⟨hp, g, d, tk, os⟩ := s; obtain ⟨h1, h⟩ := h
    have hsub := sub_enumerate
    have q1 : ∀ {A' : Around} {E : Value → Shared → Prop} {Q : Value → Shared → Prop}, Q (.ref hp.objs.size) ⟨hp.push o, g, d, tk, os⟩ → wpAny (model prog w) A' (pyIter v) Q E ⟨hp, g, d, tk, os⟩ :=
      fun q => B.iter prog w _ _ ⟨hp, g, d, tk, os⟩ _ h1 q
    wp_walk using q1
    refine wpAny_stack_any fun st => wpAny_pure ?_
    split
    · rename_i c _ _ _ _ _
      cases (c == Value.type "enumerate")
      · wp_walk using q1
        exact ⟨_, rfl, h⟩
      · wp_walk using q1
        exact ⟨_, rfl, h⟩
    · wp_walk using q1
      exact ⟨_, rfl, h⟩
theorem rn_enum_begins {v : Value} {o : Obj} {H : Heap → Prop} {Q : Value → Shared → Prop} (B : Begins v o H) (h1 : H s.heap)
    (h : ∀ h', IsEnum h' (s.heap.objs.size + 1) s.heap.objs.size 0 .none → h'.get? s.heap.objs.size = some o → h'.objs.size = s.heap.objs.size + 2 →
      (∀ b o, s.heap.get? b = some o → h'.get? b = some o) → Q (.ref (s.heap.objs.size + 1)) { s with heap := h' }) :
    wpAny (model prog w) A (call (.type "enumerate") [v]) Q E s := by
  refine callType_new F.called_enumerate (by decide) (F.typeCall_enumerate_1 _) (F.newCall_enumerate_1 _) (fun obj => F.args_object_init_2 obj _) F.entry_enumerate_new
    (rn_enumerate_newB B) ⟨h1, ?_⟩
  have hz : (s.heap.push o).objs.size = s.heap.objs.size + 1 := Heap.size_push ..
  show _ ∧ _
  rw [hz]
  have he : IsEnum ((s.heap.push o).push { cls := .type "enumerate", data := .fields #[.none, .bool false, .ref s.heap.objs.size, rawInt 0, .none, .none] }) (s.heap.objs.size + 1) s.heap.objs.size 0 .none := by
    have := Heap.get?_push_size (s.heap.push o) (o := { cls := .type "enumerate", data := .fields #[.none, .bool false, .ref s.heap.objs.size, rawInt 0, .none, .none] }) rfl
    rw [hz] at this; exact this
  refine ⟨⟨_, he, rfl⟩, h _ he (Heap.get?_push_of_some _ (Heap.get?_push_size _ B.free)) (by rw [Heap.size_push, hz]) fun b o x => Heap.get?_push_of_some _ (Heap.get?_push_of_some _ x)⟩
end
end PySem
namespace RN
open PySem L2 PySem.Spec PyProof.Rows
/-- the tuple at a, each item in a new pair -/
def IteT (K : PySem.W.Frag) (a : Addr) : It :=
  ⟨fun i H => ∃ (xs : List V) (x : V), SqT K H a xs ∧ xs[i]? = some x, fun i H v H' => ∃ T x, v = .ref T ∧ H T = none ∧ H' = upd H T (.tup [.int (i : Nat), x]) ∧ ∀ xs, SqT K H a xs → xs[i]? = some x, fun i H => ∃ xs : List V, SqT K H a xs ∧ xs.length = i⟩
theorem turn_enumT {P : Program} {w : World} {K : PySem.W.Frag} {elts : List Expr} {kk : Nat} {tpos : Pos} (a e it : Addr) :
    Turn P w K (.Tuple elts kk tpos) (IteT K a) [e, it] e (fun i h => (∃ old, IsEnum h e it ((i : Nat) : Int) old) ∧ h.IsTupleIter it a i ∧ e ≠ it ∧ a ≠ it ∧ a ≠ e) where
  mem := by simp
  obj := fun i h st b hb => by
    obtain ⟨⟨old, he⟩, ⟨o, ho, hc, hd⟩, _⟩ := st
    have e' : b = e ∨ b = it := by simpa using hb
    rcases e' with z | z
    · rw [z]; exact ⟨_, he, fun v q => nomatch q⟩
    · rw [z]; exact ⟨o, ho, fun v q => by rw [hd] at q; cases q⟩
  keep := fun i h h' st k => let ⟨⟨old, he⟩, hi, hne⟩ := st; ⟨⟨old, k e (by simp) _ he⟩, hi.at fun o q => k it (by simp) o q, hne⟩
  item := by
    intro X hP hw hK hc i pins s σ H E I hf st hg
    subst hP hw hK
    obtain ⟨⟨old, he⟩, hit, hne, hai, hae⟩ := st
    obtain ⟨xs, x, hq, hx⟩ := hg
    obtain ⟨its, rv, p, hz⟩ := I.tuple hq
    obtain ⟨u, hu, ru⟩ := rv.get hx
    have hel : e < s.heap.objs.size := Heap.lt_size he
    have hil : it < s.heap.objs.size := by obtain ⟨_, q, _⟩ := hit; exact Heap.lt_size q
    have hlt : i < its.toArray.size := by
      have := (List.getElem?_eq_some_iff.mp hu).1
      simpa using this
    have D := Draws.tuple (prog := X.prog) (w := X.w) (A := X.A.in1) (I.ok.hd hc) it a hai its.toArray
    refine wpAny_pyNext_enum_itemD D he ⟨hit, p⟩ hlt hne (by simp [hne, Ne.symm hae]) fun x1 h' tk hP ho hst' hT hsz hk => ?_
    have hP : its.toArray[i]? = some x1 := hP
    have ex : x1 = u := by
      have e1 : its.toArray[i]? = some u := by simpa using hu
      rw [e1] at hP
      exact (Option.some.inj hP).symm
    subst ex
    refine ⟨_, rfl, wpAny_letOwnedTupleGo_enum (s := { s with heap := h', toks := tk + 1 }) ho fun h'' he' sb => ?_⟩
    have hT2 : h''.get? s.heap.objs.size = some { cls := .type "tuple", data := .seq #[.int i tk, x1] } := (sb.2 _ (Nat.ne_of_gt hel)).trans hT
    have new : ObjOk X.prog X.w (upd H s.heap.objs.size (.tup [.int (i : Nat), x])) h'' s.heap.objs.size (.tup [.int (i : Nat), x]) :=
      ⟨by show 2 ≤ sizeLine; decide, [.int i tk, x1], .cons ⟨_, rfl⟩ (.cons ru .nil), ⟨_, hT2, rfl, _, rfl⟩⟩
    have I1 : Inv X pins σ (upd H s.heap.objs.size (.tup [.int (i : Nat), x])) { s with heap := h'', toks := tk + 1 } :=
      I.turnedNew (ch := [e, it]) (fun b ob hb q => (sb.2 b (fun z => hb (by simp [z]))).trans (hk b ob (fun z => hb (by simp [z])) (fun z => hb (by simp [z])) q)) hf (Nat.le_refl _) new
    refine ⟨.ref s.heap.objs.size, _, I1, rfl, ⟨_, x, rfl, I.hok.fresh (Nat.le_refl _), rfl, fun ys hy => by rw [I.tuple_inj hy hq]; exact hx⟩, ⟨⟨x1, ?_⟩, hst'.1.at fun o q => (sb.2 it (Ne.symm hne)).trans q, hne, hai, hae⟩, fun b hb => ?_⟩
    · have e1 : ((i + 1 : Nat) : Int) = (i : Int) + 1 := by omega
      rw [e1]; exact he'
    · have hb' : b < s.heap.objs.size := by
        have e' : b = e ∨ b = it := by simpa using hb
        rcases e' with z | z
        · rw [z]; exact hel
        · rw [z]; exact hil
      rw [upd_ne (Nat.ne_of_lt hb')]
      exact (hf b hb).1
  done := by
    intro X hP hw hK hc i pins s σ H E I hf st hg
    subst hP hw hK
    obtain ⟨⟨old, he⟩, hit, hne, hai, hae⟩ := st
    obtain ⟨xs, hq, hx⟩ := hg
    obtain ⟨its, rv, p, hz⟩ := I.tuple hq
    obtain ⟨f0, f1, f2, f3, f4, f5⟩ := hf it (by simp)
    have hl := rv.length
    have D := Draws.tuple (prog := X.prog) (w := X.w) (A := X.A.in1) (I.ok.hd hc) it a hai its.toArray
    have hi : i = its.toArray.size := by
      rw [List.size_toArray]
      omega
    subst hi
    exact wpAny_pyNext_enum_endD D he ⟨hit, p⟩ fun h' eb => ⟨rfl, I.turned (t' := s.toks) (fun b o hb q => eb b o hb q) f0 f1 f3 f4 f5⟩
  self := fun A i s Q E st h => let ⟨⟨_, he⟩, _⟩ := st; wpAny_pyIter_enum he h
def iEnumT (K : PySem.W.Frag) (ta : TA) : TI := fun σ H R => ta σ H fun vs H1 => ∃ a xs, vs = [.ref a] ∧ SqT K H1 a xs ∧ R (IteT K a) H1
theorem pi_enumT {X : Cx} {e : Expr} {ta : TA} {p pos tpos : Pos} {elts : List Expr} {kk : Nat} (hg : Gl X "enumerate") (hm : X.mg "enumerate" = none) (ha : PA X [e] ta) (hs : starEach [e] X.env = [(false, eval e X.env)] := by rfl) :
    PI X (.Tuple elts kk tpos) (.Call (.Name "enumerate" p) [e] [] pos) (iEnumT X.K ta) := by
  refine ⟨fun pins s σ H R I h => ?_⟩
  refine Call_ (ld_blt I hg hm boot_enumerate (PyProof.Rows.callWith_type1 (thn (ha.run pos pins s σ H _ I h) fun us s1 ⟨vs, H1, I1, r1, q1⟩ => ?_) hs rfl))
  obtain ⟨a, xs, ex, hq, q⟩ := q1
  subst ex
  cases r1 with
  | cons r rr =>
    cases rr
    cases r
    obtain ⟨its, rv, p', hz⟩ := I1.tuple hq
    have hal : a < s1.heap.objs.size := by
      obtain ⟨o, ho, _⟩ := id p'
      exact Heap.lt_size ho
    refine rn_enum_begins (begins_tuple a its.toArray) p' fun h' he hit hsz hk => wpAny_pyIter_enum he ?_
    have I2 : Inv X pins σ H1 { s1 with heap := h' } := I1.kept (t' := s1.toks) hk
    refine ⟨s1.heap.objs.size + 1, [s1.heap.objs.size + 1, s1.heap.objs.size], _, _, H1, rfl, I2, turn_enumT a (s1.heap.objs.size + 1) s1.heap.objs.size, ⟨⟨.none, he⟩, ⟨_, hit, rfl, rfl⟩, Nat.succ_ne_self _, Nat.ne_of_lt hal, Nat.ne_of_lt (Nat.lt_succ_of_lt hal)⟩, fun b hb => ?_, q⟩
    have e' : b = s1.heap.objs.size + 1 ∨ b = s1.heap.objs.size := by simpa using hb
    have hle : s1.heap.objs.size ≤ b := by
      rcases e' with z | z
      · rw [z]; exact Nat.le_add_right _ _
      · rw [z]; exact Nat.le_refl _
    exact I1.fpOk hle (I1.hok.fresh hle)
theorem ei_enumT {Γ : Gm} {te : TE} {K : PySem.W.Frag} {ds : List D} (h : ED te Γ (.tup ds)) : EI (iEnumT K (tCons te tNil)) Γ (enumD 0 ds) := fun σ M H e sl R q => h σ M H e sl _ fun v M1 H1 g r => by
  cases r with
  | @tup p xs _ hp r =>
    refine ⟨p, xs, rfl, sqT (g.s _ _ hp), q _ M1 H1 g ⟨fun i M2 H2 hi e1 e2 => ?_, fun M2 H2 e1 e2 => ?_, fun i M2 H2 x H3 hi e1 e2 y => ?_⟩⟩
    · rw [enumD_len] at hi
      exact ⟨xs, xs[i]'(by rw [r.length]; exact hi), sqT (e2 _ _ (e1 _ _ hp)), by simp [r.length, hi]⟩
    · rw [enumD_len]
      exact ⟨xs, sqT (e2 _ _ (e1 _ _ hp)), r.length⟩
    · obtain ⟨T, x', rfl, hT, rfl, y2⟩ := y
      have hx := y2 xs (sqT (e2 _ _ (e1 _ _ hp)))
      obtain ⟨d, hd, rd⟩ := r.getV hx
      refine ⟨_, _, enumD_get 0 ds i d hd, .new e2 hT _, ?_⟩
      rw [Nat.zero_add]
      exact .tup upd_same (.cons (.int _) (.one ((rd.mono e1).mono (same_new (e2.free hT) _))))
/-! list(a text) -/
abbrev rListStr : List V → Hp → VK → Prop := fun xs H Q => ∃ z : Str, xs = [.str z] ∧ z.length ≤ sizeLine ∧ ∀ p, H p = none → Q (.ref p) (upd H p (.lst (z.cps.toList.map fun c => .str ⟨#[c]⟩)))
theorem call_list_str {X : Cx} (hc : X.calm = true) : CallR X (.type "list") rListStr := by
  intro pins s σ H xs us Q I r h
  obtain ⟨z, rfl, hz, q⟩ := h
  obtain ⟨u, rfl, ⟨t, rfl⟩⟩ := vals1 r
  refine PySem.call_list_str (I.ok.hd hc) z t (fun h' tk acc' c' hk hS hacc => ?_) hz
  have hlen : acc'.size = z.cps.size := hacc.1
  have hv : Vals (z.cps.toList.map fun c => V.str ⟨#[c]⟩) acc'.toList := by
    refine vals_of_at (by rw [List.length_map, Array.length_toList, Array.length_toList, hlen]) fun j x u hx hu => ?_
    rw [Array.getElem?_toList] at hu
    obtain ⟨ch, tk', h1, rfl⟩ := hacc.2 j u hu
    rw [List.getElem?_map, Array.getElem?_toList, h1] at hx
    cases hx
    exact ⟨tk', rfl⟩
  refine ⟨.ref s.heap.objs.size, upd H s.heap.objs.size (.lst (z.cps.toList.map fun c => V.str ⟨#[c]⟩)), I.laid (t' := tk) hk (Nat.le_refl _) ⟨?_, acc'.toList, c', hv, by simpa using hS⟩, rfl, q _ (I.hok.fresh (Nat.le_refl _))⟩
  rw [List.length_map, Array.length_toList]
  exact hz
theorem ef_listS {Γ : Gm} {ta : TE} {z : Str} (ha : ED ta Γ (.str z)) (hz : z.length ≤ 100000) : EF (tCB rListStr (tCons ta tNil)) Γ (.lst (z.cps.toList.map fun c => .str ⟨#[c]⟩)) := ef_cb (ea_cons ha ea_nil) fun M H xs Q e rx q => by
  cases rx with
  | cons r1 rn =>
    cases rn
    cases r1
    refine ⟨z, rfl, le100 hz, fun p hp => q p _ M _ (.hid e hp _) hp (e.free hp) upd_same (.lst ?_)⟩
    have := Reps.ofStrs (H := M) (z.cps.toList.map fun c => (⟨#[c]⟩ : Str))
    rw [List.map_map, List.map_map] at this
    exact this
end RN

end
section
set_option maxRecDepth 100000
set_option maxHeartbeats 4000000
/-! texts that are letters, names; grammars of texts -/
namespace RN
open PySem
abbrev cMOST_RULES : Int := 40
abbrev cMOST_PARTS : Int := 6
abbrev cMOST_NAME : Int := 8
abbrev cLETTERS : Str := "abcdefghijklmnopqrstuvwxyz"
abbrev cCAPITALS : Str := "ABCDEFGHIJKLMNOPQRSTUVWXYZ"
abbrev cFIGURES : Str := "0123456789"
abbrev cMOST_IN_TREE : Int := 200
abbrev cDEEPEST : Int := 40
abbrev cEND : Str := "."
abbrev Gr := List (Str × List Str)
def isLetter (s : Str) : Bool := match s.cps.toList with
  | [c] => decide (c ∈ cLETTERS.cps.toList)
  | _ => false
def isName (s : Str) : Bool := match s.cps.toList with
  | [] => false
  | c :: r => decide (r.length < 8) && decide (c ∈ cCAPITALS.cps.toList) && (c :: r).all fun x => decide (x ∈ cCAPITALS.cps.toList) || decide (x ∈ cFIGURES.cps.toList)
theorem len_l (s : Str) : s.length = s.cps.toList.length := by rw [Array.length_toList]; rfl
theorem str_one {s : Str} (h : s.length = 1) : ∃ c, s = ⟨#[c]⟩ := by
  obtain ⟨a⟩ := s
  have h : a.size = 1 := h
  refine ⟨a[0]'(by omega), ?_⟩
  congr 1
  apply Array.ext
  · simp [h]
  · intro i h1 h2
    have : i = 0 := by omega
    subst this
    simp
theorem isLetter_len {s : Str} (h : isLetter s = true) : s.length = 1 := by
  unfold isLetter at h
  split at h
  · rename_i c e
    have : s.cps.toList.length = 1 := by rw [e]; rfl
    rw [Array.length_toList] at this
    exact this
  · cases h
theorem isLetter_one (c : Nat) : isLetter ⟨#[c]⟩ = decide (c ∈ cLETTERS.cps.toList) := rfl
def isPart (p : Str) : Bool := isLetter p || isName p
def isRule (r : Str × List Str) : Bool := isName r.1 && decide (r.2.length ≤ 6) && r.2.all isPart
theorem isName_len {s : Str} (h : isName s = true) : s.length ≤ 8 := by
  unfold isName at h
  rw [len_l]
  cases e : s.cps.toList with
  | nil => rw [e] at h; cases h
  | cons c r =>
    rw [e] at h
    simp only [Bool.and_eq_true, decide_eq_true_eq] at h
    rw [List.length_cons]
    omega
theorem isPart_len {s : Str} (h : isPart s = true) : s.length ≤ 8 := by
  unfold isPart at h
  simp only [Bool.or_eq_true] at h
  rcases h with h | h
  · rw [isLetter_len h]
    omega
  · exact isName_len h
structure GOk (g : Gr) : Prop where
  ne : g ≠ []
  len : g.length ≤ 40
  nd : g.Nodup
  rule : ∀ r ∈ g, isRule r = true
  closed : ∀ r ∈ g, ∀ p ∈ r.2, isLetter p = true ∨ p ∈ g.map (·.1)
theorem isRule_w {r : Str × List Str} (h : isRule r = true) : r.1.length ≤ 8 ∧ r.2.length ≤ 6 ∧ ∀ p ∈ r.2, p.length ≤ 8 ∧ isPart p = true := by
  unfold isRule at h
  simp only [Bool.and_eq_true, decide_eq_true_eq, List.all_eq_true] at h
  exact ⟨isName_len h.1.1, h.1.2, fun p hp => ⟨isPart_len (h.2 p hp), h.2 p hp⟩⟩
end RN

end
section
set_option maxRecDepth 100000
set_option maxHeartbeats 4000000
/-! grammars of seven signs, by two writings; what the program tells of them -/
namespace RN
open PySem
inductive Sym where
  | a | b | c | A | B | S | dot
  deriving DecidableEq
namespace Sym
def isL : Sym → Bool
  | a => true | b => true | c => true | _ => false
def isN : Sym → Bool
  | A => true | B => true | S => true | _ => false
/-- the order of the signs: the dot, then the letters -/
def idx : Sym → Nat
  | dot => 0 | a => 1 | b => 2 | c => 3 | A => 4 | B => 5 | S => 6
end Sym
open Sym
/-- the two writings -/
def em : Bool → Sym → Str
  | false, .a => "a" | false, .b => "b" | false, .c => "c" | false, .A => "A" | false, .B => "B" | false, .S => "S" | _, .dot => "."
  | true, .a => "k" | true, .b => "q" | true, .c => "z" | true, .A => "A7" | true, .B => "BOX" | true, .S => "SUM"
theorem em_inj {o : Bool} {x y : Sym} (h : em o x = em o y) : x = y := by
  revert h
  cases o <;> cases x <;> cases y <;> first | (intro _; rfl) | (intro h; exact absurd h (by decide +kernel))
theorem em_eq {o : Bool} {x y : Sym} : em o x = em o y ↔ x = y := ⟨em_inj, fun h => by rw [h]⟩
theorem em_L (o : Bool) (x : Sym) : isLetter (em o x) = isL x := by cases o <;> cases x <;> decide +kernel
theorem em_N (o : Bool) (x : Sym) : isName (em o x) = isN x := by cases o <;> cases x <;> decide +kernel
theorem em_len (o : Bool) (x : Sym) : 1 ≤ (em o x).length ∧ (em o x).length ≤ 3 := by cases o <;> cases x <;> decide +kernel
/-- the one code of a letter or the dot -/
def cd (o : Bool) (x : Sym) : Nat := (em o x).cps.toList.headD 0
theorem em_cd {o : Bool} {x : Sym} (h : isN x = false) : em o x = ⟨#[cd o x]⟩ := by
  revert h
  cases o <;> cases x <;> first | (intro h; cases h; done) | (intro _; decide +kernel)
theorem cd_lt {o : Bool} {x y : Sym} (hx : isN x = false) (hy : isN y = false) : cd o x < cd o y ↔ idx x < idx y := by
  revert hx hy
  cases o <;> cases x <;> cases y <;> first | (intro h _; cases h; done) | (intro _ h; cases h; done) | (intro _ _; decide +kernel)
theorem isN_of_isL {x : Sym} (h : isL x = true) : isN x = false := by cases x <;> first | rfl | cases h

abbrev SG := List (Sym × List Sym)
def emR (o : Bool) (r : Sym × List Sym) : Str × List Str := (em o r.1, r.2.map (em o))
def emG (o : Bool) (g : SG) : Gr := g.map (emR o)
/-- a grammar -/
structure SOk (g : SG) : Prop where
  ne : g ≠ []
  len : g.length ≤ 40
  nd : g.Nodup
  rule : ∀ r ∈ g, isN r.1 = true ∧ r.2.length ≤ 6 ∧ ∀ p ∈ r.2, isL p = true ∨ isN p = true
  closed : ∀ r ∈ g, ∀ p ∈ r.2, isL p = true ∨ p ∈ g.map (·.1)
/-- rules, not all of a grammar -/
structure SW (g : SG) : Prop where
  len : g.length ≤ 40
  rule : ∀ r ∈ g, isN r.1 = true ∧ r.2.length ≤ 6 ∧ ∀ p ∈ r.2, isL p = true ∨ isN p = true
theorem SOk.w {g : SG} (h : SOk g) : SW g := ⟨h.len, h.rule⟩
theorem emR_inj {o : Bool} {r r' : Sym × List Sym} (h : emR o r = emR o r') : r = r' := by
  obtain ⟨a, l⟩ := r
  obtain ⟨b, m⟩ := r'
  simp only [emR, Prod.mk.injEq] at h
  have e1 := em_inj h.1
  subst e1
  have : ∀ {l m : List Sym}, l.map (em o) = m.map (em o) → l = m := by
    intro l
    induction l with
    | nil => intro m h; cases m with | nil => rfl | cons x m => simp at h
    | cons y l ih =>
      intro m h
      cases m with
      | nil => simp at h
      | cons x m =>
        simp only [List.map_cons, List.cons.injEq] at h
        rw [em_inj h.1, ih h.2]
  rw [this h.2]
theorem SOk.gok {g : SG} (h : SOk g) (o : Bool) : GOk (emG o g) := by
  refine ⟨fun e => h.ne (List.map_eq_nil_iff.mp e), by unfold emG; rw [List.length_map]; exact h.len, ?_, fun r hr => ?_, fun r hr p hp => ?_⟩
  · exact List.Pairwise.map (emR o) (fun a b h e => h (emR_inj e)) h.nd
  · obtain ⟨q, hq, rfl⟩ := List.mem_map.mp hr
    obtain ⟨h1, h2, h3⟩ := h.rule q hq
    unfold isRule emR
    simp only [em_N, h1, List.length_map, decide_eq_true h2, List.all_map, Bool.true_and, List.all_eq_true]
    intro p hp
    show isPart (em o p) = true
    unfold isPart
    rw [em_L, em_N]
    rcases h3 p hp with e | e <;> simp [e]
  · obtain ⟨q, hq, rfl⟩ := List.mem_map.mp hr
    obtain ⟨p0, hp0, rfl⟩ := List.mem_map.mp (show p ∈ q.2.map (em o) from hp)
    rcases h.closed q hq p0 hp0 with e | e
    · exact .inl (by rw [em_L]; exact e)
    · right
      obtain ⟨z, hz, e⟩ := List.mem_map.mp e
      unfold emG
      rw [List.map_map]
      exact List.mem_map.mpr ⟨z, hz, by show em o z.1 = _; rw [e]⟩

/-! ### small things -/
def addN {α : Type} [DecidableEq α] (acc : List α) (n : α) : List α := if n ∈ acc then acc else acc ++ [n]
theorem mem_addN {α : Type} [DecidableEq α] {acc : List α} {n x : α} : x ∈ addN acc n ↔ x ∈ acc ∨ x = n := by
  unfold addN
  split
  · rename_i h
    constructor
    · exact .inl
    · rintro (h' | rfl)
      · exact h'
      · exact h
  · simp
theorem nd_addN {α : Type} [DecidableEq α] {acc : List α} {n : α} (h : acc.Nodup) : (addN acc n).Nodup := by
  unfold addN
  split
  · exact h
  · rename_i hn
    exact List.nodup_append.mpr ⟨h, by simp, by
      intro a ha b hb e
      have : b = n := by simpa using hb
      subst this
      subst e
      exact hn ha⟩
def namesS (g : SG) : List Sym := (g.map (·.1)).foldl addN []
theorem foldl_addN_mem {α : Type} [DecidableEq α] {x : α} : ∀ (l acc : List α), x ∈ l.foldl addN acc ↔ x ∈ acc ∨ x ∈ l
  | [], acc => by simp
  | y :: l, acc => by
    rw [List.foldl_cons, foldl_addN_mem l, mem_addN, List.mem_cons]
    constructor
    · rintro ((h | h) | h)
      · exact .inl h
      · exact .inr (.inl h)
      · exact .inr (.inr h)
    · rintro (h | h | h)
      · exact .inl (.inl h)
      · exact .inl (.inr h)
      · exact .inr h
theorem foldl_addN_nd {α : Type} [DecidableEq α] : ∀ (l acc : List α), acc.Nodup → (l.foldl addN acc).Nodup
  | [], acc, h => h
  | y :: l, acc, h => foldl_addN_nd l _ (nd_addN h)
theorem mem_namesS {g : SG} {x : Sym} : x ∈ namesS g ↔ x ∈ g.map (·.1) := by
  unfold namesS
  rw [foldl_addN_mem]
  simp
theorem nd_namesS (g : SG) : (namesS g).Nodup := foldl_addN_nd _ _ List.nodup_nil
def addL (acc : List Sym) (p : Sym) : List Sym := if isL p then addN acc p else acc
def letters0 (g : SG) : List Sym := (g.flatMap (·.2)).foldl addL []
def leI (x y : Sym) : Bool := decide (idx x ≤ idx y)
def sortI (l : List Sym) : List Sym := l.mergeSort leI
theorem idx_inj {x y : Sym} (h : idx x = idx y) : x = y := by cases x <;> cases y <;> first | rfl | cases h
def lettersS (g : SG) : List Sym := sortI (letters0 g)
def numbersS (g : SG) (n : Sym) : List Nat := (g.zipIdx.filter fun x => decide (x.1.1 = n)).map (·.2)

/-! ### loops -/
/-- while c: f, n turns from s to t -/
inductive Wh {σ : Type} (c : σ → Bool) (f : σ → σ) : Nat → σ → σ → Prop
  | stop {s : σ} : c s = false → Wh c f 0 s s
  | go {n : Nat} {s t : σ} : c s = true → Wh c f n (f s) t → Wh c f (n + 1) s t
theorem Wh.exists {σ : Type} {c : σ → Bool} {f : σ → σ} (I : σ → Prop) (m : σ → Nat) (h : ∀ s, I s → c s = true → I (f s) ∧ m (f s) < m s) : ∀ (k : Nat) (s : σ), m s ≤ k → I s → ∃ n t, Wh c f n s t ∧ I t
  | 0, s, hk, hi => by
    cases e : c s with
    | false => exact ⟨0, s, .stop e, hi⟩
    | true =>
      have := (h s hi e).2
      omega
  | k + 1, s, hk, hi => by
    cases e : c s with
    | false => exact ⟨0, s, .stop e, hi⟩
    | true =>
      obtain ⟨h1, h2⟩ := h s hi e
      obtain ⟨n, t, w, it⟩ := Wh.exists I m h k (f s) (by omega) h1
      exact ⟨n + 1, t, .go e w, it⟩
/-- assoc lists -/
def getA {β : Type} (l : List (Sym × β)) (s : Sym) : Option β := (l.find? fun e => decide (e.1 = s)).map (·.2)
def putA {β : Type} (l : List (Sym × β)) (s : Sym) (b : β) : List (Sym × β) :=
  if (l.any fun e => decide (e.1 = s)) = true then l.map (fun e => if e.1 = s then (e.1, b) else e) else l ++ [(s, b)]
end RN

end
section
set_option maxRecDepth 100000
set_option maxHeartbeats 4000000
/-! raw objects X: seen, changed, passed on -/
namespace RN
open PySem L2 Classical

noncomputable def seenX (own : List Nat) (X : Hp) (Γ : Gm) (σ : L2.St) (H R : Hp) : Hp := fun b => if X b = none then seen own Γ σ H R b else H b
noncomputable def lessX (own : List Nat) (X : Hp) (Γ : Gm) (σ : L2.St) (M : Hp) : Hp := fun b => if X b = none then less own Γ σ M b else none
theorem seenX_no {own : List Nat} {X : Hp} {Γ : Gm} {σ : L2.St} {H R : Hp} {b : Addr} (h : X b = none) : seenX own X Γ σ H R b = seen own Γ σ H R b := by unfold seenX; rw [if_pos h]
theorem seenX_x {own : List Nat} {X : Hp} {Γ : Gm} {σ : L2.St} {H R : Hp} {b : Addr} (h : X b ≠ none) : seenX own X Γ σ H R b = H b := by unfold seenX; rw [if_neg h]
theorem lessX_no {own : List Nat} {X : Hp} {Γ : Gm} {σ : L2.St} {M : Hp} {b : Addr} (h : X b = none) : lessX own X Γ σ M b = less own Γ σ M b := by unfold lessX; rw [if_pos h]
theorem lessX_x {own : List Nat} {X : Hp} {Γ : Gm} {σ : L2.St} {M : Hp} {b : Addr} (h : X b ≠ none) : lessX own X Γ σ M b = none := by unfold lessX; rw [if_neg h]
section
variable {M0 H0 M1 H1 : Hp} {own : List Nat} {X : Hp} {Γ Γ' : Gm} {σ : L2.St} {H R : Hp}
theorem Stt.sX_sub (s : Stt M0 H0 own X Γ σ H R) : Same (seen own Γ σ H R) (seenX own X Γ σ H R) := fun b o h => by
  by_cases q : X b = none
  · rw [seenX_no q]; exact h
  · rw [seenX_x q]; exact s.seen_le _ _ h
theorem Stt.sX_le (s : Stt M0 H0 own X Γ σ H R) : Same (seenX own X Γ σ H R) H := fun b o h => by
  by_cases q : X b = none
  · rw [seenX_no q] at h; exact s.seen_le _ _ h
  · rw [seenX_x q] at h; exact h
theorem Stt.x_sX (s : Stt M0 H0 own X Γ σ H R) : Same X (seenX own X Γ σ H R) := fun b o h => by
  rw [seenX_x (by rw [h]; simp)]
  exact (s.x b o h).1
theorem Stt.slotsX (s : Stt M0 H0 own X Γ σ H R) {i : Nat} {p : Addr} {d : D} (hi : i ∉ own) (hp : Γ[i]? = some (some (.opq (.ref p)))) (hx : ∀ M, Same X M → Rep M (.ref p) d) : Slots (seenX own X Γ σ H R) σ (Γ.set i (some d)) := by
  have sl := s.slots
  refine ⟨by rw [List.length_set]; exact sl.len, fun j dj e => ?_⟩
  by_cases hj : i = j
  · subst hj
    rw [List.getElem?_set_self (List.getElem?_eq_some_iff.mp hp).1] at e
    cases e
    obtain ⟨v, h1, h2⟩ := s.non i _ hi hp
    cases h2
    exact ⟨_, h1, hx _ s.x_sX⟩
  · rw [List.getElem?_set_ne hj] at e
    obtain ⟨v, h1, h2⟩ := sl.at_ j dj e
    exact ⟨v, h1, h2.mono s.sX_sub⟩
theorem Stt.afterX (s : Stt M0 H0 own X Γ σ H R) {M' H' : Hp} (g : Grow (seenX own X Γ σ H R) H M' H') : Stt M0 H0 own X Γ σ H' (lessX own X Γ σ M') := by
  have xR : ∀ b, X b ≠ none → R b = none := fun b h => by
    cases e : X b with
    | none => exact absurd e h
    | some o => exact (s.x b o e).2.1
  have sub : Same R (lessX own X Γ σ M') := fun b o h => by
    by_cases qx : X b = none
    · rw [lessX_no qx]
      by_cases q : OwnA own Γ σ b
      · rw [(s.ownA q).1] at h
        cases h
      · rw [less_not q]
        refine g.m _ _ ?_
        rw [seenX_no qx]
        exact s.seen_sub _ _ h
    · rw [xR b qx] at h
      cases h
  have none_ : ∀ b, H b ≠ none → R b = none → lessX own X Γ σ M' b = none := fun b h1 h2 => by
    by_cases qx : X b = none
    · rw [lessX_no qx]
      by_cases q : OwnA own Γ σ b
      · exact less_own q
      · rw [less_not q]
        refine g.n b h1 ?_
        rw [seenX_no qx]
        unfold seen
        rw [if_neg q]
        exact h2
    · exact lessX_x qx
  refine ⟨s.len, ⟨s.g.m.trans sub, s.g.h.trans g.h, fun b o h => ?_, fun b h1 h2 => ?_⟩, fun i d hi e => ?_, fun i d hi e => ?_, s.dis, fun b o e => ?_⟩
  · by_cases qx : X b = none
    · rw [lessX_no qx] at h
      by_cases q : OwnA own Γ σ b
      · rw [less_own q] at h
        cases h
      · rw [less_not q] at h
        exact g.s _ _ h
    · rw [lessX_x qx] at h
      cases h
  · exact none_ b (fun z => h1 (s.g.h.free z)) (s.g.n b h1 h2)
  · obtain ⟨v, h1, h2⟩ := s.non i d hi e
    exact ⟨v, h1, h2.mono sub⟩
  · obtain ⟨p, h1, h2, h3, h4, o, h5, h6⟩ := s.ow i d hi e
    exact ⟨p, h1, none_ p (by rw [h5]; simp) h2, h3, h4, o, g.h _ _ h5, h6.mono sub⟩
  · obtain ⟨h1, h2, h3⟩ := s.x b o e
    exact ⟨g.h _ _ h1, none_ b (by rw [h1]; simp) h2, h3⟩
theorem Stt.keepX (s : Stt M0 H0 own X Γ σ H R) (nt : ∀ b xs, X b ≠ some (.tup xs)) {M' H' : Hp} (g : Grow (seenX own X Γ σ H R) H M' H') : ∀ b xs, M' b = some (.tup xs) → lessX own X Γ σ M' b = some (.tup xs) := fun b xs h => by
  have hH := g.s _ _ h
  by_cases qx : X b = none
  · rw [lessX_no qx, less_not]
    · exact h
    · intro q
      obtain ⟨_, _, _, o, d', h5, h6⟩ := s.ownA q
      have := g.h _ _ h5
      rw [hH] at this
      exact h6.nt xs (Option.some.inj this).symm
  · cases e : X b with
    | none => exact absurd e qx
    | some o =>
      have := g.h _ _ (s.x b o e).1
      rw [hH] at this
      cases this
      exact absurd e (nt b xs)
end

noncomputable def cutX (X H : Hp) : Hp := fun b => if X b = none then H b else none
noncomputable def orX (X R : Hp) : Hp := fun b => if X b = none then R b else X b
theorem cutX_no {X H : Hp} {b : Addr} (h : X b = none) : cutX X H b = H b := if_pos h
theorem cutX_x {X H : Hp} {b : Addr} (h : X b ≠ none) : cutX X H b = none := if_neg h
theorem orX_no {X R : Hp} {b : Addr} (h : X b = none) : orX X R b = R b := if_pos h
theorem orX_x {X R : Hp} {b : Addr} (h : X b ≠ none) : orX X R b = X b := if_neg h
/-- te, evaluated, may change X -/
def EX (own : List Nat) (X : Hp) (te : TE) (Γ : Gm) (d : D) (S : Hp → Prop) : Prop := ∀ (M0 H0 : Hp) (σ : L2.St) (H R : Hp), Stt M0 H0 own X Γ σ H R → ∀ Q : VK, (∀ v X' H' R', S X' → Stt M0 H0 own X' Γ σ H' R' → Rep R' v d → Q v H') → te σ H Q
def ETX (own : List Nat) (X : Hp) (tt : TT) (Γ : Gm) (b : Bool) : Prop := ∀ (M0 H0 : Hp) (σ : L2.St) (H R : Hp), Stt M0 H0 own X Γ σ H R → ∀ Q : Bool → Hp → Prop, (∀ H' R', Stt M0 H0 own X Γ σ H' R' → Q b H') → tt σ H Q
def EIX (own : List Nat) (X : Hp) (Γ : Gm) (wi : TI) (ds : List D) : Prop := ∀ (M0 H0 : Hp) (σ : L2.St) (H R : Hp), Stt M0 H0 own X Γ σ H R → ∀ Q : It → Hp → Prop, (∀ J H' R', Stt M0 H0 own X Γ σ H' R' → Wk J ds R' → Q J H') → wi σ H Q
def EAV (own : List Nat) (ta : TA) (Γ : Gm) (ds : List D) : Prop := ∀ (M0 H0 X : Hp) (σ : L2.St) (H R : Hp), Stt M0 H0 own X Γ σ H R → ∀ Q : List V → Hp → Prop, (∀ vs H' R', Stt M0 H0 own X Γ σ H' R' → Reps R' vs ds → Q vs H') → ta σ H Q
section
variable {own : List Nat} {X : Hp} {te : TE} {tt : TT} {Γ : Gm} {d : D} {b : Bool} {S : Hp → Prop} {ta : TA} {ds : List D}
theorem EV.x (h : EV own te Γ d) : EX own X te Γ d (· = X) := fun M0 H0 σ H R s Q q => h M0 H0 X σ H R s Q fun v H' R' s' r => q v X H' R' rfl s' r
theorem EV.same (h : EV own te Γ d) {M0 H0 X : Hp} {σ : L2.St} {H R : Hp} (s : Stt M0 H0 own X Γ σ H R) {Q : VK} (q : ∀ v H' R', Same R R' → Stt M0 H0 own X Γ σ H' R' → Rep R' v d → Q v H') : te σ H Q := by
  obtain ⟨H1, bl, s1⟩ := s.base
  exact h R H1 X σ H R s1 Q fun v H' R' s' r => q v H' R' s'.g.m (s'.back bl) r
theorem EAV.same (h : EAV own ta Γ ds) {M0 H0 X : Hp} {σ : L2.St} {H R : Hp} (s : Stt M0 H0 own X Γ σ H R) {Q : List V → Hp → Prop} (q : ∀ v H' R', Same R R' → Stt M0 H0 own X Γ σ H' R' → Reps R' v ds → Q v H') : ta σ H Q := by
  obtain ⟨H1, bl, s1⟩ := s.base
  exact h R H1 X σ H R s1 Q fun v H' R' s' r => q v H' R' s'.g.m (s'.back bl) r
theorem eav_nil : EAV own tNil Γ [] := fun M0 H0 X σ H R s Q q => q [] H R s .nil
theorem eav_cons (h : EV own te Γ d) (hr : EAV own ta Γ ds) : EAV own (tCons te ta) Γ (d :: ds) := fun M0 H0 X σ H R s Q q =>
  h M0 H0 X σ H R s _ fun v H1 R1 s1 r1 => hr.same s1 fun vs H2 R2 e s2 r2 => q _ H2 R2 s2 (.cons (r1.mono e) r2)
theorem exx_imm {i : Nat} {p : Addr} {d0 : D} (nt : ∀ b xs, X b ≠ some (.tup xs)) (hi : i ∉ own) (hp : Γ[i]? = some (some (.opq (.ref p)))) (hx : ∀ M, Same X M → Rep M (.ref p) d0) (h : ED te (Γ.set i (some d0)) d) (im : imm d = true) : EX own X te Γ d (· = X) :=
  fun M0 H0 σ H R s Q q => h σ _ H s.sX_le (s.slotsX hi hp hx) Q fun v M' H' g r => q v X H' _ rfl (s.afterX g) (r.imm (s.keepX nt g) im)
theorem exx_flat {i : Nat} {p : Addr} {d0 : D} (nt : ∀ b xs, X b ≠ some (.tup xs)) (hi : i ∉ own) (hp : Γ[i]? = some (some (.opq (.ref p)))) (hx : ∀ M, Same X M → Rep M (.ref p) d0) (h : EF te (Γ.set i (some d0)) d) (im : flat d = true) : EX own X te Γ d (· = X) :=
  fun M0 H0 σ H R s Q q => h σ _ H s.sX_le (s.slotsX hi hp hx) Q fun p o M' H' g h0 h1 h2 c => by
    have s2 := s.afterX g
    have c2 := c.imm (s.keepX nt g) im
    have hR : lessX own X Γ σ M' p = none := by
      by_cases qx : X p = none
      · rw [lessX_no qx]
        by_cases qo : OwnA own Γ σ p
        · exact less_own qo
        · rw [less_not qo]
          exact h1
      · exact lessX_x qx
    have sub : Same (lessX own X Γ σ M') (upd (lessX own X Γ σ M') p o) := same_new hR o
    refine q (.ref p) X H' (upd (lessX own X Γ σ M') p o) rfl ⟨s2.len, ⟨s2.g.m.trans sub, s2.g.h, fun b u e => ?_, fun b e1 e2 => ?_⟩, fun i d hi e => ?_, fun i d hi e => ?_, s2.dis, fun b u e => ?_⟩ (c2.rep sub upd_same)
    · by_cases hb : b = p
      · subst hb
        rw [upd_same] at e
        cases e
        exact h2
      · rw [upd_ne hb] at e
        exact s2.g.s _ _ e
    · have hb : b ≠ p := fun z => e1 (by rw [z]; exact s.g.h.free h0)
      rw [upd_ne hb]
      exact s2.g.n b e1 e2
    · obtain ⟨v, q1, q2⟩ := s2.non i d hi e
      exact ⟨v, q1, q2.mono sub⟩
    · obtain ⟨q', q1, q2, q3, q4, u, q5, q6⟩ := s2.ow i d hi e
      obtain ⟨q'', r1, _, _, _, u', r5, _⟩ := s.ow i d hi e
      rw [q1] at r1
      cases r1
      have hq : q' ≠ p := fun z => by rw [z, h0] at r5; cases r5
      exact ⟨q', q1, by rw [upd_ne hq]; exact q2, q3, q4, u, q5, q6.mono sub⟩
    · obtain ⟨q1, q2, q3⟩ := s2.x b u e
      have hb : b ≠ p := fun z => by
        have := (s.x b u e).1
        rw [z, h0] at this
        cases this
      exact ⟨q1, by rw [upd_ne hb]; exact q2, q3⟩
theorem etx {i : Nat} {p : Addr} {d0 : D} (hi : i ∉ own) (hp : Γ[i]? = some (some (.opq (.ref p)))) (hx : ∀ M, Same X M → Rep M (.ref p) d0) (h : ET tt (Γ.set i (some d0)) b) : ETX own X tt Γ b :=
  fun M0 H0 σ H R s Q q => h σ _ H s.sX_le (s.slotsX hi hp hx) Q fun M' H' g => q H' _ (s.afterX g)
theorem ETT.x (h : ETT own tt Γ b) : ETX own X tt Γ b := fun M0 H0 σ H R s Q q => h M0 H0 X σ H R s Q q
theorem eix_mask {wi : TI} (h : EI wi (maskG own 0 Γ) ds) : EIX own X Γ wi ds := fun M0 H0 σ H R s Q q => h σ R H s.g.s s.mask _ fun J R1 H1 g1 wk => q J H1 R1 (s.grow g1) wk
theorem eix_list {K : PySem.W.Frag} (h : EX own X te Γ (.lst ds) (· = X)) : EIX own X Γ (iList K te) ds := fun M0 H0 σ H R s Q q => h M0 H0 σ H R s _ fun v X' H1 R1 e s1 r => by
  subst e
  cases r with
  | @lst p xs _ hp r =>
    refine ⟨p, rfl, ⟨xs, sqL (s1.g.s _ _ hp)⟩, q _ H1 R1 s1 ⟨fun i M2 H2 hi e1 e2 => ?_, fun M2 H2 e1 e2 => ?_, fun i M2 H2 x H3 hi e1 e2 y => ?_⟩⟩
    · exact ⟨xs, xs[i]'(by rw [r.length]; exact hi), sqL (e2 _ _ (e1 _ _ hp)), by simp [r.length, hi]⟩
    · exact ⟨xs, sqL (e2 _ _ (e1 _ _ hp)), Nat.le_of_eq r.length⟩
    · obtain ⟨rfl, y2⟩ := y
      have hx := y2 xs (sqL (e2 _ _ (e1 _ _ hp)))
      obtain ⟨d, hd, rd⟩ := r.getV hx
      exact ⟨M2, d, hd, .refl e2, rd.mono e1⟩

/-! promises that change X -/
def XAt (X H M B : Hp) : Prop := ∀ b o, X b = some o → H b = some o ∧ M b = none ∧ B b = none
def spX (R : Hp → List D → D → (Hp → Prop) → Prop) : Sp := fun vs H Q _ => ∃ M B X ds d S, Same M B ∧ Same B H ∧ XAt X H M B ∧ Reps M vs ds ∧ R X ds d S ∧ ∀ v X' M' H', S X' → Grow M B M' H' → XAt X' H' M' B → Rep M' v d → Q v H'
theorem ex_callX {R : Hp → List D → D → (Hp → Prop) → Prop} {E : XK} (ha : EAV own ta Γ ds) (hr : R X ds d S) : EX own X (tCall (spX R) [] E ta) Γ d S := fun M0 H0 σ H R0 s Q q =>
  ha M0 H0 X σ H R0 s _ fun vs H1 R1 s1 r1 => by
    have bx : ∀ b, X b ≠ none → cutX X H1 b = none := fun b h => cutX_x h
    have bn : ∀ b, X b = none → cutX X H1 b = H1 b := fun b h => cutX_no h
    refine ⟨R1, cutX X H1, X, ds, d, S, fun b o h => ?_, fun b o h => ?_, fun b o h => ?_, by rw [List.append_nil]; exact r1, hr, fun v X' M' H' hS g hx rv => ?_⟩
    · have hx : X b = none := by
        cases e : X b with
        | none => rfl
        | some u => rw [(s1.x b u e).2.1] at h; cases h
      rw [bn b hx]
      exact s1.g.s _ _ h
    · by_cases hx : X b = none
      · rw [bn b hx] at h
        exact h
      · rw [bx b hx] at h
        cases h
    · obtain ⟨h1, h2, h3⟩ := s1.x b o h
      exact ⟨h1, h2, bx b (by rw [h]; simp)⟩
    · have toB : ∀ b o, H0 b = some o → cutX X H1 b = some o := fun b o h => by
        have hx : X b = none := by
          cases e : X b with
          | none => rfl
          | some u => rw [(s1.x b u e).2.2] at h; cases h
        rw [bn b hx]
        exact s1.g.h _ _ h
      refine q v X' H' M' hS ⟨s1.len, ⟨s1.g.m.trans g.m, fun b o h => g.h _ _ (toB b o h), g.s, fun b h1 h2 => ?_⟩, fun i d hi e => ?_, fun i d hi e => ?_, s1.dis, fun b o e => ?_⟩ rv
      · cases e : H0 b with
        | none => exact absurd e h1
        | some o => exact g.n b (by rw [toB b o e]; simp) (s1.g.n b h1 h2)
      · obtain ⟨v, q1, q2⟩ := s1.non i d hi e
        exact ⟨v, q1, q2.mono g.m⟩
      · obtain ⟨p, q1, q2, q3, q4, u, q5, q6⟩ := s1.ow i d hi e
        have hB : cutX X H1 p = some u := by rw [bn p q4]; exact q5
        refine ⟨p, q1, g.n p (by rw [hB]; simp) q2, q3, ?_, u, g.h _ _ hB, q6.mono g.m⟩
        cases e : X' p with
        | none => rfl
        | some w => rw [(hx p w e).2.2] at hB; cases hB
      · obtain ⟨h1, h2, h3⟩ := hx b o e
        refine ⟨h1, h2, ?_⟩
        cases e0 : H0 b with
        | none => rfl
        | some u => rw [toB b u e0] at h3; cases h3
/-- a pure call of one argument that changes X -/
theorem ex_call1 {R : List D → D → Prop} {E : XK} {a : D} (ha : EX own X te Γ a S) (hr : R [a] d) : EX own X (tCall (spF R) [] E (tCons te tNil)) Γ d S := fun M0 H0 σ H R0 s Q q =>
  ha M0 H0 σ H R0 s _ fun v X' H1 R1 hS s1 r1 => ⟨R1, [a], d, s1.g.s, by rw [List.append_nil]; exact .cons r1 .nil, hr, fun v M2 H2 g r => q v X' H2 M2 hS (s1.grow g) r⟩
end

/-! statements -/
def SJX (M0 H0 : Hp) (own : List Nat) (J : Gm → Hp → Prop) (σ : L2.St) (H : Hp) : Prop := ∃ Γ X, J Γ X ∧ ST M0 H0 own X Γ σ H
section
variable {M0 H0 : Hp} {own : List Nat} {X : Hp} {Γ Γ' : Gm} {t u tb : TS} {D : Ends} {te : TE} {tt : TT} {d : RN.D} {g : L2.TG} {b : Bool} {K : PySem.W.Frag} {S : Hp → Prop}
theorem nx_sjx {J : Gm → Hp → Prop} (j : J Γ' X) (h : LeG Γ' Γ := by repeat (first | exact trivial | refine ⟨rfl, ?_⟩)) : Nx M0 H0 own X Γ (SJX M0 H0 own J) := fun σ H ⟨R, s⟩ => ⟨Γ', X, j, R, s.le h⟩
theorem ho_asgX (h : EX own X te Γ d S) (hg : TgV own g d Γ Γ') (k : ∀ X', S X' → Nx M0 H0 own X' Γ' D.nx) : Ho M0 H0 own X Γ (tAsg te g) D := fun σ H ⟨R, s⟩ =>
  h M0 H0 σ H R s _ fun v X' H' R' hS s' r => hg M0 H0 X' σ H' R' v s' r _ fun σ' s2 => k X' hS σ' H' ⟨R', s2⟩
theorem hs_setX {i : Nat} (h : EX own X te Γ d S) (k : ∀ X', S X' → Ho M0 H0 own X' (Γ.set i (some d)) u D) (hi : own.contains i = false := by rfl) (hl : Nat.blt i Γ.length = true := by rfl) : Ho M0 H0 own X Γ (tSeq (tAsg te (gName i)) u) D :=
  ho_seq (ho_asgX h (tg_name (fun z => by rw [List.contains_iff_mem.mpr z] at hi; cases hi) (Nat.le_of_ble_eq_true hl)) k)
theorem ho_ifX (h : ETX own X tt Γ b) (h1 : b = true → Ho M0 H0 own X Γ t D) (h2 : b = false → Ho M0 H0 own X Γ u D) : Ho M0 H0 own X Γ (tIfS tt t u) D := fun σ H ⟨R, s⟩ => h M0 H0 σ H R s _ fun H' R' s' => by
  cases b with
  | true => exact h1 rfl σ H' ⟨R', s'⟩
  | false => exact h2 rfl σ H' ⟨R', s'⟩
theorem ho_retX (h : EX own X te Γ d S) (k : ∀ v X' M' H', S X' → Grow M0 H0 M' H' → XAt X' H' M' H0 → Rep M' v d → D.rt v H') : Ho M0 H0 own X Γ (tRet te) D := fun σ H ⟨R, s⟩ => h M0 H0 σ H R s _ fun v X' H' R' hS s' r => k v X' R' H' hS s'.g s'.x r
/-- the raw objects are given away -/
theorem Stt.xfreeze {σ : L2.St} {H R : Hp} (s : Stt M0 H0 own X Γ σ H R) : ∃ R', Same X R' ∧ Stt M0 H0 own nilH Γ σ H R' := by
  have e0 : ∀ b, X b = none → orX X R b = R b := fun b h => orX_no h
  have e1 : ∀ b, X b ≠ none → orX X R b = X b := fun b h => orX_x h
  have sub : Same R (orX X R) := fun b o h => by
    have hx : X b = none := by
      cases e : X b with
      | none => rfl
      | some u => rw [(s.x b u e).2.1] at h; cases h
    rw [e0 b hx]
    exact h
  refine ⟨orX X R, fun b o h => by rw [e1 b (by rw [h]; simp)]; exact h, s.len, ⟨s.g.m.trans sub, s.g.h, fun b o h => ?_, fun b h1 h2 => ?_⟩, fun i d hi e => ?_, fun i d hi e => ?_, s.dis, fun b o e => by cases e⟩
  · by_cases hx : X b = none
    · rw [e0 b hx] at h
      exact s.g.s _ _ h
    · rw [e1 b hx] at h
      exact (s.x b o h).1
  · have hx : X b = none := by
      cases e : X b with
      | none => rfl
      | some u => exact absurd (s.x b u e).2.2 h1
    rw [e0 b hx]
    exact s.g.n b h1 h2
  · obtain ⟨v, h1, h2⟩ := s.non i d hi e
    exact ⟨v, h1, h2.mono sub⟩
  · obtain ⟨p, h1, h2, h3, h4, o, h5, h6⟩ := s.ow i d hi e
    exact ⟨p, h1, by rw [e0 p h4]; exact h2, h3, rfl, o, h5, h6.mono sub⟩
/-- return x, a raw object -/
theorem ho_retRaw {i : Nat} {p : Addr} (hi : i ∉ own) (hp : Γ[i]? = some (some (.opq (.ref p)))) (hx : ∀ M, Same X M → Rep M (.ref p) d) (k : ∀ v M' H', Grow M0 H0 M' H' → Rep M' v d → D.rt v H') : Ho M0 H0 own X Γ (tRet (tVar i)) D := fun σ H ⟨R, s⟩ => by
  obtain ⟨R', e, s'⟩ := s.xfreeze
  obtain ⟨v, h1, h2⟩ := s.non i _ hi hp
  cases h2
  exact ⟨_, h1, k _ R' H s'.g (hx R' e)⟩
theorem ho_forX {α σt : Type} {wi : TI} (as : List α) (enc : α → RN.D) (I : Nat → σt → Hp → Prop) (Γs : σt → Gm) (s0 : σt) (hI : EIX own X (Γs s0) wi (as.map enc)) (i0 : I 0 s0 X)
    (hs : ∀ M1 H1, BLe M0 H0 M1 H1 → ∀ (k : Nat) (a : α) (s : σt) (X1 : Hp), as[k]? = some a → I k s X1 → ∃ Γ2, TgV own g (enc a) (Γs s) Γ2 ∧ ∀ JJ : Gm → Hp → Prop, (∀ s' X', I (k + 1) s' X' → JJ (Γs s') X') → Ho M1 H1 own X1 Γ2 tb { D with nx := SJX M1 H1 own JJ, ct := SJX M1 H1 own JJ, bk := D.nx })
    (hd : ∀ s X', I as.length s X' → Nx M0 H0 own X' (Γs s) D.nx) (h0 : LeG (Γs s0) Γ := by repeat (first | exact trivial | refine ⟨rfl, ?_⟩)) : Ho M0 H0 own X Γ (tFor wi g tb) D := fun σ H ⟨R, s⟩ => by
  refine hI M0 H0 σ H R (s.le h0) _ fun It H1 R1 s1 wk => ?_
  obtain ⟨H2, bl, s2⟩ := s1.base
  refine ⟨fun i m σ' H' => m = as.length - i ∧ i ≤ as.length ∧ SJX R1 H2 own (fun Γ1 X1 => ∃ st, I i st X1 ∧ Γ1 = Γs st) σ' H', ⟨as.length, by simp, Nat.zero_le _, Γs s0, X, ⟨s0, i0, rfl⟩, R1, s2⟩, ?_⟩
  rintro i m σ' H' ⟨rfl, hi, Γ1, X1, ⟨st, hJ, rfl⟩, R2, s3⟩
  by_cases hlt : i < as.length
  · have hl : i < (as.map enc).length := by rw [List.length_map]; exact hlt
    refine .inr ⟨wk.go i R2 H' hl s3.g.m s3.g.s, SJX R1 H2 own (fun Γ1 X1 => ∃ st, I (i + 1) st X1 ∧ Γ1 = Γs st), fun σ3 H3 q => ⟨as.length - (i + 1), by omega, rfl, hlt, q⟩, fun x H3 y => ?_⟩
    obtain ⟨R3, d, ed, g3, rd⟩ := wk.yld i R2 H' x H3 hl s3.g.m s3.g.s y
    have ha : as[i]? = some as[i] := List.getElem?_eq_getElem hlt
    rw [List.getElem?_map, ha] at ed
    cases ed
    obtain ⟨Γ2, tg, ho⟩ := hs R1 H2 bl i as[i] st X1 ha hJ
    exact tg R1 H2 X1 σ' H3 R3 x (s3.grow g3) rd _ fun σ4 s4 => ho _ (fun s' X' h => ⟨s', h, rfl⟩) σ4 H3 ⟨R3, s4⟩
  · have e : i = as.length := by omega
    subst e
    refine .inl ⟨?_, hd st X1 hJ σ' H' ⟨R2, s3.back bl⟩⟩
    have q := wk.stop R2 H' s3.g.m s3.g.s
    rw [List.length_map] at q
    exact q
theorem hs_forX {α σt : Type} {wi : TI} (as : List α) (enc : α → RN.D) (I : Nat → σt → Hp → Prop) (Γs : σt → Gm) (s0 : σt) (hI : EIX own X (Γs s0) wi (as.map enc)) (i0 : I 0 s0 X)
    (hs : ∀ M1 H1, BLe M0 H0 M1 H1 → ∀ (k : Nat) (a : α) (s : σt) (X1 : Hp), as[k]? = some a → I k s X1 → ∃ Γ2, TgV own g (enc a) (Γs s) Γ2 ∧ ∀ JJ : Gm → Hp → Prop, (∀ s' X', I (k + 1) s' X' → JJ (Γs s') X') → Ho M1 H1 own X1 Γ2 tb { D with nx := SJX M1 H1 own JJ, ct := SJX M1 H1 own JJ, bk := u D })
    (hd : ∀ s X', I as.length s X' → Ho M0 H0 own X' (Γs s) u D) (h0 : LeG (Γs s0) Γ := by repeat (first | exact trivial | refine ⟨rfl, ?_⟩)) : Ho M0 H0 own X Γ (tSeq (tFor wi g tb) u) D :=
  ho_seq (ho_forX (D := { D with nx := u D }) as enc I Γs s0 hI i0 hs hd h0)
theorem hs_whileX {σt : Type} {c : σt → Bool} {f : σt → σt} {n : Nat} {s z : σt} (Γs : σt → Gm) (I : σt → Hp → Prop) (wh : Wh c f n s z) (hI : I s X)
    (hc : ∀ s X1, I s X1 → ETT own tt (Γs s) (c s))
    (hb : ∀ (s : σt) (X1 : Hp) (JJ : Gm → Hp → Prop), I s X1 → c s = true → (∀ X', I (f s) X' → JJ (Γs (f s)) X') → Ho M0 H0 own X1 (Γs s) tb { D with nx := SJX M0 H0 own JJ, ct := SJX M0 H0 own JJ, bk := u D })
    (hd : ∀ X', I z X' → c z = false → Ho M0 H0 own X' (Γs z) u D) (h0 : LeG (Γs s) Γ := by repeat (first | exact trivial | refine ⟨rfl, ?_⟩)) : Ho M0 H0 own X Γ (tSeq (tWhile tt tb) u) D := fun σ H ⟨R, st⟩ => by
  refine ⟨fun m σ' H' => ∃ s' X', Wh c f m s' z ∧ I s' X' ∧ ST M0 H0 own X' (Γs s') σ' H', ⟨n, s, X, wh, hI, R, st.le h0⟩, ?_⟩
  rintro m σ' H' ⟨s', X', w, hi, R1, s1⟩
  refine hc s' X' hi M0 H0 X' σ' H' R1 s1 _ fun H2 R2 s2 => ?_
  cases w with
  | stop e =>
    rw [e]
    exact hd X' hi e σ' H2 ⟨R2, s2⟩
  | @go m _ _ e w =>
    rw [e]
    exact ⟨SJX M0 H0 own (fun Γ2 X2 => I (f s') X2 ∧ Γ2 = Γs (f s')), fun σ3 H3 ⟨Γ3, X3, ⟨h3, e3⟩, s3⟩ => ⟨m, Nat.lt_succ_self _, f s', X3, w, h3, e3 ▸ s3⟩, hb s' X' _ hi e (fun X2 h2 => ⟨h2, rfl⟩) σ' H2 ⟨R2, s2⟩⟩
theorem ho_appX {i : Nat} {ds : List RN.D} (hi : i ∈ own) (hd : Γ[i]? = some (some (.lst ds))) (h : EX own X te Γ d S) (hl : ds.length < 100000) (k : ∀ X', S X' → Nx M0 H0 own X' (Γ.set i (some (.lst (ds ++ [d])))) D.nx) :
    Ho M0 H0 own X Γ (tDrop (tBM K "list" rAppend (tVar i) (tCons te tNil))) D := fun σ H ⟨R, s⟩ => by
  obtain ⟨p, h1, h2, h3, h4, o, h5, h6⟩ := s.ow i _ hi hd
  cases h6 with
  | @lst xs _ r =>
    refine ⟨.ref p, h1, .inl ⟨rfl, xs, .inl (.inl h5)⟩, ?_⟩
    refine h M0 H0 σ H R s _ fun v X' H' R' hS s' rv => ?_
    obtain ⟨p', q1, q2, q3, q4, o', q5, q6⟩ := s'.ow i _ hi hd
    rw [h1] at q1
    cases q1
    cases q6 with
    | @lst xs' _ r' =>
      exact ⟨p, xs', v, rfl, rfl, q5, by rw [r'.length]; exact Nat.lt_of_lt_of_le hl (by decide), k X' hS σ _ ⟨R', s'.put hi hd h1 (.lst (r'.append (.one rv)))⟩⟩
end
section
variable {P : Program} {w : World} {K : PySem.W.Frag} {mg : Str → Option Value} {base : Heap}
theorem DefAt.calX {x : Str} {st : Stmt} {ps N : List Str} {k : Nat} {R : Hp → List D → D → (Hp → Prop) → Prop} (d : DefAt K mg x st ps) (S : FnScope N ps (defScope st)) (own : List Nat) (ho : ∀ i ∈ own, ps.length ≤ i) (len : ∀ X ds d S, R X ds d S → ds.length = ps.length)
    (hb : ∀ (f : Addr) (cdv : Value) (A : Around) (outer : List Env) (s : Shared) (H : Hp) (E : XK), Room k (A.deeper (PyProof.Rows.envOfC x (defScope st) s.heap.objs.size f cdv)) →
      ∃ t, PSs (cxOf CX0 P w K mg base N x (defScope st) f cdv A outer s H E).nox (defBody st) t ∧
        ∀ X ds d Z, R X ds d Z → ∀ (M0 H0 : Hp) (Q : VK), (∀ v X' M' H', Z X' → Grow M0 H0 M' H' → XAt X' H' M' H0 → Rep M' v d → Q v H') →
          Ho M0 H0 own X (ds.map some ++ List.replicate (N.length - ds.length) none) t { nx := fun _ H' => Q .non H', rt := Q }) : Cal P w K mg base (k + 1) x ps (spX R) := by
  obtain ⟨f, fd, F, m, b⟩ := d
  refine ⟨f, fd, F.ok S (fun vs H Q E ⟨M, B, X, ds, d, Z, _, _, _, r, h, _⟩ => by rw [r.length]; exact len _ _ _ _ h) (fun cdv A outer s H vs Q E hr h => ?_), m, F.kp, b⟩
  obtain ⟨M, B, X, ds, d, Z, e1, e2, hx, r, h, q⟩ := h
  obtain ⟨t, h1, h2⟩ := hb f cdv A outer s H E hr
  refine ⟨t, h1, h2 X ds d Z h M B Q q _ _ ?_⟩
  show ST M B own X _ (vs.map some ++ List.replicate (N.length - vs.length) none) H
  rw [r.length]
  obtain ⟨R0, s0⟩ := st_start (.refl M) r (N.length - ds.length) own fun i hi => by rw [len _ _ _ _ h]; exact ho i hi
  have get : ∀ (i : Nat) (d : D), i ∈ own → ¬ (ds.map some ++ List.replicate (N.length - ds.length) none)[i]? = some (some d) := fun i d hi q => by
    have hi2 := ho i hi
    rw [← len _ _ _ _ h] at hi2
    rw [List.getElem?_append_right (by rw [List.length_map]; omega), List.getElem?_replicate] at q
    split at q <;> simp at q
  have s0' := (st_start (.refl M) r (N.length - ds.length) [] (by simp))
  obtain ⟨R1, s1⟩ := s0'
  refine ⟨M, s0.len, ⟨.refl _, e2, e1.trans e2, fun _ _ h => h⟩, fun i d hi q => ?_, fun i d hi q => absurd q (get i d hi), fun i j di dj p hi _ q => absurd q (get i di hi), hx⟩
  have hi2 : i < ds.length := by
    rcases Nat.lt_or_ge i ds.length with z | z
    · exact z
    · rw [List.getElem?_append_right (by rw [List.length_map]; exact z), List.getElem?_replicate] at q
      split at q <;> simp at q
  rw [List.getElem?_append_left (by rw [List.length_map]; exact hi2), List.getElem?_map, List.getElem?_eq_getElem hi2] at q
  have q2 : ds[i] = d := by simpa using q
  subst q2
  obtain ⟨v, ev, rv⟩ := r.get (List.getElem?_eq_getElem hi2)
  refine ⟨v, ?_, rv⟩
  rw [List.getElem?_append_left (by rw [List.length_map, r.length]; exact hi2), List.getElem?_map, ev]
  rfl
theorem DefAt.noneX {x : Str} {st : Stmt} {ps : List Str} {k : Nat} {R : Hp → List D → D → (Hp → Prop) → Prop} (d : DefAt K mg x st ps) (no : ∀ X ds d S, ¬ R X ds d S) : Cal P w K mg base k x ps (spX R) := by
  obtain ⟨f, fd, F, m, b⟩ := d
  have no2 : ∀ vs H Q E, ¬ spX R vs H Q E := fun vs H Q E ⟨M, B, X, ds, d, S, _, _, _, _, h, _⟩ => no X ds d S h
  exact ⟨f, fd, ⟨fun vs H Q E h => absurd h (no2 vs H Q E), fun A outer s H args us vs Q E _ _ _ _ h => absurd h (no2 vs H Q E)⟩, m, F.kp, b⟩
end
end RN

end
section
set_option maxRecDepth 100000
set_option maxHeartbeats 4000000
/-! trees, what the program tells of them -/
namespace RN
open PySem Sym
inductive Tr where
  | leaf (x : Sym) | node (n : Nat) (l : List Tr)
mutual
def depT : Tr → Nat
  | .leaf _ => 0
  | .node _ l => 1 + depL l
def depL : List Tr → Nat
  | [] => 0
  | t :: l => max (depT t) (depL l)
end
mutual
def cntT : Tr → Nat
  | .leaf _ => 0
  | .node _ l => 1 + cntL l
def cntL : List Tr → Nat
  | [] => 0
  | t :: l => cntT t + cntL l
end
mutual
def ylT : Tr → List Sym
  | .leaf x => [x]
  | .node _ l => ylL l
def ylL : List Tr → List Sym
  | [] => []
  | t :: l => ylT t ++ ylL l
end
mutual
def nmT (b : Bool) : Tr → List Nat
  | .leaf _ => []
  | .node n l => n :: (if b then (nmL b l).reverse else nmL b l).flatten
def nmL (b : Bool) : List Tr → List (List Nat)
  | [] => []
  | t :: l => nmT b t :: nmL b l
end
def nameAt (g : SG) (n : Nat) : Sym := ((g[n]?).map (·.1)).getD .S
mutual
def spT (g : SG) : Tr → Nat → List (Sym × Nat × Nat) × Nat
  | .leaf _, p => ([], p + 1)
  | .node n l, p => ((nameAt g n, p, (spL g l p).2) :: (spL g l p).1, (spL g l p).2)
def spL (g : SG) : List Tr → Nat → List (Sym × Nat × Nat) × Nat
  | [], p => ([], p)
  | t :: l, p => ((spT g t p).1 ++ (spL g l (spT g t p).2).1, (spL g l (spT g t p).2).2)
end
mutual
inductive Okt (g : SG) : Sym → Tr → Prop
  | leaf {x : Sym} : isL x = true → Okt g x (.leaf x)
  | node {n : Nat} {r : Sym × List Sym} {l : List Tr} : g[n]? = some r → Okts g r.2 l → Okt g r.1 (.node n l)
inductive Okts (g : SG) : List Sym → List Tr → Prop
  | nil : Okts g [] []
  | cons {x : Sym} {t : Tr} {ps : List Sym} {l : List Tr} : Okt g x t → Okts g ps l → Okts g (x :: ps) (t :: l)
end
theorem Okts.len {g : SG} : ∀ {ps : List Sym} {l : List Tr}, Okts g ps l → ps.length = l.length
  | _, _, .nil => rfl
  | _, _, .cons _ h => by rw [List.length_cons, List.length_cons, Okts.len h]
theorem Okts.get {g : SG} : ∀ {ps : List Sym} {l : List Tr}, Okts g ps l → ∀ {k : Nat} {x : Sym} {t : Tr}, ps[k]? = some x → l[k]? = some t → Okt g x t
  | _, _, .cons h r, 0, x, t, e1, e2 => by
    simp at e1 e2
    subst e1
    subst e2
    exact h
  | _, _, .cons h r, k + 1, x, t, e1, e2 => Okts.get r (k := k) (by simpa using e1) (by simpa using e2)
theorem Okts.append {g : SG} : ∀ {ps qs : List Sym} {l m : List Tr}, Okts g ps l → Okts g qs m → Okts g (ps ++ qs) (l ++ m)
  | _, _, _, _, .nil, h => h
  | _, _, _, _, .cons h r, s => .cons h (Okts.append r s)
theorem Okts.reverse {g : SG} : ∀ {ps : List Sym} {l : List Tr}, Okts g ps l → Okts g ps.reverse l.reverse
  | _, _, .nil => .nil
  | _, _, .cons h r => by
    rw [List.reverse_cons, List.reverse_cons]
    exact (Okts.reverse r).append (.cons h .nil)
theorem depL_mem {t : Tr} : ∀ {l : List Tr}, t ∈ l → depT t ≤ depL l
  | x :: l, h => by
    rw [depL]
    rcases List.mem_cons.mp h with e | e
    · subst e
      omega
    · have := depL_mem e
      omega
theorem cntL_mem {t : Tr} : ∀ {l : List Tr}, t ∈ l → cntT t ≤ cntL l
  | x :: l, h => by
    rw [cntL]
    rcases List.mem_cons.mp h with e | e
    · subst e
      omega
    · have := cntL_mem e
      omega
theorem ylL_mem {t : Tr} : ∀ {l : List Tr}, t ∈ l → (ylT t).length ≤ (ylL l).length
  | x :: l, h => by
    rw [ylL, List.length_append]
    rcases List.mem_cons.mp h with e | e
    · subst e
      omega
    · have := ylL_mem e
      omega
theorem ylL_flat : ∀ l : List Tr, ylL l = (l.map ylT).flatten
  | [] => rfl
  | t :: l => by rw [ylL, ylL_flat l, List.map_cons, List.flatten_cons]
theorem nmL_map (b : Bool) : ∀ l : List Tr, nmL b l = l.map (nmT b)
  | [] => rfl
  | t :: l => by rw [nmL, nmL_map b l, List.map_cons]
theorem cntL_sum : ∀ l : List Tr, cntL l = (l.map cntT).sum
  | [] => rfl
  | t :: l => by rw [cntL, cntL_sum l, List.map_cons, List.sum_cons]
theorem nmT_node (b : Bool) (n : Nat) (l : List Tr) : nmT b (.node n l) = n :: ((if b then l.reverse else l).map (nmT b)).flatten := by
  rw [nmT, nmL_map]
  cases b
  · rfl
  · simp only [if_pos, List.map_reverse]
theorem sum_reverse' (l : List Nat) : l.reverse.sum = l.sum := by
  induction l with
  | nil => rfl
  | cons a l ih =>
    rw [List.reverse_cons, List.sum_append, ih, List.sum_cons, List.sum_cons, List.sum_nil]
    omega
mutual
theorem nmT_len (b : Bool) : ∀ t : Tr, (nmT b t).length = cntT t
  | .leaf _ => rfl
  | .node n l => by
    rw [nmT, cntT, List.length_cons, List.length_flatten]
    have e : ((if b = true then (nmL b l).reverse else nmL b l).map List.length).sum = ((nmL b l).map List.length).sum := by
      cases b
      · rfl
      · rw [if_pos rfl, List.map_reverse, sum_reverse']
    rw [e, nmL_len b l]
    omega
theorem nmL_len (b : Bool) : ∀ l : List Tr, ((nmL b l).map List.length).sum = cntL l
  | [] => rfl
  | t :: l => by rw [nmL, List.map_cons, List.sum_cons, cntL, nmT_len b t, nmL_len b l]
end
theorem spL_append (g : SG) : ∀ (l m : List Tr) (p : Nat), spL g (l ++ m) p = ((spL g l p).1 ++ (spL g m (spL g l p).2).1, (spL g m (spL g l p).2).2)
  | [], m, p => by simp [spL]
  | t :: l, m, p => by simp [spL, spL_append g l m]
mutual
theorem spT_len (g : SG) : ∀ (t : Tr) (p : Nat), (spT g t p).1.length = cntT t
  | .leaf _, p => rfl
  | .node n l, p => by
    rw [spT, cntT, List.length_cons, spL_len g l p]
    omega
theorem spL_len (g : SG) : ∀ (l : List Tr) (p : Nat), (spL g l p).1.length = cntL l
  | [], p => rfl
  | t :: l, p => by rw [spL, cntL, List.length_append, spT_len g t, spL_len g l]
end
theorem cntL_take (l : List Tr) (k : Nat) : cntL (l.take k) ≤ cntL l := by
  induction l generalizing k with
  | nil => simp
  | cons t l ih =>
    cases k with
    | zero => simp [cntL]
    | succ k =>
      rw [List.take_succ_cons, cntL, cntL]
      have := ih k
      omega
/-- the text of letters -/
def txt (o : Bool) (l : List Sym) : Str := ⟨(l.map (cd o)).toArray⟩
theorem txt_one {o : Bool} {x : Sym} (h : isN x = false) : txt o [x] = em o x := by rw [em_cd h]; rfl
theorem txt_len (o : Bool) (l : List Sym) : (txt o l).length = l.length := by show ((l.map (cd o)).toArray).size = _; simp
theorem str_app (a b : Str) : (a ++ b : Str) = ⟨a.cps ++ b.cps⟩ := rfl
theorem txt_app (o : Bool) (l m : List Sym) : txt o l ++ txt o m = txt o (l ++ m) := by
  rw [str_app]
  unfold txt
  simp
theorem Okts.parts {g : SG} (h6 : ∀ r ∈ g, r.2.length ≤ 6) {n : Nat} {r : Sym × List Sym} (h : g[n]? = some r) : r.2.length ≤ 6 := h6 r (List.mem_of_getElem? h)
mutual
theorem Okt.yl {g : SG} (h6 : ∀ r ∈ g, r.2.length ≤ 6) : ∀ {x : Sym} {t : Tr}, Okt g x t → (∀ y ∈ ylT t, isL y = true) ∧ (ylT t).length ≤ 6 * cntT t + 1
  | _, _, .leaf h => by simp [ylT, h]
  | _, _, .node (l := l) e h => by
    have q := Okts.yl h6 h
    have e2 := Okts.parts h6 e
    rw [ylT, cntT]
    exact ⟨q.1, by rw [h.len] at e2; omega⟩
theorem Okts.yl {g : SG} (h6 : ∀ r ∈ g, r.2.length ≤ 6) : ∀ {ps : List Sym} {l : List Tr}, Okts g ps l → (∀ y ∈ ylL l, isL y = true) ∧ (ylL l).length ≤ 6 * cntL l + l.length
  | _, _, .nil => by simp [ylL]
  | _, _, .cons h r => by
    have q1 := Okt.yl h6 h
    have q2 := Okts.yl h6 r
    rw [ylL, cntL, List.length_append, List.length_cons]
    refine ⟨fun y hy => ?_, by omega⟩
    rcases List.mem_append.mp hy with e | e
    · exact q1.1 y e
    · exact q2.1 y e
end
end RN

end
section
set_option maxRecDepth 100000
set_option maxHeartbeats 4000000
/-! the marks of a grammar, as the program finds them -/
namespace RN
open PySem Sym
theorem symN_len {l : List Sym} (h : l.Nodup) (hn : ∀ x ∈ l, isN x = true) : l.length ≤ 3 := by
  have := List.Nodup.length_le_of_subset (l₂ := [.A, .B, .S]) h (fun x hx => by have := hn x hx; cases x <;> simp_all [isN])
  simpa using this
/-! names that make, names that make nothing's text -/
def mkStep (ok : List Sym → List Sym → Bool) (s : List Sym × Bool) (r : Sym × List Sym) : List Sym × Bool :=
  if (!decide (r.1 ∈ s.1) && ok s.1 r.2) = true then (addN s.1 r.1, true) else s
def mkPass (ok : List Sym → List Sym → Bool) (g : SG) (s : List Sym × Bool) : List Sym × Bool := g.foldl (mkStep ok) (s.1, false)
def okM (k ps : List Sym) : Bool := ps.all fun p => isL p || decide (p ∈ k)
def okE (k ps : List Sym) : Bool := ps.all fun p => decide (p ∈ k)
def MkW (ok : List Sym → List Sym → Bool) (g : SG) (n : Nat) (t : List Sym × Bool) : Prop := Wh (fun s => s.2) (mkPass ok g) n ([], true) t
def marked (g : SG) (k : List Sym) : List Sym := (namesS g).filter fun x => decide (x ∈ k)
theorem mkStep_nd {ok : List Sym → List Sym → Bool} {s : List Sym × Bool} {r : Sym × List Sym} (h : s.1.Nodup) : (mkStep ok s r).1.Nodup := by
  unfold mkStep
  split
  · exact nd_addN h
  · exact h
theorem mkFold_nd {ok : List Sym → List Sym → Bool} : ∀ (g : SG) (s : List Sym × Bool), s.1.Nodup → (g.foldl (mkStep ok) s).1.Nodup
  | [], s, h => h
  | r :: g, s, h => mkFold_nd g _ (mkStep_nd h)
/-! what is reached -/
def rcIn (s : List Sym × List Sym) (p : Sym) : List Sym × List Sym := if (!isL p && !decide (p ∈ s.1)) = true then (addN s.1 p, s.2 ++ [p]) else s
def rcRule (here : Sym) (s : List Sym × List Sym) (r : Sym × List Sym) : List Sym × List Sym := if r.1 = here then r.2.foldl rcIn s else s
def rcPass (rs : SG) (s : List Sym × List Sym) : List Sym × List Sym := match s.2.getLast? with
  | none => s
  | some h => rs.foldl (rcRule h) (s.1, s.2.dropLast)
def RcW (rs : SG) (x : Sym) (n : Nat) (t : List Sym × List Sym) : Prop := Wh (fun s => !s.2.isEmpty) (rcPass rs) n ([x], [x]) t
structure RcI (s : List Sym × List Sym) : Prop where
  nd : s.1.Nodup
  nd2 : s.2.Nodup
  sub : ∀ x ∈ s.2, x ∈ s.1
theorem rcIn_I {s : List Sym × List Sym} {p : Sym} (h : RcI s) : RcI (rcIn s p) := by
  unfold rcIn
  split
  · rename_i e
    simp only [Bool.and_eq_true, Bool.not_eq_true', decide_eq_false_iff_not] at e
    refine ⟨nd_addN h.nd, ?_, fun x hx => ?_⟩
    · refine List.nodup_append.mpr ⟨h.nd2, by simp, ?_⟩
      intro x hx y hy z
      have : y = p := by simpa using hy
      subst this
      subst z
      exact e.2 (h.sub _ hx)
    · rw [mem_addN]
      rcases List.mem_append.mp hx with e2 | e2
      · exact .inl (h.sub x e2)
      · exact .inr (by simpa using e2)
  · exact h
theorem rcFold_I : ∀ (ps : List Sym) (s : List Sym × List Sym), RcI s → RcI (ps.foldl rcIn s)
  | [], s, h => h
  | p :: ps, s, h => rcFold_I ps _ (rcIn_I h)
theorem rcRule_I {here : Sym} {s : List Sym × List Sym} {r : Sym × List Sym} (h : RcI s) : RcI (rcRule here s r) := by
  unfold rcRule
  split
  · exact rcFold_I _ _ h
  · exact h
theorem rcRules_I {here : Sym} : ∀ (g : SG) (s : List Sym × List Sym), RcI s → RcI (g.foldl (rcRule here) s)
  | [], s, h => h
  | r :: g, s, h => rcRules_I g _ (rcRule_I h)
theorem rcPop_I {s : List Sym × List Sym} (h : RcI s) : RcI (s.1, s.2.dropLast) :=
  ⟨h.nd, h.nd2.sublist (List.dropLast_sublist _), fun x hx => h.sub x ((List.dropLast_sublist _).mem hx)⟩
theorem rcPass_I {g : SG} {s : List Sym × List Sym} (h : RcI s) : RcI (rcPass g s) := by
  unfold rcPass
  split
  · exact h
  · exact rcRules_I _ _ (rcPop_I h)
def useful (g : SG) (made : List Sym) : SG := g.filter fun r => okM made r.2
/-! what a row of parts begins with -/
def begins (k : List (Sym × List Sym)) (hol : List Sym) : List Sym → List Sym → List Sym
  | acc, [] => acc
  | acc, p :: ps => if isL p = true then acc ++ [p] else if p ∈ hol then begins k hol (acc ++ (getA k p).getD []) ps else acc ++ (getA k p).getD []
/-! least texts, lengths -/
def okF {β : Type} (f : List (Sym × β)) (ps : List Sym) : Bool := ps.all fun p => isL p || (getA f p).isSome
def sub1 (f : List (Sym × List Sym)) (p : Sym) : List Sym := if isL p = true then [p] else (getA f p).getD []
def subT (f : List (Sym × List Sym)) (ps : List Sym) : List Sym := (ps.map (sub1 f)).flatten
def lessL (x y : List Sym) : Bool := if x.length = y.length then decide (x.map idx < y.map idx) else decide (x.length < y.length)
def leStep (s : List (Sym × List Sym) × Bool) (r : Sym × List Sym) : List (Sym × List Sym) × Bool :=
  if okF s.1 r.2 = true then
    if (!(getA s.1 r.1).isSome || lessL (subT s.1 r.2) ((getA s.1 r.1).getD [])) = true then (putA s.1 r.1 (subT s.1 r.2), true) else s
  else s
def lePass (g : SG) (s : List (Sym × List Sym) × Bool) : List (Sym × List Sym) × Bool := g.foldl leStep (s.1, false)
def LeW (g : SG) (n : Nat) (t : List (Sym × List Sym) × Bool) : Prop := Wh (fun s => s.2) (lePass g) n ([], true) t
def num1 (f : List (Sym × Nat)) (p : Sym) : Nat := if isL p = true then 1 else (getA f p).getD 0
def numT (f : List (Sym × Nat)) (ps : List Sym) : Nat := (ps.map (num1 f)).sum
def lnStep (s : List (Sym × Nat) × Bool) (r : Sym × List Sym) : List (Sym × Nat) × Bool :=
  if okF s.1 r.2 = true then
    if numT s.1 r.2 < (getA s.1 r.1).getD (numT s.1 r.2 + 1) then (putA s.1 r.1 (numT s.1 r.2), true) else s
  else s
def lnPass (g : SG) (s : List (Sym × Nat) × Bool) : List (Sym × Nat) × Bool := g.foldl lnStep (s.1, false)
def LnW (g : SG) (n : Nat) (t : List (Sym × Nat) × Bool) : Prop := Wh (fun s => s.2) (lnPass g) n ([], true) t
/-! assoc lists -/
theorem getA_mem {β : Type} {l : List (Sym × β)} {x : Sym} {y : β} (h : getA l x = some y) : (x, y) ∈ l := by
  unfold getA at h
  cases e : l.find? fun e => decide (e.1 = x) with
  | none => rw [e] at h; cases h
  | some p =>
    rw [e] at h
    cases h
    have h1 := List.find?_some e
    have h2 := List.mem_of_find?_eq_some e
    simp only [decide_eq_true_eq] at h1
    rw [← h1]
    exact h2
theorem getA_none {β : Type} {l : List (Sym × β)} {x : Sym} (h : getA l x = none) : x ∉ l.map (·.1) := by
  unfold getA at h
  rw [Option.map_eq_none_iff, List.find?_eq_none] at h
  intro hm
  obtain ⟨e, he, rfl⟩ := List.mem_map.mp hm
  exact h e he (by simp)
theorem any_getA {β : Type} (l : List (Sym × β)) (x : Sym) : (l.any fun e => decide (e.1 = x)) = (getA l x).isSome := by
  unfold getA
  rw [Option.isSome_map, Bool.eq_iff_iff, List.find?_isSome]
  simp
theorem putA_keys {β : Type} (l : List (Sym × β)) (x : Sym) (y : β) : (putA l x y).map (·.1) = addN (l.map (·.1)) x := by
  unfold putA addN
  by_cases h : (l.any fun e => decide (e.1 = x)) = true
  · rw [if_pos h]
    have h2 : x ∈ l.map (·.1) := by
      obtain ⟨e, he, q⟩ := List.any_eq_true.mp h
      simp only [decide_eq_true_eq] at q
      rw [← q]
      exact List.mem_map.mpr ⟨e, he, rfl⟩
    rw [if_pos h2, List.map_map]
    apply List.map_congr_left
    intro e _
    show (if e.1 = x then (e.1, y) else e).1 = e.1
    split <;> rfl
  · rw [if_neg h]
    have h2 : x ∉ l.map (·.1) := fun hm => by
      obtain ⟨e, he, rfl⟩ := List.mem_map.mp hm
      exact h (List.any_eq_true.mpr ⟨e, he, by simp⟩)
    rw [if_neg h2, List.map_append]
    rfl
theorem putA_mem {β : Type} {l : List (Sym × β)} {x : Sym} {y : β} {e : Sym × β} (h : e ∈ putA l x y) : e ∈ l ∨ e = (x, y) := by
  unfold putA at h
  split at h
  · obtain ⟨e', he, rfl⟩ := List.mem_map.mp h
    split
    · rename_i q
      rw [q]
      exact .inr rfl
    · exact .inl he
  · rcases List.mem_append.mp h with q | q
    · exact .inl q
    · exact .inr (by simpa using q)
theorem putA_len {β : Type} (l : List (Sym × β)) (x : Sym) (y : β) : (putA l x y).length = if (getA l x).isSome = true then l.length else l.length + 1 := by
  unfold putA
  rw [any_getA]
  split <;> simp
/-! what the loops keep -/
structure LI (s : List (Sym × List Sym)) : Prop where
  nd : (s.map (·.1)).Nodup
  nm : ∀ e ∈ s, isN e.1 = true
  tx : ∀ e ∈ s, (∀ x ∈ e.2, isL x = true) ∧ e.2.length ≤ 6 ^ s.length
theorem LI.len {s : List (Sym × List Sym)} (h : LI s) : s.length ≤ 3 := by
  have := symN_len h.nd (fun x hx => by obtain ⟨e, he, rfl⟩ := List.mem_map.mp hx; exact h.nm e he)
  rwa [List.length_map] at this
theorem pow6 {n : Nat} (h : n ≤ 3) : 6 ^ n ≤ 216 := Nat.le_trans (Nat.pow_le_pow_right (by decide) h) (by decide)
def RuleOk (r : Sym × List Sym) : Prop := isN r.1 = true ∧ r.2.length ≤ 6 ∧ ∀ p ∈ r.2, isL p = true ∨ isN p = true
theorem flat_le {n : Nat} : ∀ l : List (List Sym), (∀ x ∈ l, x.length ≤ n) → l.flatten.length ≤ l.length * n
  | [], _ => by simp
  | x :: l, h => by
    have h1 := h x (by simp)
    have h2 := flat_le l fun y hy => h y (by simp [hy])
    rw [List.flatten_cons, List.length_append, List.length_cons, Nat.succ_mul]
    omega
theorem sub1_ok {f : List (Sym × List Sym)} (h : LI f) {p : Sym} : (∀ x ∈ sub1 f p, isL x = true) ∧ (sub1 f p).length ≤ 6 ^ f.length := by
  unfold sub1
  have h1 : 1 ≤ 6 ^ f.length := Nat.one_le_pow _ _ (by decide)
  split
  · rename_i hp
    exact ⟨fun x hx => by have : x = p := by simpa using hx
                          rw [this]; exact hp, by simpa using h1⟩
  · cases e : getA f p with
    | none => exact ⟨by simp, by simp⟩
    | some t => exact h.tx _ (getA_mem e)
theorem subT_ok {f : List (Sym × List Sym)} (h : LI f) {ps : List Sym} (hp : ps.length ≤ 6) : (∀ x ∈ subT f ps, isL x = true) ∧ (subT f ps).length ≤ 6 ^ (f.length + 1) := by
  unfold subT
  refine ⟨fun x hx => ?_, ?_⟩
  · obtain ⟨l, hl, hx⟩ := List.mem_flatten.mp hx
    obtain ⟨p, _, rfl⟩ := List.mem_map.mp hl
    exact (sub1_ok h).1 x hx
  · have q := flat_le (n := 6 ^ f.length) (ps.map (sub1 f)) fun l hl => by
      obtain ⟨p, _, rfl⟩ := List.mem_map.mp hl
      exact (sub1_ok h).2
    rw [List.length_map] at q
    have := Nat.mul_le_mul_right (6 ^ f.length) hp
    rw [Nat.pow_succ, Nat.mul_comm (6 ^ f.length)]
    omega
theorem subT_300 {f : List (Sym × List Sym)} (h : LI f) {ps : List Sym} (hp : ps.length ≤ 6) : (subT f ps).length ≤ 1296 := by
  have h1 := (subT_ok h hp).2
  have h2 := h.len
  have : 6 ^ (f.length + 1) ≤ 6 ^ 4 := Nat.pow_le_pow_right (by decide) (by omega)
  have : (6 : Nat) ^ 4 = 1296 := by decide
  omega
theorem lessL_len {x y : List Sym} (h : lessL x y = true) : x.length ≤ y.length := by
  unfold lessL at h
  split at h
  · omega
  · simp only [decide_eq_true_eq] at h
    omega
theorem leStep_I {s : List (Sym × List Sym) × Bool} {r : Sym × List Sym} (hr : RuleOk r) (h : LI s.1) : LI (leStep s r).1 := by
  unfold leStep
  split
  · split
    · rename_i hc
      have st := subT_ok h hr.2.1
      refine ⟨?_, fun e he => ?_, fun e he => ?_⟩
      · show ((putA s.1 r.1 _).map (·.1)).Nodup
        rw [putA_keys]
        exact nd_addN h.nd
      · rcases putA_mem he with q | q
        · exact h.nm e q
        · rw [q]; exact hr.1
      · show _ ∧ _ ≤ 6 ^ (putA s.1 r.1 _).length
        rw [putA_len]
        have mono : 6 ^ s.1.length ≤ 6 ^ (s.1.length + 1) := Nat.pow_le_pow_right (by decide) (by omega)
        rcases putA_mem he with q | q
        · have := h.tx e q
          refine ⟨this.1, ?_⟩
          split
          · exact this.2
          · omega
        · rw [q]
          refine ⟨st.1, ?_⟩
          split
          · rename_i hs
            cases eg : getA s.1 r.1 with
            | none => rw [eg] at hs; cases hs
            | some t =>
              rw [eg] at hc
              simp only [Option.isSome_some, Bool.not_true, Bool.false_or, Option.getD_some] at hc
              have := lessL_len hc
              have h3 : t.length ≤ 6 ^ s.1.length := (h.tx _ (getA_mem eg)).2
              show (subT s.1 r.2).length ≤ _
              omega
          · exact st.2
    · exact h
  · exact h
theorem leFold_I : ∀ (g : SG) (s : List (Sym × List Sym) × Bool), (∀ r ∈ g, RuleOk r) → LI s.1 → LI (g.foldl leStep s).1
  | [], s, _, h => h
  | r :: g, s, hr, h => leFold_I g _ (fun q hq => hr q (by simp [hq])) (leStep_I (hr r (by simp)) h)
theorem LI.nil : LI [] := ⟨List.nodup_nil, by simp, by simp⟩
structure NI (s : List (Sym × Nat)) : Prop where
  nd : (s.map (·.1)).Nodup
  nm : ∀ e ∈ s, isN e.1 = true
  tx : ∀ e ∈ s, e.2 ≤ 6 ^ s.length
theorem NI.nil : NI [] := ⟨List.nodup_nil, by simp, by simp⟩
theorem NI.len {s : List (Sym × Nat)} (h : NI s) : s.length ≤ 3 := by
  have := symN_len h.nd (fun x hx => by obtain ⟨e, he, rfl⟩ := List.mem_map.mp hx; exact h.nm e he)
  rwa [List.length_map] at this
theorem num1_ok {f : List (Sym × Nat)} (h : NI f) {p : Sym} : num1 f p ≤ 6 ^ f.length := by
  unfold num1
  have h1 : 1 ≤ 6 ^ f.length := Nat.one_le_pow _ _ (by decide)
  split
  · exact h1
  · cases e : getA f p with
    | none => simp
    | some t => exact h.tx _ (getA_mem e)
theorem sum_le {n : Nat} : ∀ l : List Nat, (∀ x ∈ l, x ≤ n) → l.sum ≤ l.length * n
  | [], _ => by simp
  | x :: l, h => by
    have h1 := h x (by simp)
    have h2 := sum_le l fun y hy => h y (by simp [hy])
    rw [List.sum_cons, List.length_cons, Nat.succ_mul]
    omega
theorem numT_ok {f : List (Sym × Nat)} (h : NI f) {ps : List Sym} (hp : ps.length ≤ 6) : numT f ps ≤ 6 ^ (f.length + 1) := by
  unfold numT
  have q := sum_le (n := 6 ^ f.length) (ps.map (num1 f)) fun l hl => by
      obtain ⟨p, _, rfl⟩ := List.mem_map.mp hl
      exact num1_ok h
  rw [List.length_map] at q
  have := Nat.mul_le_mul_right (6 ^ f.length) hp
  rw [Nat.pow_succ, Nat.mul_comm (6 ^ f.length)]
  omega
theorem lnStep_I {s : List (Sym × Nat) × Bool} {r : Sym × List Sym} (hr : RuleOk r) (h : NI s.1) : NI (lnStep s r).1 := by
  unfold lnStep
  split
  · split
    · rename_i hc
      have st := numT_ok h hr.2.1
      refine ⟨?_, fun e he => ?_, fun e he => ?_⟩
      · show ((putA s.1 r.1 _).map (·.1)).Nodup
        rw [putA_keys]
        exact nd_addN h.nd
      · rcases putA_mem he with q | q
        · exact h.nm e q
        · rw [q]; exact hr.1
      · show _ ≤ 6 ^ (putA s.1 r.1 _).length
        rw [putA_len]
        have mono : 6 ^ s.1.length ≤ 6 ^ (s.1.length + 1) := Nat.pow_le_pow_right (by decide) (by omega)
        rcases putA_mem he with q | q
        · have := h.tx e q
          split
          · exact this
          · omega
        · rw [q]
          split
          · rename_i hs
            cases eg : getA s.1 r.1 with
            | none => rw [eg] at hs; cases hs
            | some t =>
              rw [eg] at hc
              simp only [Option.getD_some] at hc
              have h3 : t ≤ 6 ^ s.1.length := h.tx _ (getA_mem eg)
              show numT s.1 r.2 ≤ _
              omega
          · exact st
    · exact h
  · exact h
theorem lnFold_I : ∀ (g : SG) (s : List (Sym × Nat) × Bool), (∀ r ∈ g, RuleOk r) → NI s.1 → NI (g.foldl lnStep s).1
  | [], s, _, h => h
  | r :: g, s, hr, h => lnFold_I g _ (fun q hq => hr q (by simp [hq])) (lnStep_I (hr r (by simp)) h)
theorem SOk.ruleOk {g : SG} (h : SOk g) : ∀ r ∈ g, RuleOk r := h.rule
end RN

end
section
set_option maxRecDepth 100000
set_option maxHeartbeats 4000000
/-! first letters, followers -/
namespace RN
open PySem Sym
abbrev KB := List (Sym × List Sym) × Bool
def addAt (k : List (Sym × List Sym)) (x y : Sym) : List (Sym × List Sym) := k.map fun e => if e.1 = x then (e.1, addN e.2 y) else e
def addTo (x : Sym) (s : KB) (y : Sym) : KB := if y ∈ (getA s.1 x).getD [] then s else (addAt s.1 x y, true)
def frRule (hol : List Sym) (s : KB) (r : Sym × List Sym) : KB := (begins s.1 hol [] r.2).foldl (addTo r.1) s
def frPass (rs : SG) (hol : List Sym) (s : KB) : KB := rs.foldl (frRule hol) (s.1, false)
def k0 (ns : List Sym) : List (Sym × List Sym) := ns.map fun x => (x, [])
def FrW (rs : SG) (hol ns : List Sym) (n : Nat) (z : KB) : Prop := Wh (fun s => s.2) (frPass rs hol) n (k0 ns, true) z
def fwBehind (nm : Sym) (kn : List (Sym × List Sym)) (hol : List Sym) (s : KB) (rest : List Sym) : List Sym := begins kn hol [] rest ++ (if okE hol rest = true then (getA s.1 nm).getD [] else [])
def fwAt (nm : Sym) (kn : List (Sym × List Sym)) (hol parts : List Sym) (s : KB) (x : Sym × Nat) : KB := if isL x.1 = true then s else (fwBehind nm kn hol s (parts.drop (x.2 + 1))).foldl (addTo x.1) s
def fwRule (nm : Sym) (kn : List (Sym × List Sym)) (hol parts : List Sym) (k : List (Sym × List Sym)) : KB := parts.zipIdx.foldl (fwAt nm kn hol parts) (k, false)
def fwStep (kn : List (Sym × List Sym)) (hol seen : List Sym) (s : KB) (r : Sym × List Sym) : KB := if r.1 ∈ seen then ((fwRule r.1 kn hol r.2 s.1).1, (fwRule r.1 kn hol r.2 s.1).2 || s.2) else s
def fwPass (rs : SG) (kn : List (Sym × List Sym)) (hol seen : List Sym) (s : KB) : KB := rs.foldl (fwStep kn hol seen) (s.1, false)
def FwW (rs : SG) (kn : List (Sym × List Sym)) (hol seen ns : List Sym) (x : Sym) (made : List Sym) (n : Nat) (z : KB) : Prop :=
  if x ∈ made then Wh (fun s => s.2) (fwPass rs kn hol seen) n (addAt (k0 ns) x .dot, true) z else z = (k0 ns, true)
/-- sets of signs that are no names, by name -/
structure KI (ns : List Sym) (k : List (Sym × List Sym)) : Prop where
  keys : k.map (·.1) = ns
  nd : ∀ e ∈ k, e.2.Nodup ∧ ∀ x ∈ e.2, isN x = false
theorem KI.get {ns : List Sym} {k : List (Sym × List Sym)} (h : KI ns k) {x : Sym} (hx : x ∈ ns) : ∃ l, getA k x = some l ∧ l.length ≤ 7 ∧ l.Nodup ∧ ∀ y ∈ l, isN y = false := by
  cases e : getA k x with
  | none =>
    have := getA_none e
    rw [h.keys] at this
    exact absurd hx this
  | some l =>
    have := h.nd _ (getA_mem e)
    refine ⟨l, rfl, ?_, this.1, this.2⟩
    have q := List.Nodup.length_le_of_subset (l₂ := [.a, .b, .c, .A, .B, .S, .dot]) this.1 (fun x _ => by cases x <;> simp)
    simpa using q
theorem addAt_keys (k : List (Sym × List Sym)) (x y : Sym) : (addAt k x y).map (·.1) = k.map (·.1) := by
  unfold addAt
  rw [List.map_map]
  apply List.map_congr_left
  intro e _
  show (if e.1 = x then (e.1, addN e.2 y) else e).1 = e.1
  split <;> rfl
theorem KI.add {ns : List Sym} {k : List (Sym × List Sym)} (h : KI ns k) {x y : Sym} (hy : isN y = false) : KI ns (addAt k x y) := by
  refine ⟨by rw [addAt_keys]; exact h.keys, fun e he => ?_⟩
  obtain ⟨e', he', rfl⟩ := List.mem_map.mp he
  have := h.nd e' he'
  split
  · refine ⟨nd_addN this.1, fun z hz => ?_⟩
    rcases mem_addN.mp hz with q | q
    · exact this.2 z q
    · rw [q]; exact hy
  · exact this
theorem KI.addTo {ns : List Sym} {s : KB} (h : KI ns s.1) {x y : Sym} (hy : isN y = false) : KI ns (addTo x s y).1 := by
  unfold RN.addTo
  split
  · exact h
  · exact h.add hy
theorem KI.fold {ns : List Sym} {x : Sym} : ∀ (l : List Sym) (s : KB), (∀ y ∈ l, isN y = false) → KI ns s.1 → KI ns (l.foldl (RN.addTo x) s).1
  | [], s, _, h => h
  | y :: l, s, hl, h => KI.fold l _ (fun z hz => hl z (by simp [hz])) (h.addTo (hl y (by simp)))
theorem KI.zero (ns : List Sym) : KI ns (k0 ns) := by
  refine ⟨?_, fun e he => ?_⟩
  · unfold k0
    rw [List.map_map]
    exact List.map_id _
  · obtain ⟨x, _, rfl⟩ := List.mem_map.mp he
    exact ⟨List.nodup_nil, by simp⟩
theorem begins_N {ns : List Sym} {k : List (Sym × List Sym)} (h : KI ns k) (hol : List Sym) : ∀ (ps acc : List Sym), (∀ y ∈ acc, isN y = false) → ∀ y ∈ begins k hol acc ps, isN y = false
  | [], acc, ha => by simpa [begins] using ha
  | p :: ps, acc, ha => by
    have hg : ∀ y ∈ (getA k p).getD [], isN y = false := by
      cases e : getA k p with
      | none => simp
      | some l => exact (h.nd _ (getA_mem e)).2
    have ha2 : ∀ y ∈ acc ++ (getA k p).getD [], isN y = false := fun y hy => by
      rcases List.mem_append.mp hy with q | q
      · exact ha y q
      · exact hg y q
    unfold begins
    split
    · rename_i hp
      intro y hy
      rcases List.mem_append.mp hy with q | q
      · exact ha y q
      · have : y = p := by simpa using q
        rw [this]
        exact isN_of_isL hp
    · split
      · exact begins_N h hol ps _ ha2
      · exact ha2
theorem KI.frRule {ns hol : List Sym} {s : KB} (h : KI ns s.1) (r : Sym × List Sym) : KI ns (frRule hol s r).1 := KI.fold _ _ (begins_N h hol r.2 [] (by simp)) h
theorem KI.frFold {ns hol : List Sym} : ∀ (rs : SG) (s : KB), KI ns s.1 → KI ns (rs.foldl (RN.frRule hol) s).1
  | [], s, h => h
  | r :: rs, s, h => KI.frFold rs _ (h.frRule r)
theorem fwBehind_N {ns : List Sym} {nm : Sym} {kn : List (Sym × List Sym)} {hol : List Sym} {s : KB} {rest : List Sym} (h : KI ns s.1) (hk : KI ns kn) : ∀ y ∈ fwBehind nm kn hol s rest, isN y = false := by
  intro y hy
  unfold fwBehind at hy
  rcases List.mem_append.mp hy with q | q
  · exact begins_N hk hol rest [] (by simp) y q
  · split at q
    · cases e : getA s.1 nm with
      | none => rw [e] at q; simp at q
      | some l => rw [e] at q; exact (h.nd _ (getA_mem e)).2 y q
    · simp at q
theorem KI.fwAt {ns hol parts : List Sym} {nm : Sym} {kn : List (Sym × List Sym)} {s : KB} (h : KI ns s.1) (hk : KI ns kn) (x : Sym × Nat) : KI ns (fwAt nm kn hol parts s x).1 := by
  unfold RN.fwAt
  split
  · exact h
  · exact KI.fold _ _ (fwBehind_N h hk) h
theorem KI.fwFold {ns hol parts : List Sym} {nm : Sym} {kn : List (Sym × List Sym)} (hk : KI ns kn) : ∀ (l : List (Sym × Nat)) (s : KB), KI ns s.1 → KI ns (l.foldl (RN.fwAt nm kn hol parts) s).1
  | [], s, h => h
  | x :: l, s, h => KI.fwFold hk l _ (h.fwAt hk x)
theorem KI.fwRule {ns hol parts : List Sym} {nm : Sym} {kn k : List (Sym × List Sym)} (hk : KI ns kn) (h : KI ns k) : KI ns (fwRule nm kn hol parts k).1 := KI.fwFold hk _ _ h
theorem KI.fwStep {ns hol seen : List Sym} {kn : List (Sym × List Sym)} {s : KB} (hk : KI ns kn) (h : KI ns s.1) (r : Sym × List Sym) : KI ns (fwStep kn hol seen s r).1 := by
  unfold RN.fwStep
  split
  · exact KI.fwRule hk h
  · exact h
theorem KI.fwSteps {ns hol seen : List Sym} {kn : List (Sym × List Sym)} (hk : KI ns kn) : ∀ (rs : SG) (s : KB), KI ns s.1 → KI ns (rs.foldl (RN.fwStep kn hol seen) s).1
  | [], s, h => h
  | r :: rs, s, h => KI.fwSteps hk rs _ (KI.fwStep hk h r)
/-- all that the loops find -/
structure Marks (g : SG) where
  n1 : Nat
  m : List Sym × Bool
  hm : MkW okM g n1 m
  n2 : Nat
  e : List Sym × Bool
  he : MkW okE g n2 e
  n3 : Nat
  rc : List Sym × List Sym
  hrc : RcW g ((g.head?.map (·.1)).getD .S) n3 rc
  n4 : Nat
  rcu : List Sym × List Sym
  hrcu : RcW (useful g (marked g m.1)) ((g.head?.map (·.1)).getD .S) n4 rcu
  n5 : Nat
  fr : KB
  hfr : FrW (useful g (marked g m.1)) (marked g e.1) (namesS g) n5 fr
  n6 : Nat
  fw : KB
  hfw : FwW (useful g (marked g m.1)) fr.1 (marked g e.1) rcu.1 (namesS g) ((g.head?.map (·.1)).getD .S) (marked g m.1) n6 fw
  n7 : Nat
  le : List (Sym × List Sym) × Bool
  hle : LeW g n7 le
  n8 : Nat
  ln : List (Sym × Nat) × Bool
  hln : LnW g n8 ln
end RN

end
section
set_option maxRecDepth 100000
set_option maxHeartbeats 4000000
/-! grammars and trees by cells -/
namespace RN
open PySem Sym
def sym6 (i : Int) : Sym := [Sym.a, .b, .c, .S, .A, .B].getD (i % 6).toNat .a
def sym3 (i : Int) : Sym := [Sym.S, .A, .B].getD (i % 3).toNat .S
def partsBy : Nat → Int → List Sym
  | 0, _ => []
  | n + 1, left => sym6 left :: partsBy n (left / 6)
def ruleBy (cell : Int) : Sym × List Sym := (sym3 cell, partsBy (cell / 3 % 4).toNat (cell / 12))
def cellAt (ns : List Int) (k : Nat) : Int := ns.getD k 0
def knownS : Nat → SG
  | 0 => [(.S, [.a, .S, .b, .S]), (.S, [])]
  | 1 => [(.S, [.S, .a, .A]), (.S, [.A]), (.A, [.b]), (.A, [.c, .S, .c])]
  | 2 => [(.S, [.a, .S, .a]), (.S, [.b, .S, .b]), (.S, [.a]), (.S, [.b]), (.S, [])]
  | 3 => [(.S, [.a, .S]), (.S, [.a, .S, .b, .S]), (.S, [.c])]
  | 4 => [(.S, [.A, .S]), (.S, [.A]), (.A, [.a]), (.A, [.b])]
  | 5 => [(.S, [.A, .B]), (.A, []), (.A, [.a]), (.B, [.A]), (.B, [.b])]
  | 6 => [(.S, [.A]), (.S, [.a]), (.A, [.S]), (.A, [.b])]
  | 7 => [(.S, [.a, .S, .b]), (.S, [.a, .b])]
  | 8 => [(.S, [.S, .S]), (.S, [.a])]
  | 9 => [(.S, [.a, .A, .a]), (.S, [.b, .A, .b]), (.S, [.a, .B, .b]), (.S, [.b, .B, .a]), (.A, [.c]), (.B, [.c])]
  | 10 => [(.S, [.a]), (.S, [.A]), (.A, [.a, .A])]
  | 11 => [(.S, [.a, .b]), (.A, [.b, .S])]
  | 12 => [(.S, [.A, .S, .b]), (.S, [.a]), (.A, []), (.A, [.c])]
  | 13 => [(.S, [.a, .S, .S]), (.S, [.b])]
  | 14 => [(.S, [.A]), (.A, [.B]), (.B, [.S]), (.B, [.c])]
  | _ => [(.S, [.S, .A, .S]), (.S, [.a]), (.A, [.b]), (.A, [.c])]
def dedup (rs : SG) : SG := rs.foldl addN []
def clos : Sym → Sym
  | .S => .c | .A => .a | _ => .b
def usedIn (f : SG) (x : Sym) : SG := f.filter fun r => decide (x ∈ r.2)
def hasOf (f : SG) (x : Sym) : SG := f.filter fun r => decide (r.1 = x)
def closeStep (f : SG) (x : Sym) : SG := if (decide (0 < (usedIn f x).length) && decide ((hasOf f x).length = 0)) = true then f ++ [(x, [clos x])] else f
def closedS (rs : SG) : SG := [Sym.S, .A, .B].foldl closeStep (dedup rs)
def manyOf (cell : Int) : Nat := if cell % 2 = 0 then 1 + (cell / 2 % 4).toNat else (cell / 32 % 2).toNat
def startOf (cell : Int) : SG := if cell % 2 = 0 then [] else knownS (cell / 2 % 16).toNat
def rulesFrom (ns : List Int) (sp n : Nat) : SG := (List.range n).map fun k => ruleBy (cellAt ns (sp + k))
def lawG (ns : List Int) : SG := closedS (startOf (cellAt ns 0) ++ rulesFrom ns 1 (manyOf (cellAt ns 0)))
def spotG (ns : List Int) : Nat := 1 + manyOf (cellAt ns 0)
/-! trees -/
def hs0 : List (Sym × Nat) := [(.a, 0), (.b, 0), (.c, 0)]
def maxH (s : List (Sym × Nat)) (ps : List Sym) : Nat := (ps.map fun p => (getA s p).getD 0).foldr max 0
def okH (s : List (Sym × Nat)) (ps : List Sym) : Bool := ps.all fun p => (getA s p).isSome
def htStep (s : List (Sym × Nat)) (r : Sym × List Sym) : List (Sym × Nat) := if okH s r.2 = true then putA s r.1 (min (1 + maxH s r.2) ((getA s r.1).getD (1 + maxH s r.2))) else s
def htPass (g : SG) (s : List (Sym × Nat)) : List (Sym × Nat) := g.foldl htStep s
def heights (g : SG) : List (Sym × Nat) := (List.range (g.length + 1)).foldl (fun s _ => htPass g s) hs0
def candOk (s : List (Sym × Nat)) (x : Sym) (e : (Sym × List Sym) × Nat) : Bool := decide (e.1.1 = x) && okH s e.1.2
def candOf (s : List (Sym × Nat)) (x : Sym) (l : List ((Sym × List Sym) × Nat)) : List (Nat × Nat) := (l.filter (candOk s x)).map fun e => (maxH s e.1.2, e.2)
def lePr (p q : Nat × Nat) : Bool := decide (p.1 < q.1) || (decide (p.1 = q.1) && decide (p.2 ≤ q.2))
def sortP (l : List (Nat × Nat)) : List (Nat × Nat) := l.mergeSort lePr
def cells (g : SG) (s : List (Sym × Nat)) (x : Sym) : List (Nat × Nat) := sortP (candOf s x g.zipIdx)
def cellFor (ns : List Int) (fuel : Int) (sp : Nat) : Int := if fuel < 1 then 0 else cellAt ns sp
def pickOf (ns : List Int) (g : SG) (s : List (Sym × Nat)) (x : Sym) (fuel : Int) (sp : Nat) : Option (Nat × Nat) := (cells g s x)[(cellFor ns fuel sp % ((cells g s x).length : Int)).toNat]?
mutual
inductive Grw (ns : List Int) (g : SG) (s : List (Sym × Nat)) : Int → Sym → Nat → Tr → Nat → Prop
  | leaf {fuel : Int} {x : Sym} {sp : Nat} : isL x = true → Grw ns g s fuel x sp (.leaf x) sp
  | node {fuel : Int} {x : Sym} {sp sp' h k : Nat} {r : Sym × List Sym} {l : List Tr} : isN x = true → pickOf ns g s x fuel sp = some (h, k) → g[k]? = some r → Grws ns g s (fuel - 1) r.2 (sp + 1) l sp' → Grw ns g s fuel x sp (.node k l) sp'
inductive Grws (ns : List Int) (g : SG) (s : List (Sym × Nat)) : Int → List Sym → Nat → List Tr → Nat → Prop
  | nil {fuel : Int} {sp : Nat} : Grws ns g s fuel [] sp [] sp
  | cons {fuel : Int} {x : Sym} {ps : List Sym} {sp sp1 sp2 : Nat} {t : Tr} {l : List Tr} : Grw ns g s fuel x sp t sp1 → Grws ns g s (fuel - 1) ps sp1 l sp2 → Grws ns g s fuel (x :: ps) sp (t :: l) sp2
end
theorem Grws.len {ns : List Int} {g : SG} {s : List (Sym × Nat)} : ∀ {fuel : Int} {ps : List Sym} {sp : Nat} {l : List Tr} {sp' : Nat}, Grws ns g s fuel ps sp l sp' → ps.length = l.length
  | _, _, _, _, _, .nil => rfl
  | _, _, _, _, _, .cons _ r => by rw [List.length_cons, List.length_cons, Grws.len r]
/-! what the heights keep -/
structure HI (s : List (Sym × Nat)) : Prop where
  nd : (s.map (·.1)).Nodup
theorem htStep_nd {s : List (Sym × Nat)} {r : Sym × List Sym} (h : (s.map (·.1)).Nodup) : ((htStep s r).map (·.1)).Nodup := by
  unfold htStep
  split
  · rw [putA_keys]
    exact nd_addN h
  · exact h
theorem htFold_nd : ∀ (g : SG) (s : List (Sym × Nat)), (s.map (·.1)).Nodup → ((g.foldl htStep s).map (·.1)).Nodup
  | [], s, h => h
  | r :: g, s, h => htFold_nd g _ (htStep_nd h)
theorem htRange_nd (g : SG) : ∀ (l : List Nat) (s : List (Sym × Nat)), (s.map (·.1)).Nodup → ((l.foldl (fun s _ => htPass g s) s).map (·.1)).Nodup
  | [], s, h => h
  | r :: l, s, h => htRange_nd g l _ (htFold_nd g s h)
end RN

end
section
set_option maxRecDepth 100000
set_option maxHeartbeats 4000000
namespace RN
open PySem L2
def top (i : Nat) : Stmt := PySem.Challenge.pw_rulewright_k94_whole_marks_and_trees_by.main.body.getD i (.Pass ⟨0, 0, 0, 0⟩)
abbrev s_is_letter : Stmt := top 14
theorem sc_is_letter : FnScope ["part"] ["part"] (defScope s_is_letter) := ⟨rfl, rfl, rfl, by decide +kernel, rfl, by decide +kernel, by decide +kernel⟩
abbrev s_is_name : Stmt := top 15
theorem sc_is_name : FnScope ["part", "sign"] ["part"] (defScope s_is_name) := ⟨rfl, rfl, rfl, by decide +kernel, rfl, by decide +kernel, by decide +kernel⟩
abbrev s_is_rule : Stmt := top 16
theorem sc_is_rule : FnScope ["rule", "name", "parts", "part"] ["rule"] (defScope s_is_rule) := ⟨rfl, rfl, rfl, by decide +kernel, rfl, by decide +kernel, by decide +kernel⟩
abbrev s_is_grammar : Stmt := top 17
theorem sc_is_grammar : FnScope ["grammar", "known", "rule", "ruled", "part"] ["grammar"] (defScope s_is_grammar) := ⟨rfl, rfl, rfl, by decide +kernel, rfl, by decide +kernel, by decide +kernel⟩
abbrev s_must_be_grammar : Stmt := top 18
theorem sc_must_be_grammar : FnScope ["grammar"] ["grammar"] (defScope s_must_be_grammar) := ⟨rfl, rfl, rfl, by decide +kernel, rfl, by decide +kernel, by decide +kernel⟩
abbrev s_names_by : Stmt := top 19
theorem sc_names_by : FnScope ["grammar", "found", "name", "parts"] ["grammar"] (defScope s_names_by) := ⟨rfl, rfl, rfl, by decide +kernel, rfl, by decide +kernel, by decide +kernel⟩
abbrev s_names : Stmt := top 20
theorem sc_names : FnScope ["grammar"] ["grammar"] (defScope s_names) := ⟨rfl, rfl, rfl, by decide +kernel, rfl, by decide +kernel, by decide +kernel⟩
abbrev s_letters_by : Stmt := top 21
theorem sc_letters_by : FnScope ["grammar", "known", "name", "parts", "part"] ["grammar"] (defScope s_letters_by) := ⟨rfl, rfl, rfl, by decide +kernel, rfl, by decide +kernel, by decide +kernel⟩
abbrev s_letters : Stmt := top 22
theorem sc_letters : FnScope ["grammar"] ["grammar"] (defScope s_letters) := ⟨rfl, rfl, rfl, by decide +kernel, rfl, by decide +kernel, by decide +kernel⟩
abbrev s_numbers_by : Stmt := top 23
theorem sc_numbers_by : FnScope ["grammar", "name", "number", "rule"] ["grammar", "name"] (defScope s_numbers_by) := ⟨rfl, rfl, rfl, by decide +kernel, rfl, by decide +kernel, by decide +kernel⟩
abbrev s_must_have : Stmt := top 24
theorem sc_must_have : FnScope ["grammar", "name"] ["grammar", "name"] (defScope s_must_have) := ⟨rfl, rfl, rfl, by decide +kernel, rfl, by decide +kernel, by decide +kernel⟩
abbrev s_rules_of : Stmt := top 25
theorem sc_rules_of : FnScope ["grammar", "name"] ["grammar", "name"] (defScope s_rules_of) := ⟨rfl, rfl, rfl, by decide +kernel, rfl, by decide +kernel, by decide +kernel⟩
abbrev s_fits : Stmt := top 29
theorem sc_fits : FnScope ["grammar", "part", "tree", "number", "below", "parts", "k"] ["grammar", "part", "tree"] (defScope s_fits) := ⟨rfl, rfl, rfl, by decide +kernel, rfl, by decide +kernel, by decide +kernel⟩
abbrev s_count_of : Stmt := top 30
theorem sc_count_of : FnScope ["tree", "one"] ["tree"] (defScope s_count_of) := ⟨rfl, rfl, rfl, by decide +kernel, rfl, by decide +kernel, by decide +kernel⟩
abbrev s_depth_of : Stmt := top 31
theorem sc_depth_of : FnScope ["tree", "one"] ["tree"] (defScope s_depth_of) := ⟨rfl, rfl, rfl, by decide +kernel, rfl, by decide +kernel, by decide +kernel⟩
abbrev s_is_tree_of : Stmt := top 32
theorem sc_is_tree_of : FnScope ["grammar", "part", "tree"] ["grammar", "part", "tree"] (defScope s_is_tree_of) := ⟨rfl, rfl, rfl, by decide +kernel, rfl, by decide +kernel, by decide +kernel⟩
abbrev s_is_tree : Stmt := top 33
theorem sc_is_tree : FnScope ["grammar", "tree"] ["grammar", "tree"] (defScope s_is_tree) := ⟨rfl, rfl, rfl, by decide +kernel, rfl, by decide +kernel, by decide +kernel⟩
abbrev s_must_be_tree : Stmt := top 34
theorem sc_must_be_tree : FnScope ["grammar", "tree"] ["grammar", "tree"] (defScope s_must_be_tree) := ⟨rfl, rfl, rfl, by decide +kernel, rfl, by decide +kernel, by decide +kernel⟩
abbrev s_letters_of : Stmt := top 35
theorem sc_letters_of : FnScope ["tree", "one"] ["tree"] (defScope s_letters_of) := ⟨rfl, rfl, rfl, by decide +kernel, rfl, by decide +kernel, by decide +kernel⟩
abbrev s_text_of : Stmt := top 36
theorem sc_text_of : FnScope ["grammar", "tree"] ["grammar", "tree"] (defScope s_text_of) := ⟨rfl, rfl, rfl, by decide +kernel, rfl, by decide +kernel, by decide +kernel⟩
abbrev s_sizes : Stmt := top 37
theorem sc_sizes : FnScope ["grammar", "tree"] ["grammar", "tree"] (defScope s_sizes) := ⟨rfl, rfl, rfl, by decide +kernel, rfl, by decide +kernel, by decide +kernel⟩
abbrev s_spans_from : Stmt := top 38
theorem sc_spans_from : FnScope ["grammar", "tree", "place", "found", "here", "one", "below"] ["grammar", "tree", "place"] (defScope s_spans_from) := ⟨rfl, rfl, rfl, by decide +kernel, rfl, by decide +kernel, by decide +kernel⟩
abbrev s_spans : Stmt := top 39
theorem sc_spans : FnScope ["grammar", "tree"] ["grammar", "tree"] (defScope s_spans) := ⟨rfl, rfl, rfl, by decide +kernel, rfl, by decide +kernel, by decide +kernel⟩
abbrev s_numbers_in : Stmt := top 40
theorem sc_numbers_in : FnScope ["tree", "found", "one"] ["tree"] (defScope s_numbers_in) := ⟨rfl, rfl, rfl, by decide +kernel, rfl, by decide +kernel, by decide +kernel⟩
abbrev s_order : Stmt := top 41
theorem sc_order : FnScope ["grammar", "one", "other", "mine", "theirs"] ["grammar", "one", "other"] (defScope s_order) := ⟨rfl, rfl, rfl, by decide +kernel, rfl, by decide +kernel, by decide +kernel⟩
abbrev s_steps_of : Stmt := top 43
theorem sc_steps_of : FnScope ["grammar", "tree"] ["grammar", "tree"] (defScope s_steps_of) := ⟨rfl, rfl, rfl, by decide +kernel, rfl, by decide +kernel, by decide +kernel⟩
abbrev s_numbers_right : Stmt := top 44
theorem sc_numbers_right : FnScope ["tree", "found", "one"] ["tree"] (defScope s_numbers_right) := ⟨rfl, rfl, rfl, by decide +kernel, rfl, by decide +kernel, by decide +kernel⟩
abbrev s_right_steps : Stmt := top 45
theorem sc_right_steps : FnScope ["grammar", "tree"] ["grammar", "tree"] (defScope s_right_steps) := ⟨rfl, rfl, rfl, by decide +kernel, rfl, by decide +kernel, by decide +kernel⟩
abbrev s_grown : Stmt := top 46
theorem sc_grown : FnScope ["grammar", "part", "steps", "at", "right", "number", "parts", "below", "one", "found"] ["grammar", "part", "steps", "at", "right"] (defScope s_grown) := ⟨rfl, rfl, rfl, by decide +kernel, rfl, by decide +kernel, by decide +kernel⟩
abbrev s_tree_by : Stmt := top 47
theorem sc_tree_by : FnScope ["grammar", "steps", "right", "first", "found"] ["grammar", "steps", "right"] (defScope s_tree_by) := ⟨rfl, rfl, rfl, by decide +kernel, rfl, by decide +kernel, by decide +kernel⟩
abbrev s_tree_of : Stmt := top 48
theorem sc_tree_of : FnScope ["grammar", "steps"] ["grammar", "steps"] (defScope s_tree_of) := ⟨rfl, rfl, rfl, by decide +kernel, rfl, by decide +kernel, by decide +kernel⟩
abbrev s_from_right : Stmt := top 49
theorem sc_from_right : FnScope ["grammar", "steps"] ["grammar", "steps"] (defScope s_from_right) := ⟨rfl, rfl, rfl, by decide +kernel, rfl, by decide +kernel, by decide +kernel⟩
abbrev s_unfolded : Stmt := top 50
theorem sc_unfolded : FnScope ["grammar", "steps", "right", "form", "found", "number", "places", "place", "k"] ["grammar", "steps", "right"] (defScope s_unfolded) := ⟨rfl, rfl, rfl, by decide +kernel, rfl, by decide +kernel, by decide +kernel⟩
abbrev s_forms_left : Stmt := top 51
theorem sc_forms_left : FnScope ["grammar", "tree"] ["grammar", "tree"] (defScope s_forms_left) := ⟨rfl, rfl, rfl, by decide +kernel, rfl, by decide +kernel, by decide +kernel⟩
abbrev s_forms_right : Stmt := top 52
theorem sc_forms_right : FnScope ["grammar", "tree"] ["grammar", "tree"] (defScope s_forms_right) := ⟨rfl, rfl, rfl, by decide +kernel, rfl, by decide +kernel, by decide +kernel⟩
abbrev s_makes_by : Stmt := top 55
theorem sc_makes_by : FnScope ["grammar", "known", "grown", "name", "parts", "part"] ["grammar"] (defScope s_makes_by) := ⟨rfl, rfl, rfl, by decide +kernel, rfl, by decide +kernel, by decide +kernel⟩
abbrev s_makes : Stmt := top 56
theorem sc_makes : FnScope ["grammar"] ["grammar"] (defScope s_makes) := ⟨rfl, rfl, rfl, by decide +kernel, rfl, by decide +kernel, by decide +kernel⟩
abbrev s_reached_from : Stmt := top 57
theorem sc_reached_from : FnScope ["rules", "name", "known", "todo", "here", "other", "parts", "part"] ["rules", "name"] (defScope s_reached_from) := ⟨rfl, rfl, rfl, by decide +kernel, rfl, by decide +kernel, by decide +kernel⟩
abbrev s_reached : Stmt := top 58
theorem sc_reached : FnScope ["grammar", "known", "name"] ["grammar"] (defScope s_reached) := ⟨rfl, rfl, rfl, by decide +kernel, rfl, by decide +kernel, by decide +kernel⟩
abbrev s_empties_by : Stmt := top 59
theorem sc_empties_by : FnScope ["grammar", "known", "grown", "name", "parts", "part"] ["grammar"] (defScope s_empties_by) := ⟨rfl, rfl, rfl, by decide +kernel, rfl, by decide +kernel, by decide +kernel⟩
abbrev s_empties : Stmt := top 60
theorem sc_empties : FnScope ["grammar"] ["grammar"] (defScope s_empties) := ⟨rfl, rfl, rfl, by decide +kernel, rfl, by decide +kernel, by decide +kernel⟩
abbrev s_useful_rules : Stmt := top 61
theorem sc_useful_rules : FnScope ["grammar", "made", "rule", "part"] ["grammar"] (defScope s_useful_rules) := ⟨rfl, rfl, rfl, by decide +kernel, rfl, by decide +kernel, by decide +kernel⟩
abbrev s_firsts_by : Stmt := top 62
theorem sc_firsts_by : FnScope ["grammar", "rules", "hollow", "found", "name", "grown", "parts", "letter"] ["grammar"] (defScope s_firsts_by) := ⟨rfl, rfl, rfl, by decide +kernel, rfl, by decide +kernel, by decide +kernel⟩
abbrev s_begins_with : Stmt := top 63
theorem sc_begins_with : FnScope ["parts", "known", "hollow", "found", "part"] ["parts", "known", "hollow"] (defScope s_begins_with) := ⟨rfl, rfl, rfl, by decide +kernel, rfl, by decide +kernel, by decide +kernel⟩
abbrev s_firsts : Stmt := top 64
theorem sc_firsts : FnScope ["grammar", "found", "name"] ["grammar"] (defScope s_firsts) := ⟨rfl, rfl, rfl, by decide +kernel, rfl, by decide +kernel, by decide +kernel⟩
abbrev s_followers_by : Stmt := top 65
theorem sc_followers_by : FnScope ["grammar", "rules", "seen", "hollow", "known", "found", "name", "grown", "parts"] ["grammar"] (defScope s_followers_by) := ⟨rfl, rfl, rfl, by decide +kernel, rfl, by decide +kernel, by decide +kernel⟩
abbrev s_follow_rule : Stmt := top 66
theorem sc_follow_rule : FnScope ["name", "parts", "found", "known", "hollow", "grown", "place", "part", "rest", "behind", "letter", "one"] ["name", "parts", "found", "known", "hollow"] (defScope s_follow_rule) := ⟨rfl, rfl, rfl, by decide +kernel, rfl, by decide +kernel, by decide +kernel⟩
abbrev s_followers : Stmt := top 67
theorem sc_followers : FnScope ["grammar", "found", "name"] ["grammar"] (defScope s_followers) := ⟨rfl, rfl, rfl, by decide +kernel, rfl, by decide +kernel, by decide +kernel⟩
abbrev s_least_by : Stmt := top 68
theorem sc_least_by : FnScope ["grammar", "found", "grown", "name", "parts", "text", "part"] ["grammar"] (defScope s_least_by) := ⟨rfl, rfl, rfl, by decide +kernel, rfl, by decide +kernel, by decide +kernel⟩
abbrev s_least_text : Stmt := top 69
theorem sc_least_text : FnScope ["grammar", "name"] ["grammar", "name"] (defScope s_least_text) := ⟨rfl, rfl, rfl, by decide +kernel, rfl, by decide +kernel, by decide +kernel⟩
abbrev s_lengths_by : Stmt := top 70
theorem sc_lengths_by : FnScope ["grammar", "found", "grown", "name", "parts", "length", "part"] ["grammar"] (defScope s_lengths_by) := ⟨rfl, rfl, rfl, by decide +kernel, rfl, by decide +kernel, by decide +kernel⟩
abbrev s_least_lengths : Stmt := top 71
theorem sc_least_lengths : FnScope ["grammar", "found", "name"] ["grammar"] (defScope s_least_lengths) := ⟨rfl, rfl, rfl, by decide +kernel, rfl, by decide +kernel, by decide +kernel⟩
abbrev s_shown : Stmt := top 73
theorem sc_shown : FnScope ["grammar", "name", "parts"] ["grammar"] (defScope s_shown) := ⟨rfl, rfl, rfl, by decide +kernel, rfl, by decide +kernel, by decide +kernel⟩
abbrev s_read : Stmt := top 74
theorem sc_read : FnScope ["text", "grammar", "line", "words"] ["text"] (defScope s_read) := ⟨rfl, rfl, rfl, by decide +kernel, rfl, by decide +kernel, by decide +kernel⟩
abbrev s_written_tree : Stmt := top 76
theorem sc_written_tree : FnScope ["tree", "one"] ["tree"] (defScope s_written_tree) := ⟨rfl, rfl, rfl, by decide +kernel, rfl, by decide +kernel, by decide +kernel⟩
abbrev s_shown_tree : Stmt := top 77
theorem sc_shown_tree : FnScope ["grammar", "tree"] ["grammar", "tree"] (defScope s_shown_tree) := ⟨rfl, rfl, rfl, by decide +kernel, rfl, by decide +kernel, by decide +kernel⟩
abbrev s_number_from : Stmt := top 78
theorem sc_number_from : FnScope ["text", "at", "end", "word"] ["text", "at"] (defScope s_number_from) := ⟨rfl, rfl, rfl, by decide +kernel, rfl, by decide +kernel, by decide +kernel⟩
abbrev s_tree_from : Stmt := top 79
theorem sc_tree_from : FnScope ["text", "at", "deep", "number", "below", "one"] ["text", "at", "deep"] (defScope s_tree_from) := ⟨rfl, rfl, rfl, by decide +kernel, rfl, by decide +kernel, by decide +kernel⟩
abbrev s_read_tree : Stmt := top 80
theorem sc_read_tree : FnScope ["grammar", "text", "tree", "at"] ["grammar", "text"] (defScope s_read_tree) := ⟨rfl, rfl, rfl, by decide +kernel, rfl, by decide +kernel, by decide +kernel⟩
abbrev s__law_cell_at : Stmt := top 82
theorem sc__law_cell_at : FnScope ["script", "k"] ["script", "k"] (defScope s__law_cell_at) := ⟨rfl, rfl, rfl, by decide +kernel, rfl, by decide +kernel, by decide +kernel⟩
abbrev s__law_next : Stmt := top 83
theorem sc__law_next : FnScope ["script", "spot"] ["script", "spot"] (defScope s__law_next) := ⟨rfl, rfl, rfl, by decide +kernel, rfl, by decide +kernel, by decide +kernel⟩
abbrev s__law_rule_by : Stmt := top 84
theorem sc__law_rule_by : FnScope ["cell", "parts", "left", "k"] ["cell"] (defScope s__law_rule_by) := ⟨rfl, rfl, rfl, by decide +kernel, rfl, by decide +kernel, by decide +kernel⟩
abbrev s__law_known : Stmt := top 85
theorem sc__law_known : FnScope ["number", "some", "rules", "word", "name", "parts"] ["number"] (defScope s__law_known) := ⟨rfl, rfl, rfl, by decide +kernel, rfl, by decide +kernel, by decide +kernel⟩
abbrev s__law_closed : Stmt := top 86
theorem sc__law_closed : FnScope ["rules", "found", "rule", "name", "has", "used"] ["rules"] (defScope s__law_closed) := ⟨rfl, rfl, rfl, by decide +kernel, rfl, by decide +kernel, by decide +kernel⟩
abbrev s__law_grammar : Stmt := top 87
theorem sc__law_grammar : FnScope ["script", "spot", "cell", "many", "rules", "k"] ["script", "spot"] (defScope s__law_grammar) := ⟨rfl, rfl, rfl, by decide +kernel, rfl, by decide +kernel, by decide +kernel⟩
abbrev s__law_heights : Stmt := top 88
theorem sc__law_heights : FnScope ["grammar", "heights", "letter", "turn", "name", "parts", "high", "part"] ["grammar"] (defScope s__law_heights) := ⟨rfl, rfl, rfl, by decide +kernel, rfl, by decide +kernel, by decide +kernel⟩
abbrev s__law_grown : Stmt := top 89
theorem sc__law_grown : FnScope ["script", "spot", "grammar", "heights", "name", "fuel", "some", "number", "rule", "part", "cell", "below"] ["script", "spot", "grammar", "heights", "name", "fuel"] (defScope s__law_grown) := ⟨rfl, rfl, rfl, by decide +kernel, rfl, by decide +kernel, by decide +kernel⟩
abbrev s__law_some_tree : Stmt := top 90
theorem sc__law_some_tree : FnScope ["script", "spot", "grammar", "fuel", "heights"] ["script", "spot", "grammar", "fuel"] (defScope s__law_some_tree) := ⟨rfl, rfl, rfl, by decide +kernel, rfl, by decide +kernel, by decide +kernel⟩
abbrev s__law_part : Stmt := top 94
theorem sc__law_part : FnScope ["part"] ["part"] (defScope s__law_part) := ⟨rfl, rfl, rfl, by decide +kernel, rfl, by decide +kernel, by decide +kernel⟩
abbrev s__law_text : Stmt := top 95
theorem sc__law_text : FnScope ["text", "sign"] ["text"] (defScope s__law_text) := ⟨rfl, rfl, rfl, by decide +kernel, rfl, by decide +kernel, by decide +kernel⟩
abbrev s__law_other : Stmt := top 96
theorem sc__law_other : FnScope ["grammar", "name", "parts", "part"] ["grammar"] (defScope s__law_other) := ⟨rfl, rfl, rfl, by decide +kernel, rfl, by decide +kernel, by decide +kernel⟩
abbrev s__law_tree : Stmt := top 97
theorem sc__law_tree : FnScope ["tree", "below"] ["tree"] (defScope s__law_tree) := ⟨rfl, rfl, rfl, by decide +kernel, rfl, by decide +kernel, by decide +kernel⟩
abbrev s__law_parts : Stmt := top 98
theorem sc__law_parts : FnScope ["row", "part"] ["row"] (defScope s__law_parts) := ⟨rfl, rfl, rfl, by decide +kernel, rfl, by decide +kernel, by decide +kernel⟩
abbrev s__law_told : Stmt := top 99
theorem sc__law_told : FnScope ["pairs", "name", "row"] ["pairs"] (defScope s__law_told) := ⟨rfl, rfl, rfl, by decide +kernel, rfl, by decide +kernel, by decide +kernel⟩
abbrev s__law_marks_like : Stmt := top 100
theorem sc__law_marks_like : FnScope ["grammar", "other", "name", "text", "length"] ["grammar", "other"] (defScope s__law_marks_like) := ⟨rfl, rfl, rfl, by decide +kernel, rfl, by decide +kernel, by decide +kernel⟩
abbrev s__law_forms : Stmt := top 101
theorem sc__law_forms : FnScope ["rows", "form"] ["rows"] (defScope s__law_forms) := ⟨rfl, rfl, rfl, by decide +kernel, rfl, by decide +kernel, by decide +kernel⟩
abbrev s__law_trees_like : Stmt := top 102
theorem sc__law_trees_like : FnScope ["grammar", "other", "tree", "mine", "name", "one", "two"] ["grammar", "other", "tree"] (defScope s__law_trees_like) := ⟨rfl, rfl, rfl, by decide +kernel, rfl, by decide +kernel, by decide +kernel⟩
abbrev s_law : Stmt := top 103
theorem sc_law : FnScope ["script", "spot", "grammar", "other", "tree"] ["script"] (defScope s_law) := ⟨rfl, rfl, rfl, by decide +kernel, rfl, by decide +kernel, by decide +kernel⟩
/-- what the top has left -/
structure Txt (K : PySem.W.Frag) (mg : Str → Option Value) : Prop where
  b_len : mg "len" = none
  b_all : mg "all" = none
  b_list : mg "list" = none
  b_tuple : mg "tuple" = none
  b_sorted : mg "sorted" = none
  b_range : mg "range" = none
  b_enumerate : mg "enumerate" = none
  b_reversed : mg "reversed" = none
  b_sum : mg "sum" = none
  b_max : mg "max" = none
  b_min : mg "min" = none
  b_str : mg "str" = none
  b_int : mg "int" = none
  b_isinstance : mg "isinstance" = none
  c_MOST_RULES : ∃ t, mg "MOST_RULES" = some (.int cMOST_RULES t)
  c_MOST_PARTS : ∃ t, mg "MOST_PARTS" = some (.int cMOST_PARTS t)
  c_MOST_NAME : ∃ t, mg "MOST_NAME" = some (.int cMOST_NAME t)
  c_LETTERS : ∃ t, mg "LETTERS" = some (.str cLETTERS t)
  c_CAPITALS : ∃ t, mg "CAPITALS" = some (.str cCAPITALS t)
  c_FIGURES : ∃ t, mg "FIGURES" = some (.str cFIGURES t)
  c_MOST_IN_TREE : ∃ t, mg "MOST_IN_TREE" = some (.int cMOST_IN_TREE t)
  c_DEEPEST : ∃ t, mg "DEEPEST" = some (.int cDEEPEST t)
  c_END : ∃ t, mg "END" = some (.str cEND t)
  d_is_letter : DefAt K mg "is_letter" s_is_letter ["part"]
  d_is_name : DefAt K mg "is_name" s_is_name ["part"]
  d_is_rule : DefAt K mg "is_rule" s_is_rule ["rule"]
  d_is_grammar : DefAt K mg "is_grammar" s_is_grammar ["grammar"]
  d_must_be_grammar : DefAt K mg "must_be_grammar" s_must_be_grammar ["grammar"]
  d_names_by : DefAt K mg "names_by" s_names_by ["grammar"]
  d_names : DefAt K mg "names" s_names ["grammar"]
  d_letters_by : DefAt K mg "letters_by" s_letters_by ["grammar"]
  d_letters : DefAt K mg "letters" s_letters ["grammar"]
  d_numbers_by : DefAt K mg "numbers_by" s_numbers_by ["grammar", "name"]
  d_must_have : DefAt K mg "must_have" s_must_have ["grammar", "name"]
  d_rules_of : DefAt K mg "rules_of" s_rules_of ["grammar", "name"]
  d_fits : DefAt K mg "fits" s_fits ["grammar", "part", "tree"]
  d_count_of : DefAt K mg "count_of" s_count_of ["tree"]
  d_depth_of : DefAt K mg "depth_of" s_depth_of ["tree"]
  d_is_tree_of : DefAt K mg "is_tree_of" s_is_tree_of ["grammar", "part", "tree"]
  d_is_tree : DefAt K mg "is_tree" s_is_tree ["grammar", "tree"]
  d_must_be_tree : DefAt K mg "must_be_tree" s_must_be_tree ["grammar", "tree"]
  d_letters_of : DefAt K mg "letters_of" s_letters_of ["tree"]
  d_text_of : DefAt K mg "text_of" s_text_of ["grammar", "tree"]
  d_sizes : DefAt K mg "sizes" s_sizes ["grammar", "tree"]
  d_spans_from : DefAt K mg "spans_from" s_spans_from ["grammar", "tree", "place"]
  d_spans : DefAt K mg "spans" s_spans ["grammar", "tree"]
  d_numbers_in : DefAt K mg "numbers_in" s_numbers_in ["tree"]
  d_order : DefAt K mg "order" s_order ["grammar", "one", "other"]
  d_steps_of : DefAt K mg "steps_of" s_steps_of ["grammar", "tree"]
  d_numbers_right : DefAt K mg "numbers_right" s_numbers_right ["tree"]
  d_right_steps : DefAt K mg "right_steps" s_right_steps ["grammar", "tree"]
  d_grown : DefAt K mg "grown" s_grown ["grammar", "part", "steps", "at", "right"]
  d_tree_by : DefAt K mg "tree_by" s_tree_by ["grammar", "steps", "right"]
  d_tree_of : DefAt K mg "tree_of" s_tree_of ["grammar", "steps"]
  d_from_right : DefAt K mg "from_right" s_from_right ["grammar", "steps"]
  d_unfolded : DefAt K mg "unfolded" s_unfolded ["grammar", "steps", "right"]
  d_forms_left : DefAt K mg "forms_left" s_forms_left ["grammar", "tree"]
  d_forms_right : DefAt K mg "forms_right" s_forms_right ["grammar", "tree"]
  d_makes_by : DefAt K mg "makes_by" s_makes_by ["grammar"]
  d_makes : DefAt K mg "makes" s_makes ["grammar"]
  d_reached_from : DefAt K mg "reached_from" s_reached_from ["rules", "name"]
  d_reached : DefAt K mg "reached" s_reached ["grammar"]
  d_empties_by : DefAt K mg "empties_by" s_empties_by ["grammar"]
  d_empties : DefAt K mg "empties" s_empties ["grammar"]
  d_useful_rules : DefAt K mg "useful_rules" s_useful_rules ["grammar"]
  d_firsts_by : DefAt K mg "firsts_by" s_firsts_by ["grammar"]
  d_begins_with : DefAt K mg "begins_with" s_begins_with ["parts", "known", "hollow"]
  d_firsts : DefAt K mg "firsts" s_firsts ["grammar"]
  d_followers_by : DefAt K mg "followers_by" s_followers_by ["grammar"]
  d_follow_rule : DefAt K mg "follow_rule" s_follow_rule ["name", "parts", "found", "known", "hollow"]
  d_followers : DefAt K mg "followers" s_followers ["grammar"]
  d_least_by : DefAt K mg "least_by" s_least_by ["grammar"]
  d_least_text : DefAt K mg "least_text" s_least_text ["grammar", "name"]
  d_lengths_by : DefAt K mg "lengths_by" s_lengths_by ["grammar"]
  d_least_lengths : DefAt K mg "least_lengths" s_least_lengths ["grammar"]
  d_shown : DefAt K mg "shown" s_shown ["grammar"]
  d_read : DefAt K mg "read" s_read ["text"]
  d_written_tree : DefAt K mg "written_tree" s_written_tree ["tree"]
  d_shown_tree : DefAt K mg "shown_tree" s_shown_tree ["grammar", "tree"]
  d_number_from : DefAt K mg "number_from" s_number_from ["text", "at"]
  d_tree_from : DefAt K mg "tree_from" s_tree_from ["text", "at", "deep"]
  d_read_tree : DefAt K mg "read_tree" s_read_tree ["grammar", "text"]
  d__law_cell_at : DefAt K mg "_law_cell_at" s__law_cell_at ["script", "k"]
  d__law_next : DefAt K mg "_law_next" s__law_next ["script", "spot"]
  d__law_rule_by : DefAt K mg "_law_rule_by" s__law_rule_by ["cell"]
  d__law_known : DefAt K mg "_law_known" s__law_known ["number"]
  d__law_closed : DefAt K mg "_law_closed" s__law_closed ["rules"]
  d__law_grammar : DefAt K mg "_law_grammar" s__law_grammar ["script", "spot"]
  d__law_heights : DefAt K mg "_law_heights" s__law_heights ["grammar"]
  d__law_grown : DefAt K mg "_law_grown" s__law_grown ["script", "spot", "grammar", "heights", "name", "fuel"]
  d__law_some_tree : DefAt K mg "_law_some_tree" s__law_some_tree ["script", "spot", "grammar", "fuel"]
  d__law_part : DefAt K mg "_law_part" s__law_part ["part"]
  d__law_text : DefAt K mg "_law_text" s__law_text ["text"]
  d__law_other : DefAt K mg "_law_other" s__law_other ["grammar"]
  d__law_tree : DefAt K mg "_law_tree" s__law_tree ["tree"]
  d__law_parts : DefAt K mg "_law_parts" s__law_parts ["row"]
  d__law_told : DefAt K mg "_law_told" s__law_told ["pairs"]
  d__law_marks_like : DefAt K mg "_law_marks_like" s__law_marks_like ["grammar", "other"]
  d__law_forms : DefAt K mg "_law_forms" s__law_forms ["rows"]
  d__law_trees_like : DefAt K mg "_law_trees_like" s__law_trees_like ["grammar", "other", "tree"]
  d_law : DefAt K mg "law" s_law ["script"]
end RN

end
section
set_option maxRecDepth 100000
set_option maxHeartbeats 4000000
namespace RN
open PySem L2
/-! ### short forms -/
theorem lt_b {i n : Nat} (h : Nat.blt i n = true) : i < n := Nat.le_of_ble_eq_true h
theorem no_b {own : List Nat} {i : Nat} (h : own.contains i = false) : i ∉ own := fun z => by
  rw [List.contains_iff_mem.mpr z] at h
  cases h
theorem in_b {own : List Nat} {i : Nat} (h : own.contains i = true) : i ∈ own := List.contains_iff_mem.mp h
section
variable {M0 H0 : Hp} {own : List Nat} {X : Hp} {Γ Γ' : Gm} {t u tb : TS} {D : Ends} {te ta : TE} {tt : TT} {d d' : RN.D} {g : TG} {b : Bool} {K : PySem.W.Frag}
theorem hs_set {i : Nat} (h : EV own te Γ d) (k : Ho M0 H0 own X (Γ.set i (some d)) u D) (hi : own.contains i = false := by rfl) (hl : Nat.blt i Γ.length = true := by rfl) : Ho M0 H0 own X Γ (tSeq (tAsg te (gName i)) u) D :=
  ho_seq (ho_asg h (tg_name (no_b hi) (lt_b hl)) k)
theorem hs_own {i : Nat} (h : EN own te Γ d) (k : Ho M0 H0 own X (Γ.set i (some d)) u D) (hi : own.contains i = true := by rfl) (hl : Nat.blt i Γ.length = true := by rfl) : Ho M0 H0 own X Γ (tSeq (tAsg te (gName i)) u) D :=
  ho_seq (ho_own h (in_b hi) (lt_b hl) k)
theorem hs_tup2 {i j : Nat} {d1 d2 : RN.D} (h : EV own te Γ (.tup [d1, d2])) (k : Ho M0 H0 own X ((Γ.set i (some d1)).set j (some d2)) u D) (hi : own.contains i = false := by rfl) (hj : own.contains j = false := by rfl) (li : Nat.blt i Γ.length = true := by rfl) (lj : Nat.blt j Γ.length = true := by rfl) :
    Ho M0 H0 own X Γ (tSeq (tAsg te (gTup K 2 (gCons (gName i) (gCons (gName j) gNil)))) u) D :=
  ho_seq (ho_asg h (tg_tup2 (no_b hi) (no_b hj) (lt_b li) (lt_b lj)) k)
theorem hs_drop (h : EV own te Γ d) (k : Ho M0 H0 own X Γ u D) : Ho M0 H0 own X Γ (tSeq (tDrop te) u) D := ho_seq (ho_drop h k)
theorem hs_if (h : ETT own tt Γ b) (h1 : b = true → Ho M0 H0 own X Γ t { D with nx := u D }) (h2 : b = false → Ho M0 H0 own X Γ u D) : Ho M0 H0 own X Γ (tSeq (tIfS tt t tNext) u) D := ho_seq (ho_if h h1 h2)
theorem ho_when (h : ETT own tt Γ b) (h1 : b = true → Ho M0 H0 own X Γ t D) (h2 : b = false → Nx M0 H0 own X Γ D.nx) : Ho M0 H0 own X Γ (tIfS tt t tNext) D := ho_if h h1 h2
theorem hs_app {i : Nat} {ds : List RN.D} (h : EV own te Γ d) (hd : Γ[i]? = some (some (.lst ds))) (hl : ds.length < 100000) (k : Ho M0 H0 own X (Γ.set i (some (.lst (ds ++ [d])))) u D) (hi : own.contains i = true := by rfl) :
    Ho M0 H0 own X Γ (tSeq (tDrop (tBM K "list" rAppend (tVar i) (tCons te tNil))) u) D := ho_seq (ho_app (in_b hi) hd h hl k)
end
/-- a dict of one's own is filled -/
theorem ho_dput {M0 H0 : Hp} {own : List Nat} {X : Hp} {Γ : Gm} {D : Ends} {te ty : TE} {d : RN.D} {i : Nat} {ks : List (Str × RN.D)} {s : Str} (hd : Γ[i]? = some (some (.dct ks))) (h : EV own te Γ d) (hs : ED ty Γ (.str s)) (hl : ks.length < 100000)
    (k : Nx M0 H0 own X (Γ.set i (some (.dct (putD ks s d)))) D.nx) (hi : own.contains i = true := by rfl) : Ho M0 H0 own X Γ (sDPut (tVar i) ty te) D := fun σ H ⟨R, s0⟩ => by
  have hi := in_b hi
  refine h M0 H0 X σ H R s0 _ fun v H1 R1 s1 rv => ?_
  obtain ⟨p, h1, h2, h3, h4, o, h5, h6⟩ := s1.ow i _ hi hd
  refine ⟨.ref p, h1, ?_⟩
  refine hs σ _ H1 s1.seen_le s1.slots _ fun y M2 H2 g ry => ?_
  cases ry
  have s2 := s1.after g
  obtain ⟨p', q1, q2, q3, q4, o', q5, q6⟩ := s2.ow i _ hi hd
  rw [h1] at q1
  cases q1
  cases q6 with
  | @dct kvs _ r =>
    have rv2 : Rep (less own Γ σ M2) v d := rv.mono fun b u e => by
      have nb : ¬ OwnA own Γ σ b := fun z => by rw [(s1.ownA z).1] at e; cases e
      rw [less_not nb]
      exact g.m _ _ (s1.seen_sub _ _ e)
    exact ⟨p, _, rfl, DPut.k (k := Sum.inr s) q5 (by rw [r.length]; exact Nat.lt_of_lt_of_le hl (by decide)), k σ _ ⟨_, s2.put hi hd h1 (.dct (r.put rv2))⟩⟩

/-! ### grammars as data -/
def encR (r : Str × List Str) : D := .tup [.str r.1, .tup (r.2.map .str)]
def encG (g : Gr) : D := .lst (g.map encR)
theorem imms_str : ∀ l : List Str, imms (l.map D.str) = true
  | [] => rfl
  | s :: l => by rw [List.map_cons, imms, imms_str l]; rfl
theorem imms_int : ∀ l : List Int, imms (l.map D.int) = true
  | [] => rfl
  | s :: l => by rw [List.map_cons, imms, imms_int l]; rfl
theorem imms_bl : ∀ l : List Bool, imms (l.map D.bl) = true
  | [] => rfl
  | s :: l => by rw [List.map_cons, imms, imms_bl l]; rfl
theorem imm_R (r : Str × List Str) : imm (encR r) = true := by simp [encR, imm, imms, imms_str]
theorem imms_G : ∀ g : Gr, imms (g.map encR) = true
  | [] => rfl
  | r :: g => by rw [List.map_cons, imms, imms_G g, imm_R]; rfl

section
variable {P : Program} {w : World} {K : PySem.W.Frag} {mg : Str → Option Value} {base : Heap}
def R_is_letter (ds : List D) (d : D) : Prop := ∃ s : Str, ds = [.str s] ∧ s.length ≤ 1000 ∧ d = .bl (isLetter s)
theorem r_is_letter {s : Str} (h : s.length ≤ 1000) : R_is_letter [.str s] (.bl (isLetter s)) := ⟨s, rfl, h, rfl⟩
theorem cal_is_letter (T : Txt K mg) : Cal P w K mg base 1 "is_letter" ["part"] (spF R_is_letter) := by
  refine T.d_is_letter.cal sc_is_letter [] (by simp) (fun ds d ⟨s, h, _⟩ => by rw [h]; rfl) fun f cdv A outer s H E hr => ⟨_, (pss_one (ps_ret (pe_and (pe_cmpR op_eq (pe_callB call_len_str (by rfl) T.b_len (by decide +kernel) (pa_cons (pv 0) pa_nil)) pe_int (nomark _)) (pe_one (pe_cmpR op_in_sign (pv 0) (peGS (by rfl) T.c_LETTERS) rfl))))), fun ds d h M0 H0 Q q => ?_⟩
  obtain ⟨s, rfl, hl, rfl⟩ := h
  refine ho_ret (ev_imm ((ed_andV (ed_eqI (ed_lenS (ed_var rfl) (by omega)) ed_cint) (b := isLetter s) fun e => ?_).is ?_) rfl) q
  · obtain ⟨c, rfl⟩ := str_one (s := s) (by have := of_decide_eq_true e; omega)
    exact ed_inSign (ed_var rfl) ed_cstr
  · cases hL : isLetter s with
    | false => simp
    | true =>
      have := isLetter_len hL
      simp [this]

/-! all([.. for ..]) -/
theorem ed_allLc {Γ : Gm} {vs : List Nat} {α : Type} {wi : TI} {g : TG} {te : TE} (as : List α) (enc : α → D) (f : α → Bool) (hI : EI wi Γ (as.map enc)) (hl : as.length ≤ 100000)
    (ht : ∀ a, a ∈ as → ∃ Γ', TgS g (enc a) vs (wipeG Γ vs) Γ' ∧ ED te Γ' (.bl (f a))) : ED (tCB (rAll K) (tCons (tLc wi g tYes te vs) tNil)) Γ (.bl (as.all f)) := by
  have q := (ef_lcM (te := te) as enc (fun a => .bl (f a)) hI hl ht).ed
  rw [show (as.map fun a => D.bl (f a)) = (as.map f).map D.bl by rw [List.map_map]; rfl] at q
  exact (ed_all q).is (by rw [List.all_map]; rfl)

def R_is_name (ds : List D) (d : D) : Prop := ∃ s : Str, ds = [.str s] ∧ s.length ≤ 1000 ∧ d = .bl (isName s)
theorem cal_is_name (T : Txt K mg) : Cal P w K mg base 1 "is_name" ["part"] (spF R_is_name) := by
  refine T.d_is_name.cal sc_is_name [] (by simp) (fun ds d ⟨s, h, _⟩ => by rw [h]; rfl) fun f cdv A outer s H E hr => ⟨_, (pss_cons (ps_if (PW.pt (pw_or (pt_not (pt_chain op_le op_le pe_int (pe_callB call_len_str (by rfl) T.b_len (by decide +kernel) (pa_cons (pv 0) pa_nil)) (peGI (by rfl) T.c_MOST_NAME))) (pw_or1 (pt_cmpR op_notIn_sign (pe_ix ix_str (pv 0) pe_int (fun _ _ => rfl)) (peGS (by rfl) T.c_CAPITALS) rfl)))) (pss_one (ps_ret pe_bl)) pss_nil)
      (pss_one (ps_ret (pe_callB (cr_all rfl) (by rfl) T.b_all (by decide +kernel) (pa_cons (pe_lc (own := [("sign", 1)]) (g := (gName 1)) (tt := tYes) (te := (tOrV (tOp rInSign (tVar 1) (tC (.str cCAPITALS))) (tOp rInSign (tVar 1) (tC (.str cFIGURES))))) rfl sc_is_name.nd (pi_str (pv 0)) (blkOk_by (N := ["part", "sign"]) (sc := defScope s_is_name) (by decide +kernel)) (fun _ _ _ _ _ => (pg_name (i := 1) sc_is_name.nd rfl (.inl rfl))) (fun _ _ _ _ _ => pts_nil) (fun _ _ _ _ _ => (pe_or (pe_cmpR op_in_sign (pv 1) (peGS (by rfl) T.c_CAPITALS) rfl) (pe_one (pe_cmpR op_in_sign (pv 1) (peGS (by rfl) T.c_FIGURES) rfl))))) pa_nil))))), fun ds d h M0 H0 Q q => ?_⟩
  obtain ⟨s, rfl, hl, rfl⟩ := h
  have hL := len_l s
  cases hs : s.cps.toList with
  | nil =>
    rw [hs] at hL
    have e : isName s = false := by unfold isName; rw [hs]
    rw [e] at q
    refine hs_if (b := true) (ett ((et_or (a := true) (b := true) ((et_not (et_test (ed_chain (z := .int 8) (k := false) (k' := false) ed_cint (ed_lenS (ed_var rfl) (by omega)) ?_ (fun e => nomatch e) fun e => nomatch e))).is rfl) fun e => nomatch e).is rfl)) (fun _ => ?_) fun e => nomatch e
    · rw [hL]
      exact rd_I0 fun M => .bl _
    · exact ho_ret (ev_imm ed_cbl rfl) q
  | cons c r =>
    rw [hs] at hL
    have hL' : s.length = r.length + 1 := hL
    have c0 : s.cps.toList[0]? = some c := by rw [hs]; rfl
    refine hs_if (b := (!(decide ((1 : Int) ≤ (s.length : Int)) && decide ((s.length : Int) ≤ 8))) || !decide (c ∈ cCAPITALS.cps.toList)) (ett (et_or (et_not (et_test (ed_chain ed_cint (ed_lenS (ed_var rfl) (by omega)) (rd_I0 fun M => .bl _) (fun _ => ed_cint) fun _ => rd_I0 fun M => .bl _))) fun _ => et_test (ed_notInSign (ed_ixS (j := 0) (ed_var rfl) ed_cint rfl (by omega) c0) ed_cstr))) (fun e => ?_) fun e => ?_
    · have e1 : isName s = false := by
        unfold isName
        rw [hs]
        simp only [Bool.or_eq_true, Bool.not_eq_true', Bool.and_eq_false_iff, decide_eq_false_iff_not] at e
        rcases e with (e | e) | e
        · omega
        · have : ¬ r.length < 8 := by omega
          simp [this]
        · simp [e]
      rw [e1] at q
      exact ho_ret (ev_imm ed_cbl rfl) q
    · simp only [Bool.or_eq_false_iff, Bool.not_eq_false', Bool.and_eq_true, decide_eq_true_eq] at e
      have e1 : isName s = (c :: r).all fun x => decide (x ∈ cCAPITALS.cps.toList) || decide (x ∈ cFIGURES.cps.toList) := by
        unfold isName
        rw [hs]
        have : r.length < 8 := by omega
        simp only [this, e.2, decide_true, Bool.true_and]
      rw [e1] at q
      refine ho_ret (ev_imm (ed_allLc (c :: r) (fun x => .str ⟨#[x]⟩) (fun x => decide (x ∈ cCAPITALS.cps.toList) || decide (x ∈ cFIGURES.cps.toList)) ?_ (by rw [List.length_cons]; omega) fun a _ => ⟨_, ts_name (by simp), ed_orV (ed_inSign (ed_var rfl) ed_cstr) fun _ => ed_inSign (ed_var rfl) ed_cstr⟩) rfl) q
      rw [← hs]
      exact ei_str (ed_var rfl)

/-! rules -/
def R_is_rule (ds : List D) (d : D) : Prop := ∃ r, ds = [encR r] ∧ isRule r = true ∧ d = .bl true
theorem cal_is_rule (T : Txt K mg) : Cal P w K mg base 2 "is_rule" ["rule"] (spF R_is_rule) := by
  have C_is_name := cal_is_name (P := P) (w := w) (base := base) T
  have C_is_letter := cal_is_letter (P := P) (w := w) (base := base) T
  refine T.d_is_rule.cal sc_is_rule [] (by simp) (fun ds d ⟨s, h, _⟩ => by rw [h]; rfl) fun f cdv A outer s H E hr => ⟨_, (pss_cons (ps_asg (pv 0) (pg_tup rfl (pgs_cons (pg_name (i := 1) sc_is_rule.nd rfl (.inl rfl)) (pgs_cons (pg_name (i := 2) sc_is_rule.nd rfl (.inl rfl)) pgs_nil))))
      (pss_cons (ps_if (PW.pt (pw_or (pt_not (pt_val (peC C_is_name (hr.mono (by first | decide | omega)) (by rfl) (pa_cons (pv 1) pa_nil)))) (pw_or1 (pt_cmpR op_gt (pe_callB call_len_seq (by rfl) T.b_len (by decide +kernel) (pa_cons (pv 2) pa_nil)) (peGI (by rfl) T.c_MOST_PARTS) (nomark _))))) (pss_one (ps_ret pe_bl)) pss_nil)
      (pss_one (ps_ret (pe_callB (cr_all rfl) (by rfl) T.b_all (by decide +kernel) (pa_cons (pe_lc (own := [("part", 3)]) (g := (gName 3)) (tt := tYes) (te := (tOrV (tCall (spF R_is_letter) [] E0 (tCons (tVar 3) tNil)) (tCall (spF R_is_name) [] E0 (tCons (tVar 3) tNil)))) rfl sc_is_rule.nd (pi_tup (pv 2)) (blkOk_by (N := ["rule", "name", "parts", "part"]) (sc := defScope s_is_rule) (by decide +kernel)) (fun _ _ _ _ _ => (pg_name (i := 3) sc_is_rule.nd rfl (.inl rfl))) (fun _ _ _ _ _ => pts_nil) (fun _ _ _ _ _ => (pe_or (peC C_is_letter (hr.mono (by first | decide | omega)) (by rfl) (pa_cons (pv 3) pa_nil)) (pe_one (peC C_is_name (hr.mono (by first | decide | omega)) (by rfl) (pa_cons (pv 3) pa_nil)))))) pa_nil)))))), fun ds d h M0 H0 Q q => ?_⟩
  obtain ⟨⟨n, ps⟩, rfl, hr, rfl⟩ := h
  unfold isRule at hr
  simp only [Bool.and_eq_true, decide_eq_true_eq, List.all_eq_true] at hr
  obtain ⟨⟨h1, h2⟩, h3⟩ := hr
  have hn := isName_len h1
  refine hs_tup2 (ev_all (ed_var rfl)) (hs_if (b := false) (ett ((et_or (a := false) (b := false) ((et_not (et_B (ed_call (ea_cons (ed_var rfl) ea_nil) ⟨n, rfl, by omega, rfl⟩))).is (by rw [h1]; rfl)) fun _ => (et_test (ed_gt (ed_lenT (ed_var rfl)) ed_cint)).is ?_).is rfl)) (fun e => nomatch e) fun _ => ?_)
  · rw [List.length_map]
    have h2 : ps.length ≤ 6 := h2
    exact decide_eq_false (by show ¬ ((6 : Int) < (ps.length : Int)); omega)
  · refine ho_ret (ev_imm ((ed_allLc ps D.str isPart (ei_tup (ed_var rfl)) (by omega) fun p hp => ⟨_, ts_name (by simp), ?_⟩).is ?_) rfl) q
    · have hl := isPart_len (h3 p hp)
      exact ed_orV (ed_call (ea_cons (ed_var rfl) ea_nil) ⟨p, rfl, by omega, rfl⟩) fun _ => ed_call (ea_cons (ed_var rfl) ea_nil) ⟨p, rfl, by omega, rfl⟩
    · rw [List.all_eq_true.mpr h3]
end
end RN

end
section
set_option maxRecDepth 100000
set_option maxHeartbeats 4000000
namespace RN
open PySem L2
/-! ### is_grammar -/
theorem Stt.xnew {M0 H0 : Hp} {own : List Nat} {X : Hp} {Γ : Gm} {σ : L2.St} {H R : Hp} (s : Stt M0 H0 own X Γ σ H R) {p : Addr} (hp : H p = none) (o : HO) : Stt M0 H0 own (upd X p o) Γ σ (upd H p o) R := by
  have ne : ∀ b u, H b = some u → b ≠ p := fun b u e z => by rw [z, hp] at e; cases e
  refine ⟨s.len, ⟨s.g.m, s.g.h.trans (same_new hp o), s.g.s.trans (same_new hp o), s.g.n⟩, s.non, fun i d hi e => ?_, s.dis, fun b u e => ?_⟩
  · obtain ⟨q, h1, h2, h3, h4, u, h5, h6⟩ := s.ow i d hi e
    have hq := ne _ _ h5
    exact ⟨q, h1, h2, h3, by rw [upd_ne hq]; exact h4, u, by rw [upd_ne hq]; exact h5, h6⟩
  · by_cases hb : b = p
    · subst hb
      rw [upd_same] at e
      exact ⟨by rw [upd_same]; exact e, s.g.s.free hp, s.g.h.free hp⟩
    · rw [upd_ne hb] at e ⊢
      exact s.x b u e
theorem Stt.xput {M0 H0 : Hp} {own : List Nat} {X : Hp} {Γ : Gm} {σ : L2.St} {H R : Hp} (s : Stt M0 H0 own X Γ σ H R) {p : Addr} {o0 : HO} (hp : X p = some o0) (o : HO) : Stt M0 H0 own (upd X p o) Γ σ (upd H p o) R := by
  obtain ⟨p1, p2, p3⟩ := s.x p o0 hp
  refine ⟨s.len, ⟨s.g.m, fun b u e => ?_, fun b u e => ?_, s.g.n⟩, s.non, fun i d hi e => ?_, s.dis, fun b u e => ?_⟩
  · rw [upd_ne (fun z => by rw [z, p3] at e; cases e)]
    exact s.g.h _ _ e
  · rw [upd_ne (fun z => by rw [z, p2] at e; cases e)]
    exact s.g.s _ _ e
  · obtain ⟨q, h1, h2, h3, h4, u, h5, h6⟩ := s.ow i d hi e
    have hq : q ≠ p := fun z => by rw [z, hp] at h4; cases h4
    exact ⟨q, h1, h2, h3, by rw [upd_ne hq]; exact h4, u, by rw [upd_ne hq]; exact h5, h6⟩
  · by_cases hb : b = p
    · subst hb
      rw [upd_same] at e
      exact ⟨by rw [upd_same]; exact e, p2, p3⟩
    · rw [upd_ne hb] at e ⊢
      exact s.x b u e
theorem ruleAt_of {H : Hp} {v : V} {r : Str × List Str} (h : Rep H v (encR r)) : ∃ q, v = .ref q ∧ RuleAt H q r := by
  unfold encR at h
  cases h with
  | tup h1 r1 =>
    cases r1 with
    | cons a r1 =>
      cases a
      cases r1 with
      | cons b r1 =>
        cases r1
        cases b with
        | tup h2 r2 =>
          have z := r2.strs
          subst z
          exact ⟨_, rfl, _, h1, h2⟩
theorem hs_for {M0 H0 : Hp} {own : List Nat} {X : Hp} {Γ : Gm} {u tb : TS} {D : Ends} {g : TG} {α : Type} {wi : TI} (as : List α) (enc : α → RN.D) (Γs : Nat → Gm) (hI : EI wi (maskG own 0 (Γs 0)) (as.map enc))
    (hs : ∀ M1 H1, BLe M0 H0 M1 H1 → ∀ (k : Nat) (a : α), as[k]? = some a → ∃ Γ2, TgV own g (enc a) (Γs k) Γ2 ∧ Ho M1 H1 own X Γ2 tb { D with nx := SJ M1 H1 own X (· = Γs (k + 1)), ct := SJ M1 H1 own X (· = Γs (k + 1)), bk := u D })
    (hd : Ho M0 H0 own X (Γs as.length) u D) (h0 : LeG (Γs 0) Γ := by repeat (first | exact trivial | refine ⟨rfl, ?_⟩)) : Ho M0 H0 own X Γ (tSeq (tFor wi g tb) u) D := by
  refine ho_seq (ho_le h0 (ho_for (D := { D with nx := u D }) as enc (fun k Γ1 => Γ1 = Γs k) hI rfl (fun M1 H1 bl k a Γ1 ha hj => ?_) fun Γ1 hj => ?_))
  · subst hj
    exact hs M1 H1 bl k a ha
  · subst hj
    exact hd
/-- the last statement of a block -/
theorem ho_forE {M0 H0 : Hp} {own : List Nat} {X : Hp} {Γ : Gm} {tb : TS} {D : Ends} {g : TG} {α : Type} {wi : TI} (as : List α) (enc : α → RN.D) (Γs : Nat → Gm) (hI : EI wi (maskG own 0 (Γs 0)) (as.map enc))
    (hs : ∀ M1 H1, BLe M0 H0 M1 H1 → ∀ (k : Nat) (a : α), as[k]? = some a → ∃ Γ2, TgV own g (enc a) (Γs k) Γ2 ∧ Ho M1 H1 own X Γ2 tb { D with nx := SJ M1 H1 own X (· = Γs (k + 1)), ct := SJ M1 H1 own X (· = Γs (k + 1)), bk := D.nx })
    (hd : Nx M0 H0 own X (Γs as.length) D.nx) (h0 : LeG (Γs 0) Γ := by repeat (first | exact trivial | refine ⟨rfl, ?_⟩)) : Ho M0 H0 own X Γ (tFor wi g tb) D := by
  refine ho_le h0 (ho_for as enc (fun k Γ1 => Γ1 = Γs k) hI rfl (fun M1 H1 bl k a Γ1 ha hj => ?_) fun Γ1 hj => ?_)
  · subst hj
    exact hs M1 H1 bl k a ha
  · subst hj
    exact hd
/-- a turn's end: the state is the next one's -/
theorem nx_to {M0 H0 : Hp} {own : List Nat} {X : Hp} {Γ : Gm} {Γ' : Gm} (h : LeG Γ' Γ := by repeat (first | exact trivial | refine ⟨rfl, ?_⟩)) : Nx M0 H0 own X Γ (SJ M0 H0 own X (· = Γ')) := nx_sj h rfl
theorem take_succ {α : Type} {l : List α} {i : Nat} {a : α} (h : l[i]? = some a) : l.take (i + 1) = l.take i ++ [a] := by rw [List.take_add_one, h]; rfl
section
variable {P : Program} {w : World} {K : PySem.W.Frag} {mg : Str → Option Value} {base : Heap}
def R_is_grammar (ds : List D) (d : D) : Prop := ∃ g, ds = [encG g] ∧ GOk g ∧ d = .bl true
theorem cal_is_grammar (T : Txt K mg) : Cal P w K mg base 3 "is_grammar" ["grammar"] (spF R_is_grammar) := by
  have C_is_rule := cal_is_rule (P := P) (w := w) (base := base) T
  have C_is_letter := cal_is_letter (P := P) (w := w) (base := base) T
  refine T.d_is_grammar.cal sc_is_grammar [] (by simp) (fun ds d ⟨s, h, _⟩ => by rw [h]; rfl) fun f cdv A outer s H E hr => ⟨_, (pss_cons (ps_if (pt_not (pt_chain op_le op_le pe_int (pe_callB call_len_seq (by rfl) T.b_len (by decide +kernel) (pa_cons (pv 0) pa_nil)) (peGI (by rfl) T.c_MOST_RULES))) (pss_one (ps_ret pe_bl)) pss_nil)
      (pss_cons (ps_set (i := 1) sc_is_grammar.nd rfl (.inl rfl) pe_dnewX)
      (pss_cons (ps_for PassesOwn.never rfl (pi_list (pv 0)) (pg_name (i := 2) sc_is_grammar.nd rfl (.inl rfl))
      (pss_cons (ps_if (PW.pt (pw_or (pt_not (pt_val (peC C_is_rule (hr.mono (by first | decide | omega)) (by rfl) (pa_cons (pv 2) pa_nil)))) (pw_or1 (pt_cmp (pc_dinX (units65 hr) (pv 2) (pv 1)))))) (pss_one (ps_ret pe_bl)) pss_nil)
      (pss_one (ps_dputX (units65 hr) (pv 1) (pv 2) pe_bl rfl))))
      (pss_cons (ps_set (i := 3) sc_is_grammar.nd rfl (.inr rfl) (pe_lc (own := [("rule", 2)]) (g := (gName 2)) (tt := tYes) (te := (tOp (rIxT K) (tVar 2) (tC (.int 0)))) rfl sc_is_grammar.nd (pi_list (pv 0)) (blkOk_by (N := ["grammar", "known", "rule", "ruled", "part"]) (sc := defScope s_is_grammar) (by decide +kernel)) (fun _ _ _ _ _ => (pg_name (i := 2) sc_is_grammar.nd rfl (.inl rfl))) (fun _ _ _ _ _ => pts_nil) (fun _ _ _ _ _ => (pe_ix ix_tup (pv 2) pe_int (fun _ _ => rfl)))))
      (pss_cons (ps_for PassesOwn.never rfl (pi_list (pv 0)) (pg_name (i := 2) sc_is_grammar.nd rfl (.inl rfl))
      (pss_one (ps_if (pt_not (pt_val (pe_callB (cr_all rfl) (by rfl) T.b_all (by decide +kernel) (pa_cons (pe_lc (own := [("part", 4)]) (g := (gName 4)) (tt := tYes) (te := (tOrV (tCall (spF R_is_letter) [] E0 (tCons (tVar 4) tNil)) (tOp (rIn K false) (tVar 4) (tVar 3)))) rfl sc_is_grammar.nd (pi_tup (pe_ix ix_tup (pv 2) pe_int (fun _ _ => rfl))) (blkOk_by (N := ["grammar", "known", "rule", "ruled", "part"]) (sc := defScope s_is_grammar) (by decide +kernel)) (fun _ _ _ _ _ => (pg_name (i := 4) sc_is_grammar.nd rfl (.inl rfl))) (fun _ _ _ _ _ => pts_nil) (fun _ _ _ _ _ => (pe_or (peC C_is_letter (hr.mono (by first | decide | omega)) (by rfl) (pa_cons (pv 4) pa_nil)) (pe_one (pe_cmpR op_in_seq (pv 4) (pv 3) rfl))))) pa_nil)))) (pss_one (ps_ret pe_bl)) pss_nil)))
      (pss_one (ps_ret pe_bl))))))), fun ds d h M0 H0 Q q => ?_⟩
  obtain ⟨g, rfl, ok, rfl⟩ := h
  have hgl : (g.map encR).length = g.length := List.length_map _
  have hg1 : 1 ≤ g.length := by
    cases e : g with
    | nil => exact absurd e ok.ne
    | cons a b => rw [List.length_cons]; omega
  have hg40 := ok.len
  refine hs_if (b := false) (ett ((et_not (et_test (ed_chain ed_cint (ed_lenL (ds := g.map encR) (ed_var rfl)) (rd_I0 fun M => .bl _) (fun _ => ed_cint) fun _ => rd_I0 fun M => .bl _))).is ?_)) (fun e => nomatch e) fun _ => ?_
  · rw [hgl]
    have e1 : decide ((1 : Int) ≤ (g.length : Int)) = true := decide_eq_true (by omega)
    have e2 : decide ((g.length : Int) ≤ cMOST_RULES) = true := decide_eq_true (by show (g.length : Int) ≤ 40; omega)
    rw [e1, e2]
    rfl
  -- known = {}
  intro σ H1 ⟨R, s1⟩
  obtain ⟨v0, z0, r0⟩ := s1.non 0 (encG g) (by simp) rfl
  unfold encG at r0
  cases r0 with
  | @lst ga vs _ hga rga =>
  intro p hp
  have s2 := (s1.xnew hp (NdO P w p [])).set (i := 1) (v := .ref p) (d := .opq (.ref p)) (by simp) (lt_b rfl) (.opq _)
  have hlen : vs.length = g.length := by rw [rga.length, hgl]
  have z1 : (σ.set 1 (some (.ref p)))[0]? = some (some (.ref ga)) := by rw [List.getElem?_set_ne (by decide)]; exact z0
  obtain ⟨Hb, bl, s2b⟩ := s2.base
  -- for rule in grammar
  refine ⟨.ref ga, z1, ga, rfl, ⟨vs, sqL (s2.g.s _ _ hga)⟩, for_list (K := K) (a := ga) (xs := vs) (fun i σ' H' => ∃ R' xs, Stt R Hb [] (upd nilH p (NdO P w p xs)) [some (encG g), some (.opq (.ref p)), none, none, none] σ' H' R' ∧ xs.map (·.1) = g.take i ∧ ∀ e ∈ xs, RuleAt R e.2 e.1)
    ⟨R, [], s2b, by simp, by simp⟩ (fun i σ' H' _ ⟨R', xs, s3, _⟩ => sqL (s3.g.s _ _ (s3.g.m _ _ hga))) ?_ ?_⟩
  · rintro i v σ' H' hi ⟨R', xs, s3, hxs, hk⟩
    obtain ⟨d, hd, rv⟩ := rga.getV hi
    rw [List.getElem?_map] at hd
    have hil : i < g.length := by
      have := (List.getElem?_eq_some_iff.mp hi).1
      omega
    have hgi : g[i]? = some g[i] := List.getElem?_eq_getElem hil
    rw [hgi] at hd
    cases hd
    obtain ⟨q0, rfl, ra⟩ := ruleAt_of rv
    have hrule := ok.rule g[i] (List.getElem_mem hil)
    have s4 := s3.set (i := 2) (v := .ref q0) (d := encR g[i]) (by simp) (lt_b (i := 2) (n := [some (encG g), some (D.opq (V.ref p)), none, none, none].length) rfl) (rv.mono s3.g.m)
    have w1 : (σ'.set 2 (some (.ref q0)))[1]? = some (some (.ref p)) := by
      obtain ⟨v1, w1, rv1⟩ := s4.non 1 _ (by simp) rfl
      cases rv1
      exact w1
    have w2 : (σ'.set 2 (some (.ref q0)))[2]? = some (some (.ref q0)) := List.getElem?_set_self (by rw [s3.len]; exact lt_b rfl)
    have hnot : g[i] ∉ xs.map (·.1) := by
      rw [hxs]
      intro hm
      obtain ⟨j, hj, e⟩ := List.getElem_of_mem hm
      rw [List.length_take] at hj
      rw [List.getElem_take] at e
      have := (List.getElem_inj ok.nd).mp e
      omega
    have hnd : (xs.map (·.1)).Nodup := by
      rw [hxs]
      exact ok.nd.sublist (List.take_sublist _ _)
    have hxl : xs.length ≤ 1000 := by
      have : (xs.map (·.1)).length = xs.length := List.length_map _
      rw [hxs, List.length_take] at this
      omega
    -- not is_rule(rule) or rule in known
    dsimp only [gName, tSeq, tIfS, tOr]
    refine (ett (own := []) (b := false) ((et_not (et_B (ed_call (R := R_is_rule) (d := .bl true) (ea_cons (ed_var (i := 2) rfl) ea_nil) ⟨g[i], rfl, hrule, rfl⟩))).is rfl)) R Hb _ _ _ _ s4 _ fun H5 R5 s5 => ?_
    have toH : Same R H5 := s5.g.m.trans s5.g.s
    have xp := (s5.x p _ upd_same).1
    refine iteF ?_
    refine ⟨_, w2, _, w1, p, q0, g[i], xs, rfl, rfl, xp, ra.mono toH, fun e he => (hk e he).mono toH, hnd, _, rfl, ?_⟩
    rw [decide_eq_false hnot]
    refine iteF ?_
    -- known[rule] = True
    refine ⟨_, w1, _, w2, p, q0, g[i], xs, rfl, rfl, rfl, xp, ra.mono toH, fun e he => (hk e he).mono toH, hnd, hnot, hxl, ?_⟩
    refine ⟨R5, xs ++ [(g[i], q0)], ?_, ?_, fun e he => ?_⟩
    · have s6 := (s5.xput (p := p) upd_same (NdO P w p (xs ++ [(g[i], q0)]))).le (Γ' := [some (encG g), some (.opq (.ref p)), none, none, none]) ⟨rfl, rfl, trivial⟩
      rw [upd_upd] at s6
      exact s6
    · rw [List.map_append, hxs, take_succ hgi]
      rfl
    · rcases List.mem_append.mp he with he | he
      · exact hk e he
      · have : e = (g[i], q0) := by simpa using he
        rw [this]
        exact ra
  · rintro σ' H' ⟨R', xs, s3, hxs, hk⟩
    -- the rest
    have st : ST M0 H0 [] (upd nilH p (NdO P w p xs)) [some (encG g), some (.opq (.ref p)), none, none, none] σ' H' := ⟨R', s3.back bl⟩
    revert st
    generalize (upd nilH p (NdO P w p xs)) = X
    refine fun st => (?_ : Ho M0 H0 [] X [some (encG g), some (.opq (.ref p)), none, none, none] _ _) σ' H' st
    refine hs_set (ev_all ((ef_lcM g encR (fun r => .str r.1) (ei_list (ds := g.map encR) (ed_var rfl)) (by omega) fun r _ => ⟨_, ts_name (by simp), ed_ixT (j := 0) (ds := [.str r.1, .tup (r.2.map .str)]) (ed_var rfl) ed_cint rfl rfl⟩).ed)) ?_
    refine hs_for g encR (fun _ => [some (encG g), some (.opq (.ref p)), none, some (.lst (g.map fun r => .str r.1)), none]) (ei_list (ds := g.map encR) (ed_var rfl)) (fun M1 H1 bl1 k r hr => ⟨_, tg_name (by simp) (lt_b rfl), ?_⟩) ?_
    · have hm : r ∈ g := List.mem_of_getElem? hr
      obtain ⟨h1, h2, h3⟩ := isRule_w (ok.rule r hm)
      refine ho_when (b := false) (ett ((et_not (et_B ((ed_allLc r.2 D.str (fun _ => true) (ei_tup (ds := r.2.map .str) (ed_ixT (j := 1) (ds := [.str r.1, .tup (r.2.map .str)]) (ed_var rfl) ed_cint rfl rfl)) (by omega) fun s hs => ⟨_, ts_name (by simp), ?_⟩)))).is (by simp))) (fun e => nomatch e) fun _ => nx_to
      have hl := (h3 s hs).1
      refine (ed_orV (ed_call (ea_cons (ed_var rfl) ea_nil) ⟨s, rfl, by omega, rfl⟩) (b := decide (s ∈ g.map (·.1))) fun _ => ed_inL (ed_var rfl) (ed_var ?_)).is ?_
      · rw [List.map_map]
        rfl
      · rcases ok.closed r hm s hs with h | h
        · rw [h]
          rfl
        · rw [decide_eq_true h, Bool.or_true]
    · exact ho_ret (ev_imm ed_cbl rfl) q
end
end RN

end
section
set_option maxRecDepth 100000
set_option maxHeartbeats 4000000
namespace RN
open PySem L2 Sym
/-! ### signs as data -/
abbrev es (o : Bool) (p : Sym) : D := .str (em o p)
def encSR (o : Bool) (r : Sym × List Sym) : D := .tup [es o r.1, .tup (r.2.map (es o))]
def encSG (o : Bool) (g : SG) : D := .lst (g.map (encSR o))
theorem encG_em (o : Bool) (g : SG) : encG (emG o g) = encSG o g := by
  unfold encG encSG emG
  rw [List.map_map]
  congr 1
  apply List.map_congr_left
  intro r _
  simp only [Function.comp, encR, emR, encSR, List.map_map]
  rfl
theorem imms_es (o : Bool) : ∀ l : List Sym, imms (l.map (es o)) = true
  | [] => rfl
  | s :: l => by rw [List.map_cons, imms, imms_es o l]; rfl
theorem map_es (o : Bool) (l : List Sym) : l.map (es o) = (l.map (em o)).map D.str := by rw [List.map_map]; rfl
theorem mem_em {o : Bool} {x : Sym} {l : List Sym} : em o x ∈ l.map (em o) ↔ x ∈ l := by
  constructor
  · intro h
    obtain ⟨y, hy, e⟩ := List.mem_map.mp h
    rw [← em_inj e]
    exact hy
  · exact fun h => List.mem_map.mpr ⟨x, h, rfl⟩
section
variable {Γ : Gm} {ta tb te : TE} {K : PySem.W.Frag} {o : Bool}
theorem ed_inLs {x : Sym} {l : List Sym} (ha : ED ta Γ (es o x)) (hb : ED tb Γ (.lst (l.map (es o)))) : ED (tOp (rIn K false) ta tb) Γ (.bl (decide (x ∈ l))) := by
  rw [map_es] at hb
  refine (ed_inL ha hb).is ?_
  rw [decide_eq_decide.mpr mem_em]
theorem ed_notInLs {x : Sym} {l : List Sym} (ha : ED ta Γ (es o x)) (hb : ED tb Γ (.lst (l.map (es o)))) : ED (tOp (rIn K true) ta tb) Γ (.bl (!decide (x ∈ l))) := by
  rw [map_es] at hb
  refine (ed_notInL ha hb).is ?_
  rw [decide_eq_decide.mpr mem_em]
theorem ed_eqs {x y : Sym} (ha : ED ta Γ (es o x)) (hb : ED tb Γ (es o y)) : ED (tOp rEq ta tb) Γ (.bl (decide (x = y))) := by
  refine (ed_eqS ha hb).is ?_
  rw [decide_eq_decide.mpr em_eq]
theorem ed_nes {x y : Sym} (ha : ED ta Γ (es o x)) (hb : ED tb Γ (es o y)) : ED (tOp rNe ta tb) Γ (.bl (!decide (x = y))) := by
  refine (ed_neS ha hb).is ?_
  rw [decide_eq_decide.mpr em_eq]
end
theorem r_isL (o : Bool) (p : Sym) : R_is_letter [es o p] (.bl (isL p)) := by
  rw [← em_L o p]
  exact r_is_letter (by have := (em_len o p).2; omega)
/-! dicts -/
def dctA {β : Type} (o : Bool) (enc : β → D) (l : List (Sym × β)) : List (Str × D) := l.map fun e => (em o e.1, enc e.2)
theorem getK_A {β : Type} (o : Bool) (enc : β → D) (x : Sym) : ∀ l : List (Sym × β), getK (dctA o enc l) (em o x) = (getA l x).map enc
  | [] => rfl
  | e :: l => by
    have ih := getK_A o enc x l
    unfold getK getA dctA at ih ⊢
    rw [List.map_cons, List.find?_cons, List.find?_cons]
    by_cases h : e.1 = x
    · have h' : em o e.1 = em o x := by rw [h]
      simp [h]
    · have h' : ¬ em o e.1 = em o x := fun z => h (em_inj z)
      simp only [h, h', decide_false]
      exact ih
theorem hasK_A {β : Type} (o : Bool) (enc : β → D) (x : Sym) (l : List (Sym × β)) : hasK (dctA o enc l) (em o x) = (getA l x).isSome := by
  unfold hasK
  rw [getK_A]
  cases getA l x <;> rfl
theorem putD_A {β : Type} (o : Bool) (enc : β → D) (x : Sym) (b : β) (l : List (Sym × β)) : putD (dctA o enc l) (em o x) (enc b) = dctA o enc (putA l x b) := by
  unfold putD putA dctA
  have h : ((l.map fun e => (em o e.1, enc e.2)).any fun e => decide (e.1 = em o x)) = l.any fun e => decide (e.1 = x) := by
    rw [List.any_map]
    apply congrArg (fun f => l.any f)
    funext e
    show decide (em o e.1 = em o x) = decide (e.1 = x)
    rw [decide_eq_decide.mpr em_eq]
  rw [h]
  split
  · rw [List.map_map, List.map_map]
    apply List.map_congr_left
    intro e _
    show (if em o e.1 = em o x then (em o e.1, enc b) else (em o e.1, enc e.2)) = (fun e => (em o e.1, enc e.2)) (if e.1 = x then (e.1, b) else e)
    by_cases h : e.1 = x
    · rw [if_pos h, if_pos (by rw [h])]
    · rw [if_neg h, if_neg (fun z => h (em_inj z))]
  · rw [List.map_append]
    rfl
def setD (o : Bool) (l : List Sym) : List (Str × D) := l.map fun s => (em o s, .bl true)
theorem hasK_set (o : Bool) (x : Sym) : ∀ l : List Sym, hasK (setD o l) (em o x) = decide (x ∈ l)
  | [] => rfl
  | e :: l => by
    have ih := hasK_set o x l
    unfold hasK getK setD at ih ⊢
    rw [List.map_cons, List.find?_cons]
    by_cases h : e = x
    · subst h
      simp
    · have h' : ¬ em o e = em o x := fun z => h (em_inj z)
      simp only [h', decide_false]
      rw [ih]
      simp [Ne.symm h]
theorem putD_set (o : Bool) (x : Sym) (l : List Sym) : putD (setD o l) (em o x) (.bl true) = setD o (addN l x) := by
  unfold putD addN
  have h : ((setD o l).any fun e => decide (e.1 = em o x)) = decide (x ∈ l) := by
    unfold setD
    rw [List.any_map]
    rw [Bool.eq_iff_iff]
    simp only [List.any_eq_true, Function.comp, decide_eq_true_eq]
    constructor
    · rintro ⟨y, hy, e⟩
      rw [← em_inj e]
      exact hy
    · exact fun hx => ⟨x, hx, rfl⟩
  rw [h]
  by_cases hx : x ∈ l
  · rw [decide_eq_true hx, if_pos rfl, if_pos hx]
    unfold setD
    rw [List.map_map]
    apply List.map_congr_left
    intro e _
    show (if em o e = em o x then (em o e, D.bl true) else (em o e, D.bl true)) = _
    split <;> rfl
  · rw [decide_eq_false hx, if_neg (by decide), if_neg hx]
    unfold setD
    rw [List.map_append]
    rfl
theorem keys_set (o : Bool) (l : List Sym) : ((setD o l).map fun e => D.str e.1) = l.map (es o) := by
  unfold setD
  rw [List.map_map]
  rfl
theorem immK_set (o : Bool) : ∀ l : List Sym, immK (setD o l) = true
  | [] => rfl
  | s :: l => by
    have := immK_set o l
    unfold setD at this ⊢
    rw [List.map_cons, immK, this]
    rfl
theorem len_set (o : Bool) (l : List Sym) : (setD o l).length = l.length := List.length_map _
section
variable {Γ : Gm} {ta tb te : TE} {K : PySem.W.Frag} {o : Bool}
theorem ed_dins {x : Sym} {l : List Sym} (ha : ED ta Γ (es o x)) (hb : ED tb Γ (.dct (setD o l))) : ED (tDIn ta tb) Γ (.bl (decide (x ∈ l))) := (ed_dinB ha hb).is (by rw [hasK_set])
theorem ed_dnotins {x : Sym} {l : List Sym} (ha : ED ta Γ (es o x)) (hb : ED tb Γ (.dct (setD o l))) : ED (tDNotIn ta tb) Γ (.bl (!decide (x ∈ l))) := (ed_dnotinB ha hb).is (by rw [hasK_set])
theorem ed_dinA {β : Type} {enc : β → D} {x : Sym} {l : List (Sym × β)} (ha : ED ta Γ (es o x)) (hb : ED tb Γ (.dct (dctA o enc l))) : ED (tDIn ta tb) Γ (.bl (getA l x).isSome) := (ed_dinB ha hb).is (by rw [hasK_A])
theorem ed_dnotinA {β : Type} {enc : β → D} {x : Sym} {l : List (Sym × β)} (ha : ED ta Γ (es o x)) (hb : ED tb Γ (.dct (dctA o enc l))) : ED (tDNotIn ta tb) Γ (.bl (!(getA l x).isSome)) := (ed_dnotinB ha hb).is (by rw [hasK_A])
theorem ed_dgetA {β : Type} {enc : β → D} {x : Sym} {b : β} {l : List (Sym × β)} (hb : ED tb Γ (.dct (dctA o enc l))) (ha : ED ta Γ (es o x)) (h : getA l x = some b) : ED (tDGet tb ta) Γ (enc b) := ed_dget hb ha (by rw [getK_A, h]; rfl)
end
/-! sorted -/
theorem leI_trans (a b c : Sym) (h1 : leI a b = true) (h2 : leI b c = true) : leI a c = true := by
  unfold leI at *
  simp only [decide_eq_true_eq] at *
  omega
theorem leI_total (a b : Sym) : (leI a b || leI b a) = true := by
  unfold leI
  simp only [Bool.or_eq_true, decide_eq_true_eq]
  omega
theorem em_toList {o : Bool} {x : Sym} (h : isN x = false) : (em o x).cps.toList = [cd o x] := by rw [em_cd h]
theorem sorted_uniq (o : Bool) (l : List Sym) (hl : ∀ x ∈ l, isN x = false) (ys : List Str) (hp : ys.Perm (l.map (em o))) (hs : PyProof.Rows.sortedS ys = true) : ys = (sortI l).map (em o) := by
  have hp2 : ((sortI l).map (em o)).Perm (l.map (em o)) := (List.mergeSort_perm l leI).map _
  have rise : ∀ (p : Str) (ys : List Str), (∀ y ∈ p :: ys, ∃ x, isN x = false ∧ y = em o x) → PyProof.Rows.risingS p ys = true → (p :: ys).Pairwise fun a b : Str => ¬ b.cps.toList < a.cps.toList := by
    intro p ys
    induction ys generalizing p with
    | nil => intro _ _; exact List.pairwise_singleton _ _
    | cons y ys ih =>
      intro hm h
      simp only [PyProof.Rows.risingS, Bool.and_eq_true, Bool.not_eq_true'] at h
      rw [PyProof.Rows.ltCps_eq, decide_eq_false_iff_not] at h
      have h2 := ih y (fun z hz => hm z (List.mem_cons_of_mem _ hz)) h.2
      refine List.pairwise_cons.mpr ⟨fun z hz => ?_, h2⟩
      rcases List.mem_cons.mp hz with rfl | hz'
      · exact h.1
      · have h3 := (List.pairwise_cons.mp h2).1 z hz'
        obtain ⟨a, ha, rfl⟩ := hm p (by simp)
        obtain ⟨b, hb, rfl⟩ := hm y (by simp)
        obtain ⟨c, hc, rfl⟩ := hm z (by simp [hz'])
        rw [em_toList ha, em_toList hb] at h
        rw [em_toList hb, em_toList hc] at h3
        rw [em_toList ha, em_toList hc]
        have q1 := h.1
        simp only [List.cons_lt_cons_iff, List.not_lt_nil, and_false, or_false, Nat.not_lt] at q1 h3 ⊢
        omega
  refine List.Perm.eq_of_pairwise (le := fun a b : Str => ¬ b.cps.toList < a.cps.toList) (fun a b ha hb h1 h2 => ?_) ?_ ?_ (hp.trans hp2.symm)
  · obtain ⟨x, hx, rfl⟩ := List.mem_map.mp (hp.mem_iff.mp ha)
    obtain ⟨y, hy, rfl⟩ := List.mem_map.mp (hp2.mem_iff.mp hb)
    have hx' := hl x hx
    have hy' := hl y hy
    rw [em_toList hx', em_toList hy'] at h1 h2
    simp only [List.cons_lt_cons_iff, List.not_lt_nil, and_false, or_false, Nat.not_lt] at h1 h2
    have e1 : ¬ idx y < idx x := fun z => by have := (cd_lt (o := o) hy' hx').mpr z; omega
    have e2 : ¬ idx x < idx y := fun z => by have := (cd_lt (o := o) hx' hy').mpr z; omega
    rw [idx_inj (x := x) (y := y) (by omega)]
  · cases ys with
    | nil => exact List.Pairwise.nil
    | cons p ys =>
      refine rise p ys (fun y hy => ?_) hs
      obtain ⟨x, hx, rfl⟩ := List.mem_map.mp (hp.mem_iff.mp hy)
      exact ⟨x, hl x hx, rfl⟩
  · have q := List.pairwise_mergeSort (le := leI) leI_trans leI_total l
    have q2 : (sortI l).Pairwise fun a b => leI a b = true ∧ a ∈ l ∧ b ∈ l := by
      refine List.Pairwise.imp_of_mem (fun {a b} ha hb h => ⟨h, (List.mergeSort_perm l leI).mem_iff.mp ha, (List.mergeSort_perm l leI).mem_iff.mp hb⟩) q
    refine List.Pairwise.map (em o) (fun a b ⟨h1, h2, h3⟩ z => ?_) q2
    have ha := hl a h2
    have hb := hl b h3
    rw [em_toList ha, em_toList hb] at z
    simp only [List.cons_lt_cons_iff, List.not_lt_nil, and_false, or_false] at z
    have := (cd_lt hb ha).mp z
    unfold leI at h1
    simp only [decide_eq_true_eq] at h1
    omega
theorem ef_sorts {Γ : Gm} {ta : TE} {K : PySem.W.Frag} {o : Bool} {l : List Sym} (ha : ED ta Γ (.lst (l.map (es o)))) (hl : ∀ x ∈ l, isN x = false) (hlen : l.length < 64) : EF (tCB (rSortedS K) (tCons ta tNil)) Γ (.lst ((sortI l).map (es o))) := by
  rw [map_es] at ha
  rw [map_es]
  exact ef_sortedS ha (by rw [List.length_map]; exact hlen) fun ys h1 h2 => sorted_uniq o l hl ys h1 h2
theorem sym_len {l : List Sym} (h : l.Nodup) : l.length ≤ 7 := by
  have := List.Nodup.length_le_of_subset (l₂ := [.a, .b, .c, .A, .B, .S, .dot]) h (fun x _ => by cases x <;> simp)
  simpa using this
end RN

end
section
set_option maxRecDepth 100000
set_option maxHeartbeats 4000000
namespace RN
open PySem L2 Sym
/-! ### names, letters, numbers -/
theorem r_is_grammar (o : Bool) {g : SG} (h : SOk g) : R_is_grammar [encSG o g] (.bl true) := ⟨emG o g, by rw [encG_em], h.gok o, rfl⟩
theorem imm_SR (o : Bool) (r : Sym × List Sym) : imm (encSR o r) = true := by simp [encSR, imm, imms, imms_es]
theorem imms_SG (o : Bool) : ∀ g : SG, imms (g.map (encSR o)) = true
  | [] => rfl
  | r :: g => by rw [List.map_cons, imms, imms_SG o g, imm_SR]; rfl
theorem fold_take {α β : Type} {f : β → α → β} {s : β} {l : List α} {k : Nat} {a : α} (h : l[k]? = some a) : (l.take (k + 1)).foldl f s = f ((l.take k).foldl f s) a := by rw [take_succ h, List.foldl_append]; rfl
theorem namesS_len (g : SG) : (namesS g).length ≤ 7 := sym_len (nd_namesS g)
theorem namesS_succ {g : SG} {k : Nat} {r : Sym × List Sym} (h : g[k]? = some r) : namesS (g.take (k + 1)) = addN (namesS (g.take k)) r.1 := by
  unfold namesS
  rw [take_succ h, List.map_append, List.foldl_append]
  rfl
theorem addL_nd {acc : List Sym} {p : Sym} (h : acc.Nodup) : (addL acc p).Nodup := by
  unfold addL
  split
  · exact nd_addN h
  · exact h
theorem foldl_addL_nd : ∀ (l acc : List Sym), acc.Nodup → (l.foldl addL acc).Nodup
  | [], acc, h => h
  | y :: l, acc, h => foldl_addL_nd l _ (addL_nd h)
theorem foldl_addL_L : ∀ (l acc : List Sym), (∀ x ∈ acc, isL x = true) → ∀ x ∈ l.foldl addL acc, isL x = true
  | [], acc, h => h
  | y :: l, acc, h => foldl_addL_L l _ (by
    intro x hx
    unfold addL at hx
    split at hx
    · rcases mem_addN.mp hx with e | e
      · exact h x e
      · rw [e]; assumption
    · exact h x hx)
theorem letters0_succ {g : SG} {k : Nat} {r : Sym × List Sym} (h : g[k]? = some r) : letters0 (g.take (k + 1)) = r.2.foldl addL (letters0 (g.take k)) := by
  unfold letters0
  rw [take_succ h, List.flatMap_append, List.foldl_append]
  simp [List.flatMap_cons]
theorem letters0_nd (g : SG) : (letters0 g).Nodup := foldl_addL_nd _ _ List.nodup_nil
theorem letters0_L (g : SG) : ∀ x ∈ letters0 g, isL x = true := foldl_addL_L _ _ (by simp)
theorem encSR_at (o : Bool) (r : Sym × List Sym) : encSR o r = .tup [es o r.1, .tup (r.2.map (es o))] := rfl
section
variable {P : Program} {w : World} {K : PySem.W.Frag} {mg : Str → Option Value} {base : Heap}
inductive R_must_be_grammar : List D → D → Prop | mk (o : Bool) (g : SG) (ok : SOk g) : R_must_be_grammar [encSG o g] .non
theorem cal_must_be_grammar (T : Txt K mg) : Cal P w K mg base 4 "must_be_grammar" ["grammar"] (spF R_must_be_grammar) := by
  have C_is_grammar := cal_is_grammar (P := P) (w := w) (base := base) T
  refine T.d_must_be_grammar.cal sc_must_be_grammar [] (by simp) (fun ds d h => by cases h; rfl) fun f cdv A outer s H E hr => ?_
  refine ⟨_, (pss_one (ps_if (pt_not (pt_val (peC C_is_grammar (hr.mono (by first | decide | omega)) (by rfl) (pa_cons (pv 0) pa_nil)))) (pss_one ps_never) pss_nil)), fun ds d h M0 H0 Q q => ?_⟩
  cases h
  case mk o g ok =>
  exact ho_when (b := false) (ett ((et_not (et_B (ed_call (ea_cons (ed_var rfl) ea_nil) (r_is_grammar o ok)))).is rfl)) (fun e => nomatch e) fun _ σ H' ⟨R, s⟩ => q .non R H' s.g .non

inductive R_names_by : List D → D → Prop | mk (o : Bool) (g : SG) : R_names_by [encSG o g] (.lst ((namesS g).map (es o)))
theorem cal_names_by (T : Txt K mg) : Cal P w K mg base 1 "names_by" ["grammar"] (spF R_names_by) := by
  refine T.d_names_by.cal sc_names_by [1] (by simp) (fun ds d h => by cases h; rfl) fun f cdv A outer s H E hr => ?_
  refine ⟨_, (pss_cons (ps_set (i := 1) sc_names_by.nd rfl (.inl rfl) (pe_lst pa_nil))
      (pss_cons (ps_for PassesOwn.never rfl (pi_list (pv 0)) (pg_tup rfl (pgs_cons (pg_name (i := 2) sc_names_by.nd rfl (.inl rfl)) (pgs_cons (pg_name (i := 3) sc_names_by.nd rfl (.inl rfl)) pgs_nil)))
      (pss_one (ps_if (pt_cmpR op_notIn_seq (pv 2) (pv 1) rfl) (pss_one (ps_expr (pe_bm PySem.F.plainAttrs_list PySem.F.slot_list_append PySem.F.type_list_append mt_append (pv 1) (pa_cons (pv 2) pa_nil)))) pss_nil)))
      (pss_one (ps_ret (pv 1))))), fun ds d h M0 H0 Q q => ?_⟩
  cases h
  case mk o g =>
  refine hs_own (en_flat (ef_lst ea_nil (by decide)) rfl) (hs_for g (encSR o) (fun k => [some (encSG o g), some (.lst ((namesS (g.take k)).map (es o))), none, none]) (ei_list (ds := g.map (encSR o)) (ed_var rfl)) (fun M1 H1 bl k r hr => ⟨_, tg_tup2 (by simp) (by simp) (lt_b rfl) (lt_b rfl), ?_⟩) ?_)
  · refine ho_when (ett (et_test (ed_notInLs (ed_var rfl) (ed_var (i := 1) rfl)))) (fun e => ?_) fun e => ?_
    · refine ho_app (in_b rfl) rfl (ev_imm (ed_var rfl) rfl) (by rw [List.length_map]; have := namesS_len (g.take k); omega) ?_
      have e2 : (namesS (g.take (k + 1))).map (es o) = (namesS (g.take k)).map (es o) ++ [es o r.1] := by
        rw [namesS_succ hr]
        simp only [Bool.not_eq_true', decide_eq_false_iff_not] at e
        unfold addN
        rw [if_neg e, List.map_append]
        rfl
      rw [e2]
      exact nx_to
    · have e2 : namesS (g.take (k + 1)) = namesS (g.take k) := by
        rw [namesS_succ hr]
        simp only [Bool.not_eq_false', decide_eq_true_eq] at e
        unfold addN
        rw [if_pos e]
      rw [e2]
      exact nx_to
  · rw [List.take_length]
    exact ho_freeze 1 (own' := []) (by simp) (ho_ret (ev_all (ed_var rfl)) q)

inductive R_names : List D → D → Prop | mk (o : Bool) (g : SG) (ok : SOk g) : R_names [encSG o g] (.lst ((namesS g).map (es o)))
theorem cal_names (T : Txt K mg) : Cal P w K mg base 5 "names" ["grammar"] (spF R_names) := by
  have C_must_be_grammar := cal_must_be_grammar (P := P) (w := w) (base := base) T
  have C_names_by := cal_names_by (P := P) (w := w) (base := base) T
  refine T.d_names.cal sc_names [] (by simp) (fun ds d h => by cases h; rfl) fun f cdv A outer s H E hr => ?_
  refine ⟨_, (pss_cons (ps_expr (peC C_must_be_grammar (hr.mono (by first | decide | omega)) (by rfl) (pa_cons (pv 0) pa_nil)))
      (pss_one (ps_ret (peC C_names_by (hr.mono (by first | decide | omega)) (by rfl) (pa_cons (pv 0) pa_nil))))), fun ds d h M0 H0 Q q => ?_⟩
  cases h
  case mk o g ok =>
  exact hs_drop (ev_all (ed_call (ea_cons (ed_var rfl) ea_nil) (R_must_be_grammar.mk o g ok))) (ho_ret (ev_all (ed_call (ea_cons (ed_var rfl) ea_nil) (R_names_by.mk o g))) q)

inductive R_letters_by : List D → D → Prop | mk (o : Bool) (g : SG) : R_letters_by [encSG o g] (.lst ((lettersS g).map (es o)))
theorem cal_letters_by (T : Txt K mg) : Cal P w K mg base 2 "letters_by" ["grammar"] (spF R_letters_by) := by
  have C_is_letter := cal_is_letter (P := P) (w := w) (base := base) T
  refine T.d_letters_by.cal sc_letters_by [1] (by simp) (fun ds d h => by cases h; rfl) fun f cdv A outer s H E hr => ?_
  have hu := hu_of hr
  refine ⟨_, (pss_cons (ps_set (i := 1) sc_letters_by.nd rfl (.inl rfl) pe_dnewK)
      (pss_cons (ps_for PassesOwn.never rfl (pi_list (pv 0)) (pg_tup rfl (pgs_cons (pg_name (i := 2) sc_letters_by.nd rfl (.inl rfl)) (pgs_cons (pg_name (i := 3) sc_letters_by.nd rfl (.inl rfl)) pgs_nil)))
      (pss_one (ps_for PassesOwn.never rfl (pi_tup (pv 3)) (pg_name (i := 4) sc_letters_by.nd rfl (.inl rfl))
      (pss_one (ps_if (pt_val (peC C_is_letter (hr.mono (by first | decide | omega)) (by rfl) (pa_cons (pv 4) pa_nil))) (pss_one (ps_dput hu (pv 1) (pv 4) pe_bl rfl)) pss_nil)))))
      (pss_one (ps_ret (pe_callB cr_sortedS (by rfl) T.b_sorted (by decide +kernel) (pa_cons (pe_callTy (call_list_dK rfl) (by rfl) T.b_list (by decide +kernel) (pa_cons (pv 1) pa_nil)) pa_nil)))))), fun ds d h M0 H0 Q q => ?_⟩
  cases h
  case mk o g =>
  refine hs_own (en_flat ef_dnew rfl) (hs_for g (encSR o) (fun k => [some (encSG o g), some (.dct (setD o (letters0 (g.take k)))), none, none, none]) (ei_list (ds := g.map (encSR o)) (ed_var rfl)) (fun M1 H1 bl k r hr => ⟨_, tg_tup2 (by simp) (by simp) (lt_b rfl) (lt_b rfl), ?_⟩) ?_)
  · refine ho_forE r.2 (es o) (fun j => [some (encSG o g), some (.dct (setD o ((r.2.take j).foldl addL (letters0 (g.take k))))), some (es o r.1), some (.tup (r.2.map (es o))), none]) (ei_tup (ed_var rfl)) (fun M2 H2 bl2 j p hp => ⟨_, tg_name (by simp) (lt_b rfl), ?_⟩) ?_
    · refine ho_when (ett (et_B (ed_call (ea_cons (ed_var rfl) ea_nil) (r_isL o p)))) (fun e => ?_) fun e => ?_
      · refine ho_dput (ks := setD o ((r.2.take j).foldl addL (letters0 (g.take k)))) rfl (ev_imm ed_cbl rfl) (ed_var rfl) (by rw [len_set]; have := sym_len (foldl_addL_nd (r.2.take j) _ (letters0_nd (g.take k))); omega) ?_
        rw [putD_set, fold_take hp]
        unfold addL at *
        rw [if_pos e]
        exact nx_to
      · rw [fold_take hp]
        have e2 : addL ((r.2.take j).foldl addL (letters0 (g.take k))) p = (r.2.take j).foldl addL (letters0 (g.take k)) := by
          unfold addL
          rw [if_neg (by rw [e]; decide)]
        rw [e2]
        exact nx_to
    · rw [List.take_length, letters0_succ hr]
      exact nx_to
  · rw [List.take_length]
    refine ho_ret (ev_flat (ef_sorts (l := letters0 g) (o := o) ?_ (fun x hx => isN_of_isL (letters0_L g x hx)) (by have := sym_len (letters0_nd g); omega)) (imms_es o _)) q
    rw [← keys_set]
    exact (ef_listD (ed_var rfl)).ed

inductive R_letters : List D → D → Prop | mk (o : Bool) (g : SG) (ok : SOk g) : R_letters [encSG o g] (.lst ((lettersS g).map (es o)))
theorem cal_letters (T : Txt K mg) : Cal P w K mg base 5 "letters" ["grammar"] (spF R_letters) := by
  have C_must_be_grammar := cal_must_be_grammar (P := P) (w := w) (base := base) T
  have C_letters_by := cal_letters_by (P := P) (w := w) (base := base) T
  refine T.d_letters.cal sc_letters [] (by simp) (fun ds d h => by cases h; rfl) fun f cdv A outer s H E hr => ?_
  refine ⟨_, (pss_cons (ps_expr (peC C_must_be_grammar (hr.mono (by first | decide | omega)) (by rfl) (pa_cons (pv 0) pa_nil)))
      (pss_one (ps_ret (peC C_letters_by (hr.mono (by first | decide | omega)) (by rfl) (pa_cons (pv 0) pa_nil))))), fun ds d h M0 H0 Q q => ?_⟩
  cases h
  case mk o g ok =>
  exact hs_drop (ev_all (ed_call (ea_cons (ed_var rfl) ea_nil) (R_must_be_grammar.mk o g ok))) (ho_ret (ev_all (ed_call (ea_cons (ed_var rfl) ea_nil) (R_letters_by.mk o g))) q)

abbrev ei (n : Nat) : D := .int (n : Int)
theorem enumD_zip {α : Type} (enc : α → D) : ∀ (n : Nat) (l : List α), enumD n (l.map enc) = (l.zipIdx n).map fun x => .tup [.int (x.2 : Int), enc x.1]
  | _, [] => rfl
  | n, y :: l => by rw [List.map_cons, enumD, enumD_zip enc (n + 1) l, List.zipIdx_cons, List.map_cons]
inductive R_numbers_by : List D → D → Prop | mk (o : Bool) (g : SG) (n : Sym) (h : g.length ≤ 1000) : R_numbers_by [encSG o g, es o n] (.lst ((numbersS g n).map ei))
theorem cal_numbers_by (T : Txt K mg) : Cal P w K mg base 1 "numbers_by" ["grammar", "name"] (spF R_numbers_by) := by
  refine T.d_numbers_by.cal sc_numbers_by [] (by simp) (fun ds d h => by cases h; rfl) fun f cdv A outer s H E hr => ?_
  refine ⟨_, (pss_one (ps_ret (pe_lc (own := [("number", 2), ("rule", 3)]) (g := (gTup K 2 (gCons (gName 2) (gCons (gName 3) gNil)))) (tt := (tTest (tOp rEq (tOp (rIxT K) (tVar 3) (tC (.int 0))) (tVar 1)))) (te := (tVar 2)) rfl sc_numbers_by.nd (pi_enum (by rfl) T.b_enumerate (pa_cons (pv 0) pa_nil)) (blkOk_by (N := ["grammar", "name", "number", "rule"]) (sc := defScope s_numbers_by) (by decide +kernel)) (fun _ _ _ _ _ => (pg_tup rfl (pgs_cons (pg_name (i := 2) sc_numbers_by.nd rfl (.inl rfl)) (pgs_cons (pg_name (i := 3) sc_numbers_by.nd rfl (.inl rfl)) pgs_nil)))) (fun _ _ _ _ _ => (pts_one (pt_cmpR op_eq (pe_ix ix_tup (pv 3) pe_int (fun _ _ => rfl)) (pv 1) (nomark _)))) (fun _ _ _ _ _ => (pv 2))))), fun ds d h M0 H0 Q q => ?_⟩
  cases h
  case mk o g n hl =>
  refine ho_ret (ev_all ((ef_lc (el := fun x : (Sym × List Sym) × Nat => ei x.2) (f := fun x : (Sym × List Sym) × Nat => decide (x.1.1 = n)) g.zipIdx (fun x => .tup [.int (x.2 : Int), encSR o x.1]) ?_ (by rw [List.length_zipIdx]; omega) fun x hx => ⟨_, ts_tup2 (by simp) (by simp), ?_, fun _ => ed_var rfl⟩).ed.is ?_)) q
  · rw [← enumD_zip]
    exact ei_enumL (ds := g.map (encSR o)) (ed_var rfl)
  · exact et_test (ed_eqs (ed_ixT (j := 0) (ds := [es o x.1.1, .tup (x.1.2.map (es o))]) (ed_var rfl) ed_cint rfl rfl) (ed_var rfl))
  · unfold numbersS
    rw [List.map_map]
    rfl

inductive R_must_have : List D → D → Prop | mk (o : Bool) (g : SG) (n : Sym) (h : n ∈ namesS g) : R_must_have [encSG o g, es o n] .non
theorem cal_must_have (T : Txt K mg) : Cal P w K mg base 2 "must_have" ["grammar", "name"] (spF R_must_have) := by
  have C_names_by := cal_names_by (P := P) (w := w) (base := base) T
  refine T.d_must_have.cal sc_must_have [] (by simp) (fun ds d h => by cases h; rfl) fun f cdv A outer s H E hr => ?_
  refine ⟨_, (pss_one (ps_if (pt_cmpR op_notIn_seq (pv 1) (peC C_names_by (hr.mono (by first | decide | omega)) (by rfl) (pa_cons (pv 0) pa_nil)) rfl) (pss_one ps_never) pss_nil)), fun ds d h M0 H0 Q q => ?_⟩
  cases h
  case mk o g n h =>
  exact ho_when (b := false) (ett ((et_test (ed_notInLs (ed_var rfl) (ed_call (ea_cons (ed_var rfl) ea_nil) (R_names_by.mk o g)))).is (by rw [decide_eq_true h]; rfl))) (fun e => nomatch e) fun _ σ H' ⟨R, s⟩ => q .non R H' s.g .non

inductive R_rules_of : List D → D → Prop | mk (o : Bool) (g : SG) (n : Sym) (ok : SOk g) (h : n ∈ namesS g) : R_rules_of [encSG o g, es o n] (.lst ((numbersS g n).map ei))
theorem cal_rules_of (T : Txt K mg) : Cal P w K mg base 5 "rules_of" ["grammar", "name"] (spF R_rules_of) := by
  have C_must_be_grammar := cal_must_be_grammar (P := P) (w := w) (base := base) T
  have C_must_have := cal_must_have (P := P) (w := w) (base := base) T
  have C_numbers_by := cal_numbers_by (P := P) (w := w) (base := base) T
  refine T.d_rules_of.cal sc_rules_of [] (by simp) (fun ds d h => by cases h; rfl) fun f cdv A outer s H E hr => ?_
  refine ⟨_, (pss_cons (ps_expr (peC C_must_be_grammar (hr.mono (by first | decide | omega)) (by rfl) (pa_cons (pv 0) pa_nil)))
      (pss_cons (ps_expr (peC C_must_have (hr.mono (by first | decide | omega)) (by rfl) (pa_cons (pv 0) (pa_cons (pv 1) pa_nil))))
      (pss_one (ps_ret (peC C_numbers_by (hr.mono (by first | decide | omega)) (by rfl) (pa_cons (pv 0) (pa_cons (pv 1) pa_nil))))))), fun ds d h M0 H0 Q q => ?_⟩
  cases h
  case mk o g n ok h =>
  exact hs_drop (ev_all (ed_call (ea_cons (ed_var rfl) ea_nil) (R_must_be_grammar.mk o g ok))) (hs_drop (ev_all (ed_call (ea_cons (ed_var rfl) (ea_cons (ed_var rfl) ea_nil)) (R_must_have.mk o g n h))) (ho_ret (ev_all (ed_call (ea_cons (ed_var rfl) (ea_cons (ed_var rfl) ea_nil)) (R_numbers_by.mk o g n (Nat.le_trans ok.len (by decide))))) q))
end
end RN

end
section
set_option maxRecDepth 100000
set_option maxHeartbeats 4000000
namespace RN
open PySem L2 Sym
/-! ### short forms -/
theorem et_orF {Γ : Gm} {t u : TT} (h1 : ET t Γ false) (h2 : ET u Γ false) : ET (tOr t u) Γ false := (et_or h1 fun _ => h2).is rfl
theorem et_orT {Γ : Gm} {t u : TT} (h1 : ET t Γ true) : ET (tOr t u) Γ true := (et_or (b := true) h1 fun e => nomatch e).is rfl
theorem et_notT {Γ : Gm} {t : TT} (h1 : ET t Γ true) : ET (tNot t) Γ false := et_not h1
theorem et_notF {Γ : Gm} {t : TT} (h1 : ET t Γ false) : ET (tNot t) Γ true := et_not h1
theorem ed_andT {Γ : Gm} {t u : TE} (h1 : ED t Γ (.bl true)) (h2 : ED u Γ (.bl true)) : ED (tAndV t u) Γ (.bl true) := (ed_andV h1 fun _ => h2).is rfl
theorem ed_T {Γ : Gm} {t : TE} {b : Bool} (h : ED t Γ (.bl b)) (e : b = true) : ED t Γ (.bl true) := e ▸ h
theorem ed_F {Γ : Gm} {t : TE} {b : Bool} (h : ED t Γ (.bl b)) (e : b = false) : ED t Γ (.bl false) := e ▸ h
section
variable {M0 H0 : Hp} {own : List Nat} {X : Hp} {Γ : Gm} {t u : TS} {D : Ends} {tt : TT} {te : TE} {d : RN.D} {K : PySem.W.Frag}
theorem hs_no (h : ETT own tt Γ false) (k : Ho M0 H0 own X Γ u D) : Ho M0 H0 own X Γ (tSeq (tIfS tt t tNext) u) D := hs_if h (fun e => nomatch e) fun _ => k
theorem hs_yes (h : ETT own tt Γ true) (k : Ho M0 H0 own X Γ t { D with nx := u D }) : Ho M0 H0 own X Γ (tSeq (tIfS tt t tNext) u) D := hs_if h (fun _ => k) fun e => nomatch e
theorem ho_no (h : ETT own tt Γ false) (k : Nx M0 H0 own X Γ D.nx) : Ho M0 H0 own X Γ (tIfS tt t tNext) D := ho_when h (fun e => nomatch e) fun _ => k
theorem hs_ext {i : Nat} {ds es : List RN.D} (hd : Γ[i]? = some (some (.lst ds))) (h : EV own te Γ (.lst es)) (hl : ds.length + es.length ≤ 100000) (k : Ho M0 H0 own X (Γ.set i (some (.lst (ds ++ es)))) u D) (hi : own.contains i = true := by rfl) :
    Ho M0 H0 own X Γ (tSeq (tDrop (tBM K "list" rExtend (tVar i) (tCons te tNil))) u) D := ho_seq (ho_ext (in_b hi) hd h hl k)
theorem hs_skip (hd : Ho M0 H0 own X Γ u D) : Ho M0 H0 own X Γ (tSeq tNext u) D := hd
end
theorem le_b {n : Nat} (h : Nat.ble n 100000 = true) : n ≤ 100000 := Nat.le_of_ble_eq_true h
/-- nothing is promised -/
theorem DefAt.none {P : Program} {w : World} {K : PySem.W.Frag} {mg : Str → Option Value} {base : Heap} {x : Str} {st : Stmt} {ps : List Str} {k : Nat} {R : List D → D → Prop} (d : DefAt K mg x st ps) (no : ∀ ds d, ¬ R ds d) : Cal P w K mg base k x ps (spF R) := by
  obtain ⟨f, fd, F, m, b⟩ := d
  have no2 : ∀ vs H Q E, ¬ spF R vs H Q E := fun vs H Q E ⟨M, ds, d, _, _, h, _⟩ => no ds d h
  exact ⟨f, fd, ⟨fun vs H Q E h => absurd h (no2 vs H Q E), fun A outer s H args us vs Q E _ _ _ _ h => absurd h (no2 vs H Q E)⟩, m, F.kp, b⟩

/-! ### trees as data -/
mutual
def encT (o : Bool) : Tr → D
  | .leaf x => es o x
  | .node n l => .tup [ei n, .tup (encL o l)]
def encL (o : Bool) : List Tr → List D
  | [] => []
  | t :: l => encT o t :: encL o l
end
theorem encL_map (o : Bool) : ∀ l : List Tr, encL o l = l.map (encT o)
  | [] => rfl
  | t :: l => by rw [encL, encL_map o l, List.map_cons]
theorem encT_leaf (o : Bool) (x : Sym) : encT o (.leaf x) = .str (em o x) := by rw [encT]
theorem encT_node (o : Bool) (n : Nat) (l : List Tr) : encT o (.node n l) = .tup [ei n, .tup (l.map (encT o))] := by rw [encT, encL_map]
mutual
theorem imm_T (o : Bool) : ∀ t : Tr, imm (encT o t) = true
  | .leaf _ => by rw [encT]; rfl
  | .node n l => by
    rw [encT]
    simp only [imm, imms, Bool.true_and, Bool.and_true]
    exact imms_L o l
theorem imms_L (o : Bool) : ∀ l : List Tr, imms (encL o l) = true
  | [] => rfl
  | t :: l => by rw [encL, imms, imm_T o t, imms_L o l]; rfl
end
theorem imms_T (o : Bool) (l : List Tr) : imms (l.map (encT o)) = true := by rw [← encL_map]; exact imms_L o l
theorem em_strOk (o : Bool) (x : Sym) : PyData.strOk (em o x) = true := by cases o <;> cases x <;> decide +kernel
theorem plain_es (o : Bool) (x : Sym) (n : Nat) : plain n (es o x) = true := by cases n <;> exact em_strOk o x
theorem plain_int (i : Int) (n : Nat) : plain n (.int i) = true := by cases n <;> rfl
theorem plains_ess (o : Bool) (n : Nat) : ∀ l : List Sym, plains n (l.map (es o)) = true
  | [] => by cases n <;> rfl
  | x :: l => by rw [List.map_cons, plains, plain_es, plains_ess o n l]; rfl
theorem plains_eis (n : Nat) : ∀ l : List Nat, plains n (l.map ei) = true
  | [] => by cases n <;> rfl
  | x :: l => by rw [List.map_cons, plains, plain_int, plains_eis n l]; rfl
theorem plains_mem {n : Nat} {α : Type} (f : α → D) : ∀ l : List α, (∀ x ∈ l, plain n (f x) = true) → plains n (l.map f) = true
  | [], _ => by cases n <;> rfl
  | x :: l, h => by rw [List.map_cons, plains, h x (by simp), plains_mem f l fun y hy => h y (by simp [hy])]; rfl
mutual
theorem plain_T (o : Bool) : ∀ (t : Tr) (n : Nat), 2 * depT t ≤ n → plain n (encT o t) = true
  | .leaf x, n, _ => by rw [encT]; exact plain_es o x n
  | .node k l, n, h => by
    rw [depT] at h
    obtain ⟨m, rfl⟩ : ∃ m, n = m + 2 := ⟨n - 2, by omega⟩
    rw [encT]
    simp only [plain, plains, plain_int, Bool.true_and, Bool.and_true]
    exact plains_L o l m (by omega)
theorem plains_L (o : Bool) : ∀ (l : List Tr) (n : Nat), 2 * depL l ≤ n → plains n (encL o l) = true
  | [], n, _ => by cases n <;> rfl
  | t :: l, n, h => by
    rw [depL] at h
    rw [encL, plains, plain_T o t n (by omega), plains_L o l n (by omega)]
    rfl
end
theorem ed_inLet {Γ : Gm} {ta : TE} {o : Bool} {x : Sym} {z : Str} (ha : ED ta Γ (.str (em o x))) (h : isN x = false) : ED ta Γ (.str ⟨#[cd o x]⟩) := by rw [← em_cd h]; exact ha
theorem cd_L (o : Bool) {x : Sym} (h : isL x = true) : cd o x ∈ cLETTERS.cps.toList := by
  have := em_L o x
  rw [h, em_cd (isN_of_isL h), isLetter_one] at this
  exact of_decide_eq_true this
theorem map_at {α : Type} {l : List α} {f : α → D} {k : Nat} {a : α} (h : l[k]? = some a) : (l.map f)[k]? = some (f a) := by rw [List.getElem?_map, h]; rfl
theorem lt_of_at {α : Type} {l : List α} {k : Nat} {a : α} (h : l[k]? = some a) : k < l.length := (List.getElem?_eq_some_iff.mp h).1
section
variable {P : Program} {w : World} {K : PySem.W.Frag} {mg : Str → Option Value} {base : Heap}
inductive Q_fits (n : Nat) : List D → D → Prop | mk (o : Bool) (g : SG) (p : Sym) (t : Tr) (h6 : ∀ r ∈ g, r.2.length ≤ 6) (ok : Okt g p t) (h : depT t < n) : Q_fits n [encSG o g, es o p, encT o t] (.bl true)
theorem calr_fits (T : Txt K mg) : ∀ n : Nat, Cal P w K mg base (1 + n) "fits" ["grammar", "part", "tree"] (spF (Q_fits n))
  | 0 => T.d_fits.none fun ds d h => by cases h; omega
  | n + 1 => by
    have C_fits := calr_fits T n
    refine T.d_fits.cal (k := 1 + n) sc_fits [] (by simp) (fun ds d h => by cases h; rfl) fun f cdv A outer s H E hr => ?_
    refine ⟨_, (pss_cons (ps_if (pt_val (pe_callB call_isi (by rfl) T.b_isinstance (by decide +kernel) (pa_cons (pv 2) (pa_cons (pe_bltn (v := .ty "str") (u := .type "str") (by rfl) T.b_str (by decide +kernel) rfl) pa_nil)))) (pss_one (ps_ret (pe_and (pe_cmpR op_eq (pv 2) (pv 1) (nomark _)) (pe_and (pe_cmpR op_eq (pe_callB call_len_str (by rfl) T.b_len (by decide +kernel) (pa_cons (pv 1) pa_nil)) pe_int (nomark _)) (pe_one (pe_cmpR op_in_sign (pv 1) pe_str rfl)))))) pss_nil)
      (pss_cons (ps_asg (pv 2) (pg_tup rfl (pgs_cons (pg_name (i := 3) sc_fits.nd rfl (.inl rfl)) (pgs_cons (pg_name (i := 4) sc_fits.nd rfl (.inr rfl)) pgs_nil))))
      (pss_cons (ps_if (PW.pt (pw_or (pt_cmpR op_lt (pv 3) pe_int (nomark _)) (pw_or (pt_cmpR op_ge (pv 3) (pe_callB call_len_seq (by rfl) T.b_len (by decide +kernel) (pa_cons (pv 0) pa_nil)) (nomark _)) (pw_or1 (pt_cmpR op_ne (pe_ix ix_tup (pe_ix ix_list (pv 0) (pv 3) (fun _ _ => rfl)) pe_int (fun _ _ => rfl)) (pv 1) (nomark _)))))) (pss_one (ps_ret pe_bl)) pss_nil)
      (pss_cons (ps_set (i := 5) sc_fits.nd rfl (.inr rfl) (pe_ix ix_tup (pe_ix ix_list (pv 0) (pv 3) (fun _ _ => rfl)) pe_int (fun _ _ => rfl)))
      (pss_cons (ps_if (pt_cmpR op_ne (pe_callB call_len_seq (by rfl) T.b_len (by decide +kernel) (pa_cons (pv 4) pa_nil)) (pe_callB call_len_seq (by rfl) T.b_len (by decide +kernel) (pa_cons (pv 5) pa_nil)) (nomark _)) (pss_one (ps_ret pe_bl)) pss_nil)
      (pss_one (ps_ret (pe_callB (cr_all rfl) (by rfl) T.b_all (by decide +kernel) (pa_cons (pe_lc (own := [("k", 6)]) (g := (gName 6)) (tt := tYes) (te := (tCall (spF (Q_fits n)) [] E0 (tCons (tVar 0) (tCons (tOp (rIxT K) (tVar 5) (tVar 6)) (tCons (tOp (rIxT K) (tVar 4) (tVar 6)) tNil))))) rfl sc_fits.nd (pi_range1 (by rfl) T.b_range (pa_cons (pe_callB call_len_seq (by rfl) T.b_len (by decide +kernel) (pa_cons (pv 5) pa_nil)) pa_nil)) (blkOk_by (N := ["grammar", "part", "tree", "number", "below", "parts", "k"]) (sc := defScope s_fits) (by decide +kernel)) (fun _ _ _ _ _ => (pg_name (i := 6) sc_fits.nd rfl (.inl rfl))) (fun _ _ _ _ _ => pts_nil) (fun _ _ _ _ _ => (peC C_fits (hr.mono (by first | decide | omega)) (by rfl) (pa_cons (pv 0) (pa_cons (pe_ix ix_tup (pv 5) (pv 6) (fun _ _ => rfl)) (pa_cons (pe_ix ix_tup (pv 4) (pv 6) (fun _ _ => rfl)) pa_nil)))))) pa_nil))))))))), fun ds d h M0 H0 Q q => ?_⟩
    cases h
    case mk o g p t h6 ok h =>
    cases ok with
    | leaf hL =>
      rw [encT_leaf]
      refine hs_yes (ett (et_B (ed_isStr (ed_var rfl)))) (ho_ret (ev_imm (ed_andT (ed_T (ed_eqs (ed_var rfl) (ed_var rfl)) (by simp)) (ed_andT (ed_T (ed_eqI (ed_lenS (ed_var rfl) (by have := em_len o p; omega)) ed_cint) ?_) (ed_T (ed_inSign (ed_inLet (z := "") (ed_var rfl) (isN_of_isL hL)) ed_cstr) ?_))) rfl) q)
      · have : (em o p).length = 1 := by rw [em_cd (isN_of_isL hL)]; rfl
        rw [this]
        rfl
      · exact decide_eq_true (cd_L o hL)
    | @node k r l e oks =>
      rw [encT_node]
      rw [depT] at h
      have hk := lt_of_at e
      have hl := oks.len
      have hr6 := h6 r (List.mem_of_getElem? e)
      refine hs_no (ett (et_B (ed_isTup (ed_var rfl)))) (hs_tup2 (ev_all (ed_var rfl)) (hs_no (ett (et_orF (et_test (ed_F (ed_lt (ed_var rfl) ed_cint) ?_)) (et_orF (et_test (ed_F (ed_ge (ed_var rfl) (ed_lenL (ds := g.map (encSR o)) (ed_var rfl))) ?_)) (et_test (ed_F (ed_nes (x := r.1) (y := r.1) (ed_ixT (j := 0) (ds := [es o r.1, .tup (r.2.map (es o))]) (ed_ixL (j := k) (ed_var rfl) (ed_var rfl) rfl (map_at e)) ed_cint rfl rfl) (ed_var rfl)) (by simp)))))) (hs_set (ev_all (ed_ixT (j := 1) (ds := [es o r.1, .tup (r.2.map (es o))]) (ed_ixL (j := k) (ed_var rfl) (ed_var rfl) rfl (map_at e)) ed_cint rfl rfl)) (hs_no (ett (et_test (ed_F (ed_neI (ed_lenT (ed_var rfl)) (ed_lenT (ed_var rfl))) ?_))) (ho_ret (ev_imm ((ed_allLc (List.range r.2.length) (fun i : Nat => .int (i : Int)) (fun _ => true) (ei_range ((ed_lenT (ed_var rfl)).is ?_) (by omega)) (by rw [List.length_range]; omega) fun i hi => ⟨_, ts_name (by simp), ?_⟩).is (by simp)) rfl) q)))))
      · exact decide_eq_false (by omega)
      · exact decide_eq_false (by rw [List.length_map]; omega)
      · rw [List.length_map, List.length_map, hl]
        simp
      · rw [List.length_map]
      · have hi' : i < r.2.length := List.mem_range.mp hi
        have e1 : r.2[i]? = some r.2[i] := List.getElem?_eq_getElem hi'
        have e2 : l[i]? = some (l[i]'(by omega)) := List.getElem?_eq_getElem (by omega)
        refine ed_call (ea_cons (ed_var rfl) (ea_cons (ed_ixT (j := i) (ed_var rfl) (ed_var rfl) rfl (map_at e1)) (ea_cons (ed_ixT (j := i) (ed_var rfl) (ed_var rfl) rfl (map_at e2)) ea_nil))) (Q_fits.mk o g _ _ h6 (oks.get e1 e2) ?_)
        have := depL_mem (List.mem_of_getElem? e2)
        omega
abbrev R_fits := Q_fits 12
theorem cal_fits (T : Txt K mg) : Cal P w K mg base 13 "fits" ["grammar", "part", "tree"] (spF R_fits) := calr_fits T 12

end
/-! ### what a tree's walk needs -/
structure TG (g : SG) (p : Sym) (t : Tr) : Prop where
  h6 : ∀ r ∈ g, r.2.length ≤ 6
  ok : Okt g p t
theorem TG.node {g : SG} {p : Sym} {n : Nat} {l : List Tr} (h : TG g p (.node n l)) : ∃ r, g[n]? = some r ∧ r.1 = p ∧ Okts g r.2 l ∧ l.length ≤ 6 ∧ ∀ t ∈ l, ∃ x, TG g x t := by
  obtain ⟨h6, ok⟩ := h
  cases ok with
  | @node k r l e oks =>
    have := oks.len
    have h2 := h6 r (List.mem_of_getElem? e)
    refine ⟨r, e, rfl, oks, by omega, fun t ht => ?_⟩
    obtain ⟨k, hk, e3⟩ := List.getElem_of_mem ht
    have e2 : l[k]? = some t := by rw [List.getElem?_eq_getElem hk, e3]
    have e1 : r.2[k]? = some (r.2[k]'(by omega)) := List.getElem?_eq_getElem (by omega)
    exact ⟨_, h6, oks.get e1 e2⟩
theorem TG.yl {g : SG} {p : Sym} {t : Tr} (h : TG g p t) : (∀ y ∈ ylT t, isL y = true) ∧ (ylT t).length ≤ 6 * cntT t + 1 := Okt.yl h.h6 h.ok
theorem sum_int (l : List Nat) : (l.map fun n : Nat => (n : Int)).sum = (l.sum : Int) := by
  induction l with
  | nil => rfl
  | cons a l ih => rw [List.map_cons, List.sum_cons, List.sum_cons, ih]; omega
theorem max_depL (l : List Tr) : maxL (0 :: l.map fun t => (depT t : Int)) = (depL l : Int) := by
  have h : ∀ l : List Tr, maxL (l.map fun t => (depT t : Int)) = (depL l : Int) := by
    intro l
    induction l with
    | nil => rfl
    | cons t l ih =>
      unfold maxL at ih ⊢
      rw [List.map_cons, List.foldr_cons, ih, depL]
      omega
  show max 0 (maxL (l.map fun t => (depT t : Int))) = _
  rw [h]
  omega
def first (g : SG) : Sym := (g.head?.map (·.1)).getD .S
theorem first_at {g : SG} (h : g ≠ []) : ∃ r, g[0]? = some r ∧ r.1 = first g := by
  cases g with
  | nil => exact absurd rfl h
  | cons r g => exact ⟨r, rfl, rfl⟩
structure TOk (g : SG) (t : Tr) : Prop where
  ok : Okt g (first g) t
  cnt : cntT t ≤ 200
  dep : depT t < 12
theorem SOk.h6 {g : SG} (h : SOk g) : ∀ r ∈ g, r.2.length ≤ 6 := fun r hr => (h.rule r hr).2.1
theorem TOk.tg {g : SG} {t : Tr} (h : TOk g t) (ok : SOk g) : TG g (first g) t := ⟨ok.h6, h.ok⟩
theorem join_txt (o : Bool) (ls : List (List Sym)) : Txt.join "" (ls.map (txt o)) = txt o ls.flatten := by
  refine TL.ext_tl ?_
  rw [TL.join_eq, TL.tl_join]
  have e : TL.tl ("" : Str) = [] := rfl
  rw [e]
  have h : ∀ ls : List (List Nat), TL.joinL [] ls = ls.flatten := by
    intro ls
    induction ls with
    | nil => rfl
    | cons a ls ih =>
      cases ls with
      | nil => simp [TL.joinL]
      | cons b ls =>
        show a ++ ([] ++ TL.joinL [] (b :: ls)) = _
        rw [ih, List.nil_append, List.flatten_cons, List.flatten_cons, List.flatten_cons]
  rw [h, List.map_map]
  show _ = ((ls.flatten.map (cd o)).toArray).toList
  rw [List.map_flatten]
  rfl
theorem ed_grammar0 {Γ : Gm} {ta : TE} {o : Bool} {g : SG} {K : PySem.W.Frag} (h : ED ta Γ (encSG o g)) (hg : g ≠ []) : ED (tOp (rIxT K) (tOp (rIxL K) ta (tC (.int 0))) (tC (.int 0))) Γ (es o (first g)) := by
  obtain ⟨r, h1, h2⟩ := first_at hg
  rw [← h2]
  exact ed_ixT (j := 0) (ds := [es o r.1, .tup (r.2.map (es o))]) (ed_ixL (j := 0) h ed_cint rfl (map_at h1)) ed_cint rfl rfl
theorem ed_nameAt {Γ : Gm} {ta tb : TE} {o : Bool} {g : SG} {K : PySem.W.Frag} {k : Nat} {r : Sym × List Sym} (h : ED ta Γ (encSG o g)) (hb : ED tb Γ (ei k)) (e : g[k]? = some r) : ED (tOp (rIxT K) (tOp (rIxL K) ta tb) (tC (.int 0))) Γ (es o r.1) :=
  ed_ixT (j := 0) (ds := [es o r.1, .tup (r.2.map (es o))]) (ed_ixL (j := k) h hb rfl (map_at e)) ed_cint rfl rfl
theorem ed_partsAt {Γ : Gm} {ta tb : TE} {o : Bool} {g : SG} {K : PySem.W.Frag} {k : Nat} {r : Sym × List Sym} (h : ED ta Γ (encSG o g)) (hb : ED tb Γ (ei k)) (e : g[k]? = some r) : ED (tOp (rIxT K) (tOp (rIxL K) ta tb) (tC (.int 1))) Γ (.tup (r.2.map (es o))) :=
  ed_ixT (j := 1) (ds := [es o r.1, .tup (r.2.map (es o))]) (ed_ixL (j := k) h hb rfl (map_at e)) ed_cint rfl rfl
abbrev encSp (o : Bool) (x : Sym × Nat × Nat) : D := .tup [es o x.1, ei x.2.1, ei x.2.2]
section
variable {P : Program} {w : World} {K : PySem.W.Frag} {mg : Str → Option Value} {base : Heap}
inductive Q_count_of (n : Nat) : List D → D → Prop | mk (o : Bool) (g : SG) (p : Sym) (t : Tr) (ok : TG g p t) (h : depT t < n) : Q_count_of n [encT o t] (ei (cntT t))
theorem calr_count_of (T : Txt K mg) : ∀ n : Nat, Cal P w K mg base (1 + n) "count_of" ["tree"] (spF (Q_count_of n))
  | 0 => T.d_count_of.none fun ds d h => by cases h; omega
  | n + 1 => by
    have C_count_of := calr_count_of T n
    refine T.d_count_of.cal (k := 1 + n) sc_count_of [] (by simp) (fun ds d h => by cases h; rfl) fun f cdv A outer s H E hr => ?_
    refine ⟨_, (pss_cons (ps_if (pt_val (pe_callB call_isi (by rfl) T.b_isinstance (by decide +kernel) (pa_cons (pv 0) (pa_cons (pe_bltn (v := .ty "str") (u := .type "str") (by rfl) T.b_str (by decide +kernel) rfl) pa_nil)))) (pss_one (ps_ret pe_int)) pss_nil)
      (pss_one (ps_ret (pe_op op_add pe_int (pe_callB (cr_sum rfl) (by rfl) T.b_sum (by decide +kernel) (pa_cons (pe_lc (own := [("one", 1)]) (g := (gName 1)) (tt := tYes) (te := (tCall (spF (Q_count_of n)) [] E0 (tCons (tVar 1) tNil))) rfl sc_count_of.nd (pi_tup (pe_ix ix_tup (pv 0) pe_int (fun _ _ => rfl))) (blkOk_by (N := ["tree", "one"]) (sc := defScope s_count_of) (by decide +kernel)) (fun _ _ _ _ _ => (pg_name (i := 1) sc_count_of.nd rfl (.inl rfl))) (fun _ _ _ _ _ => pts_nil) (fun _ _ _ _ _ => (peC C_count_of (hr.mono (by first | decide | omega)) (by rfl) (pa_cons (pv 1) pa_nil)))) pa_nil)))))), fun ds d h M0 H0 Q q => ?_⟩
    cases h
    case mk o g p t ok h =>
    cases t with
    | leaf x =>
      rw [encT_leaf]
      exact hs_yes (ett (et_B (ed_isStr (ed_var rfl)))) (ho_ret (ev_all ed_cint) q)
    | node k l =>
      rw [encT_node]
      rw [depT] at h
      obtain ⟨r, e, rfl, oks, hl, hc⟩ := ok.node
      refine hs_no (ett (et_B (ed_isTup (ed_var rfl)))) (ho_ret (ev_all ((ed_add ed_cint (ed_sum (ns := (l.map cntT).map fun n : Nat => (n : Int)) ((ef_lcM l (encT o) (fun t => ei (cntT t)) (ei_tup (ed_ixT (j := 1) (ed_var rfl) ed_cint rfl rfl)) (by omega) fun t ht => ⟨_, ts_name (by simp), ?_⟩).ed.is ?_))).is ?_)) q)
      · obtain ⟨x, tg⟩ := hc t ht
        exact ed_call (ea_cons (ed_var rfl) ea_nil) (Q_count_of.mk o g x t tg (by have := depL_mem ht; omega))
      · rw [List.map_map, List.map_map]
        rfl
      · rw [sum_int, ← cntL_sum, cntT]
        congr 1
abbrev R_count_of := Q_count_of 12
theorem cal_count_of (T : Txt K mg) : Cal P w K mg base 13 "count_of" ["tree"] (spF R_count_of) := calr_count_of T 12

inductive Q_depth_of (n : Nat) : List D → D → Prop | mk (o : Bool) (g : SG) (p : Sym) (t : Tr) (ok : TG g p t) (h : depT t < n) : Q_depth_of n [encT o t] (ei (depT t))
theorem calr_depth_of (T : Txt K mg) : ∀ n : Nat, Cal P w K mg base (1 + n) "depth_of" ["tree"] (spF (Q_depth_of n))
  | 0 => T.d_depth_of.none fun ds d h => by cases h; omega
  | n + 1 => by
    have C_depth_of := calr_depth_of T n
    refine T.d_depth_of.cal (k := 1 + n) sc_depth_of [] (by simp) (fun ds d h => by cases h; rfl) fun f cdv A outer s H E hr => ?_
    refine ⟨_, (pss_cons (ps_if (pt_val (pe_callB call_isi (by rfl) T.b_isinstance (by decide +kernel) (pa_cons (pv 0) (pa_cons (pe_bltn (v := .ty "str") (u := .type "str") (by rfl) T.b_str (by decide +kernel) rfl) pa_nil)))) (pss_one (ps_ret pe_int)) pss_nil)
      (pss_one (ps_ret (pe_op op_add pe_int (pe_callB (cr_max rfl) (by rfl) T.b_max (by decide +kernel) (pa_cons (pe_op op_cat (pe_lst (pa_cons pe_int pa_nil)) (pe_lc (own := [("one", 1)]) (g := (gName 1)) (tt := tYes) (te := (tCall (spF (Q_depth_of n)) [] E0 (tCons (tVar 1) tNil))) rfl sc_depth_of.nd (pi_tup (pe_ix ix_tup (pv 0) pe_int (fun _ _ => rfl))) (blkOk_by (N := ["tree", "one"]) (sc := defScope s_depth_of) (by decide +kernel)) (fun _ _ _ _ _ => (pg_name (i := 1) sc_depth_of.nd rfl (.inl rfl))) (fun _ _ _ _ _ => pts_nil) (fun _ _ _ _ _ => (peC C_depth_of (hr.mono (by first | decide | omega)) (by rfl) (pa_cons (pv 1) pa_nil))))) pa_nil)))))), fun ds d h M0 H0 Q q => ?_⟩
    cases h
    case mk o g p t ok h =>
    cases t with
    | leaf x =>
      rw [encT_leaf]
      exact hs_yes (ett (et_B (ed_isStr (ed_var rfl)))) (ho_ret (ev_all ed_cint) q)
    | node k l =>
      rw [encT_node]
      rw [depT] at h
      obtain ⟨r, e, rfl, oks, hl, hc⟩ := ok.node
      refine hs_no (ett (et_B (ed_isTup (ed_var rfl)))) (ho_ret (ev_all ((ed_add ed_cint (ed_max (ns := 0 :: l.map fun t => (depT t : Int)) ((ef_cat (ef_lst (ea_cons ed_cint ea_nil) (le_b rfl)).ed (ef_lcM l (encT o) (fun t => ei (depT t)) (ei_tup (ed_ixT (j := 1) (ed_var rfl) ed_cint rfl rfl)) (by omega) fun t ht => ⟨_, ts_name (by simp), ?_⟩).ed (by rw [List.length_map]; simp; omega)).ed.is ?_) (by simp) ?_)).is ?_)) q)
      · obtain ⟨x, tg⟩ := hc t ht
        exact ed_call (ea_cons (ed_var rfl) ea_nil) (Q_depth_of.mk o g x t tg (by have := depL_mem ht; omega))
      · rw [List.map_cons, List.map_map]
        rfl
      · intro y hy
        rcases List.mem_cons.mp hy with rfl | hy
        · omega
        · obtain ⟨t, _, rfl⟩ := List.mem_map.mp hy
          omega
      · rw [max_depL, depT]
        congr 1
abbrev R_depth_of := Q_depth_of 12
theorem cal_depth_of (T : Txt K mg) : Cal P w K mg base 13 "depth_of" ["tree"] (spF R_depth_of) := calr_depth_of T 12

inductive R_is_tree_of : List D → D → Prop | mk (o : Bool) (g : SG) (t : Tr) (h6 : ∀ r ∈ g, r.2.length ≤ 6) (ok : TOk g t) : R_is_tree_of [encSG o g, es o (first g), encT o t] (.bl true)
theorem cal_is_tree_of (T : Txt K mg) : Cal P w K mg base 14 "is_tree_of" ["grammar", "part", "tree"] (spF R_is_tree_of) := by
  have C_fits := cal_fits (P := P) (w := w) (base := base) T
  have C_count_of := cal_count_of (P := P) (w := w) (base := base) T
  have C_depth_of := cal_depth_of (P := P) (w := w) (base := base) T
  refine T.d_is_tree_of.cal sc_is_tree_of [] (by simp) (fun ds d h => by cases h; rfl) fun f cdv A outer s H E hr => ?_
  refine ⟨_, (pss_one (ps_ret (pe_and (peC C_fits (hr.mono (by first | decide | omega)) (by rfl) (pa_cons (pv 0) (pa_cons (pv 1) (pa_cons (pv 2) pa_nil)))) (pe_and (pe_cmpR op_le (peC C_count_of (hr.mono (by first | decide | omega)) (by rfl) (pa_cons (pv 2) pa_nil)) (peGI (by rfl) T.c_MOST_IN_TREE) (nomark _)) (pe_one (pe_cmpR op_le (peC C_depth_of (hr.mono (by first | decide | omega)) (by rfl) (pa_cons (pv 2) pa_nil)) (peGI (by rfl) T.c_DEEPEST) (nomark _))))))), fun ds d h M0 H0 Q q => ?_⟩
  cases h
  case mk o g t h6 ok =>
  refine ho_ret (ev_all (ed_andT (ed_call (ea_cons (ed_var rfl) (ea_cons (ed_var rfl) (ea_cons (ed_var rfl) ea_nil))) (Q_fits.mk o g (first g) t h6 ok.ok ok.dep)) (ed_andT (ed_T (ed_le (ed_call (ea_cons (ed_var rfl) ea_nil) (Q_count_of.mk o g (first g) t ⟨h6, ok.ok⟩ ok.dep)) ed_cint) ?_) (ed_T (ed_le (ed_call (ea_cons (ed_var rfl) ea_nil) (Q_depth_of.mk o g (first g) t ⟨h6, ok.ok⟩ ok.dep)) ed_cint) ?_)))) q
  · have := ok.cnt
    exact decide_eq_true (show (cntT t : Int) ≤ 200 by omega)
  · have := ok.dep
    exact decide_eq_true (show (depT t : Int) ≤ 40 by omega)

inductive R_is_tree : List D → D → Prop | mk (o : Bool) (g : SG) (t : Tr) (sok : SOk g) (ok : TOk g t) : R_is_tree [encSG o g, encT o t] (.bl true)
theorem cal_is_tree (T : Txt K mg) : Cal P w K mg base 15 "is_tree" ["grammar", "tree"] (spF R_is_tree) := by
  have C_must_be_grammar := cal_must_be_grammar (P := P) (w := w) (base := base) T
  have C_is_tree_of := cal_is_tree_of (P := P) (w := w) (base := base) T
  refine T.d_is_tree.cal sc_is_tree [] (by simp) (fun ds d h => by cases h; rfl) fun f cdv A outer s H E hr => ?_
  refine ⟨_, (pss_cons (ps_expr (peC C_must_be_grammar (hr.mono (by first | decide | omega)) (by rfl) (pa_cons (pv 0) pa_nil)))
      (pss_one (ps_ret (peC C_is_tree_of (hr.mono (by first | decide | omega)) (by rfl) (pa_cons (pv 0) (pa_cons (pe_ix ix_tup (pe_ix ix_list (pv 0) pe_int (fun _ _ => rfl)) pe_int (fun _ _ => rfl)) (pa_cons (pv 1) pa_nil))))))), fun ds d h M0 H0 Q q => ?_⟩
  cases h
  case mk o g t sok ok =>
  exact hs_drop (ev_all (ed_call (ea_cons (ed_var rfl) ea_nil) (R_must_be_grammar.mk o g sok))) (ho_ret (ev_all (ed_call (ea_cons (ed_var rfl) (ea_cons (ed_grammar0 (ed_var rfl) sok.ne) (ea_cons (ed_var rfl) ea_nil))) (R_is_tree_of.mk o g t sok.h6 ok))) q)

inductive R_must_be_tree : List D → D → Prop | mk (o : Bool) (g : SG) (t : Tr) (sok : SOk g) (ok : TOk g t) : R_must_be_tree [encSG o g, encT o t] .non
theorem cal_must_be_tree (T : Txt K mg) : Cal P w K mg base 16 "must_be_tree" ["grammar", "tree"] (spF R_must_be_tree) := by
  have C_is_tree := cal_is_tree (P := P) (w := w) (base := base) T
  refine T.d_must_be_tree.cal sc_must_be_tree [] (by simp) (fun ds d h => by cases h; rfl) fun f cdv A outer s H E hr => ?_
  refine ⟨_, (pss_one (ps_if (pt_not (pt_val (peC C_is_tree (hr.mono (by first | decide | omega)) (by rfl) (pa_cons (pv 0) (pa_cons (pv 1) pa_nil))))) (pss_one ps_never) pss_nil)), fun ds d h M0 H0 Q q => ?_⟩
  cases h
  case mk o g t sok ok =>
  exact ho_no (ett (et_notT (et_B (ed_call (ea_cons (ed_var rfl) (ea_cons (ed_var rfl) ea_nil)) (R_is_tree.mk o g t sok ok))))) fun σ H' ⟨R, s⟩ => q .non R H' s.g .non

inductive Q_letters_of (n : Nat) : List D → D → Prop | mk (o : Bool) (g : SG) (p : Sym) (t : Tr) (ok : TG g p t) (hc : cntT t ≤ 200) (h : depT t < n) : Q_letters_of n [encT o t] (.str (txt o (ylT t)))
theorem calr_letters_of (T : Txt K mg) : ∀ n : Nat, Cal P w K mg base (1 + n) "letters_of" ["tree"] (spF (Q_letters_of n))
  | 0 => T.d_letters_of.none fun ds d h => by cases h; omega
  | n + 1 => by
    have C_letters_of := calr_letters_of T n
    refine T.d_letters_of.cal (k := 1 + n) sc_letters_of [] (by simp) (fun ds d h => by cases h; rfl) fun f cdv A outer s H E hr => ?_
    refine ⟨_, (pss_cons (ps_if (pt_val (pe_callB call_isi (by rfl) T.b_isinstance (by decide +kernel) (pa_cons (pv 0) (pa_cons (pe_bltn (v := .ty "str") (u := .type "str") (by rfl) T.b_str (by decide +kernel) rfl) pa_nil)))) (pss_one (ps_ret (pv 0))) pss_nil)
      (pss_one (ps_ret (pe_join pe_str (pe_lc (own := [("one", 1)]) (g := (gName 1)) (tt := tYes) (te := (tCall (spF (Q_letters_of n)) [] E0 (tCons (tVar 1) tNil))) rfl sc_letters_of.nd (pi_tup (pe_ix ix_tup (pv 0) pe_int (fun _ _ => rfl))) (blkOk_by (N := ["tree", "one"]) (sc := defScope s_letters_of) (by decide +kernel)) (fun _ _ _ _ _ => (pg_name (i := 1) sc_letters_of.nd rfl (.inl rfl))) (fun _ _ _ _ _ => pts_nil) (fun _ _ _ _ _ => (peC C_letters_of (hr.mono (by first | decide | omega)) (by rfl) (pa_cons (pv 1) pa_nil)))))))), fun ds d h M0 H0 Q q => ?_⟩
    cases h
    case mk o g p t ok hc h =>
    cases t with
    | leaf x =>
      rw [encT_leaf]
      have hx := ok.yl.1 x (by simp [ylT])
      refine hs_yes (ett (et_B (ed_isStr (ed_var rfl)))) (ho_ret (ev_all ((ed_var rfl).is ?_)) q)
      rw [ylT, txt_one (isN_of_isL hx)]
    | node k l =>
      rw [encT_node]
      rw [depT] at h
      rw [cntT] at hc
      have hy := ok.yl.2
      rw [ylT, cntT] at hy
      obtain ⟨r, e, rfl, oks, hl, hk⟩ := ok.node
      refine hs_no (ett (et_B (ed_isTup (ed_var rfl)))) (ho_ret (ev_all ((ed_join (ss := (l.map ylT).map (txt o)) ed_cstr ((ef_lcM l (encT o) (fun t => .str (txt o (ylT t))) (ei_tup (ed_ixT (j := 1) (ed_var rfl) ed_cint rfl rfl)) (by omega) fun t ht => ⟨_, ts_name (by simp), ?_⟩).ed.is ?_) ?_).is ?_)) q)
      · obtain ⟨x, tg⟩ := hk t ht
        exact ed_call (ea_cons (ed_var rfl) ea_nil) (Q_letters_of.mk o g x t tg (by have := cntL_mem ht; omega) (by have := depL_mem ht; omega))
      · rw [List.map_map, List.map_map]
        rfl
      · have e1 : ((((l.map ylT).map (txt o)).map (·.length)).sum) = (ylL l).length := by
          rw [ylL_flat, List.length_flatten, List.map_map, List.map_map, List.map_map]
          congr 1
          apply List.map_congr_left
          intro t _
          exact txt_len o _
        have e2 : (("" : Str).length) = 0 := rfl
        rw [e1, e2]
        omega
      · rw [join_txt, ylT, ylL_flat]
abbrev R_letters_of := Q_letters_of 12
theorem cal_letters_of (T : Txt K mg) : Cal P w K mg base 13 "letters_of" ["tree"] (spF R_letters_of) := calr_letters_of T 12

inductive R_text_of : List D → D → Prop | mk (o : Bool) (g : SG) (t : Tr) (sok : SOk g) (ok : TOk g t) : R_text_of [encSG o g, encT o t] (.str (txt o (ylT t)))
theorem cal_text_of (T : Txt K mg) : Cal P w K mg base 17 "text_of" ["grammar", "tree"] (spF R_text_of) := by
  have C_must_be_tree := cal_must_be_tree (P := P) (w := w) (base := base) T
  have C_letters_of := cal_letters_of (P := P) (w := w) (base := base) T
  refine T.d_text_of.cal sc_text_of [] (by simp) (fun ds d h => by cases h; rfl) fun f cdv A outer s H E hr => ?_
  refine ⟨_, (pss_cons (ps_expr (peC C_must_be_tree (hr.mono (by first | decide | omega)) (by rfl) (pa_cons (pv 0) (pa_cons (pv 1) pa_nil))))
      (pss_one (ps_ret (peC C_letters_of (hr.mono (by first | decide | omega)) (by rfl) (pa_cons (pv 1) pa_nil))))), fun ds d h M0 H0 Q q => ?_⟩
  cases h
  case mk o g t sok ok =>
  exact hs_drop (ev_all (ed_call (ea_cons (ed_var rfl) (ea_cons (ed_var rfl) ea_nil)) (R_must_be_tree.mk o g t sok ok))) (ho_ret (ev_all (ed_call (ea_cons (ed_var rfl) ea_nil) (Q_letters_of.mk o g _ t (ok.tg sok) ok.cnt ok.dep))) q)

inductive R_sizes : List D → D → Prop | mk (o : Bool) (g : SG) (t : Tr) (sok : SOk g) (ok : TOk g t) : R_sizes [encSG o g, encT o t] (.tup [ei (cntT t), ei (depT t)])
theorem cal_sizes (T : Txt K mg) : Cal P w K mg base 17 "sizes" ["grammar", "tree"] (spF R_sizes) := by
  have C_must_be_tree := cal_must_be_tree (P := P) (w := w) (base := base) T
  have C_count_of := cal_count_of (P := P) (w := w) (base := base) T
  have C_depth_of := cal_depth_of (P := P) (w := w) (base := base) T
  refine T.d_sizes.cal sc_sizes [] (by simp) (fun ds d h => by cases h; rfl) fun f cdv A outer s H E hr => ?_
  refine ⟨_, (pss_cons (ps_expr (peC C_must_be_tree (hr.mono (by first | decide | omega)) (by rfl) (pa_cons (pv 0) (pa_cons (pv 1) pa_nil))))
      (pss_one (ps_ret (pe_tup (pa_cons (peC C_count_of (hr.mono (by first | decide | omega)) (by rfl) (pa_cons (pv 1) pa_nil)) (pa_cons (peC C_depth_of (hr.mono (by first | decide | omega)) (by rfl) (pa_cons (pv 1) pa_nil)) pa_nil)))))), fun ds d h M0 H0 Q q => ?_⟩
  cases h
  case mk o g t sok ok =>
  exact hs_drop (ev_all (ed_call (ea_cons (ed_var rfl) (ea_cons (ed_var rfl) ea_nil)) (R_must_be_tree.mk o g t sok ok))) (ho_ret (ev_all (ed_tup (ea_cons (ed_call (ea_cons (ed_var rfl) ea_nil) (Q_count_of.mk o g _ t (ok.tg sok) ok.dep)) (ea_cons (ed_call (ea_cons (ed_var rfl) ea_nil) (Q_depth_of.mk o g _ t (ok.tg sok) ok.dep)) ea_nil)) (le_b rfl))) q)

inductive Q_spans_from (n : Nat) : List D → D → Prop | mk (o : Bool) (g : SG) (p : Sym) (t : Tr) (m : Nat) (ok : TG g p t) (hc : cntT t ≤ 200) (h : depT t < n) : Q_spans_from n [encSG o g, encT o t, ei m] (.tup [.lst ((spT g t m).1.map (encSp o)), ei (spT g t m).2])
theorem calr_spans_from (T : Txt K mg) : ∀ n : Nat, Cal P w K mg base (1 + n) "spans_from" ["grammar", "tree", "place"] (spF (Q_spans_from n))
  | 0 => T.d_spans_from.none fun ds d h => by cases h; omega
  | n + 1 => by
    have C_spans_from := calr_spans_from T n
    refine T.d_spans_from.cal (k := 1 + n) sc_spans_from [3] (by simp) (fun ds d h => by cases h; rfl) fun f cdv A outer s H E hr => ?_
    refine ⟨_, (pss_cons (ps_if (pt_val (pe_callB call_isi (by rfl) T.b_isinstance (by decide +kernel) (pa_cons (pv 1) (pa_cons (pe_bltn (v := .ty "str") (u := .type "str") (by rfl) T.b_str (by decide +kernel) rfl) pa_nil)))) (pss_one (ps_ret (pe_tup (pa_cons (pe_lst pa_nil) (pa_cons (pe_op op_add (pv 2) pe_int) pa_nil))))) pss_nil)
      (pss_cons (ps_set (i := 3) sc_spans_from.nd rfl (.inl rfl) (pe_lst pa_nil))
      (pss_cons (ps_set (i := 4) sc_spans_from.nd rfl (.inl rfl) (pv 2))
      (pss_cons (ps_for PassesOwn.never rfl (pi_tup (pe_ix ix_tup (pv 1) pe_int (fun _ _ => rfl))) (pg_name (i := 5) sc_spans_from.nd rfl (.inl rfl))
      (pss_cons (ps_asg (peC C_spans_from (hr.mono (by first | decide | omega)) (by rfl) (pa_cons (pv 0) (pa_cons (pv 5) (pa_cons (pv 4) pa_nil)))) (pg_tup rfl (pgs_cons (pg_name (i := 6) sc_spans_from.nd rfl (.inl rfl)) (pgs_cons (pg_name (i := 4) sc_spans_from.nd rfl (.inl rfl)) pgs_nil))))
      (pss_one (ps_expr (pe_bm PySem.F.plainAttrs_list PySem.F.slot_list_extend PySem.F.type_list_extend mt_extend (pv 3) (pa_cons (pv 6) pa_nil))))))
      (pss_one (ps_ret (pe_tup (pa_cons (pe_op op_cat (pe_lst (pa_cons (pe_tup (pa_cons (pe_ix ix_tup (pe_ix ix_list (pv 0) (pe_ix ix_tup (pv 1) pe_int (fun _ _ => rfl)) (fun _ _ => rfl)) pe_int (fun _ _ => rfl)) (pa_cons (pv 2) (pa_cons (pv 4) pa_nil)))) pa_nil)) (pv 3)) (pa_cons (pv 4) pa_nil))))))))), fun ds d h M0 H0 Q q => ?_⟩
    cases h
    case mk o g p t m ok hc h =>
    cases t with
    | leaf x =>
      rw [encT_leaf]
      exact hs_yes (ett (et_B (ed_isStr (ed_var rfl)))) (ho_freeze 3 (own' := []) (by simp) (ho_ret (ev_all (ed_tup (ea_cons (ef_lst ea_nil (le_b rfl)).ed (ea_cons (ed_add (ed_var rfl) ed_cint) ea_nil)) (le_b rfl))) q))
    | node k l =>
      rw [encT_node]
      rw [depT] at h
      rw [cntT] at hc
      obtain ⟨r, e, rfl, oks, hl, hk⟩ := ok.node
      refine hs_no (ett (et_B (ed_isTup (ed_var rfl)))) (hs_own (en_flat (ef_lst ea_nil (le_b rfl)) rfl) (hs_set (ev_imm (ed_var rfl) rfl) (hs_for l (encT o) (fun i => [some (encSG o g), some (.tup [ei k, .tup (l.map (encT o))]), some (ei m), some (.lst ((spL g (l.take i) m).1.map (encSp o))), some (ei (spL g (l.take i) m).2), none, none])
        (ei_tup (ed_ixT (j := 1) (ed_var rfl) ed_cint rfl rfl)) (fun M1 H1 bl i t ht => ⟨_, tg_name (by simp) (lt_b rfl), ?_⟩) ?_)))
      · have hm := List.mem_of_getElem? ht
        obtain ⟨x, tg⟩ := hk t hm
        refine hs_tup2 (ev_mask (ed_call (ea_cons (ed_var rfl) (ea_cons (ed_var rfl) (ea_cons (ed_var rfl) ea_nil))) (Q_spans_from.mk o g x t _ tg (by have := cntL_mem hm; omega) (by have := depL_mem hm; omega)))) ?_
        refine ho_ext (in_b rfl) rfl (ev_mask (ed_var rfl)) ?_ ?_
        · rw [List.length_map, List.length_map, spL_len, spT_len]
          have := cntL_mem hm
          have := cntL_take l i
          omega
        · have e2 : spL g (l.take (i + 1)) m = ((spL g (l.take i) m).1 ++ (spT g t (spL g (l.take i) m).2).1, (spT g t (spL g (l.take i) m).2).2) := by
            rw [take_succ ht, spL_append]
            simp [spL]
          rw [e2, ← List.map_append]
          exact nx_to
      · rw [List.take_length]
        refine ho_freeze 3 (own' := []) (by simp) (ho_ret (ev_all (ed_tup (ea_cons (ef_cat (ds := [encSp o (r.1, m, (spL g l m).2)]) (ef_lst (ea_cons (ed_tup (ea_cons (ed_nameAt (ed_var rfl) (ed_ixT (j := 0) (ed_var rfl) ed_cint rfl rfl) e) (ea_cons (ed_var rfl) (ea_cons (ed_var rfl) ea_nil))) (le_b rfl)) ea_nil) (le_b rfl)).ed (ed_var rfl) ?_).ed (ea_cons (ed_var rfl) ea_nil)) (le_b rfl))) ?_)
        · rw [List.length_map, spL_len]
          simp
          omega
        · have e2 : nameAt g k = r.1 := by unfold nameAt; rw [e]; rfl
          rw [spT, e2] at q
          exact q
abbrev R_spans_from := Q_spans_from 12
theorem cal_spans_from (T : Txt K mg) : Cal P w K mg base 13 "spans_from" ["grammar", "tree", "place"] (spF R_spans_from) := calr_spans_from T 12

inductive R_spans : List D → D → Prop | mk (o : Bool) (g : SG) (t : Tr) (sok : SOk g) (ok : TOk g t) : R_spans [encSG o g, encT o t] (.lst ((spT g t 0).1.map (encSp o)))
theorem cal_spans (T : Txt K mg) : Cal P w K mg base 17 "spans" ["grammar", "tree"] (spF R_spans) := by
  have C_must_be_tree := cal_must_be_tree (P := P) (w := w) (base := base) T
  have C_spans_from := cal_spans_from (P := P) (w := w) (base := base) T
  refine T.d_spans.cal sc_spans [] (by simp) (fun ds d h => by cases h; rfl) fun f cdv A outer s H E hr => ?_
  refine ⟨_, (pss_cons (ps_expr (peC C_must_be_tree (hr.mono (by first | decide | omega)) (by rfl) (pa_cons (pv 0) (pa_cons (pv 1) pa_nil))))
      (pss_one (ps_ret (pe_ix ix_tup (peC C_spans_from (hr.mono (by first | decide | omega)) (by rfl) (pa_cons (pv 0) (pa_cons (pv 1) (pa_cons pe_int pa_nil)))) pe_int (fun _ _ => rfl))))), fun ds d h M0 H0 Q q => ?_⟩
  cases h
  case mk o g t sok ok =>
  exact hs_drop (ev_all (ed_call (ea_cons (ed_var rfl) (ea_cons (ed_var rfl) ea_nil)) (R_must_be_tree.mk o g t sok ok))) (ho_ret (ev_all (ed_ixT (j := 0) (ed_call (ea_cons (ed_var rfl) (ea_cons (ed_var rfl) (ea_cons ed_cint ea_nil))) (Q_spans_from.mk o g _ t 0 (ok.tg sok) ok.cnt ok.dep)) ed_cint rfl rfl)) q)

inductive Q_numbers_in (n : Nat) : List D → D → Prop | mk (o : Bool) (g : SG) (p : Sym) (t : Tr) (ok : TG g p t) (hc : cntT t ≤ 200) (h : depT t < n) : Q_numbers_in n [encT o t] (.lst ((nmT false t).map ei))
theorem flat_len {l : List Tr} {b : Bool} : ((l.map (nmT b)).flatten).length = cntL l := by
  rw [← nmL_map, List.length_flatten, nmL_len]
theorem flat_take {l : List Tr} {b : Bool} {i : Nat} {t : Tr} (h : l[i]? = some t) : ((l.take (i + 1)).map (nmT b)).flatten = ((l.take i).map (nmT b)).flatten ++ nmT b t := by
  rw [take_succ h, List.map_append, List.flatten_append]
  simp
theorem cntL_rev (l : List Tr) : cntL l.reverse = cntL l := by rw [cntL_sum, cntL_sum, List.map_reverse, sum_reverse']
theorem calr_numbers_in (T : Txt K mg) : ∀ n : Nat, Cal P w K mg base (1 + n) "numbers_in" ["tree"] (spF (Q_numbers_in n))
  | 0 => T.d_numbers_in.none fun ds d h => by cases h; omega
  | n + 1 => by
    have C_numbers_in := calr_numbers_in T n
    refine T.d_numbers_in.cal (k := 1 + n) sc_numbers_in [1] (by simp) (fun ds d h => by cases h; rfl) fun f cdv A outer s H E hr => ?_
    refine ⟨_, (pss_cons (ps_if (pt_val (pe_callB call_isi (by rfl) T.b_isinstance (by decide +kernel) (pa_cons (pv 0) (pa_cons (pe_bltn (v := .ty "str") (u := .type "str") (by rfl) T.b_str (by decide +kernel) rfl) pa_nil)))) (pss_one (ps_ret (pe_lst pa_nil))) pss_nil)
      (pss_cons (ps_set (i := 1) sc_numbers_in.nd rfl (.inl rfl) (pe_lst (pa_cons (pe_ix ix_tup (pv 0) pe_int (fun _ _ => rfl)) pa_nil)))
      (pss_cons (ps_for PassesOwn.never rfl (pi_tup (pe_ix ix_tup (pv 0) pe_int (fun _ _ => rfl))) (pg_name (i := 2) sc_numbers_in.nd rfl (.inl rfl))
      (pss_one (ps_expr (pe_bm PySem.F.plainAttrs_list PySem.F.slot_list_extend PySem.F.type_list_extend mt_extend (pv 1) (pa_cons (peC C_numbers_in (hr.mono (by first | decide | omega)) (by rfl) (pa_cons (pv 2) pa_nil)) pa_nil)))))
      (pss_one (ps_ret (pv 1)))))), fun ds d h M0 H0 Q q => ?_⟩
    cases h
    case mk o g p t ok hc h =>
    cases t with
    | leaf x =>
      rw [encT_leaf]
      exact hs_yes (ett (et_B (ed_isStr (ed_var rfl)))) (ho_ret (ev_flat (ef_lst ea_nil (le_b rfl)) rfl) q)
    | node k l =>
      rw [encT_node]
      rw [depT] at h
      rw [cntT] at hc
      obtain ⟨r, e, rfl, oks, hl, hk⟩ := ok.node
      refine hs_no (ett (et_B (ed_isTup (ed_var rfl)))) (hs_own (en_flat (ef_lst (ea_cons (ed_ixT (j := 0) (ed_var rfl) ed_cint rfl rfl) ea_nil) (le_b rfl)) rfl) (hs_for l (encT o) (fun i => [some (.tup [ei k, .tup (l.map (encT o))]), some (.lst ((k :: ((l.take i).map (nmT false)).flatten).map ei)), none])
        (ei_tup (ed_ixT (j := 1) (ed_var rfl) ed_cint rfl rfl)) (fun M1 H1 bl i t ht => ⟨_, tg_name (by simp) (lt_b rfl), ?_⟩) ?_))
      · have hm := List.mem_of_getElem? ht
        obtain ⟨x, tg⟩ := hk t hm
        refine ho_ext (in_b rfl) rfl (ev_mask (ed_call (ea_cons (ed_var rfl) ea_nil) (Q_numbers_in.mk o g x t tg (by have := cntL_mem hm; omega) (by have := depL_mem hm; omega)))) ?_ ?_
        · rw [List.length_map, List.length_map, List.length_cons, flat_len, nmT_len]
          have := cntL_mem hm
          have := cntL_take l i
          omega
        · rw [flat_take ht, ← List.map_append]
          exact nx_to
      · rw [List.take_length]
        rw [nmT_node] at q
        exact ho_freeze 1 (own' := []) (by simp) (ho_ret (ev_all (ed_var rfl)) q)
abbrev R_numbers_in := Q_numbers_in 12
theorem cal_numbers_in (T : Txt K mg) : Cal P w K mg base 13 "numbers_in" ["tree"] (spF R_numbers_in) := calr_numbers_in T 12

inductive Q_numbers_right (n : Nat) : List D → D → Prop | mk (o : Bool) (g : SG) (p : Sym) (t : Tr) (ok : TG g p t) (hc : cntT t ≤ 200) (h : depT t < n) : Q_numbers_right n [encT o t] (.lst ((nmT true t).map ei))
theorem calr_numbers_right (T : Txt K mg) : ∀ n : Nat, Cal P w K mg base (1 + n) "numbers_right" ["tree"] (spF (Q_numbers_right n))
  | 0 => T.d_numbers_right.none fun ds d h => by cases h; omega
  | n + 1 => by
    have C_numbers_right := calr_numbers_right T n
    refine T.d_numbers_right.cal (k := 1 + n) sc_numbers_right [1] (by simp) (fun ds d h => by cases h; rfl) fun f cdv A outer s H E hr => ?_
    refine ⟨_, (pss_cons (ps_if (pt_val (pe_callB call_isi (by rfl) T.b_isinstance (by decide +kernel) (pa_cons (pv 0) (pa_cons (pe_bltn (v := .ty "str") (u := .type "str") (by rfl) T.b_str (by decide +kernel) rfl) pa_nil)))) (pss_one (ps_ret (pe_lst pa_nil))) pss_nil)
      (pss_cons (ps_set (i := 1) sc_numbers_right.nd rfl (.inl rfl) (pe_lst (pa_cons (pe_ix ix_tup (pv 0) pe_int (fun _ _ => rfl)) pa_nil)))
      (pss_cons (ps_for PassesOwn.never rfl (RT.pi_revA (by rfl) T.b_reversed (pe_ix ix_tup (pv 0) pe_int (fun _ _ => rfl))) (pg_name (i := 2) sc_numbers_right.nd rfl (.inl rfl))
      (pss_one (ps_expr (pe_bm PySem.F.plainAttrs_list PySem.F.slot_list_extend PySem.F.type_list_extend mt_extend (pv 1) (pa_cons (peC C_numbers_right (hr.mono (by first | decide | omega)) (by rfl) (pa_cons (pv 2) pa_nil)) pa_nil)))))
      (pss_one (ps_ret (pv 1)))))), fun ds d h M0 H0 Q q => ?_⟩
    cases h
    case mk o g p t ok hc h =>
    cases t with
    | leaf x =>
      rw [encT_leaf]
      exact hs_yes (ett (et_B (ed_isStr (ed_var rfl)))) (ho_ret (ev_flat (ef_lst ea_nil (le_b rfl)) rfl) q)
    | node k l =>
      rw [encT_node]
      rw [depT] at h
      rw [cntT] at hc
      obtain ⟨r, e, rfl, oks, hl, hk⟩ := ok.node
      refine hs_no (ett (et_B (ed_isTup (ed_var rfl)))) (hs_own (en_flat (ef_lst (ea_cons (ed_ixT (j := 0) (ed_var rfl) ed_cint rfl rfl) ea_nil) (le_b rfl)) rfl) (hs_for l.reverse (encT o) (fun i => [some (.tup [ei k, .tup (l.map (encT o))]), some (.lst ((k :: ((l.reverse.take i).map (nmT true)).flatten).map ei)), none])
        (by rw [List.map_reverse]; exact ei_revT (ed_ixT (j := 1) (ed_var rfl) ed_cint rfl rfl)) (fun M1 H1 bl i t ht => ⟨_, tg_name (by simp) (lt_b rfl), ?_⟩) ?_))
      · have hm : t ∈ l := List.mem_reverse.mp (List.mem_of_getElem? ht)
        obtain ⟨x, tg⟩ := hk t hm
        refine ho_ext (in_b rfl) rfl (ev_mask (ed_call (ea_cons (ed_var rfl) ea_nil) (Q_numbers_right.mk o g x t tg (by have := cntL_mem hm; omega) (by have := depL_mem hm; omega)))) ?_ ?_
        · rw [List.length_map, List.length_map, List.length_cons, flat_len, nmT_len]
          have := cntL_mem hm
          have := cntL_take l.reverse i
          rw [cntL_rev] at this
          omega
        · rw [flat_take ht, ← List.map_append]
          exact nx_to
      · rw [List.take_length]
        rw [nmT_node] at q
        exact ho_freeze 1 (own' := []) (by simp) (ho_ret (ev_all (ed_var rfl)) q)
abbrev R_numbers_right := Q_numbers_right 12
theorem cal_numbers_right (T : Txt K mg) : Cal P w K mg base 13 "numbers_right" ["tree"] (spF R_numbers_right) := calr_numbers_right T 12

inductive R_order : List D → D → Prop | mk (o : Bool) (g : SG) (t : Tr) (sok : SOk g) (ok : TOk g t) : R_order [encSG o g, encT o t, encT o t] (.int 0)
theorem cal_order (T : Txt K mg) : Cal P w K mg base 17 "order" ["grammar", "one", "other"] (spF R_order) := by
  have C_must_be_tree := cal_must_be_tree (P := P) (w := w) (base := base) T
  have C_numbers_in := cal_numbers_in (P := P) (w := w) (base := base) T
  refine T.d_order.cal sc_order [] (by simp) (fun ds d h => by cases h; rfl) fun f cdv A outer s H E hr => ?_
  refine ⟨_, (pss_cons (ps_expr (peC C_must_be_tree (hr.mono (by first | decide | omega)) (by rfl) (pa_cons (pv 0) (pa_cons (pv 1) pa_nil))))
      (pss_cons (ps_expr (peC C_must_be_tree (hr.mono (by first | decide | omega)) (by rfl) (pa_cons (pv 0) (pa_cons (pv 2) pa_nil))))
      (pss_cons (ps_set (i := 3) sc_order.nd rfl (.inl rfl) (peC C_numbers_in (hr.mono (by first | decide | omega)) (by rfl) (pa_cons (pv 1) pa_nil)))
      (pss_cons (ps_set (i := 4) sc_order.nd rfl (.inl rfl) (peC C_numbers_in (hr.mono (by first | decide | omega)) (by rfl) (pa_cons (pv 2) pa_nil)))
      (pss_cons (ps_if (pt_cmpR (op_eqD hr.units) (pv 3) (pv 4) (nomark _)) (pss_one (ps_ret pe_int)) pss_nil)
      (pss_cons ps_never
      (pss_one (ps_ret pe_int)))))))), fun ds d h M0 H0 Q q => ?_⟩
  cases h
  case mk o g t sok ok =>
  have cm := R_must_be_tree.mk o g t sok ok
  have cn := Q_numbers_in.mk (n := 12) o g _ t (ok.tg sok) ok.cnt ok.dep
  exact hs_drop (ev_all (ed_call (ea_cons (ed_var rfl) (ea_cons (ed_var rfl) ea_nil)) cm)) (hs_drop (ev_all (ed_call (ea_cons (ed_var rfl) (ea_cons (ed_var rfl) ea_nil)) cm)) (hs_set (ev_all (ed_call (ea_cons (ed_var rfl) ea_nil) cn)) (hs_set (ev_all (ed_call (ea_cons (ed_var rfl) ea_nil) cn))
    (hs_yes (ett (et_test (ed_eqD (n := 2) (ed_var rfl) (ed_var rfl) rfl (plains_eis 1 _) (by decide)))) (ho_ret (ev_all ed_cint) q)))))

inductive R_steps_of : List D → D → Prop | mk (o : Bool) (g : SG) (t : Tr) (sok : SOk g) (ok : TOk g t) : R_steps_of [encSG o g, encT o t] (.lst ((nmT false t).map ei))
theorem cal_steps_of (T : Txt K mg) : Cal P w K mg base 17 "steps_of" ["grammar", "tree"] (spF R_steps_of) := by
  have C_must_be_tree := cal_must_be_tree (P := P) (w := w) (base := base) T
  have C_numbers_in := cal_numbers_in (P := P) (w := w) (base := base) T
  refine T.d_steps_of.cal sc_steps_of [] (by simp) (fun ds d h => by cases h; rfl) fun f cdv A outer s H E hr => ?_
  refine ⟨_, (pss_cons (ps_expr (peC C_must_be_tree (hr.mono (by first | decide | omega)) (by rfl) (pa_cons (pv 0) (pa_cons (pv 1) pa_nil))))
      (pss_one (ps_ret (peC C_numbers_in (hr.mono (by first | decide | omega)) (by rfl) (pa_cons (pv 1) pa_nil))))), fun ds d h M0 H0 Q q => ?_⟩
  cases h
  case mk o g t sok ok =>
  exact hs_drop (ev_all (ed_call (ea_cons (ed_var rfl) (ea_cons (ed_var rfl) ea_nil)) (R_must_be_tree.mk o g t sok ok))) (ho_ret (ev_all (ed_call (ea_cons (ed_var rfl) ea_nil) (Q_numbers_in.mk o g _ t (ok.tg sok) ok.cnt ok.dep))) q)
inductive R_right_steps : List D → D → Prop | mk (o : Bool) (g : SG) (t : Tr) (sok : SOk g) (ok : TOk g t) : R_right_steps [encSG o g, encT o t] (.lst ((nmT true t).map ei))
theorem cal_right_steps (T : Txt K mg) : Cal P w K mg base 17 "right_steps" ["grammar", "tree"] (spF R_right_steps) := by
  have C_must_be_tree := cal_must_be_tree (P := P) (w := w) (base := base) T
  have C_numbers_right := cal_numbers_right (P := P) (w := w) (base := base) T
  refine T.d_right_steps.cal sc_right_steps [] (by simp) (fun ds d h => by cases h; rfl) fun f cdv A outer s H E hr => ?_
  refine ⟨_, (pss_cons (ps_expr (peC C_must_be_tree (hr.mono (by first | decide | omega)) (by rfl) (pa_cons (pv 0) (pa_cons (pv 1) pa_nil))))
      (pss_one (ps_ret (peC C_numbers_right (hr.mono (by first | decide | omega)) (by rfl) (pa_cons (pv 1) pa_nil))))), fun ds d h M0 H0 Q q => ?_⟩
  cases h
  case mk o g t sok ok =>
  exact hs_drop (ev_all (ed_call (ea_cons (ed_var rfl) (ea_cons (ed_var rfl) ea_nil)) (R_must_be_tree.mk o g t sok ok))) (ho_ret (ev_all (ed_call (ea_cons (ed_var rfl) ea_nil) (Q_numbers_right.mk o g _ t (ok.tg sok) ok.cnt ok.dep))) q)
end
end RN

end
section
set_option maxRecDepth 100000
set_option maxHeartbeats 4000000
namespace RN
open PySem L2 Sym
theorem ed_neg {Γ : Gm} {te : TE} {i : Int} (h : ED te Γ (.int i)) : ED (tUn (rU fun i => .int (-i)) te) Γ (.int (-i)) := fun σ M H e sl Q q => h σ M H e sl _ fun v M1 H1 g r => by
  cases r
  exact ⟨i, rfl, q _ M1 H1 g (.int _)⟩
theorem ed_isN_tup {Γ : Gm} {te : TE} {ds : List D} (h : ED te Γ (.tup ds)) : ED (tIsN te) Γ (.bl false) := ed_isN h (fun H v r => by
  cases r
  constructor
  · intro e; cases e
  · intro e; cases e) (.inr rfl)
theorem hs_ifTo {M0 H0 : Hp} {own : List Nat} {X : Hp} {Γ : Gm} {t u : TS} {D : Ends} {tt : TT} {b : Bool} (Γ' : Gm) (h : ETT own tt Γ b) (h1 : b = true → ∀ E : Ends, Nx M0 H0 own X Γ' E.nx → Ho M0 H0 own X Γ t E) (h2 : b = false → LeG Γ' Γ) (k : Ho M0 H0 own X Γ' u D) : Ho M0 H0 own X Γ (tSeq (tIfS tt t tNext) u) D :=
  hs_if h (fun e => h1 e _ k) fun e => ho_le (h2 e) k
theorem drop_at {α : Type} : ∀ {l : List α} {m : Nat} {a : α} {r : List α}, l.drop m = a :: r → l[m]? = some a ∧ l.drop (m + 1) = r
  | [], m, y, r, h => by simp at h
  | x :: l, 0, y, r, h => by simp at h; simp [h]
  | x :: l, m + 1, y, r, h => by
    have := drop_at (l := l) (m := m) (a := y) (r := r) (by simpa using h)
    simpa using this
theorem drop_app {α : Type} {l : List α} {m : Nat} {p r : List α} (h : l.drop m = p ++ r) : l.drop (m + p.length) = r := by rw [← List.drop_drop, h, List.drop_left]
/-! forms -/
def places (f : List Sym) : List Nat := (List.range f.length).filter fun k => !isL (f.getD k .dot)
def place (b : Bool) (f : List Sym) : Option Nat := if b then (places f).getLast? else (places f).head?
def putF (f : List Sym) (k : Nat) (ps : List Sym) : List Sym := f.take k ++ ps ++ f.drop (k + 1)
inductive Unf (g : SG) (b : Bool) : List Sym → List Nat → List (List Sym) → Prop
  | nil {f : List Sym} : Unf g b f [] []
  | cons {f : List Sym} {n k : Nat} {r : Sym × List Sym} {ns : List Nat} {fs : List (List Sym)} : g[n]? = some r → place b f = some k → Unf g b (putF f k r.2) ns fs → Unf g b f (n :: ns) (putF f k r.2 :: fs)
theorem place_lt {b : Bool} {f : List Sym} {k : Nat} (h : place b f = some k) : k < f.length := by
  have : k ∈ places f := by
    unfold place at h
    cases b
    · exact List.mem_of_head? h
    · exact List.mem_of_getLast? h
  unfold places at this
  exact List.mem_range.mp (List.mem_filter.mp this).1
theorem Unf.at_ {g : SG} {b : Bool} : ∀ {f : List Sym} {ns : List Nat} {fs : List (List Sym)}, Unf g b f ns fs → ∀ {i n : Nat}, ns[i]? = some n → ∃ r k fi, (f :: fs)[i]? = some fi ∧ g[n]? = some r ∧ place b fi = some k ∧ fs[i]? = some (putF fi k r.2)
  | _, _, _, .cons h1 h2 h3, 0, n, e => by
    simp at e
    subst e
    exact ⟨_, _, _, rfl, h1, h2, rfl⟩
  | _, _, _, .cons h1 h2 h3, i + 1, n, e => by
    obtain ⟨r, k, fi, e1, e2, e3, e4⟩ := Unf.at_ h3 (i := i) (n := n) (by simpa using e)
    exact ⟨r, k, fi, by simpa using e1, e2, e3, by simpa using e4⟩
theorem Unf.len {g : SG} {b : Bool} (h6 : ∀ r ∈ g, r.2.length ≤ 6) : ∀ {f : List Sym} {ns : List Nat} {fs : List (List Sym)}, Unf g b f ns fs → fs.length = ns.length ∧ ∀ x ∈ f :: fs, x.length ≤ f.length + 6 * ns.length
  | _, _, _, .nil => ⟨rfl, by simp⟩
  | f, _, _, @Unf.cons _ _ _ n k r ns fs h1 h2 h3 => by
    obtain ⟨q1, q2⟩ := Unf.len h6 h3
    have hr := h6 r (List.mem_of_getElem? h1)
    have hl : (putF f k r.2).length ≤ f.length + 6 := by
      unfold putF
      rw [List.length_append, List.length_append, List.length_take, List.length_drop]
      omega
    refine ⟨by simp [q1], fun x hx => ?_⟩
    rw [List.length_cons]
    rcases List.mem_cons.mp hx with e | e
    · rw [e]
      omega
    · have := q2 x e
      omega
abbrev encF (o : Bool) (f : List Sym) : D := .tup (f.map (es o))
theorem imm_F (o : Bool) (f : List Sym) : imm (encF o f) = true := imms_es o f
theorem imms_F (o : Bool) : ∀ l : List (List Sym), imms (l.map (encF o)) = true
  | [] => rfl
  | s :: l => by rw [List.map_cons, imms, imms_F o l, imm_F]; rfl
theorem cutD_map {o : Bool} (f : List Sym) (lo hi : Option Int) : cutD (f.map (es o)) lo hi = ((f.drop (HT.sIx f.length 0 lo)).take (HT.sIx f.length f.length hi - HT.sIx f.length 0 lo)).map (es o) := by
  unfold cutD
  rw [List.length_map, ← List.map_drop, ← List.map_take]
theorem cut_lo {o : Bool} {f : List Sym} {k : Nat} (h : k < f.length) : cutD (f.map (es o)) none (some (k : Int)) = (f.take k).map (es o) := by
  rw [cutD_map, HT.sIx_none, HT.sIx_nat, List.drop_zero, Nat.sub_zero, Nat.min_eq_left (by omega)]
theorem cut_hi {o : Bool} {f : List Sym} {k : Nat} (h : k < f.length) : cutD (f.map (es o)) (some ((k : Int) + 1)) none = (f.drop (k + 1)).map (es o) := by
  have e : (k : Int) + 1 = ((k + 1 : Nat) : Int) := by omega
  rw [cutD_map, HT.sIx_none, e, HT.sIx_nat, Nat.min_eq_left (by omega), List.take_of_length_le (by rw [List.length_drop]; omega)]
section
variable {P : Program} {w : World} {K : PySem.W.Frag} {mg : Str → Option Value} {base : Heap}
inductive Q_grown (n : Nat) : List D → D → Prop | mk (o b : Bool) (g : SG) (p : Sym) (t : Tr) (m : Nat) (steps rest : List Nat) (hN : ∀ r ∈ g, isL r.1 = false) (ok : TG g p t) (hs : steps.drop m = nmT b t ++ rest) (h : depT t < n) :
  Q_grown n [encSG o g, es o p, .lst (steps.map ei), ei m, .bl b] (.tup [encT o t, ei (m + cntT t)])
theorem calr_grown (T : Txt K mg) : ∀ n : Nat, Cal P w K mg base (2 + n) "grown" ["grammar", "part", "steps", "at", "right"] (spF (Q_grown n))
  | 0 => T.d_grown.none fun ds d h => by cases h; omega
  | n + 1 => by
    have C_is_letter := cal_is_letter (P := P) (w := w) (base := base) T
    have C_grown := calr_grown T n
    refine T.d_grown.cal (k := 2 + n) sc_grown [6, 7] (by simp) (fun ds d h => by cases h; rfl) fun f cdv A outer s H E hr => ?_
    refine ⟨_, (pss_cons (ps_if (pt_val (peC C_is_letter (hr.mono (by first | decide | omega)) (by rfl) (pa_cons (pv 1) pa_nil))) (pss_one (ps_ret (pe_tup (pa_cons (pv 1) (pa_cons (pv 3) pa_nil))))) pss_nil)
      (pss_cons (ps_if (PW.pt (pw_or (pt_cmpR op_ge (pv 3) (pe_callB call_len_seq (by rfl) T.b_len (by decide +kernel) (pa_cons (pv 2) pa_nil)) (nomark _)) (pw_or (pt_cmpR op_lt (pe_ix ix_list (pv 2) (pv 3) (fun _ _ => rfl)) pe_int (nomark _)) (pw_or (pt_cmpR op_ge (pe_ix ix_list (pv 2) (pv 3) (fun _ _ => rfl)) (pe_callB call_len_seq (by rfl) T.b_len (by decide +kernel) (pa_cons (pv 0) pa_nil)) (nomark _)) (pw_or1 (pt_cmpR op_ne (pe_ix ix_tup (pe_ix ix_list (pv 0) (pe_ix ix_list (pv 2) (pv 3) (fun _ _ => rfl)) (fun _ _ => rfl)) pe_int (fun _ _ => rfl)) (pv 1) (nomark _))))))) (pss_one (ps_ret pe_non)) pss_nil)
      (pss_cons (ps_set (i := 5) sc_grown.nd rfl (.inl rfl) (pe_ix ix_list (pv 2) (pv 3) (fun _ _ => rfl)))
      (pss_cons (ps_set (i := 6) sc_grown.nd rfl (.inl rfl) (pe_callTy call_list_of (by rfl) T.b_list (by decide +kernel) (pa_cons (pe_ix ix_tup (pe_ix ix_list (pv 0) (pv 5) (fun _ _ => rfl)) pe_int (fun _ _ => rfl)) pa_nil)))
      (pss_cons (ps_if (pt_val (pv 4)) (pss_one (ps_expr (pe_bm0 PySem.F.plainAttrs_list PySem.F.slot_list_reverse PySem.F.type_list_reverse mt_reverse (pv 6)))) pss_nil)
      (pss_cons (ps_set (i := 3) sc_grown.nd rfl (.inl rfl) (pe_op op_add (pv 3) pe_int))
      (pss_cons (ps_set (i := 7) sc_grown.nd rfl (.inl rfl) (pe_lst pa_nil))
      (pss_cons (ps_for PassesOwn.never rfl (pi_list (pv 6)) (pg_name (i := 8) sc_grown.nd rfl (.inl rfl))
      (pss_cons (ps_set (i := 9) sc_grown.nd rfl (.inl rfl) (peC C_grown (hr.mono (by first | decide | omega)) (by rfl) (pa_cons (pv 0) (pa_cons (pv 8) (pa_cons (pv 2) (pa_cons (pv 3) (pa_cons (pv 4) pa_nil)))))))
      (pss_cons (ps_if (pt_cmp (pc_isN (pv 9))) (pss_one (ps_ret pe_non)) pss_nil)
      (pss_cons (ps_expr (pe_bm PySem.F.plainAttrs_list PySem.F.slot_list_append PySem.F.type_list_append mt_append (pv 7) (pa_cons (pe_ix ix_tup (pv 9) pe_int (fun _ _ => rfl)) pa_nil)))
      (pss_one (ps_set (i := 3) sc_grown.nd rfl (.inl rfl) (pe_ix ix_tup (pv 9) pe_int (fun _ _ => rfl))))))))
      (pss_cons (ps_if (pt_val (pv 4)) (pss_one (ps_expr (pe_bm0 PySem.F.plainAttrs_list PySem.F.slot_list_reverse PySem.F.type_list_reverse mt_reverse (pv 7)))) pss_nil)
      (pss_one (ps_ret (pe_tup (pa_cons (pe_tup (pa_cons (pv 5) (pa_cons (pe_callTy call_tuple_of (by rfl) T.b_tuple (by decide +kernel) (pa_cons (pv 7) pa_nil)) pa_nil))) (pa_cons (pv 3) pa_nil)))))))))))))), fun ds d h M0 H0 Q q => ?_⟩
    cases h
    case mk o b g p t m steps rest hN ok hs h =>
    cases t with
    | leaf x =>
      have hx := ok.yl.1 x (by simp [ylT])
      have hp : x = p := by
        obtain ⟨_, ok⟩ := ok
        cases ok
        rfl
      subst hp
      refine hs_yes (ett (et_B ((ed_call (ea_cons (ed_var rfl) ea_nil) (r_isL o x)).is (by rw [hx])))) (ho_ret (ev_imm (ed_tup (ea_cons (ed_var rfl) (ea_cons (ed_var rfl) ea_nil)) (le_b rfl)) rfl) ?_)
      rw [encT_leaf] at q
      exact q
    | node k l =>
      obtain ⟨r, e, rfl, oks, hl, hk⟩ := ok.node
      have hNr := hN r (List.mem_of_getElem? e)
      rw [nmT_node] at hs
      obtain ⟨hs1, hs2⟩ := drop_at (l := steps) (m := m) (a := k) (r := ((if b then l.reverse else l).map (nmT b)).flatten ++ rest) (by rw [hs]; rfl)
      have hm := lt_of_at hs1
      have hkg := lt_of_at e
      rw [depT] at h
      refine hs_no (ett (et_B ((ed_call (ea_cons (ed_var rfl) ea_nil) (r_isL o r.1)).is (by rw [hNr])))) ?_
      refine hs_no (ett (et_orF (et_test (ed_F (ed_ge (ed_var rfl) (ed_lenL (ds := steps.map ei) (ed_var rfl))) (decide_eq_false (by rw [List.length_map]; omega)))) (et_orF (et_test (ed_F (ed_lt (ed_ixL (j := m) (ds := steps.map ei) (ed_var rfl) (ed_var rfl) rfl (map_at hs1)) ed_cint) (decide_eq_false (by omega)))) (et_orF (et_test (ed_F (ed_ge (ed_ixL (j := m) (ds := steps.map ei) (ed_var rfl) (ed_var rfl) rfl (map_at hs1)) (ed_lenL (ds := g.map (encSR o)) (ed_var rfl))) (decide_eq_false (by rw [List.length_map]; omega))))
        (et_test (ed_F (ed_nes (ed_nameAt (ed_var rfl) (ed_ixL (j := m) (ds := steps.map ei) (ed_var rfl) (ed_var rfl) rfl (map_at hs1)) e) (ed_var rfl)) (by simp))))))) ?_
      refine hs_set (ev_imm (ed_ixL (j := m) (ds := steps.map ei) (ed_var rfl) (ed_var rfl) rfl (map_at hs1)) rfl) ?_
      refine hs_own (en_flat (ef_listT (ed_partsAt (ed_var rfl) (ed_var rfl) e)) (imms_es o _)) ?_
      obtain ⟨sub, hsub⟩ : ∃ sub, sub = (if b then l.reverse else l) := ⟨_, rfl⟩
      obtain ⟨prt, hprt⟩ : ∃ prt, prt = (if b then r.2.reverse else r.2) := ⟨_, rfl⟩
      rw [← hsub] at hs2
      have okp : Okts g prt sub := by
        rw [hsub, hprt]
        cases b
        · exact oks
        · exact oks.reverse
      have hmem : ∀ t, t ∈ sub → t ∈ l := by
        intro t ht
        rw [hsub] at ht
        cases b
        · exact ht
        · exact List.mem_reverse.mp ht
      have hcs : cntL sub = cntL l := by
        rw [hsub]
        cases b
        · rfl
        · exact cntL_rev l
      refine hs_ifTo [some (encSG o g), some (es o r.1), some (.lst (steps.map ei)), some (ei m), some (.bl b), some (ei k), some (.lst (prt.map (es o))), none, none, none] (ett (et_B (ed_var rfl))) (fun hb E kk => ?_) (fun hb => ?_) ?_
      · subst hb
        refine ho_rev (in_b rfl) rfl ?_
        rw [← List.map_reverse]
        rw [hprt] at kk
        exact kk
      · subst hb
        rw [hprt]
        exact LeG.refl _
      refine hs_set (ev_imm (ed_add (ed_var rfl) ed_cint) rfl) ?_
      refine ho_freeze 6 (own' := [7]) (by intro j; simp; omega) (hs_own (en_flat (ef_lst ea_nil (le_b rfl)) rfl) ?_)
      refine hs_for prt (es o) (fun i => [some (encSG o g), some (es o r.1), some (.lst (steps.map ei)), some (ei (m + 1 + ((sub.take i).map (nmT b)).flatten.length)), some (.bl b), some (ei k), some (.lst (prt.map (es o))), some (.lst ((sub.take i).map (encT o))), none, none])
        (ei_list (ed_var rfl)) (fun M1 H1 bl i p hp => ⟨_, tg_name (by simp) (lt_b rfl), ?_⟩) ?_
      · have hi := lt_of_at hp
        have hil : i < sub.length := by rw [← okp.len]; exact hi
        have ht : sub[i]? = some sub[i] := List.getElem?_eq_getElem hil
        have hm := hmem _ (List.mem_of_getElem? ht)
        have tg : TG g p sub[i] := ⟨ok.h6, okp.get hp ht⟩
        have hd := depL_mem hm
        have hdr : steps.drop (m + 1 + ((sub.take i).map (nmT b)).flatten.length) = nmT b sub[i] ++ (((sub.drop (i + 1)).map (nmT b)).flatten ++ rest) := by
          refine drop_app ?_
          rw [hs2, ← List.append_assoc, ← List.append_assoc, ← flat_take ht, ← List.flatten_append, ← List.map_append, List.take_append_drop]
        refine hs_set (ev_imm (ed_call (ea_cons (ed_var rfl) (ea_cons (ed_var rfl) (ea_cons (ed_var rfl) (ea_cons (ed_var rfl) (ea_cons (ed_var rfl) ea_nil))))) (Q_grown.mk o b g p _ _ steps _ hN tg hdr (by omega))) (by simp [imm, imms, imm_T])) ?_
        refine hs_no (ett (et_B (ed_isN_tup (ed_var rfl)))) ?_
        refine hs_app (ev_imm (ed_ixT (j := 0) (ed_var rfl) ed_cint rfl rfl) (imm_T o _)) rfl ?_ ?_
        · rw [List.length_map, List.length_take]
          have : sub.length ≤ 6 := by
            rw [hsub]
            cases b
            · exact hl
            · rw [if_pos rfl, List.length_reverse]
              exact hl
          omega
        refine ho_asg (ev_imm (ed_ixT (j := 1) (ed_var rfl) ed_cint rfl rfl) rfl) (tg_name (by simp) (lt_b rfl)) ?_
        have e1 : m + 1 + ((sub.take (i + 1)).map (nmT b)).flatten.length = m + 1 + ((sub.take i).map (nmT b)).flatten.length + cntT sub[i] := by
          rw [flat_take ht, List.length_append, nmT_len]
          omega
        have e2 : (sub.take (i + 1)).map (encT o) = (sub.take i).map (encT o) ++ [encT o sub[i]] := by rw [take_succ ht, List.map_append]; rfl
        rw [e1, e2]
        exact nx_to
      · rw [okp.len, List.take_length, flat_len, hcs]
        refine hs_ifTo [some (encSG o g), some (es o r.1), some (.lst (steps.map ei)), some (ei (m + 1 + cntL l)), some (.bl b), some (ei k), some (.lst (prt.map (es o))), some (.lst (l.map (encT o))), none, none] (ett (et_B (ed_var rfl))) (fun hb E kk => ?_) (fun hb => ?_) ?_
        · subst hb
          refine ho_rev (in_b rfl) rfl ?_
          rw [hsub, if_pos rfl, ← List.map_reverse, List.reverse_reverse]
          exact kk
        · subst hb
          rw [hsub]
          exact LeG.refl _
        refine ho_ret (ev_imm (ed_tup (ea_cons (ed_tup (ea_cons (ed_var rfl) (ea_cons (ed_tupL (ed_var rfl)) ea_nil)) (le_b rfl)) (ea_cons (ed_var rfl) ea_nil)) (le_b rfl)) (by simp [imm, imms, imms_T])) ?_
        rw [encT_node, cntT, ← Nat.add_assoc] at q
        exact q
abbrev R_grown := Q_grown 12
theorem cal_grown (T : Txt K mg) : Cal P w K mg base 14 "grown" ["grammar", "part", "steps", "at", "right"] (spF R_grown) := calr_grown T 12
theorem SOk.hN {g : SG} (h : SOk g) : ∀ r ∈ g, isL r.1 = false := fun r hr => by
  have := (h.rule r hr).1
  cases e : r.1 <;> rw [e] at this <;> first | rfl | cases this

inductive R_tree_by : List D → D → Prop | mk (o b : Bool) (g : SG) (t : Tr) (sok : SOk g) (ok : TOk g t) : R_tree_by [encSG o g, .lst ((nmT b t).map ei), .bl b] (encT o t)
theorem cal_tree_by (T : Txt K mg) : Cal P w K mg base 15 "tree_by" ["grammar", "steps", "right"] (spF R_tree_by) := by
  have C_must_be_grammar := cal_must_be_grammar (P := P) (w := w) (base := base) T
  have C_grown := cal_grown (P := P) (w := w) (base := base) T
  have C_is_tree_of := cal_is_tree_of (P := P) (w := w) (base := base) T
  refine T.d_tree_by.cal sc_tree_by [] (by simp) (fun ds d h => by cases h; rfl) fun f cdv A outer s H E hr => ?_
  refine ⟨_, (pss_cons (ps_expr (peC C_must_be_grammar (hr.mono (by first | decide | omega)) (by rfl) (pa_cons (pv 0) pa_nil)))
      (pss_cons (ps_set (i := 3) sc_tree_by.nd rfl (.inl rfl) (pe_ix ix_tup (pe_ix ix_list (pv 0) pe_int (fun _ _ => rfl)) pe_int (fun _ _ => rfl)))
      (pss_cons (ps_set (i := 4) sc_tree_by.nd rfl (.inl rfl) (peC C_grown (hr.mono (by first | decide | omega)) (by rfl) (pa_cons (pv 0) (pa_cons (pv 3) (pa_cons (pv 1) (pa_cons pe_int (pa_cons (pv 2) pa_nil)))))))
      (pss_cons (ps_if (PW.pt (pw_or (pt_cmp (pc_isN (pv 4))) (pw_or (pt_cmpR op_ne (pe_ix ix_tup (pv 4) pe_int (fun _ _ => rfl)) (pe_callB call_len_seq (by rfl) T.b_len (by decide +kernel) (pa_cons (pv 1) pa_nil)) (nomark _)) (pw_or1 (pt_not (pt_val (peC C_is_tree_of (hr.mono (by first | decide | omega)) (by rfl) (pa_cons (pv 0) (pa_cons (pv 3) (pa_cons (pe_ix ix_tup (pv 4) pe_int (fun _ _ => rfl)) pa_nil)))))))))) (pss_one ps_never) pss_nil)
      (pss_one (ps_ret (pe_ix ix_tup (pv 4) pe_int (fun _ _ => rfl)))))))), fun ds d h M0 H0 Q q => ?_⟩
  cases h
  case mk o b g t sok ok =>
  refine hs_drop (ev_all (ed_call (ea_cons (ed_var rfl) ea_nil) (R_must_be_grammar.mk o g sok))) (hs_set (ev_all (ed_grammar0 (ed_var rfl) sok.ne)) (hs_set (ev_all (ed_call (ea_cons (ed_var rfl) (ea_cons (ed_var rfl) (ea_cons (ed_var rfl) (ea_cons ed_cint (ea_cons (ed_var rfl) ea_nil))))) (Q_grown.mk o b g _ t 0 (nmT b t) [] sok.hN (ok.tg sok) (by simp) ok.dep))) ?_))
  refine hs_no (ett (et_orF (et_B (ed_isN_tup (ed_var rfl))) (et_orF (et_test (ed_F (ed_neI (ed_ixT (j := 1) (ed_var rfl) ed_cint rfl rfl) (ed_lenL (ds := (nmT b t).map ei) (ed_var rfl))) ?_)) (et_notT (et_B (ed_call (ea_cons (ed_var rfl) (ea_cons (ed_var rfl) (ea_cons (ed_ixT (j := 0) (ed_var rfl) ed_cint rfl rfl) ea_nil))) (R_is_tree_of.mk o g t sok.h6 ok))))))) (ho_ret (ev_all (ed_ixT (j := 0) (ed_var rfl) ed_cint rfl rfl)) q)
  rw [List.length_map, nmT_len, Nat.zero_add]
  simp
inductive R_tree_of : List D → D → Prop | mk (o : Bool) (g : SG) (t : Tr) (sok : SOk g) (ok : TOk g t) : R_tree_of [encSG o g, .lst ((nmT false t).map ei)] (encT o t)
theorem cal_tree_of (T : Txt K mg) : Cal P w K mg base 16 "tree_of" ["grammar", "steps"] (spF R_tree_of) := by
  have C_tree_by := cal_tree_by (P := P) (w := w) (base := base) T
  refine T.d_tree_of.cal sc_tree_of [] (by simp) (fun ds d h => by cases h; rfl) fun f cdv A outer s H E hr => ?_
  refine ⟨_, (pss_one (ps_ret (peC C_tree_by (hr.mono (by first | decide | omega)) (by rfl) (pa_cons (pv 0) (pa_cons (pv 1) (pa_cons pe_bl pa_nil)))))), fun ds d h M0 H0 Q q => ?_⟩
  cases h
  case mk o g t sok ok =>
  exact ho_ret (ev_all (ed_call (ea_cons (ed_var rfl) (ea_cons (ed_var rfl) (ea_cons ed_cbl ea_nil))) (R_tree_by.mk o false g t sok ok))) q
inductive R_from_right : List D → D → Prop | mk (o : Bool) (g : SG) (t : Tr) (sok : SOk g) (ok : TOk g t) : R_from_right [encSG o g, .lst ((nmT true t).map ei)] (encT o t)
theorem cal_from_right (T : Txt K mg) : Cal P w K mg base 16 "from_right" ["grammar", "steps"] (spF R_from_right) := by
  have C_tree_by := cal_tree_by (P := P) (w := w) (base := base) T
  refine T.d_from_right.cal sc_from_right [] (by simp) (fun ds d h => by cases h; rfl) fun f cdv A outer s H E hr => ?_
  refine ⟨_, (pss_one (ps_ret (peC C_tree_by (hr.mono (by first | decide | omega)) (by rfl) (pa_cons (pv 0) (pa_cons (pv 1) (pa_cons pe_bl pa_nil)))))), fun ds d h M0 H0 Q q => ?_⟩
  cases h
  case mk o g t sok ok =>
  exact ho_ret (ev_all (ed_call (ea_cons (ed_var rfl) (ea_cons (ed_var rfl) (ea_cons ed_cbl ea_nil))) (R_tree_by.mk o true g t sok ok))) q

inductive R_unfolded : List D → D → Prop | mk (o b : Bool) (g : SG) (ns : List Nat) (fs : List (List Sym)) (sok : SOk g) (hn : ns.length ≤ 200) (h : Unf g b [first g] ns fs) : R_unfolded [encSG o g, .lst (ns.map ei), .bl b] (.lst (([first g] :: fs).map (encF o)))
theorem cal_unfolded (T : Txt K mg) : Cal P w K mg base 2 "unfolded" ["grammar", "steps", "right"] (spF R_unfolded) := by
  have C_is_letter := cal_is_letter (P := P) (w := w) (base := base) T
  refine T.d_unfolded.cal sc_unfolded [4] (by simp) (fun ds d h => by cases h; rfl) fun f cdv A outer s H E hr => ?_
  refine ⟨_, (pss_cons (ps_set (i := 3) sc_unfolded.nd rfl (.inr rfl) (pe_tup (pa_cons (pe_ix ix_tup (pe_ix ix_list (pv 0) pe_int (fun _ _ => rfl)) pe_int (fun _ _ => rfl)) pa_nil)))
      (pss_cons (ps_set (i := 4) sc_unfolded.nd rfl (.inl rfl) (pe_lst (pa_cons (pv 3) pa_nil)))
      (pss_cons (ps_for PassesOwn.never rfl (pi_list (pv 1)) (pg_name (i := 5) sc_unfolded.nd rfl (.inl rfl))
      (pss_cons (ps_setLc (i := 6) (own := [("k", 8)]) (g := (gName 8)) (tt := (tNot (tB (tCall (spF R_is_letter) [] E0 (tCons (tOp (rIxT K) (tVar 3) (tVar 8)) tNil))))) (te := (tVar 8)) rfl sc_unfolded.nd rfl rfl (sw_true rfl rfl rfl (by decide +kernel)) (pi_range1 (by rfl) T.b_range (pa_cons (pe_callB call_len_seq (by rfl) T.b_len (by decide +kernel) (pa_cons (pv 3) pa_nil)) pa_nil)) (blkOk_by (N := ["grammar", "steps", "right", "form", "found", "number", "places", "place", "k"]) (sc := defScope s_unfolded) (by decide +kernel)) (fun _ _ _ _ _ => (pg_name (i := 8) sc_unfolded.nd rfl (.inl rfl))) (fun _ _ _ _ _ => (pts_one (pt_not (pt_val (peC C_is_letter (hr.mono (by first | decide | omega)) (by rfl) (pa_cons (pe_ix ix_tup (pv 3) (pv 8) (fun _ _ => rfl)) pa_nil)))))) (fun _ _ _ _ _ => (pv 8)))
      (pss_cons (ps_set (i := 7) sc_unfolded.nd rfl (.inl rfl) (pe_ix ix_list (pv 6) pe_int (fun _ _ => rfl)))
      (pss_cons (ps_if (pt_val (pv 2)) (pss_one (ps_set (i := 7) sc_unfolded.nd rfl (.inl rfl) (pe_ix ix_list (pv 6) (pe_un un_neg pe_int) (fun _ _ => rfl)))) pss_nil)
      (pss_cons (ps_set (i := 3) sc_unfolded.nd rfl (.inr rfl) (pe_op op_catA (pe_op op_catA (pe_slice sl_tupA (pv 3) po_none (po_some (pv 7))) (pe_ix ix_tup (pe_ix ix_list (pv 0) (pv 5) (fun _ _ => rfl)) pe_int (fun _ _ => rfl))) (pe_slice sl_tupA (pv 3) (po_some (pe_op op_add (pv 7) pe_int)) po_none)))
      (pss_one (ps_expr (pe_bm PySem.F.plainAttrs_list PySem.F.slot_list_append PySem.F.type_list_append mt_append (pv 4) (pa_cons (pv 3) pa_nil)))))))))
      (pss_one (ps_ret (pv 4)))))), fun ds d h M0 H0 Q q => ?_⟩
  cases h
  case mk o b g ns fs sok hn h =>
  obtain ⟨hl1, hl2⟩ := h.len sok.h6
  refine hs_set (ev_imm (ed_tup (ea_cons (ed_grammar0 (ed_var rfl) sok.ne) ea_nil) (le_b rfl)) rfl) (hs_own (en_flat (ef_lst (ea_cons (ed_var rfl) ea_nil) (le_b rfl)) rfl) ?_)
  refine hs_for ns ei (fun i => [some (encSG o g), some (.lst (ns.map ei)), some (.bl b), some (encF o (([first g] :: fs).getD i [])), some (.lst ((([first g] :: fs).take (i + 1)).map (encF o))), none, none, none, none]) (ei_list (ed_var rfl)) (fun M1 H1 bl i n hi => ⟨_, tg_name (by simp) (lt_b rfl), ?_⟩) ?_
  · obtain ⟨r, k, fi, e1, e2, e3, e4⟩ := h.at_ hi
    have hfi : fi.length ≤ 1201 := by
      have := hl2 fi (List.mem_of_getElem? e1)
      simp at this
      omega
    have hin := lt_of_at hi
    have eD : ([first g] :: fs).getD i [] = fi := by rw [List.getD_eq_getElem?_getD, e1]; rfl
    have eD2 : ([first g] :: fs).getD (i + 1) [] = putF fi k r.2 := by rw [List.getD_eq_getElem?_getD, List.getElem?_cons_succ, e4]; rfl
    rw [eD, eD2]
    have hk := place_lt e3
    have hr6 := sok.h6 r (List.mem_of_getElem? e2)
    refine hs_set (d := .lst ((places fi).map ei)) (ev_flat (ef_lc (List.range fi.length) ei (fun k => !isL (fi.getD k .dot)) ei (ei_range ((ed_lenT (ds := fi.map (es o)) (ed_var rfl)).is (by rw [List.length_map])) (by omega)) (by rw [List.length_range]; omega) fun j hj => ⟨_, ts_name (by simp), et_not (et_B (ed_call (ea_cons (ed_ixT (j := j) (d := es o (fi.getD j .dot)) (ds := fi.map (es o)) (ed_var rfl) (ed_var rfl) rfl ?_) ea_nil) (r_isL o _))), fun _ => ed_var rfl⟩) ?_) ?_
    · have hj' := List.mem_range.mp hj
      rw [List.getElem?_map, List.getD_eq_getElem?_getD, List.getElem?_eq_getElem hj']
      rfl
    · have e : ∀ l : List Nat, imms (l.map ei) = true := by
        intro l
        induction l with
        | nil => rfl
        | cons a l ih => rw [List.map_cons, imms, ih]; rfl
      exact e _
    obtain ⟨k0, hk0⟩ : ∃ k0, (places fi).head? = some k0 := by
      cases hp : places fi with
      | nil =>
        unfold place at e3
        rw [hp] at e3
        cases b <;> simp at e3
      | cons a l => exact ⟨a, rfl⟩
    have hk00 : (places fi)[0]? = some k0 := by rw [← List.head?_eq_getElem?]; exact hk0
    refine hs_set (ev_imm (ed_ixL (j := 0) (ds := (places fi).map ei) (ed_var rfl) ed_cint rfl (map_at hk00)) rfl) ?_
    refine hs_ifTo [some (encSG o g), some (.lst (ns.map ei)), some (.bl b), some (encF o fi), some (.lst ((([first g] :: fs).take (i + 1)).map (encF o))), some (ei n), some (.lst ((places fi).map ei)), some (ei k), none] (ett (et_B (ed_var rfl))) (fun hb E kk => ?_) (fun hb => ?_) ?_
    · subst hb
      unfold place at e3
      rw [if_pos rfl] at e3
      obtain ⟨pl, hpl⟩ : ∃ pl, places fi = pl ++ [k] := by
        rw [List.getLast?_eq_some_iff] at e3
        exact e3
      have z : (places fi).map ei = pl.map ei ++ [ei k] := by rw [hpl, List.map_append]; rfl
      exact ho_asg (ev_imm (ed_ixLast (ds := pl.map ei) (by rw [← z]; exact ed_var rfl) (ed_neg ed_cint)) rfl) (tg_name (by simp) (lt_b rfl)) kk
    · subst hb
      unfold place at e3
      rw [if_neg (by decide)] at e3
      rw [hk0] at e3
      cases e3
      exact LeG.refl _
    refine hs_set (d := encF o (putF fi k r.2)) (ev_imm ((ed_catT (ed_catT (ds := (fi.take k).map (es o)) (es := r.2.map (es o)) ((ed_sliceT (ds := fi.map (es o)) (ed_var rfl) eo_none (eo_some (ed_var rfl))).is (by rw [cut_lo hk])) (ed_partsAt (ed_var rfl) (ed_var rfl) e2) ?_) (es := (fi.drop (k + 1)).map (es o)) ((ed_sliceT (ds := fi.map (es o)) (ed_var rfl) (eo_some (ed_add (ed_var rfl) ed_cint)) eo_none).is (by rw [cut_hi hk])) ?_).is ?_) (imm_F o _)) ?_
    · rw [List.length_map, List.length_map, List.length_take]
      omega
    · rw [List.length_append, List.length_map, List.length_map, List.length_map, List.length_take, List.length_drop]
      omega
    · unfold putF
      rw [encF, List.map_append, List.map_append]
    refine ho_app (in_b rfl) rfl (ev_imm (ed_var rfl) (imm_F o _)) (by rw [List.length_map, List.length_take, List.length_cons]; omega) ?_
    have e5 : (([first g] :: fs).take (i + 1 + 1)).map (encF o) = (([first g] :: fs).take (i + 1)).map (encF o) ++ [encF o (putF fi k r.2)] := by
      rw [List.take_succ_cons, List.take_succ_cons, take_succ e4, List.map_cons, List.map_cons, List.map_append]
      rfl
    rw [e5]
    exact nx_to
  · rw [List.take_of_length_le (by rw [List.length_cons]; omega)]
    exact ho_freeze 4 (own' := []) (by simp) (ho_ret (ev_all (ed_var rfl)) q)

inductive R_forms_left : List D → D → Prop | mk (o : Bool) (g : SG) (t : Tr) (fs : List (List Sym)) (sok : SOk g) (ok : TOk g t) (h : Unf g false [first g] (nmT false t) fs) : R_forms_left [encSG o g, encT o t] (.lst (([first g] :: fs).map (encF o)))
theorem cal_forms_left (T : Txt K mg) : Cal P w K mg base 17 "forms_left" ["grammar", "tree"] (spF R_forms_left) := by
  have C_must_be_tree := cal_must_be_tree (P := P) (w := w) (base := base) T
  have C_unfolded := cal_unfolded (P := P) (w := w) (base := base) T
  have C_numbers_in := cal_numbers_in (P := P) (w := w) (base := base) T
  refine T.d_forms_left.cal sc_forms_left [] (by simp) (fun ds d h => by cases h; rfl) fun f cdv A outer s H E hr => ?_
  refine ⟨_, (pss_cons (ps_expr (peC C_must_be_tree (hr.mono (by first | decide | omega)) (by rfl) (pa_cons (pv 0) (pa_cons (pv 1) pa_nil))))
      (pss_one (ps_ret (peC C_unfolded (hr.mono (by first | decide | omega)) (by rfl) (pa_cons (pv 0) (pa_cons (peC C_numbers_in (hr.mono (by first | decide | omega)) (by rfl) (pa_cons (pv 1) pa_nil)) (pa_cons pe_bl pa_nil))))))), fun ds d h M0 H0 Q q => ?_⟩
  cases h
  case mk o g t fs sok ok h =>
  exact hs_drop (ev_all (ed_call (ea_cons (ed_var rfl) (ea_cons (ed_var rfl) ea_nil)) (R_must_be_tree.mk o g t sok ok))) (ho_ret (ev_all (ed_call (ea_cons (ed_var rfl) (ea_cons (ed_call (ea_cons (ed_var rfl) ea_nil) (Q_numbers_in.mk o g _ t (ok.tg sok) ok.cnt ok.dep)) (ea_cons ed_cbl ea_nil))) (R_unfolded.mk o false g _ fs sok (by rw [nmT_len]; exact ok.cnt) h))) q)
inductive R_forms_right : List D → D → Prop | mk (o : Bool) (g : SG) (t : Tr) (fs : List (List Sym)) (sok : SOk g) (ok : TOk g t) (h : Unf g true [first g] (nmT true t) fs) : R_forms_right [encSG o g, encT o t] (.lst (([first g] :: fs).map (encF o)))
theorem cal_forms_right (T : Txt K mg) : Cal P w K mg base 17 "forms_right" ["grammar", "tree"] (spF R_forms_right) := by
  have C_must_be_tree := cal_must_be_tree (P := P) (w := w) (base := base) T
  have C_unfolded := cal_unfolded (P := P) (w := w) (base := base) T
  have C_numbers_right := cal_numbers_right (P := P) (w := w) (base := base) T
  refine T.d_forms_right.cal sc_forms_right [] (by simp) (fun ds d h => by cases h; rfl) fun f cdv A outer s H E hr => ?_
  refine ⟨_, (pss_cons (ps_expr (peC C_must_be_tree (hr.mono (by first | decide | omega)) (by rfl) (pa_cons (pv 0) (pa_cons (pv 1) pa_nil))))
      (pss_one (ps_ret (peC C_unfolded (hr.mono (by first | decide | omega)) (by rfl) (pa_cons (pv 0) (pa_cons (peC C_numbers_right (hr.mono (by first | decide | omega)) (by rfl) (pa_cons (pv 1) pa_nil)) (pa_cons pe_bl pa_nil))))))), fun ds d h M0 H0 Q q => ?_⟩
  cases h
  case mk o g t fs sok ok h =>
  exact hs_drop (ev_all (ed_call (ea_cons (ed_var rfl) (ea_cons (ed_var rfl) ea_nil)) (R_must_be_tree.mk o g t sok ok))) (ho_ret (ev_all (ed_call (ea_cons (ed_var rfl) (ea_cons (ed_call (ea_cons (ed_var rfl) ea_nil) (Q_numbers_right.mk o g _ t (ok.tg sok) ok.cnt ok.dep)) (ea_cons ed_cbl ea_nil))) (R_unfolded.mk o true g _ fs sok (by rw [nmT_len]; exact ok.cnt) h))) q)
end
end RN

end
section
set_option maxRecDepth 100000
set_option maxHeartbeats 4000000
namespace RN
open PySem L2 Sym
section
variable {M0 H0 : Hp} {own : List Nat} {X : Hp} {Γ : Gm} {t u tb : TS} {D : Ends} {tt : TT} {te ty : TE} {d : RN.D} {K : PySem.W.Frag}
theorem hs_while {σ : Type} {c : σ → Bool} {f : σ → σ} {n : Nat} {s z : σ} (Γs : σ → Gm) (I : σ → Prop) (wh : Wh c f n s z) (hI : I s) (hf : ∀ s, I s → c s = true → I (f s))
    (hc : ∀ s, I s → ETT own tt (Γs s) (c s))
    (hb : ∀ (s : σ) (JJ : Gm → Prop), I s → c s = true → JJ (Γs (f s)) → Ho M0 H0 own X (Γs s) tb { D with nx := SJ M0 H0 own X JJ, ct := SJ M0 H0 own X JJ, bk := u D })
    (hd : I z → c z = false → Ho M0 H0 own X (Γs z) u D) (h0 : LeG (Γs s) Γ := by repeat (first | exact trivial | refine ⟨rfl, ?_⟩)) : Ho M0 H0 own X Γ (tSeq (tWhile tt tb) u) D := by
  refine ho_seq (ho_le h0 (ho_while (fun m Γ1 => ∃ s', Wh c f m s' z ∧ I s' ∧ Γ1 = Γs s') n ⟨s, wh, hI, rfl⟩ ?_))
  rintro m Γ1 ⟨s', w, hi, rfl⟩
  cases w with
  | stop e => exact ⟨false, (by rw [← e]; exact hc _ hi), (fun q => nomatch q), fun _ => hd hi e⟩
  | go e w => exact ⟨true, (by rw [← e]; exact hc _ hi), (fun _ => hb s' _ hi e ⟨_, Nat.lt_succ_self _, f s', w, hf _ hi e, rfl⟩), fun q => nomatch q⟩
theorem hs_dput {i : Nat} {ks : List (Str × RN.D)} {s : Str} (hd : Γ[i]? = some (some (.dct ks))) (h : EV own te Γ d) (hs : ED ty Γ (.str s)) (hl : ks.length < 100000)
    (k : Ho M0 H0 own X (Γ.set i (some (.dct (putD ks s d)))) u D) (hi : own.contains i = true := by rfl) : Ho M0 H0 own X Γ (tSeq (sDPut (tVar i) ty te) u) D := ho_seq (ho_dput hd h hs hl k hi)
theorem hs_pop {i j : Nat} {ds : List RN.D} (hd : Γ[i]? = some (some (.lst (ds ++ [d])))) (k : Ho M0 H0 own X ((Γ.set i (some (.lst ds))).set j (some d)) u D) (hi : own.contains i = true := by rfl) (hj : own.contains j = false := by rfl) (lj : Nat.blt j Γ.length = true := by rfl) :
    Ho M0 H0 own X Γ (tSeq (tAsg (tBM0 K "list" rPop (tVar i)) (gName j)) u) D := ho_seq (ho_pop (in_b hi) (no_b hj) (lt_b lj) hd k)
/-- a loop with a state of its own -/
theorem hs_forI {α σ : Type} {wi : TI} {g : L2.TG} (as : List α) (enc : α → RN.D) (I : Nat → σ → Prop) (Γs : σ → Gm) (s0 : σ) (hI : EI wi (maskG own 0 (Γs s0)) (as.map enc)) (i0 : I 0 s0)
    (hs : ∀ M1 H1, BLe M0 H0 M1 H1 → ∀ (k : Nat) (a : α) (s : σ), as[k]? = some a → I k s → ∃ Γ2, TgV own g (enc a) (Γs s) Γ2 ∧ ∀ JJ : Gm → Prop, (∀ s', I (k + 1) s' → JJ (Γs s')) → Ho M1 H1 own X Γ2 tb { D with nx := SJ M1 H1 own X JJ, ct := SJ M1 H1 own X JJ, bk := u D })
    (hd : ∀ s, I as.length s → Ho M0 H0 own X (Γs s) u D) (h0 : LeG (Γs s0) Γ := by repeat (first | exact trivial | refine ⟨rfl, ?_⟩)) : Ho M0 H0 own X Γ (tSeq (tFor wi g tb) u) D := by
  refine ho_seq (ho_le h0 (ho_for (D := { D with nx := u D }) as enc (fun k Γ1 => ∃ s, I k s ∧ Γ1 = Γs s) hI ⟨s0, i0, rfl⟩ (fun M1 H1 bl k a Γ1 ha hj => ?_) fun Γ1 hj => ?_))
  · obtain ⟨s, hs1, rfl⟩ := hj
    obtain ⟨Γ2, h1, h2⟩ := hs M1 H1 bl k a s ha hs1
    exact ⟨Γ2, h1, h2 _ fun s' h' => ⟨s', h', rfl⟩⟩
  · obtain ⟨s, hs1, rfl⟩ := hj
    exact hd s hs1
end
theorem SOk.plen {g : SG} (h : SOk g) {k : Nat} {r : Sym × List Sym} (e : g[k]? = some r) : r.2.length ≤ 6 := h.h6 r (List.mem_of_getElem? e)
abbrev txD (o : Bool) (t : List Sym) : D := .str (txt o t)
theorem len_A {β : Type} (o : Bool) (enc : β → D) (l : List (Sym × β)) : (dctA o enc l).length = l.length := List.length_map _
/-- the order of texts of letters -/
theorem lt_txt {o : Bool} : ∀ {x y : List Sym}, (∀ z ∈ x, isL z = true) → (∀ z ∈ y, isL z = true) → (x.map (cd o) < y.map (cd o) ↔ x.map idx < y.map idx)
  | [], [], _, _ => by simp
  | [], _ :: _, _, _ => by simp
  | _ :: _, [], _, _ => by simp
  | p :: x, q :: y, h1, h2 => by
    have ih := lt_txt (o := o) (x := x) (y := y) (fun z hz => h1 z (by simp [hz])) (fun z hz => h2 z (by simp [hz]))
    have hp := isN_of_isL (h1 p (by simp))
    have hq := isN_of_isL (h2 q (by simp))
    have e : cd o p = cd o q ↔ idx p = idx q := by
      constructor
      · intro h
        have a1 := cd_lt (o := o) hp hq
        have a2 := cd_lt (o := o) hq hp
        omega
      · intro h
        rw [idx_inj h]
    simp only [List.map_cons, List.cons_lt_cons_iff, ih, cd_lt hp hq, e]
theorem ltIS_txt {o : Bool} {x y : List Sym} (hx : ∀ z ∈ x, isL z = true) (hy : ∀ z ∈ y, isL z = true) : ltIS ((txt o x).length : Int) (txt o x) ((txt o y).length : Int) (txt o y) = lessL x y := by
  unfold ltIS lessL
  rw [txt_len, txt_len]
  have e : decide ((txt o x).cps.toList < (txt o y).cps.toList) = decide (x.map idx < y.map idx) := by
    rw [decide_eq_decide]
    exact lt_txt hx hy
  rw [e]
  by_cases h : x.length = y.length
  · rw [if_pos h, if_pos (by rw [h])]
  · rw [if_neg h, if_neg (by omega)]
    rw [decide_eq_decide]
    omega
section
variable {P : Program} {w : World} {K : PySem.W.Frag} {mg : Str → Option Value} {base : Heap}
inductive R_makes_by : List D → D → Prop | mk (o : Bool) (g : SG) (n : Nat) (z : List Sym × Bool) (sok : SOk g) (h : MkW okM g n z) : R_makes_by [encSG o g] (.lst ((marked g z.1).map (es o)))
theorem cal_makes_by (T : Txt K mg) : Cal P w K mg base 2 "makes_by" ["grammar"] (spF R_makes_by) := by
  have C_names_by := cal_names_by (P := P) (w := w) (base := base) T
  have C_is_letter := cal_is_letter (P := P) (w := w) (base := base) T
  refine T.d_makes_by.cal sc_makes_by [1] (by simp) (fun ds d h => by cases h; rfl) fun f cdv A outer s H E hr => ?_
  have hu := hu_of hr
  refine ⟨_, (pss_cons (ps_set (i := 1) sc_makes_by.nd rfl (.inr rfl) pe_dnewK)
      (pss_cons (ps_set (i := 2) sc_makes_by.nd rfl (.inl rfl) pe_bl)
      (pss_cons (ps_while PassesOwn.never (pt_val (pv 2))
      (pss_cons (ps_set (i := 2) sc_makes_by.nd rfl (.inl rfl) pe_bl)
      (pss_one (ps_for PassesOwn.never rfl (pi_list (pv 0)) (pg_tup rfl (pgs_cons (pg_name (i := 3) sc_makes_by.nd rfl (.inl rfl)) (pgs_cons (pg_name (i := 4) sc_makes_by.nd rfl (.inl rfl)) pgs_nil)))
      (pss_one (ps_if (PW.pt (pw_and (pt_cmp (pc_dnotin hu (pv 3) (pv 1))) (pw_and1 (pt_val (pe_callB (cr_all rfl) (by rfl) T.b_all (by decide +kernel) (pa_cons (pe_lc (own := [("part", 5)]) (g := (gName 5)) (tt := tYes) (te := (tOrV (tCall (spF R_is_letter) [] E0 (tCons (tVar 5) tNil)) (tDIn (tVar 5) (tVar 1)))) rfl sc_makes_by.nd (pi_tup (pv 4)) (blkOk_by (N := ["grammar", "known", "grown", "name", "parts", "part"]) (sc := defScope s_makes_by) (by decide +kernel)) (fun _ _ _ _ _ => (pg_name (i := 5) sc_makes_by.nd rfl (.inl rfl))) (fun _ _ _ _ _ => pts_nil) (fun _ _ _ _ _ => (pe_or (peC C_is_letter (hr.mono (by first | decide | omega)) (by rfl) (pa_cons (pv 5) pa_nil)) (pe_one (pe_cmp (pc_din hu (pv 5) (pv 1))))))) pa_nil)))))) (pss_cons (ps_dput hu (pv 1) (pv 3) pe_bl rfl)
      (pss_one (ps_set (i := 2) sc_makes_by.nd rfl (.inl rfl) pe_bl))) pss_nil))))))
      (pss_one (ps_ret (pe_lc (own := [("name", 3)]) (g := (gName 3)) (tt := (tB (tDIn (tVar 3) (tVar 1)))) (te := (tVar 3)) rfl sc_makes_by.nd (pi_list (peC C_names_by (hr.mono (by first | decide | omega)) (by rfl) (pa_cons (pv 0) pa_nil))) (blkOk_by (N := ["grammar", "known", "grown", "name", "parts", "part"]) (sc := defScope s_makes_by) (by decide +kernel)) (fun _ _ _ _ _ => (pg_name (i := 3) sc_makes_by.nd rfl (.inl rfl))) (fun _ _ _ _ _ => (pts_one (pt_cmp (pc_din hu (pv 3) (pv 1))))) (fun _ _ _ _ _ => (pv 3)))))))), fun ds d h M0 H0 Q q => ?_⟩
  cases h
  case mk o g n z sok h =>
  refine hs_own (en_flat ef_dnew rfl) (hs_set (ev_imm ed_cbl rfl) (hs_while (fun s : List Sym × Bool => [some (encSG o g), some (.dct (setD o s.1)), some (.bl s.2), none, none, none]) (fun s => s.1.Nodup) h List.nodup_nil (fun s h1 _ => mkFold_nd g _ h1) (fun s _ => ett (et_B (ed_var rfl))) (fun s JJ h1 h2 hJ => ?_) fun h1 _ => ?_))
  · refine hs_set (ev_imm ed_cbl rfl) (ho_forE g (encSR o) (fun k => [some (encSG o g), some (.dct (setD o ((g.take k).foldl (mkStep okM) (s.1, false)).1)), some (.bl ((g.take k).foldl (mkStep okM) (s.1, false)).2), none, none, none]) (ei_list (ds := g.map (encSR o)) (ed_var rfl)) (fun M1 H1 bl k r hr => ⟨_, tg_tup2 (by simp) (by simp) (lt_b rfl) (lt_b rfl), ?_⟩) ?_)
    · rw [fold_take hr]
      have hnd := mkFold_nd (ok := okM) (g.take k) (s.1, false) h1
      generalize (g.take k).foldl (mkStep okM) (s.1, false) = s' at *
      have hp := sok.plen hr
      refine ho_when (b := !decide (r.1 ∈ s'.1) && okM s'.1 r.2) (ett (et_and (et_B (ed_dnotins (ed_var rfl) (ed_var rfl))) fun _ => et_B (ed_allLc r.2 (es o) (fun p => isL p || decide (p ∈ s'.1)) (ei_tup (ed_var rfl)) (by omega) fun p hp => ⟨_, ts_name (by simp), ed_orV (ed_call (ea_cons (ed_var rfl) ea_nil) (r_isL o p)) fun _ => ed_dins (ed_var rfl) (ed_var rfl)⟩))) (fun e => ?_) fun e => ?_
      · refine hs_dput rfl (ev_imm ed_cbl rfl) (ed_var rfl) (by rw [len_set]; have := sym_len hnd; omega) (ho_asg (ev_imm ed_cbl rfl) (tg_name (by simp) (lt_b rfl)) ?_)
        rw [putD_set]
        unfold mkStep
        rw [if_pos e]
        exact nx_to
      · unfold mkStep
        rw [if_neg (by rw [e]; decide)]
        exact nx_to
    · rw [List.take_length]
      exact nx_sj (LeG.refl _) hJ
  · exact ho_ret (ev_flat (ef_lc (namesS g) (es o) (fun x => decide (x ∈ z.1)) (es o) (ei_list (ed_call (ea_cons (ed_var rfl) ea_nil) (R_names_by.mk o g))) (by have := namesS_len g; omega) fun x _ => ⟨_, ts_name (by simp), et_B (ed_dins (ed_var rfl) (ed_var rfl)), fun _ => ed_var rfl⟩) (imms_es o _)) q
inductive R_makes : List D → D → Prop | mk (o : Bool) (g : SG) (n : Nat) (z : List Sym × Bool) (sok : SOk g) (h : MkW okM g n z) : R_makes [encSG o g] (.lst ((marked g z.1).map (es o)))
theorem cal_makes (T : Txt K mg) : Cal P w K mg base 5 "makes" ["grammar"] (spF R_makes) := by
  have C_must_be_grammar := cal_must_be_grammar (P := P) (w := w) (base := base) T
  have C_makes_by := cal_makes_by (P := P) (w := w) (base := base) T
  refine T.d_makes.cal sc_makes [] (by simp) (fun ds d h => by cases h; rfl) fun f cdv A outer s H E hr => ?_
  refine ⟨_, (pss_cons (ps_expr (peC C_must_be_grammar (hr.mono (by first | decide | omega)) (by rfl) (pa_cons (pv 0) pa_nil)))
      (pss_one (ps_ret (peC C_makes_by (hr.mono (by first | decide | omega)) (by rfl) (pa_cons (pv 0) pa_nil))))), fun ds d h M0 H0 Q q => ?_⟩
  cases h
  case mk o g n z sok h =>
  exact hs_drop (ev_all (ed_call (ea_cons (ed_var rfl) ea_nil) (R_must_be_grammar.mk o g sok))) (ho_ret (ev_all (ed_call (ea_cons (ed_var rfl) ea_nil) (R_makes_by.mk o g n z sok h))) q)

inductive R_empties_by : List D → D → Prop | mk (o : Bool) (g : SG) (n : Nat) (z : List Sym × Bool) (sok : SOk g) (h : MkW okE g n z) : R_empties_by [encSG o g] (.lst ((marked g z.1).map (es o)))
theorem cal_empties_by (T : Txt K mg) : Cal P w K mg base 2 "empties_by" ["grammar"] (spF R_empties_by) := by
  have C_names_by := cal_names_by (P := P) (w := w) (base := base) T
  refine T.d_empties_by.cal sc_empties_by [1] (by simp) (fun ds d h => by cases h; rfl) fun f cdv A outer s H E hr => ?_
  have hu := hu_of hr
  refine ⟨_, (pss_cons (ps_set (i := 1) sc_empties_by.nd rfl (.inr rfl) pe_dnewK)
      (pss_cons (ps_set (i := 2) sc_empties_by.nd rfl (.inl rfl) pe_bl)
      (pss_cons (ps_while PassesOwn.never (pt_val (pv 2))
      (pss_cons (ps_set (i := 2) sc_empties_by.nd rfl (.inl rfl) pe_bl)
      (pss_one (ps_for PassesOwn.never rfl (pi_list (pv 0)) (pg_tup rfl (pgs_cons (pg_name (i := 3) sc_empties_by.nd rfl (.inl rfl)) (pgs_cons (pg_name (i := 4) sc_empties_by.nd rfl (.inl rfl)) pgs_nil)))
      (pss_one (ps_if (PW.pt (pw_and (pt_cmp (pc_dnotin hu (pv 3) (pv 1))) (pw_and1 (pt_val (pe_callB (cr_all rfl) (by rfl) T.b_all (by decide +kernel) (pa_cons (pe_lc (own := [("part", 5)]) (g := (gName 5)) (tt := tYes) (te := (tDIn (tVar 5) (tVar 1))) rfl sc_empties_by.nd (pi_tup (pv 4)) (blkOk_by (N := ["grammar", "known", "grown", "name", "parts", "part"]) (sc := defScope s_empties_by) (by decide +kernel)) (fun _ _ _ _ _ => (pg_name (i := 5) sc_empties_by.nd rfl (.inl rfl))) (fun _ _ _ _ _ => pts_nil) (fun _ _ _ _ _ => (pe_cmp (pc_din hu (pv 5) (pv 1))))) pa_nil)))))) (pss_cons (ps_dput hu (pv 1) (pv 3) pe_bl rfl)
      (pss_one (ps_set (i := 2) sc_empties_by.nd rfl (.inl rfl) pe_bl))) pss_nil))))))
      (pss_one (ps_ret (pe_lc (own := [("name", 3)]) (g := (gName 3)) (tt := (tB (tDIn (tVar 3) (tVar 1)))) (te := (tVar 3)) rfl sc_empties_by.nd (pi_list (peC C_names_by (hr.mono (by first | decide | omega)) (by rfl) (pa_cons (pv 0) pa_nil))) (blkOk_by (N := ["grammar", "known", "grown", "name", "parts", "part"]) (sc := defScope s_empties_by) (by decide +kernel)) (fun _ _ _ _ _ => (pg_name (i := 3) sc_empties_by.nd rfl (.inl rfl))) (fun _ _ _ _ _ => (pts_one (pt_cmp (pc_din hu (pv 3) (pv 1))))) (fun _ _ _ _ _ => (pv 3)))))))), fun ds d h M0 H0 Q q => ?_⟩
  cases h
  case mk o g n z sok h =>
  refine hs_own (en_flat ef_dnew rfl) (hs_set (ev_imm ed_cbl rfl) (hs_while (fun s : List Sym × Bool => [some (encSG o g), some (.dct (setD o s.1)), some (.bl s.2), none, none, none]) (fun s => s.1.Nodup) h List.nodup_nil (fun s h1 _ => mkFold_nd g _ h1) (fun s _ => ett (et_B (ed_var rfl))) (fun s JJ h1 h2 hJ => ?_) fun h1 _ => ?_))
  · refine hs_set (ev_imm ed_cbl rfl) (ho_forE g (encSR o) (fun k => [some (encSG o g), some (.dct (setD o ((g.take k).foldl (mkStep okE) (s.1, false)).1)), some (.bl ((g.take k).foldl (mkStep okE) (s.1, false)).2), none, none, none]) (ei_list (ds := g.map (encSR o)) (ed_var rfl)) (fun M1 H1 bl k r hr => ⟨_, tg_tup2 (by simp) (by simp) (lt_b rfl) (lt_b rfl), ?_⟩) ?_)
    · rw [fold_take hr]
      have hnd := mkFold_nd (ok := okE) (g.take k) (s.1, false) h1
      generalize (g.take k).foldl (mkStep okE) (s.1, false) = s' at *
      have hp := sok.plen hr
      refine ho_when (b := !decide (r.1 ∈ s'.1) && okE s'.1 r.2) (ett (et_and (et_B (ed_dnotins (ed_var rfl) (ed_var rfl))) fun _ => et_B (ed_allLc r.2 (es o) (fun p => decide (p ∈ s'.1)) (ei_tup (ed_var rfl)) (by omega) fun p hp => ⟨_, ts_name (by simp), ed_dins (ed_var rfl) (ed_var rfl)⟩))) (fun e => ?_) fun e => ?_
      · refine hs_dput rfl (ev_imm ed_cbl rfl) (ed_var rfl) (by rw [len_set]; have := sym_len hnd; omega) (ho_asg (ev_imm ed_cbl rfl) (tg_name (by simp) (lt_b rfl)) ?_)
        rw [putD_set]
        unfold mkStep
        rw [if_pos e]
        exact nx_to
      · unfold mkStep
        rw [if_neg (by rw [e]; decide)]
        exact nx_to
    · rw [List.take_length]
      exact nx_sj (LeG.refl _) hJ
  · exact ho_ret (ev_flat (ef_lc (namesS g) (es o) (fun x => decide (x ∈ z.1)) (es o) (ei_list (ed_call (ea_cons (ed_var rfl) ea_nil) (R_names_by.mk o g))) (by have := namesS_len g; omega) fun x _ => ⟨_, ts_name (by simp), et_B (ed_dins (ed_var rfl) (ed_var rfl)), fun _ => ed_var rfl⟩) (imms_es o _)) q
inductive R_empties : List D → D → Prop | mk (o : Bool) (g : SG) (n : Nat) (z : List Sym × Bool) (sok : SOk g) (h : MkW okE g n z) : R_empties [encSG o g] (.lst ((marked g z.1).map (es o)))
theorem cal_empties (T : Txt K mg) : Cal P w K mg base 5 "empties" ["grammar"] (spF R_empties) := by
  have C_must_be_grammar := cal_must_be_grammar (P := P) (w := w) (base := base) T
  have C_empties_by := cal_empties_by (P := P) (w := w) (base := base) T
  refine T.d_empties.cal sc_empties [] (by simp) (fun ds d h => by cases h; rfl) fun f cdv A outer s H E hr => ?_
  refine ⟨_, (pss_cons (ps_expr (peC C_must_be_grammar (hr.mono (by first | decide | omega)) (by rfl) (pa_cons (pv 0) pa_nil)))
      (pss_one (ps_ret (peC C_empties_by (hr.mono (by first | decide | omega)) (by rfl) (pa_cons (pv 0) pa_nil))))), fun ds d h M0 H0 Q q => ?_⟩
  cases h
  case mk o g n z sok h =>
  exact hs_drop (ev_all (ed_call (ea_cons (ed_var rfl) ea_nil) (R_must_be_grammar.mk o g sok))) (ho_ret (ev_all (ed_call (ea_cons (ed_var rfl) ea_nil) (R_empties_by.mk o g n z sok h))) q)

inductive R_reached_from : List D → D → Prop | mk (o : Bool) (rs : SG) (x : Sym) (n : Nat) (z : List Sym × List Sym) (h : RcW rs x n z) : R_reached_from [encSG o rs, es o x] (.dct (setD o z.1))
theorem cal_reached_from (T : Txt K mg) : Cal P w K mg base 2 "reached_from" ["rules", "name"] (spF R_reached_from) := by
  have C_is_letter := cal_is_letter (P := P) (w := w) (base := base) T
  refine T.d_reached_from.cal sc_reached_from [2, 3] (by simp) (fun ds d h => by cases h; rfl) fun f cdv A outer s H E hr => ?_
  have hu := hu_of hr
  refine ⟨_, (pss_cons (ps_set (i := 2) sc_reached_from.nd rfl (.inl rfl) pe_dnewK)
      (pss_cons (ps_dput hu (pv 2) (pv 1) pe_bl rfl)
      (pss_cons (ps_set (i := 3) sc_reached_from.nd rfl (.inl rfl) (pe_lst (pa_cons (pv 1) pa_nil)))
      (pss_cons (ps_while PassesOwn.never (pt_truth (pv 3) (by intro _; rfl))
      (pss_cons (ps_set (i := 4) sc_reached_from.nd rfl (.inl rfl) (pe_bm0 PySem.F.plainAttrs_list PySem.F.slot_list_pop PySem.F.type_list_pop mt_pop (pv 3)))
      (pss_one (ps_for PassesOwn.never rfl (pi_list (pv 0)) (pg_tup rfl (pgs_cons (pg_name (i := 5) sc_reached_from.nd rfl (.inl rfl)) (pgs_cons (pg_name (i := 6) sc_reached_from.nd rfl (.inl rfl)) pgs_nil)))
      (pss_one (ps_if (pt_cmpR op_eq (pv 5) (pv 4) (nomark _)) (pss_one (ps_for PassesOwn.never rfl (pi_tup (pv 6)) (pg_name (i := 7) sc_reached_from.nd rfl (.inl rfl))
      (pss_one (ps_if (PW.pt (pw_and (pt_not (pt_val (peC C_is_letter (hr.mono (by first | decide | omega)) (by rfl) (pa_cons (pv 7) pa_nil)))) (pw_and1 (pt_cmp (pc_dnotin hu (pv 7) (pv 2)))))) (pss_cons (ps_dput hu (pv 2) (pv 7) pe_bl rfl)
      (pss_one (ps_expr (pe_bm PySem.F.plainAttrs_list PySem.F.slot_list_append PySem.F.type_list_append mt_append (pv 3) (pa_cons (pv 7) pa_nil))))) pss_nil)))) pss_nil))))))
      (pss_one (ps_ret (pv 2))))))), fun ds d h M0 H0 Q q => ?_⟩
  cases h
  case mk o rs x n z h =>
  refine hs_own (en_flat ef_dnew rfl) (hs_dput (ks := []) rfl (ev_imm ed_cbl rfl) (ed_var rfl) (by decide) ?_)
  have e0 : putD [] (em o x) (.bl true) = setD o [x] := putD_set o x []
  rw [e0]
  refine hs_own (en_flat (ef_lst (ea_cons (ed_var rfl) ea_nil) (le_b rfl)) rfl) (hs_while (fun s : List Sym × List Sym => [some (encSG o rs), some (es o x), some (.dct (setD o s.1)), some (.lst (s.2.map (es o))), none, none, none, none]) RcI h ⟨by simp, by simp, by simp⟩ (fun s h1 _ => rcPass_I h1) (fun s _ => ett ((et_truL (ds := s.2.map (es o)) (ed_var rfl)).is (by simp))) (fun s JJ h1 h2 hJ => ?_) fun h1 _ => ?_)
  · obtain ⟨hh, eh⟩ : ∃ hh, s.2.getLast? = some hh := by
      cases e : s.2.getLast? with
      | none =>
        rw [List.getLast?_eq_none_iff] at e
        rw [e] at h2
        cases h2
      | some v => exact ⟨v, rfl⟩
    have e2 : s.2 = s.2.dropLast ++ [hh] := by
      obtain ⟨l, hl⟩ := List.getLast?_eq_some_iff.mp eh
      rw [hl]
      simp
    have e3 : s.2.map (es o) = s.2.dropLast.map (es o) ++ [es o hh] := by rw [e2]; simp
    rw [e3]
    have hp := rcPop_I h1
    have eP : rcPass rs s = rs.foldl (rcRule hh) (s.1, s.2.dropLast) := by unfold rcPass; rw [eh]
    rw [eP] at hJ
    refine hs_pop rfl (ho_forE rs (encSR o) (fun k => [some (encSG o rs), some (es o x), some (.dct (setD o ((rs.take k).foldl (rcRule hh) (s.1, s.2.dropLast)).1)), some (.lst (((rs.take k).foldl (rcRule hh) (s.1, s.2.dropLast)).2.map (es o))), some (es o hh), none, none, none]) (ei_list (ds := rs.map (encSR o)) (ed_var rfl)) (fun M1 H1 bl k r hr => ⟨_, tg_tup2 (by simp [List.mem_cons]) (by simp) (lt_b rfl) (lt_b rfl), ?_⟩) ?_)
    · rw [fold_take hr]
      have hI := rcRules_I (here := hh) (rs.take k) _ hp
      generalize (rs.take k).foldl (rcRule hh) (s.1, s.2.dropLast) = s' at *
      refine ho_when (ett (et_test (ed_eqs (ed_var rfl) (ed_var rfl)))) (fun e => ?_) fun e => ?_
      · simp only [decide_eq_true_eq] at e
        unfold rcRule
        rw [if_pos e]
        refine ho_forE r.2 (es o) (fun j => [some (encSG o rs), some (es o x), some (.dct (setD o ((r.2.take j).foldl rcIn s').1)), some (.lst (((r.2.take j).foldl rcIn s').2.map (es o))), some (es o hh), some (es o r.1), some (.tup (r.2.map (es o))), none]) (ei_tup (ed_var rfl)) (fun M2 H2 bl2 j p hp => ⟨_, tg_name (by simp) (lt_b rfl), ?_⟩) ?_
        · rw [fold_take hp]
          have hI2 := rcFold_I (r.2.take j) _ hI
          generalize (r.2.take j).foldl rcIn s' = s2 at *
          refine ho_when (b := !isL p && !decide (p ∈ s2.1)) (ett (et_and (et_not (et_B (ed_call (ea_cons (ed_var rfl) ea_nil) (r_isL o p)))) fun _ => et_B (ed_dnotins (ed_var rfl) (ed_var rfl)))) (fun e => ?_) fun e => ?_
          · refine hs_dput rfl (ev_imm ed_cbl rfl) (ed_var rfl) (by rw [len_set]; have := sym_len hI2.nd; omega) (ho_app (in_b rfl) rfl (ev_imm (ed_var rfl) rfl) (by rw [List.length_map]; have := sym_len hI2.nd2; omega) ?_)
            rw [putD_set]
            unfold rcIn
            rw [if_pos e, List.map_append]
            exact nx_to
          · unfold rcIn
            rw [if_neg (by rw [e]; decide)]
            exact nx_to
        · rw [List.take_length]
          exact nx_to
      · simp only [decide_eq_false_iff_not] at e
        unfold rcRule
        rw [if_neg e]
        exact nx_to
    · rw [List.take_length]
      exact nx_sj (by repeat (first | exact trivial | refine ⟨rfl, ?_⟩)) hJ
  · exact ho_freeze 2 (own' := [3]) (by intro j; simp; omega) (ho_freeze 3 (own' := []) (by simp) (ho_ret (ev_all (ed_var rfl)) q))

inductive R_reached : List D → D → Prop | mk (o : Bool) (g : SG) (n : Nat) (z : List Sym × List Sym) (sok : SOk g) (h : RcW g (first g) n z) : R_reached [encSG o g] (.lst ((marked g z.1).map (es o)))
theorem cal_reached (T : Txt K mg) : Cal P w K mg base 5 "reached" ["grammar"] (spF R_reached) := by
  have C_must_be_grammar := cal_must_be_grammar (P := P) (w := w) (base := base) T
  have C_reached_from := cal_reached_from (P := P) (w := w) (base := base) T
  have C_names_by := cal_names_by (P := P) (w := w) (base := base) T
  refine T.d_reached.cal sc_reached [] (by simp) (fun ds d h => by cases h; rfl) fun f cdv A outer s H E hr => ?_
  have hu := hu_of hr
  refine ⟨_, (pss_cons (ps_expr (peC C_must_be_grammar (hr.mono (by first | decide | omega)) (by rfl) (pa_cons (pv 0) pa_nil)))
      (pss_cons (ps_set (i := 1) sc_reached.nd rfl (.inr rfl) (peC C_reached_from (hr.mono (by first | decide | omega)) (by rfl) (pa_cons (pv 0) (pa_cons (pe_ix ix_tup (pe_ix ix_list (pv 0) pe_int (fun _ _ => rfl)) pe_int (fun _ _ => rfl)) pa_nil))))
      (pss_one (ps_ret (pe_lc (own := [("name", 2)]) (g := (gName 2)) (tt := (tB (tDIn (tVar 2) (tVar 1)))) (te := (tVar 2)) rfl sc_reached.nd (pi_list (peC C_names_by (hr.mono (by first | decide | omega)) (by rfl) (pa_cons (pv 0) pa_nil))) (blkOk_by (N := ["grammar", "known", "name"]) (sc := defScope s_reached) (by decide +kernel)) (fun _ _ _ _ _ => (pg_name (i := 2) sc_reached.nd rfl (.inl rfl))) (fun _ _ _ _ _ => (pts_one (pt_cmp (pc_din hu (pv 2) (pv 1))))) (fun _ _ _ _ _ => (pv 2))))))), fun ds d h M0 H0 Q q => ?_⟩
  cases h
  case mk o g n z sok h =>
  exact hs_drop (ev_all (ed_call (ea_cons (ed_var rfl) ea_nil) (R_must_be_grammar.mk o g sok))) (hs_set (ev_all (ed_call (ea_cons (ed_var rfl) (ea_cons (ed_grammar0 (ed_var rfl) sok.ne) ea_nil)) (R_reached_from.mk o g (first g) n z h)))
    (ho_ret (ev_all (ef_lc (namesS g) (es o) (fun x => decide (x ∈ z.1)) (es o) (ei_list (ed_call (ea_cons (ed_var rfl) ea_nil) (R_names_by.mk o g))) (by have := namesS_len g; omega) fun x _ => ⟨_, ts_name (by simp), et_B (ed_dins (ed_var rfl) (ed_var rfl)), fun _ => ed_var rfl⟩).ed) q))

inductive R_useful_rules : List D → D → Prop | mk (o : Bool) (g : SG) (n : Nat) (z : List Sym × Bool) (sok : SOk g) (h : MkW okM g n z) : R_useful_rules [encSG o g] (encSG o (useful g (marked g z.1)))
theorem cal_useful_rules (T : Txt K mg) : Cal P w K mg base 3 "useful_rules" ["grammar"] (spF R_useful_rules) := by
  have C_makes_by := cal_makes_by (P := P) (w := w) (base := base) T
  have C_is_letter := cal_is_letter (P := P) (w := w) (base := base) T
  refine T.d_useful_rules.cal sc_useful_rules [] (by simp) (fun ds d h => by cases h; rfl) fun f cdv A outer s H E hr => ?_
  refine ⟨_, (pss_cons (ps_set (i := 1) sc_useful_rules.nd rfl (.inr rfl) (peC C_makes_by (hr.mono (by first | decide | omega)) (by rfl) (pa_cons (pv 0) pa_nil)))
      (pss_one (ps_ret (pe_lc (own := [("rule", 2)]) (g := (gName 2)) (tt := (tB (tCB (rAll K) (tCons (tLc (iTup K (tOp (rIxT K) (tVar 2) (tC (.int 1)))) (gName 3) tYes (tOrV (tCall (spF R_is_letter) [] E0 (tCons (tVar 3) tNil)) (tOp (rIn K false) (tVar 3) (tVar 1))) [3]) tNil)))) (te := (tVar 2)) rfl sc_useful_rules.nd (pi_list (pv 0)) (blkOk_by (N := ["grammar", "made", "rule", "part"]) (sc := defScope s_useful_rules) (by decide +kernel)) (fun _ _ _ _ _ => (pg_name (i := 2) sc_useful_rules.nd rfl (.inl rfl))) (fun _ _ _ _ _ => (pts_one (pt_val (pe_callB (cr_all rfl) (by rfl) T.b_all (by decide +kernel) (pa_cons (pe_lc (own := [("part", 3)]) (g := (gName 3)) (tt := tYes) (te := (tOrV (tCall (spF R_is_letter) [] E0 (tCons (tVar 3) tNil)) (tOp (rIn K false) (tVar 3) (tVar 1)))) rfl sc_useful_rules.nd (pi_tup (pe_ix ix_tup (pv 2) pe_int (fun _ _ => rfl))) (blkOk_by (N := ["grammar", "made", "rule", "part"]) (sc := relS (({ kind := .function, names := [(".0", .local), ("rule", .local), ("all", .globalImplicit), ("made", .free)], isGenerator := false, isCoroutine := false, more := [] } : Scope)) (defScope s_useful_rules)) (by decide +kernel)) (fun _ _ _ _ _ => (pg_name (i := 3) sc_useful_rules.nd rfl (.inl rfl))) (fun _ _ _ _ _ => pts_nil) (fun _ _ _ _ _ => (pe_or (peC C_is_letter (hr.mono (by first | decide | omega)) (by rfl) (pa_cons (pv 3) pa_nil)) (pe_one (pe_cmpR op_in_seq (pv 3) (pv 1) rfl))))) pa_nil))))) (fun _ _ _ _ _ => (pv 2)))))), fun ds d h M0 H0 Q q => ?_⟩
  cases h
  case mk o g n z sok h =>
  refine hs_set (ev_all (ed_call (ea_cons (ed_var rfl) ea_nil) (R_makes_by.mk o g n z sok h))) (ho_ret (ev_all (ef_lc g (encSR o) (fun r => okM (marked g z.1) r.2) (encSR o) (ei_list (ds := g.map (encSR o)) (ed_var rfl)) (by have := sok.len; omega) fun r hr => ⟨_, ts_name (by simp), et_B (ed_allLc r.2 (es o) (fun p => isL p || decide (p ∈ marked g z.1)) (ei_tup (ed_ixT (j := 1) (ds := [es o r.1, .tup (r.2.map (es o))]) (ed_var rfl) ed_cint rfl rfl)) (by have := sok.h6 r hr; omega) fun p hp => ⟨_, ts_name (by simp), ed_orV (ed_call (ea_cons (ed_var rfl) ea_nil) (r_isL o p)) fun _ => ed_inLs (ed_var rfl) (ed_var rfl)⟩), fun _ => ed_var rfl⟩).ed) q)

/-! least texts -/
inductive R_least_by : List D → D → Prop | mk (o : Bool) (g : SG) (n : Nat) (z : List (Sym × List Sym) × Bool) (sok : SOk g) (h : LeW g n z) : R_least_by [encSG o g] (.dct (dctA o (txD o) z.1))
theorem okF_at {β : Type} {f : List (Sym × β)} {ps : List Sym} (h : okF f ps = true) {p : Sym} (hp : p ∈ ps) (hl : isL p = false) : ∃ t, getA f p = some t := by
  unfold okF at h
  have := List.all_eq_true.mp h p hp
  rw [hl, Bool.false_or] at this
  exact Option.isSome_iff_exists.mp this
theorem es_txt {o : Bool} {p : Sym} (h : isL p = true) : es o p = .str (txt o [p]) := by rw [txt_one (isN_of_isL h)]
theorem cal_least_by (T : Txt K mg) : Cal P w K mg base 2 "least_by" ["grammar"] (spF R_least_by) := by
  have C_is_letter := cal_is_letter (P := P) (w := w) (base := base) T
  refine T.d_least_by.cal sc_least_by [1] (by simp) (fun ds d h => by cases h; rfl) fun f cdv A outer s H E hr => ?_
  have hu := hu_of hr
  refine ⟨_, (pss_cons (ps_set (i := 1) sc_least_by.nd rfl (.inr rfl) pe_dnewK)
      (pss_cons (ps_set (i := 2) sc_least_by.nd rfl (.inl rfl) pe_bl)
      (pss_cons (ps_while PassesOwn.never (pt_val (pv 2))
      (pss_cons (ps_set (i := 2) sc_least_by.nd rfl (.inl rfl) pe_bl)
      (pss_one (ps_for PassesOwn.never rfl (pi_list (pv 0)) (pg_tup rfl (pgs_cons (pg_name (i := 3) sc_least_by.nd rfl (.inl rfl)) (pgs_cons (pg_name (i := 4) sc_least_by.nd rfl (.inl rfl)) pgs_nil)))
      (pss_one (ps_if (pt_val (pe_callB (cr_all rfl) (by rfl) T.b_all (by decide +kernel) (pa_cons (pe_lc (own := [("part", 6)]) (g := (gName 6)) (tt := tYes) (te := (tOrV (tCall (spF R_is_letter) [] E0 (tCons (tVar 6) tNil)) (tDIn (tVar 6) (tVar 1)))) rfl sc_least_by.nd (pi_tup (pv 4)) (blkOk_by (N := ["grammar", "found", "grown", "name", "parts", "text", "part"]) (sc := defScope s_least_by) (by decide +kernel)) (fun _ _ _ _ _ => (pg_name (i := 6) sc_least_by.nd rfl (.inl rfl))) (fun _ _ _ _ _ => pts_nil) (fun _ _ _ _ _ => (pe_or (peC C_is_letter (hr.mono (by first | decide | omega)) (by rfl) (pa_cons (pv 6) pa_nil)) (pe_one (pe_cmp (pc_din hu (pv 6) (pv 1))))))) pa_nil))) (pss_cons (ps_set (i := 5) sc_least_by.nd rfl (.inl rfl) (pe_join pe_str (pe_lc (own := [("part", 6)]) (g := (gName 6)) (tt := tYes) (te := (tIf (tB (tCall (spF R_is_letter) [] E0 (tCons (tVar 6) tNil))) (tVar 6) (tDGet (tVar 1) (tVar 6)))) rfl sc_least_by.nd (pi_tup (pv 4)) (blkOk_by (N := ["grammar", "found", "grown", "name", "parts", "text", "part"]) (sc := defScope s_least_by) (by decide +kernel)) (fun _ _ _ _ _ => (pg_name (i := 6) sc_least_by.nd rfl (.inl rfl))) (fun _ _ _ _ _ => pts_nil) (fun _ _ _ _ _ => (pe_ifExp (pt_val (peC C_is_letter (hr.mono (by first | decide | omega)) (by rfl) (pa_cons (pv 6) pa_nil))) (pv 6) (pe_dget hu (pv 1) (pv 6) (fun _ _ => rfl)))))))
      (pss_one (ps_if (PW.pt (pw_or (pt_cmp (pc_dnotin hu (pv 3) (pv 1))) (pw_or1 (pt_cmpR (op_ltIS hr.units0) (pe_tup (pa_cons (pe_callB call_len_str (by rfl) T.b_len (by decide +kernel) (pa_cons (pv 5) pa_nil)) (pa_cons (pv 5) pa_nil))) (pe_tup (pa_cons (pe_callB call_len_str (by rfl) T.b_len (by decide +kernel) (pa_cons (pe_dget hu (pv 1) (pv 3) (fun _ _ => rfl)) pa_nil)) (pa_cons (pe_dget hu (pv 1) (pv 3) (fun _ _ => rfl)) pa_nil))) (nomark _))))) (pss_cons (ps_dput hu (pv 1) (pv 3) (pv 5) rfl)
      (pss_one (ps_set (i := 2) sc_least_by.nd rfl (.inl rfl) pe_bl))) pss_nil))) pss_nil))))))
      (pss_one (ps_ret (pv 1)))))), fun ds d h M0 H0 Q q => ?_⟩
  cases h
  case mk o g n z sok h =>
  refine hs_own (en_flat ef_dnew rfl) (hs_set (ev_imm ed_cbl rfl) (hs_while (fun s : List (Sym × List Sym) × Bool => [some (encSG o g), some (.dct (dctA o (txD o) s.1)), some (.bl s.2), none, none, none, none]) (fun s => LI s.1) h LI.nil (fun s h1 _ => leFold_I g _ sok.ruleOk h1) (fun s _ => ett (et_B (ed_var rfl))) (fun s JJ h1 h2 hJ => ?_) fun h1 _ => ?_))
  · refine hs_set (ev_imm ed_cbl rfl) (ho_forE g (encSR o) (fun k => [some (encSG o g), some (.dct (dctA o (txD o) ((g.take k).foldl leStep (s.1, false)).1)), some (.bl ((g.take k).foldl leStep (s.1, false)).2), none, none, none, none]) (ei_list (ds := g.map (encSR o)) (ed_var rfl)) (fun M1 H1 bl k r hr => ⟨_, tg_tup2 (by simp) (by simp) (lt_b rfl) (lt_b rfl), ?_⟩) ?_)
    · rw [fold_take hr]
      have hI := leFold_I (g.take k) (s.1, false) (fun r hr => sok.ruleOk r (List.mem_of_mem_take hr)) h1
      generalize (g.take k).foldl leStep (s.1, false) = s' at *
      have hp := sok.plen hr
      refine ho_when (b := okF s'.1 r.2) (ett (et_B (ed_allLc r.2 (es o) (fun p => isL p || (getA s'.1 p).isSome) (ei_tup (ed_var rfl)) (by omega) fun p hp => ⟨_, ts_name (by simp), ed_orV (ed_call (ea_cons (ed_var rfl) ea_nil) (r_isL o p)) fun _ => ed_dinA (ed_var rfl) (ed_var rfl)⟩))) (fun e => ?_) fun e => ?_
      · have sz := subT_300 hI hp
        refine hs_set (d := .str (txt o (subT s'.1 r.2))) (ev_imm ((ed_join (ss := (r.2.map (sub1 s'.1)).map (txt o)) ed_cstr ((ef_lcM r.2 (es o) (fun p => .str (txt o (sub1 s'.1 p))) (ei_tup (ed_var rfl)) (by omega) fun p hp => ⟨_, ts_name (by simp), ed_if (et_B (ed_call (ea_cons (ed_var rfl) ea_nil) (r_isL o p))) (fun e1 => ?_) fun e1 => ?_⟩).ed.is ?_) ?_).is ?_) rfl) ?_
        · refine (ed_var rfl).is ?_
          unfold sub1
          rw [if_pos e1, es_txt e1]
        · obtain ⟨t, ht⟩ := okF_at e hp e1
          refine (ed_dgetA (enc := txD o) (ed_var rfl) (ed_var rfl) ht).is ?_
          unfold sub1
          rw [e1, if_neg (by decide), ht]
          rfl
        · rw [List.map_map, List.map_map]
          rfl
        · have e1 : ((((r.2.map (sub1 s'.1)).map (txt o)).map (·.length)).sum) = (subT s'.1 r.2).length := by
            unfold subT
            rw [List.length_flatten, List.map_map, List.map_map, List.map_map]
            congr 1
            apply List.map_congr_left
            intro t _
            exact txt_len o _
          have e2 : (("" : Str).length) = 0 := rfl
          rw [e1, e2]
          omega
        · rw [join_txt]
          rfl
        · have eI : leStep s' r = if (!(getA s'.1 r.1).isSome || lessL (subT s'.1 r.2) ((getA s'.1 r.1).getD [])) = true then (putA s'.1 r.1 (subT s'.1 r.2), true) else s' := by
            unfold leStep
            rw [if_pos e]
          rw [eI]
          refine ho_when (b := !(getA s'.1 r.1).isSome || lessL (subT s'.1 r.2) ((getA s'.1 r.1).getD [])) (ett (et_or (et_B (ed_dnotinA (ed_var rfl) (ed_var rfl))) fun hs => ?_)) (fun e3 => ?_) fun e3 => ?_
          · simp only [Bool.not_eq_false'] at hs
            obtain ⟨t, ht⟩ := Option.isSome_iff_exists.mp hs
            rw [ht, Option.getD_some]
            have ht2 : (∀ x ∈ t, isL x = true) ∧ t.length ≤ 6 ^ s'.1.length := hI.tx _ (getA_mem ht)
            have hlen := pow6 hI.len
            have gt : ∀ Γ : Gm, Γ[1]? = some (some (.dct (dctA o (txD o) s'.1))) → Γ[3]? = some (some (es o r.1)) → ED (tDGet (tVar 1) (tVar 3)) Γ (.str (txt o t)) := fun Γ h1 h2 => ed_dgetA (enc := txD o) (ed_var h1) (ed_var h2) ht
            refine (et_test ((ed_ltIS (n := ((txt o (subT s'.1 r.2)).length : Int)) (m := ((txt o t).length : Int)) (ed_tup (ea_cons (ed_lenS (ed_var rfl) (by rw [txt_len]; omega)) (ea_cons (ed_var rfl) ea_nil)) (le_b rfl)) (ed_tup (ea_cons (ed_lenS (gt _ rfl rfl) (by rw [txt_len]; omega)) (ea_cons (gt _ rfl rfl) ea_nil)) (le_b rfl))).is ?_))
            rw [ltIS_txt (subT_ok hI hp).1 ht2.1]
          · refine hs_dput (d := txD o (subT s'.1 r.2)) rfl (ev_imm (ed_var rfl) rfl) (ed_var rfl) (by rw [len_A]; have := hI.len; omega) (ho_asg (ev_imm ed_cbl rfl) (tg_name (by simp) (lt_b rfl)) ?_)
            rw [putD_A, if_pos e3]
            exact nx_to
          · rw [if_neg (by rw [e3]; decide)]
            exact nx_to
      · have eI : leStep s' r = s' := by
          unfold leStep
          rw [if_neg (by rw [e]; decide)]
        rw [eI]
        exact nx_to
    · rw [List.take_length]
      exact nx_sj (LeG.refl _) hJ
  · exact ho_freeze 1 (own' := []) (by simp) (ho_ret (ev_all (ed_var rfl)) q)
def optD (o : Bool) (x : Option (List Sym)) : D := (x.map (txD o)).getD .non
inductive R_least_text : List D → D → Prop | mk (o : Bool) (g : SG) (x : Sym) (n : Nat) (z : List (Sym × List Sym) × Bool) (sok : SOk g) (hx : x ∈ namesS g) (h : LeW g n z) : R_least_text [encSG o g, es o x] (optD o (getA z.1 x))
theorem cal_least_text (T : Txt K mg) : Cal P w K mg base 5 "least_text" ["grammar", "name"] (spF R_least_text) := by
  have C_must_be_grammar := cal_must_be_grammar (P := P) (w := w) (base := base) T
  have C_must_have := cal_must_have (P := P) (w := w) (base := base) T
  have C_least_by := cal_least_by (P := P) (w := w) (base := base) T
  refine T.d_least_text.cal sc_least_text [] (by simp) (fun ds d h => by cases h; rfl) fun f cdv A outer s H E hr => ?_
  have hu := hu_of hr
  refine ⟨_, (pss_cons (ps_expr (peC C_must_be_grammar (hr.mono (by first | decide | omega)) (by rfl) (pa_cons (pv 0) pa_nil)))
      (pss_cons (ps_expr (peC C_must_have (hr.mono (by first | decide | omega)) (by rfl) (pa_cons (pv 0) (pa_cons (pv 1) pa_nil))))
      (pss_one (ps_ret (pe_dget1 hu (peC C_least_by (hr.mono (by first | decide | omega)) (by rfl) (pa_cons (pv 0) pa_nil)) (pv 1) ⟨by rfl, by rfl, by rfl, by rfl⟩))))), fun ds d h M0 H0 Q q => ?_⟩
  cases h
  case mk o g x n z sok hx h =>
  exact hs_drop (ev_all (ed_call (ea_cons (ed_var rfl) ea_nil) (R_must_be_grammar.mk o g sok))) (hs_drop (ev_all (ed_call (ea_cons (ed_var rfl) (ea_cons (ed_var rfl) ea_nil)) (R_must_have.mk o g x hx))) (ho_ret (ev_all ((ed_dget1 (ks := dctA o (txD o) z.1) (ed_call (ea_cons (ed_var rfl) ea_nil) (R_least_by.mk o g n z sok h)) (ed_var rfl)).is (by rw [getK_A]; rfl))) q))

inductive R_lengths_by : List D → D → Prop | mk (o : Bool) (g : SG) (n : Nat) (z : List (Sym × Nat) × Bool) (sok : SOk g) (h : LnW g n z) : R_lengths_by [encSG o g] (.dct (dctA o ei z.1))
theorem cal_lengths_by (T : Txt K mg) : Cal P w K mg base 2 "lengths_by" ["grammar"] (spF R_lengths_by) := by
  have C_is_letter := cal_is_letter (P := P) (w := w) (base := base) T
  refine T.d_lengths_by.cal sc_lengths_by [1] (by simp) (fun ds d h => by cases h; rfl) fun f cdv A outer s H E hr => ?_
  have hu := hu_of hr
  refine ⟨_, (pss_cons (ps_set (i := 1) sc_lengths_by.nd rfl (.inr rfl) pe_dnewK)
      (pss_cons (ps_set (i := 2) sc_lengths_by.nd rfl (.inl rfl) pe_bl)
      (pss_cons (ps_while PassesOwn.never (pt_val (pv 2))
      (pss_cons (ps_set (i := 2) sc_lengths_by.nd rfl (.inl rfl) pe_bl)
      (pss_one (ps_for PassesOwn.never rfl (pi_list (pv 0)) (pg_tup rfl (pgs_cons (pg_name (i := 3) sc_lengths_by.nd rfl (.inl rfl)) (pgs_cons (pg_name (i := 4) sc_lengths_by.nd rfl (.inl rfl)) pgs_nil)))
      (pss_one (ps_if (pt_val (pe_callB (cr_all rfl) (by rfl) T.b_all (by decide +kernel) (pa_cons (pe_lc (own := [("part", 6)]) (g := (gName 6)) (tt := tYes) (te := (tOrV (tCall (spF R_is_letter) [] E0 (tCons (tVar 6) tNil)) (tDIn (tVar 6) (tVar 1)))) rfl sc_lengths_by.nd (pi_tup (pv 4)) (blkOk_by (N := ["grammar", "found", "grown", "name", "parts", "length", "part"]) (sc := defScope s_lengths_by) (by decide +kernel)) (fun _ _ _ _ _ => (pg_name (i := 6) sc_lengths_by.nd rfl (.inl rfl))) (fun _ _ _ _ _ => pts_nil) (fun _ _ _ _ _ => (pe_or (peC C_is_letter (hr.mono (by first | decide | omega)) (by rfl) (pa_cons (pv 6) pa_nil)) (pe_one (pe_cmp (pc_din hu (pv 6) (pv 1))))))) pa_nil))) (pss_cons (ps_set (i := 5) sc_lengths_by.nd rfl (.inl rfl) (pe_callB (cr_sum rfl) (by rfl) T.b_sum (by decide +kernel) (pa_cons (pe_lc (own := [("part", 6)]) (g := (gName 6)) (tt := tYes) (te := (tIf (tB (tCall (spF R_is_letter) [] E0 (tCons (tVar 6) tNil))) (tC (.int 1)) (tDGet (tVar 1) (tVar 6)))) rfl sc_lengths_by.nd (pi_tup (pv 4)) (blkOk_by (N := ["grammar", "found", "grown", "name", "parts", "length", "part"]) (sc := defScope s_lengths_by) (by decide +kernel)) (fun _ _ _ _ _ => (pg_name (i := 6) sc_lengths_by.nd rfl (.inl rfl))) (fun _ _ _ _ _ => pts_nil) (fun _ _ _ _ _ => (pe_ifExp (pt_val (peC C_is_letter (hr.mono (by first | decide | omega)) (by rfl) (pa_cons (pv 6) pa_nil))) pe_int (pe_dget hu (pv 1) (pv 6) (fun _ _ => rfl))))) pa_nil)))
      (pss_one (ps_if (pt_cmpR op_lt (pv 5) (pe_dget2 hu (pv 1) (pv 3) (pe_op op_add (pv 5) pe_int) ⟨by rfl, by rfl, by rfl, by rfl⟩) (nomark _)) (pss_cons (ps_dput hu (pv 1) (pv 3) (pv 5) rfl)
      (pss_one (ps_set (i := 2) sc_lengths_by.nd rfl (.inl rfl) pe_bl))) pss_nil))) pss_nil))))))
      (pss_one (ps_ret (pv 1)))))), fun ds d h M0 H0 Q q => ?_⟩
  cases h
  case mk o g n z sok h =>
  refine hs_own (en_flat ef_dnew rfl) (hs_set (ev_imm ed_cbl rfl) (hs_while (fun s : List (Sym × Nat) × Bool => [some (encSG o g), some (.dct (dctA o ei s.1)), some (.bl s.2), none, none, none, none]) (fun s => NI s.1) h NI.nil (fun s h1 _ => lnFold_I g _ sok.ruleOk h1) (fun s _ => ett (et_B (ed_var rfl))) (fun s JJ h1 h2 hJ => ?_) fun h1 _ => ?_))
  · refine hs_set (ev_imm ed_cbl rfl) (ho_forE g (encSR o) (fun k => [some (encSG o g), some (.dct (dctA o ei ((g.take k).foldl lnStep (s.1, false)).1)), some (.bl ((g.take k).foldl lnStep (s.1, false)).2), none, none, none, none]) (ei_list (ds := g.map (encSR o)) (ed_var rfl)) (fun M1 H1 bl k r hr => ⟨_, tg_tup2 (by simp) (by simp) (lt_b rfl) (lt_b rfl), ?_⟩) ?_)
    · rw [fold_take hr]
      have hI := lnFold_I (g.take k) (s.1, false) (fun r hr => sok.ruleOk r (List.mem_of_mem_take hr)) h1
      generalize (g.take k).foldl lnStep (s.1, false) = s' at *
      have hp := sok.plen hr
      refine ho_when (b := okF s'.1 r.2) (ett (et_B (ed_allLc r.2 (es o) (fun p => isL p || (getA s'.1 p).isSome) (ei_tup (ed_var rfl)) (by omega) fun p hp => ⟨_, ts_name (by simp), ed_orV (ed_call (ea_cons (ed_var rfl) ea_nil) (r_isL o p)) fun _ => ed_dinA (ed_var rfl) (ed_var rfl)⟩))) (fun e => ?_) fun e => ?_
      · refine hs_set (d := ei (numT s'.1 r.2)) (ev_imm ((ed_sum (ns := (r.2.map (num1 s'.1)).map fun n : Nat => (n : Int)) ((ef_lcM r.2 (es o) (fun p => ei (num1 s'.1 p)) (ei_tup (ed_var rfl)) (by omega) fun p hp => ⟨_, ts_name (by simp), ed_if (et_B (ed_call (ea_cons (ed_var rfl) ea_nil) (r_isL o p))) (fun e1 => ?_) fun e1 => ?_⟩).ed.is ?_)).is ?_) rfl) ?_
        · refine ed_cint.is ?_
          unfold num1
          rw [if_pos e1]
          rfl
        · obtain ⟨t, ht⟩ := okF_at e hp e1
          refine (ed_dgetA (enc := ei) (ed_var rfl) (ed_var rfl) ht).is ?_
          unfold num1
          rw [e1, if_neg (by decide), ht]
          rfl
        · rw [List.map_map, List.map_map]
          rfl
        · rw [sum_int]
          rfl
        · have eI : lnStep s' r = if numT s'.1 r.2 < (getA s'.1 r.1).getD (numT s'.1 r.2 + 1) then (putA s'.1 r.1 (numT s'.1 r.2), true) else s' := by
            unfold lnStep
            rw [if_pos e]
          rw [eI]
          refine ho_when (b := decide (numT s'.1 r.2 < (getA s'.1 r.1).getD (numT s'.1 r.2 + 1))) (ett (et_test ((ed_lt (j := (((getA s'.1 r.1).getD (numT s'.1 r.2 + 1) : Nat) : Int)) (ed_var rfl) ((ed_dget2 (ks := dctA o ei s'.1) (ed_var rfl) (ed_var rfl) (ed_add (ed_var rfl) ed_cint)).is ?_)).is ?_))) (fun e3 => ?_) fun e3 => ?_
          · rw [getK_A]
            cases getA s'.1 r.1 <;> rfl
          · rw [decide_eq_decide.mpr Int.ofNat_lt]
          · simp only [decide_eq_true_eq] at e3
            refine hs_dput (d := ei (numT s'.1 r.2)) rfl (ev_imm (ed_var rfl) rfl) (ed_var rfl) (by rw [len_A]; have := hI.len; omega) (ho_asg (ev_imm ed_cbl rfl) (tg_name (by simp) (lt_b rfl)) ?_)
            rw [putD_A, if_pos e3]
            exact nx_to
          · simp only [decide_eq_false_iff_not] at e3
            rw [if_neg e3]
            exact nx_to
      · have eI : lnStep s' r = s' := by
          unfold lnStep
          rw [if_neg (by rw [e]; decide)]
        rw [eI]
        exact nx_to
    · rw [List.take_length]
      exact nx_sj (LeG.refl _) hJ
  · exact ho_freeze 1 (own' := []) (by simp) (ho_ret (ev_all (ed_var rfl)) q)
def optN (x : Option Nat) : D := (x.map ei).getD .non
inductive R_least_lengths : List D → D → Prop | mk (o : Bool) (g : SG) (n : Nat) (z : List (Sym × Nat) × Bool) (sok : SOk g) (h : LnW g n z) : R_least_lengths [encSG o g] (.lst ((namesS g).map fun x => .tup [es o x, optN (getA z.1 x)]))
theorem cal_least_lengths (T : Txt K mg) : Cal P w K mg base 5 "least_lengths" ["grammar"] (spF R_least_lengths) := by
  have C_must_be_grammar := cal_must_be_grammar (P := P) (w := w) (base := base) T
  have C_lengths_by := cal_lengths_by (P := P) (w := w) (base := base) T
  have C_names_by := cal_names_by (P := P) (w := w) (base := base) T
  refine T.d_least_lengths.cal sc_least_lengths [] (by simp) (fun ds d h => by cases h; rfl) fun f cdv A outer s H E hr => ?_
  have hu := hu_of hr
  refine ⟨_, (pss_cons (ps_expr (peC C_must_be_grammar (hr.mono (by first | decide | omega)) (by rfl) (pa_cons (pv 0) pa_nil)))
      (pss_cons (ps_set (i := 1) sc_least_lengths.nd rfl (.inr rfl) (peC C_lengths_by (hr.mono (by first | decide | omega)) (by rfl) (pa_cons (pv 0) pa_nil)))
      (pss_one (ps_ret (pe_lc (own := [("name", 2)]) (g := (gName 2)) (tt := tYes) (te := (tTup (tCons (tVar 2) (tCons (tDGet1 (tVar 1) (tVar 2)) tNil)))) rfl sc_least_lengths.nd (pi_list (peC C_names_by (hr.mono (by first | decide | omega)) (by rfl) (pa_cons (pv 0) pa_nil))) (blkOk_by (N := ["grammar", "found", "name"]) (sc := defScope s_least_lengths) (by decide +kernel)) (fun _ _ _ _ _ => (pg_name (i := 2) sc_least_lengths.nd rfl (.inl rfl))) (fun _ _ _ _ _ => pts_nil) (fun _ _ _ _ _ => (pe_tup (pa_cons (pv 2) (pa_cons (pe_dget1 hu (pv 1) (pv 2) ⟨by rfl, by rfl, by rfl, by rfl⟩) pa_nil))))))))), fun ds d h M0 H0 Q q => ?_⟩
  cases h
  case mk o g n z sok h =>
  exact hs_drop (ev_all (ed_call (ea_cons (ed_var rfl) ea_nil) (R_must_be_grammar.mk o g sok))) (hs_set (ev_all (ed_call (ea_cons (ed_var rfl) ea_nil) (R_lengths_by.mk o g n z sok h))) (ho_ret (ev_all (ef_lcM (namesS g) (es o) (fun x => .tup [es o x, optN (getA z.1 x)]) (ei_list (ed_call (ea_cons (ed_var rfl) ea_nil) (R_names_by.mk o g))) (by have := namesS_len g; omega) fun x _ => ⟨_, ts_name (by simp), ed_tup (ea_cons (ed_var rfl) (ea_cons ((ed_dget1 (ks := dctA o ei z.1) (ed_var rfl) (ed_var rfl)).is (by rw [getK_A]; rfl)) ea_nil)) (le_b rfl)⟩).ed) q))
/-! what parts begin with -/
abbrev encKB (o : Bool) (k : List (Sym × List Sym)) : D := .dct (dctA o (fun l => .dct (setD o l)) k)
theorem begins_len (k : List (Sym × List Sym)) (hol : List Sym) (hk : ∀ p, ((getA k p).getD []).length ≤ 7) : ∀ (ps acc : List Sym), (begins k hol acc ps).length ≤ acc.length + 7 * ps.length
  | [], acc => by simp [begins]
  | p :: ps, acc => by
    have ih := begins_len k hol hk ps (acc ++ (getA k p).getD [])
    have := hk p
    rw [List.length_append] at ih
    unfold begins
    rw [List.length_cons]
    split
    · rw [List.length_append, List.length_singleton]
      omega
    · split
      · omega
      · rw [List.length_append]
        omega
inductive R_begins_with : List D → D → Prop | mk (o : Bool) (ps : List Sym) (k : List (Sym × List Sym)) (hol : List Sym) (hp : ps.length ≤ 6) (hk : ∀ p ∈ ps, isL p = false → ∃ l, getA k p = some l ∧ l.length ≤ 7) :
  R_begins_with [.tup (ps.map (es o)), encKB o k, .lst (hol.map (es o))] (.lst ((begins k hol [] ps).map (es o)))
theorem cal_begins_with (T : Txt K mg) : Cal P w K mg base 2 "begins_with" ["parts", "known", "hollow"] (spF R_begins_with) := by
  have C_is_letter := cal_is_letter (P := P) (w := w) (base := base) T
  refine T.d_begins_with.cal sc_begins_with [] (by simp) (fun ds d h => by cases h; rfl) fun f cdv A outer s H E hr => ?_
  have hu := hu_of hr
  refine ⟨_, (pss_cons (ps_set (i := 3) sc_begins_with.nd rfl (.inl rfl) (pe_lst pa_nil))
      (pss_cons (ps_for PassesOwn.never rfl (pi_tup (pv 0)) (pg_name (i := 4) sc_begins_with.nd rfl (.inl rfl))
      (pss_cons (ps_if (pt_val (peC C_is_letter (hr.mono (by first | decide | omega)) (by rfl) (pa_cons (pv 4) pa_nil))) (pss_one (ps_ret (pe_op op_cat (pv 3) (pe_lst (pa_cons (pv 4) pa_nil))))) pss_nil)
      (pss_cons (ps_set (i := 3) sc_begins_with.nd rfl (.inl rfl) (pe_op op_cat (pv 3) (pe_callTy (call_list_dK rfl) (by rfl) T.b_list (by decide +kernel) (pa_cons (pe_dget hu (pv 1) (pv 4) (fun _ _ => rfl)) pa_nil))))
      (pss_one (ps_if (pt_cmpR op_notIn_seq (pv 4) (pv 2) rfl) (pss_one (ps_ret (pv 3))) pss_nil)))))
      (pss_one (ps_ret (pv 3))))), fun ds d h M0 H0 Q q => ?_⟩
  cases h
  case mk o ps k hol hp hk =>
  refine hs_set (ev_all (ef_lst ea_nil (le_b rfl)).ed) (hs_forI ps (es o) (fun i acc => acc.length ≤ 7 * i ∧ begins k hol acc (ps.drop i) = begins k hol [] ps) (fun acc : List Sym => [some (.tup (ps.map (es o))), some (encKB o k), some (.lst (hol.map (es o))), some (.lst (acc.map (es o))), none]) [] (ei_tup (ed_var rfl)) ⟨by simp, by simp⟩ (fun M1 H1 bl i p acc hi hI => ⟨_, tg_name (by simp) (lt_b rfl), fun JJ hJ => ?_⟩) fun acc hI => ?_)
  · obtain ⟨hl, hb⟩ := hI
    have hil := lt_of_at hi
    have hd : ps.drop i = p :: ps.drop (i + 1) := by
      rw [List.drop_eq_getElem_cons hil]
      rw [List.getElem?_eq_getElem hil] at hi
      cases hi
      rfl
    rw [hd, begins] at hb
    refine hs_if (ett (et_B (ed_call (ea_cons (ed_var rfl) ea_nil) (r_isL o p)))) (fun e => ?_) fun e => ?_
    · rw [if_pos e] at hb
      rw [← hb] at q
      refine ho_ret (ev_all ((ef_cat (es := [es o p]) (ed_var rfl) (ef_lst (ea_cons (ed_var rfl) ea_nil) (le_b rfl)).ed (by rw [List.length_map]; simp; omega)).ed.is ?_)) (fun v M' H' g r => q v M' H' (bl.grow g) r)
      rw [List.map_append]
      rfl
    · rw [e, if_neg (by decide)] at hb
      obtain ⟨l, hl1, hl2⟩ := hk p (List.mem_of_getElem? hi) e
      rw [hl1, Option.getD_some] at hb
      refine hs_set (d := .lst ((acc ++ l).map (es o))) (ev_all ((ef_cat (es := l.map (es o)) (ed_var rfl) ((ef_listD (ks := setD o l) (ed_dgetA (enc := fun l => .dct (setD o l)) (ed_var rfl) (ed_var rfl) hl1)).ed.is (by rw [keys_set])) (by rw [List.length_map, List.length_map]; omega)).ed.is (by rw [List.map_append]))) ?_
      refine ho_when (ett (et_test (ed_notInLs (ed_var rfl) (ed_var rfl)))) (fun e2 => ?_) fun e2 => ?_
      · simp only [Bool.not_eq_true', decide_eq_false_iff_not] at e2
        rw [if_neg e2] at hb
        rw [← hb] at q
        exact ho_ret (ev_all (ed_var rfl)) (fun v M' H' g r => q v M' H' (bl.grow g) r)
      · simp only [Bool.not_eq_false', decide_eq_true_eq] at e2
        rw [if_pos e2] at hb
        exact nx_sj (by repeat (first | exact trivial | refine ⟨rfl, ?_⟩)) (hJ (acc ++ l) ⟨by rw [List.length_append]; omega, hb⟩)
  · obtain ⟨hl, hb⟩ := hI
    rw [List.drop_length, begins] at hb
    rw [← hb] at q
    exact ho_ret (ev_all (ed_var rfl)) q
end
end RN

end
section
set_option maxRecDepth 100000
set_option maxHeartbeats 4000000
namespace RN
open PySem L2 Sym
theorem Wh.inv {σ : Type} {c : σ → Bool} {f : σ → σ} {I : σ → Prop} (h : ∀ s, I s → c s = true → I (f s)) : ∀ {n : Nat} {s t : σ}, Wh c f n s t → I s → I t
  | _, _, _, .stop _, i => i
  | _, _, _, .go e w, i => Wh.inv h w (h _ i e)
/-! ### a dict of sets, raw -/
def kvD (o : Bool) : List (Sym × List Sym) → List Addr → List (Key × V)
  | e :: k, y :: l => (Sum.inr (em o e.1), V.ref y) :: kvD o k l
  | _, _ => []
def setV (o : Bool) (l : List Sym) : List (Key × V) := l.map fun s => (Sum.inr (em o s), V.bl true)
structure XD (o : Bool) (X : Hp) (p : Addr) (ads : List Addr) (k : List (Sym × List Sym)) : Prop where
  len : ads.length = k.length
  nd : (p :: ads).Nodup
  kn : (k.map (·.1)).Nodup
  top : X p = some (.dK (kvD o k ads))
  sub : ∀ (i : Nat) (a : Addr) (e : Sym × List Sym), ads[i]? = some a → k[i]? = some e → X a = some (.dK (setV o e.2))
  nt : ∀ b xs, X b ≠ some (.tup xs)
  nl : ∀ b xs, X b ≠ some (.lst xs)
theorem repk_set {M : Hp} (o : Bool) : ∀ l : List Sym, RepK M (setV o l) (setD o l)
  | [] => .nil
  | x :: l => .cons (.bl true) (repk_set o l)
theorem repk_D {M : Hp} (o : Bool) : ∀ (k : List (Sym × List Sym)) (ads : List Addr), ads.length = k.length → (∀ (i : Nat) (a : Addr) (e : Sym × List Sym), ads[i]? = some a → k[i]? = some e → M a = some (.dK (setV o e.2))) → RepK M (kvD o k ads) (dctA o (fun l => .dct (setD o l)) k)
  | [], [], _, _ => .nil
  | [], _ :: _, h, _ => by simp at h
  | _ :: _, [], h, _ => by simp at h
  | e :: k, y :: l, h, hs => .cons (.dct (hs 0 y e rfl rfl) (repk_set o e.2)) (repk_D o k l (by simpa using h) fun i a e h1 h2 => hs (i + 1) a e (by simpa using h1) (by simpa using h2))
theorem XD.rep {o : Bool} {X : Hp} {p : Addr} {ads : List Addr} {k : List (Sym × List Sym)} (h : XD o X p ads k) : ∀ M, Same X M → Rep M (.ref p) (encKB o k) := fun M e =>
  .dct (e _ _ h.top) (repk_D o k ads h.len fun i a x h1 h2 => e _ _ (h.sub i a x h1 h2))
theorem kvD_get {o : Bool} {x : Sym} {l : List Sym} : ∀ (k : List (Sym × List Sym)) (ads : List Addr), ads.length = k.length → getA k x = some l → ∃ (i : Nat) (y : Addr), k[i]? = some (x, l) ∧ ads[i]? = some y ∧ valV (kvD o k ads) (Sum.inr (em o x)) = some (.ref y)
  | [], _, _, h => by cases h
  | _ :: _, [], h, _ => by simp at h
  | e :: k, y :: r, h, hg => by
    by_cases hx : e.1 = x
    · have : getA (e :: k) x = some e.2 := by unfold getA; simp [hx]
      rw [this] at hg
      cases hg
      refine ⟨0, y, ?_, rfl, ?_⟩
      · rw [← hx]
        rfl
      · rw [kvD, ← hx]
        exact valV_pos rfl
    · have : getA (e :: k) x = getA k x := by unfold getA; simp [hx]
      rw [this] at hg
      obtain ⟨i, z, h1, h2, h3⟩ := kvD_get (o := o) k r (by simpa using h) hg
      refine ⟨i + 1, z, by simpa using h1, by simpa using h2, ?_⟩
      rw [kvD, valV_neg (fun z => hx (em_inj (Sum.inr.inj z)))]
      exact h3
theorem kvD_addAt (o : Bool) (x y : Sym) : ∀ (k : List (Sym × List Sym)) (ads : List Addr), kvD o (addAt k x y) ads = kvD o k ads
  | [], _ => by unfold addAt kvD; rfl
  | e :: k, [] => by unfold addAt kvD; rfl
  | e :: k, z :: l => by
    have ih := kvD_addAt o x y k l
    have e1 : addAt (e :: k) x y = (if e.1 = x then (e.1, addN e.2 y) else e) :: addAt k x y := rfl
    rw [e1, kvD, kvD, ih]
    split <;> rfl
theorem putK_set {o : Bool} {l : List Sym} {y : Sym} (h : y ∉ l) : putK (setV o l) (Sum.inr (em o y)) (.bl true) = setV o (l ++ [y]) := by
  unfold putK setV
  rw [if_neg]
  · rw [List.map_append]
    rfl
  · intro z
    obtain ⟨e, he, q⟩ := List.any_eq_true.mp z
    obtain ⟨s, hs, rfl⟩ := List.mem_map.mp he
    simp only [decide_eq_true_eq] at q
    have : s = y := em_inj (Sum.inr.inj q)
    exact h (this ▸ hs)
theorem kvD_keys {o : Bool} : ∀ (k : List (Sym × List Sym)) (ads : List Addr) (e : Key × V), e ∈ kvD o k ads → ∃ x ∈ k, e.1 = Sum.inr (em o x.1)
  | [], _, e, h => by unfold kvD at h; simp at h
  | _ :: _, [], e, h => by unfold kvD at h; simp at h
  | x :: k, y :: l, e, h => by
    rw [kvD] at h
    rcases List.mem_cons.mp h with q | q
    · exact ⟨x, by simp, by rw [q]⟩
    · obtain ⟨z, hz, q⟩ := kvD_keys k l e q
      exact ⟨z, by simp [hz], q⟩
theorem kvD_len {o : Bool} : ∀ (k : List (Sym × List Sym)) (ads : List Addr), (kvD o k ads).length ≤ k.length
  | [], _ => by unfold kvD; simp
  | _ :: _, [] => by unfold kvD; simp
  | x :: k, y :: l => by
    rw [kvD, List.length_cons, List.length_cons]
    have := kvD_len (o := o) k l
    omega
theorem kvD_app {o : Bool} {x : Sym} {q : Addr} : ∀ (k : List (Sym × List Sym)) (ads : List Addr), ads.length = k.length → kvD o (k ++ [(x, [])]) (ads ++ [q]) = kvD o k ads ++ [(Sum.inr (em o x), .ref q)]
  | [], [], _ => rfl
  | [], _ :: _, h => by simp at h
  | _ :: _, [], h => by simp at h
  | e :: k, y :: l, h => by
    show kvD o (e :: (k ++ _)) (y :: (l ++ _)) = _
    rw [kvD, kvD_app k l (by simpa using h), kvD]
    rfl
theorem putK_new {o : Bool} {k : List (Sym × List Sym)} {ads : List Addr} {x : Sym} {q : Addr} (hx : x ∉ k.map (·.1)) : putK (kvD o k ads) (Sum.inr (em o x)) (.ref q) = kvD o k ads ++ [(Sum.inr (em o x), .ref q)] := by
  unfold putK
  rw [if_neg]
  intro z
  obtain ⟨e, he, h⟩ := List.any_eq_true.mp z
  obtain ⟨y, hy, h2⟩ := kvD_keys k ads e he
  simp only [decide_eq_true_eq] at h
  rw [h2] at h
  have : y.1 = x := em_inj (Sum.inr.inj h)
  exact hx (List.mem_map.mpr ⟨y, hy, this⟩)
theorem XD.new {o : Bool} {X : Hp} {p : Addr} {ads : List Addr} {k : List (Sym × List Sym)} (h : XD o X p ads k) {x : Sym} {q : Addr} (hx : x ∉ k.map (·.1)) (hq : X q = none) :
    XD o (upd (upd X q (.dK [])) p (.dK (putK (kvD o k ads) (Sum.inr (em o x)) (.ref q)))) p (ads ++ [q]) (k ++ [(x, [])]) := by
  have hpq : p ≠ q := fun z => by have := h.top; rw [z, hq] at this; cases this
  have hqa : q ∉ ads := fun z => by
    obtain ⟨i, hi, e⟩ := List.getElem_of_mem z
    have h1 : ads[i]? = some q := by rw [List.getElem?_eq_getElem hi, e]
    have h2 : k[i]? = some (k[i]'(by rw [← h.len]; exact hi)) := List.getElem?_eq_getElem _
    have := h.sub i q _ h1 h2
    rw [hq] at this
    cases this
  have hpa : p ∉ ads := (List.nodup_cons.mp h.nd).1
  have other : ∀ b o', upd (upd X q (.dK [])) p (.dK (putK (kvD o k ads) (Sum.inr (em o x)) (.ref q))) b = some o' → (∃ l, o' = .dK l) ∨ X b = some o' := fun b o' hb => by
    by_cases h1 : b = p
    · subst h1
      rw [upd_same] at hb
      cases hb
      exact .inl ⟨_, rfl⟩
    · rw [upd_ne h1] at hb
      by_cases h2 : b = q
      · subst h2
        rw [upd_same] at hb
        cases hb
        exact .inl ⟨_, rfl⟩
      · rw [upd_ne h2] at hb
        exact .inr hb
  refine ⟨by simp [h.len], ?_, ?_, ?_, fun i a e h1 h2 => ?_, fun b xs hb => ?_, fun b xs hb => ?_⟩
  · rw [List.nodup_cons]
    refine ⟨by simp [hpa, hpq], ?_⟩
    refine List.nodup_append.mpr ⟨(List.nodup_cons.mp h.nd).2, by simp, ?_⟩
    intro z hz y hy e
    have : y = q := by simpa using hy
    subst this
    subst e
    exact hqa hz
  · rw [List.map_append]
    refine List.nodup_append.mpr ⟨h.kn, by simp, ?_⟩
    intro z hz y hy e
    have : y = x := by simpa using hy
    subst this
    subst e
    exact hx hz
  · rw [upd_same, putK_new hx, kvD_app k ads h.len]
  · by_cases hi : i < ads.length
    · rw [List.getElem?_append_left hi] at h1
      rw [List.getElem?_append_left (by rw [← h.len]; exact hi)] at h2
      have hm := List.mem_of_getElem? h1
      rw [upd_ne (fun z => hpa (by rw [← z]; exact hm)), upd_ne (fun z => hqa (by rw [← z]; exact hm))]
      exact h.sub i a e h1 h2
    · have hi2 : i = ads.length := by
        have := lt_of_at h1
        rw [List.length_append, List.length_singleton] at this
        omega
      subst hi2
      rw [List.getElem?_append_right (Nat.le_refl _)] at h1
      rw [List.getElem?_append_right (by rw [h.len]; exact Nat.le_refl _)] at h2
      simp at h1
      simp [h.len] at h2
      subst h1
      subst h2
      rw [upd_ne (Ne.symm hpq), upd_same]
      rfl
  · rcases other b _ hb with ⟨l, z⟩ | z
    · cases z
    · exact h.nt b xs z
  · rcases other b _ hb with ⟨l, z⟩ | z
    · cases z
    · exact h.nl b xs z
theorem XD.put {o : Bool} {X : Hp} {p : Addr} {ads : List Addr} {k : List (Sym × List Sym)} (h : XD o X p ads k) {x y : Sym} {l : List Sym} {i : Nat} {z : Addr} (h1 : k[i]? = some (x, l)) (h2 : ads[i]? = some z) (hy : y ∉ l) :
    XD o (upd X z (.dK (putK (setV o l) (Sum.inr (em o y)) (.bl true)))) p ads (addAt k x y) := by
  have hz : z ∈ ads := List.mem_of_getElem? h2
  have hpz : p ≠ z := fun e => (List.nodup_cons.mp h.nd).1 (by rw [e]; exact hz)
  have other : ∀ b o', upd X z (.dK (putK (setV o l) (Sum.inr (em o y)) (.bl true))) b = some o' → (∃ l, o' = .dK l) ∨ X b = some o' := fun b o' hb => by
    by_cases h1 : b = z
    · subst h1
      rw [upd_same] at hb
      cases hb
      exact .inl ⟨_, rfl⟩
    · rw [upd_ne h1] at hb
      exact .inr hb
  refine ⟨by rw [h.len]; unfold addAt; rw [List.length_map], h.nd, by rw [addAt_keys]; exact h.kn, ?_, fun j a e e1 e2 => ?_, fun b xs hb => ?_, fun b xs hb => ?_⟩
  · rw [upd_ne hpz, kvD_addAt]
    exact h.top
  · unfold addAt at e2
    rw [List.getElem?_map] at e2
    by_cases hj : j = i
    · subst hj
      rw [h2] at e1
      cases e1
      rw [h1] at e2
      cases e2
      have e3 : addN l y = l ++ [y] := by unfold addN; rw [if_neg hy]
      rw [upd_same, putK_set hy]
      show _ = some (HO.dK (setV o (if x = x then (x, addN l y) else (x, l)).2))
      rw [if_pos rfl, e3]
    · have ha : a ≠ z := fun e => by
        subst e
        have hi := lt_of_at e1
        have hi2 := lt_of_at h2
        rw [List.getElem?_eq_getElem hi] at e1
        rw [List.getElem?_eq_getElem hi2] at h2
        have := (List.getElem_inj (List.nodup_cons.mp h.nd).2).mp ((Option.some.inj e1).trans (Option.some.inj h2).symm)
        exact hj this
      rw [upd_ne ha]
      cases hk : k[j]? with
      | none => rw [hk] at e2; cases e2
      | some e' =>
        rw [hk] at e2
        have hne : e'.1 ≠ x := fun z => by
          have q1 : (k.map (·.1))[j]? = some x := by rw [List.getElem?_map, hk, ← z]; rfl
          have q2 : (k.map (·.1))[i]? = some x := by rw [List.getElem?_map, h1]; rfl
          have hi := lt_of_at q1
          have hi2 := lt_of_at q2
          rw [List.getElem?_eq_getElem hi] at q1
          rw [List.getElem?_eq_getElem hi2] at q2
          exact hj ((List.getElem_inj h.kn).mp ((Option.some.inj q1).trans (Option.some.inj q2).symm))
        simp only [Option.map_some, Option.some.injEq] at e2
        rw [if_neg hne] at e2
        rw [← e2]
        exact h.sub j a e' e1 hk
  · rcases other b _ hb with ⟨l, z⟩ | z
    · cases z
    · exact h.nt b xs z
  · rcases other b _ hb with ⟨l, z⟩ | z
    · cases z
    · exact h.nl b xs z
section
variable {M0 H0 : Hp} {own : List Nat} {X : Hp} {Γ Γ' : Gm} {t u tb : TS} {D : Ends} {te : TE} {d : RN.D}
/-- x = {}, raw -/
theorem hs_xnew {i : Nat} (o : Bool) (k : ∀ p X', XD o X' p [] [] → Ho M0 H0 own X' (Γ.set i (some (.opq (.ref p)))) u D) (hX : X = nilH) (hi : own.contains i = false := by rfl) (hl : Nat.blt i Γ.length = true := by rfl) : Ho M0 H0 own X Γ (tSeq (tAsg tDNewK (gName i)) u) D := fun σ H ⟨R, s⟩ p hp => by
  have s2 := (s.xnew hp (.dK [])).set (i := i) (v := .ref p) (d := .opq (.ref p)) (no_b hi) (lt_b hl) (.opq _)
  refine k p (upd X p (.dK [])) ⟨rfl, by simp, by simp, upd_same, fun j a e h _ => by simp at h, fun b xs h => ?_, fun b xs h => ?_⟩ _ _ ⟨R, s2⟩
  · by_cases hb : b = p
    · subst hb
      rw [upd_same] at h
      cases h
    · rw [upd_ne hb, hX] at h
      cases h
  · by_cases hb : b = p
    · subst hb
      rw [upd_same] at h
      cases h
    · rw [upd_ne hb, hX] at h
      cases h
/-- found[name] = {} -/
theorem ho_xname {i j : Nat} {o : Bool} {p : Addr} {ads : List Addr} {kk : List (Sym × List Sym)} {x : Sym} (hp : Γ[i]? = some (some (.opq (.ref p)))) (hj : Γ[j]? = some (some (es o x))) (xd : XD o X p ads kk) (hx : x ∉ kk.map (·.1)) (hl : kk.length ≤ 1000)
    (k : ∀ X' ads', XD o X' p ads' (kk ++ [(x, [])]) → Nx M0 H0 own X' Γ D.nx) (hi : own.contains i = false := by rfl) (hj' : own.contains j = false := by rfl) : Ho M0 H0 own X Γ (sDPut (tVar i) (tVar j) tDNewK) D := fun σ H ⟨R, s⟩ q hq => by
  obtain ⟨v1, e1, r1⟩ := s.non i _ (no_b hi) hp
  obtain ⟨v2, e2, r2⟩ := s.non j _ (no_b hj') hj
  cases r1
  cases r2
  have hXq : X q = none := by
    cases e : X q with
    | none => rfl
    | some u => rw [(s.x q u e).1] at hq; cases hq
  have hpq : p ≠ q := fun z => by have := xd.top; rw [z, hXq] at this; cases this
  have s2 := s.xnew hq (.dK [])
  have xp : upd X q (.dK []) p = some (.dK (kvD o kk ads)) := by rw [upd_ne hpq]; exact xd.top
  have s3 := s2.xput xp (.dK (putK (kvD o kk ads) (Sum.inr (em o x)) (.ref q)))
  refine ⟨_, e1, _, e2, p, _, rfl, DPut.k (k := Sum.inr (em o x)) (s2.x p _ xp).1 (by have := kvD_len (o := o) kk ads; have : (1000 : Nat) < sizeLine := by decide
                                                                                      omega), ?_⟩
  exact k _ _ (xd.new hx hXq) σ _ ⟨R, s3⟩
/-- found[x][y] = True -/
theorem ho_xput {i : Nat} {o : Bool} {p : Addr} {ads : List Addr} {kk : List (Sym × List Sym)} {x y : Sym} {l : List Sym} {t1 t2 : TE} (hp : Γ[i]? = some (some (.opq (.ref p)))) (xd : XD o X p ads kk) (h1 : ED t1 Γ (es o x)) (h2 : ED t2 Γ (es o y)) (hg : getA kk x = some l) (hy : y ∉ l) (hl : l.length ≤ 1000)
    (k : ∀ X', XD o X' p ads (addAt kk x y) → Nx M0 H0 own X' Γ D.nx) (hi : own.contains i = false := by rfl) : Ho M0 H0 own X Γ (sDPut (tDGet (tVar i) t1) t2 (tC (.bl true))) D := fun σ H ⟨R, s⟩ => by
  obtain ⟨v1, e1, r1⟩ := s.non i _ (no_b hi) hp
  cases r1
  refine ⟨_, e1, ?_⟩
  refine h1 σ _ H s.seen_le s.slots _ fun v M1 H1 g1 r1 => ?_
  cases r1
  have s1 := s.after g1
  obtain ⟨n, z, k1, k2, k3⟩ := kvD_get (o := o) kk ads xd.len hg
  refine ⟨p, .ref z, rfl, ?_, ?_⟩
  · rw [← k3]
    exact DGet.k (k := Sum.inr (em o x)) (s1.x p _ xd.top).1
  refine h2 σ _ H1 s1.seen_le s1.slots _ fun v M2 H2 g2 r2 => ?_
  cases r2
  have s2 := s1.after g2
  have xz := xd.sub n z (x, l) k2 k1
  refine ⟨z, _, rfl, DPut.k (k := Sum.inr (em o y)) (s2.x z _ xz).1 ?_, ?_⟩
  · unfold setV
    rw [List.length_map]
    exact Nat.lt_of_le_of_lt hl (by decide)
  · exact k _ (xd.put k1 k2 hy) σ _ ⟨_, s2.xput xz _⟩
theorem hs_xput {i : Nat} {o : Bool} {p : Addr} {ads : List Addr} {kk : List (Sym × List Sym)} {x y : Sym} {l : List Sym} {t1 t2 : TE} (hp : Γ[i]? = some (some (.opq (.ref p)))) (xd : XD o X p ads kk) (h1 : ED t1 Γ (es o x)) (h2 : ED t2 Γ (es o y)) (hg : getA kk x = some l) (hy : y ∉ l) (hl : l.length ≤ 1000)
    (k : ∀ X', XD o X' p ads (addAt kk x y) → Ho M0 H0 own X' Γ u D) (hi : own.contains i = false := by rfl) : Ho M0 H0 own X Γ (tSeq (sDPut (tDGet (tVar i) t1) t2 (tC (.bl true))) u) D := ho_seq (ho_xput hp xd h1 h2 hg hy hl k hi)
/-- a list, read over the raw objects -/
theorem exx_lst {i : Nat} {p : Addr} {d0 : RN.D} {ds : List RN.D} (nt : ∀ b xs, X b ≠ some (.tup xs)) (nl : ∀ b xs, X b ≠ some (.lst xs)) (hp : Γ[i]? = some (some (.opq (.ref p)))) (hx : ∀ M, Same X M → Rep M (.ref p) d0) (h : ED te (Γ.set i (some d0)) (.lst ds)) (im : imms ds = true) : EX [] X te Γ (.lst ds) (· = X) :=
  fun M0 H0 σ H R s Q q => h σ _ H s.sX_le (s.slotsX (by simp) hp hx) Q fun v M' H' g r => by
    refine q v X H' _ rfl (s.afterX g) ?_
    cases r with
    | @lst a xs _ ha ra =>
      refine .lst ?_ (ra.imm (s.keepX nt g) im)
      by_cases qx : X a = none
      · rw [lessX_no qx, less_not]
        · exact ha
        · rintro ⟨i, d, hi, _⟩
          simp at hi
      · exfalso
        cases e : X a with
        | none => exact qx e
        | some w =>
          have h1 := g.h _ _ (s.x a w e).1
          have h2 := g.s _ _ ha
          rw [h1] at h2
          cases h2
          exact nl a xs e
theorem ex_orV {ta tb : TE} {a' b' : Bool} {S : Hp → Prop} (h : EX own X ta Γ (.bl a') S) (h2 : EV own tb Γ (.bl b')) : EX own X (tOrV ta tb) Γ (.bl (a' || b')) S := fun M0 H0 σ H R s Q q =>
  h M0 H0 σ H R s _ fun v X' H1 R1 hS s1 r1 => by
    cases r1
    refine ⟨a', rfl, ?_⟩
    cases a' with
    | true => exact q _ X' H1 R1 hS s1 (.bl _)
    | false => exact h2 M0 H0 X' σ H1 R1 s1 Q fun v H2 R2 s2 r2 => q v X' H2 R2 hS s2 r2
end
theorem useful_sub {g : SG} {m : List Sym} {r : Sym × List Sym} (h : r ∈ useful g m) : r ∈ g := (List.mem_filter.mp h).1
theorem SOk.parts {g : SG} (h : SOk g) {r : Sym × List Sym} (hr : r ∈ g) {p : Sym} (hp : p ∈ r.2) (hl : isL p = false) : p ∈ namesS g := by
  rcases h.closed r hr p hp with q | q
  · rw [hl] at q; cases q
  · exact mem_namesS.mpr q
theorem addTo_yes {x y : Sym} {s : KB} {l : List Sym} (hg : getA s.1 x = some l) (h : y ∈ l) : addTo x s y = s := by
  unfold addTo
  rw [hg, Option.getD_some, if_pos h]
theorem addTo_no {x y : Sym} {s : KB} {l : List Sym} (hg : getA s.1 x = some l) (h : y ∉ l) : addTo x s y = (addAt s.1 x y, true) := by
  unfold addTo
  rw [hg, Option.getD_some, if_neg h]
theorem k0_succ {g : SG} {i : Nat} {x : Sym} (h : (namesS g)[i]? = some x) : k0 ((namesS g).take (i + 1)) = k0 ((namesS g).take i) ++ [(x, [])] := by
  unfold k0
  rw [take_succ h, List.map_append]
  rfl
theorem k0_keys (l : List Sym) : (k0 l).map (·.1) = l := (KI.zero l).keys
theorem not_before {l : List Sym} (h : l.Nodup) {i : Nat} {x : Sym} (hx : l[i]? = some x) : x ∉ l.take i := by
  intro hm
  obtain ⟨j, hj, e⟩ := List.getElem_of_mem hm
  have hi := lt_of_at hx
  rw [List.length_take] at hj
  rw [List.getElem_take] at e
  rw [List.getElem?_eq_getElem hi] at hx
  have := (List.getElem_inj h).mp (e.trans (Option.some.inj hx).symm)
  omega
section
variable {P : Program} {w : World} {K : PySem.W.Frag} {mg : Str → Option Value} {base : Heap}
inductive R_firsts_by : List D → D → Prop | mk (o : Bool) (g : SG) (mk : Marks g) (sok : SOk g) : R_firsts_by [encSG o g] (encKB o mk.fr.1)
theorem cal_firsts_by (T : Txt K mg) : Cal P w K mg base 4 "firsts_by" ["grammar"] (spF R_firsts_by) := by
  have C_useful_rules := cal_useful_rules (P := P) (w := w) (base := base) T
  have C_empties_by := cal_empties_by (P := P) (w := w) (base := base) T
  have C_names_by := cal_names_by (P := P) (w := w) (base := base) T
  have C_begins_with := cal_begins_with (P := P) (w := w) (base := base) T
  refine T.d_firsts_by.cal sc_firsts_by [] (by simp) (fun ds d h => by cases h; rfl) fun f cdv A outer s H E hr => ?_
  have hu := hu_of hr
  refine ⟨_, (pss_cons (ps_set (i := 1) sc_firsts_by.nd rfl (.inl rfl) (peC C_useful_rules (hr.mono (by first | decide | omega)) (by rfl) (pa_cons (pv 0) pa_nil)))
      (pss_cons (ps_set (i := 2) sc_firsts_by.nd rfl (.inl rfl) (peC C_empties_by (hr.mono (by first | decide | omega)) (by rfl) (pa_cons (pv 0) pa_nil)))
      (pss_cons (ps_set (i := 3) sc_firsts_by.nd rfl (.inl rfl) pe_dnewK)
      (pss_cons (ps_for PassesOwn.never rfl (pi_list (peC C_names_by (hr.mono (by first | decide | omega)) (by rfl) (pa_cons (pv 0) pa_nil))) (pg_name (i := 4) sc_firsts_by.nd rfl (.inl rfl))
      (pss_one (ps_dput hu (pv 3) (pv 4) pe_dnewK rfl)))
      (pss_cons (ps_set (i := 5) sc_firsts_by.nd rfl (.inl rfl) pe_bl)
      (pss_cons (ps_while PassesOwn.never (pt_val (pv 5))
      (pss_cons (ps_set (i := 5) sc_firsts_by.nd rfl (.inl rfl) pe_bl)
      (pss_one (ps_for PassesOwn.never rfl (pi_list (pv 1)) (pg_tup rfl (pgs_cons (pg_name (i := 4) sc_firsts_by.nd rfl (.inl rfl)) (pgs_cons (pg_name (i := 6) sc_firsts_by.nd rfl (.inl rfl)) pgs_nil)))
      (pss_one (ps_for PassesOwn.never rfl (pi_list (peC C_begins_with (hr.mono (by first | decide | omega)) (by rfl) (pa_cons (pv 6) (pa_cons (pv 3) (pa_cons (pv 2) pa_nil))))) (pg_name (i := 7) sc_firsts_by.nd rfl (.inl rfl))
      (pss_one (ps_if (pt_cmp (pc_dnotin hu (pv 7) (pe_dget hu (pv 3) (pv 4) (fun _ _ => rfl)))) (pss_cons (ps_dput hu (pe_dget hu (pv 3) (pv 4) (fun _ _ => rfl)) (pv 7) pe_bl rfl)
      (pss_one (ps_set (i := 5) sc_firsts_by.nd rfl (.inl rfl) pe_bl))) pss_nil))))))))
      (pss_one (ps_ret (pv 3))))))))), fun ds d h M0 H0 Q q => ?_⟩
  cases h
  case mk o g mk sok =>
  have hcl : ∀ r ∈ useful g (marked g mk.m.1), r ∈ g := fun r hr => useful_sub hr
  have hfr := mk.hfr
  have nd := nd_namesS g
  have nl := namesS_len g
  refine hs_set (ev_all (ed_call (ea_cons (ed_var rfl) ea_nil) (R_useful_rules.mk o g _ _ sok mk.hm))) (hs_set (ev_all (ed_call (ea_cons (ed_var rfl) ea_nil) (R_empties_by.mk o g _ _ sok mk.he))) ?_)
  generalize useful g (marked g mk.m.1) = rs at *
  generalize marked g mk.e.1 = hol at *
  refine hs_xnew o (fun p X1 xd1 => ?_) rfl
  refine hs_forX (namesS g) (es o) (fun i _ X2 => ∃ ads, XD o X2 p ads (k0 ((namesS g).take i))) (fun _ : Unit => [some (encSG o g), some (encSG o rs), some (.lst (hol.map (es o))), some (.opq (.ref p)), none, none, none, none]) () (eix_mask (ei_list (ed_call (ea_cons (ed_var rfl) ea_nil) (R_names_by.mk o g)))) ⟨[], xd1⟩ (fun M1 H1 bl i x _ X2 hx ⟨ads, xd⟩ => ⟨_, tg_name (by simp) (lt_b rfl), fun JJ hJ => ?_⟩) fun _ X2 ⟨ads, xd⟩ => ?_
  · refine ho_xname rfl rfl xd (by rw [k0_keys]; exact not_before nd hx) (by unfold k0; rw [List.length_map, List.length_take]; omega) fun X3 ads3 xd3 => ?_
    rw [← k0_succ hx] at xd3
    exact nx_sjx (hJ () X3 ⟨ads3, xd3⟩)
  rw [List.take_length] at xd
  refine hs_set (ev_all ed_cbl) (hs_whileX (fun s : KB => [some (encSG o g), some (encSG o rs), some (.lst (hol.map (es o))), some (.opq (.ref p)), none, some (.bl s.2), none, none]) (fun s X3 => KI (namesS g) s.1 ∧ XD o X3 p ads s.1) hfr ⟨KI.zero _, xd⟩ (fun s X3 _ => ett (et_B (ed_var rfl))) (fun s X3 JJ ⟨ki, xd3⟩ _ hJ => ?_) fun X3 ⟨ki, xd3⟩ _ => ?_)
  · refine hs_set (ev_all ed_cbl) (ho_forX rs (encSR o) (fun i s' X4 => s' = (rs.take i).foldl (frRule hol) (s.1, false) ∧ KI (namesS g) s'.1 ∧ XD o X4 p ads s'.1) (fun s : KB => [some (encSG o g), some (encSG o rs), some (.lst (hol.map (es o))), some (.opq (.ref p)), none, some (.bl s.2), none, none]) (s.1, false) (eix_mask (ei_list (ds := rs.map (encSR o)) (ed_var rfl))) ⟨rfl, ki, xd3⟩ (fun M1 H1 bl i r s' X4 hr ⟨es', ki', xd4⟩ => ⟨_, tg_tup2 (by simp) (by simp) (lt_b rfl) (lt_b rfl), fun JJ hJ => ?_⟩) fun s' X4 ⟨es', ki', xd4⟩ => ?_)
    · have hrg := hcl r (List.mem_of_getElem? hr)
      have hr1 : r.1 ∈ namesS g := mem_namesS.mpr (List.mem_map.mpr ⟨r, hrg, rfl⟩)
      have hN := begins_N ki' hol r.2 [] (by simp)
      refine ho_forX (begins s'.1 hol [] r.2) (es o) (fun j s2 X5 => s2 = ((begins s'.1 hol [] r.2).take j).foldl (addTo r.1) s' ∧ KI (namesS g) s2.1 ∧ XD o X5 p ads s2.1) (fun s2 : KB => [some (encSG o g), some (encSG o rs), some (.lst (hol.map (es o))), some (.opq (.ref p)), some (es o r.1), some (.bl s2.2), some (.tup (r.2.map (es o))), none]) s'
        (eix_list (exx_lst (i := 3) (p := p) xd4.nt xd4.nl rfl xd4.rep (ed_call (ea_cons (ed_var rfl) (ea_cons (ed_var rfl) (ea_cons (ed_var rfl) ea_nil))) (R_begins_with.mk o r.2 s'.1 hol (sok.h6 r hrg) fun q hq hl => ?_)) (imms_es o _))) ⟨rfl, ki', xd4⟩ (fun M2 H2 bl2 j y s2 X5 hy ⟨es2, ki2, xd5⟩ => ⟨_, tg_name (by simp) (lt_b rfl), fun JJ hJ => ?_⟩) fun s2 X5 ⟨es2, ki2, xd5⟩ => ?_
      · obtain ⟨l, h1, h2, _⟩ := ki'.get (sok.parts hrg hq hl)
        exact ⟨l, h1, h2⟩
      · obtain ⟨l, hl1, hl2, hl3, hl4⟩ := ki2.get hr1
        have hyN := hN y (List.mem_of_getElem? hy)
        have e2 := fold_take (f := addTo r.1) (s := s') hy
        rw [← es2] at e2
        refine ho_ifX (etx (i := 3) (p := p) (by simp) rfl xd5.rep (et_B (ed_dnotins (l := l) (ed_var rfl) (ed_dgetA (enc := fun l => .dct (setD o l)) (ed_var rfl) (ed_var rfl) hl1)))) (fun e => ?_) fun e => ?_
        · simp only [Bool.not_eq_true', decide_eq_false_iff_not] at e
          rw [addTo_no hl1 e] at e2
          refine (hs_xput rfl xd5 (ed_var rfl) (ed_var rfl) hl1 e (by omega) fun X6 xd6 => ho_asg (ev_all ed_cbl) (tg_name (by simp) (lt_b rfl)) ?_)
          exact nx_sjx (hJ (addAt s2.1 r.1 y, true) X6 ⟨e2.symm, ki2.add hyN, xd6⟩)
        · simp only [Bool.not_eq_false', decide_eq_true_eq] at e
          rw [addTo_yes hl1 e] at e2
          exact nx_sjx (hJ s2 X5 ⟨e2.symm, ki2, xd5⟩)
      · rw [List.take_length] at es2
        exact nx_sjx (hJ s2 X5 ⟨by rw [fold_take hr, ← es', es2]; rfl, ki2, xd5⟩)
    · rw [List.take_length] at es'
      exact nx_sjx (hJ X4 ⟨by show KI _ (frPass rs hol s).1; unfold frPass; rw [← es']; exact ki', by show XD o X4 p ads (frPass rs hol s).1; unfold frPass; rw [← es']; exact xd4⟩) (by rw [es']; exact LeG.refl _)
  · exact ho_retRaw (by simp) rfl xd3.rep q

theorem Marks.ki {g : SG} (mk : Marks g) : KI (namesS g) mk.fr.1 := Wh.inv (c := fun s : KB => s.2) (f := frPass (useful g (marked g mk.m.1)) (marked g mk.e.1)) (I := fun s : KB => KI (namesS g) s.1) (fun s h _ => KI.frFold _ _ h) mk.hfr (KI.zero _)
theorem Marks.ki2 {g : SG} (mk : Marks g) : KI (namesS g) mk.fw.1 := by
  have h := mk.hfw
  unfold FwW at h
  split at h
  · exact Wh.inv (c := fun s : KB => s.2) (f := fwPass (useful g (marked g mk.m.1)) mk.fr.1 (marked g mk.e.1) mk.rcu.1) (I := fun s : KB => KI (namesS g) s.1) (fun s h _ => KI.fwSteps mk.ki _ _ h) h ((KI.zero _).add rfl)
  · rw [h]
    exact KI.zero _
def rowsOf (g : SG) (k : List (Sym × List Sym)) : List (Sym × List Sym) := (namesS g).map fun x => (x, sortI ((getA k x).getD []))
abbrev encRow (o : Bool) (r : Sym × List Sym) : D := .tup [es o r.1, .lst (r.2.map (es o))]
theorem rows_enc (o : Bool) (g : SG) (k : List (Sym × List Sym)) : (rowsOf g k).map (encRow o) = (namesS g).map fun x => .tup [es o x, .lst ((sortI ((getA k x).getD [])).map (es o))] := by
  unfold rowsOf
  rw [List.map_map]
  rfl
inductive R_firsts : List D → D → Prop | mk (o : Bool) (g : SG) (mk : Marks g) (sok : SOk g) : R_firsts [encSG o g] (.lst ((rowsOf g mk.fr.1).map (encRow o)))
theorem cal_firsts (T : Txt K mg) : Cal P w K mg base 5 "firsts" ["grammar"] (spF R_firsts) := by
  have C_must_be_grammar := cal_must_be_grammar (P := P) (w := w) (base := base) T
  have C_firsts_by := cal_firsts_by (P := P) (w := w) (base := base) T
  have C_names_by := cal_names_by (P := P) (w := w) (base := base) T
  refine T.d_firsts.cal sc_firsts [] (by simp) (fun ds d h => by cases h; rfl) fun f cdv A outer s H E hr => ?_
  have hu := hu_of hr
  refine ⟨_, (pss_cons (ps_expr (peC C_must_be_grammar (hr.mono (by first | decide | omega)) (by rfl) (pa_cons (pv 0) pa_nil)))
      (pss_cons (ps_set (i := 1) sc_firsts.nd rfl (.inr rfl) (peC C_firsts_by (hr.mono (by first | decide | omega)) (by rfl) (pa_cons (pv 0) pa_nil)))
      (pss_one (ps_ret (pe_lc (own := [("name", 2)]) (g := (gName 2)) (tt := tYes) (te := (tTup (tCons (tVar 2) (tCons (tCB (rSortedS K) (tCons (tCB rListD (tCons (tDGet (tVar 1) (tVar 2)) tNil)) tNil)) tNil)))) rfl sc_firsts.nd (pi_list (peC C_names_by (hr.mono (by first | decide | omega)) (by rfl) (pa_cons (pv 0) pa_nil))) (blkOk_by (N := ["grammar", "found", "name"]) (sc := defScope s_firsts) (by decide +kernel)) (fun _ _ _ _ _ => (pg_name (i := 2) sc_firsts.nd rfl (.inl rfl))) (fun _ _ _ _ _ => pts_nil) (fun _ _ _ _ _ => (pe_tup (pa_cons (pv 2) (pa_cons (pe_callB cr_sortedS (by rfl) T.b_sorted (by decide +kernel) (pa_cons (pe_callTy (call_list_dK rfl) (by rfl) T.b_list (by decide +kernel) (pa_cons (pe_dget hu (pv 1) (pv 2) (fun _ _ => rfl)) pa_nil)) pa_nil)) pa_nil))))))))), fun ds d h M0 H0 Q q => ?_⟩
  cases h
  case mk o g mk sok =>
  refine hs_drop (ev_all (ed_call (ea_cons (ed_var rfl) ea_nil) (R_must_be_grammar.mk o g sok))) (hs_set (ev_all (ed_call (ea_cons (ed_var rfl) ea_nil) (R_firsts_by.mk o g mk sok))) (ho_ret (ev_all ((ef_lcM (namesS g) (es o) (fun x => .tup [es o x, .lst ((sortI ((getA mk.fr.1 x).getD [])).map (es o))]) (ei_list (ed_call (ea_cons (ed_var rfl) ea_nil) (R_names_by.mk o g))) (by have := namesS_len g; omega) fun x hx => ⟨_, ts_name (by simp), ed_tup (ea_cons (ed_var rfl) (ea_cons ?_ ea_nil)) (le_b rfl)⟩).ed.is (by rw [rows_enc]))) q))
  obtain ⟨l, h1, h2, h3, h4⟩ := mk.ki.get hx
  rw [h1, Option.getD_some]
  exact (ef_sorts ((ef_listD (ks := setD o l) (ed_dgetA (enc := fun l => .dct (setD o l)) (ed_var rfl) (ed_var rfl) h1)).ed.is (by rw [keys_set])) h4 (by omega)).ed

/-! followers -/
inductive R_follow_rule : Hp → List D → D → (Hp → Prop) → Prop
  | mk (o : Bool) (g : SG) (X : Hp) (p : Addr) (ads : List Addr) (r : Sym × List Sym) (k kn : List (Sym × List Sym)) (hol : List Sym) (sok : SOk g) (hr : r ∈ g) (xd : XD o X p ads k) (ki : KI (namesS g) k) (kin : KI (namesS g) kn) :
    R_follow_rule X [es o r.1, .tup (r.2.map (es o)), .opq (.ref p), encKB o kn, .lst (hol.map (es o))] (.bl (fwRule r.1 kn hol r.2 k).2) fun X' => XD o X' p ads (fwRule r.1 kn hol r.2 k).1
theorem cal_follow_rule (T : Txt K mg) : Cal P w K mg base 3 "follow_rule" ["name", "parts", "found", "known", "hollow"] (spX R_follow_rule) := by
  have C_is_letter := cal_is_letter (P := P) (w := w) (base := base) T
  have C_begins_with := cal_begins_with (P := P) (w := w) (base := base) T
  refine T.d_follow_rule.calX sc_follow_rule [] (by simp) (fun X ds d S h => by cases h; rfl) fun f cdv A outer s H E hr => ?_
  have hu := hu_of hr
  refine ⟨_, (pss_cons (ps_set (i := 5) sc_follow_rule.nd rfl (.inl rfl) pe_bl)
      (pss_cons (ps_for PassesOwn.never rfl (pi_enumT (by rfl) T.b_enumerate (pa_cons (pv 1) pa_nil)) (pg_tup rfl (pgs_cons (pg_name (i := 6) sc_follow_rule.nd rfl (.inl rfl)) (pgs_cons (pg_name (i := 7) sc_follow_rule.nd rfl (.inl rfl)) pgs_nil)))
      (pss_one (ps_if (pt_not (pt_val (peC C_is_letter (hr.mono (by first | decide | omega)) (by rfl) (pa_cons (pv 7) pa_nil)))) (pss_cons (ps_set (i := 8) sc_follow_rule.nd rfl (.inl rfl) (pe_slice sl_tupA (pv 1) (po_some (pe_op op_add (pv 6) pe_int)) po_none))
      (pss_cons (ps_set (i := 9) sc_follow_rule.nd rfl (.inl rfl) (peC C_begins_with (hr.mono (by first | decide | omega)) (by rfl) (pa_cons (pv 8) (pa_cons (pv 3) (pa_cons (pv 4) pa_nil)))))
      (pss_cons (ps_if (pt_val (pe_callB (cr_all rfl) (by rfl) T.b_all (by decide +kernel) (pa_cons (pe_lc (own := [("one", 11)]) (g := (gName 11)) (tt := tYes) (te := (tOp (rIn K false) (tVar 11) (tVar 4))) rfl sc_follow_rule.nd (pi_tup (pv 8)) (blkOk_by (N := ["name", "parts", "found", "known", "hollow", "grown", "place", "part", "rest", "behind", "letter", "one"]) (sc := defScope s_follow_rule) (by decide +kernel)) (fun _ _ _ _ _ => (pg_name (i := 11) sc_follow_rule.nd rfl (.inl rfl))) (fun _ _ _ _ _ => pts_nil) (fun _ _ _ _ _ => (pe_cmpR op_in_seq (pv 11) (pv 4) rfl))) pa_nil))) (pss_one (ps_set (i := 9) sc_follow_rule.nd rfl (.inl rfl) (pe_op op_cat (pv 9) (pe_callTy (call_list_dK rfl) (by rfl) T.b_list (by decide +kernel) (pa_cons (pe_dget hu (pv 2) (pv 0) (fun _ _ => rfl)) pa_nil))))) pss_nil)
      (pss_one (ps_for PassesOwn.never rfl (pi_list (pv 9)) (pg_name (i := 10) sc_follow_rule.nd rfl (.inl rfl))
      (pss_one (ps_if (pt_cmp (pc_dnotin hu (pv 10) (pe_dget hu (pv 2) (pv 7) (fun _ _ => rfl)))) (pss_cons (ps_dput hu (pe_dget hu (pv 2) (pv 7) (fun _ _ => rfl)) (pv 10) pe_bl rfl)
      (pss_one (ps_set (i := 5) sc_follow_rule.nd rfl (.inl rfl) pe_bl))) pss_nil))))))) pss_nil)))
      (pss_one (ps_ret (pv 5))))), fun X ds d Z h M0 H0 Q q => ?_⟩
  cases h
  case mk o g p ads r k kn hol sok hr ki kin xd =>
  have h6 := sok.h6 r hr
  have hr1 : r.1 ∈ namesS g := mem_namesS.mpr (List.mem_map.mpr ⟨r, hr, rfl⟩)
  refine hs_set (ev_all ed_cbl) (hs_forX r.2.zipIdx (fun x : Sym × Nat => .tup [.int (x.2 : Int), es o x.1]) (fun i s X1 => s = (r.2.zipIdx.take i).foldl (fwAt r.1 kn hol r.2) (k, false) ∧ KI (namesS g) s.1 ∧ XD o X1 p ads s.1)
    (fun s : KB => [some (es o r.1), some (.tup (r.2.map (es o))), some (.opq (.ref p)), some (encKB o kn), some (.lst (hol.map (es o))), some (.bl s.2), none, none, none, none, none, none]) (k, false) (eix_mask (by rw [← enumD_zip]; exact ei_enumT (ed_var rfl))) ⟨rfl, ki, xd⟩ (fun M1 H1 bl i x s X1 hx ⟨es1, ki1, xd1⟩ => ⟨_, tg_tup2 (by simp) (by simp) (lt_b rfl) (lt_b rfl), fun JJ hJ => ?_⟩) fun s X1 ⟨es1, ki1, xd1⟩ => ?_)
  · obtain ⟨pt, j⟩ := x
    have hpj : r.2[j]? = some pt := by
      have := List.mem_of_getElem? hx
      rw [List.mem_zipIdx_iff_getElem?] at this
      exact this
    have hptm := List.mem_of_getElem? hpj
    have hjl := lt_of_at hpj
    have e2 := fold_take (f := fwAt r.1 kn hol r.2) (s := (k, false)) hx
    rw [← es1] at e2
    refine ho_when (ett (et_not (et_B (ed_call (ea_cons (ed_var rfl) ea_nil) (r_isL o pt))))) (fun e => ?_) fun e => ?_
    · simp only [Bool.not_eq_true'] at e
      have hpt := sok.parts hr hptm e
      have eA : fwAt r.1 kn hol r.2 s (pt, j) = (fwBehind r.1 kn hol s (r.2.drop (j + 1))).foldl (addTo pt) s := by
        unfold fwAt
        rw [e, if_neg (by decide)]
      rw [eA] at e2
      have hN := fwBehind_N (nm := r.1) (hol := hol) (rest := r.2.drop (j + 1)) ki1 kin
      have hrl : (r.2.drop (j + 1)).length ≤ 6 := by rw [List.length_drop]; omega
      refine hs_set (ev_all ((ed_sliceT (ds := r.2.map (es o)) (ed_var rfl) (eo_some (ed_add (ed_var rfl) ed_cint)) eo_none).is (by rw [cut_hi hjl]))) ?_
      have hbl := begins_len kn hol (fun q => by
        cases e : getA kn q with
        | none => simp
        | some l =>
          have := kin.nd _ (getA_mem e)
          have q7 := sym_len this.1
          simpa using q7) (r.2.drop (j + 1)) []
      generalize hrest : r.2.drop (j + 1) = rest at *
      refine hs_set (ev_all (ed_call (ea_cons (ed_var rfl) (ea_cons (ed_var rfl) (ea_cons (ed_var rfl) ea_nil))) (R_begins_with.mk o rest kn hol hrl fun q hq hl => ?_))) ?_
      · have hq2 : q ∈ r.2 := by
          rw [← hrest] at hq
          exact List.mem_of_mem_drop hq
        obtain ⟨l, h1, h2, _⟩ := kin.get (sok.parts hr hq2 hl)
        exact ⟨l, h1, h2⟩
      obtain ⟨l0, g1, g2, g3, g4⟩ := ki1.get hr1
      refine hs_ifTo [some (es o r.1), some (.tup (r.2.map (es o))), some (.opq (.ref p)), some (encKB o kn), some (.lst (hol.map (es o))), some (.bl s.2), some (.int (j : Int)), some (es o pt), some (.tup (rest.map (es o))), some (.lst ((fwBehind r.1 kn hol s rest).map (es o))), none, none] (b := okE hol rest) (ett (et_B (ed_allLc rest (es o) (fun q => decide (q ∈ hol)) (ei_tup (ed_var rfl)) (by omega) fun q hq => ⟨_, ts_name (by simp), ed_inLs (ed_var rfl) (ed_var rfl)⟩))) (fun e3 E kk => ?_) (fun e3 => ?_) ?_
      · refine ho_asgX (S := (· = X1)) (exx_flat (i := 2) (p := p) (d := .lst ((fwBehind r.1 kn hol s rest).map (es o))) xd1.nt (by simp) rfl xd1.rep ((ef_cat (ds := (begins kn hol [] rest).map (es o)) (es := l0.map (es o)) (ed_var rfl) ((ef_listD (ks := setD o l0) (ed_dgetA (enc := fun l => .dct (setD o l)) (ed_var rfl) (ed_var rfl) g1)).ed.is (by rw [keys_set])) ?_).is ?_) (imms_es o _)) (tg_name (by simp) (lt_b rfl)) fun X2 hX2 => by subst hX2; exact kk
        · rw [List.length_map, List.length_map]
          simp at hbl
          omega
        · unfold fwBehind
          rw [e3, if_pos rfl, g1, Option.getD_some, List.map_append]
      · have : fwBehind r.1 kn hol s rest = begins kn hol [] rest := by
          unfold fwBehind
          rw [e3, if_neg (by decide), List.append_nil]
        rw [this]
        exact LeG.refl _
      generalize fwBehind r.1 kn hol s rest = beh at *
      refine ho_forX beh (es o) (fun m s2 X5 => s2 = (beh.take m).foldl (addTo pt) s ∧ KI (namesS g) s2.1 ∧ XD o X5 p ads s2.1) (fun s2 : KB => [some (es o r.1), some (.tup (r.2.map (es o))), some (.opq (.ref p)), some (encKB o kn), some (.lst (hol.map (es o))), some (.bl s2.2), none, some (es o pt), none, some (.lst (beh.map (es o))), none, none]) s
        (eix_mask (ei_list (ed_var rfl))) ⟨rfl, ki1, xd1⟩ (fun M2 H2 bl2 m y s2 X5 hy ⟨es2, ki2, xd5⟩ => ⟨_, tg_name (by simp) (lt_b rfl), fun JJ hJ => ?_⟩) fun s2 X5 ⟨es2, ki2, xd5⟩ => ?_
      · obtain ⟨l, hl1, hl2, hl3, hl4⟩ := ki2.get hpt
        have hyN := hN y (List.mem_of_getElem? hy)
        have e4 := fold_take (f := addTo pt) (s := s) hy
        rw [← es2] at e4
        refine ho_ifX (etx (i := 2) (p := p) (by simp) rfl xd5.rep (et_B (ed_dnotins (l := l) (ed_var rfl) (ed_dgetA (enc := fun l => .dct (setD o l)) (ed_var rfl) (ed_var rfl) hl1)))) (fun e => ?_) fun e => ?_
        · simp only [Bool.not_eq_true', decide_eq_false_iff_not] at e
          rw [addTo_no hl1 e] at e4
          refine (hs_xput rfl xd5 (ed_var rfl) (ed_var rfl) hl1 e (by omega) fun X6 xd6 => ho_asg (ev_all ed_cbl) (tg_name (by simp) (lt_b rfl)) ?_)
          exact nx_sjx (hJ (addAt s2.1 pt y, true) X6 ⟨e4.symm, ki2.add hyN, xd6⟩)
        · simp only [Bool.not_eq_false', decide_eq_true_eq] at e
          rw [addTo_yes hl1 e] at e4
          exact nx_sjx (hJ s2 X5 ⟨e4.symm, ki2, xd5⟩)
      · rw [List.take_length] at es2
        exact nx_sjx (hJ s2 X5 ⟨by rw [e2, es2], ki2, xd5⟩)
    · simp only [Bool.not_eq_false'] at e
      have eA : fwAt r.1 kn hol r.2 s (pt, j) = s := by
        unfold fwAt
        rw [e, if_pos rfl]
      rw [eA] at e2
      exact nx_sjx (hJ s X1 ⟨e2.symm, ki1, xd1⟩)
  · rw [List.take_length] at es1
    have e1 : s = fwRule r.1 kn hol r.2 k := es1
    rw [← e1] at q
    exact ho_retX (S := (· = X1)) (EV.x (ev_all (ed_var rfl))) fun v X' M' H' hS g hx rv => q v X' M' H' (by rw [hS]; exact xd1) g hx rv

inductive R_followers_by : List D → D → Prop | mk (o : Bool) (g : SG) (mk : Marks g) (sok : SOk g) : R_followers_by [encSG o g] (encKB o mk.fw.1)
theorem cal_followers_by (T : Txt K mg) : Cal P w K mg base 5 "followers_by" ["grammar"] (spF R_followers_by) := by
  have C_useful_rules := cal_useful_rules (P := P) (w := w) (base := base) T
  have C_reached_from := cal_reached_from (P := P) (w := w) (base := base) T
  have C_empties_by := cal_empties_by (P := P) (w := w) (base := base) T
  have C_firsts_by := cal_firsts_by (P := P) (w := w) (base := base) T
  have C_names_by := cal_names_by (P := P) (w := w) (base := base) T
  have C_makes_by := cal_makes_by (P := P) (w := w) (base := base) T
  have C_follow_rule := cal_follow_rule (P := P) (w := w) (base := base) T
  refine T.d_followers_by.cal sc_followers_by [] (by simp) (fun ds d h => by cases h; rfl) fun f cdv A outer s H E hr => ?_
  have hu := hu_of hr
  refine ⟨_, (pss_cons (ps_set (i := 1) sc_followers_by.nd rfl (.inl rfl) (peC C_useful_rules (hr.mono (by first | decide | omega)) (by rfl) (pa_cons (pv 0) pa_nil)))
      (pss_cons (ps_set (i := 2) sc_followers_by.nd rfl (.inl rfl) (peC C_reached_from (hr.mono (by first | decide | omega)) (by rfl) (pa_cons (pv 1) (pa_cons (pe_ix ix_tup (pe_ix ix_list (pv 0) pe_int (fun _ _ => rfl)) pe_int (fun _ _ => rfl)) pa_nil))))
      (pss_cons (ps_set (i := 3) sc_followers_by.nd rfl (.inl rfl) (peC C_empties_by (hr.mono (by first | decide | omega)) (by rfl) (pa_cons (pv 0) pa_nil)))
      (pss_cons (ps_set (i := 4) sc_followers_by.nd rfl (.inl rfl) (peC C_firsts_by (hr.mono (by first | decide | omega)) (by rfl) (pa_cons (pv 0) pa_nil)))
      (pss_cons (ps_set (i := 5) sc_followers_by.nd rfl (.inl rfl) pe_dnewK)
      (pss_cons (ps_for PassesOwn.never rfl (pi_list (peC C_names_by (hr.mono (by first | decide | omega)) (by rfl) (pa_cons (pv 0) pa_nil))) (pg_name (i := 6) sc_followers_by.nd rfl (.inl rfl))
      (pss_one (ps_dput hu (pv 5) (pv 6) pe_dnewK rfl)))
      (pss_cons (ps_if (pt_cmpR op_notIn_seq (pe_ix ix_tup (pe_ix ix_list (pv 0) pe_int (fun _ _ => rfl)) pe_int (fun _ _ => rfl)) (peC C_makes_by (hr.mono (by first | decide | omega)) (by rfl) (pa_cons (pv 0) pa_nil)) rfl) (pss_one (ps_ret (pv 5))) pss_nil)
      (pss_cons (ps_dput hu (pe_dget hu (pv 5) (pe_ix ix_tup (pe_ix ix_list (pv 0) pe_int (fun _ _ => rfl)) pe_int (fun _ _ => rfl)) (fun _ _ => rfl)) (peGS (by rfl) T.c_END) pe_bl rfl)
      (pss_cons (ps_set (i := 7) sc_followers_by.nd rfl (.inl rfl) pe_bl)
      (pss_cons (ps_while PassesOwn.never (pt_val (pv 7))
      (pss_cons (ps_set (i := 7) sc_followers_by.nd rfl (.inl rfl) pe_bl)
      (pss_one (ps_for PassesOwn.never rfl (pi_list (pv 1)) (pg_tup rfl (pgs_cons (pg_name (i := 6) sc_followers_by.nd rfl (.inl rfl)) (pgs_cons (pg_name (i := 8) sc_followers_by.nd rfl (.inl rfl)) pgs_nil)))
      (pss_one (ps_if (pt_cmp (pc_din hu (pv 6) (pv 2))) (pss_one (ps_set (i := 7) sc_followers_by.nd rfl (.inl rfl) (pe_or (peC C_follow_rule (hr.mono (by first | decide | omega)) (by rfl) (pa_cons (pv 6) (pa_cons (pv 8) (pa_cons (pv 5) (pa_cons (pv 4) (pa_cons (pv 3) pa_nil)))))) (pe_one (pv 7))))) pss_nil))))))
      (pss_one (ps_ret (pv 5))))))))))))), fun ds d h M0 H0 Q q => ?_⟩
  cases h
  case mk o g mk sok =>
  have hcl : ∀ r ∈ useful g (marked g mk.m.1), r ∈ g := fun r hr => useful_sub hr
  have hfw : FwW (useful g (marked g mk.m.1)) mk.fr.1 (marked g mk.e.1) mk.rcu.1 (namesS g) (first g) (marked g mk.m.1) mk.n6 mk.fw := mk.hfw
  have hrcu := mk.hrcu
  have nd := nd_namesS g
  have nl := namesS_len g
  have kin := mk.ki
  have hf : first g ∈ namesS g := by
    obtain ⟨r, h1, h2⟩ := first_at sok.ne
    exact mem_namesS.mpr (List.mem_map.mpr ⟨r, List.mem_of_getElem? h1, h2⟩)
  refine hs_set (ev_all (ed_call (ea_cons (ed_var rfl) ea_nil) (R_useful_rules.mk o g _ _ sok mk.hm))) ?_
  refine hs_set (ev_all (ed_call (ea_cons (ed_var rfl) (ea_cons (ed_grammar0 (ed_var rfl) sok.ne) ea_nil)) (R_reached_from.mk o (useful g (marked g mk.m.1)) (first g) _ _ hrcu))) ?_
  refine hs_set (ev_all (ed_call (ea_cons (ed_var rfl) ea_nil) (R_empties_by.mk o g _ _ sok mk.he))) ?_
  refine hs_set (ev_all (ed_call (ea_cons (ed_var rfl) ea_nil) (R_firsts_by.mk o g mk sok))) ?_
  generalize useful g (marked g mk.m.1) = rs at *
  generalize marked g mk.e.1 = hol at *
  generalize mk.fr.1 = kn at *
  generalize mk.rcu.1 = sn at *
  refine hs_xnew o (fun p X1 xd1 => ?_) rfl
  refine hs_forX (namesS g) (es o) (fun i _ X2 => ∃ ads, XD o X2 p ads (k0 ((namesS g).take i))) (fun _ : Unit => [some (encSG o g), some (encSG o rs), some (.dct (setD o sn)), some (.lst (hol.map (es o))), some (encKB o kn), some (.opq (.ref p)), none, none, none]) () (eix_mask (ei_list (ed_call (ea_cons (ed_var rfl) ea_nil) (R_names_by.mk o g)))) ⟨[], xd1⟩ (fun M1 H1 bl i x _ X2 hx ⟨ads, xd⟩ => ⟨_, tg_name (by simp) (lt_b rfl), fun JJ hJ => ?_⟩) fun _ X2 ⟨ads, xd⟩ => ?_
  · refine ho_xname rfl rfl xd (by rw [k0_keys]; exact not_before nd hx) (by unfold k0; rw [List.length_map, List.length_take]; omega) fun X3 ads3 xd3 => ?_
    rw [← k0_succ hx] at xd3
    exact nx_sjx (hJ () X3 ⟨ads3, xd3⟩)
  rw [List.take_length] at xd
  have kz := KI.zero (namesS g)
  refine hs_if (ett (et_test (ed_notInLs (ed_grammar0 (ed_var rfl) sok.ne) (ed_call (ea_cons (ed_var rfl) ea_nil) (R_makes_by.mk o g _ _ sok mk.hm))))) (fun e => ?_) fun e => ?_
  · simp only [Bool.not_eq_true', decide_eq_false_iff_not] at e
    have hz : mk.fw = (k0 (namesS g), true) := by
      unfold FwW at hfw
      rw [if_neg e] at hfw
      exact hfw
    rw [hz] at q
    exact ho_retRaw (by simp) rfl xd.rep q
  · simp only [Bool.not_eq_false', decide_eq_true_eq] at e
    have hw : Wh (fun s => s.2) (fwPass rs kn hol sn) mk.n6 (addAt (k0 (namesS g)) (first g) .dot, true) mk.fw := by
      unfold FwW at hfw
      rw [if_pos e] at hfw
      exact hfw
    obtain ⟨l, hl1, hl2, _⟩ := kz.get hf
    have hl0 : l = [] := by
      have := getA_mem hl1
      obtain ⟨x, _, e⟩ := List.mem_map.mp this
      cases e
      rfl
    refine (hs_xput (x := first g) (y := .dot) rfl xd (ed_grammar0 (ed_var rfl) sok.ne) (ed_cstr.is (by cases o <;> rfl)) hl1 (by rw [hl0]; simp) (by omega) fun X3 xd3 => ?_)
    refine hs_set (ev_all ed_cbl) (hs_whileX (fun s : KB => [some (encSG o g), some (encSG o rs), some (.dct (setD o sn)), some (.lst (hol.map (es o))), some (encKB o kn), some (.opq (.ref p)), none, some (.bl s.2), none]) (fun s X3 => KI (namesS g) s.1 ∧ XD o X3 p ads s.1) hw ⟨kz.add rfl, xd3⟩ (fun s X3 _ => ett (et_B (ed_var rfl))) (fun s X3 JJ ⟨ki, xd3⟩ _ hJ => ?_) fun X3 ⟨ki, xd3⟩ _ => ?_)
    · refine hs_set (ev_all ed_cbl) (ho_forX rs (encSR o) (fun i s' X4 => s' = (rs.take i).foldl (fwStep kn hol sn) (s.1, false) ∧ KI (namesS g) s'.1 ∧ XD o X4 p ads s'.1) (fun s : KB => [some (encSG o g), some (encSG o rs), some (.dct (setD o sn)), some (.lst (hol.map (es o))), some (encKB o kn), some (.opq (.ref p)), none, some (.bl s.2), none]) (s.1, false) (eix_mask (ei_list (ds := rs.map (encSR o)) (ed_var rfl))) ⟨rfl, ki, xd3⟩ (fun M1 H1 bl i r s' X4 hr ⟨es', ki', xd4⟩ => ⟨_, tg_tup2 (by simp) (by simp) (lt_b rfl) (lt_b rfl), fun JJ hJ => ?_⟩) fun s' X4 ⟨es', ki', xd4⟩ => ?_)
      · have hrg := hcl r (List.mem_of_getElem? hr)
        have e2 := fold_take (f := fwStep kn hol sn) (s := (s.1, false)) hr
        rw [← es'] at e2
        refine ho_when (ett (et_B (ed_dins (ed_var rfl) (ed_var rfl)))) (fun e => ?_) fun e => ?_
        · simp only [decide_eq_true_eq] at e
          unfold fwStep at e2
          rw [if_pos e] at e2
          refine ho_asgX (ex_orV (ex_callX (eav_cons (ev_all (ed_var rfl)) (eav_cons (ev_all (ed_var rfl)) (eav_cons (ev_all (ed_var rfl)) (eav_cons (ev_all (ed_var rfl)) (eav_cons (ev_all (ed_var rfl)) eav_nil))))) (R_follow_rule.mk o g X4 p ads r s'.1 kn hol sok hrg xd4 ki' kin)) (ev_all (ed_var rfl))) (tg_name (by simp) (lt_b rfl)) fun X5 xd5 => ?_
          exact nx_sjx (hJ ((fwRule r.1 kn hol r.2 s'.1).1, (fwRule r.1 kn hol r.2 s'.1).2 || s'.2) X5 ⟨e2.symm, KI.fwRule kin ki', xd5⟩)
        · simp only [decide_eq_false_iff_not] at e
          unfold fwStep at e2
          rw [if_neg e] at e2
          exact nx_sjx (hJ s' X4 ⟨e2.symm, ki', xd4⟩)
      · rw [List.take_length] at es'
        exact nx_sjx (hJ X4 ⟨by show KI _ (fwPass rs kn hol sn s).1; unfold fwPass; rw [← es']; exact ki', by show XD o X4 p ads (fwPass rs kn hol sn s).1; unfold fwPass; rw [← es']; exact xd4⟩) (by rw [es']; exact LeG.refl _)
    · exact ho_retRaw (by simp) rfl xd3.rep q
inductive R_followers : List D → D → Prop | mk (o : Bool) (g : SG) (mk : Marks g) (sok : SOk g) : R_followers [encSG o g] (.lst ((rowsOf g mk.fw.1).map (encRow o)))
theorem cal_followers (T : Txt K mg) : Cal P w K mg base 6 "followers" ["grammar"] (spF R_followers) := by
  have C_must_be_grammar := cal_must_be_grammar (P := P) (w := w) (base := base) T
  have C_followers_by := cal_followers_by (P := P) (w := w) (base := base) T
  have C_names_by := cal_names_by (P := P) (w := w) (base := base) T
  refine T.d_followers.cal sc_followers [] (by simp) (fun ds d h => by cases h; rfl) fun f cdv A outer s H E hr => ?_
  have hu := hu_of hr
  refine ⟨_, (pss_cons (ps_expr (peC C_must_be_grammar (hr.mono (by first | decide | omega)) (by rfl) (pa_cons (pv 0) pa_nil)))
      (pss_cons (ps_set (i := 1) sc_followers.nd rfl (.inr rfl) (peC C_followers_by (hr.mono (by first | decide | omega)) (by rfl) (pa_cons (pv 0) pa_nil)))
      (pss_one (ps_ret (pe_lc (own := [("name", 2)]) (g := (gName 2)) (tt := tYes) (te := (tTup (tCons (tVar 2) (tCons (tCB (rSortedS K) (tCons (tCB rListD (tCons (tDGet (tVar 1) (tVar 2)) tNil)) tNil)) tNil)))) rfl sc_followers.nd (pi_list (peC C_names_by (hr.mono (by first | decide | omega)) (by rfl) (pa_cons (pv 0) pa_nil))) (blkOk_by (N := ["grammar", "found", "name"]) (sc := defScope s_followers) (by decide +kernel)) (fun _ _ _ _ _ => (pg_name (i := 2) sc_followers.nd rfl (.inl rfl))) (fun _ _ _ _ _ => pts_nil) (fun _ _ _ _ _ => (pe_tup (pa_cons (pv 2) (pa_cons (pe_callB cr_sortedS (by rfl) T.b_sorted (by decide +kernel) (pa_cons (pe_callTy (call_list_dK rfl) (by rfl) T.b_list (by decide +kernel) (pa_cons (pe_dget hu (pv 1) (pv 2) (fun _ _ => rfl)) pa_nil)) pa_nil)) pa_nil))))))))), fun ds d h M0 H0 Q q => ?_⟩
  cases h
  case mk o g mk sok =>
  refine hs_drop (ev_all (ed_call (ea_cons (ed_var rfl) ea_nil) (R_must_be_grammar.mk o g sok))) (hs_set (ev_all (ed_call (ea_cons (ed_var rfl) ea_nil) (R_followers_by.mk o g mk sok))) (ho_ret (ev_all ((ef_lcM (namesS g) (es o) (fun x => .tup [es o x, .lst ((sortI ((getA mk.fw.1 x).getD [])).map (es o))]) (ei_list (ed_call (ea_cons (ed_var rfl) ea_nil) (R_names_by.mk o g))) (by have := namesS_len g; omega) fun x hx => ⟨_, ts_name (by simp), ed_tup (ea_cons (ed_var rfl) (ea_cons ?_ ea_nil)) (le_b rfl)⟩).ed.is (by rw [rows_enc]))) q))
  obtain ⟨l, h1, h2, h3, h4⟩ := mk.ki2.get hx
  rw [h1, Option.getD_some]
  exact (ef_sorts ((ef_listD (ks := setD o l) (ed_dgetA (enc := fun l => .dct (setD o l)) (ed_var rfl) (ed_var rfl) h1)).ed.is (by rw [keys_set])) h4 (by omega)).ed
end
end RN

end
section
set_option maxRecDepth 100000
set_option maxHeartbeats 4000000
namespace RN
open PySem L2 Sym
/-! ### papers -/
theorem joinL_mem {S : List Nat} {c : Nat} : ∀ {ps : List (List Nat)}, c ∈ TL.joinL S ps → c ∈ S ∨ ∃ p ∈ ps, c ∈ p
  | [], h => by simp [TL.joinL] at h
  | [p], h => .inr ⟨p, by simp, h⟩
  | p :: q :: r, h => by
    have h' : c ∈ p ++ (S ++ TL.joinL S (q :: r)) := h
    rcases List.mem_append.mp h' with e | e
    · exact .inr ⟨p, by simp, e⟩
    · rcases List.mem_append.mp e with e | e
      · exact .inl e
      · rcases joinL_mem e with e | ⟨z, hz, e⟩
        · exact .inl e
        · exact .inr ⟨z, by simp only [List.mem_cons] at hz ⊢; exact .inr hz, e⟩
theorem joinL_len (S : List Nat) : ∀ ps : List (List Nat), (TL.joinL S ps).length ≤ (ps.map List.length).sum + ps.length * S.length
  | [] => by simp [TL.joinL]
  | [p] => by simp [TL.joinL]
  | p :: q :: r => by
    have ih := joinL_len S (q :: r)
    show (p ++ (S ++ TL.joinL S (q :: r))).length ≤ _
    rw [List.length_append, List.length_append, List.map_cons, List.sum_cons, List.length_cons (a := p), Nat.succ_mul]
    omega
theorem em_free (o : Bool) (x : Sym) : 10 ∉ TL.tl (em o x) ∧ 32 ∉ TL.tl (em o x) := by cases o <;> cases x <;> decide +kernel
def wordsS (o : Bool) (r : Sym × List Sym) : List Str := [em o r.1, "="] ++ r.2.map (em o)
def lineS (o : Bool) (r : Sym × List Sym) : Str := Txt.join " " (wordsS o r)
def shownS (o : Bool) (g : SG) : Str := Txt.join "\n" (g.map (lineS o))
theorem words_free {o : Bool} {r : Sym × List Sym} {w : Str} (h : w ∈ wordsS o r) : (10 ∉ TL.tl w ∧ 32 ∉ TL.tl w) ∧ w.length ≤ 3 := by
  unfold wordsS at h
  rcases List.mem_append.mp h with e | e
  · rcases List.mem_cons.mp e with e | e
    · rw [e]
      exact ⟨em_free o _, (em_len o _).2⟩
    · have : w = "=" := by simpa using e
      rw [this]
      decide +kernel
  · obtain ⟨x, _, rfl⟩ := List.mem_map.mp e
    exact ⟨em_free o _, (em_len o _).2⟩
theorem split_words (o : Bool) (r : Sym × List Sym) : Txt.split (lineS o r) " " = wordsS o r :=
  TL.split_join (s := 32) (S := []) rfl (by decide +kernel) (by unfold wordsS; simp) fun p hp => (words_free hp).1.2
theorem line_free {o : Bool} {r : Sym × List Sym} : 10 ∉ TL.tl (lineS o r) := by
  unfold lineS
  rw [TL.join_eq, TL.tl_join]
  intro h
  rcases joinL_mem h with e | ⟨p, hp, e⟩
  · revert e
    decide +kernel
  · obtain ⟨w, hw, rfl⟩ := List.mem_map.mp hp
    exact (words_free hw).1.1 e
theorem split_lines (o : Bool) {g : SG} (h : g ≠ []) : Txt.split (shownS o g) "\n" = g.map (lineS o) :=
  TL.split_join (s := 10) (S := []) rfl (by decide +kernel) (fun e => h (List.map_eq_nil_iff.mp e)) fun p hp => by
    obtain ⟨r, _, rfl⟩ := List.mem_map.mp hp
    exact line_free
theorem join_len (z : Str) (ps : List Str) : (Txt.join z ps).length ≤ (ps.map (·.length)).sum + ps.length * z.length := by
  rw [TL.len_tl, TL.join_eq, TL.tl_join]
  have q := joinL_len (TL.tl z) (ps.map TL.tl)
  rw [List.length_map, List.map_map, ← TL.len_tl] at q
  have e : (ps.map (List.length ∘ TL.tl)) = ps.map (·.length) := List.map_congr_left fun x _ => (TL.len_tl x).symm
  rw [e] at q
  exact q
theorem sum_le_of {α : Type} (f : α → Nat) (n : Nat) : ∀ l : List α, (∀ x ∈ l, f x ≤ n) → (l.map f).sum ≤ l.length * n
  | [], _ => by simp
  | x :: l, h => by
    have h1 := h x (by simp)
    have h2 := sum_le_of f n l fun y hy => h y (by simp [hy])
    rw [List.map_cons, List.sum_cons, List.length_cons, Nat.succ_mul]
    omega
theorem words_len {o : Bool} {r : Sym × List Sym} (h : r.2.length ≤ 6) : (wordsS o r).length ≤ 8 ∧ ((wordsS o r).map (·.length)).sum ≤ 24 := by
  have h1 : (wordsS o r).length ≤ 8 := by
    unfold wordsS
    rw [List.length_append, List.length_map]
    simp
    omega
  have h2 := sum_le_of (fun w : Str => w.length) 3 (wordsS o r) fun w hw => (words_free hw).2
  exact ⟨h1, by omega⟩
theorem line_len {o : Bool} {r : Sym × List Sym} (h : r.2.length ≤ 6) : (lineS o r).length ≤ 32 := by
  have h1 := words_len (o := o) h
  have h2 := join_len " " (wordsS o r)
  have e : ((" " : Str).length) = 1 := rfl
  rw [e] at h2
  unfold lineS
  omega
theorem lines_sum {o : Bool} {g : SG} (h : SOk g) : ((g.map (lineS o)).map (·.length)).sum ≤ 1280 := by
  have q := sum_le_of (fun w : Str => w.length) 32 (g.map (lineS o)) fun w hw => by
    obtain ⟨r, hr, rfl⟩ := List.mem_map.mp hw
    exact line_len (h.h6 r hr)
  rw [List.length_map] at q
  have := h.len
  omega
theorem shown_len {o : Bool} {g : SG} (h : SOk g) : (shownS o g).length ≤ 1320 := by
  have h1 := lines_sum (o := o) h
  have h2 := join_len "\n" (g.map (lineS o))
  have e : (("\n" : Str).length) = 1 := rfl
  rw [e, List.length_map] at h2
  have := h.len
  unfold shownS
  omega
/-! cuts of a text -/
theorem cut_tl {z : Str} {m n : Nat} (h1 : m ≤ n) (h2 : n ≤ z.length) : TL.tl (cutS z (some (m : Int)) (some (n : Int))) = ((TL.tl z).drop m).take (n - m) := by
  unfold cutS
  rw [HT.sIx_nat, HT.sIx_nat, Nat.min_eq_left h2, Nat.min_eq_left (by omega)]
theorem cut1 {z : Str} {m c : Nat} {r : List Nat} (h : (TL.tl z).drop m = c :: r) : cutS z (some (m : Int)) (some ((m : Int) + 1)) = ⟨#[c]⟩ := by
  have hl := lt_of_at (drop_at h).1
  rw [← TL.len_tl] at hl
  have e : (m : Int) + 1 = ((m + 1 : Nat) : Int) := by omega
  refine TL.ext_tl ?_
  rw [e, cut_tl (by omega) (by omega), h, Nat.add_sub_cancel_left]
  rfl
theorem one_inj {c d : Nat} : ((⟨#[c]⟩ : Str) = ⟨#[d]⟩) ↔ c = d := by
  constructor
  · intro h
    have := congrArg TL.tl h
    simpa [TL.tl] using this
  · intro h; rw [h]
theorem one_ne {c : Nat} : ¬ ((⟨#[c]⟩ : Str) = "") := by
  intro h
  have := congrArg TL.tl h
  have e : TL.tl ("" : Str) = [] := rfl
  rw [e] at this
  simp [TL.tl] at this
theorem figs (c : Nat) : c ∈ cFIGURES.cps.toList ↔ 48 ≤ c ∧ c ≤ 57 := by
  have e : cFIGURES.cps.toList = [48, 49, 50, 51, 52, 53, 54, 55, 56, 57] := by decide +kernel
  rw [e]
  simp only [List.mem_cons, List.not_mem_nil, or_false]
  omega
theorem lets {c : Nat} (h : c ∈ cLETTERS.cps.toList) : 97 ≤ c ∧ c ≤ 122 := by
  have e : cLETTERS.cps.toList = [97, 98, 99, 100, 101, 102, 103, 104, 105, 106, 107, 108, 109, 110, 111, 112, 113, 114, 115, 116, 117, 118, 119, 120, 121, 122] := by decide +kernel
  rw [e] at h
  simp only [List.mem_cons, List.not_mem_nil, or_false] at h
  omega
/-! trees written -/
mutual
def wcT (o : Bool) : Tr → List Nat
  | .leaf x => TL.tl (em o x)
  | .node n l => TL.numL n ++ 40 :: (TL.joinL [32] (wcL o l) ++ [41])
def wcL (o : Bool) : List Tr → List (List Nat)
  | [] => []
  | t :: l => wcT o t :: wcL o l
end
theorem wcL_map (o : Bool) : ∀ l : List Tr, wcL o l = l.map (wcT o)
  | [] => rfl
  | t :: l => by rw [wcL, wcL_map o l, List.map_cons]
def wrT (o : Bool) (t : Tr) : Str := ⟨(wcT o t).toArray⟩
theorem tl_wr (o : Bool) (t : Tr) : TL.tl (wrT o t) = wcT o t := rfl
theorem num2 {n : Nat} (h : n < 100) : (TL.numL n).length ≤ 2 := TL.numL_len (k := 2) (by decide) h
mutual
theorem wcT_len {g : SG} (h6 : ∀ r ∈ g, r.2.length ≤ 6) (hg : g.length ≤ 99) (o : Bool) : ∀ {x : Sym} {t : Tr}, Okt g x t → (wcT o t).length ≤ 16 * cntT t + 1
  | _, _, .leaf h => by
    rw [wcT, em_cd (isN_of_isL h)]
    simp [TL.tl]
  | _, _, .node (l := l) e h => by
    have q := wcL_len h6 hg o h
    have e2 := Okts.parts h6 e
    have e3 := num2 (Nat.lt_of_lt_of_le (lt_of_at e) (by omega))
    have e4 := joinL_len [32] (wcL o l)
    have e5 := h.len
    have e6 : (wcL o l).length = l.length := by rw [wcL_map, List.length_map]
    rw [wcT, cntT, List.length_append, List.length_cons, List.length_append, List.length_singleton]
    simp only [List.length_singleton] at e4
    omega
theorem wcL_len {g : SG} (h6 : ∀ r ∈ g, r.2.length ≤ 6) (hg : g.length ≤ 99) (o : Bool) : ∀ {ps : List Sym} {l : List Tr}, Okts g ps l → ((wcL o l).map List.length).sum ≤ 16 * cntL l + l.length
  | _, _, .nil => by simp [wcL]
  | _, _, .cons h r => by
    have q1 := wcT_len h6 hg o h
    have q2 := wcL_len h6 hg o r
    rw [wcL, cntL, List.map_cons, List.sum_cons, List.length_cons]
    omega
end
theorem TG.wc {g : SG} {p : Sym} {t : Tr} (h : TG g p t) (hg : g.length ≤ 99) (o : Bool) : (wcT o t).length ≤ 16 * cntT t + 1 := wcT_len h.h6 hg o h.ok
theorem wc_first {g : SG} {p : Sym} {t : Tr} (h : TG g p t) (o : Bool) : ∃ c r, wcT o t = c :: r ∧ c ≠ 41 := by
  cases t with
  | leaf x =>
    have hx := h.yl.1 x (by simp [ylT])
    have := lets (cd_L o hx)
    refine ⟨cd o x, [], ?_, by omega⟩
    rw [wcT, em_cd (isN_of_isL hx)]
  | node n l =>
    rw [wcT]
    cases e : TL.numL n with
    | nil => exact absurd e (TL.numL_ne n)
    | cons c r =>
      have := TL.numL_digits n c (by rw [e]; simp)
      exact ⟨c, _, rfl, by omega⟩
def sp32 (l : List (List Nat)) : List Nat := (l.map (32 :: ·)).flatten
theorem joinL_sp : ∀ (c : List Nat) (l : List (List Nat)), TL.joinL [32] (c :: l) = c ++ sp32 l
  | y, [] => by simp [TL.joinL, sp32]
  | y, d :: l => by
    show y ++ ([32] ++ TL.joinL [32] (d :: l)) = _
    rw [joinL_sp d l]
    simp [sp32]
theorem Wh_count (m : Nat) : ∀ k, k ≤ m → Wh (fun i : Nat => decide (i < m)) (fun i => i + 1) k (m - k) m
  | 0, _ => .stop (by simp)
  | k + 1, h => by
    refine .go (by simp; omega) ?_
    have e : m - (k + 1) + 1 = m - k := by omega
    rw [e]
    exact Wh_count m k (by omega)
section
variable {P : Program} {w : World} {K : PySem.W.Frag} {mg : Str → Option Value} {base : Heap}
inductive R_shown : List D → D → Prop | mk (o : Bool) (g : SG) (sok : SOk g) : R_shown [encSG o g] (.str (shownS o g))
theorem cal_shown (T : Txt K mg) : Cal P w K mg base 5 "shown" ["grammar"] (spF R_shown) := by
  have C_must_be_grammar := cal_must_be_grammar (P := P) (w := w) (base := base) T
  refine T.d_shown.cal sc_shown [] (by simp) (fun ds d h => by cases h; rfl) fun f cdv A outer s H E hr => ?_
  refine ⟨_, (pss_cons (ps_expr (peC C_must_be_grammar (hr.mono (by first | decide | omega)) (by rfl) (pa_cons (pv 0) pa_nil)))
      (pss_one (ps_ret (pe_join pe_str (pe_lc (own := [("name", 1), ("parts", 2)]) (g := (gTup K 2 (gCons (gName 1) (gCons (gName 2) gNil)))) (tt := tYes) (te := (tM1 (rJoin K) (tC (.str " ")) (tOp rCat (tLst (tCons (tVar 1) (tCons (tC (.str "=")) tNil))) (tCB (rListOf K) (tCons (tVar 2) tNil))))) rfl sc_shown.nd (pi_list (pv 0)) (blkOk_by (N := ["grammar", "name", "parts"]) (sc := defScope s_shown) (by decide +kernel)) (fun _ _ _ _ _ => (pg_tup rfl (pgs_cons (pg_name (i := 1) sc_shown.nd rfl (.inl rfl)) (pgs_cons (pg_name (i := 2) sc_shown.nd rfl (.inl rfl)) pgs_nil)))) (fun _ _ _ _ _ => pts_nil) (fun _ _ _ _ _ => (pe_join pe_str (pe_op op_cat (pe_lst (pa_cons (pv 1) (pa_cons pe_str pa_nil))) (pe_callTy call_list_of (by rfl) T.b_list (by decide +kernel) (pa_cons (pv 2) pa_nil)))))))))), fun ds d h M0 H0 Q q => ?_⟩
  cases h
  case mk o g sok =>
  refine hs_drop (ev_all (ed_call (ea_cons (ed_var rfl) ea_nil) (R_must_be_grammar.mk o g sok))) (ho_ret (ev_all (ed_join (ss := g.map (lineS o)) ed_cstr ((ef_lcM g (encSR o) (fun r => .str (lineS o r)) (ei_list (ds := g.map (encSR o)) (ed_var rfl)) (by have := sok.len; omega) fun r hr => ⟨_, ts_tup2 (by simp) (by simp), ed_join (ss := wordsS o r) ed_cstr ((ef_cat (ds := [es o r.1, .str "="]) (es := r.2.map (es o)) (ef_lst (ea_cons (ed_var rfl) (ea_cons ed_cstr ea_nil)) (le_b rfl)).ed (ef_listT (ed_var rfl)).ed ?_).ed.is ?_) ?_⟩).ed.is ?_) ?_)) q)
  · have := sok.h6 r hr
    rw [List.length_map]
    simp
    omega
  · unfold wordsS
    rw [List.map_append, List.map_map]
    rfl
  · have := words_len (o := o) (sok.h6 r hr)
    have e : ((" " : Str).length) = 1 := rfl
    rw [e]
    omega
  · rw [List.map_map]
    rfl
  · have := lines_sum (o := o) sok
    have e : (("\n" : Str).length) = 1 := rfl
    have := sok.len
    rw [e, List.length_map]
    omega

inductive R_read : List D → D → Prop | mk (o : Bool) (g : SG) (sok : SOk g) : R_read [.str (shownS o g)] (encSG o g)
theorem cal_read (T : Txt K mg) : Cal P w K mg base 4 "read" ["text"] (spF R_read) := by
  have C_is_grammar := cal_is_grammar (P := P) (w := w) (base := base) T
  refine T.d_read.cal sc_read [1] (by simp) (fun ds d h => by cases h; rfl) fun f cdv A outer s H E hr => ?_
  refine ⟨_, (pss_cons (ps_set (i := 1) sc_read.nd rfl (.inl rfl) (pe_lst pa_nil))
      (pss_cons (ps_for PassesOwn.never rfl (pi_list (pe_split (pv 0) pe_str)) (pg_name (i := 2) sc_read.nd rfl (.inl rfl))
      (pss_cons (ps_set (i := 3) sc_read.nd rfl (.inl rfl) (pe_split (pv 2) pe_str))
      (pss_cons (ps_if (PW.pt (pw_or (pt_cmpR op_lt (pe_callB call_len_seq (by rfl) T.b_len (by decide +kernel) (pa_cons (pv 3) pa_nil)) pe_int (nomark _)) (pw_or1 (pt_cmpR op_ne (pe_ix ix_list (pv 3) pe_int (fun _ _ => rfl)) pe_str (nomark _))))) (pss_one ps_never) pss_nil)
      (pss_one (ps_expr (pe_bm PySem.F.plainAttrs_list PySem.F.slot_list_append PySem.F.type_list_append mt_append (pv 1) (pa_cons (pe_tup (pa_cons (pe_ix ix_list (pv 3) pe_int (fun _ _ => rfl)) (pa_cons (pe_callTy call_tuple_of (by rfl) T.b_tuple (by decide +kernel) (pa_cons (pe_slice sl_list (pv 3) (po_some pe_int) po_none) pa_nil)) pa_nil))) pa_nil)))))))
      (pss_cons (ps_if (pt_not (pt_val (peC C_is_grammar (hr.mono (by first | decide | omega)) (by rfl) (pa_cons (pv 1) pa_nil)))) (pss_one ps_never) pss_nil)
      (pss_one (ps_ret (pv 1)))))), fun ds d h M0 H0 Q q => ?_⟩
  cases h
  case mk o g sok =>
  refine hs_own (en_flat (ef_lst ea_nil (le_b rfl)) rfl) (hs_for g (fun r => .str (lineS o r)) (fun i => [some (.str (shownS o g)), some (.lst ((g.take i).map (encSR o))), none, none]) ?_ (fun M1 H1 bl i r hr => ⟨_, tg_name (by simp) (lt_b rfl), ?_⟩) ?_)
  · refine ei_list (((ef_split (z := shownS o g) (y := "\n") (ed_var rfl) ed_cstr rfl (by have := shown_len (o := o) sok; omega)).ed).is ?_)
    rw [split_lines o sok.ne, List.map_map]
    rfl
  · have hr6 := sok.plen hr
    have hw := (words_len (o := o) hr6).1
    refine hs_set (d := .lst ((wordsS o r).map .str)) (ev_flat ((ef_split (z := lineS o r) (y := " ") (ed_var rfl) ed_cstr rfl (by have := line_len (o := o) hr6; omega)).is (by rw [split_words])) (imms_str _)) ?_
    have e2 : (wordsS o r).map D.str = [es o r.1, .str "="] ++ r.2.map (es o) := by
      unfold wordsS
      rw [List.map_append, List.map_map]
      rfl
    rw [e2]
    refine hs_no (ett (et_orF (et_test (ed_F (ed_lt (ed_lenL (ds := [es o r.1, .str "="] ++ r.2.map (es o)) (ed_var rfl)) ed_cint) (decide_eq_false (by rw [List.length_append]; simp; omega)))) (et_test (ed_F (ed_neS (i := "=") (j := "=") (ed_ixL (j := 1) (ds := [es o r.1, .str "="] ++ r.2.map (es o)) (ed_var rfl) ed_cint rfl rfl) ed_cstr) (by simp))))) ?_
    refine ho_app (d := encSR o r) (in_b rfl) rfl (ev_imm (ed_tup (ea_cons (ed_ixL (j := 0) (ds := [es o r.1, .str "="] ++ r.2.map (es o)) (ed_var rfl) ed_cint rfl rfl) (ea_cons (ed_tupL ((ef_sliceL (ds := [es o r.1, .str "="] ++ r.2.map (es o)) (ed_var rfl) (eo_some ed_cint) eo_none).ed.is ?_)) ea_nil)) (le_b rfl)) (imm_SR o r)) (by rw [List.length_map, List.length_take]; have := sok.len; omega) ?_
    · unfold cutD
      have e3 : HT.sIx ([es o r.1, D.str "="] ++ r.2.map (es o)).length 0 (some 2) = 2 := by
        have := HT.sIx_nat ([es o r.1, D.str "="] ++ r.2.map (es o)).length 0 2
        rw [show ((2 : Nat) : Int) = 2 from rfl] at this
        rw [this, List.length_append]
        simp
      rw [e3, HT.sIx_none]
      show D.lst ((r.2.map (es o)).take _) = _
      rw [List.take_of_length_le (by rw [List.length_append]; simp)]
    · have e4 : (g.take (i + 1)).map (encSR o) = (g.take i).map (encSR o) ++ [encSR o r] := by rw [take_succ hr, List.map_append]; rfl
      rw [e4]
      exact nx_to
  · rw [List.take_length]
    refine hs_no (ett (et_notT (et_B (ed_call (ea_cons (ed_var rfl) ea_nil) (r_is_grammar o sok))))) (ho_freeze 1 (own' := []) (by simp) (ho_ret (ev_all (ed_var rfl)) q))

inductive Q_written_tree (n : Nat) : List D → D → Prop | mk (o : Bool) (g : SG) (p : Sym) (t : Tr) (ok : TG g p t) (hg : g.length ≤ 99) (hc : cntT t ≤ 200) (h : depT t < n) : Q_written_tree n [encT o t] (.str (wrT o t))
theorem calr_written_tree (T : Txt K mg) : ∀ n : Nat, Cal P w K mg base (1 + n) "written_tree" ["tree"] (spF (Q_written_tree n))
  | 0 => T.d_written_tree.none fun ds d h => by cases h; omega
  | n + 1 => by
    have C_written_tree := calr_written_tree T n
    refine T.d_written_tree.cal (k := 1 + n) sc_written_tree [] (by simp) (fun ds d h => by cases h; rfl) fun f cdv A outer s H E hr => ?_
    refine ⟨_, (pss_cons (ps_if (pt_val (pe_callB call_isi (by rfl) T.b_isinstance (by decide +kernel) (pa_cons (pv 0) (pa_cons (pe_bltn (v := .ty "str") (u := .type "str") (by rfl) T.b_str (by decide +kernel) rfl) pa_nil)))) (pss_one (ps_ret (pv 0))) pss_nil)
      (pss_one (ps_ret (pe_op op_add_str (pe_op op_add_str (pe_op op_add_str (pe_callTy call_str_int (by rfl) T.b_str (by decide +kernel) (pa_cons (pe_ix ix_tup (pv 0) pe_int (fun _ _ => rfl)) pa_nil)) pe_str) (pe_join pe_str (pe_lc (own := [("one", 1)]) (g := (gName 1)) (tt := tYes) (te := (tCall (spF (Q_written_tree n)) [] E0 (tCons (tVar 1) tNil))) rfl sc_written_tree.nd (pi_tup (pe_ix ix_tup (pv 0) pe_int (fun _ _ => rfl))) (blkOk_by (N := ["tree", "one"]) (sc := defScope s_written_tree) (by decide +kernel)) (fun _ _ _ _ _ => (pg_name (i := 1) sc_written_tree.nd rfl (.inl rfl))) (fun _ _ _ _ _ => pts_nil) (fun _ _ _ _ _ => (peC C_written_tree (hr.mono (by first | decide | omega)) (by rfl) (pa_cons (pv 1) pa_nil)))))) pe_str)))), fun ds d h M0 H0 Q q => ?_⟩
    cases h
    case mk o g p t ok hg hc h =>
    cases t with
    | leaf x =>
      rw [encT_leaf]
      refine hs_yes (ett (et_B (ed_isStr (ed_var rfl)))) (ho_ret (ev_all ((ed_var rfl).is ?_)) q)
      show D.str (em o x) = .str (wrT o (.leaf x))
      unfold wrT
      rw [wcT]
    | node k l =>
      rw [encT_node]
      have hw := ok.wc hg o
      rw [depT] at h
      rw [wcT, List.length_append, List.length_cons, List.length_append] at hw
      rw [cntT] at hc
      obtain ⟨r, e, rfl, oks, hl, hk⟩ := ok.node
      have hk99 : k < 100 := Nat.lt_of_lt_of_le (lt_of_at e) (by omega)
      have hn2 := num2 hk99
      have hJ : (Txt.join " " (l.map (wrT o))).length = (TL.joinL [32] (wcL o l)).length := by
        rw [TL.len_tl, TL.join_eq, TL.tl_join, wcL_map, List.map_map]
        rfl
      have hI : (Str.ofString (toString ((k : Nat) : Int))).length = (TL.numL k).length := by rw [TL.len_tl, TL.tl_num]
      have e1 : ((" " : Str).length) = 1 := rfl
      have e2 : (("(" : Str).length) = 1 := rfl
      have e3 : ((")" : Str).length) = 1 := rfl
      rw [cntT] at hw
      have eS : Str.ofString (toString ((k : Nat) : Int)) ++ "(" ++ Txt.join " " (l.map (wrT o)) ++ ")" = wrT o (.node k l) := by
        refine TL.ext_tl ?_
        rw [tl_wr, TL.tl_append, TL.tl_append, TL.tl_append, TL.tl_num, TL.join_eq, TL.tl_join, wcT, wcL_map, List.map_map]
        show TL.numL k ++ [40] ++ TL.joinL [32] (l.map (wcT o)) ++ [41] = _
        simp
      have lA : ∀ a b : Str, (a ++ b).length = a.length + b.length := fun a b => by rw [TL.len_tl, TL.tl_append, List.length_append, ← TL.len_tl, ← TL.len_tl]
      refine hs_no (ett (et_B (ed_isTup (ed_var rfl)))) (ho_ret (ev_all ((ed_addS (ed_addS (ed_addS (ed_strInt (ed_ixT (j := 0) (ed_var rfl) ed_cint rfl rfl) ?_) ed_cstr ?_) (ed_join (ss := l.map (wrT o)) ed_cstr ((ef_lcM l (encT o) (fun t => .str (wrT o t)) (ei_tup (ed_ixT (j := 1) (ed_var rfl) ed_cint rfl rfl)) (by omega) fun t ht => ⟨_, ts_name (by simp), ?_⟩).ed.is ?_) ?_) ?_) ed_cstr ?_).is ?_)) q)
      · rw [Int.natAbs_natCast]
        have := Nat.log2_le_self k
        omega
      · rw [hI, e2]
        omega
      · obtain ⟨x, tg⟩ := hk t ht
        exact ed_call (ea_cons (ed_var rfl) ea_nil) (Q_written_tree.mk o g x t tg hg (by have := cntL_mem ht; omega) (by have := depL_mem ht; omega))
      · rw [List.map_map]
        rfl
      · have q1 := wcL_len ok.h6 hg o oks
        have q2 : ((l.map (wrT o)).map (·.length)).sum = ((wcL o l).map List.length).sum := by
          rw [wcL_map, List.map_map, List.map_map]
          congr 1
        rw [q2, e1, List.length_map]
        omega
      · rw [lA, hI, hJ, e2]
        omega
      · rw [lA, lA, hI, hJ, e2, e3]
        omega
      · rw [eS]
abbrev R_written_tree := Q_written_tree 12
theorem cal_written_tree (T : Txt K mg) : Cal P w K mg base 13 "written_tree" ["tree"] (spF R_written_tree) := calr_written_tree T 12
inductive R_shown_tree : List D → D → Prop | mk (o : Bool) (g : SG) (t : Tr) (sok : SOk g) (ok : TOk g t) : R_shown_tree [encSG o g, encT o t] (.str (wrT o t))
theorem cal_shown_tree (T : Txt K mg) : Cal P w K mg base 17 "shown_tree" ["grammar", "tree"] (spF R_shown_tree) := by
  have C_must_be_tree := cal_must_be_tree (P := P) (w := w) (base := base) T
  have C_written_tree := cal_written_tree (P := P) (w := w) (base := base) T
  refine T.d_shown_tree.cal sc_shown_tree [] (by simp) (fun ds d h => by cases h; rfl) fun f cdv A outer s H E hr => ?_
  refine ⟨_, (pss_cons (ps_expr (peC C_must_be_tree (hr.mono (by first | decide | omega)) (by rfl) (pa_cons (pv 0) (pa_cons (pv 1) pa_nil))))
      (pss_one (ps_ret (peC C_written_tree (hr.mono (by first | decide | omega)) (by rfl) (pa_cons (pv 1) pa_nil))))), fun ds d h M0 H0 Q q => ?_⟩
  cases h
  case mk o g t sok ok =>
  exact hs_drop (ev_all (ed_call (ea_cons (ed_var rfl) (ea_cons (ed_var rfl) ea_nil)) (R_must_be_tree.mk o g t sok ok))) (ho_ret (ev_all (ed_call (ea_cons (ed_var rfl) ea_nil) (Q_written_tree.mk o g _ t (ok.tg sok) (by have := sok.len; omega) ok.cnt ok.dep))) q)

/-! numbers read -/
inductive R_number_from : List D → D → Prop | mk (z : Str) (m k : Nat) (rest : List Nat) (hz : z.length ≤ 100000) (hk : k < 100) (h : (TL.tl z).drop m = TL.numL k ++ 40 :: rest) : R_number_from [.str z, ei m] (.tup [ei k, ei (m + (TL.numL k).length)])
theorem cal_number_from (T : Txt K mg) : Cal P w K mg base 1 "number_from" ["text", "at"] (spF R_number_from) := by
  refine T.d_number_from.cal sc_number_from [] (by simp) (fun ds d h => by cases h; rfl) fun f cdv A outer s H E hr => ?_
  refine ⟨_, (pss_cons (ps_set (i := 2) sc_number_from.nd rfl (.inl rfl) (pv 1))
      (pss_cons (ps_while PassesOwn.never (PW.pt (pw_and (pt_cmpR op_lt (pv 2) (pe_callB call_len_str (by rfl) T.b_len (by decide +kernel) (pa_cons (pv 0) pa_nil)) (nomark _)) (pw_and1 (pt_cmpR op_in_sign (pe_ix ix_str (pv 0) (pv 2) (fun _ _ => rfl)) (peGS (by rfl) T.c_FIGURES) rfl))))
      (pss_one (ps_set (i := 2) sc_number_from.nd rfl (.inl rfl) (pe_op op_add (pv 2) pe_int))))
      (pss_cons (ps_set (i := 3) sc_number_from.nd rfl (.inl rfl) (pe_slice sl_str (pv 0) (po_some (pv 1)) (po_some (pv 2))))
      (pss_cons (ps_if (PW.pt (pw_or (pt_cmpR op_eq (pv 3) pe_str (nomark _)) (pw_or (pt_cmpR op_gt (pe_callB call_len_str (by rfl) T.b_len (by decide +kernel) (pa_cons (pv 3) pa_nil)) pe_int (nomark _)) (pw_or1 (PW.pt (pw_and (pt_cmpR op_eq (pe_ix ix_str (pv 3) pe_int (fun _ _ => rfl)) pe_str (nomark _)) (pw_and1 (pt_cmpR op_ne (pv 3) pe_str (nomark _))))))))) (pss_one ps_never) pss_nil)
      (pss_one (ps_ret (pe_tup (pa_cons (pe_callTy call_int_str (by rfl) T.b_int (by decide +kernel) (pa_cons (pv 3) pa_nil)) (pa_cons (pv 2) pa_nil))))))))), fun ds d h M0 H0 Q q => ?_⟩
  cases h
  case mk z m k rest hz hk h =>
  have hn2 := num2 hk
  have hn0 := TL.numL_ne k
  have hdg := TL.numL_digits k
  have hval := TL.int_num (n := k) (by omega)
  have htl := TL.tl_num k
  have hlead : ∀ c r, TL.numL k = c :: r → c = 48 → r = [] := by
    intro c r e hc
    by_cases h10 : k < 10
    · rw [TL.numL_lt h10] at e
      cases e
      rfl
    · rw [TL.numL_step (by omega), TL.numL_lt (by omega)] at e
      simp at e
      omega
  generalize TL.numL k = dg at *
  have hlen : (TL.tl z).length = z.length := (TL.len_tl z).symm
  have hat : ∀ i (hi : i < dg.length), (TL.tl z)[m + i]? = some dg[i] ∧ m + i < z.length := by
    intro i hi
    have e1 : (TL.tl z)[m + i]? = ((TL.tl z).drop m)[i]? := by rw [List.getElem?_drop]
    rw [h, List.getElem?_append_left hi, List.getElem?_eq_getElem hi] at e1
    exact ⟨e1, by rw [← hlen]; exact lt_of_at e1⟩
  have hend : (TL.tl z)[m + dg.length]? = some 40 ∧ m + dg.length < z.length := by
    have e1 : (TL.tl z)[m + dg.length]? = ((TL.tl z).drop m)[dg.length]? := by rw [List.getElem?_drop]
    rw [h, List.getElem?_append_right (Nat.le_refl _), Nat.sub_self] at e1
    have e2 : (TL.tl z)[m + dg.length]? = some 40 := e1
    exact ⟨e2, by rw [← hlen]; exact lt_of_at e2⟩
  refine hs_set (ev_all (ed_var rfl)) (hs_while (fun i : Nat => [some (.str z), some (ei m), some (ei (m + i)), none]) (fun i => i ≤ dg.length) (by have := Wh_count dg.length dg.length (Nat.le_refl _); rw [Nat.sub_self] at this; exact this) (Nat.zero_le _) (fun i _ hc => ?_) (fun i hi => ?_) (fun i JJ hi hc hJ => ?_) fun _ _ => ?_)
  · simp only [decide_eq_true_eq] at hc
    exact hc
  · rcases Nat.lt_or_ge i dg.length with hlt | hge
    · obtain ⟨e1, e2⟩ := hat i hlt
      refine ett ((et_and (a := true) (b := true) (et_test (ed_T (ed_lt (ed_var rfl) (ed_lenS (ed_var rfl) hz)) (decide_eq_true (by omega)))) fun _ => et_test (ed_T (ed_inSign (ed_ixS (j := m + i) (ch := dg[i]) (ed_var rfl) (ed_var rfl) rfl hz e1) ed_cstr) (decide_eq_true ?_))).is (by simp [hlt]))
      rw [figs]
      exact hdg _ (List.getElem_mem hlt)
    · have hi2 : i = dg.length := by omega
      subst hi2
      refine ett ((et_and (a := true) (b := false) (et_test (ed_T (ed_lt (ed_var rfl) (ed_lenS (ed_var rfl) hz)) (decide_eq_true (by omega)))) fun _ => et_test (ed_F (ed_inSign (ed_ixS (j := m + dg.length) (ch := 40) (ed_var rfl) (ed_var rfl) rfl hz hend.1) ed_cstr) (decide_eq_false ?_))).is (by simp))
      rw [figs]
      omega
  · refine ho_asg (ev_imm (ed_add (ed_var rfl) ed_cint) rfl) (tg_name (by simp) (lt_b rfl)) (nx_sj (LeG.refl _) ?_)
    exact hJ
  · have hw : cutS z (some (m : Int)) (some ((m + dg.length : Nat) : Int)) = Str.ofString (toString ((k : Nat) : Int)) := by
      refine TL.ext_tl ?_
      rw [cut_tl (by omega) (by omega), h, htl, Nat.add_sub_cancel_left, List.take_left]
    refine hs_set (d := .str (Str.ofString (toString ((k : Nat) : Int)))) (ev_all ((ed_sliceS (ed_var rfl) (eo_some (ed_var rfl)) (eo_some (ed_var rfl)) hz).is (by rw [hw]))) ?_
    generalize Str.ofString (toString ((k : Nat) : Int)) = wd at *
    have hwl : wd.length = dg.length := by rw [TL.len_tl, htl]
    refine hs_no (ett (et_orF (et_test (ed_F (ed_eqS (ed_var rfl) ed_cstr) (decide_eq_false ?_))) (et_orF (et_test (ed_F (ed_gt (ed_lenS (ed_var rfl) (by omega)) ed_cint) (decide_eq_false (by omega)))) ?_))) (ho_ret (ev_all (ed_tup (ea_cons (ed_intStr (ed_var rfl) hval (by omega)) (ea_cons (ed_var rfl) ea_nil)) (le_b rfl))) q)
    · intro e
      rw [e] at htl
      exact hn0 htl.symm
    · cases hd : dg with
      | nil => exact absurd hd hn0
      | cons c r =>
        have c0 : wd.cps.toList[0]? = some c := by
          have : TL.tl wd = c :: r := by rw [htl, hd]
          rw [show wd.cps.toList = c :: r from this]
          rfl
        refine (et_and (a := decide ((⟨#[c]⟩ : Str) = "0")) (b := !decide (wd = "0")) (et_test (ed_eqS (ed_ixS (j := 0) (ed_var rfl) ed_cint rfl (by omega) c0) ed_cstr)) fun _ => et_test (ed_neS (ed_var rfl) ed_cstr)).is ?_
        by_cases hc : c = 48
        · have hr := hlead c r hd hc
          have : wd = "0" := by
            refine TL.ext_tl ?_
            rw [htl, hd, hc, hr]
            rfl
          rw [decide_eq_true this]
          simp
        · have : ¬ ((⟨#[c]⟩ : Str) = "0") := fun z => hc (one_inj.mp (z.trans (rfl : ("0" : Str) = ⟨#[48]⟩)))
          rw [decide_eq_false this]
          rfl

/-! trees read -/
inductive Q_tree_from (n : Nat) : List D → D → Prop | mk (o : Bool) (g : SG) (p : Sym) (t : Tr) (z : Str) (m dp : Nat) (rest : List Nat) (ok : TG g p t) (hg : g.length ≤ 99) (hz : z.length ≤ 100000) (hT : (TL.tl z).drop m = wcT o t ++ rest) (hd : dp + depT t ≤ 40) (h : depT t < n) (h12 : depT t < 12) :
  Q_tree_from n [.str z, ei m, ei dp] (.tup [encT o t, ei (m + (wcT o t).length)])
theorem calr_tree_from (T : Txt K mg) : ∀ n : Nat, Cal P w K mg base (2 + n) "tree_from" ["text", "at", "deep"] (spF (Q_tree_from n))
  | 0 => T.d_tree_from.none fun ds d h => by cases h; omega
  | n + 1 => by
    have C_number_from := cal_number_from (P := P) (w := w) (base := base) T
    have C_tree_from := calr_tree_from T n
    refine T.d_tree_from.cal (k := 2 + n) sc_tree_from [4] (by simp) (fun ds d h => by cases h; rfl) fun f cdv A outer s H E hr => ?_
    refine ⟨_, (pss_cons (ps_if (PW.pt (pw_and (pt_cmpR op_ne (pe_slice sl_str (pv 0) (po_some (pv 1)) (po_some (pe_op op_add (pv 1) pe_int))) pe_str (nomark _)) (pw_and1 (pt_cmpR op_in_sign (pe_ix ix_str (pv 0) (pv 1) (fun _ _ => rfl)) (peGS (by rfl) T.c_LETTERS) rfl)))) (pss_one (ps_ret (pe_tup (pa_cons (pe_ix ix_str (pv 0) (pv 1) (fun _ _ => rfl)) (pa_cons (pe_op op_add (pv 1) pe_int) pa_nil))))) pss_nil)
      (pss_cons (ps_if (pt_cmpR op_eq (pv 2) (peGI (by rfl) T.c_DEEPEST) (nomark _)) (pss_one ps_never) pss_nil)
      (pss_cons (ps_asg (peC C_number_from (hr.mono (by first | decide | omega)) (by rfl) (pa_cons (pv 0) (pa_cons (pv 1) pa_nil))) (pg_tup rfl (pgs_cons (pg_name (i := 3) sc_tree_from.nd rfl (.inl rfl)) (pgs_cons (pg_name (i := 1) sc_tree_from.nd rfl (.inl rfl)) pgs_nil))))
      (pss_cons (ps_if (pt_cmpR op_ne (pe_slice sl_str (pv 0) (po_some (pv 1)) (po_some (pe_op op_add (pv 1) pe_int))) pe_str (nomark _)) (pss_one ps_never) pss_nil)
      (pss_cons (ps_set (i := 1) sc_tree_from.nd rfl (.inl rfl) (pe_op op_add (pv 1) pe_int))
      (pss_cons (ps_set (i := 4) sc_tree_from.nd rfl (.inl rfl) (pe_lst pa_nil))
      (pss_cons (ps_while PassesOwn.never (pt_cmpR op_ne (pe_slice sl_str (pv 0) (po_some (pv 1)) (po_some (pe_op op_add (pv 1) pe_int))) pe_str (nomark _))
      (pss_cons (ps_if (pt_cmpR (op_neD hr.units) (pv 4) (pe_lst pa_nil) (nomark _)) (pss_cons (ps_if (pt_cmpR op_ne (pe_slice sl_str (pv 0) (po_some (pv 1)) (po_some (pe_op op_add (pv 1) pe_int))) pe_str (nomark _)) (pss_one ps_never) pss_nil)
      (pss_one (ps_set (i := 1) sc_tree_from.nd rfl (.inl rfl) (pe_op op_add (pv 1) pe_int)))) pss_nil)
      (pss_cons (ps_asg (peC C_tree_from (hr.mono (by first | decide | omega)) (by rfl) (pa_cons (pv 0) (pa_cons (pv 1) (pa_cons (pe_op op_add (pv 2) pe_int) pa_nil)))) (pg_tup rfl (pgs_cons (pg_name (i := 5) sc_tree_from.nd rfl (.inl rfl)) (pgs_cons (pg_name (i := 1) sc_tree_from.nd rfl (.inl rfl)) pgs_nil))))
      (pss_one (ps_expr (pe_bm PySem.F.plainAttrs_list PySem.F.slot_list_append PySem.F.type_list_append mt_append (pv 4) (pa_cons (pv 5) pa_nil)))))))
      (pss_one (ps_ret (pe_tup (pa_cons (pe_tup (pa_cons (pv 3) (pa_cons (pe_callTy call_tuple_of (by rfl) T.b_tuple (by decide +kernel) (pa_cons (pv 4) pa_nil)) pa_nil))) (pa_cons (pe_op op_add (pv 1) pe_int) pa_nil)))))))))))), fun ds d h M0 H0 Q q => ?_⟩
    cases h
    case mk o g p t z m dp rest ok hg hz hT hd h h12 =>
    cases t with
    | leaf x =>
      have hx := ok.yl.1 x (by simp [ylT])
      have e1 : wcT o (.leaf x) = [cd o x] := by rw [wcT, em_cd (isN_of_isL hx)]
      rw [e1] at hT q
      have hT' : (TL.tl z).drop m = cd o x :: rest := hT
      have c0 := (drop_at hT').1
      refine hs_yes (ett ((et_and (a := true) (b := true) (et_test (ed_T (ed_neS (ed_sliceS (ed_var rfl) (eo_some (ed_var rfl)) (eo_some (ed_add (ed_var rfl) ed_cint)) hz) ed_cstr) ?_)) fun _ => et_test (ed_T (ed_inSign (ed_ixS (j := m) (ch := cd o x) (ed_var rfl) (ed_var rfl) rfl hz c0) ed_cstr) (decide_eq_true (cd_L o hx)))).is rfl)) (ho_ret (ev_imm (ed_tup (ea_cons (ed_ixS (j := m) (ch := cd o x) (ed_var rfl) (ed_var rfl) rfl hz c0) (ea_cons (ed_add (ed_var rfl) ed_cint) ea_nil)) (le_b rfl)) rfl) ?_)
      · rw [cut1 hT', decide_eq_false one_ne]
        rfl
      · rw [encT_leaf, em_cd (isN_of_isL hx)] at q
        exact q
    | node k l =>
      obtain ⟨r, e, rfl, oks, hl, hk⟩ := ok.node
      have hk99 : k < 100 := Nat.lt_of_lt_of_le (lt_of_at e) (by omega)
      rw [depT] at h h12 hd
      rw [wcT] at hT
      have hT0 : (TL.tl z).drop m = TL.numL k ++ 40 :: (TL.joinL [32] (wcL o l) ++ 41 :: rest) := by rw [hT]; simp
      obtain ⟨c, cr, hc, hc2⟩ : ∃ c cr, TL.numL k = c :: cr ∧ 48 ≤ c ∧ c ≤ 57 := by
        cases e : TL.numL k with
        | nil => exact absurd e (TL.numL_ne k)
        | cons c r => exact ⟨c, r, rfl, TL.numL_digits k c (by rw [e]; simp)⟩
      have hT1 : (TL.tl z).drop m = c :: (cr ++ 40 :: (TL.joinL [32] (wcL o l) ++ 41 :: rest)) := by rw [hT0, hc]; rfl
      have hT2 : (TL.tl z).drop (m + (TL.numL k).length) = 40 :: (TL.joinL [32] (wcL o l) ++ 41 :: rest) := drop_app hT0
      have hT3 : (TL.tl z).drop (m + (TL.numL k).length + 1) = TL.joinL [32] (wcL o l) ++ 41 :: rest := (drop_at hT2).2
      refine hs_no (ett ((et_and (a := true) (b := false) (et_test (ed_T (ed_neS (ed_sliceS (ed_var rfl) (eo_some (ed_var rfl)) (eo_some (ed_add (ed_var rfl) ed_cint)) hz) ed_cstr) (by rw [cut1 hT1, decide_eq_false one_ne]; rfl))) fun _ => et_test (ed_F (ed_inSign (ed_ixS (j := m) (ch := c) (ed_var rfl) (ed_var rfl) rfl hz (drop_at hT1).1) ed_cstr) (decide_eq_false fun z => by have := lets z; omega))).is rfl)) ?_
      refine hs_no (ett (et_test (ed_F (ed_eqI (ed_var rfl) ed_cint) (decide_eq_false (show ¬ (dp : Int) = 40 by omega))))) ?_
      refine hs_tup2 (ev_mask (ed_call (ea_cons (ed_var rfl) (ea_cons (ed_var rfl) ea_nil)) (R_number_from.mk z m k _ hz hk99 hT0))) ?_
      refine hs_no (ett (et_test (ed_F (ed_neS (ed_sliceS (ed_var rfl) (eo_some (ed_var rfl)) (eo_some (ed_add (ed_var rfl) ed_cint)) hz) ed_cstr) (by rw [cut1 hT2]; rfl)))) ?_
      refine hs_set (ev_imm (ed_add (ed_var rfl) ed_cint) rfl) (hs_own (en_flat (ef_lst ea_nil (le_b rfl)) rfl) ?_)
      obtain ⟨a0, ha0⟩ : ∃ a0, a0 = m + (TL.numL k).length + 1 := ⟨_, rfl⟩
      rw [← ha0] at hT3
      rw [wcL_map] at hT3
      -- the place before the tree i
      have next : ∀ (i : Nat) (u : Tr), l[i]? = some u → (TL.tl z).drop (a0 + (TL.joinL [32] ((l.take i).map (wcT o))).length + (if i = 0 then 0 else 1)) = wcT o u ++ (sp32 ((l.drop (i + 1)).map (wcT o)) ++ 41 :: rest) ∧
          (0 < i → (TL.tl z).drop (a0 + (TL.joinL [32] ((l.take i).map (wcT o))).length) = 32 :: (wcT o u ++ (sp32 ((l.drop (i + 1)).map (wcT o)) ++ 41 :: rest))) ∧
          (TL.joinL [32] ((l.take (i + 1)).map (wcT o))).length = (TL.joinL [32] ((l.take i).map (wcT o))).length + (if i = 0 then 0 else 1) + (wcT o u).length := by
        intro i u hu
        clear oks hl hk ok
        cases l with
        | nil => simp at hu
        | cons t0 l0 =>
          rw [List.map_cons, joinL_sp] at hT3
          cases i with
          | zero =>
            have e0 : t0 = u := by simpa using hu
            subst e0
            refine ⟨?_, fun z => absurd z (by decide), ?_⟩
            · rw [if_pos rfl]
              show (TL.tl z).drop (a0 + 0 + 0) = _
              rw [Nat.add_zero, Nat.add_zero, hT3, List.append_assoc]
              rfl
            · show (TL.joinL [32] [wcT o t0]).length = 0 + 0 + (wcT o t0).length
              simp only [Nat.zero_add]
              rfl
          | succ i =>
            have e5 : l0[i]? = some u := by simpa using hu
            have hi' : i < l0.length := lt_of_at e5
            have e1 : (t0 :: l0).take (i + 1) = t0 :: l0.take i := rfl
            have e2 : (t0 :: l0).take (i + 1 + 1) = t0 :: l0.take (i + 1) := rfl
            have e4 : (t0 :: l0).drop (i + 1 + 1) = l0.drop (i + 1) := rfl
            have e6 : sp32 (l0.map (wcT o)) = sp32 ((l0.take i).map (wcT o)) ++ (32 :: wcT o u ++ sp32 ((l0.drop (i + 1)).map (wcT o))) := by
              have e8 : l0[i] = u := by
                rw [List.getElem?_eq_getElem hi'] at e5
                exact Option.some.inj e5
              have e7 : l0 = l0.take i ++ u :: l0.drop (i + 1) := by rw [← e8, ← List.drop_eq_getElem_cons hi', List.take_append_drop]
              conv => lhs; rw [e7]
              unfold sp32
              simp
            have hp : (TL.tl z).drop (a0 + (TL.joinL [32] (((t0 :: l0).take (i + 1)).map (wcT o))).length) = 32 :: (wcT o u ++ (sp32 (((t0 :: l0).drop (i + 1 + 1)).map (wcT o)) ++ 41 :: rest)) := by
              refine drop_app ?_
              rw [hT3, e1, List.map_cons, joinL_sp, e6, e4]
              simp
            refine ⟨?_, fun _ => hp, ?_⟩
            · rw [if_neg (by omega), ← List.drop_drop, hp]
              rfl
            · rw [e1, e2, List.map_cons, List.map_cons, joinL_sp, joinL_sp, take_succ e5, if_neg (by omega)]
              unfold sp32
              simp
              omega
      have last : (TL.tl z).drop (a0 + (TL.joinL [32] (l.map (wcT o))).length) = 41 :: rest := drop_app hT3
      have eP : PyData.strOk "" = true := by decide +kernel
      refine hs_while (fun i : Nat => [some (.str z), some (ei (a0 + (TL.joinL [32] ((l.take i).map (wcT o))).length)), some (ei dp), some (ei k), some (.lst ((l.take i).map (encT o))), none]) (fun i => i ≤ l.length) (by have := Wh_count l.length l.length (Nat.le_refl _); rw [Nat.sub_self] at this; exact this) (Nat.zero_le _) (fun i _ hc => ?_) (fun i hi => ?_) (fun i JJ hi hc hJ => ?_) (fun _ _ => ?_) (by rw [ha0]; exact ⟨rfl, rfl, rfl, rfl, rfl, trivial⟩)
      · simp only [decide_eq_true_eq] at hc
        exact hc
      · rcases Nat.lt_or_ge i l.length with hlt | hge
        · obtain ⟨n1, n2, _⟩ := next i _ (List.getElem?_eq_getElem hlt)
          have hfirst : ∃ c r, (TL.tl z).drop (a0 + (TL.joinL [32] ((l.take i).map (wcT o))).length) = c :: r ∧ c ≠ 41 := by
            by_cases h0 : i = 0
            · obtain ⟨x, tg⟩ := hk _ (List.getElem_mem hlt)
              obtain ⟨c, r, e1, e2⟩ := wc_first tg o
              rw [if_pos h0, Nat.add_zero, e1] at n1
              exact ⟨c, _, n1, e2⟩
            · exact ⟨32, _, n2 (by omega), by decide⟩
          obtain ⟨c, r, e1, e2⟩ := hfirst
          refine ett ((et_test (ed_neS (ed_sliceS (ed_var rfl) (eo_some (ed_var rfl)) (eo_some (ed_add (ed_var rfl) ed_cint)) hz) ed_cstr)).is ?_)
          rw [cut1 e1, decide_eq_true hlt]
          have : ¬ ((⟨#[c]⟩ : Str) = ")") := fun z => e2 (one_inj.mp (z.trans (rfl : (")" : Str) = ⟨#[41]⟩)))
          rw [decide_eq_false this]
          rfl
        · have hi2 : i = l.length := by omega
          subst hi2
          rw [List.take_length]
          refine ett ((et_test (ed_neS (ed_sliceS (ed_var rfl) (eo_some (ed_var rfl)) (eo_some (ed_add (ed_var rfl) ed_cint)) hz) ed_cstr)).is ?_)
          rw [cut1 last, decide_eq_false (Nat.lt_irrefl _)]
          rfl
      · simp only [decide_eq_true_eq] at hc
        have ht : l[i]? = some l[i] := List.getElem?_eq_getElem hc
        obtain ⟨n1, n2, n3⟩ := next i _ ht
        obtain ⟨x, tg⟩ := hk _ (List.getElem_mem hc)
        have hdl := depL_mem (List.getElem_mem hc)
        have hpl : plain 40 (.lst ((l.take i).map (encT o))) = true := plains_mem (n := 39) (encT o) (l.take i) fun t ht => plain_T o t 39 (by have := depL_mem (List.mem_of_mem_take ht); omega)
        refine hs_ifTo [some (.str z), some (ei (a0 + (TL.joinL [32] ((l.take i).map (wcT o))).length + (if i = 0 then 0 else 1))), some (ei dp), some (ei k), some (.lst ((l.take i).map (encT o))), none] (b := !((l.take i).map (encT o)).isEmpty) (ett (et_test (ed_neNil (ed_var rfl) (ef_lst ea_nil (le_b rfl)).ed hpl (by decide)))) (fun hb E kk => ?_) (fun hb => ?_) ?_
        · have h0 : 0 < i := by
            rcases Nat.eq_zero_or_pos i with z | z
            · rw [z] at hb
              cases hb
            · exact z
          rw [if_neg (by omega)] at kk
          refine hs_no (ett (et_test (ed_F (ed_neS (ed_sliceS (ed_var rfl) (eo_some (ed_var rfl)) (eo_some (ed_add (ed_var rfl) ed_cint)) hz) ed_cstr) (by rw [cut1 (n2 h0)]; rfl)))) ?_
          exact ho_asg (ev_imm (ed_add (ed_var rfl) ed_cint) rfl) (tg_name (by simp) (lt_b rfl)) kk
        · have h0 : i = 0 := by
            rcases Nat.eq_zero_or_pos i with z | z
            · exact z
            · exfalso
              have e1 : (l.take i) ≠ [] := by
                intro e
                have := congrArg List.length e
                rw [List.length_take, List.length_nil] at this
                omega
              cases e2 : l.take i with
              | nil => exact e1 e2
              | cons y ys =>
                rw [e2] at hb
                cases hb
          rw [if_pos h0, Nat.add_zero]
          exact LeG.refl _
        refine hs_tup2 (ev_mask (ed_call (ea_cons (ed_var rfl) (ea_cons (ed_var rfl) (ea_cons (ed_add (ed_var rfl) ed_cint) ea_nil))) (Q_tree_from.mk o g x l[i] z _ (dp + 1) _ tg hg hz n1 (by omega) (by omega) (by omega)))) ?_
        refine ho_app (in_b rfl) rfl (ev_imm (ed_var rfl) (imm_T o _)) (by rw [List.length_map, List.length_take]; omega) ?_
        have e2 : (l.take (i + 1)).map (encT o) = (l.take i).map (encT o) ++ [encT o l[i]] := by rw [take_succ ht, List.map_append]; rfl
        refine nx_sj ?_ hJ
        show LeG [some (.str z), some (ei (a0 + (TL.joinL [32] ((l.take (i + 1)).map (wcT o))).length)), some (ei dp), some (ei k), some (.lst ((l.take (i + 1)).map (encT o))), none] _
        rw [n3, e2, ← Nat.add_assoc, ← Nat.add_assoc]
        repeat (first | exact trivial | refine ⟨rfl, ?_⟩)
      · rw [List.take_length]
        refine ho_ret (ev_imm (ed_tup (ea_cons (ed_tup (ea_cons (ed_var rfl) (ea_cons (ed_tupL (ed_var rfl)) ea_nil)) (le_b rfl)) (ea_cons (ed_add (ed_var rfl) ed_cint) ea_nil)) (le_b rfl)) (by simp [imm, imms, imms_T])) ?_
        have e1 : m + (wcT o (.node k l)).length = a0 + (TL.joinL [32] (l.map (wcT o))).length + 1 := by
          rw [wcT, wcL_map, List.length_append, List.length_cons, List.length_append, List.length_singleton]
          omega
        rw [encT_node, e1] at q
        exact q
abbrev R_tree_from := Q_tree_from 12
theorem cal_tree_from (T : Txt K mg) : Cal P w K mg base 14 "tree_from" ["text", "at", "deep"] (spF R_tree_from) := calr_tree_from T 12
inductive R_read_tree : List D → D → Prop | mk (o : Bool) (g : SG) (t : Tr) (sok : SOk g) (ok : TOk g t) : R_read_tree [encSG o g, .str (wrT o t)] (encT o t)
theorem cal_read_tree (T : Txt K mg) : Cal P w K mg base 17 "read_tree" ["grammar", "text"] (spF R_read_tree) := by
  have C_must_be_grammar := cal_must_be_grammar (P := P) (w := w) (base := base) T
  have C_tree_from := cal_tree_from (P := P) (w := w) (base := base) T
  have C_is_tree := cal_is_tree (P := P) (w := w) (base := base) T
  refine T.d_read_tree.cal sc_read_tree [] (by simp) (fun ds d h => by cases h; rfl) fun f cdv A outer s H E hr => ?_
  refine ⟨_, (pss_cons (ps_expr (peC C_must_be_grammar (hr.mono (by first | decide | omega)) (by rfl) (pa_cons (pv 0) pa_nil)))
      (pss_cons (ps_asg (peC C_tree_from (hr.mono (by first | decide | omega)) (by rfl) (pa_cons (pv 1) (pa_cons pe_int (pa_cons pe_int pa_nil)))) (pg_tup rfl (pgs_cons (pg_name (i := 2) sc_read_tree.nd rfl (.inl rfl)) (pgs_cons (pg_name (i := 3) sc_read_tree.nd rfl (.inl rfl)) pgs_nil))))
      (pss_cons (ps_if (PW.pt (pw_or (pt_cmpR op_ne (pv 3) (pe_callB call_len_str (by rfl) T.b_len (by decide +kernel) (pa_cons (pv 1) pa_nil)) (nomark _)) (pw_or1 (pt_not (pt_val (peC C_is_tree (hr.mono (by first | decide | omega)) (by rfl) (pa_cons (pv 0) (pa_cons (pv 2) pa_nil)))))))) (pss_one ps_never) pss_nil)
      (pss_one (ps_ret (pv 2)))))), fun ds d h M0 H0 Q q => ?_⟩
  cases h
  case mk o g t sok ok =>
  have tg := ok.tg sok
  have hg : g.length ≤ 99 := by have := sok.len; omega
  have hw := tg.wc hg o
  have hc := ok.cnt
  have hd := ok.dep
  have hl : (wrT o t).length = (wcT o t).length := by rw [TL.len_tl]; rfl
  refine hs_drop (ev_all (ed_call (ea_cons (ed_var rfl) ea_nil) (R_must_be_grammar.mk o g sok))) (hs_tup2 (ev_all (ed_call (ea_cons (ed_var rfl) (ea_cons ed_cint (ea_cons ed_cint ea_nil))) (Q_tree_from.mk o g _ t (wrT o t) 0 0 [] tg hg (by omega) (by rw [tl_wr]; simp) (by omega) ok.dep ok.dep))) ?_)
  refine hs_no (ett (et_orF (et_test (ed_F (ed_neI (ed_var rfl) (ed_lenS (ed_var rfl) (by omega))) ?_)) (et_notT (et_B (ed_call (ea_cons (ed_var rfl) (ea_cons (ed_var rfl) ea_nil)) (R_is_tree.mk o g t sok ok)))))) (ho_ret (ev_all (ed_var rfl)) q)
  rw [hl, Nat.zero_add]
  simp
end
end RN

end
section
set_option maxRecDepth 100000
set_option maxHeartbeats 4000000
namespace RN
open PySem L2 Sym
/-! ### short forms -/
theorem hs_ifBoth {M0 H0 : Hp} {own : List Nat} {X : Hp} {Γ : Gm} {t u v : TS} {D : Ends} {tt : TT} {b : Bool} (Γ' : Gm) (h : ETT own tt Γ b) (h1 : b = true → ∀ E : Ends, Nx M0 H0 own X Γ' E.nx → Ho M0 H0 own X Γ t E) (h2 : b = false → ∀ E : Ends, Nx M0 H0 own X Γ' E.nx → Ho M0 H0 own X Γ v E) (k : Ho M0 H0 own X Γ' u D) : Ho M0 H0 own X Γ (tSeq (tIfS tt t v) u) D :=
  ho_seq (ho_if h (fun e => h1 e _ k) fun e => h2 e _ k)
theorem tg_unl2 {own : List Nat} {Γ : Gm} {K : PySem.W.Frag} {i j : Nat} {d1 d2 : D} (hi : i ∉ own) (hj : j ∉ own) (li : i < Γ.length) (lj : j < Γ.length) : TgV own (gUnl K 2 (gCons (gName i) (gCons (gName j) gNil))) (.lst [d1, d2]) Γ ((Γ.set i (some d1)).set j (some d2)) := fun M0 H0 X σ H R v s r Q q => by
  cases r with
  | lst h r =>
    cases r with
    | cons r1 r =>
      cases r with
      | cons r2 r =>
        cases r
        exact ⟨_, _, rfl, .inl (.inl (s.g.s _ _ h)), rfl, _, _, rfl, _, _, rfl, rfl, q _ ((s.set hi li r1).set hj (by rw [List.length_set]; exact lj) r2)⟩
theorem hs_asg {M0 H0 : Hp} {own : List Nat} {X : Hp} {Γ Γ' : Gm} {te : TE} {g : L2.TG} {u : TS} {D : Ends} {d : RN.D} (h : EV own te Γ d) (hg : TgV own g d Γ Γ') (k : Ho M0 H0 own X Γ' u D) : Ho M0 H0 own X Γ (tSeq (tAsg te g) u) D := ho_seq (ho_asg h hg k)
theorem ex_call2 {own : List Nat} {X : Hp} {Γ : Gm} {t1 t2 : TE} {d1 d2 d : D} {R : List D → D → Prop} {E : XK} {S : Hp → Prop} (h1 : EV own t1 Γ d1) (h2 : EX own X t2 Γ d2 (· = X)) (hr : R [d1, d2] d) (hS : S X) : EX own X (tCall (spF R) [] E (tCons t1 (tCons t2 tNil))) Γ d S := fun M0 H0 σ H R0 s Q q =>
  h1 M0 H0 X σ H R0 s _ fun v1 H1 R1 s1 r1 => by
    obtain ⟨Hb, bl, s1b⟩ := s1.base
    refine h2 R1 Hb σ H1 R1 s1b _ fun v2 X' H2 R2 hX s2 r2 => ?_
    subst hX
    exact ⟨R2, [d1, d2], d, s2.g.s, .cons (r1.mono s2.g.m) (.cons r2 .nil), hr, fun v M' H' g r => q v X' H' M' hS ((s2.back bl).grow g) r⟩
/-! the script -/
section
variable {Γ : Gm} {ta tb te : TE} {K : PySem.W.Frag} {l : List Int}
abbrev scr (K : PySem.W.Frag) (l : List Int) : D := .fz fun H a => SqL K H a (l.map V.int)
theorem sqL_mono {H H' : Hp} {a : Addr} {xs : List V} (e : Same H H') (h : SqL K H a xs) : SqL K H' a xs := by
  rcases h with (h | ⟨o, h⟩) | h
  · exact .inl (.inl (e _ _ h))
  · exact .inl (.inr ⟨o, e _ _ h⟩)
  · exact .inr h
theorem ed_lenF (ha : ED ta Γ (scr K l)) : ED (tCB (rLen K) (tCons ta tNil)) Γ (.int l.length) := ed_cb (ea_cons ha ea_nil) fun M H xs Q e rx q => by
  cases rx with
  | cons r1 rn =>
    cases rn
    cases r1 with
    | fz h =>
      refine ⟨_, _, rfl, .inl (h _ e), ?_⟩
      rw [List.length_map]
      exact q _ M H (.refl e) (.int _)
theorem ed_ixF {i : Int} {j : Nat} {x : Int} (ha : ED ta Γ (scr K l)) (hb : ED tb Γ (.int i)) (hi : i = (j : Int)) (hj : l[j]? = some x) : ED (tOp (rIxL K) ta tb) Γ (.int x) := ed_op ha hb fun M H x y Q e rx ry q => by
  cases ry
  cases rx with
  | fz h =>
    subst hi
    exact ⟨_, _, _, .int _, rfl, rfl, h _ e, atI_nat (by rw [List.getElem?_map, hj]; rfl), q _ M H (.refl e) (.int _)⟩
end
/-! promises of a new list -/
def spN (R : List D → D → Prop) : Sp := fun vs H Q _ => ∃ M ds d, Same M H ∧ Reps M vs ds ∧ R ds d ∧ ∀ p o M' H', Grow M H M' H' → H p = none → M' p = none → H' p = some o → Cont M' o d → Q (.ref p) H'
theorem ef_callN {R : List D → D → Prop} {E : XK} {tr : TA} {ds : List D} {d : D} {Γ : Gm} (h : EA tr Γ ds) (hr : R ds d) : EF (tCall (spN R) [] E tr) Γ d := fun σ M H e sl Q q =>
  h σ M H e sl _ fun xs M1 H1 g1 r1 => ⟨M1, ds, d, g1.s, by rw [List.append_nil]; exact r1, hr, fun p o M2 H2 g2 h0 h1 h2 c => q p o M2 H2 (g1.trans g2) (g1.fresh h0) h1 h2 c⟩
section
variable {P : Program} {w : World} {K : PySem.W.Frag} {mg : Str → Option Value} {base : Heap}
theorem DefAt.calN {x : Str} {st : Stmt} {ps N : List Str} {k : Nat} {R : List D → D → Prop} (d : DefAt K mg x st ps) (S : FnScope N ps (defScope st)) (own : List Nat) (ho : ∀ i ∈ own, ps.length ≤ i) (len : ∀ ds d, R ds d → ds.length = ps.length)
    (hb : ∀ (f : Addr) (cdv : Value) (A : Around) (outer : List Env) (s : Shared) (H : Hp) (E : XK), Room k (A.deeper (PyProof.Rows.envOfC x (defScope st) s.heap.objs.size f cdv)) →
      ∃ t, PSs (cxOf CX0 P w K mg base N x (defScope st) f cdv A outer s H E).nox (defBody st) t ∧
        ∀ ds d, R ds d → ∀ (M0 H0 : Hp) (Q : VK), (∀ p o M' H', Grow M0 H0 M' H' → H0 p = Option.none → M' p = Option.none → H' p = some o → Cont M' o d → Q (.ref p) H') →
          Ho M0 H0 own nilH (ds.map some ++ List.replicate (N.length - ds.length) Option.none) t { nx := fun _ H' => Q .non H', rt := Q }) : Cal P w K mg base (k + 1) x ps (spN R) := by
  obtain ⟨f, fd, F, m, b⟩ := d
  refine ⟨f, fd, F.ok S (fun vs H Q E ⟨M, ds, d, _, r, h, _⟩ => by rw [r.length]; exact len _ _ h) (fun cdv A outer s H vs Q E hr h => ?_), m, F.kp, b⟩
  obtain ⟨M, ds, d, e, r, h, q⟩ := h
  obtain ⟨t, h1, h2⟩ := hb f cdv A outer s H E hr
  refine ⟨t, h1, h2 ds d h M H Q q _ _ ?_⟩
  show ST M H own nilH _ (vs.map some ++ List.replicate (N.length - vs.length) Option.none) H
  rw [r.length]
  exact st_start e r _ own fun i hi => by rw [len _ _ h]; exact ho i hi
end
theorem ho_retOwn {M0 H0 : Hp} {own : List Nat} {X : Hp} {Γ : Gm} {D : Ends} {d : RN.D} {i : Nat} (hi : i ∈ own) (hd : Γ[i]? = some (some d)) (k : ∀ p o M' H', Grow M0 H0 M' H' → H0 p = none → M' p = none → H' p = some o → Cont M' o d → D.rt (.ref p) H') : Ho M0 H0 own X Γ (tRet (tVar i)) D := fun σ H ⟨R, s⟩ => by
  obtain ⟨p, h1, h2, h3, h4, o, h5, h6⟩ := s.ow i d hi hd
  exact ⟨_, h1, k p o R H s.g h3 h2 h5 h6⟩
/-! the spot -/
structure XS (X : Hp) (p : Addr) (n : Nat) : Prop where
  top : X p = some (.lst [.int (n : Int)])
  nt : ∀ b xs, X b ≠ some (.tup xs)
theorem XS.rep {X : Hp} {p : Addr} {n : Nat} (h : XS X p n) : ∀ M, Same X M → Rep M (.ref p) (.lst [ei n]) := fun M e => .lst (e _ _ h.top) (.one (.int _))
theorem XS.put {X : Hp} {p : Addr} {n m : Nat} (h : XS X p n) : XS (upd X p (.lst [.int (m : Int)])) p m := by
  refine ⟨upd_same, fun b xs hb => ?_⟩
  by_cases e : b = p
  · subst e
    rw [upd_same] at hb
    cases hb
  · rw [upd_ne e] at hb
    exact h.nt b xs hb
theorem em_f (x : Sym) : em false x = ⟨#[cd false x]⟩ := by cases x <;> decide +kernel
theorem six (j : Nat) (h : j < 6) : ("abcSAB" : Str).cps.toList[j]? = some (cd false ([Sym.a, .b, .c, .S, .A, .B].getD j .a)) := by
  have : ∀ j : Fin 6, ("abcSAB" : Str).cps.toList[j.1]? = some (cd false ([Sym.a, .b, .c, .S, .A, .B].getD j.1 .a)) := by decide +kernel
  exact this ⟨j, h⟩
theorem three (j : Nat) (h : j < 3) : ("SAB" : Str).cps.toList[j]? = some (cd false ([Sym.S, .A, .B].getD j .S)) := by
  have : ∀ j : Fin 3, ("SAB" : Str).cps.toList[j.1]? = some (cd false ([Sym.S, .A, .B].getD j.1 .S)) := by decide +kernel
  exact this ⟨j, h⟩
theorem modN {i : Int} {m : Int} (h : 0 < m) : i % m = (((i % m).toNat : Nat) : Int) := by
  have := Int.emod_nonneg i (Int.ne_of_gt h)
  omega
theorem modLt {i : Int} {m : Int} (h : 0 < m) : (i % m).toNat < m.toNat := by
  have := Int.emod_nonneg i (Int.ne_of_gt h)
  have := Int.emod_lt_of_pos i h
  omega
theorem ed_six {Γ : Gm} {te : TE} {i : Int} (h : ED te Γ (.int i)) : ED (tOp rIxS (tC (.str "abcSAB")) (tOp (rI (fun _ j => 0 < j) fun i j => .int (i % j)) te (tC (.int 6)))) Γ (es false (sym6 i)) := by
  have q := ed_ixS (z := "abcSAB") (i := i % 6) (j := (i % 6).toNat) (ed_cstr (Γ := Γ)) (ed_mod h ed_cint (by decide)) (modN (by decide)) (by decide) (six _ (modLt (i := i) (m := 6) (by decide)))
  rw [es, em_f]
  exact q
theorem ed_three {Γ : Gm} {te : TE} {i : Int} (h : ED te Γ (.int i)) : ED (tOp rIxS (tC (.str "SAB")) (tOp (rI (fun _ j => 0 < j) fun i j => .int (i % j)) te (tC (.int 3)))) Γ (es false (sym3 i)) := by
  have q := ed_ixS (z := "SAB") (i := i % 3) (j := (i % 3).toNat) (ed_cstr (Γ := Γ)) (ed_mod h ed_cint (by decide)) (modN (by decide)) (by decide) (three _ (modLt (i := i) (m := 3) (by decide)))
  rw [es, em_f]
  exact q
theorem partsBy_len : ∀ (n : Nat) (i : Int), (partsBy n i).length = n
  | 0, _ => rfl
  | n + 1, i => by rw [partsBy, List.length_cons, partsBy_len n]
/-! known grammars -/
def kws : List Str := ["S=aSbS S=", "S=SaA S=A A=b A=cSc", "S=aSa S=bSb S=a S=b S=", "S=aS S=aSbS S=c", "S=AS S=A A=a A=b", "S=AB A= A=a B=A B=b", "S=A S=a A=S A=b", "S=aSb S=ab", "S=SS S=a", "S=aAa S=bAb S=aBb S=bBa A=c B=c", "S=a S=A A=aA", "S=ab A=bS", "S=ASb S=a A= A=c", "S=aSS S=b", "S=A A=B B=S B=c", "S=SAS S=a A=b A=c"]
def wordK (r : Sym × List Sym) : Str := Txt.join "=" [em false r.1, txt false r.2]
theorem kws_ok (j : Nat) (h : j < 16) : kws[j]? = some (Txt.join " " ((knownS j).map wordK)) ∧ knownS j ≠ [] ∧ (knownS j).length ≤ 6 ∧ (∀ r ∈ knownS j, 32 ∉ TL.tl (wordK r) ∧ 61 ∉ TL.tl (em false r.1) ∧ 61 ∉ TL.tl (txt false r.2) ∧ (wordK r).length ≤ 20 ∧ (txt false r.2).length ≤ 20) ∧ (Txt.join " " ((knownS j).map wordK)).length ≤ 100 := by
  have : ∀ j : Fin 16, kws[j.1]? = some (Txt.join " " ((knownS j.1).map wordK)) ∧ knownS j.1 ≠ [] ∧ (knownS j.1).length ≤ 6 ∧ (∀ r ∈ knownS j.1, 32 ∉ TL.tl (wordK r) ∧ 61 ∉ TL.tl (em false r.1) ∧ 61 ∉ TL.tl (txt false r.2) ∧ (wordK r).length ≤ 20 ∧ (txt false r.2).length ≤ 20) ∧ (Txt.join " " ((knownS j.1).map wordK)).length ≤ 100 := by decide +kernel
  exact this ⟨j, h⟩
theorem txt_chars (l : List Sym) : (txt false l).cps.toList.map (fun c => D.str ⟨#[c]⟩) = l.map (es false) := by
  show ((l.map (cd false)).toArray).toList.map _ = _
  rw [List.map_map]
  apply List.map_congr_left
  intro x _
  show D.str ⟨#[cd false x]⟩ = .str (em false x)
  rw [em_f]
/-! a rule among rules -/
theorem eqv_strs : ∀ l m : List Str, PyData.eqvAll (pys (l.map D.str)) (pys (m.map D.str)) = decide (l = m)
  | [], [] => by simp [pys, PyData.eqvAll]
  | [], _ :: _ => by simp [pys, PyData.eqvAll]
  | _ :: _, [] => by simp [pys, PyData.eqvAll]
  | x :: l, y :: m => by
    have ih := eqv_strs l m
    simp only [List.map_cons, pys, py, PyData.eqvAll, PyData.eqv, ih, List.cons.injEq, Bool.decide_and]
    congr 1
theorem map_em_inj {o : Bool} : ∀ {l m : List Sym}, l.map (em o) = m.map (em o) → l = m
  | [], [], _ => rfl
  | [], _ :: _, h => by simp at h
  | _ :: _, [], h => by simp at h
  | x :: l, y :: m, h => by
    simp only [List.map_cons, List.cons.injEq] at h
    rw [em_inj h.1, map_em_inj h.2]
theorem eqv_rule (o : Bool) (r r' : Sym × List Sym) : PyData.eqv (py (encSR o r)) (py (encSR o r')) = decide (r = r') := by
  obtain ⟨n, ps⟩ := r
  obtain ⟨m, qs⟩ := r'
  have h := eqv_strs (ps.map (em o)) (qs.map (em o))
  rw [← map_es, ← map_es] at h
  simp only [encSR, py, pys, PyData.eqv, PyData.eqvAll, h, Bool.and_true, Prod.mk.injEq, Bool.decide_and]
  congr 1
  · by_cases e : n = m
    · simp [e]
    · have : ¬ em o n = em o m := fun z => e (em_inj z)
      simp [e, this]
  · rw [decide_eq_decide]
    exact ⟨map_em_inj, fun e => by rw [e]⟩
theorem plain_SR (o : Bool) (r : Sym × List Sym) : plain 4 (encSR o r) = true := by
  simp only [encSR, plain, plains, em_strOk, plains_ess, Bool.and_true]
theorem pys_map {α : Type} (f : α → D) : ∀ l : List α, pys (l.map f) = l.map fun x => py (f x)
  | [] => rfl
  | x :: l => by rw [List.map_cons, pys, pys_map f l, List.map_cons]
theorem ed_notInR {Γ : Gm} {ta tb : TE} {K : PySem.W.Frag} {o : Bool} {r : Sym × List Sym} {f : SG} (ha : ED ta Γ (encSR o r)) (hb : ED tb Γ (.lst (f.map (encSR o)))) : ED (tOp (rNotInD K) ta tb) Γ (.bl (!decide (r ∈ f))) := ed_op ha hb fun M H x y Q e rx ry q => by
  have hl : plain 5 (.lst (f.map (encSR o))) = true := plains_mem (n := 4) (encSR o) f fun r _ => plain_SR o r
  refine ⟨py (encSR o r), pys (f.map (encSR o)), rx.dp e 4 (plain_SR o r), ?_, py_shaped (plain_SR o r) (by decide), ?_, ?_⟩
  · have := ry.dp (K := K) e 5 hl
    rw [py] at this
    exact this
  · have := py_shaped hl (by decide)
    rw [py] at this
    exact this
  · have e1 : ((pys (f.map (encSR o))).any fun z => PyData.eqv z (py (encSR o r))) = decide (r ∈ f) := by
      rw [pys_map, List.any_map]
      have e2 : ((fun z => PyData.eqv z (py (encSR o r))) ∘ fun x => py (encSR o x)) = fun x => decide (x = r) := by
        funext x
        exact eqv_rule o x r
      rw [e2, Bool.eq_iff_iff]
      simp
    rw [e1]
    exact q _ M H (.refl e) (.bl _)
theorem ed_inTs {Γ : Gm} {ta tb : TE} {K : PySem.W.Frag} {o : Bool} {x : Sym} {l : List Sym} (ha : ED ta Γ (es o x)) (hb : ED tb Γ (.tup (l.map (es o)))) : ED (tOp (rIn K false) ta tb) Γ (.bl (decide (x ∈ l))) := by
  rw [map_es] at hb
  refine (ed_inT ha hb).is ?_
  rw [decide_eq_decide.mpr mem_em]
theorem addN_len {α : Type} [DecidableEq α] (l : List α) (x : α) : (addN l x).length ≤ l.length + 1 := by
  unfold addN
  split
  · omega
  · simp
theorem foldl_addN_len {α : Type} [DecidableEq α] : ∀ (l acc : List α), (l.foldl addN acc).length ≤ acc.length + l.length
  | [], acc => by simp
  | x :: l, acc => by
    have h1 := foldl_addN_len l (addN acc x)
    have h2 := addN_len acc x
    rw [List.foldl_cons, List.length_cons]
    omega
theorem closeStep_len (f : SG) (x : Sym) : (closeStep f x).length ≤ f.length + 1 := by
  unfold closeStep
  split
  · simp
  · omega
theorem foldl_close_len : ∀ (l : List Sym) (f : SG), (l.foldl closeStep f).length ≤ f.length + l.length
  | [], f => by simp
  | x :: l, f => by
    have h1 := foldl_close_len l (closeStep f x)
    have h2 := closeStep_len f x
    rw [List.foldl_cons, List.length_cons]
    omega
theorem index_SAB (x : Sym) (h : isN x = true) : ∃ i rest, Builtin.Str.occurrences ("SAB" : Str) (em false x) 0 ("SAB" : Str).length 1 = i :: rest ∧ [es false .c, es false .a, es false .b][i]? = some (es false (clos x)) := by
  cases x with
  | S => exact ⟨0, [], by decide +kernel, rfl⟩
  | A => exact ⟨1, [], by decide +kernel, rfl⟩
  | B => exact ⟨2, [], by decide +kernel, rfl⟩
  | a => cases h
  | b => cases h
  | c => cases h
  | dot => cases h
section
variable {P : Program} {w : World} {K : PySem.W.Frag} {mg : Str → Option Value} {base : Heap}
inductive R__law_cell_at (K : PySem.W.Frag) : List D → D → Prop | mk (ns : List Int) (k : Nat) : R__law_cell_at K [scr K ns, ei k] (.int (cellAt ns k))
theorem cal__law_cell_at (T : Txt K mg) : Cal P w K mg base 1 "_law_cell_at" ["script", "k"] (spF (R__law_cell_at K)) := by
  refine T.d__law_cell_at.cal sc__law_cell_at [] (by simp) (fun ds d h => by cases h; rfl) fun f cdv A outer s H E hr => ?_
  refine ⟨_, (pss_cons (ps_if (pt_cmpR op_lt (pv 1) (pe_callB call_len_seq (by rfl) T.b_len (by decide +kernel) (pa_cons (pv 0) pa_nil)) (nomark _)) (pss_one (ps_ret (pe_ix ix_list (pv 0) (pv 1) (fun _ _ => rfl)))) pss_nil)
      (pss_one (ps_ret pe_int))), fun ds d h M0 H0 Q q => ?_⟩
  cases h
  case mk ns k =>
  refine hs_if (b := decide ((k : Int) < (ns.length : Int))) (ett (et_test (ed_lt (ed_var rfl) (ed_lenF (l := ns) (ed_var rfl))))) (fun e => ?_) fun e => ?_
  · simp only [decide_eq_true_eq] at e
    have hk : k < ns.length := by omega
    have h1 : ns[k]? = some (cellAt ns k) := by
      unfold cellAt
      rw [List.getD_eq_getElem?_getD, List.getElem?_eq_getElem hk]
      rfl
    exact ho_ret (ev_all (ed_ixF (l := ns) (j := k) (ed_var rfl) (ed_var rfl) rfl h1)) q
  · simp only [decide_eq_false_iff_not] at e
    have h1 : cellAt ns k = 0 := by
      unfold cellAt
      rw [List.getD_eq_getElem?_getD, List.getElem?_eq_none (by omega)]
      rfl
    rw [h1] at q
    exact ho_ret (ev_all ed_cint) q

inductive R__law_next (K : PySem.W.Frag) : Hp → List D → D → (Hp → Prop) → Prop | mk (ns : List Int) (X : Hp) (p : Addr) (n : Nat) (xs : XS X p n) : R__law_next K X [scr K ns, .opq (.ref p)] (.int (cellAt ns n)) fun X' => XS X' p (n + 1)
theorem cal__law_next (T : Txt K mg) : Cal P w K mg base 2 "_law_next" ["script", "spot"] (spX (R__law_next K)) := by
  have C__law_cell_at := cal__law_cell_at (P := P) (w := w) (base := base) T
  refine T.d__law_next.calX sc__law_next [] (by simp) (fun X ds d S h => by cases h; rfl) fun f cdv A outer s H E hr => ?_
  refine ⟨_, (pss_cons (ps_asg (pe_op op_add (pe_ix ix_list (pv 1) pe_int (fun _ _ => rfl)) pe_int) (pg_sub (pv 1) pe_int set_list))
      (pss_one (ps_ret (peC C__law_cell_at (hr.mono (by first | decide | omega)) (by rfl) (pa_cons (pv 0) (pa_cons (pe_op op_sub (pe_ix ix_list (pv 1) pe_int (fun _ _ => rfl)) pe_int) pa_nil)))))), fun X ds d Z h M0 H0 Q q => ?_⟩
  cases h
  case mk ns p n xs =>
  have val : ∀ (X : Hp) (m : Nat) (Γ : Gm) (t : TE) (d : D), XS X p m → Γ[1]? = some (some (.opq (.ref p))) → ED t (Γ.set 1 (some (.lst [ei m]))) d → imm d = true → EX [] X t Γ d (· = X) := fun X m Γ t d xs h1 h2 h3 => exx_imm (i := 1) xs.nt (by simp) h1 xs.rep h2 h3
  intro σ H1 ⟨R, s1⟩
  refine val X n _ _ (ei (n + 1)) xs rfl ((ed_add (ed_ixL (j := 0) (ds := [ei n]) (ed_var rfl) ed_cint rfl rfl) ed_cint).is rfl) rfl M0 H0 σ H1 R s1 _ fun v X' H2 R2 hX s2 rv => ?_
  subst hX
  cases rv
  obtain ⟨v1, e1, r1⟩ := s2.non 1 _ (by simp) rfl
  cases r1
  refine ⟨_, e1, p, _, 0, 0, rfl, rfl, (s2.x p _ xs.top).1, rfl, ?_⟩
  have s3 := s2.xput xs.top (.lst [.int ((n + 1 : Nat) : Int)])
  have xs3 : XS (upd X' p (.lst [.int ((n + 1 : Nat) : Int)])) p (n + 1) := xs.put
  show tRet (tCall (spF (R__law_cell_at K)) [] E0 (tCons (tVar 0) (tCons (tOp (rI0 fun i j => .int (i - j)) (tOp (rIxL K) (tVar 1) (tC (.int 0))) (tC (.int 1))) tNil))) { nx := fun _ H' => Q .non H', rt := Q } σ _
  refine ho_retX (D := { nx := fun _ H' => Q .non H', rt := Q }) (M0 := M0) (H0 := H0) (own := []) (X := upd X' p (.lst [.int ((n + 1 : Nat) : Int)])) (Γ := [some (scr K ns), some (.opq (.ref p))]) (S := fun X2 => XS X2 p (n + 1)) ?_ q σ _ ⟨R2, s3⟩
  generalize upd X' p (.lst [.int ((n + 1 : Nat) : Int)]) = X3 at *
  exact ex_call2 (ev_all (ed_var (i := 0) (d := scr K ns) rfl)) (val X3 (n + 1) _ _ (ei n) xs3 rfl ((ed_sub (ed_ixL (j := 0) (ds := [ei (n + 1)]) (ed_var rfl) ed_cint rfl rfl) ed_cint).is (by congr 1; omega)) rfl) (R__law_cell_at.mk ns n) xs3

inductive R__law_rule_by : List D → D → Prop | mk (cell : Int) : R__law_rule_by [.int cell] (encSR false (ruleBy cell))
theorem cal__law_rule_by (T : Txt K mg) : Cal P w K mg base 1 "_law_rule_by" ["cell"] (spF R__law_rule_by) := by
  refine T.d__law_rule_by.cal sc__law_rule_by [1] (by simp) (fun ds d h => by cases h; rfl) fun f cdv A outer s H E hr => ?_
  refine ⟨_, (pss_cons (ps_set (i := 1) sc__law_rule_by.nd rfl (.inl rfl) (pe_lst pa_nil))
      (pss_cons (ps_set (i := 2) sc__law_rule_by.nd rfl (.inl rfl) (pe_op op_fdiv (pv 0) pe_int))
      (pss_cons (ps_for PassesOwn.never rfl (pi_range1 (by rfl) T.b_range (pa_cons (pe_op op_mod (pe_op op_fdiv (pv 0) pe_int) pe_int) pa_nil)) (pg_name (i := 3) sc__law_rule_by.nd rfl (.inl rfl))
      (pss_cons (ps_expr (pe_bm PySem.F.plainAttrs_list PySem.F.slot_list_append PySem.F.type_list_append mt_append (pv 1) (pa_cons (pe_ix ix_str pe_str (pe_op op_mod (pv 2) pe_int) (fun _ _ => rfl)) pa_nil)))
      (pss_one (ps_set (i := 2) sc__law_rule_by.nd rfl (.inl rfl) (pe_op op_fdiv (pv 2) pe_int)))))
      (pss_one (ps_ret (pe_tup (pa_cons (pe_ix ix_str pe_str (pe_op op_mod (pv 0) pe_int) (fun _ _ => rfl)) (pa_cons (pe_callTy call_tuple_of (by rfl) T.b_tuple (by decide +kernel) (pa_cons (pv 1) pa_nil)) pa_nil)))))))), fun ds d h M0 H0 Q q => ?_⟩
  cases h
  case mk cell =>
  have hm4 : (cell / 3 % 4).toNat < 4 := modLt (i := cell / 3) (m := 4) (by decide)
  refine hs_own (en_flat (ef_lst ea_nil (le_b rfl)) rfl) (hs_set (ev_imm (ed_fdiv (ed_var rfl) ed_cint ⟨by decide, by decide⟩) rfl) ?_)
  refine hs_forI (List.range (cell / 3 % 4).toNat) (fun i : Nat => .int (i : Int)) (fun k (s : List Sym × Int) => s.1.length = k ∧ s.1 ++ partsBy ((cell / 3 % 4).toNat - k) s.2 = partsBy (cell / 3 % 4).toNat (cell / 12)) (fun s : List Sym × Int => [some (.int cell), some (.lst (s.1.map (es false))), some (.int s.2), none]) ([], cell / 12)
    (ei_range ((ed_mod (ed_fdiv (ed_var rfl) ed_cint ⟨by decide, by decide⟩) ed_cint (by decide)).is (by congr 1; exact modN (by decide))) (by omega)) ⟨rfl, rfl⟩ (fun M1 H1 bl k i s hk hI => ⟨_, tg_name (by simp) (lt_b rfl), fun JJ hJ => ?_⟩) fun s hI => ?_
  · obtain ⟨hl, hp⟩ := hI
    have hk' := lt_of_at hk
    rw [List.length_range] at hk'
    refine hs_app (ev_imm (ed_six (ed_var rfl)) rfl) rfl (by rw [List.length_map]; omega) (ho_asg (ev_imm (ed_fdiv (ed_var rfl) ed_cint ⟨by decide, by decide⟩) rfl) (tg_name (by simp) (lt_b rfl)) ?_)
    have e1 : (cell / 3 % 4).toNat - k = ((cell / 3 % 4).toNat - (k + 1)) + 1 := by omega
    rw [e1, partsBy] at hp
    have e2 : s.1.map (es false) ++ [es false (sym6 s.2)] = (s.1 ++ [sym6 s.2]).map (es false) := by rw [List.map_append]; rfl
    rw [e2]
    exact nx_sj (by repeat (first | exact trivial | refine ⟨rfl, ?_⟩)) (hJ (s.1 ++ [sym6 s.2], s.2 / 6) ⟨by simp [hl], by simpa using hp⟩)
  · obtain ⟨hl, hp⟩ := hI
    rw [List.length_range, Nat.sub_self, partsBy, List.append_nil] at hp
    refine ho_ret (ev_imm (ed_tup (ea_cons (ed_three (ed_var rfl)) (ea_cons (ed_tupL (ed_var rfl)) ea_nil)) (le_b rfl)) ?_) ?_
    · rw [hp]
      exact imm_SR false (ruleBy cell)
    · rw [hp]
      exact q

inductive R__law_known : List D → D → Prop | mk (i : Int) : R__law_known [.int i] (encSG false (knownS (i % 16).toNat))
theorem cal__law_known (T : Txt K mg) : Cal P w K mg base 1 "_law_known" ["number"] (spN R__law_known) := by
  refine T.d__law_known.calN sc__law_known [2] (by simp) (fun ds d h => by cases h; rfl) fun f cdv A outer s H E hr => ?_
  refine ⟨_, (pss_cons (ps_set (i := 1) sc__law_known.nd rfl (.inl rfl) (pe_lst (pa_cons pe_str (pa_cons pe_str (pa_cons pe_str (pa_cons pe_str pa_nil))))))
      (pss_cons (ps_set (i := 1) sc__law_known.nd rfl (.inl rfl) (pe_op op_cat (pv 1) (pe_lst (pa_cons pe_str (pa_cons pe_str (pa_cons pe_str (pa_cons pe_str pa_nil)))))))
      (pss_cons (ps_set (i := 1) sc__law_known.nd rfl (.inl rfl) (pe_op op_cat (pv 1) (pe_lst (pa_cons pe_str (pa_cons pe_str (pa_cons pe_str (pa_cons pe_str pa_nil)))))))
      (pss_cons (ps_set (i := 1) sc__law_known.nd rfl (.inl rfl) (pe_op op_cat (pv 1) (pe_lst (pa_cons pe_str (pa_cons pe_str (pa_cons pe_str (pa_cons pe_str pa_nil)))))))
      (pss_cons (ps_set (i := 2) sc__law_known.nd rfl (.inl rfl) (pe_lst pa_nil))
      (pss_cons (ps_for PassesOwn.never rfl (pi_list (pe_split (pe_ix ix_list (pv 1) (pe_op op_mod (pv 0) pe_int) (fun _ _ => rfl)) pe_str)) (pg_name (i := 3) sc__law_known.nd rfl (.inl rfl))
      (pss_cons (ps_asg (pe_split (pv 3) pe_str) (pg_unl rfl (pgs_cons (pg_name (i := 4) sc__law_known.nd rfl (.inl rfl)) (pgs_cons (pg_name (i := 5) sc__law_known.nd rfl (.inl rfl)) pgs_nil))))
      (pss_one (ps_expr (pe_bm PySem.F.plainAttrs_list PySem.F.slot_list_append PySem.F.type_list_append mt_append (pv 2) (pa_cons (pe_tup (pa_cons (pv 4) (pa_cons (pe_callTy call_tuple_of (by rfl) T.b_tuple (by decide +kernel) (pa_cons (pe_callTy (call_list_str rfl) (by rfl) T.b_list (by decide +kernel) (pa_cons (pv 5) pa_nil)) pa_nil)) pa_nil))) pa_nil))))))
      (pss_one (ps_ret (pv 2))))))))), fun ds d h M0 H0 Q q => ?_⟩
  cases h
  case mk i =>
  obtain ⟨k1, k2, k3, k4, k5⟩ := kws_ok (i % 16).toNat (modLt (i := i) (m := 16) (by decide))
  have hix : ((kws.map D.str))[(i % 16).toNat]? = some (.str (Txt.join " " ((knownS (i % 16).toNat).map wordK))) := by rw [List.getElem?_map, k1]; rfl
  generalize knownS (i % 16).toNat = g at *
  refine hs_set (ev_flat (ef_lst (ea_cons ed_cstr (ea_cons ed_cstr (ea_cons ed_cstr (ea_cons ed_cstr ea_nil)))) (le_b rfl)) rfl) ?_
  refine hs_set (ev_flat (ef_cat (ed_var rfl) (ef_lst (ea_cons ed_cstr (ea_cons ed_cstr (ea_cons ed_cstr (ea_cons ed_cstr ea_nil)))) (le_b rfl)).ed (le_b rfl)) rfl) ?_
  refine hs_set (ev_flat (ef_cat (ed_var rfl) (ef_lst (ea_cons ed_cstr (ea_cons ed_cstr (ea_cons ed_cstr (ea_cons ed_cstr ea_nil)))) (le_b rfl)).ed (le_b rfl)) rfl) ?_
  refine hs_set (d := .lst (kws.map .str)) (ev_flat ((ef_cat (ed_var rfl) (ef_lst (ea_cons ed_cstr (ea_cons ed_cstr (ea_cons ed_cstr (ea_cons ed_cstr ea_nil)))) (le_b rfl)).ed (le_b rfl)).is rfl) rfl) ?_
  refine hs_own (en_flat (ef_lst ea_nil (le_b rfl)) rfl) ?_
  refine hs_for g (fun r => .str (wordK r)) (fun k => [some (.int i), some (.lst (kws.map .str)), some (.lst ((g.take k).map (encSR false))), none, none, none]) (ei_list ((ef_split (z := Txt.join " " (g.map wordK)) (y := " ") (ed_ixL (j := (i % 16).toNat) (ds := kws.map .str) (ed_var rfl) (ed_mod (ed_var rfl) ed_cint (by decide)) (modN (by decide)) hix) ed_cstr rfl (by omega)).ed.is ?_)) (fun M1 H1 bl k r hr => ⟨_, tg_name (by simp) (lt_b rfl), ?_⟩) ?_
  · rw [TL.split_join (s := 32) (S := []) rfl (by decide +kernel) (fun e => k2 (List.map_eq_nil_iff.mp e)) fun p hp => by obtain ⟨r, hr, rfl⟩ := List.mem_map.mp hp; exact (k4 r hr).1, List.map_map]
    rfl
  · obtain ⟨w1, w2, w3, w4, w5⟩ := k4 r (List.mem_of_getElem? hr)
    have hsp : Txt.split (wordK r) "=" = [em false r.1, txt false r.2] := TL.split_join (s := 61) (S := []) rfl (by decide +kernel) (by simp) fun p hp => by
      rcases List.mem_cons.mp hp with e | e
      · rw [e]; exact w2
      · have : p = txt false r.2 := by simpa using e
        rw [this]; exact w3
    refine hs_asg (d := .lst [.str (em false r.1), .str (txt false r.2)]) (ev_flat ((ef_split (z := wordK r) (y := "=") (ed_var rfl) ed_cstr rfl (by omega)).is (by rw [hsp]; rfl)) rfl) (tg_unl2 (by simp) (by simp) (lt_b rfl) (lt_b rfl)) ?_
    refine ho_app (d := encSR false r) (in_b rfl) rfl (ev_imm (ed_tup (ea_cons (ed_var rfl) (ea_cons (ed_tupL ((ef_listS (z := txt false r.2) (ed_var rfl) (by omega)).ed.is (by rw [txt_chars]))) ea_nil)) (le_b rfl)) (imm_SR false r)) (by rw [List.length_map, List.length_take]; omega) ?_
    have e4 : (g.take (k + 1)).map (encSR false) = (g.take k).map (encSR false) ++ [encSR false r] := by rw [take_succ hr, List.map_append]; rfl
    rw [e4]
    exact nx_to
  · rw [List.take_length]
    exact ho_retOwn (in_b rfl) rfl q

inductive R__law_closed : List D → D → Prop | mk (rs : SG) (hl : rs.length ≤ 1000) : R__law_closed [encSG false rs] (encSG false (closedS rs))
theorem cal__law_closed (T : Txt K mg) : Cal P w K mg base 1 "_law_closed" ["rules"] (spF R__law_closed) := by
  refine T.d__law_closed.cal sc__law_closed [1] (by simp) (fun ds d h => by cases h; rfl) fun f cdv A outer s H E hr => ?_
  refine ⟨_, (pss_cons (ps_set (i := 1) sc__law_closed.nd rfl (.inl rfl) (pe_lst pa_nil))
      (pss_cons (ps_for PassesOwn.never rfl (pi_list (pv 0)) (pg_name (i := 2) sc__law_closed.nd rfl (.inl rfl))
      (pss_one (ps_if (pt_cmpR (op_notInD (units65 hr)) (pv 2) (pv 1) rfl) (pss_one (ps_expr (pe_bm PySem.F.plainAttrs_list PySem.F.slot_list_append PySem.F.type_list_append mt_append (pv 1) (pa_cons (pv 2) pa_nil)))) pss_nil)))
      (pss_cons (ps_for PassesOwn.never rfl (pi_list (pe_lst (pa_cons pe_str (pa_cons pe_str (pa_cons pe_str pa_nil))))) (pg_name (i := 3) sc__law_closed.nd rfl (.inr rfl))
      (pss_cons (ps_setLc (i := 4) (own := [("rule", 2)]) (g := (gName 2)) (tt := (tTest (tOp rEq (tOp (rIxT K) (tVar 2) (tC (.int 0))) (tVar 3)))) (te := (tVar 2)) rfl sc__law_closed.nd rfl rfl (sw_true rfl rfl rfl (by decide +kernel)) (pi_list (pv 1)) (blkOk_by (N := ["rules", "found", "rule", "name", "has", "used"]) (sc := defScope s__law_closed) (by decide +kernel)) (fun _ _ _ _ _ => (pg_name (i := 2) sc__law_closed.nd rfl (.inl rfl))) (fun _ _ _ _ _ => (pts_one (pt_cmpR op_eq (pe_ix ix_tup (pv 2) pe_int (fun _ _ => rfl)) (pv 3) (nomark _)))) (fun _ _ _ _ _ => (pv 2)))
      (pss_cons (ps_setLc (i := 5) (own := [("rule", 2)]) (g := (gName 2)) (tt := (tTest (tOp (rIn K false) (tVar 3) (tOp (rIxT K) (tVar 2) (tC (.int 1)))))) (te := (tVar 2)) rfl sc__law_closed.nd rfl rfl (sw_true rfl rfl rfl (by decide +kernel)) (pi_list (pv 1)) (blkOk_by (N := ["rules", "found", "rule", "name", "has", "used"]) (sc := defScope s__law_closed) (by decide +kernel)) (fun _ _ _ _ _ => (pg_name (i := 2) sc__law_closed.nd rfl (.inl rfl))) (fun _ _ _ _ _ => (pts_one (pt_cmpR op_in_seq (pv 3) (pe_ix ix_tup (pv 2) pe_int (fun _ _ => rfl)) rfl))) (fun _ _ _ _ _ => (pv 2)))
      (pss_one (ps_if (PW.pt (pw_and (pt_cmpR op_gt (pe_callB call_len_seq (by rfl) T.b_len (by decide +kernel) (pa_cons (pv 5) pa_nil)) pe_int (nomark _)) (pw_and1 (pt_cmpR op_eq (pe_callB call_len_seq (by rfl) T.b_len (by decide +kernel) (pa_cons (pv 4) pa_nil)) pe_int (nomark _))))) (pss_one (ps_expr (pe_bm PySem.F.plainAttrs_list PySem.F.slot_list_append PySem.F.type_list_append mt_append (pv 1) (pa_cons (pe_tup (pa_cons (pv 3) (pa_cons (pe_tup (pa_cons (pe_ix ix_list (pe_lst (pa_cons pe_str (pa_cons pe_str (pa_cons pe_str pa_nil)))) (pe_m1 PySem.F.slot_str_index PySem.F.type_str_index mt_sindex pe_str (pv 3)) (fun _ _ => rfl)) pa_nil)) pa_nil))) pa_nil)))) pss_nil)))))
      (pss_one (ps_ret (pv 1)))))), fun ds d h M0 H0 Q q => ?_⟩
  cases h
  case mk rs hl =>
  refine hs_own (en_flat (ef_lst ea_nil (le_b rfl)) rfl) (hs_for rs (encSR false) (fun k => [some (encSG false rs), some (.lst (((rs.take k).foldl addN []).map (encSR false))), none, none, none, none]) (ei_list (ds := rs.map (encSR false)) (ed_var rfl)) (fun M1 H1 bl k r hr => ⟨_, tg_name (by simp) (lt_b rfl), ?_⟩) ?_)
  · rw [fold_take hr]
    have hll := foldl_addN_len (rs.take k) ([] : SG)
    rw [List.length_take] at hll
    generalize (rs.take k).foldl addN [] = f at *
    refine ho_when (ett (et_test (ed_notInR (ed_var rfl) (ed_var (i := 1) rfl)))) (fun e => ?_) fun e => ?_
    · simp only [Bool.not_eq_true', decide_eq_false_iff_not] at e
      refine ho_app (in_b rfl) rfl (ev_imm (ed_var rfl) (imm_SR false r)) (by rw [List.length_map]; simp at hll; omega) ?_
      unfold addN
      rw [if_neg e, List.map_append]
      exact nx_to
    · simp only [Bool.not_eq_false', decide_eq_true_eq] at e
      unfold addN
      rw [if_pos e]
      exact nx_to
  · rw [List.take_length]
    have hll : (dedup rs).length ≤ ([] : SG).length + rs.length := foldl_addN_len rs ([] : SG)
    have e0 : rs.foldl addN [] = dedup rs := rfl
    rw [e0]
    refine hs_for [Sym.S, .A, .B] (es false) (fun k => [some (encSG false rs), some (.lst ((([Sym.S, .A, .B].take k).foldl closeStep (dedup rs)).map (encSR false))), none, none, none, none]) (ei_list (ef_lst (ea_cons ed_cstr (ea_cons ed_cstr (ea_cons ed_cstr ea_nil))) (le_b rfl)).ed) (fun M1 H1 bl k x hx => ⟨_, tg_name (by simp) (lt_b rfl), ?_⟩) ?_
    · rw [fold_take hx]
      have hl2 := foldl_close_len ([Sym.S, .A, .B].take k) (dedup rs)
      rw [List.length_take] at hl2
      have hxN : isN x = true := by
        have := List.mem_of_getElem? hx
        simp at this
        rcases this with e | e | e <;> rw [e] <;> rfl
      generalize ([Sym.S, .A, .B].take k).foldl closeStep (dedup rs) = f at *
      have hfl : f.length ≤ 2000 := by simp at hl2 hll; omega
      refine hs_set (d := .lst ((hasOf f x).map (encSR false))) (ev_flat (ef_lc f (encSR false) (fun r => decide (r.1 = x)) (encSR false) (ei_list (ds := f.map (encSR false)) (ed_var rfl)) (by omega) fun r _ => ⟨_, ts_name (by simp), et_test (ed_eqs (ed_ixT (j := 0) (ds := [es false r.1, .tup (r.2.map (es false))]) (ed_var rfl) ed_cint rfl rfl) (ed_var rfl)), fun _ => ed_var rfl⟩) (imms_SG false _)) ?_
      refine hs_set (d := .lst ((usedIn f x).map (encSR false))) (ev_flat (ef_lc f (encSR false) (fun r => decide (x ∈ r.2)) (encSR false) (ei_list (ds := f.map (encSR false)) (ed_var rfl)) (by omega) fun r _ => ⟨_, ts_name (by simp), et_test (ed_inTs (ed_var rfl) (ed_ixT (j := 1) (ds := [es false r.1, .tup (r.2.map (es false))]) (ed_var rfl) ed_cint rfl rfl)), fun _ => ed_var rfl⟩) (imms_SG false _)) ?_
      refine ho_when (b := decide (0 < (usedIn f x).length) && decide ((hasOf f x).length = 0)) (ett (et_and (et_test ((ed_gt (ed_lenL (ds := (usedIn f x).map (encSR false)) (ed_var rfl)) ed_cint).is ?_)) fun _ => et_test ((ed_eqI (ed_lenL (ds := (hasOf f x).map (encSR false)) (ed_var rfl)) ed_cint).is ?_))) (fun e => ?_) fun e => ?_
      · rw [List.length_map, decide_eq_decide.mpr]
        omega
      · rw [List.length_map, decide_eq_decide.mpr]
        omega
      · obtain ⟨i, rest, h1, h2⟩ := index_SAB x hxN
        refine ho_app (d := encSR false (x, [clos x])) (in_b rfl) rfl (ev_imm (ed_tup (ea_cons (ed_var rfl) (ea_cons (ed_tup (ea_cons (ed_ixL (j := i) (ds := [es false .c, es false .a, es false .b]) (ef_lst (ea_cons ed_cstr (ea_cons ed_cstr (ea_cons ed_cstr ea_nil))) (le_b rfl)).ed (ed_sindex (z := "SAB") (y := em false x) ed_cstr (ed_var rfl) h1) rfl h2) ea_nil) (le_b rfl)) ea_nil)) (le_b rfl)) (imm_SR false (x, [clos x]))) (by rw [List.length_map]; omega) ?_
        unfold closeStep
        rw [if_pos e, List.map_append]
        exact nx_to
      · unfold closeStep
        rw [if_neg (by rw [e]; decide)]
        exact nx_to
    · exact ho_freeze 1 (own' := []) (by simp) (ho_ret (ev_all (ed_var rfl)) q)

theorem manyOf_le (c : Int) : manyOf c ≤ 4 := by
  unfold manyOf
  have h1 := modLt (i := c / 2) (m := 4) (by decide)
  have h2 := modLt (i := c / 32) (m := 2) (by decide)
  split <;> omega
inductive R__law_grammar (K : PySem.W.Frag) : Hp → List D → D → (Hp → Prop) → Prop | mk (ns : List Int) (X : Hp) (p : Addr) (xs : XS X p 0) : R__law_grammar K X [scr K ns, .opq (.ref p)] (encSG false (lawG ns)) fun X' => XS X' p (spotG ns)
theorem cal__law_grammar (T : Txt K mg) : Cal P w K mg base 4 "_law_grammar" ["script", "spot"] (spX (R__law_grammar K)) := by
  have C__law_next := cal__law_next (P := P) (w := w) (base := base) T
  have C__law_closed := cal__law_closed (P := P) (w := w) (base := base) T
  have C__law_known := cal__law_known (P := P) (w := w) (base := base) T
  have C__law_rule_by := cal__law_rule_by (P := P) (w := w) (base := base) T
  refine T.d__law_grammar.calX sc__law_grammar [4] (by simp) (fun X ds d S h => by cases h; rfl) fun f cdv A outer s H E hr => ?_
  refine ⟨_, (pss_cons (ps_set (i := 2) sc__law_grammar.nd rfl (.inl rfl) (peC C__law_next (hr.mono (by first | decide | omega)) (by rfl) (pa_cons (pv 0) (pa_cons (pv 1) pa_nil))))
      (pss_cons (ps_if (pt_cmpR op_eq (pe_op op_mod (pv 2) pe_int) pe_int (nomark _)) (pss_cons (ps_set (i := 3) sc__law_grammar.nd rfl (.inl rfl) (pe_op op_add pe_int (pe_op op_mod (pe_op op_fdiv (pv 2) pe_int) pe_int)))
      (pss_one (ps_set (i := 4) sc__law_grammar.nd rfl (.inl rfl) (pe_lst pa_nil)))) (pss_cons (ps_set (i := 3) sc__law_grammar.nd rfl (.inl rfl) (pe_op op_mod (pe_op op_fdiv (pv 2) pe_int) pe_int))
      (pss_one (ps_set (i := 4) sc__law_grammar.nd rfl (.inl rfl) (peC C__law_known (hr.mono (by first | decide | omega)) (by rfl) (pa_cons (pe_op op_fdiv (pv 2) pe_int) pa_nil))))))
      (pss_cons (ps_for PassesOwn.never rfl (pi_range1 (by rfl) T.b_range (pa_cons (pv 3) pa_nil)) (pg_name (i := 5) sc__law_grammar.nd rfl (.inl rfl))
      (pss_one (ps_expr (pe_bm PySem.F.plainAttrs_list PySem.F.slot_list_append PySem.F.type_list_append mt_append (pv 4) (pa_cons (peC C__law_rule_by (hr.mono (by first | decide | omega)) (by rfl) (pa_cons (peC C__law_next (hr.mono (by first | decide | omega)) (by rfl) (pa_cons (pv 0) (pa_cons (pv 1) pa_nil))) pa_nil)) pa_nil)))))
      (pss_one (ps_ret (peC C__law_closed (hr.mono (by first | decide | omega)) (by rfl) (pa_cons (pv 4) pa_nil))))))), fun X ds d Z h M0 H0 Q q => ?_⟩
  cases h
  case mk ns p xs =>
  refine hs_setX (ex_callX (eav_cons (ev_mask (ed_var rfl)) (eav_cons (ev_mask (ed_var rfl)) eav_nil)) (R__law_next.mk ns X p 0 xs)) fun X1 xs1 => ?_
  have hm := manyOf_le (cellAt ns 0)
  have hL : lawG ns = closedS (startOf (cellAt ns 0) ++ rulesFrom ns 1 (manyOf (cellAt ns 0))) := rfl
  have hS : spotG ns = 1 + manyOf (cellAt ns 0) := rfl
  rw [hL, hS] at q
  have hst : (startOf (cellAt ns 0)).length ≤ 6 := by
    unfold startOf
    split
    · simp
    · exact (kws_ok _ (modLt (i := cellAt ns 0 / 2) (m := 16) (by decide))).2.2.1
  generalize hc : cellAt ns 0 = c at *
  refine hs_ifBoth [some (scr K ns), some (.opq (.ref p)), some (.int c), some (ei (manyOf c)), some (.lst ((startOf c).map (encSR false))), none] (ett (et_test (ed_eqI (ed_mod (ed_var rfl) ed_cint (by decide)) ed_cint))) (fun e E kk => ?_) (fun e E kk => ?_) ?_
  · simp only [decide_eq_true_eq] at e
    have h1 : manyOf c = 1 + (c / 2 % 4).toNat := by unfold manyOf; rw [if_pos e]
    have h2 : startOf c = [] := by unfold startOf; rw [if_pos e]
    rw [h1, h2] at kk
    refine hs_set (d := ei (1 + (c / 2 % 4).toNat)) (ev_imm ((ed_add ed_cint (ed_mod (ed_fdiv (ed_var rfl) ed_cint ⟨by decide, by decide⟩) ed_cint (by decide))).is ?_) rfl) (ho_own (en_flat (ef_lst ea_nil (le_b rfl)) rfl) (in_b rfl) (lt_b rfl) kk)
    have := modN (i := c / 2) (m := 4) (by decide)
    rw [this]
    congr 1
  · simp only [decide_eq_false_iff_not] at e
    have h1 : manyOf c = (c / 32 % 2).toNat := by unfold manyOf; rw [if_neg e]
    have h2 : startOf c = knownS (c / 2 % 16).toNat := by unfold startOf; rw [if_neg e]
    rw [h1, h2] at kk
    refine hs_set (d := ei (c / 32 % 2).toNat) (ev_imm ((ed_mod (ed_fdiv (ed_var rfl) ed_cint ⟨by decide, by decide⟩) ed_cint (by decide)).is ?_) rfl) (ho_own (en_flat (ef_callN (ea_cons (ed_fdiv (ed_var rfl) ed_cint ⟨by decide, by decide⟩) ea_nil) (R__law_known.mk (c / 2))) (imms_SG false _)) (in_b rfl) (lt_b rfl) kk)
    exact congrArg D.int (modN (i := c / 32) (m := 2) (by decide))
  · refine hs_forX (List.range (manyOf c)) (fun i : Nat => .int (i : Int)) (fun k (s : Nat) X2 => s = k ∧ XS X2 p (1 + k)) (fun s : Nat => [some (scr K ns), some (.opq (.ref p)), some (.int c), some (ei (manyOf c)), some (.lst ((startOf c ++ rulesFrom ns 1 s).map (encSR false))), none]) 0 (eix_mask (ei_range (ed_var rfl) (by omega))) ⟨rfl, xs1⟩ (fun M1 H1 bl k i s X2 hk hI => ⟨_, tg_name (by simp) (lt_b rfl), fun JJ hJ => ?_⟩) (fun s X2 hI => ?_) (by unfold rulesFrom; rw [List.range_zero, List.map_nil, List.append_nil]; exact ⟨rfl, rfl, rfl, rfl, rfl, trivial⟩)
    · obtain ⟨rfl, xs2⟩ := hI
      have hk' := lt_of_at hk
      rw [List.length_range] at hk'
      refine ho_appX (in_b rfl) rfl (ex_call1 (ex_callX (eav_cons (ev_mask (ed_var rfl)) (eav_cons (ev_mask (ed_var rfl)) eav_nil)) (R__law_next.mk ns X2 p (1 + s) xs2)) (R__law_rule_by.mk _)) (by rw [List.length_map, List.length_append]; unfold rulesFrom; rw [List.length_map, List.length_range]; omega) fun X3 xs3 => ?_
      have e1 : (startOf c ++ rulesFrom ns 1 (s + 1)).map (encSR false) = (startOf c ++ rulesFrom ns 1 s).map (encSR false) ++ [encSR false (ruleBy (cellAt ns (1 + s)))] := by
        unfold rulesFrom
        rw [List.range_succ]
        simp only [List.map_append, List.append_assoc, List.map_cons, List.map_nil]
      have j := hJ (s + 1) X3 ⟨rfl, by rw [← Nat.add_assoc]; exact xs3⟩
      rw [e1] at j
      exact nx_sjx j
    · rw [List.length_range] at hI
      obtain ⟨rfl, xs2⟩ := hI
      refine ho_freeze 4 (own' := []) (by simp) (ho_retX (S := (· = X2)) (EV.x (ev_all (ed_call (ea_cons (ed_var rfl) ea_nil) (R__law_closed.mk (startOf c ++ rulesFrom ns 1 (manyOf c)) ?_)))) fun v X' M' H' hS g hx rv => q v X' M' H' (by rw [hS]; exact xs2) g hx rv)
      rw [List.length_append]
      unfold rulesFrom
      rw [List.length_map, List.length_range]
      omega
end
end RN

end
section
set_option maxRecDepth 100000
set_option maxHeartbeats 4000000
namespace RN
open PySem L2 Sym
/-! ### heights -/
theorem maxH_int (l : List Nat) : maxL ((l.map fun n : Nat => (n : Int)) ++ [0]) = ((l.foldr max 0 : Nat) : Int) := by
  induction l with
  | nil => rfl
  | cons y l ih =>
    unfold maxL at ih ⊢
    rw [List.map_cons, List.cons_append, List.foldr_cons, ih, List.foldr_cons]
    omega
theorem abc_txt : ("abc" : Str) = txt false [.a, .b, .c] := by decide +kernel
theorem hs0_nd : (hs0.map (·.1)).Nodup := by decide
theorem okH_at {s : List (Sym × Nat)} {ps : List Sym} (h : okH s ps = true) {p : Sym} (hp : p ∈ ps) : ∃ n, getA s p = some n := Option.isSome_iff_exists.mp (List.all_eq_true.mp h p hp)
/-- max([heights[part] for part in parts] + [0]) -/
theorem ed_maxH {Γ : Gm} {K : PySem.W.Frag} {s : List (Sym × Nat)} {ps : List Sym} {wi : TI} {te : TE} {g : L2.TG} {vs : List Nat} (hI : EI wi Γ (ps.map (es false))) (hl : ps.length ≤ 1000)
    (ht : ∀ p, p ∈ ps → ∃ Γ', TgS g (es false p) vs (wipeG Γ vs) Γ' ∧ ED te Γ' (ei ((getA s p).getD 0))) : ED (tCB (rMax K) (tCons (tOp rCat (tLc wi g tYes te vs) (tLst (tCons (tC (.int 0)) tNil))) tNil)) Γ (ei (maxH s ps)) := by
  refine (ed_max (ns := ((ps.map fun p => (getA s p).getD 0).map fun n : Nat => (n : Int)) ++ [0]) ((ef_cat (es := [.int 0]) (ef_lcM ps (es false) (fun p => ei ((getA s p).getD 0)) hI (by omega) ht).ed (ef_lst (ea_cons ed_cint ea_nil) (le_b rfl)).ed (by rw [List.length_map, List.length_singleton]; omega)).ed.is ?_) (by simp) ?_).is ?_
  · rw [List.map_append, List.map_map, List.map_map]
    rfl
  · intro y hy
    rcases List.mem_append.mp hy with h | h
    · obtain ⟨n, _, rfl⟩ := List.mem_map.mp h
      omega
    · have : y = 0 := by simpa using h
      omega
  · rw [maxH_int]
    rfl
section
variable {P : Program} {w : World} {K : PySem.W.Frag} {mg : Str → Option Value} {base : Heap}
inductive R__law_heights : List D → D → Prop | mk (g : SG) (h6 : ∀ r ∈ g, r.2.length ≤ 6) (hl : g.length ≤ 1000) : R__law_heights [encSG false g] (.dct (dctA false ei (heights g)))
theorem cal__law_heights (T : Txt K mg) : Cal P w K mg base 1 "_law_heights" ["grammar"] (spF R__law_heights) := by
  refine T.d__law_heights.cal sc__law_heights [1] (by simp) (fun ds d h => by cases h; rfl) fun f cdv A outer s H E hr => ?_
  have hu := hu_of hr
  refine ⟨_, (pss_cons (ps_set (i := 1) sc__law_heights.nd rfl (.inr rfl) pe_dnewK)
      (pss_cons (ps_for PassesOwn.never rfl (pi_str pe_str) (pg_name (i := 2) sc__law_heights.nd rfl (.inl rfl))
      (pss_one (ps_dput hu (pv 1) (pv 2) pe_int rfl)))
      (pss_cons (ps_for PassesOwn.never rfl (pi_range1 (by rfl) T.b_range (pa_cons (pe_op op_add (pe_callB call_len_seq (by rfl) T.b_len (by decide +kernel) (pa_cons (pv 0) pa_nil)) pe_int) pa_nil)) (pg_name (i := 3) sc__law_heights.nd rfl (.inl rfl))
      (pss_one (ps_for PassesOwn.never rfl (pi_list (pv 0)) (pg_tup rfl (pgs_cons (pg_name (i := 4) sc__law_heights.nd rfl (.inl rfl)) (pgs_cons (pg_name (i := 5) sc__law_heights.nd rfl (.inl rfl)) pgs_nil)))
      (pss_one (ps_if (pt_val (pe_callB (cr_all rfl) (by rfl) T.b_all (by decide +kernel) (pa_cons (pe_lc (own := [("part", 7)]) (g := (gName 7)) (tt := tYes) (te := (tDIn (tVar 7) (tVar 1))) rfl sc__law_heights.nd (pi_tup (pv 5)) (blkOk_by (N := ["grammar", "heights", "letter", "turn", "name", "parts", "high", "part"]) (sc := defScope s__law_heights) (by decide +kernel)) (fun _ _ _ _ _ => (pg_name (i := 7) sc__law_heights.nd rfl (.inl rfl))) (fun _ _ _ _ _ => pts_nil) (fun _ _ _ _ _ => (pe_cmp (pc_din hu (pv 7) (pv 1))))) pa_nil))) (pss_cons (ps_set (i := 6) sc__law_heights.nd rfl (.inl rfl) (pe_op op_add pe_int (pe_callB (cr_max rfl) (by rfl) T.b_max (by decide +kernel) (pa_cons (pe_op op_cat (pe_lc (own := [("part", 7)]) (g := (gName 7)) (tt := tYes) (te := (tDGet (tVar 1) (tVar 7))) rfl sc__law_heights.nd (pi_tup (pv 5)) (blkOk_by (N := ["grammar", "heights", "letter", "turn", "name", "parts", "high", "part"]) (sc := defScope s__law_heights) (by decide +kernel)) (fun _ _ _ _ _ => (pg_name (i := 7) sc__law_heights.nd rfl (.inl rfl))) (fun _ _ _ _ _ => pts_nil) (fun _ _ _ _ _ => (pe_dget hu (pv 1) (pv 7) (fun _ _ => rfl)))) (pe_lst (pa_cons pe_int pa_nil))) pa_nil))))
      (pss_one (ps_dput hu (pv 1) (pv 4) (pe_callB (call_min2 rfl) (by rfl) T.b_min (by decide +kernel) (pa_cons (pv 6) (pa_cons (pe_dget2 hu (pv 1) (pv 4) (pv 6) ⟨by rfl, by rfl, by rfl, by rfl⟩) pa_nil))) rfl))) pss_nil)))))
      (pss_one (ps_ret (pv 1)))))), fun ds d h M0 H0 Q q => ?_⟩
  cases h
  case mk g h6 hl =>
  refine hs_own (en_flat ef_dnew rfl) (hs_for [Sym.a, .b, .c] (es false) (fun k => [some (encSG false g), some (.dct (dctA false ei (hs0.take k))), none, none, none, none, none, none]) ?_ (fun M1 H1 bl k x hx => ⟨_, tg_name (by simp) (lt_b rfl), ?_⟩) ?_)
  · rw [← txt_chars, ← abc_txt]
    exact ei_str ed_cstr
  · refine ho_dput (d := ei 0) rfl (ev_imm ed_cint rfl) (ed_var rfl) (by rw [len_A, List.length_take]; show min k 3 < 100000; omega) ?_
    rw [putD_A]
    have e : putA (hs0.take k) x 0 = hs0.take (k + 1) := by
      match k, hx with
      | 0, hx => simp at hx; subst hx; rfl
      | 1, hx => simp at hx; subst hx; rfl
      | 2, hx => simp at hx; subst hx; rfl
      | k + 3, hx => simp at hx
    rw [e]
    exact nx_to
  · refine hs_for (List.range (g.length + 1)) (fun i : Nat => .int (i : Int)) (fun k => [some (encSG false g), some (.dct (dctA false ei (((List.range (g.length + 1)).take k).foldl (fun s _ => htPass g s) hs0))), none, none, none, none, none, none]) (ei_range ((ed_add (ed_lenL (ds := g.map (encSR false)) (ed_var rfl)) ed_cint).is (by rw [List.length_map]; rfl)) (by omega)) (fun M1 H1 bl k i hk => ⟨_, tg_name (by simp) (lt_b rfl), ?_⟩) ?_
    · rw [fold_take hk]
      have hnd := htRange_nd g ((List.range (g.length + 1)).take k) hs0 hs0_nd
      generalize ((List.range (g.length + 1)).take k).foldl (fun s _ => htPass g s) hs0 = s0 at *
      refine ho_forE g (encSR false) (fun j => [some (encSG false g), some (.dct (dctA false ei ((g.take j).foldl htStep s0))), none, none, none, none, none, none]) (ei_list (ds := g.map (encSR false)) (ed_var rfl)) (fun M2 H2 bl2 j r hr => ⟨_, tg_tup2 (by simp) (by simp) (lt_b rfl) (lt_b rfl), ?_⟩) ?_
      · rw [fold_take hr]
        have hnd2 := htFold_nd (g.take j) s0 hnd
        generalize (g.take j).foldl htStep s0 = s at *
        have h6r := h6 r (List.mem_of_getElem? hr)
        have hsl : s.length ≤ 7 := by have := sym_len hnd2; rwa [List.length_map] at this
        refine ho_when (b := okH s r.2) (ett (et_B (ed_allLc r.2 (es false) (fun p => (getA s p).isSome) (ei_tup (ed_var rfl)) (by omega) fun p hp => ⟨_, ts_name (by simp), ed_dinA (ed_var rfl) (ed_var rfl)⟩))) (fun e => ?_) fun e => ?_
        · refine hs_set (d := ei (1 + maxH s r.2)) (ev_imm ((ed_add ed_cint (ed_maxH (s := s) (ps := r.2) (ei_tup (ed_var rfl)) (by omega) fun p hp => ⟨_, ts_name (by simp), ?_⟩)).is ?_) rfl) ?_
          · obtain ⟨n, hn⟩ := okH_at e hp
            rw [hn]
            exact ed_dgetA (enc := ei) (ed_var rfl) (ed_var rfl) hn
          · congr 1
          · refine ho_dput (d := ei (min (1 + maxH s r.2) ((getA s r.1).getD (1 + maxH s r.2)))) rfl (ev_imm ((ed_min2 (j := (((getA s r.1).getD (1 + maxH s r.2) : Nat) : Int)) (ed_var rfl) ((ed_dget2 (ks := dctA false ei s) (ed_var rfl) (ed_var rfl) (ed_var rfl)).is ?_)).is ?_) rfl) (ed_var rfl) (by rw [len_A]; omega) ?_
            · rw [getK_A]
              cases getA s r.1 <;> rfl
            · congr 1
              split <;> omega
            · rw [putD_A]
              unfold htStep
              rw [if_pos e]
              exact nx_to
        · unfold htStep
          rw [if_neg (by rw [e]; decide)]
          exact nx_to
      · rw [List.take_length]
        exact nx_to
    · rw [List.take_length]
      exact ho_freeze 1 (own' := []) (by simp) (ho_ret (ev_all (ed_var rfl)) q)
end
/-! ### sorted pairs -/
abbrev encP (p : Nat × Nat) : D := .tup [ei p.1, ei p.2]
theorem imms_P : ∀ l : List (Nat × Nat), imms (l.map encP) = true
  | [] => rfl
  | s :: l => by rw [List.map_cons, imms, imms_P l]; rfl
def kM (M : Hp) : V → Int × Int
  | .ref t => match M t with
    | some (.tup [.int i, .int j]) => (i, j)
    | _ => (0, 0)
  | _ => (0, 0)
def castP (p : Nat × Nat) : Int × Int := (p.1, p.2)
theorem kM_of {M : Hp} : ∀ {ps : List (Nat × Nat)} {xs : List V}, Reps M xs (ps.map encP) → (∀ x ∈ xs, ∃ t, x = V.ref t ∧ M t = some (.tup [.int (kM M x).1, .int (kM M x).2])) ∧ xs.map (kM M) = ps.map castP
  | [], _, .nil => ⟨by simp, rfl⟩
  | p :: ps, _, .cons h r => by
    obtain ⟨h1, h2⟩ := kM_of r
    cases h with
    | @tup t vs _ ht rt =>
      cases rt with
      | cons r1 rt =>
        cases rt with
        | cons r2 rt =>
          cases rt
          cases r1
          cases r2
          have ek : kM M (.ref t) = castP p := by
            show (match M t with
              | some (.tup [.int i, .int j]) => (i, j)
              | _ => (0, 0)) = _
            rw [ht]
            rfl
          refine ⟨fun x hx => ?_, by rw [List.map_cons, List.map_cons, h2, ek]⟩
          rcases List.mem_cons.mp hx with e | e
          · rw [e, ek]
            exact ⟨t, rfl, ht⟩
          · exact h1 x e
theorem reps_kM {M : Hp} : ∀ {ps : List (Nat × Nat)} {xs : List V}, (∀ x ∈ xs, ∃ t, x = V.ref t ∧ M t = some (.tup [.int (kM M x).1, .int (kM M x).2])) → xs.map (kM M) = ps.map castP → Reps M xs (ps.map encP)
  | [], [], _, _ => .nil
  | [], _ :: _, _, h => by simp at h
  | _ :: _, [], _, h => by simp at h
  | p :: ps, x :: xs, h1, h2 => by
    simp only [List.map_cons, List.cons.injEq] at h2
    obtain ⟨t, e, ht⟩ := h1 x (by simp)
    rw [h2.1] at ht
    subst e
    exact .cons (.tup ht (.cons (.int _) (.one (.int _)))) (reps_kM (fun y hy => h1 y (by simp [hy])) h2.2)
theorem lePr_trans (x y z : Nat × Nat) (h1 : lePr x y = true) (h2 : lePr y z = true) : lePr x z = true := by
  unfold lePr at *
  simp only [Bool.or_eq_true, Bool.and_eq_true, decide_eq_true_eq] at *
  omega
theorem lePr_total (x y : Nat × Nat) : (lePr x y || lePr y x) = true := by
  unfold lePr
  simp only [Bool.or_eq_true, Bool.and_eq_true, decide_eq_true_eq]
  omega
theorem lex_le {x y : Nat × Nat} (h : lePr x y = true) : SrtO.lexB (castP y) (castP x) = false := by
  unfold lePr at h
  rw [SrtO.lexB_no]
  simp only [Bool.or_eq_true, Bool.and_eq_true, decide_eq_true_eq] at h
  simp only [castP]
  omega
theorem ef_sortP {Γ : Gm} {ta : TE} {K : PySem.W.Frag} {ps : List (Nat × Nat)} (ha : ED ta Γ (.lst (ps.map encP))) : EF (tCB (rSortedPO K) (tCons ta tNil)) Γ (.lst ((sortP ps).map encP)) := ef_cb (ea_cons ha ea_nil) fun M H xs Q e rx q => by
  cases rx with
  | cons r1 rn =>
    cases rn
    cases r1 with
    | lst h r =>
      obtain ⟨h1, h2⟩ := kM_of r
      refine ⟨_, _, kM M, rfl, sqL (e _ _ h), fun x hx => ?_, fun ys p hs hb hp => ?_⟩
      · obtain ⟨t, e1, e2⟩ := h1 x hx
        exact ⟨t, e1, e _ _ e2⟩
      · have hy : ∀ y ∈ ys, ∃ t, y = V.ref t ∧ M t = some (.tup [.int (kM M y).1, .int (kM M y).2]) := fun y hy => h1 y (hb.perm.mem_iff.mp hy)
        have hp2 : (ys.map (kM M)).Perm ((sortP ps).map castP) := by
          have a1 := hb.perm.map (kM M)
          rw [h2] at a1
          exact a1.trans ((List.mergeSort_perm ps lePr).map castP).symm
        have hq : ys.map (kM M) = (sortP ps).map castP := by
          refine List.Perm.eq_of_pairwise (le := fun x y => SrtO.lexB y x = false) (fun x y _ _ e1 e2 => ?_) ?_ ?_ hp2
          · rw [SrtO.lexB_no] at e1 e2
            have : x.1 = y.1 ∧ x.2 = y.2 := by omega
            exact Prod.ext this.1 this.2
          · exact List.pairwise_map.mpr hs
          · refine List.pairwise_map.mpr (List.Pairwise.imp (fun {x y} h => lex_le h) (List.pairwise_mergeSort (le := lePr) lePr_trans lePr_total ps))
        exact q p _ M _ (.hid e hp _) hp (e.free hp) upd_same (.lst (reps_kM hy hq))
theorem ed_chr {Γ : Gm} {te : TE} {x : Sym} (h : ED te Γ (es false x)) : ED te Γ (.str ⟨#[cd false x]⟩) := by
  rw [es, em_f] at h
  exact h
theorem in_abc (x : Sym) : decide (cd false x ∈ ("abc" : Str).cps.toList) = isL x := by cases x <;> decide +kernel
section
variable {P : Program} {w : World} {K : PySem.W.Frag} {mg : Str → Option Value} {base : Heap}
inductive Q__law_grown (K : PySem.W.Frag) (n : Nat) : Hp → List D → D → (Hp → Prop) → Prop
  | mk (ns : List Int) (g : SG) (s : List (Sym × Nat)) (X : Hp) (p : Addr) (fuel : Int) (x : Sym) (sp sp' : Nat) (t : Tr) (h6 : ∀ r ∈ g, r.2.length ≤ 6) (hl : g.length ≤ 1000) (xs : XS X p sp) (hw : Grw ns g s fuel x sp t sp') (h : depT t < n) :
    Q__law_grown K n X [scr K ns, .opq (.ref p), encSG false g, .dct (dctA false ei s), es false x, .int fuel] (encT false t) fun X' => XS X' p sp'
theorem calr__law_grown (T : Txt K mg) : ∀ n : Nat, Cal P w K mg base (3 + n) "_law_grown" ["script", "spot", "grammar", "heights", "name", "fuel"] (spX (Q__law_grown K n))
  | 0 => T.d__law_grown.noneX fun X ds d S h => by cases h <;> omega
  | n + 1 => by
    have C__law_next := cal__law_next (P := P) (w := w) (base := base) T
    have C__law_grown := calr__law_grown T n
    refine T.d__law_grown.calX (k := 3 + n) sc__law_grown [6, 11] (by simp) (fun X ds d S h => by cases h <;> rfl) fun f cdv A outer s H E hr => ?_
    have hu := hu_of hr
    refine ⟨_, (pss_cons (ps_if (pt_cmpR op_in_sign (pv 4) pe_str rfl) (pss_one (ps_ret (pv 4))) pss_nil)
      (pss_cons (ps_set (i := 6) sc__law_grown.nd rfl (.inl rfl) (pe_lst pa_nil))
      (pss_cons (ps_for PassesOwn.never rfl (pi_enum (by rfl) T.b_enumerate (pa_cons (pv 2) pa_nil)) (pg_tup rfl (pgs_cons (pg_name (i := 7) sc__law_grown.nd rfl (.inl rfl)) (pgs_cons (pg_name (i := 8) sc__law_grown.nd rfl (.inl rfl)) pgs_nil)))
      (pss_one (ps_if (PW.pt (pw_and (pt_cmpR op_eq (pe_ix ix_tup (pv 8) pe_int (fun _ _ => rfl)) (pv 4) (nomark _)) (pw_and1 (pt_val (pe_callB (cr_all rfl) (by rfl) T.b_all (by decide +kernel) (pa_cons (pe_lc (own := [("part", 9)]) (g := (gName 9)) (tt := tYes) (te := (tDIn (tVar 9) (tVar 3))) rfl sc__law_grown.nd (pi_tup (pe_ix ix_tup (pv 8) pe_int (fun _ _ => rfl))) (blkOk_by (N := ["script", "spot", "grammar", "heights", "name", "fuel", "some", "number", "rule", "part", "cell", "below"]) (sc := defScope s__law_grown) (by decide +kernel)) (fun _ _ _ _ _ => (pg_name (i := 9) sc__law_grown.nd rfl (.inl rfl))) (fun _ _ _ _ _ => pts_nil) (fun _ _ _ _ _ => (pe_cmp (pc_din hu (pv 9) (pv 3))))) pa_nil)))))) (pss_one (ps_expr (pe_bm PySem.F.plainAttrs_list PySem.F.slot_list_append PySem.F.type_list_append mt_append (pv 6) (pa_cons (pe_tup (pa_cons (pe_callB (cr_max rfl) (by rfl) T.b_max (by decide +kernel) (pa_cons (pe_op op_cat (pe_lc (own := [("part", 9)]) (g := (gName 9)) (tt := tYes) (te := (tDGet (tVar 3) (tVar 9))) rfl sc__law_grown.nd (pi_tup (pe_ix ix_tup (pv 8) pe_int (fun _ _ => rfl))) (blkOk_by (N := ["script", "spot", "grammar", "heights", "name", "fuel", "some", "number", "rule", "part", "cell", "below"]) (sc := defScope s__law_grown) (by decide +kernel)) (fun _ _ _ _ _ => (pg_name (i := 9) sc__law_grown.nd rfl (.inl rfl))) (fun _ _ _ _ _ => pts_nil) (fun _ _ _ _ _ => (pe_dget hu (pv 3) (pv 9) (fun _ _ => rfl)))) (pe_lst (pa_cons pe_int pa_nil))) pa_nil)) (pa_cons (pv 7) pa_nil))) pa_nil)))) pss_nil)))
      (pss_cons (ps_set (i := 6) sc__law_grown.nd rfl (.inl rfl) (pe_callB cr_sortedPO (by rfl) T.b_sorted (by decide +kernel) (pa_cons (pv 6) pa_nil)))
      (pss_cons (ps_set (i := 10) sc__law_grown.nd rfl (.inl rfl) (peC C__law_next (hr.mono (by first | decide | omega)) (by rfl) (pa_cons (pv 0) (pa_cons (pv 1) pa_nil))))
      (pss_cons (ps_if (pt_cmpR op_lt (pv 5) pe_int (nomark _)) (pss_one (ps_set (i := 10) sc__law_grown.nd rfl (.inl rfl) pe_int)) pss_nil)
      (pss_cons (ps_set (i := 7) sc__law_grown.nd rfl (.inl rfl) (pe_ix ix_tup (pe_ix ix_list (pv 6) (pe_op op_mod (pv 10) (pe_callB call_len_seq (by rfl) T.b_len (by decide +kernel) (pa_cons (pv 6) pa_nil))) (fun _ _ => rfl)) pe_int (fun _ _ => rfl)))
      (pss_cons (ps_set (i := 11) sc__law_grown.nd rfl (.inl rfl) (pe_lst pa_nil))
      (pss_cons (ps_for PassesOwn.never rfl (pi_tup (pe_ix ix_tup (pe_ix ix_list (pv 2) (pv 7) (fun _ _ => rfl)) pe_int (fun _ _ => rfl))) (pg_name (i := 9) sc__law_grown.nd rfl (.inl rfl))
      (pss_one (ps_expr (pe_bm PySem.F.plainAttrs_list PySem.F.slot_list_append PySem.F.type_list_append mt_append (pv 11) (pa_cons (peC C__law_grown (hr.mono (by first | decide | omega)) (by rfl) (pa_cons (pv 0) (pa_cons (pv 1) (pa_cons (pv 2) (pa_cons (pv 3) (pa_cons (pv 9) (pa_cons (pe_op op_sub (pe_op op_sub (pv 5) pe_int) (pe_callB call_len_seq (by rfl) T.b_len (by decide +kernel) (pa_cons (pv 11) pa_nil))) pa_nil))))))) pa_nil)))))
      (pss_one (ps_ret (pe_tup (pa_cons (pv 7) (pa_cons (pe_callTy call_tuple_of (by rfl) T.b_tuple (by decide +kernel) (pa_cons (pv 11) pa_nil)) pa_nil)))))))))))))), fun X ds d Z h M0 H0 Q q => ?_⟩
    cases h
    case mk ns g s p fuel x sp sp' t h6 hl hw h xs =>
    cases hw with
    | leaf hL =>
      refine hs_yes (ett (et_test ((ed_inSign (ch := cd false x) (ed_chr (ed_var rfl)) ed_cstr).is (by rw [in_abc, hL])))) (ho_retX (S := (· = X)) (EV.x (ev_imm (ed_var rfl) rfl)) fun v X' M' H' hS g hx rv => q v X' M' H' (by rw [hS]; exact xs) g hx ?_)
      rw [encT_leaf]
      exact rv
    | @node _ _ _ _ hh k r l hN hpk hk hgs =>
      have hL : isL x = false := by cases x <;> first | rfl | cases hN
      refine hs_no (ett (et_test ((ed_inSign (ch := cd false x) (ed_chr (ed_var rfl)) ed_cstr).is (by rw [in_abc, hL])))) ?_
      refine hs_own (en_flat (ef_lst ea_nil (le_b rfl)) rfl) ?_
      refine hs_for g.zipIdx (fun e : (Sym × List Sym) × Nat => .tup [.int (e.2 : Int), encSR false e.1]) (fun i => [some (scr K ns), some (.opq (.ref p)), some (encSG false g), some (.dct (dctA false ei s)), some (es false x), some (.int fuel), some (.lst ((candOf s x (g.zipIdx.take i)).map encP)), none, none, none, none, none]) ?_ (fun M1 H1 bl i e he => ⟨_, tg_tup2 (by simp) (by simp) (lt_b rfl) (lt_b rfl), ?_⟩) ?_
      · rw [← enumD_zip]
        exact ei_enumL (ds := g.map (encSR false)) (ed_var rfl)
      · have her : e.1.2.length ≤ 6 := h6 e.1 (by
          have := List.mem_of_getElem? he
          exact List.fst_mem_of_mem_zipIdx this)
        have hle := lt_of_at he
        rw [List.length_zipIdx] at hle
        refine ho_when (b := candOk s x e) (ett (et_and (et_test (ed_eqs (ed_ixT (j := 0) (ds := [es false e.1.1, .tup (e.1.2.map (es false))]) (ed_var rfl) ed_cint rfl rfl) (ed_var rfl))) fun _ => et_B (ed_allLc e.1.2 (es false) (fun q => (getA s q).isSome) (ei_tup (ed_ixT (j := 1) (ds := [es false e.1.1, .tup (e.1.2.map (es false))]) (ed_var rfl) ed_cint rfl rfl)) (by omega) fun q hq => ⟨_, ts_name (by simp), ed_dinA (ed_var rfl) (ed_var rfl)⟩))) (fun ec => ?_) fun ec => ?_
        · have eo : okH s e.1.2 = true := by
            unfold candOk at ec
            simp only [Bool.and_eq_true] at ec
            exact ec.2
          refine ho_app (d := encP (maxH s e.1.2, e.2)) (in_b rfl) rfl (ev_imm (ed_tup (ea_cons (ed_maxH (s := s) (ps := e.1.2) (ei_tup (ed_ixT (j := 1) (ds := [es false e.1.1, .tup (e.1.2.map (es false))]) (ed_var rfl) ed_cint rfl rfl)) (by omega) fun q hq => ⟨_, ts_name (by simp), ?_⟩) (ea_cons (ed_var rfl) ea_nil)) (le_b rfl)) rfl) ?_ ?_
          · obtain ⟨n, hn⟩ := okH_at eo hq
            rw [hn]
            exact ed_dgetA (enc := ei) (ed_var rfl) (ed_var rfl) hn
          · rw [List.length_map]
            unfold candOf
            rw [List.length_map]
            have := List.length_filter_le (candOk s x) (g.zipIdx.take i)
            rw [List.length_take, List.length_zipIdx] at this
            omega
          · have e2 : (candOf s x (g.zipIdx.take (i + 1))).map encP = (candOf s x (g.zipIdx.take i)).map encP ++ [encP (maxH s e.1.2, e.2)] := by
              unfold candOf
              rw [take_succ he, List.filter_append, List.map_append, List.map_append]
              simp [ec]
            rw [e2]
            exact nx_to
        · have e2 : candOf s x (g.zipIdx.take (i + 1)) = candOf s x (g.zipIdx.take i) := by
            unfold candOf
            rw [take_succ he, List.filter_append]
            simp [ec]
          rw [e2]
          exact nx_to
      rw [List.take_length]
      refine hs_own (en_flat (ef_sortP (ps := candOf s x g.zipIdx) (ed_var rfl)) (imms_P _)) ?_
      have ecl : sortP (candOf s x g.zipIdx) = cells g s x := rfl
      rw [ecl]
      refine hs_setX (ex_callX (eav_cons (ev_mask (ed_var rfl)) (eav_cons (ev_mask (ed_var rfl)) eav_nil)) (R__law_next.mk ns X p sp xs)) fun X1 xs1 => ?_
      refine hs_ifTo [some (scr K ns), some (.opq (.ref p)), some (encSG false g), some (.dct (dctA false ei s)), some (es false x), some (.int fuel), some (.lst ((cells g s x).map encP)), none, none, none, some (.int (cellFor ns fuel sp)), none] (b := decide (fuel < 1)) (ett (et_test (ed_lt (ed_var rfl) ed_cint))) (fun hb E kk => ?_) (fun hb => ?_) ?_
      · simp only [decide_eq_true_eq] at hb
        have ec : cellFor ns fuel sp = 0 := by unfold cellFor; rw [if_pos hb]
        rw [ec] at kk
        refine ho_asg (ev_imm ed_cint rfl) (tg_name (by simp) (lt_b rfl)) (nx_le (by repeat (first | exact trivial | refine ⟨rfl, ?_⟩)) kk)
      · simp only [decide_eq_false_iff_not] at hb
        have ec : cellFor ns fuel sp = cellAt ns sp := by unfold cellFor; rw [if_neg hb]
        rw [ec]
        repeat (first | exact trivial | refine ⟨rfl, ?_⟩)
      unfold pickOf at hpk
      have hpos : 0 < (cells g s x).length := by have := lt_of_at hpk; omega
      refine hs_set (d := ei k) (ev_imm (ed_ixT (j := 1) (ds := [ei hh, ei k]) (ed_ixL (j := (cellFor ns fuel sp % ((cells g s x).length : Int)).toNat) (ds := (cells g s x).map encP) (ed_var rfl) ((ed_mod (ed_var rfl) (ed_lenL (ds := (cells g s x).map encP) (ed_var rfl)) (by rw [List.length_map]; omega)).is (by rw [List.length_map])) (modN (by omega)) (map_at hpk)) ed_cint rfl rfl) rfl) ?_
      refine hs_own (en_flat (ef_lst ea_nil (le_b rfl)) rfl) ?_
      have hlen := hgs.len
      have hr6 := h6 r (List.mem_of_getElem? hk)
      rw [depT] at h
      refine hs_forX r.2 (es false) (fun i (st : Nat × Nat) X2 => st.1 = i ∧ XS X2 p st.2 ∧ Grws ns g s (fuel - 1 - i) (r.2.drop i) st.2 (l.drop i) sp') (fun st : Nat × Nat => [some (scr K ns), some (.opq (.ref p)), some (encSG false g), some (.dct (dctA false ei s)), some (es false x), some (.int fuel), some (.lst ((cells g s x).map encP)), some (ei k), none, none, some (.int (cellFor ns fuel sp)), some (.lst ((l.take st.1).map (encT false)))]) (0, sp + 1)
        (eix_mask (ei_tup (ed_partsAt (ed_var rfl) (ed_var rfl) hk))) ⟨rfl, xs1, by simpa using hgs⟩ (fun M1 H1 bl i y st X2 hy ⟨e1, xs2, hg2⟩ => ⟨_, tg_name (by simp) (lt_b rfl), fun JJ hJ => ?_⟩) fun st X2 ⟨e1, xs2, hg2⟩ => ?_
      · obtain ⟨i', sp1⟩ := st
        have e1' : i' = i := e1
        subst e1'
        have hil := lt_of_at hy
        have hd : r.2.drop i' = y :: r.2.drop (i' + 1) := by
          rw [List.drop_eq_getElem_cons hil]
          rw [List.getElem?_eq_getElem hil] at hy
          cases hy
          rfl
        rw [hd] at hg2
        generalize hld : l.drop i' = ld at hg2
        cases hg2 with
        | @cons _ _ _ _ sp2 _ t1 l1 h1 h2 =>
          obtain ⟨hl1, hl2⟩ := drop_at hld
          have hm := List.mem_of_getElem? hl1
          have hdl := depL_mem hm
          refine ho_appX (in_b rfl) rfl (ex_callX (eav_cons (ev_mask (ed_var rfl)) (eav_cons (ev_mask (ed_var rfl)) (eav_cons (ev_mask (ed_var rfl)) (eav_cons (ev_mask (ed_var rfl)) (eav_cons (ev_mask (ed_var rfl)) (eav_cons (ev_imm ((ed_sub (ed_sub (ed_var rfl) ed_cint) (ed_lenL (ds := (l.take i').map (encT false)) (ed_var rfl))).is ?_) rfl) eav_nil)))))) (Q__law_grown.mk ns g s X2 p (fuel - 1 - i') y sp1 sp2 t1 h6 hl xs2 h1 (by omega))) ?_ fun X3 xs3 => ?_
          · rw [List.length_map, List.length_take, Nat.min_eq_left (by omega)]
          · rw [List.length_map, List.length_take]
            omega
          · have e2 : (l.take (i' + 1)).map (encT false) = (l.take i').map (encT false) ++ [encT false t1] := by rw [take_succ hl1, List.map_append]; rfl
            have j := hJ (i' + 1, sp2) X3 ⟨rfl, xs3, by
              rw [hl2]
              have e3 : fuel - 1 - ((i' + 1 : Nat) : Int) = fuel - 1 - (i' : Int) - 1 := by omega
              rw [e3]
              exact h2⟩
            rw [e2] at j
            exact nx_sjx j
      · rw [e1, hlen, List.take_length]
        rw [List.drop_length, hlen, List.drop_length] at hg2
        have esp : st.2 = sp' := by
          generalize st.2 = z at hg2
          cases hg2
          rfl
        rw [esp] at xs2
        refine ho_retX (S := (· = X2)) (EV.x (ev_imm (ed_tup (ea_cons (ed_var rfl) (ea_cons (ed_tupL (ed_var rfl)) ea_nil)) (le_b rfl)) (by simp [imm, imms, imms_T]))) fun v X' M' H' hS g hx rv => q v X' M' H' (by rw [hS]; exact xs2) g hx ?_
        rw [encT_node]
        exact rv
def R__law_grown (K : PySem.W.Frag) := Q__law_grown K 12
theorem cal__law_grown (T : Txt K mg) : Cal P w K mg base 15 "_law_grown" ["script", "spot", "grammar", "heights", "name", "fuel"] (spX (R__law_grown K)) := calr__law_grown T 12
inductive R__law_some_tree (K : PySem.W.Frag) : Hp → List D → D → (Hp → Prop) → Prop
  | none (ns : List Int) (g : SG) (X : Hp) (p : Addr) (fuel : Int) (sp : Nat) (h6 : ∀ r ∈ g, r.2.length ≤ 6) (hl : g.length ≤ 1000) (hg : g ≠ []) (xs : XS X p sp) (hn : getA (heights g) (first g) = .none) : R__law_some_tree K X [scr K ns, .opq (.ref p), encSG false g, .int fuel] (.str "") fun X' => XS X' p sp
  | some (ns : List Int) (g : SG) (X : Hp) (p : Addr) (fuel : Int) (sp sp' : Nat) (t : Tr) (h6 : ∀ r ∈ g, r.2.length ≤ 6) (hl : g.length ≤ 1000) (hg : g ≠ []) (xs : XS X p sp) (hn : (getA (heights g) (first g)).isSome = true) (hw : Grw ns g (heights g) fuel (first g) sp t sp') (h : depT t < 12) :
    R__law_some_tree K X [scr K ns, .opq (.ref p), encSG false g, .int fuel] (encT false t) fun X' => XS X' p sp'
theorem cal__law_some_tree (T : Txt K mg) : Cal P w K mg base 16 "_law_some_tree" ["script", "spot", "grammar", "fuel"] (spX (R__law_some_tree K)) := by
  have C__law_heights := cal__law_heights (P := P) (w := w) (base := base) T
  have C__law_grown := cal__law_grown (P := P) (w := w) (base := base) T
  refine T.d__law_some_tree.calX sc__law_some_tree [] (by simp) (fun X ds d S h => by cases h <;> rfl) fun f cdv A outer s H E hr => ?_
  have hu := hu_of hr
  refine ⟨_, (pss_cons (ps_set (i := 4) sc__law_some_tree.nd rfl (.inl rfl) (peC C__law_heights (hr.mono (by first | decide | omega)) (by rfl) (pa_cons (pv 2) pa_nil)))
      (pss_cons (ps_if (pt_cmp (pc_dnotin hu (pe_ix ix_tup (pe_ix ix_list (pv 2) pe_int (fun _ _ => rfl)) pe_int (fun _ _ => rfl)) (pv 4))) (pss_one (ps_ret pe_str)) pss_nil)
      (pss_one (ps_ret (peC C__law_grown (hr.mono (by first | decide | omega)) (by rfl) (pa_cons (pv 0) (pa_cons (pv 1) (pa_cons (pv 2) (pa_cons (pv 4) (pa_cons (pe_ix ix_tup (pe_ix ix_list (pv 2) pe_int (fun _ _ => rfl)) pe_int (fun _ _ => rfl)) (pa_cons (pv 3) pa_nil))))))))))), fun X ds d Z h M0 H0 Q q => ?_⟩
  cases h
  case none ns g p fuel sp h6 hl hg hn xs =>
    refine hs_set (ev_all (ed_call (ea_cons (ed_var rfl) ea_nil) (R__law_heights.mk g h6 hl))) (hs_yes (ett (et_B ((ed_dnotinA (ed_grammar0 (ed_var rfl) hg) (ed_var rfl)).is (by rw [hn]; rfl)))) (ho_retX (S := (· = X)) (EV.x (ev_all ed_cstr)) fun v X' M' H' hS g hx rv => q v X' M' H' (by rw [hS]; exact xs) g hx rv))
  case some ns g p fuel sp sp' t h6 hl hg hn hw h xs =>
    refine hs_set (ev_all (ed_call (ea_cons (ed_var rfl) ea_nil) (R__law_heights.mk g h6 hl))) (hs_no (ett (et_B ((ed_dnotinA (ed_grammar0 (ed_var rfl) hg) (ed_var rfl)).is (by rw [hn]; rfl)))) (ho_retX (S := fun X' => XS X' p sp') (ex_callX (eav_cons (ev_all (ed_var rfl)) (eav_cons (ev_all (ed_var rfl)) (eav_cons (ev_all (ed_var rfl)) (eav_cons (ev_all (ed_var rfl)) (eav_cons (ev_all (ed_grammar0 (ed_var rfl) hg)) (eav_cons (ev_all (ed_var rfl)) eav_nil)))))) (Q__law_grown.mk ns g (heights g) X p fuel (first g) sp sp' t h6 hl xs hw h)) q))
end
end RN

end
section
set_option maxRecDepth 100000
set_option maxHeartbeats 4000000
namespace RN
open PySem L2 Sym
/-! ### the other names -/
theorem index_part (x : Sym) (h : x ≠ .dot) : ∃ i rest, Builtin.Str.occurrences ("abcABS" : Str) (em false x) 0 ("abcABS" : Str).length 1 = i :: rest ∧ [es true .a, es true .b, es true .c, es true .A, es true .B, es true .S][i]? = some (es true x) := by
  cases x with
  | a => exact ⟨0, [], by decide +kernel, rfl⟩
  | b => exact ⟨1, [], by decide +kernel, rfl⟩
  | c => exact ⟨2, [], by decide +kernel, rfl⟩
  | A => exact ⟨3, [], by decide +kernel, rfl⟩
  | B => exact ⟨4, [], by decide +kernel, rfl⟩
  | S => exact ⟨5, [], by decide +kernel, rfl⟩
  | dot => exact absurd rfl h
theorem in_part (x : Sym) : decide (cd false x ∈ ("abcABS" : Str).cps.toList) = decide (x ≠ .dot) := by cases x <;> decide +kernel
theorem ones_flat (l : List Sym) : (l.map fun x => [x]).flatten = l := by
  induction l with
  | nil => rfl
  | cons x l ih => rw [List.map_cons, List.flatten_cons, ih]; rfl
theorem plain_row (o : Bool) (r : Sym × List Sym) : plain 5 (encRow o r) = true := by
  simp only [encRow, plain, plains, em_strOk, plains_ess, Bool.and_true]
theorem plain_Sp (o : Bool) (x : Sym × Nat × Nat) : plain 5 (encSp o x) = true := by
  simp only [encSp, plain, plains, em_strOk, Bool.and_true]
theorem plain_F (o : Bool) (f : List Sym) : plain 5 (encF o f) = true := by
  simp only [encF, plain, plains_ess]
theorem plain_l {α : Type} (f : α → D) (l : List α) (h : ∀ x, plain 5 (f x) = true) : plain 6 (.lst (l.map f)) = true := plains_mem (n := 5) f l fun x _ => h x
theorem plain_es5 (o : Bool) (x : Sym) : plain 5 (es o x) = true := plain_es o x 5
section
variable {P : Program} {w : World} {K : PySem.W.Frag} {mg : Str → Option Value} {base : Heap}
inductive R__law_part : List D → D → Prop | mk (x : Sym) : R__law_part [es false x] (es true x)
theorem cal__law_part (T : Txt K mg) : Cal P w K mg base 1 "_law_part" ["part"] (spF R__law_part) := by
  refine T.d__law_part.cal sc__law_part [] (by simp) (fun ds d h => by cases h; rfl) fun f cdv A outer s H E hr => ?_
  refine ⟨_, (pss_cons (ps_if (pt_cmpR op_in_sign (pv 0) pe_str rfl) (pss_one (ps_ret (pe_ix ix_list (pe_lst (pa_cons pe_str (pa_cons pe_str (pa_cons pe_str (pa_cons pe_str (pa_cons pe_str (pa_cons pe_str pa_nil))))))) (pe_m1 PySem.F.slot_str_index PySem.F.type_str_index mt_sindex pe_str (pv 0)) (fun _ _ => rfl)))) pss_nil)
      (pss_one (ps_ret (pv 0)))), fun ds d h M0 H0 Q q => ?_⟩
  cases h
  case mk x =>
  refine hs_if (b := decide (x ≠ .dot)) (ett (et_test ((ed_inSign (ed_chr (ed_var rfl)) ed_cstr).is (by rw [in_part])))) (fun e => ?_) fun e => ?_
  · simp only [decide_eq_true_eq] at e
    obtain ⟨i, rest, h1, h2⟩ := index_part x e
    exact ho_ret (ev_all (ed_ixL (j := i) (ds := [es true .a, es true .b, es true .c, es true .A, es true .B, es true .S]) (ef_lst (ea_cons ed_cstr (ea_cons ed_cstr (ea_cons ed_cstr (ea_cons ed_cstr (ea_cons ed_cstr (ea_cons ed_cstr ea_nil)))))) (le_b rfl)).ed (ed_sindex (z := "abcABS") (y := em false x) ed_cstr (ed_var rfl) h1) rfl h2)) q
  · have e2 : x = .dot := by
      cases x <;> first | rfl | (exfalso; revert e; decide)
    subst e2
    exact ho_ret (ev_all (ed_var rfl)) q
inductive R__law_text : List D → D → Prop | mk (l : List Sym) (hl : l.length ≤ 5000) (hL : ∀ x ∈ l, isL x = true) : R__law_text [.str (txt false l)] (.str (txt true l))
theorem cal__law_text (T : Txt K mg) : Cal P w K mg base 2 "_law_text" ["text"] (spF R__law_text) := by
  have C__law_part := cal__law_part (P := P) (w := w) (base := base) T
  refine T.d__law_text.cal sc__law_text [] (by simp) (fun ds d h => by cases h; rfl) fun f cdv A outer s H E hr => ?_
  refine ⟨_, (pss_one (ps_ret (pe_join pe_str (pe_lc (own := [("sign", 1)]) (g := (gName 1)) (tt := tYes) (te := (tCall (spF R__law_part) [] E0 (tCons (tVar 1) tNil))) rfl sc__law_text.nd (pi_str (pv 0)) (blkOk_by (N := ["text", "sign"]) (sc := defScope s__law_text) (by decide +kernel)) (fun _ _ _ _ _ => (pg_name (i := 1) sc__law_text.nd rfl (.inl rfl))) (fun _ _ _ _ _ => pts_nil) (fun _ _ _ _ _ => (peC C__law_part (hr.mono (by first | decide | omega)) (by rfl) (pa_cons (pv 1) pa_nil))))))), fun ds d h M0 H0 Q q => ?_⟩
  cases h
  case mk l hl hL =>
  have e : (l.map (em true)) = (l.map fun x => [x]).map (txt true) := by
    rw [List.map_map]
    apply List.map_congr_left
    intro x hx
    exact (txt_one (isN_of_isL (hL x hx))).symm
  refine ho_ret (ev_all ((ed_join (ss := l.map (em true)) ed_cstr ((ef_lcM l (es false) (es true) (by rw [← txt_chars]; exact ei_str (ed_var rfl)) (by omega) fun x hx => ⟨_, ts_name (by simp), ed_call (ea_cons (ed_var rfl) ea_nil) (R__law_part.mk x)⟩).ed.is (by rw [List.map_map]; rfl)) ?_).is ?_)) q
  · have h1 := sum_le_of (fun w : Str => w.length) 3 (l.map (em true)) fun w hw => by
      obtain ⟨x, _, rfl⟩ := List.mem_map.mp hw
      exact (em_len true x).2
    have e2 : (("" : Str).length) = 0 := rfl
    rw [List.length_map] at h1
    rw [e2, List.length_map]
    omega
  · rw [e, join_txt]
    rw [ones_flat]
inductive R__law_other : List D → D → Prop | mk (g : SG) (h6 : ∀ r ∈ g, r.2.length ≤ 6) (hl : g.length ≤ 1000) : R__law_other [encSG false g] (encSG true g)
theorem cal__law_other (T : Txt K mg) : Cal P w K mg base 2 "_law_other" ["grammar"] (spF R__law_other) := by
  have C__law_part := cal__law_part (P := P) (w := w) (base := base) T
  refine T.d__law_other.cal sc__law_other [] (by simp) (fun ds d h => by cases h; rfl) fun f cdv A outer s H E hr => ?_
  refine ⟨_, (pss_one (ps_ret (pe_lc (own := [("name", 1), ("parts", 2)]) (g := (gTup K 2 (gCons (gName 1) (gCons (gName 2) gNil)))) (tt := tYes) (te := (tTup (tCons (tCall (spF R__law_part) [] E0 (tCons (tVar 1) tNil)) (tCons (tCB (rTupOf K) (tCons (tLc (iTup K (tVar 2)) (gName 3) tYes (tCall (spF R__law_part) [] E0 (tCons (tVar 3) tNil)) [3]) tNil)) tNil)))) rfl sc__law_other.nd (pi_list (pv 0)) (blkOk_by (N := ["grammar", "name", "parts", "part"]) (sc := defScope s__law_other) (by decide +kernel)) (fun _ _ _ _ _ => (pg_tup rfl (pgs_cons (pg_name (i := 1) sc__law_other.nd rfl (.inl rfl)) (pgs_cons (pg_name (i := 2) sc__law_other.nd rfl (.inl rfl)) pgs_nil)))) (fun _ _ _ _ _ => pts_nil) (fun _ _ _ _ _ => (pe_tup (pa_cons (peC C__law_part (hr.mono (by first | decide | omega)) (by rfl) (pa_cons (pv 1) pa_nil)) (pa_cons (pe_callTy call_tuple_of (by rfl) T.b_tuple (by decide +kernel) (pa_cons (pe_lc (own := [("part", 3)]) (g := (gName 3)) (tt := tYes) (te := (tCall (spF R__law_part) [] E0 (tCons (tVar 3) tNil))) rfl sc__law_other.nd (pi_tup (pv 2)) (blkOk_by (N := ["grammar", "name", "parts", "part"]) (sc := relS (({ kind := .function, names := [(".0", .local), ("name", .local), ("parts", .local), ("_law_part", .globalImplicit), ("tuple", .globalImplicit)], isGenerator := false, isCoroutine := false, more := [] } : Scope)) (defScope s__law_other)) (by decide +kernel)) (fun _ _ _ _ _ => (pg_name (i := 3) sc__law_other.nd rfl (.inl rfl))) (fun _ _ _ _ _ => pts_nil) (fun _ _ _ _ _ => (peC C__law_part (hr.mono (by first | decide | omega)) (by rfl) (pa_cons (pv 3) pa_nil)))) pa_nil)) pa_nil))))))), fun ds d h M0 H0 Q q => ?_⟩
  cases h
  case mk g h6 hl =>
  exact ho_ret (ev_all (ef_lcM g (encSR false) (encSR true) (ei_list (ds := g.map (encSR false)) (ed_var rfl)) (by omega) fun r hr => ⟨_, ts_tup2 (by simp) (by simp), ed_tup (ea_cons (ed_call (ea_cons (ed_var rfl) ea_nil) (R__law_part.mk r.1)) (ea_cons (ed_tupL (ef_lcM r.2 (es false) (es true) (ei_tup (ed_var rfl)) (by have := h6 r hr; omega) fun x hx => ⟨_, ts_name (by simp), ed_call (ea_cons (ed_var rfl) ea_nil) (R__law_part.mk x)⟩).ed) ea_nil)) (le_b rfl)⟩).ed) q
inductive Q__law_tree (n : Nat) : List D → D → Prop | mk (g : SG) (p : Sym) (t : Tr) (ok : TG g p t) (h : depT t < n) : Q__law_tree n [encT false t] (encT true t)
theorem calr__law_tree (T : Txt K mg) : ∀ n : Nat, Cal P w K mg base (2 + n) "_law_tree" ["tree"] (spF (Q__law_tree n))
  | 0 => T.d__law_tree.none fun ds d h => by cases h; omega
  | n + 1 => by
    have C__law_part := cal__law_part (P := P) (w := w) (base := base) T
    have C__law_tree := calr__law_tree T n
    refine T.d__law_tree.cal (k := 2 + n) sc__law_tree [] (by simp) (fun ds d h => by cases h; rfl) fun f cdv A outer s H E hr => ?_
    refine ⟨_, (pss_cons (ps_if (pt_val (pe_callB call_isi (by rfl) T.b_isinstance (by decide +kernel) (pa_cons (pv 0) (pa_cons (pe_bltn (v := .ty "str") (u := .type "str") (by rfl) T.b_str (by decide +kernel) rfl) pa_nil)))) (pss_one (ps_ret (peC C__law_part (hr.mono (by first | decide | omega)) (by rfl) (pa_cons (pv 0) pa_nil)))) pss_nil)
      (pss_one (ps_ret (pe_tup (pa_cons (pe_ix ix_tup (pv 0) pe_int (fun _ _ => rfl)) (pa_cons (pe_callTy call_tuple_of (by rfl) T.b_tuple (by decide +kernel) (pa_cons (pe_lc (own := [("below", 1)]) (g := (gName 1)) (tt := tYes) (te := (tCall (spF (Q__law_tree n)) [] E0 (tCons (tVar 1) tNil))) rfl sc__law_tree.nd (pi_tup (pe_ix ix_tup (pv 0) pe_int (fun _ _ => rfl))) (blkOk_by (N := ["tree", "below"]) (sc := defScope s__law_tree) (by decide +kernel)) (fun _ _ _ _ _ => (pg_name (i := 1) sc__law_tree.nd rfl (.inl rfl))) (fun _ _ _ _ _ => pts_nil) (fun _ _ _ _ _ => (peC C__law_tree (hr.mono (by first | decide | omega)) (by rfl) (pa_cons (pv 1) pa_nil)))) pa_nil)) pa_nil)))))), fun ds d h M0 H0 Q q => ?_⟩
    cases h
    case mk g p t ok h =>
    cases t with
    | leaf x =>
      rw [encT_leaf]
      rw [encT_leaf] at q
      exact hs_yes (ett (et_B (ed_isStr (ed_var rfl)))) (ho_ret (ev_all (ed_call (ea_cons (ed_var rfl) ea_nil) (R__law_part.mk x))) q)
    | node k l =>
      rw [encT_node]
      rw [encT_node] at q
      rw [depT] at h
      obtain ⟨r, e, rfl, oks, hl, hk⟩ := ok.node
      refine hs_no (ett (et_B (ed_isTup (ed_var rfl)))) (ho_ret (ev_all (ed_tup (ea_cons (ed_ixT (j := 0) (ed_var rfl) ed_cint rfl rfl) (ea_cons (ed_tupL (ef_lcM l (encT false) (encT true) (ei_tup (ed_ixT (j := 1) (ed_var rfl) ed_cint rfl rfl)) (by omega) fun t ht => ⟨_, ts_name (by simp), ?_⟩).ed) ea_nil)) (le_b rfl))) q)
      obtain ⟨x, tg⟩ := hk t ht
      exact ed_call (ea_cons (ed_var rfl) ea_nil) (Q__law_tree.mk g x t tg (by have := depL_mem ht; omega))
abbrev R__law_tree := Q__law_tree 12
theorem cal__law_tree (T : Txt K mg) : Cal P w K mg base 14 "_law_tree" ["tree"] (spF R__law_tree) := calr__law_tree T 12
inductive R__law_parts : List D → D → Prop | mk (l : List Sym) (hl : l.length ≤ 5000) : R__law_parts [.lst (l.map (es false))] (.lst (l.map (es true)))
theorem cal__law_parts (T : Txt K mg) : Cal P w K mg base 2 "_law_parts" ["row"] (spF R__law_parts) := by
  have C__law_part := cal__law_part (P := P) (w := w) (base := base) T
  refine T.d__law_parts.cal sc__law_parts [] (by simp) (fun ds d h => by cases h; rfl) fun f cdv A outer s H E hr => ?_
  refine ⟨_, (pss_one (ps_ret (pe_lc (own := [("part", 1)]) (g := (gName 1)) (tt := tYes) (te := (tCall (spF R__law_part) [] E0 (tCons (tVar 1) tNil))) rfl sc__law_parts.nd (pi_list (pv 0)) (blkOk_by (N := ["row", "part"]) (sc := defScope s__law_parts) (by decide +kernel)) (fun _ _ _ _ _ => (pg_name (i := 1) sc__law_parts.nd rfl (.inl rfl))) (fun _ _ _ _ _ => pts_nil) (fun _ _ _ _ _ => (peC C__law_part (hr.mono (by first | decide | omega)) (by rfl) (pa_cons (pv 1) pa_nil)))))), fun ds d h M0 H0 Q q => ?_⟩
  cases h
  case mk l hl =>
  exact ho_ret (ev_all (ef_lcM l (es false) (es true) (ei_list (ed_var rfl)) (by omega) fun x hx => ⟨_, ts_name (by simp), ed_call (ea_cons (ed_var rfl) ea_nil) (R__law_part.mk x)⟩).ed) q
/-- _law_parts, asked of a tuple -/
inductive R__law_parts_t : List D → D → Prop | mk (l : List Sym) (hl : l.length ≤ 5000) : R__law_parts_t [.tup (l.map (es false))] (.lst (l.map (es true)))
theorem cal__law_parts_t (T : Txt K mg) : Cal P w K mg base 2 "_law_parts" ["row"] (spF R__law_parts_t) := by
  have C__law_part := cal__law_part (P := P) (w := w) (base := base) T
  refine T.d__law_parts.cal sc__law_parts [] (by simp) (fun ds d h => by cases h; rfl) fun f cdv A outer s H E hr => ?_
  refine ⟨_, (pss_one (ps_ret (pe_lc (own := [("part", 1)]) (g := (gName 1)) (tt := tYes) (te := (tCall (spF R__law_part) [] E0 (tCons (tVar 1) tNil))) rfl sc__law_parts.nd (pi_tup (pv 0)) (blkOk_by (N := ["row", "part"]) (sc := defScope s__law_parts) (by decide +kernel)) (fun _ _ _ _ _ => (pg_name (i := 1) sc__law_parts.nd rfl (.inl rfl))) (fun _ _ _ _ _ => pts_nil) (fun _ _ _ _ _ => (peC C__law_part (hr.mono (by first | decide | omega)) (by rfl) (pa_cons (pv 1) pa_nil)))))), fun ds d h M0 H0 Q q => ?_⟩
  cases h
  case mk l hl =>
  exact ho_ret (ev_all (ef_lcM l (es false) (es true) (ei_tup (ed_var rfl)) (by omega) fun x hx => ⟨_, ts_name (by simp), ed_call (ea_cons (ed_var rfl) ea_nil) (R__law_part.mk x)⟩).ed) q
inductive R__law_told : List D → D → Prop | mk (l : List (Sym × List Sym)) (hl : l.length ≤ 1000) (h : ∀ r ∈ l, r.2.length ≤ 1000) : R__law_told [.lst (l.map (encRow false))] (.lst (l.map (encRow true)))
theorem cal__law_told (T : Txt K mg) : Cal P w K mg base 3 "_law_told" ["pairs"] (spF R__law_told) := by
  have C__law_part := cal__law_part (P := P) (w := w) (base := base) T
  have C__law_parts := cal__law_parts (P := P) (w := w) (base := base) T
  refine T.d__law_told.cal sc__law_told [] (by simp) (fun ds d h => by cases h; rfl) fun f cdv A outer s H E hr => ?_
  refine ⟨_, (pss_one (ps_ret (pe_lc (own := [("name", 1), ("row", 2)]) (g := (gTup K 2 (gCons (gName 1) (gCons (gName 2) gNil)))) (tt := tYes) (te := (tTup (tCons (tCall (spF R__law_part) [] E0 (tCons (tVar 1) tNil)) (tCons (tCall (spF R__law_parts) [] E0 (tCons (tVar 2) tNil)) tNil)))) rfl sc__law_told.nd (pi_list (pv 0)) (blkOk_by (N := ["pairs", "name", "row"]) (sc := defScope s__law_told) (by decide +kernel)) (fun _ _ _ _ _ => (pg_tup rfl (pgs_cons (pg_name (i := 1) sc__law_told.nd rfl (.inl rfl)) (pgs_cons (pg_name (i := 2) sc__law_told.nd rfl (.inl rfl)) pgs_nil)))) (fun _ _ _ _ _ => pts_nil) (fun _ _ _ _ _ => (pe_tup (pa_cons (peC C__law_part (hr.mono (by first | decide | omega)) (by rfl) (pa_cons (pv 1) pa_nil)) (pa_cons (peC C__law_parts (hr.mono (by first | decide | omega)) (by rfl) (pa_cons (pv 2) pa_nil)) pa_nil))))))), fun ds d h M0 H0 Q q => ?_⟩
  cases h
  case mk l hl h =>
  exact ho_ret (ev_all (ef_lcM l (encRow false) (encRow true) (ei_list (ed_var rfl)) (by omega) fun r hr => ⟨_, ts_tup2 (by simp) (by simp), ed_tup (ea_cons (ed_call (ea_cons (ed_var rfl) ea_nil) (R__law_part.mk r.1)) (ea_cons (ed_call (ea_cons (ed_var rfl) ea_nil) (R__law_parts.mk r.2 (by have := h r hr; omega))) ea_nil)) (le_b rfl)⟩).ed) q
inductive R__law_forms : List D → D → Prop | mk (l : List (List Sym)) (hl : l.length ≤ 1000) (h : ∀ f ∈ l, f.length ≤ 5000) : R__law_forms [.lst (l.map (encF false))] (.lst (l.map (encF true)))
theorem cal__law_forms (T : Txt K mg) : Cal P w K mg base 3 "_law_forms" ["rows"] (spF R__law_forms) := by
  have C__law_parts_t := cal__law_parts_t (P := P) (w := w) (base := base) T
  refine T.d__law_forms.cal sc__law_forms [] (by simp) (fun ds d h => by cases h; rfl) fun f cdv A outer s H E hr => ?_
  refine ⟨_, (pss_one (ps_ret (pe_lc (own := [("form", 1)]) (g := (gName 1)) (tt := tYes) (te := (tCB (rTupOf K) (tCons (tCall (spF R__law_parts_t) [] E0 (tCons (tVar 1) tNil)) tNil))) rfl sc__law_forms.nd (pi_list (pv 0)) (blkOk_by (N := ["rows", "form"]) (sc := defScope s__law_forms) (by decide +kernel)) (fun _ _ _ _ _ => (pg_name (i := 1) sc__law_forms.nd rfl (.inl rfl))) (fun _ _ _ _ _ => pts_nil) (fun _ _ _ _ _ => (pe_callTy call_tuple_of (by rfl) T.b_tuple (by decide +kernel) (pa_cons (peC C__law_parts_t (hr.mono (by first | decide | omega)) (by rfl) (pa_cons (pv 1) pa_nil)) pa_nil)))))), fun ds d h M0 H0 Q q => ?_⟩
  cases h
  case mk l hl h =>
  exact ho_ret (ev_all (ef_lcM l (encF false) (encF true) (ei_list (ed_var rfl)) (by omega) fun f hf => ⟨_, ts_name (by simp), ed_tupL (ed_call (ea_cons (ed_var rfl) ea_nil) (R__law_parts_t.mk f (h f hf)))⟩).ed) q

/-! marks -/
theorem marked_len (g : SG) (k : List Sym) : (marked g k).length ≤ 7 := by
  have := List.length_filter_le (fun x => decide (x ∈ k)) (namesS g)
  have := namesS_len g
  unfold marked
  omega
theorem lettersS_len (g : SG) : (lettersS g).length ≤ 7 := by
  unfold lettersS sortI
  rw [List.length_mergeSort]
  exact sym_len (letters0_nd g)
theorem rows_ok (g : SG) {k : List (Sym × List Sym)} (h : KI (namesS g) k) : (rowsOf g k).length ≤ 7 ∧ ∀ r ∈ rowsOf g k, r.2.length ≤ 7 := by
  unfold rowsOf
  refine ⟨by rw [List.length_map]; exact namesS_len g, fun r hr => ?_⟩
  obtain ⟨x, hx, rfl⟩ := List.mem_map.mp hr
  obtain ⟨l, h1, h2, _⟩ := h.get hx
  unfold sortI
  rw [List.length_mergeSort, h1]
  exact h2
theorem ed_neL {Γ : Gm} {ta tb : TE} {K : PySem.W.Frag} {l : List D} (ha : ED ta Γ (.lst l)) (hb : ED tb Γ (.lst l)) (h : plain 6 (.lst l) = true) : ET (tTest (tOp (rNeD K) ta tb)) Γ false := et_test (ed_neD ha hb rfl h (by decide))
theorem optD_scal (o : Bool) (x : Option (List Sym)) : scalD (optD o x) = true := by cases x <;> rfl
theorem optN_plain (x : Option Nat) : plain 5 (optN x) = true := by cases x <;> rfl
theorem numbers_len (g : SG) (n : Sym) : (numbersS g n).length ≤ g.length := by
  unfold numbersS
  rw [List.length_map]
  have := List.length_filter_le (fun x : (Sym × List Sym) × Nat => decide (x.1.1 = n)) g.zipIdx
  rwa [List.length_zipIdx] at this
inductive R__law_marks_like : List D → D → Prop | mk (g : SG) (mk : Marks g) (sok : SOk g) : R__law_marks_like [encSG false g, encSG true g] (.bl true)
theorem cal__law_marks_like (T : Txt K mg) : Cal P w K mg base 7 "_law_marks_like" ["grammar", "other"] (spF R__law_marks_like) := by
  have C_names := cal_names (P := P) (w := w) (base := base) T
  have C_followers := cal_followers (P := P) (w := w) (base := base) T
  have C__law_told := cal__law_told (P := P) (w := w) (base := base) T
  have C_least_lengths := cal_least_lengths (P := P) (w := w) (base := base) T
  have C_least_text := cal_least_text (P := P) (w := w) (base := base) T
  have C_read := cal_read (P := P) (w := w) (base := base) T
  have C__law_parts := cal__law_parts (P := P) (w := w) (base := base) T
  have C_letters := cal_letters (P := P) (w := w) (base := base) T
  have C_makes := cal_makes (P := P) (w := w) (base := base) T
  have C_reached := cal_reached (P := P) (w := w) (base := base) T
  have C_empties := cal_empties (P := P) (w := w) (base := base) T
  have C_firsts := cal_firsts (P := P) (w := w) (base := base) T
  have C_rules_of := cal_rules_of (P := P) (w := w) (base := base) T
  have C_shown := cal_shown (P := P) (w := w) (base := base) T
  have C__law_part := cal__law_part (P := P) (w := w) (base := base) T
  have C__law_text := cal__law_text (P := P) (w := w) (base := base) T
  refine T.d__law_marks_like.cal sc__law_marks_like [] (by simp) (fun ds d h => by cases h; rfl) fun f cdv A outer s H E hr => ?_
  refine ⟨_, (pss_cons (ps_if (PW.pt (pw_or (pt_cmpR (op_neD hr.units) (peC C_names (hr.mono (by first | decide | omega)) (by rfl) (pa_cons (pv 1) pa_nil)) (peC C__law_parts (hr.mono (by first | decide | omega)) (by rfl) (pa_cons (peC C_names (hr.mono (by first | decide | omega)) (by rfl) (pa_cons (pv 0) pa_nil)) pa_nil)) (nomark _)) (pw_or1 (pt_cmpR (op_neD hr.units) (peC C_letters (hr.mono (by first | decide | omega)) (by rfl) (pa_cons (pv 1) pa_nil)) (peC C__law_parts (hr.mono (by first | decide | omega)) (by rfl) (pa_cons (peC C_letters (hr.mono (by first | decide | omega)) (by rfl) (pa_cons (pv 0) pa_nil)) pa_nil)) (nomark _))))) (pss_one (ps_ret pe_bl)) pss_nil)
      (pss_cons (ps_if (PW.pt (pw_or (pt_cmpR (op_neD hr.units) (peC C_makes (hr.mono (by first | decide | omega)) (by rfl) (pa_cons (pv 1) pa_nil)) (peC C__law_parts (hr.mono (by first | decide | omega)) (by rfl) (pa_cons (peC C_makes (hr.mono (by first | decide | omega)) (by rfl) (pa_cons (pv 0) pa_nil)) pa_nil)) (nomark _)) (pw_or1 (pt_cmpR (op_neD hr.units) (peC C_reached (hr.mono (by first | decide | omega)) (by rfl) (pa_cons (pv 1) pa_nil)) (peC C__law_parts (hr.mono (by first | decide | omega)) (by rfl) (pa_cons (peC C_reached (hr.mono (by first | decide | omega)) (by rfl) (pa_cons (pv 0) pa_nil)) pa_nil)) (nomark _))))) (pss_one (ps_ret pe_bl)) pss_nil)
      (pss_cons (ps_if (PW.pt (pw_or (pt_cmpR (op_neD hr.units) (peC C_empties (hr.mono (by first | decide | omega)) (by rfl) (pa_cons (pv 1) pa_nil)) (peC C__law_parts (hr.mono (by first | decide | omega)) (by rfl) (pa_cons (peC C_empties (hr.mono (by first | decide | omega)) (by rfl) (pa_cons (pv 0) pa_nil)) pa_nil)) (nomark _)) (pw_or1 (pt_cmpR (op_neD hr.units) (peC C_firsts (hr.mono (by first | decide | omega)) (by rfl) (pa_cons (pv 1) pa_nil)) (peC C__law_told (hr.mono (by first | decide | omega)) (by rfl) (pa_cons (peC C_firsts (hr.mono (by first | decide | omega)) (by rfl) (pa_cons (pv 0) pa_nil)) pa_nil)) (nomark _))))) (pss_one (ps_ret pe_bl)) pss_nil)
      (pss_cons (ps_if (pt_cmpR (op_neD hr.units) (peC C_followers (hr.mono (by first | decide | omega)) (by rfl) (pa_cons (pv 1) pa_nil)) (peC C__law_told (hr.mono (by first | decide | omega)) (by rfl) (pa_cons (peC C_followers (hr.mono (by first | decide | omega)) (by rfl) (pa_cons (pv 0) pa_nil)) pa_nil)) (nomark _)) (pss_one (ps_ret pe_bl)) pss_nil)
      (pss_cons (ps_if (pt_cmpR (op_neD hr.units) (peC C_least_lengths (hr.mono (by first | decide | omega)) (by rfl) (pa_cons (pv 1) pa_nil)) (pe_lc (own := [("name", 2), ("length", 4)]) (g := (gTup K 2 (gCons (gName 2) (gCons (gName 4) gNil)))) (tt := tYes) (te := (tTup (tCons (tCall (spF R__law_part) [] E0 (tCons (tVar 2) tNil)) (tCons (tVar 4) tNil)))) rfl sc__law_marks_like.nd (pi_list (peC C_least_lengths (hr.mono (by first | decide | omega)) (by rfl) (pa_cons (pv 0) pa_nil))) (blkOk_by (N := ["grammar", "other", "name", "text", "length"]) (sc := defScope s__law_marks_like) (by decide +kernel)) (fun _ _ _ _ _ => (pg_tup rfl (pgs_cons (pg_name (i := 2) sc__law_marks_like.nd rfl (.inl rfl)) (pgs_cons (pg_name (i := 4) sc__law_marks_like.nd rfl (.inl rfl)) pgs_nil)))) (fun _ _ _ _ _ => pts_nil) (fun _ _ _ _ _ => (pe_tup (pa_cons (peC C__law_part (hr.mono (by first | decide | omega)) (by rfl) (pa_cons (pv 2) pa_nil)) (pa_cons (pv 4) pa_nil))))) (nomark _)) (pss_one (ps_ret pe_bl)) pss_nil)
      (pss_cons (ps_for PassesOwn.never rfl (pi_list (peC C_names (hr.mono (by first | decide | omega)) (by rfl) (pa_cons (pv 0) pa_nil))) (pg_name (i := 2) sc__law_marks_like.nd rfl (.inl rfl))
      (pss_cons (ps_set (i := 3) sc__law_marks_like.nd rfl (.inl rfl) (peC C_least_text (hr.mono (by first | decide | omega)) (by rfl) (pa_cons (pv 0) (pa_cons (pv 2) pa_nil))))
      (pss_cons (ps_if (pt_cmpR op_ne (peC C_least_text (hr.mono (by first | decide | omega)) (by rfl) (pa_cons (pv 1) (pa_cons (peC C__law_part (hr.mono (by first | decide | omega)) (by rfl) (pa_cons (pv 2) pa_nil)) pa_nil))) (pe_ifExp (pt_cmp (pc_isN (pv 3))) pe_non (peC C__law_text (hr.mono (by first | decide | omega)) (by rfl) (pa_cons (pv 3) pa_nil))) (nomark _)) (pss_one (ps_ret pe_bl)) pss_nil)
      (pss_one (ps_if (pt_cmpR (op_neD hr.units) (peC C_rules_of (hr.mono (by first | decide | omega)) (by rfl) (pa_cons (pv 1) (pa_cons (peC C__law_part (hr.mono (by first | decide | omega)) (by rfl) (pa_cons (pv 2) pa_nil)) pa_nil))) (peC C_rules_of (hr.mono (by first | decide | omega)) (by rfl) (pa_cons (pv 0) (pa_cons (pv 2) pa_nil))) (nomark _)) (pss_one (ps_ret pe_bl)) pss_nil)))))
      (pss_one (ps_ret (pe_cmpR (op_eqD hr.units) (peC C_read (hr.mono (by first | decide | omega)) (by rfl) (pa_cons (peC C_shown (hr.mono (by first | decide | omega)) (by rfl) (pa_cons (pv 1) pa_nil)) pa_nil)) (pv 1) (nomark _)))))))))), fun ds d h M0 H0 Q q => ?_⟩
  cases h
  case mk g mk sok =>
  have nl := namesS_len g
  have one : ∀ {Γ : Gm} {t : TE} (l : List Sym), l.length ≤ 7 → ED t Γ (.lst (l.map (es false))) → ED (tCall (spF R__law_parts) [] E0 (tCons t tNil)) Γ (.lst (l.map (es true))) := fun l hl h => ed_call (ea_cons h ea_nil) (R__law_parts.mk l (by omega))
  have cmp : ∀ {Γ : Gm} {t u : TE} (l : List Sym), l.length ≤ 7 → ED t Γ (.lst (l.map (es true))) → ED u Γ (.lst (l.map (es false))) → ET (tTest (tOp (rNeD K) t (tCall (spF R__law_parts) [] E0 (tCons u tNil)))) Γ false := fun l hl h1 h2 => ed_neL h1 (one l hl h2) (plain_l (es true) l (plain_es5 true))
  have told : ∀ {Γ : Gm} {t u : TE} (k : List (Sym × List Sym)), KI (namesS g) k → ED t Γ (.lst ((rowsOf g k).map (encRow true))) → ED u Γ (.lst ((rowsOf g k).map (encRow false))) → ET (tTest (tOp (rNeD K) t (tCall (spF R__law_told) [] E0 (tCons u tNil)))) Γ false := fun k hk h1 h2 => ed_neL h1 (ed_call (ea_cons h2 ea_nil) (R__law_told.mk (rowsOf g k) (by have := (rows_ok g hk).1; omega) fun r hr => by have := (rows_ok g hk).2 r hr; omega)) (plain_l (encRow true) _ (plain_row true))
  refine hs_no (ett (et_orF (cmp (namesS g) nl (ed_call (ea_cons (ed_var rfl) ea_nil) (R_names.mk true g sok)) (ed_call (ea_cons (ed_var rfl) ea_nil) (R_names.mk false g sok))) (cmp (lettersS g) (lettersS_len g) (ed_call (ea_cons (ed_var rfl) ea_nil) (R_letters.mk true g sok)) (ed_call (ea_cons (ed_var rfl) ea_nil) (R_letters.mk false g sok))))) ?_
  refine hs_no (ett (et_orF (cmp (marked g mk.m.1) (marked_len g _) (ed_call (ea_cons (ed_var rfl) ea_nil) (R_makes.mk true g _ _ sok mk.hm)) (ed_call (ea_cons (ed_var rfl) ea_nil) (R_makes.mk false g _ _ sok mk.hm))) (cmp (marked g mk.rc.1) (marked_len g _) (ed_call (ea_cons (ed_var rfl) ea_nil) (R_reached.mk true g _ _ sok mk.hrc)) (ed_call (ea_cons (ed_var rfl) ea_nil) (R_reached.mk false g _ _ sok mk.hrc))))) ?_
  refine hs_no (ett (et_orF (cmp (marked g mk.e.1) (marked_len g _) (ed_call (ea_cons (ed_var rfl) ea_nil) (R_empties.mk true g _ _ sok mk.he)) (ed_call (ea_cons (ed_var rfl) ea_nil) (R_empties.mk false g _ _ sok mk.he))) (told mk.fr.1 mk.ki (ed_call (ea_cons (ed_var rfl) ea_nil) (R_firsts.mk true g mk sok)) (ed_call (ea_cons (ed_var rfl) ea_nil) (R_firsts.mk false g mk sok))))) ?_
  refine hs_no (ett (told mk.fw.1 mk.ki2 (ed_call (ea_cons (ed_var rfl) ea_nil) (R_followers.mk true g mk sok)) (ed_call (ea_cons (ed_var rfl) ea_nil) (R_followers.mk false g mk sok)))) ?_
  refine hs_no (ett (ed_neL (l := (namesS g).map fun x => .tup [es true x, optN (getA mk.ln.1 x)]) (ed_call (ea_cons (ed_var rfl) ea_nil) (R_least_lengths.mk true g _ _ sok mk.hln)) (ef_lcM (namesS g) (fun x => .tup [es false x, optN (getA mk.ln.1 x)]) (fun x => .tup [es true x, optN (getA mk.ln.1 x)]) (ei_list (ed_call (ea_cons (ed_var rfl) ea_nil) (R_least_lengths.mk false g _ _ sok mk.hln))) (by omega) fun x _ => ⟨_, ts_tup2 (by simp) (by simp), ed_tup (ea_cons (ed_call (ea_cons (ed_var rfl) ea_nil) (R__law_part.mk x)) (ea_cons (ed_var rfl) ea_nil)) (le_b rfl)⟩).ed (plain_l _ _ fun x => ?_))) ?_
  · cases getA mk.ln.1 x <;> simp [plain, plains, em_strOk, optN]
  refine hs_for (namesS g) (es false) (fun _ => [some (encSG false g), some (encSG true g), none, none, none]) (ei_list (ed_call (ea_cons (ed_var rfl) ea_nil) (R_names.mk false g sok))) (fun M1 H1 bl k x hx => ⟨_, tg_name (by simp) (lt_b rfl), ?_⟩) ?_
  · have hxm := List.mem_of_getElem? hx
    refine hs_set (ev_all (ed_call (ea_cons (ed_var rfl) (ea_cons (ed_var rfl) ea_nil)) (R_least_text.mk false g x _ _ sok hxm mk.hle))) ?_
    refine hs_no (ett (et_test (ed_neSame (a := optD true (getA mk.le.1 x)) (ed_call (ea_cons (ed_var rfl) (ea_cons (ed_call (ea_cons (ed_var rfl) ea_nil) (R__law_part.mk x)) ea_nil)) (R_least_text.mk true g x _ _ sok hxm mk.hle)) (b := optD true (getA mk.le.1 x)) ?_ rfl (optD_scal _ _)))) ?_
    · have li : LI mk.le.1 := Wh.inv (c := fun s : List (Sym × List Sym) × Bool => s.2) (f := lePass g) (I := fun s => LI s.1) (fun s h _ => leFold_I g _ sok.ruleOk h) mk.hle LI.nil
      cases hg : getA mk.le.1 x with
      | none =>
        refine ed_if (b := true) (et_B (ed_isN (c := .bl true) (ed_var (d := .non) rfl) (fun H v r => ?_) (.inl rfl))) (fun _ => ed_cnon) fun e => nomatch e
        cases r
        simp
      | some l =>
        have hl := li.tx _ (getA_mem hg)
        have h3 := pow6 li.len
        refine ed_if (b := false) (et_B (ed_isN (c := .bl false) (ed_var (d := .str (txt false l)) rfl) (fun H v r => ?_) (.inr rfl))) (fun e => nomatch e) fun _ => ed_call (ea_cons (ed_var rfl) ea_nil) (R__law_text.mk l (by have : l.length ≤ 6 ^ mk.le.1.length := hl.2; omega) hl.1)
        cases r
        simp
    refine ho_no (ett (ed_neL (l := (numbersS g x).map ei) (ed_call (ea_cons (ed_var rfl) (ea_cons (ed_call (ea_cons (ed_var rfl) ea_nil) (R__law_part.mk x)) ea_nil)) (R_rules_of.mk true g x sok hxm)) (ed_call (ea_cons (ed_var rfl) (ea_cons (ed_var rfl) ea_nil)) (R_rules_of.mk false g x sok hxm)) (plain_l ei _ fun n => plain_int _ _))) nx_to
  · exact ho_ret (ev_all (ed_eqD (n := 5) (ed_call (ea_cons (ed_call (ea_cons (ed_var rfl) ea_nil) (R_shown.mk true g sok)) ea_nil) (R_read.mk true g sok)) (ed_var rfl) rfl (plains_mem (n := 4) (encSR true) g fun r _ => plain_SR true r) (by decide))) q

/-! trees -/
inductive R__law_trees_like : List D → D → Prop | mk (g : SG) (t : Tr) (fl fr : List (List Sym)) (sok : SOk g) (ok : TOk g t) (hl : Unf g false [first g] (nmT false t) fl) (hr : Unf g true [first g] (nmT true t) fr) : R__law_trees_like [encSG false g, encSG true g, encT false t] (.bl true)
theorem cal__law_trees_like (T : Txt K mg) : Cal P w K mg base 18 "_law_trees_like" ["grammar", "other", "tree"] (spF R__law_trees_like) := by
  have C__law_tree := cal__law_tree (P := P) (w := w) (base := base) T
  have C_spans := cal_spans (P := P) (w := w) (base := base) T
  have C_forms_left := cal_forms_left (P := P) (w := w) (base := base) T
  have C__law_forms := cal__law_forms (P := P) (w := w) (base := base) T
  have C_forms_right := cal_forms_right (P := P) (w := w) (base := base) T
  have C_read_tree := cal_read_tree (P := P) (w := w) (base := base) T
  have C_is_tree := cal_is_tree (P := P) (w := w) (base := base) T
  have C_text_of := cal_text_of (P := P) (w := w) (base := base) T
  have C__law_text := cal__law_text (P := P) (w := w) (base := base) T
  have C_sizes := cal_sizes (P := P) (w := w) (base := base) T
  have C_order := cal_order (P := P) (w := w) (base := base) T
  have C_tree_of := cal_tree_of (P := P) (w := w) (base := base) T
  have C_from_right := cal_from_right (P := P) (w := w) (base := base) T
  have C_shown_tree := cal_shown_tree (P := P) (w := w) (base := base) T
  have C__law_part := cal__law_part (P := P) (w := w) (base := base) T
  have C_steps_of := cal_steps_of (P := P) (w := w) (base := base) T
  have C_right_steps := cal_right_steps (P := P) (w := w) (base := base) T
  refine T.d__law_trees_like.cal sc__law_trees_like [] (by simp) (fun ds d h => by cases h; rfl) fun f cdv A outer s H E hr => ?_
  refine ⟨_, (pss_cons (ps_set (i := 3) sc__law_trees_like.nd rfl (.inl rfl) (peC C__law_tree (hr.mono (by first | decide | omega)) (by rfl) (pa_cons (pv 2) pa_nil)))
      (pss_cons (ps_if (PW.pt (pw_or (pt_cmpR op_isnot_bl (peC C_is_tree (hr.mono (by first | decide | omega)) (by rfl) (pa_cons (pv 1) (pa_cons (pv 3) pa_nil))) pe_bl (nomark _)) (pw_or1 (pt_cmpR op_ne (peC C_text_of (hr.mono (by first | decide | omega)) (by rfl) (pa_cons (pv 1) (pa_cons (pv 3) pa_nil))) (peC C__law_text (hr.mono (by first | decide | omega)) (by rfl) (pa_cons (peC C_text_of (hr.mono (by first | decide | omega)) (by rfl) (pa_cons (pv 0) (pa_cons (pv 2) pa_nil))) pa_nil)) (nomark _))))) (pss_one (ps_ret pe_bl)) pss_nil)
      (pss_cons (ps_if (PW.pt (pw_or (pt_cmpR (op_neD hr.units) (peC C_sizes (hr.mono (by first | decide | omega)) (by rfl) (pa_cons (pv 1) (pa_cons (pv 3) pa_nil))) (peC C_sizes (hr.mono (by first | decide | omega)) (by rfl) (pa_cons (pv 0) (pa_cons (pv 2) pa_nil))) (nomark _)) (pw_or1 (pt_cmpR op_ne (peC C_order (hr.mono (by first | decide | omega)) (by rfl) (pa_cons (pv 1) (pa_cons (pv 3) (pa_cons (pv 3) pa_nil)))) pe_int (nomark _))))) (pss_one (ps_ret pe_bl)) pss_nil)
      (pss_cons (ps_if (pt_cmpR (op_neD hr.units) (peC C_spans (hr.mono (by first | decide | omega)) (by rfl) (pa_cons (pv 1) (pa_cons (pv 3) pa_nil))) (pe_lc (own := [("name", 4), ("one", 5), ("two", 6)]) (g := (gTup K 3 (gCons (gName 4) (gCons (gName 5) (gCons (gName 6) gNil))))) (tt := tYes) (te := (tTup (tCons (tCall (spF R__law_part) [] E0 (tCons (tVar 4) tNil)) (tCons (tVar 5) (tCons (tVar 6) tNil))))) rfl sc__law_trees_like.nd (pi_list (peC C_spans (hr.mono (by first | decide | omega)) (by rfl) (pa_cons (pv 0) (pa_cons (pv 2) pa_nil)))) (blkOk_by (N := ["grammar", "other", "tree", "mine", "name", "one", "two"]) (sc := defScope s__law_trees_like) (by decide +kernel)) (fun _ _ _ _ _ => (pg_tup rfl (pgs_cons (pg_name (i := 4) sc__law_trees_like.nd rfl (.inl rfl)) (pgs_cons (pg_name (i := 5) sc__law_trees_like.nd rfl (.inl rfl)) (pgs_cons (pg_name (i := 6) sc__law_trees_like.nd rfl (.inl rfl)) pgs_nil))))) (fun _ _ _ _ _ => pts_nil) (fun _ _ _ _ _ => (pe_tup (pa_cons (peC C__law_part (hr.mono (by first | decide | omega)) (by rfl) (pa_cons (pv 4) pa_nil)) (pa_cons (pv 5) (pa_cons (pv 6) pa_nil)))))) (nomark _)) (pss_one (ps_ret pe_bl)) pss_nil)
      (pss_cons (ps_if (pt_cmpR (op_neD hr.units) (peC C_forms_left (hr.mono (by first | decide | omega)) (by rfl) (pa_cons (pv 1) (pa_cons (pv 3) pa_nil))) (peC C__law_forms (hr.mono (by first | decide | omega)) (by rfl) (pa_cons (peC C_forms_left (hr.mono (by first | decide | omega)) (by rfl) (pa_cons (pv 0) (pa_cons (pv 2) pa_nil))) pa_nil)) (nomark _)) (pss_one (ps_ret pe_bl)) pss_nil)
      (pss_cons (ps_if (pt_cmpR (op_neD hr.units) (peC C_forms_right (hr.mono (by first | decide | omega)) (by rfl) (pa_cons (pv 1) (pa_cons (pv 3) pa_nil))) (peC C__law_forms (hr.mono (by first | decide | omega)) (by rfl) (pa_cons (peC C_forms_right (hr.mono (by first | decide | omega)) (by rfl) (pa_cons (pv 0) (pa_cons (pv 2) pa_nil))) pa_nil)) (nomark _)) (pss_one (ps_ret pe_bl)) pss_nil)
      (pss_cons (ps_if (PW.pt (pw_or (pt_cmpR (op_neD hr.units) (peC C_tree_of (hr.mono (by first | decide | omega)) (by rfl) (pa_cons (pv 1) (pa_cons (peC C_steps_of (hr.mono (by first | decide | omega)) (by rfl) (pa_cons (pv 1) (pa_cons (pv 3) pa_nil))) pa_nil))) (pv 3) (nomark _)) (pw_or1 (pt_cmpR (op_neD hr.units) (peC C_from_right (hr.mono (by first | decide | omega)) (by rfl) (pa_cons (pv 1) (pa_cons (peC C_right_steps (hr.mono (by first | decide | omega)) (by rfl) (pa_cons (pv 1) (pa_cons (pv 3) pa_nil))) pa_nil))) (pv 3) (nomark _))))) (pss_one (ps_ret pe_bl)) pss_nil)
      (pss_one (ps_ret (pe_cmpR (op_eqD hr.units) (peC C_read_tree (hr.mono (by first | decide | omega)) (by rfl) (pa_cons (pv 1) (pa_cons (peC C_shown_tree (hr.mono (by first | decide | omega)) (by rfl) (pa_cons (pv 1) (pa_cons (pv 3) pa_nil))) pa_nil))) (pv 3) (nomark _))))))))))), fun ds d h M0 H0 Q q => ?_⟩
  cases h
  case mk g t fl fr sok ok hl hr =>
  have tg := ok.tg sok
  have hc := ok.cnt
  have hy := tg.yl
  have forms : ∀ {b : Bool} {fs : List (List Sym)}, Unf g b [first g] (nmT b t) fs → ([first g] :: fs).length ≤ 1000 ∧ ∀ f ∈ [first g] :: fs, f.length ≤ 5000 := by
    intro b fs h
    obtain ⟨h1, h2⟩ := h.len sok.h6
    rw [nmT_len] at h1 h2
    refine ⟨by rw [List.length_cons]; omega, fun f hf => ?_⟩
    have := h2 f hf
    simp at this
    omega
  have cf : ∀ {Γ : Gm} {u v : TE} (l : List (List Sym)), l.length ≤ 1000 → (∀ f ∈ l, f.length ≤ 5000) → ED u Γ (.lst (l.map (encF true))) → ED v Γ (.lst (l.map (encF false))) → ET (tTest (tOp (rNeD K) u (tCall (spF R__law_forms) [] E0 (tCons v tNil)))) Γ false := fun l h1 h2 h3 h4 => ed_neL h3 (ed_call (ea_cons h4 ea_nil) (R__law_forms.mk l h1 h2)) (plain_l (encF true) l (plain_F true))
  have pT : plain 24 (encT true t) = true := plain_T true t 24 (by have := ok.dep; omega)
  refine hs_set (ev_all (ed_call (ea_cons (ed_var rfl) ea_nil) (Q__law_tree.mk g _ t tg ok.dep))) ?_
  refine hs_no (ett (et_orF (et_test ((ed_isNotB (ed_call (ea_cons (ed_var rfl) (ea_cons (ed_var rfl) ea_nil)) (R_is_tree.mk true g t sok ok)) ed_cbl).is rfl)) (et_test (ed_neSame (a := .str (txt true (ylT t))) (b := .str (txt true (ylT t))) (ed_call (ea_cons (ed_var rfl) (ea_cons (ed_var rfl) ea_nil)) (R_text_of.mk true g t sok ok)) (ed_call (ea_cons (ed_call (ea_cons (ed_var rfl) (ea_cons (ed_var rfl) ea_nil)) (R_text_of.mk false g t sok ok)) ea_nil) (R__law_text.mk (ylT t) (by omega) hy.1)) rfl rfl)))) ?_
  refine hs_no (ett (et_orF (et_test (ed_neD (n := 5) (ed_call (ea_cons (ed_var rfl) (ea_cons (ed_var rfl) ea_nil)) (R_sizes.mk true g t sok ok)) (ed_call (ea_cons (ed_var rfl) (ea_cons (ed_var rfl) ea_nil)) (R_sizes.mk false g t sok ok)) rfl rfl (by decide))) (et_test (ed_neSame (ed_call (ea_cons (ed_var rfl) (ea_cons (ed_var rfl) (ea_cons (ed_var rfl) ea_nil))) (R_order.mk true g t sok ok)) ed_cint rfl rfl)))) ?_
  refine hs_no (ett (ed_neL (l := (spT g t 0).1.map (encSp true)) (ed_call (ea_cons (ed_var rfl) (ea_cons (ed_var rfl) ea_nil)) (R_spans.mk true g t sok ok)) (ef_lcM (spT g t 0).1 (encSp false) (encSp true) (ei_list (ed_call (ea_cons (ed_var rfl) (ea_cons (ed_var rfl) ea_nil)) (R_spans.mk false g t sok ok))) (by rw [spT_len]; omega) fun x _ => ⟨_, ts_tup3 (by simp) (by simp) (by simp), ed_tup (ea_cons (ed_call (ea_cons (ed_var rfl) ea_nil) (R__law_part.mk x.1)) (ea_cons (ed_var rfl) (ea_cons (ed_var rfl) ea_nil))) (le_b rfl)⟩).ed (plain_l (encSp true) _ (plain_Sp true)))) ?_
  refine hs_no (ett (cf ([first g] :: fl) (forms hl).1 (forms hl).2 (ed_call (ea_cons (ed_var rfl) (ea_cons (ed_var rfl) ea_nil)) (R_forms_left.mk true g t fl sok ok hl)) (ed_call (ea_cons (ed_var rfl) (ea_cons (ed_var rfl) ea_nil)) (R_forms_left.mk false g t fl sok ok hl)))) ?_
  refine hs_no (ett (cf ([first g] :: fr) (forms hr).1 (forms hr).2 (ed_call (ea_cons (ed_var rfl) (ea_cons (ed_var rfl) ea_nil)) (R_forms_right.mk true g t fr sok ok hr)) (ed_call (ea_cons (ed_var rfl) (ea_cons (ed_var rfl) ea_nil)) (R_forms_right.mk false g t fr sok ok hr)))) ?_
  refine hs_no (ett (et_orF (et_test (ed_neD (n := 24) (ed_call (ea_cons (ed_var rfl) (ea_cons (ed_call (ea_cons (ed_var rfl) (ea_cons (ed_var rfl) ea_nil)) (R_steps_of.mk true g t sok ok)) ea_nil)) (R_tree_of.mk true g t sok ok)) (ed_var rfl) rfl pT (by decide))) (et_test (ed_neD (n := 24) (ed_call (ea_cons (ed_var rfl) (ea_cons (ed_call (ea_cons (ed_var rfl) (ea_cons (ed_var rfl) ea_nil)) (R_right_steps.mk true g t sok ok)) ea_nil)) (R_from_right.mk true g t sok ok)) (ed_var rfl) rfl pT (by decide))))) ?_
  exact ho_ret (ev_all (ed_eqD (n := 24) (ed_call (ea_cons (ed_var rfl) (ea_cons (ed_call (ea_cons (ed_var rfl) (ea_cons (ed_var rfl) ea_nil)) (R_shown_tree.mk true g t sok ok)) ea_nil)) (R_read_tree.mk true g t sok ok)) (ed_var rfl) rfl pT (by decide))) q

/-! the law -/
theorem hs_xspot {M0 H0 : Hp} {own : List Nat} {X : Hp} {Γ : Gm} {u : TS} {D : Ends} {i : Nat} (k : ∀ p X', XS X' p 0 → Ho M0 H0 own X' (Γ.set i (some (.opq (.ref p)))) u D) (hX : X = nilH) (hi : own.contains i = false := by rfl) (hl : Nat.blt i Γ.length = true := by rfl) : Ho M0 H0 own X Γ (tSeq (tAsg (tLst (tCons (tC (.int 0)) tNil)) (gName i)) u) D := fun σ H ⟨R, s⟩ => ⟨by show 1 ≤ sizeLine; decide, fun p hp => by
  have s2 := (s.xnew hp (.lst [.int 0])).set (i := i) (v := .ref p) (d := .opq (.ref p)) (no_b hi) (lt_b hl) (.opq _)
  refine k p (upd X p (.lst [.int 0])) ⟨upd_same, fun b xs h => ?_⟩ _ _ ⟨R, s2⟩
  by_cases hb : b = p
  · subst hb
    rw [upd_same] at h
    cases h
  · rw [upd_ne hb, hX] at h
    cases h⟩
/-- the promise of a def that stands at fa -/
theorem Fun.calF {P : Program} {w : World} {K : PySem.W.Frag} {mg : Str → Option Value} {base : Heap} {x : Str} {st : Stmt} {f : Addr} {fd : FuncData} {ps N : List Str} {k : Nat} {R : List D → D → Prop} (F : L2.Fun K x x st f fd) (S : FnScope N ps (defScope st)) (own : List Nat) (ho : ∀ i ∈ own, ps.length ≤ i) (len : ∀ ds d, R ds d → ds.length = ps.length)
    (hb : ∀ (f : Addr) (cdv : Value) (A : Around) (outer : List Env) (s : Shared) (H : Hp) (E : XK), Room k (A.deeper (PyProof.Rows.envOfC x (defScope st) s.heap.objs.size f cdv)) →
      ∃ t, PSs (cxOf CX0 P w K mg base N x (defScope st) f cdv A outer s H E).nox (defBody st) t ∧
        ∀ ds d, R ds d → ∀ (M0 H0 : Hp) (Q : VK), (∀ v M' H', Grow M0 H0 M' H' → Rep M' v d → Q v H') →
          Ho M0 H0 own nilH (ds.map some ++ List.replicate (N.length - ds.length) none) t { nx := fun _ H' => Q .non H', rt := Q }) : FnOk P w K mg base CX0 (k + 1) f fd ps (spF R) := by
  refine F.ok S (fun vs H Q E ⟨M, ds, d, _, r, h, _⟩ => by rw [r.length]; exact len _ _ h) (fun cdv A outer s H vs Q E hr h => ?_)
  obtain ⟨M, ds, d, e, r, h, q⟩ := h
  obtain ⟨t, h1, h2⟩ := hb f cdv A outer s H E hr
  refine ⟨t, h1, h2 ds d h M H Q q _ _ ?_⟩
  show ST M H own nilH _ (vs.map some ++ List.replicate (N.length - vs.length) none) H
  rw [r.length]
  exact st_start e r _ own fun i hi => by rw [len _ _ h]; exact ho i hi
/-- all that the law needs of plain facts -/
def Plain : Prop := ∀ ns : List Int, SOk (lawG ns) ∧ Nonempty (Marks (lawG ns)) ∧ ((getA (heights (lawG ns)) (first (lawG ns))).isSome = true →
  ∃ t sp', Grw ns (lawG ns) (heights (lawG ns)) 3 (first (lawG ns)) (spotG ns) t sp' ∧ TOk (lawG ns) t ∧ (∃ fl, Unf (lawG ns) false [first (lawG ns)] (nmT false t) fl) ∧ ∃ fr, Unf (lawG ns) true [first (lawG ns)] (nmT true t) fr)
inductive R_law (K : PySem.W.Frag) : List D → D → Prop | mk (ns : List Int) (pl : Plain) : R_law K [scr K ns] (.bl true)
theorem fn_law (T : Txt K mg) {fa : Addr} {fd : FuncData} (F : Fun K "law" "law" s_law fa fd) : FnOk P w K mg base CX0 19 fa fd ["script"] (spF (R_law K)) := by
  have C__law_grammar := cal__law_grammar (P := P) (w := w) (base := base) T
  have C__law_other := cal__law_other (P := P) (w := w) (base := base) T
  have C__law_some_tree := cal__law_some_tree (P := P) (w := w) (base := base) T
  have C__law_marks_like := cal__law_marks_like (P := P) (w := w) (base := base) T
  have C__law_trees_like := cal__law_trees_like (P := P) (w := w) (base := base) T
  refine Fun.calF F sc_law [] (by simp) (fun ds d h => by cases h; rfl) fun f cdv A outer s H E hr => ?_
  refine ⟨_, (pss_cons (ps_set (i := 1) sc_law.nd rfl (.inl rfl) (pe_lst (pa_cons pe_int pa_nil)))
      (pss_cons (ps_set (i := 2) sc_law.nd rfl (.inl rfl) (peC C__law_grammar (hr.mono (by first | decide | omega)) (by rfl) (pa_cons (pv 0) (pa_cons (pv 1) pa_nil))))
      (pss_cons (ps_set (i := 3) sc_law.nd rfl (.inl rfl) (peC C__law_other (hr.mono (by first | decide | omega)) (by rfl) (pa_cons (pv 2) pa_nil)))
      (pss_cons (ps_if (pt_not (pt_val (peC C__law_marks_like (hr.mono (by first | decide | omega)) (by rfl) (pa_cons (pv 2) (pa_cons (pv 3) pa_nil))))) (pss_one (ps_ret pe_bl)) pss_nil)
      (pss_cons (ps_set (i := 4) sc_law.nd rfl (.inl rfl) (peC C__law_some_tree (hr.mono (by first | decide | omega)) (by rfl) (pa_cons (pv 0) (pa_cons (pv 1) (pa_cons (pv 2) (pa_cons pe_int pa_nil))))))
      (pss_one (ps_ret (pe_or (pe_callB call_isi (by rfl) T.b_isinstance (by decide +kernel) (pa_cons (pv 4) (pa_cons (pe_bltn (v := .ty "str") (u := .type "str") (by rfl) T.b_str (by decide +kernel) rfl) pa_nil))) (pe_one (peC C__law_trees_like (hr.mono (by first | decide | omega)) (by rfl) (pa_cons (pv 2) (pa_cons (pv 3) (pa_cons (pv 4) pa_nil))))))))))))), fun ds d h M0 H0 Q q => ?_⟩
  cases h
  case mk ns pl =>
  obtain ⟨sok, ⟨mk⟩, ht⟩ := pl ns
  have h6 := sok.h6
  have hl : (lawG ns).length ≤ 1000 := by have := sok.len; omega
  refine hs_xspot (fun p X xs => ?_) rfl
  refine hs_setX (ex_callX (eav_cons (ev_all (ed_var rfl)) (eav_cons (ev_all (ed_var rfl)) eav_nil)) (R__law_grammar.mk ns X p xs)) fun X1 xs1 => ?_
  generalize lawG ns = g at *
  refine hs_set (ev_all (ed_call (ea_cons (ed_var rfl) ea_nil) (R__law_other.mk g h6 hl))) ?_
  refine hs_no (ett (et_notT (et_B (ed_call (ea_cons (ed_var rfl) (ea_cons (ed_var rfl) ea_nil)) (R__law_marks_like.mk g mk sok))))) ?_
  cases hg : getA (heights g) (first g) with
  | none =>
    refine hs_setX (ex_callX (eav_cons (ev_all (ed_var rfl)) (eav_cons (ev_all (ed_var rfl)) (eav_cons (ev_all (ed_var rfl)) (eav_cons (ev_all ed_cint) eav_nil)))) (R__law_some_tree.none ns g X1 p 3 (spotG ns) h6 hl sok.ne xs1 hg)) fun X2 xs2 => ?_
    exact ho_ret (ev_all ((ed_orV (b := true) (ed_isStr (ed_var rfl)) fun e => nomatch e).is rfl)) q
  | some n =>
    obtain ⟨t, sp', hw, tok, ⟨fl, hfl⟩, fr, hfr⟩ := ht (by rw [hg]; rfl)
    refine hs_setX (ex_callX (eav_cons (ev_all (ed_var rfl)) (eav_cons (ev_all (ed_var rfl)) (eav_cons (ev_all (ed_var rfl)) (eav_cons (ev_all ed_cint) eav_nil)))) (R__law_some_tree.some ns g X1 p 3 (spotG ns) sp' t h6 hl sok.ne xs1 (by rw [hg]; rfl) hw tok.dep)) fun X2 xs2 => ?_
    have hor : ∀ {Γ : Gm} {a b : TE} {z : Bool}, ED a Γ (.bl z) → ED b Γ (.bl true) → ED (tOrV a b) Γ (.bl true) := fun h1 h2 => (ed_orV h1 fun _ => h2).is (by simp)
    have hi : ∃ z, ∀ Γ : Gm, Γ[4]? = some (some (encT false t)) → ED (tCB (rIsi K) (tCons (tVar 4) (tCons (tC (.ty "str")) tNil))) Γ (.bl z) := by
      cases t with
      | leaf x => exact ⟨true, fun Γ h => ed_isStr (s := em false x) (ed_var (by rw [h, encT_leaf]))⟩
      | node k l => exact ⟨false, fun Γ h => ed_isTup (ds := [ei k, .tup (l.map (encT false))]) (ed_var (by rw [h, encT_node]))⟩
    obtain ⟨z, hz⟩ := hi
    exact ho_ret (ev_all (hor (hz _ rfl) (ed_call (ea_cons (ed_var rfl) (ea_cons (ed_var rfl) (ea_cons (ed_var rfl) ea_nil))) (R__law_trees_like.mk g t fl fr sok tok hfl hfr)))) q
end
end RN

end
section
set_option maxRecDepth 100000
set_option maxHeartbeats 4000000
/-! every loop ends -/
namespace RN
open PySem Sym
theorem sym7 {l : List Sym} (h : l.Nodup) : l.length ≤ 7 := by
  have := List.Nodup.length_le_of_subset (l₂ := [.a, .b, .c, .A, .B, .S, .dot]) h (fun x _ => by cases x <;> simp)
  simpa using this
def fl (b : Bool) : Nat := if b = true then 1 else 0
theorem fl_le (b : Bool) : fl b ≤ 1 := by cases b <;> decide
/-! names marked -/
theorem mkFold_grow {ok : List Sym → List Sym → Bool} {n : Nat} : ∀ (g : SG) (s : List Sym × Bool), (n ≤ s.1.length ∧ (s.2 = true → n < s.1.length)) → (n ≤ (g.foldl (mkStep ok) s).1.length ∧ ((g.foldl (mkStep ok) s).2 = true → n < (g.foldl (mkStep ok) s).1.length))
  | [], s, h => h
  | r :: g, s, h => mkFold_grow g _ (by
    unfold mkStep
    split
    · rename_i e
      simp only [Bool.and_eq_true, Bool.not_eq_true', decide_eq_false_iff_not] at e
      have e2 : (addN s.1 r.1).length = s.1.length + 1 := by unfold addN; rw [if_neg e.1, List.length_append, List.length_singleton]
      show n ≤ (addN s.1 r.1).length ∧ (true = true → n < (addN s.1 r.1).length)
      rw [e2]
      omega
    · exact h)
theorem mk_ends (ok : List Sym → List Sym → Bool) (g : SG) : ∃ n z, MkW ok g n z := by
  obtain ⟨n, z, w, _⟩ := Wh.exists (c := fun s : List Sym × Bool => s.2) (f := mkPass ok g) (fun s => s.1.Nodup) (fun s => 2 * (7 - s.1.length) + fl s.2) (fun s hs hc => by
    have hn := mkFold_nd (ok := ok) g (s.1, false) hs
    have hg := mkFold_grow (ok := ok) (n := s.1.length) g (s.1, false) ⟨Nat.le_refl _, fun e => nomatch e⟩
    refine ⟨hn, ?_⟩
    have h7 := sym7 hn
    have hc' : s.2 = true := hc
    show 2 * (7 - (mkPass ok g s).1.length) + fl (mkPass ok g s).2 < 2 * (7 - s.1.length) + fl s.2
    unfold mkPass
    rw [hc']
    have e1 : fl true = 1 := rfl
    rw [e1]
    cases e : (g.foldl (mkStep ok) (s.1, false)).2 with
    | true =>
      have := hg.2 e
      have e2 : fl true = 1 := rfl
      rw [e2]
      omega
    | false =>
      have := hg.1
      have e2 : fl false = 0 := rfl
      rw [e2]
      omega) (15) ([], true) (by decide) List.nodup_nil
  exact ⟨n, z, w⟩
/-! what is reached -/
def rcM (s : List Sym × List Sym) : Nat := 2 * (7 - s.1.length) + s.2.length
theorem rcIn_M {s : List Sym × List Sym} {p : Sym} (h : RcI s) : rcM (rcIn s p) ≤ rcM s := by
  have h2 := sym7 (rcIn_I (p := p) h).nd
  unfold rcIn at h2 ⊢
  split
  · rename_i e
    rw [if_pos e] at h2
    simp only [Bool.and_eq_true, Bool.not_eq_true', decide_eq_false_iff_not] at e
    have e2 : (addN s.1 p).length = s.1.length + 1 := by unfold addN; rw [if_neg e.2, List.length_append, List.length_singleton]
    have h2' : (addN s.1 p).length ≤ 7 := h2
    show 2 * (7 - (addN s.1 p).length) + (s.2 ++ [p]).length ≤ rcM s
    unfold rcM
    rw [e2] at h2' ⊢
    rw [List.length_append, List.length_singleton]
    omega
  · exact Nat.le_refl _
theorem rcFold_M : ∀ (ps : List Sym) (s : List Sym × List Sym), RcI s → rcM (ps.foldl rcIn s) ≤ rcM s
  | [], s, _ => Nat.le_refl _
  | p :: ps, s, h => Nat.le_trans (rcFold_M ps _ (rcIn_I h)) (rcIn_M h)
theorem rcRule_M {here : Sym} {s : List Sym × List Sym} {r : Sym × List Sym} (h : RcI s) : rcM (rcRule here s r) ≤ rcM s := by
  unfold rcRule
  split
  · exact rcFold_M _ _ h
  · exact Nat.le_refl _
theorem rcRules_M {here : Sym} : ∀ (g : SG) (s : List Sym × List Sym), RcI s → rcM (g.foldl (rcRule here) s) ≤ rcM s
  | [], s, _ => Nat.le_refl _
  | r :: g, s, h => Nat.le_trans (rcRules_M g _ (rcRule_I h)) (rcRule_M h)
theorem rc_ends (g : SG) (x : Sym) : ∃ n z, RcW g x n z := by
  obtain ⟨n, z, w, _⟩ := Wh.exists (c := fun s : List Sym × List Sym => !s.2.isEmpty) (f := rcPass g) RcI rcM (fun s hs hc => by
    refine ⟨rcPass_I hs, ?_⟩
    obtain ⟨hh, eh⟩ : ∃ hh, s.2.getLast? = some hh := by
      cases e : s.2.getLast? with
      | none =>
        rw [List.getLast?_eq_none_iff] at e
        rw [e] at hc
        cases hc
      | some v => exact ⟨v, rfl⟩
    have eP : rcPass g s = g.foldl (rcRule hh) (s.1, s.2.dropLast) := by unfold rcPass; rw [eh]
    rw [eP]
    refine Nat.lt_of_le_of_lt (rcRules_M g _ (rcPop_I hs)) ?_
    have hp : 0 < s.2.length := by
      cases e : s.2 with
      | nil => rw [e] at eh; cases eh
      | cons a l => simp
    unfold rcM
    show 2 * (7 - s.1.length) + s.2.dropLast.length < _
    rw [List.length_dropLast]
    omega) (rcM ([x], [x])) ([x], [x]) (Nat.le_refl _) ⟨by simp, by simp, by simp⟩
  exact ⟨n, z, w⟩
/-! sets by name -/
def tot (k : List (Sym × List Sym)) : Nat := (k.map fun e => e.2.length).sum
theorem addN_len1 {l : List Sym} {y : Sym} : l.length ≤ (addN l y).length := by
  unfold addN
  split
  · exact Nat.le_refl _
  · simp
theorem addAt_tot : ∀ (k : List (Sym × List Sym)) (x y : Sym), tot k ≤ tot (addAt k x y) ∧ ((∃ e ∈ k, e.1 = x ∧ y ∉ e.2) → tot k < tot (addAt k x y))
  | [], x, y => ⟨Nat.le_refl _, fun ⟨e, he, _⟩ => by simp at he⟩
  | e :: k, x, y => by
    obtain ⟨h1, h2⟩ := addAt_tot k x y
    have e1 : tot (e :: k) = e.2.length + tot k := by unfold tot; rw [List.map_cons, List.sum_cons]
    have e2 : tot (addAt (e :: k) x y) = (if e.1 = x then (e.1, addN e.2 y) else e).2.length + tot (addAt k x y) := by unfold tot addAt; rw [List.map_cons, List.map_cons, List.sum_cons]
    have h3 : e.2.length ≤ (if e.1 = x then (e.1, addN e.2 y) else e).2.length := by
      split
      · exact addN_len1
      · exact Nat.le_refl _
    rw [e1, e2]
    refine ⟨by omega, ?_⟩
    rintro ⟨e', he', q1, q2⟩
    rcases List.mem_cons.mp he' with z | z
    · subst z
      rw [if_pos q1]
      have : (addN e'.2 y).length = e'.2.length + 1 := by unfold addN; rw [if_neg q2, List.length_append, List.length_singleton]
      show e'.2.length + tot k < (addN e'.2 y).length + tot (addAt k x y)
      omega
    · have := h2 ⟨e', z, q1, q2⟩
      omega
theorem KI.tot {ns : List Sym} {k : List (Sym × List Sym)} (h : KI ns k) (hn : ns.length ≤ 7) : tot k ≤ 49 := by
  have e : k.length ≤ 7 := by
    have := congrArg List.length h.keys
    rw [List.length_map] at this
    omega
  have q : ∀ l : List (Sym × List Sym), (∀ e ∈ l, e.2.length ≤ 7) → RN.tot l ≤ l.length * 7 := by
    intro l
    induction l with
    | nil => intro _; simp [RN.tot]
    | cons a l ih =>
      intro hl
      have h1 := hl a (by simp)
      have h2 := ih fun e he => hl e (by simp [he])
      unfold RN.tot at h2 ⊢
      rw [List.map_cons, List.sum_cons, List.length_cons]
      omega
  have := q k fun e he => sym7 (h.nd e he).1
  omega
/-- n: the size at the pass's start -/
def Grk (n : Nat) (s : KB) : Prop := n ≤ tot s.1 ∧ (s.2 = true → n < tot s.1)
theorem Grk.addTo {ns : List Sym} {n : Nat} {s : KB} (h : Grk n s) (ki : KI ns s.1) {x y : Sym} (hx : x ∈ ns) : Grk n (addTo x s y) := by
  obtain ⟨l, hl, _⟩ := ki.get hx
  unfold RN.addTo
  rw [hl, Option.getD_some]
  split
  · exact h
  · rename_i hy
    obtain ⟨_, h2⟩ := addAt_tot s.1 x y
    have := h2 ⟨(x, l), getA_mem hl, rfl, hy⟩
    have := h.1
    exact ⟨by show n ≤ tot (addAt s.1 x y); omega, fun _ => by show n < tot (addAt s.1 x y); omega⟩
theorem Grk.fold {ns : List Sym} {n : Nat} {x : Sym} (hx : x ∈ ns) : ∀ (l : List Sym) (s : KB), (∀ y ∈ l, isN y = false) → KI ns s.1 → Grk n s → Grk n (l.foldl (RN.addTo x) s)
  | [], s, _, _, h => h
  | y :: l, s, hl, ki, h => Grk.fold hx l _ (fun z hz => hl z (by simp [hz])) (ki.addTo (hl y (by simp))) (h.addTo ki hx)
theorem Grk.frFold {ns hol : List Sym} {n : Nat} : ∀ (rs : SG) (s : KB), (∀ r ∈ rs, r.1 ∈ ns) → KI ns s.1 → Grk n s → Grk n (rs.foldl (RN.frRule hol) s)
  | [], s, _, _, h => h
  | r :: rs, s, hr, ki, h => Grk.frFold rs _ (fun q hq => hr q (by simp [hq])) (ki.frRule r) (Grk.fold (hr r (by simp)) _ _ (begins_N ki hol r.2 [] (by simp)) ki h)
theorem fr_ends (rs : SG) (hol ns : List Sym) (hn : ns.length ≤ 7) (hr : ∀ r ∈ rs, r.1 ∈ ns) : ∃ n z, FrW rs hol ns n z := by
  obtain ⟨n, z, w, _⟩ := Wh.exists (c := fun s : KB => s.2) (f := frPass rs hol) (fun s => KI ns s.1) (fun s => 2 * (49 - tot s.1) + fl s.2) (fun s hs hc => by
    have hk := KI.frFold (hol := hol) rs (s.1, false) hs
    have hg := Grk.frFold (hol := hol) (n := tot s.1) rs (s.1, false) hr hs ⟨Nat.le_refl _, fun e => nomatch e⟩
    refine ⟨hk, ?_⟩
    have h7 := hk.tot hn
    have hc' : s.2 = true := hc
    show 2 * (49 - tot (frPass rs hol s).1) + fl (frPass rs hol s).2 < 2 * (49 - tot s.1) + fl s.2
    unfold frPass
    rw [hc']
    have e1 : fl true = 1 := rfl
    rw [e1]
    cases e : (rs.foldl (RN.frRule hol) (s.1, false)).2 with
    | true =>
      have := hg.2 e
      have e2 : fl true = 1 := rfl
      rw [e2]
      omega
    | false =>
      have := hg.1
      have e2 : fl false = 0 := rfl
      rw [e2]
      omega) (2 * (49 - tot (k0 ns)) + fl true) (k0 ns, true) (Nat.le_refl _) (KI.zero ns)
  exact ⟨n, z, w⟩
theorem Grk.fwFold {ns hol parts : List Sym} {nm : Sym} {kn : List (Sym × List Sym)} {n : Nat} (hk : KI ns kn) : ∀ (l : List (Sym × Nat)) (s : KB), (∀ x ∈ l, isL x.1 = false → x.1 ∈ ns) → KI ns s.1 → Grk n s → Grk n (l.foldl (RN.fwAt nm kn hol parts) s)
  | [], s, _, _, h => h
  | x :: l, s, hl, ki, h => Grk.fwFold hk l _ (fun z hz => hl z (by simp [hz])) (ki.fwAt hk x) (by
    unfold RN.fwAt
    split
    · exact h
    · rename_i e
      exact Grk.fold (hl x (by simp) (by simpa using e)) _ _ (fwBehind_N ki hk) ki h)
theorem Grk.fwSteps {ns hol seen : List Sym} {kn : List (Sym × List Sym)} {n : Nat} (hk : KI ns kn) : ∀ (rs : SG) (s : KB), (∀ r ∈ rs, ∀ p ∈ r.2, isL p = false → p ∈ ns) → KI ns s.1 → Grk n s → Grk n (rs.foldl (RN.fwStep kn hol seen) s)
  | [], s, _, _, h => h
  | r :: rs, s, hr, ki, h => Grk.fwSteps hk rs _ (fun q hq => hr q (by simp [hq])) (KI.fwStep hk ki r) (by
    unfold RN.fwStep
    split
    · have q := Grk.fwFold (hol := hol) (parts := r.2) (nm := r.1) (n := tot s.1) hk r.2.zipIdx (s.1, false) (fun x hx hl => hr r (by simp) x.1 (List.fst_mem_of_mem_zipIdx hx) hl) ki ⟨Nat.le_refl _, fun e => nomatch e⟩
      have q1 : tot s.1 ≤ tot (RN.fwRule r.1 kn hol r.2 s.1).1 := q.1
      have q2 : (RN.fwRule r.1 kn hol r.2 s.1).2 = true → tot s.1 < tot (RN.fwRule r.1 kn hol r.2 s.1).1 := q.2
      have h1 := h.1
      refine ⟨by show n ≤ tot (RN.fwRule r.1 kn hol r.2 s.1).1; omega, fun e => ?_⟩
      show n < tot (RN.fwRule r.1 kn hol r.2 s.1).1
      have e' : ((RN.fwRule r.1 kn hol r.2 s.1).2 || s.2) = true := e
      simp only [Bool.or_eq_true] at e'
      rcases e' with e' | e'
      · have := q2 e'
        omega
      · have := h.2 e'
        omega
    · exact h)
theorem fw_ends (rs : SG) (kn : List (Sym × List Sym)) (hol seen ns : List Sym) (x : Sym) (made : List Sym) (hn : ns.length ≤ 7) (hk : KI ns kn) (hr : ∀ r ∈ rs, ∀ p ∈ r.2, isL p = false → p ∈ ns) : ∃ n z, FwW rs kn hol seen ns x made n z := by
  by_cases hx : x ∈ made
  · obtain ⟨n, z, w, _⟩ := Wh.exists (c := fun s : KB => s.2) (f := fwPass rs kn hol seen) (fun s => KI ns s.1) (fun s => 2 * (49 - tot s.1) + fl s.2) (fun s hs hc => by
      have hk2 := KI.fwSteps (hol := hol) (seen := seen) hk rs (s.1, false) hs
      have hg := Grk.fwSteps (hol := hol) (seen := seen) (n := tot s.1) hk rs (s.1, false) hr hs ⟨Nat.le_refl _, fun e => nomatch e⟩
      refine ⟨hk2, ?_⟩
      have h7 := hk2.tot hn
      have hc' : s.2 = true := hc
      show 2 * (49 - tot (fwPass rs kn hol seen s).1) + fl (fwPass rs kn hol seen s).2 < 2 * (49 - tot s.1) + fl s.2
      unfold fwPass
      rw [hc']
      have e1 : fl true = 1 := rfl
      rw [e1]
      cases e : (rs.foldl (RN.fwStep kn hol seen) (s.1, false)).2 with
      | true =>
        have := hg.2 e
        have e2 : fl true = 1 := rfl
        rw [e2]
        omega
      | false =>
        have := hg.1
        have e2 : fl false = 0 := rfl
        rw [e2]
        omega) _ (addAt (k0 ns) x .dot, true) (Nat.le_refl _) ((KI.zero ns).add rfl)
    exact ⟨n, z, by unfold FwW; rw [if_pos hx]; exact w⟩
  · exact ⟨0, _, by unfold FwW; rw [if_neg hx]⟩
/-! weights -/
section
variable {β : Type} (w : β → Nat) (B : Nat)
def wsum (l : List (Sym × β)) : Nat := (l.map fun e => w e.2).sum
def wM (l : List (Sym × β)) : Nat := wsum w l + (3 - l.length) * B
theorem wsum_cons (e : Sym × β) (l : List (Sym × β)) : wsum w (e :: l) = w e.2 + wsum w l := by unfold wsum; rw [List.map_cons, List.sum_cons]
theorem wsum_app (l m : List (Sym × β)) : wsum w (l ++ m) = wsum w l + wsum w m := by unfold wsum; rw [List.map_append, List.sum_append]
theorem wsum_put (x : Sym) (y : β) : ∀ (l : List (Sym × β)), (l.map (·.1)).Nodup → (x ∉ l.map (·.1) → l.map (fun e => if e.1 = x then (e.1, y) else e) = l) ∧ (∀ old, getA l x = some old → wsum w (l.map fun e => if e.1 = x then (e.1, y) else e) + w old = wsum w l + w y)
  | [], _ => ⟨fun _ => rfl, fun old h => by cases h⟩
  | e :: l, hn => by
    rw [List.map_cons, List.nodup_cons] at hn
    obtain ⟨h1, h2⟩ := wsum_put x y l hn.2
    refine ⟨fun hx => ?_, fun old ho => ?_⟩
    · rw [List.map_cons, List.mem_cons, not_or] at hx
      rw [List.map_cons, if_neg (Ne.symm hx.1), h1 hx.2]
    · by_cases he : e.1 = x
      · have eo : getA (e :: l) x = some e.2 := by unfold getA; simp [he]
        rw [eo] at ho
        cases ho
        rw [List.map_cons, if_pos he, h1 (by rw [← he]; exact hn.1), wsum_cons, wsum_cons]
        show w y + wsum w l + w e.2 = w e.2 + wsum w l + w y
        omega
      · have eo : getA (e :: l) x = getA l x := by unfold getA; simp [he]
        rw [eo] at ho
        have := h2 old ho
        rw [List.map_cons, if_neg he, wsum_cons, wsum_cons]
        omega
theorem wM_upd {l : List (Sym × β)} {x : Sym} {y old : β} (hn : (l.map (·.1)).Nodup) (h : getA l x = some old) (hw : w y < w old) : wM w B (putA l x y) < wM w B l := by
  have := (wsum_put w x y l hn).2 old h
  have e : putA l x y = l.map fun e => if e.1 = x then (e.1, y) else e := by
    unfold putA
    rw [any_getA, h]
    rfl
  unfold wM
  rw [e, List.length_map]
  omega
theorem wM_new {l : List (Sym × β)} {x : Sym} {y : β} (h : getA l x = none) (hw : w y < B) (hl : l.length < 3) : wM w B (putA l x y) < wM w B l := by
  unfold wM putA
  rw [any_getA, h, if_neg (by simp), wsum_app, wsum_cons, List.length_append, List.length_singleton]
  have e : (3 - l.length) = (3 - (l.length + 1)) + 1 := by omega
  rw [e, Nat.add_mul, Nat.one_mul]
  show wsum w l + (w y + 0) + _ < _
  omega
end
/-! numbers of texts -/
def tv : List Sym → Nat
  | [] => 0
  | x :: t => idx x * 4 ^ t.length + tv t
theorem idx_L {x : Sym} (h : isL x = true) : 1 ≤ idx x ∧ idx x ≤ 3 := by cases x <;> first | decide | cases h
theorem tv_lt : ∀ {t : List Sym}, (∀ x ∈ t, isL x = true) → tv t < 4 ^ t.length
  | [], _ => by simp [tv]
  | x :: t, h => by
    have ih := tv_lt (t := t) fun y hy => h y (by simp [hy])
    have hx := (idx_L (h x (by simp))).2
    rw [tv, List.length_cons, Nat.pow_succ]
    have := Nat.mul_le_mul_right (4 ^ t.length) hx
    omega
theorem tv_ge {x : Sym} {t : List Sym} (h : ∀ y ∈ x :: t, isL y = true) : 4 ^ t.length ≤ tv (x :: t) := by
  have hx := (idx_L (h x (by simp))).1
  rw [tv]
  have := Nat.mul_le_mul_right (4 ^ t.length) hx
  omega
theorem tv_lex : ∀ {x y : List Sym}, (∀ z ∈ x, isL z = true) → (∀ z ∈ y, isL z = true) → x.length = y.length → x.map idx < y.map idx → tv x < tv y
  | [], [], _, _, _, h => by simp at h
  | [], _ :: _, _, _, e, _ => by simp at e
  | _ :: _, [], _, _, e, _ => by simp at e
  | p :: x, q :: y, h1, h2, e, h => by
    have e' : x.length = y.length := by simpa using e
    have hx := tv_lt (t := x) fun z hz => h1 z (by simp [hz])
    rw [List.map_cons, List.map_cons, List.cons_lt_cons_iff] at h
    rw [tv, tv]
    rcases h with h | ⟨h, h'⟩
    · have := Nat.mul_le_mul_right (4 ^ x.length) (show idx p + 1 ≤ idx q from h)
      rw [Nat.add_mul, Nat.one_mul] at this
      rw [← e']
      omega
    · have ih := tv_lex (x := x) (y := y) (fun z hz => h1 z (by simp [hz])) (fun z hz => h2 z (by simp [hz])) e' h'
      rw [h, e']
      omega
theorem tv_less {x y : List Sym} (hx : ∀ z ∈ x, isL z = true) (hy : ∀ z ∈ y, isL z = true) (h : lessL x y = true) : tv x < tv y := by
  unfold lessL at h
  split at h
  · rename_i e
    exact tv_lex hx hy e (of_decide_eq_true h)
  · have hl := of_decide_eq_true h
    cases y with
    | nil => simp at hl
    | cons q y =>
      have h1 := tv_lt hx
      have h2 := tv_ge hy
      rw [List.length_cons] at hl
      have h3 : 4 ^ x.length ≤ 4 ^ y.length := Nat.pow_le_pow_right (by decide) (by omega)
      omega
def Big (B : Nat) : Prop := ∀ t : List Sym, (∀ x ∈ t, isL x = true) → t.length ≤ 1296 → tv t < B
theorem big_ex : ∃ B, Big B := by
  obtain ⟨k, hk⟩ : ∃ k, k = 1296 := ⟨_, rfl⟩
  refine ⟨4 ^ k, fun t h hl => ?_⟩
  have h1 := tv_lt h
  have h2 : 4 ^ t.length ≤ 4 ^ k := Nat.pow_le_pow_right (by decide) (by omega)
  omega
theorem leStep_M {bigB : Nat} (tv_big : Big bigB) {s : List (Sym × List Sym) × Bool} {r : Sym × List Sym} (hr : RuleOk r) (h : LI s.1) {n : Nat} (hm : wM tv bigB s.1 ≤ n ∧ (s.2 = true → wM tv bigB s.1 < n)) : wM tv bigB (leStep s r).1 ≤ n ∧ ((leStep s r).2 = true → wM tv bigB (leStep s r).1 < n) := by
  have hI := leStep_I hr h
  unfold leStep at hI ⊢
  split
  · rename_i e
    rw [if_pos e] at hI
    split
    · rename_i hc
      rw [if_pos hc] at hI
      have st := subT_ok h hr.2.1
      have key : wM tv bigB (putA s.1 r.1 (subT s.1 r.2)) < wM tv bigB s.1 := by
        cases eg : getA s.1 r.1 with
        | none =>
          refine wM_new tv bigB eg (tv_big _ st.1 (subT_300 h hr.2.1)) ?_
          have h3 : (putA s.1 r.1 (subT s.1 r.2)).length ≤ 3 := hI.len
          rw [putA_len, eg] at h3
          simp at h3
          omega
        | some t =>
          rw [eg] at hc
          simp only [Option.isSome_some, Bool.not_true, Bool.false_or, Option.getD_some] at hc
          exact wM_upd tv bigB h.nd eg (tv_less st.1 (h.tx _ (getA_mem eg)).1 hc)
      have := hm.1
      exact ⟨by show wM tv bigB (putA s.1 r.1 (subT s.1 r.2)) ≤ n; omega, fun _ => by show wM tv bigB (putA s.1 r.1 (subT s.1 r.2)) < n; omega⟩
    · exact hm
  · exact hm
theorem leFold_M {bigB : Nat} (tv_big : Big bigB) {n : Nat} : ∀ (g : SG) (s : List (Sym × List Sym) × Bool), (∀ r ∈ g, RuleOk r) → LI s.1 → (wM tv bigB s.1 ≤ n ∧ (s.2 = true → wM tv bigB s.1 < n)) → (wM tv bigB (g.foldl leStep s).1 ≤ n ∧ ((g.foldl leStep s).2 = true → wM tv bigB (g.foldl leStep s).1 < n))
  | [], s, _, _, h => h
  | r :: g, s, hr, hi, h => leFold_M tv_big g _ (fun q hq => hr q (by simp [hq])) (leStep_I (hr r (by simp)) hi) (leStep_M tv_big (hr r (by simp)) hi h)
theorem le_ends (g : SG) (hr : ∀ r ∈ g, RuleOk r) : ∃ n z, LeW g n z := by
  obtain ⟨bigB, tv_big⟩ := big_ex
  obtain ⟨n, z, w, _⟩ := Wh.exists (c := fun s : List (Sym × List Sym) × Bool => s.2) (f := lePass g) (fun s => LI s.1) (fun s => 2 * wM tv bigB s.1 + fl s.2) (fun s hs hc => by
    have hk := leFold_I g (s.1, false) hr hs
    have hg := leFold_M tv_big (n := wM tv bigB s.1) g (s.1, false) hr hs ⟨Nat.le_refl _, fun e => nomatch e⟩
    refine ⟨hk, ?_⟩
    have hc' : s.2 = true := hc
    show 2 * wM tv bigB (lePass g s).1 + fl (lePass g s).2 < 2 * wM tv bigB s.1 + fl s.2
    unfold lePass
    rw [hc']
    have e1 : fl true = 1 := rfl
    rw [e1]
    cases e : (g.foldl leStep (s.1, false)).2 with
    | true =>
      have := hg.2 e
      have e2 : fl true = 1 := rfl
      rw [e2]
      omega
    | false =>
      have := hg.1
      have e2 : fl false = 0 := rfl
      rw [e2]
      omega) _ ([], true) (Nat.le_refl _) LI.nil
  exact ⟨n, z, w⟩
theorem lnStep_M {s : List (Sym × Nat) × Bool} {r : Sym × List Sym} (hr : RuleOk r) (h : NI s.1) {n : Nat} (hm : wM id 2000 s.1 ≤ n ∧ (s.2 = true → wM id 2000 s.1 < n)) : wM id 2000 (lnStep s r).1 ≤ n ∧ ((lnStep s r).2 = true → wM id 2000 (lnStep s r).1 < n) := by
  have hI := lnStep_I hr h
  unfold lnStep at hI ⊢
  split
  · rename_i e
    rw [if_pos e] at hI
    split
    · rename_i hc
      rw [if_pos hc] at hI
      have st := numT_ok h hr.2.1
      have key : wM id 2000 (putA s.1 r.1 (numT s.1 r.2)) < wM id 2000 s.1 := by
        cases eg : getA s.1 r.1 with
        | none =>
          refine wM_new id 2000 eg ?_ ?_
          · have h2 := h.len
            have : 6 ^ (s.1.length + 1) ≤ 6 ^ 4 := Nat.pow_le_pow_right (by decide) (by omega)
            have : (6 : Nat) ^ 4 = 1296 := by decide
            show numT s.1 r.2 < 2000
            omega
          · have h3 : (putA s.1 r.1 (numT s.1 r.2)).length ≤ 3 := hI.len
            rw [putA_len, eg] at h3
            simp at h3
            omega
        | some t =>
          rw [eg, Option.getD_some] at hc
          exact wM_upd id 2000 h.nd eg hc
      have := hm.1
      exact ⟨by show wM id 2000 (putA s.1 r.1 (numT s.1 r.2)) ≤ n; omega, fun _ => by show wM id 2000 (putA s.1 r.1 (numT s.1 r.2)) < n; omega⟩
    · exact hm
  · exact hm
theorem lnFold_M {n : Nat} : ∀ (g : SG) (s : List (Sym × Nat) × Bool), (∀ r ∈ g, RuleOk r) → NI s.1 → (wM id 2000 s.1 ≤ n ∧ (s.2 = true → wM id 2000 s.1 < n)) → (wM id 2000 (g.foldl lnStep s).1 ≤ n ∧ ((g.foldl lnStep s).2 = true → wM id 2000 (g.foldl lnStep s).1 < n))
  | [], s, _, _, h => h
  | r :: g, s, hr, hi, h => lnFold_M g _ (fun q hq => hr q (by simp [hq])) (lnStep_I (hr r (by simp)) hi) (lnStep_M (hr r (by simp)) hi h)
theorem ln_ends (g : SG) (hr : ∀ r ∈ g, RuleOk r) : ∃ n z, LnW g n z := by
  obtain ⟨n, z, w, _⟩ := Wh.exists (c := fun s : List (Sym × Nat) × Bool => s.2) (f := lnPass g) (fun s => NI s.1) (fun s => 2 * wM id 2000 s.1 + fl s.2) (fun s hs hc => by
    have hk := lnFold_I g (s.1, false) hr hs
    have hg := lnFold_M (n := wM id 2000 s.1) g (s.1, false) hr hs ⟨Nat.le_refl _, fun e => nomatch e⟩
    refine ⟨hk, ?_⟩
    have hc' : s.2 = true := hc
    show 2 * wM id 2000 (lnPass g s).1 + fl (lnPass g s).2 < 2 * wM id 2000 s.1 + fl s.2
    unfold lnPass
    rw [hc']
    have e1 : fl true = 1 := rfl
    rw [e1]
    cases e : (g.foldl lnStep (s.1, false)).2 with
    | true =>
      have := hg.2 e
      have e2 : fl true = 1 := rfl
      rw [e2]
      omega
    | false =>
      have := hg.1
      have e2 : fl false = 0 := rfl
      rw [e2]
      omega) _ ([], true) (Nat.le_refl _) NI.nil
  exact ⟨n, z, w⟩
theorem Wh.inv2 {σ : Type} {c : σ → Bool} {f : σ → σ} {I : σ → Prop} (h : ∀ s, I s → c s = true → I (f s)) : ∀ {n : Nat} {s t : σ}, Wh c f n s t → I s → I t
  | _, _, _, .stop _, i => i
  | _, _, _, .go e w, i => Wh.inv2 h w (h _ i e)
theorem marks_of {g : SG} (sok : SOk g) : Nonempty (Marks g) := by
  have nl : (namesS g).length ≤ 7 := sym7 (nd_namesS g)
  obtain ⟨n1, m, hm⟩ := mk_ends okM g
  obtain ⟨n2, e, he⟩ := mk_ends okE g
  obtain ⟨n3, rc, hrc⟩ := rc_ends g ((g.head?.map (·.1)).getD .S)
  obtain ⟨n4, rcu, hrcu⟩ := rc_ends (useful g (marked g m.1)) ((g.head?.map (·.1)).getD .S)
  have hsub : ∀ r ∈ useful g (marked g m.1), r ∈ g := fun r h => (List.mem_filter.mp h).1
  obtain ⟨n5, fr, hfr⟩ := fr_ends (useful g (marked g m.1)) (marked g e.1) (namesS g) nl fun r hr => mem_namesS.mpr (List.mem_map.mpr ⟨r, hsub r hr, rfl⟩)
  have ki : KI (namesS g) fr.1 := Wh.inv2 (c := fun s : KB => s.2) (f := frPass (useful g (marked g m.1)) (marked g e.1)) (I := fun s : KB => KI (namesS g) s.1) (fun s h _ => KI.frFold _ _ h) hfr (KI.zero _)
  obtain ⟨n6, fw, hfw⟩ := fw_ends (useful g (marked g m.1)) fr.1 (marked g e.1) rcu.1 (namesS g) ((g.head?.map (·.1)).getD .S) (marked g m.1) nl ki fun r hr p hp hl => by
    rcases sok.closed r (hsub r hr) p hp with q | q
    · rw [hl] at q; cases q
    · exact mem_namesS.mpr q
  obtain ⟨n7, le, hle⟩ := le_ends g sok.rule
  obtain ⟨n8, ln, hln⟩ := ln_ends g sok.rule
  exact ⟨⟨n1, m, hm, n2, e, he, n3, rc, hrc, n4, rcu, hrcu, n5, fr, hfr, n6, fw, hfw, n7, le, hle, n8, ln, hln⟩⟩
end RN

end
section
set_option maxRecDepth 100000
set_option maxHeartbeats 4000000
namespace RN
open PySem Sym
/-! ### the grammar by cells is one -/
def nN (ps : List Sym) : Nat := (ps.filter isN).length
structure LG (f : SG) : Prop where
  nd : f.Nodup
  ok : ∀ r ∈ f, RuleOk r ∧ nN r.2 ≤ 3
theorem sym6_ok (i : Int) : isL (sym6 i) = true ∨ isN (sym6 i) = true := by
  have h : ∀ k : Nat, isL ([Sym.a, .b, .c, .S, .A, .B].getD k .a) = true ∨ isN ([Sym.a, .b, .c, .S, .A, .B].getD k .a) = true := fun k => by
    match k with
    | 0 => exact .inl rfl
    | 1 => exact .inl rfl
    | 2 => exact .inl rfl
    | 3 => exact .inr rfl
    | 4 => exact .inr rfl
    | 5 => exact .inr rfl
    | k + 6 => exact .inl rfl
  exact h _
theorem sym3_ok (i : Int) : isN (sym3 i) = true := by
  have h : ∀ k : Nat, isN ([Sym.S, .A, .B].getD k .S) = true := fun k => by
    match k with
    | 0 => rfl
    | 1 => rfl
    | 2 => rfl
    | k + 3 => rfl
  exact h _
theorem partsBy_ok : ∀ (n : Nat) (i : Int), ∀ p ∈ partsBy n i, isL p = true ∨ isN p = true
  | 0, _, p, h => by simp [partsBy] at h
  | n + 1, i, p, h => by
    rw [partsBy] at h
    rcases List.mem_cons.mp h with e | e
    · rw [e]; exact sym6_ok i
    · exact partsBy_ok n _ p e
theorem ruleBy_ok (c : Int) : RuleOk (ruleBy c) ∧ nN (ruleBy c).2 ≤ 3 := by
  have h4 := modLt (i := c / 3) (m := 4) (by decide)
  have hl : (ruleBy c).2.length = (c / 3 % 4).toNat := partsBy_len _ _
  have hf := List.length_filter_le isN (ruleBy c).2
  refine ⟨⟨sym3_ok c, by omega, partsBy_ok _ _⟩, ?_⟩
  unfold nN
  omega
theorem known_ok (j : Nat) (h : j < 16) : ∀ r ∈ knownS j, RuleOk r ∧ nN r.2 ≤ 3 := by
  have : ∀ j : Fin 16, ∀ r ∈ knownS j.1, (isN r.1 = true ∧ r.2.length ≤ 6 ∧ ∀ p ∈ r.2, isL p = true ∨ isN p = true) ∧ nN r.2 ≤ 3 := by unfold nN; decide +kernel
  exact this ⟨j, h⟩
theorem mem_usedIn {f : SG} {x : Sym} : 0 < (usedIn f x).length ↔ ∃ r ∈ f, x ∈ r.2 := by
  unfold usedIn
  rw [List.length_pos_iff_exists_mem]
  constructor
  · rintro ⟨r, hr⟩
    obtain ⟨h1, h2⟩ := List.mem_filter.mp hr
    exact ⟨r, h1, of_decide_eq_true h2⟩
  · rintro ⟨r, h1, h2⟩
    exact ⟨r, List.mem_filter.mpr ⟨h1, decide_eq_true h2⟩⟩
theorem mem_hasOf {f : SG} {x : Sym} : (hasOf f x).length = 0 ↔ ¬ ∃ r ∈ f, r.1 = x := by
  unfold hasOf
  rw [List.length_eq_zero_iff, List.filter_eq_nil_iff]
  constructor
  · rintro h ⟨r, hr, e⟩
    exact h r hr (decide_eq_true e)
  · intro h r hr e
    exact h ⟨r, hr, of_decide_eq_true e⟩
theorem clos_L (x : Sym) : isL (clos x) = true := by cases x <;> rfl
theorem closeStep_LG {f : SG} {x : Sym} (hx : isN x = true) (h : LG f) : LG (closeStep f x) := by
  unfold closeStep
  split
  · rename_i e
    simp only [Bool.and_eq_true, decide_eq_true_eq] at e
    have hn := mem_hasOf.mp e.2
    refine ⟨List.nodup_append.mpr ⟨h.nd, by simp, fun r hr q hq z => ?_⟩, fun r hr => ?_⟩
    · have : q = (x, [clos x]) := by simpa using hq
      subst this
      subst z
      exact hn ⟨_, hr, rfl⟩
    · rcases List.mem_append.mp hr with q | q
      · exact h.ok r q
      · have : r = (x, [clos x]) := by simpa using q
        subst this
        refine ⟨⟨hx, by simp, fun p hp => ?_⟩, ?_⟩
        · have : p = clos x := by simpa using hp
          rw [this]
          exact .inl (clos_L x)
        · have := List.length_filter_le isN [clos x]
          unfold nN
          show ([clos x].filter isN).length ≤ 3
          simp at this
          omega
  · exact h
def Cl (f : SG) (x : Sym) : Prop := (∃ r ∈ f, x ∈ r.2) → ∃ r ∈ f, r.1 = x
theorem closeStep_self (f : SG) {x : Sym} (hx : isN x = true) : Cl (closeStep f x) x := by
  unfold closeStep
  split
  · exact fun _ => ⟨(x, [clos x]), by simp, rfl⟩
  · rename_i e
    simp only [Bool.and_eq_true, decide_eq_true_eq, not_and] at e
    intro hu
    have := e (mem_usedIn.mpr hu)
    exact Classical.byContradiction fun z => this (mem_hasOf.mpr z)
theorem closeStep_keep {f : SG} {x y : Sym} (hy : isN y = true) (h : Cl f y) : Cl (closeStep f x) y := by
  unfold closeStep
  split
  · rintro ⟨r, hr, hm⟩
    rcases List.mem_append.mp hr with q | q
    · obtain ⟨r', h1, h2⟩ := h ⟨r, q, hm⟩
      exact ⟨r', List.mem_append.mpr (.inl h1), h2⟩
    · have : r = (x, [clos x]) := by simpa using q
      subst this
      have e : y = clos x := by simpa using hm
      have := isN_of_isL (clos_L x)
      rw [← e, hy] at this
      cases this
  · exact h
theorem lawG_ok (ns : List Int) : SOk (lawG ns) ∧ ∀ r ∈ lawG ns, nN r.2 ≤ 3 := by
  have hm := manyOf_le (cellAt ns 0)
  have hst : ∀ r ∈ startOf (cellAt ns 0) ++ rulesFrom ns 1 (manyOf (cellAt ns 0)), RuleOk r ∧ nN r.2 ≤ 3 := by
    intro r hr
    rcases List.mem_append.mp hr with q | q
    · unfold startOf at q
      split at q
      · simp at q
      · exact known_ok _ (modLt (i := cellAt ns 0 / 2) (m := 16) (by decide)) r q
    · unfold rulesFrom at q
      obtain ⟨k, _, rfl⟩ := List.mem_map.mp q
      exact ruleBy_ok _
  have hlen : (startOf (cellAt ns 0) ++ rulesFrom ns 1 (manyOf (cellAt ns 0))).length ≤ 10 := by
    rw [List.length_append]
    have h1 : (startOf (cellAt ns 0)).length ≤ 6 := by
      unfold startOf
      split
      · simp
      · exact (kws_ok _ (modLt (i := cellAt ns 0 / 2) (m := 16) (by decide))).2.2.1
    unfold rulesFrom
    rw [List.length_map, List.length_range]
    omega
  have hne : startOf (cellAt ns 0) ++ rulesFrom ns 1 (manyOf (cellAt ns 0)) ≠ [] := by
    intro e
    obtain ⟨e1, e2⟩ := List.append_eq_nil_iff.mp e
    unfold startOf at e1
    split at e1
    · rename_i hc
      unfold rulesFrom manyOf at e2
      rw [if_pos hc] at e2
      have := congrArg List.length e2
      rw [List.length_map, List.length_range] at this
      simp at this
    · exact (kws_ok _ (modLt (i := cellAt ns 0 / 2) (m := 16) (by decide))).2.1 e1
  have eL : lawG ns = closeStep (closeStep (closeStep (dedup (startOf (cellAt ns 0) ++ rulesFrom ns 1 (manyOf (cellAt ns 0)))) .S) .A) .B := rfl
  rw [eL]
  generalize startOf (cellAt ns 0) ++ rulesFrom ns 1 (manyOf (cellAt ns 0)) = rs at *
  have mem_d : ∀ r, r ∈ dedup rs ↔ r ∈ rs := fun r => by
    unfold dedup
    rw [foldl_addN_mem]
    simp
  have l0 : LG (dedup rs) := ⟨foldl_addN_nd _ _ List.nodup_nil, fun r hr => hst r ((mem_d r).mp hr)⟩
  have l1 := closeStep_LG (x := .S) rfl l0
  have l2 := closeStep_LG (x := .A) rfl l1
  have l3 := closeStep_LG (x := .B) rfl l2
  have c1 := closeStep_self (dedup rs) (x := .S) rfl
  have c2 := closeStep_keep (x := .B) rfl (closeStep_keep (x := .A) (y := .S) rfl c1)
  have c3 := closeStep_keep (x := .B) (y := .A) rfl (closeStep_self (closeStep (dedup rs) .S) (x := .A) rfl)
  have c4 := closeStep_self (closeStep (closeStep (dedup rs) .S) .A) (x := .B) rfl
  have len0 : (dedup rs).length ≤ 10 := by
    have := foldl_addN_len rs ([] : SG)
    have e : (dedup rs).length ≤ ([] : SG).length + rs.length := this
    simp at e
    omega
  have len1 := closeStep_len (dedup rs) .S
  have len2 := closeStep_len (closeStep (dedup rs) .S) .A
  have len3 := closeStep_len (closeStep (closeStep (dedup rs) .S) .A) .B
  have mono : ∀ (f : SG) (x : Sym) (r : Sym × List Sym), r ∈ f → r ∈ closeStep f x := fun f x r h => by
    unfold closeStep
    split
    · exact List.mem_append.mpr (.inl h)
    · exact h
  refine ⟨⟨?_, by omega, l3.nd, fun r hr => (l3.ok r hr).1, fun r hr p hp => ?_⟩, fun r hr => (l3.ok r hr).2⟩
  · cases e : rs with
    | nil => exact absurd e hne
    | cons r rs' =>
      have h1 : r ∈ dedup rs := (mem_d r).mpr (by rw [e]; simp)
      have h2 := mono _ .B _ (mono _ .A _ (mono _ .S _ h1))
      rw [← e]
      exact List.ne_nil_of_mem h2
  · rcases (l3.ok r hr).1.2.2 p hp with q | q
    · exact .inl q
    · right
      have : ∃ r' ∈ closeStep (closeStep (closeStep (dedup rs) .S) .A) .B, r'.1 = p := by
        cases p with
        | S => exact c2 ⟨r, hr, hp⟩
        | A => exact c3 ⟨r, hr, hp⟩
        | B => exact c4 ⟨r, hr, hp⟩
        | a => cases q
        | b => cases q
        | c => cases q
        | dot => cases q
      obtain ⟨r', h1, h2⟩ := this
      exact List.mem_map.mpr ⟨r', h1, h2⟩

/-! ### heights -/
theorem getA_put {β : Type} (l : List (Sym × β)) (x z : Sym) (y : β) : getA (putA l x y) z = if z = x then some y else getA l z := by
  unfold putA
  rw [any_getA]
  by_cases h : (getA l x).isSome = true
  · rw [if_pos h]
    have key : ∀ l : List (Sym × β), (z = x → (getA l x).isSome = true) → getA (l.map fun e => if e.1 = x then (e.1, y) else e) z = if z = x then some y else getA l z := by
      intro l
      induction l with
      | nil =>
        intro hs
        by_cases hz : z = x
        · have := hs hz
          cases this
        · rw [if_neg hz]
          rfl
      | cons e l ih =>
        intro hs
        by_cases he : e.1 = x
        · by_cases hz : z = x
          · rw [if_pos hz, List.map_cons, if_pos he]
            unfold getA
            rw [List.find?_cons]
            simp [he, hz]
          · rw [if_neg hz, List.map_cons, if_pos he]
            have e1 : getA (e :: l) z = getA l z := by unfold getA; rw [List.find?_cons]; simp [he, Ne.symm hz]
            have e2 : getA ((e.1, y) :: l.map fun e => if e.1 = x then (e.1, y) else e) z = getA (l.map fun e => if e.1 = x then (e.1, y) else e) z := by unfold getA; rw [List.find?_cons]; simp [he, Ne.symm hz]
            rw [e1, e2, ih fun q => absurd q hz, if_neg hz]
        · rw [List.map_cons, if_neg he]
          by_cases hz : e.1 = z
          · have e1 : ∀ m : List (Sym × β), getA (e :: m) z = some e.2 := fun m => by unfold getA; rw [List.find?_cons]; simp [hz]
            rw [e1, e1, if_neg (fun q => he (hz.trans q))]
          · have e1 : ∀ m : List (Sym × β), getA (e :: m) z = getA m z := fun m => by unfold getA; rw [List.find?_cons]; simp [hz]
            rw [e1, e1]
            refine ih fun q => ?_
            have := hs q
            rw [← q, e1] at this
            rw [← q]
            exact this
    exact key l fun _ => h
  · rw [if_neg h]
    have hn : getA l x = none := by
      cases e : getA l x with
      | none => rfl
      | some v => rw [e] at h; exact absurd rfl h
    have app : getA (l ++ [(x, y)]) z = (getA l z).or (if x = z then some y else none) := by
      unfold getA
      rw [List.find?_append]
      cases e : List.find? (fun e => decide (e.1 = z)) l with
      | none =>
        rw [Option.none_or, List.find?_cons]
        by_cases q : x = z
        · simp [q]
        · simp [q]
      | some v => rfl
    rw [app]
    by_cases hz : z = x
    · rw [hz, hn]
      simp
    · rw [if_neg hz, if_neg (Ne.symm hz)]
      cases getA l z <;> rfl
theorem foldr_max_le {N : Nat} : ∀ l : List Nat, l.foldr max 0 ≤ N ↔ ∀ x ∈ l, x ≤ N
  | [] => by simp
  | x :: l => by
    rw [List.foldr_cons, Nat.max_le, foldr_max_le l]
    simp
theorem maxH_le {s : List (Sym × Nat)} {ps : List Sym} {N : Nat} : maxH s ps ≤ N ↔ ∀ p ∈ ps, (getA s p).getD 0 ≤ N := by
  unfold maxH
  rw [foldr_max_le]
  simp
structure HV (g : SG) (s : List (Sym × Nat)) : Prop where
  nd : (s.map (·.1)).Nodup
  keys : ∀ e ∈ s, isL e.1 = true ∨ isN e.1 = true
  low : ∀ x, isL x = true → getA s x = some 0
  len : ∀ x n, getA s x = some n → n + 3 ≤ s.length
  rule : ∀ x n, getA s x = some n → isN x = true → ∃ r ∈ g, r.1 = x ∧ okH s r.2 = true ∧ 1 + maxH s r.2 ≤ n
theorem HV.step {g : SG} {s : List (Sym × Nat)} {r : Sym × List Sym} (h : HV g s) (hr : r ∈ g) (ok : RuleOk r) : HV g (htStep s r) := by
  unfold htStep
  split
  · rename_i e
    have hN := ok.1
    have h3 : 3 ≤ s.length := by have := h.len .a 0 (h.low .a rfl); omega
    -- parts' values
    have val : ∀ p ∈ r.2, ∃ m, getA s p = some m := fun p hp => okH_at e hp
    have hmax : maxH s r.2 + 3 ≤ s.length := by
      have : maxH s r.2 ≤ s.length - 3 := maxH_le.mpr fun p hp => by
        obtain ⟨m, hm⟩ := val p hp
        have := h.len p m hm
        rw [hm]
        show m ≤ _
        omega
      omega
    generalize hh : min (1 + maxH s r.2) ((getA s r.1).getD (1 + maxH s r.2)) = h'
    have hle : h' ≤ 1 + maxH s r.2 := by omega
    have down : ∀ z n, getA s z = some n → ∃ n', getA (putA s r.1 h') z = some n' ∧ n' ≤ n := fun z n hz => by
      rw [getA_put]
      by_cases q : z = r.1
      · rw [if_pos q]
        refine ⟨h', rfl, ?_⟩
        rw [q] at hz
        rw [hz, Option.getD_some] at hh
        omega
      · rw [if_neg q]
        exact ⟨n, hz, Nat.le_refl _⟩
    have okm : ∀ ps, okH s ps = true → okH (putA s r.1 h') ps = true ∧ maxH (putA s r.1 h') ps ≤ maxH s ps := fun ps hp => by
      refine ⟨List.all_eq_true.mpr fun p hpm => ?_, maxH_le.mpr fun p hpm => ?_⟩
      · obtain ⟨m, hm⟩ := okH_at hp hpm
        obtain ⟨n', h1, _⟩ := down p m hm
        rw [h1]
        rfl
      · obtain ⟨m, hm⟩ := okH_at hp hpm
        obtain ⟨n', h1, h2⟩ := down p m hm
        have := maxH_le.mp (Nat.le_refl (maxH s ps)) p hpm
        rw [hm, Option.getD_some] at this
        rw [h1, Option.getD_some]
        omega
    refine ⟨by rw [putA_keys]; exact nd_addN h.nd, fun e he => ?_, fun x hx => ?_, fun x n hx => ?_, fun x n hx hxN => ?_⟩
    · rcases putA_mem he with q | q
      · exact h.keys e q
      · rw [q]; exact .inr hN
    · rw [getA_put, if_neg (fun q => by rw [q] at hx; have := isN_of_isL hx; rw [hN] at this; cases this)]
      exact h.low x hx
    · rw [getA_put] at hx
      rw [putA_len]
      by_cases q : x = r.1
      · rw [if_pos q] at hx
        cases hx
        cases ho : getA s r.1 with
        | none => rw [if_neg (by simp)]; omega
        | some old =>
          rw [ho, Option.getD_some] at hh
          have := h.len r.1 old ho
          split <;> omega
      · rw [if_neg q] at hx
        have := h.len x n hx
        split <;> omega
    · rw [getA_put] at hx
      by_cases q : x = r.1
      · rw [if_pos q] at hx
        cases hx
        obtain ⟨o1, o2⟩ := okm r.2 e
        cases ho : getA s r.1 with
        | none =>
          rw [ho, Option.getD_none] at hh
          exact ⟨r, hr, q.symm, o1, by omega⟩
        | some old =>
          rw [ho, Option.getD_some] at hh
          by_cases hc : 1 + maxH s r.2 ≤ old
          · exact ⟨r, hr, q.symm, o1, by omega⟩
          · obtain ⟨r', h1, h2, h3', h4⟩ := h.rule r.1 old ho hN
            obtain ⟨p1, p2⟩ := okm r'.2 h3'
            exact ⟨r', h1, h2.trans q.symm, p1, by omega⟩
      · rw [if_neg q] at hx
        obtain ⟨r', h1, h2, h3', h4⟩ := h.rule x n hx hxN
        obtain ⟨p1, p2⟩ := okm r'.2 h3'
        exact ⟨r', h1, h2, p1, by omega⟩
  · exact h
theorem HV.pass {g : SG} : ∀ (l : SG) (s : List (Sym × Nat)), (∀ r ∈ l, r ∈ g ∧ RuleOk r) → HV g s → HV g (l.foldl htStep s)
  | [], s, _, h => h
  | r :: l, s, hl, h => HV.pass l _ (fun q hq => hl q (by simp [hq])) (h.step (hl r (by simp)).1 (hl r (by simp)).2)
theorem HV.zero (g : SG) : HV g hs0 := by
  refine ⟨by decide, by decide, fun x hx => (by cases x <;> first | rfl | cases hx), fun x n hx => ?_, fun x n hx hN => ?_⟩
  · have := getA_mem hx
    simp [hs0] at this
    rcases this with h | h | h <;> (rw [h.2]; decide)
  · cases x <;> first | (cases hx; done) | (cases hN; done)
theorem HV.turns {g : SG} (hg : ∀ r ∈ g, RuleOk r) : ∀ (l : List Nat) (s : List (Sym × Nat)), HV g s → HV g (l.foldl (fun s _ => htPass g s) s)
  | [], s, h => h
  | k :: l, s, h => HV.turns hg l _ (HV.pass g s (fun r hr => ⟨hr, hg r hr⟩) h)
theorem HV.heights {g : SG} (hg : ∀ r ∈ g, RuleOk r) : HV g (heights g) := HV.turns hg _ _ (HV.zero g)
theorem HV.le3 {g : SG} {s : List (Sym × Nat)} (h : HV g s) {x : Sym} {n : Nat} (hx : getA s x = some n) : n ≤ 3 := by
  have h1 := h.len x n hx
  have h2 : (s.map (·.1)).length ≤ 6 := by
    have := List.Nodup.length_le_of_subset (l₂ := [.a, .b, .c, .A, .B, .S]) h.nd (fun x hx => by
      obtain ⟨e, he, rfl⟩ := List.mem_map.mp hx
      have := h.keys e he
      cases q : e.1 <;> rw [q] at this <;> simp_all [isL, isN])
    simpa using this
  rw [List.length_map] at h2
  omega
theorem HV.LN {g : SG} {s : List (Sym × Nat)} (h : HV g s) {x : Sym} {n : Nat} (hx : getA s x = some n) : isL x = true ∨ isN x = true := h.keys _ (getA_mem hx)
/-- the rule that is taken -/
theorem HV.pick {ns : List Int} {g : SG} {s : List (Sym × Nat)} (h : HV g s) {x : Sym} {n : Nat} (hx : getA s x = some n) (hN : isN x = true) (fuel : Int) (sp : Nat) :
    ∃ hh k r, pickOf ns g s x fuel sp = some (hh, k) ∧ g[k]? = some r ∧ r.1 = x ∧ okH s r.2 = true ∧ (fuel < 1 → 1 + maxH s r.2 ≤ n) := by
  obtain ⟨r0, h1, h2, h3, h4⟩ := h.rule x n hx hN
  have memc : ∀ e, e ∈ cells g s x ↔ ∃ q : (Sym × List Sym) × Nat, g[q.2]? = some q.1 ∧ q.1.1 = x ∧ okH s q.1.2 = true ∧ e = (maxH s q.1.2, q.2) := fun e => by
    unfold cells sortP
    rw [(List.mergeSort_perm _ lePr).mem_iff]
    unfold candOf
    rw [List.mem_map]
    constructor
    · rintro ⟨q, hq, rfl⟩
      obtain ⟨q1, q2⟩ := List.mem_filter.mp hq
      unfold candOk at q2
      simp only [Bool.and_eq_true, decide_eq_true_eq] at q2
      exact ⟨q, List.mem_zipIdx_iff_getElem?.mp q1, q2.1, q2.2, rfl⟩
    · rintro ⟨q, q1, q2, q3, rfl⟩
      refine ⟨q, List.mem_filter.mpr ⟨List.mem_zipIdx_iff_getElem?.mpr q1, ?_⟩, rfl⟩
      unfold candOk
      simp only [Bool.and_eq_true, decide_eq_true_eq]
      exact ⟨q2, q3⟩
  obtain ⟨j, hj, ej⟩ := List.getElem_of_mem h1
  have hr0 : (maxH s r0.2, j) ∈ cells g s x := (memc _).mpr ⟨(r0, j), by show g[j]? = some r0; rw [List.getElem?_eq_getElem hj, ej], h2, h3, rfl⟩
  have hpos : 0 < (cells g s x).length := List.length_pos_of_mem hr0
  have hidx : (cellFor ns fuel sp % ((cells g s x).length : Int)).toNat < (cells g s x).length := by
    have := modLt (i := cellFor ns fuel sp) (m := ((cells g s x).length : Int)) (by omega)
    omega
  obtain ⟨e, he⟩ : ∃ e, (cells g s x)[(cellFor ns fuel sp % ((cells g s x).length : Int)).toNat]? = some e := ⟨_, List.getElem?_eq_getElem hidx⟩
  obtain ⟨q, q1, q2, q3, q4⟩ := (memc e).mp (List.mem_of_getElem? he)
  refine ⟨e.1, e.2, q.1, by unfold pickOf; rw [he], by rw [q4]; exact q1, q2, q3, fun hf => ?_⟩
  have ec : cellFor ns fuel sp = 0 := by unfold cellFor; rw [if_pos hf]
  rw [ec, Int.zero_emod] at he
  have hsort : (cells g s x).Pairwise fun p q => lePr p q = true := List.pairwise_mergeSort (le := lePr) lePr_trans lePr_total _
  have he0 : (cells g s x)[0]? = some e := he
  generalize cells g s x = cl at *
  cases cl with
  | nil => simp at he0
  | cons c0 cl =>
    have : c0 = e := by simpa using he0
    subst this
    have key : c0.1 ≤ maxH s r0.2 := by
      rcases List.mem_cons.mp hr0 with z | z
      · rw [← z]
        exact Nat.le_refl _
      · have := (List.pairwise_cons.mp hsort).1 _ z
        unfold lePr at this
        simp only [Bool.or_eq_true, Bool.and_eq_true, decide_eq_true_eq] at this
        omega
    rw [q4] at key
    have key' : maxH s q.1.2 ≤ maxH s r0.2 := key
    omega
def cA : Nat → Nat
  | 0 => 0
  | h + 1 => 1 + 3 * cA h
theorem nN_cons (p : Sym) (ps : List Sym) : nN (p :: ps) = (if isN p = true then 1 else 0) + nN ps := by
  unfold nN
  rw [List.filter_cons]
  split
  · rw [List.length_cons]; omega
  · omega
theorem grow_list {ns : List Int} {g : SG} {s : List (Sym × Nat)} (h : Nat) (hv : HV g s)
    (one : ∀ x n, getA s x = some n → n ≤ h → ∀ (fuel : Int) (sp : Nat), fuel < 1 → ∃ t sp', Grw ns g s fuel x sp t sp' ∧ Okt g x t ∧ cntT t ≤ cA h ∧ depT t ≤ h) :
    ∀ (ps : List Sym), (∀ p ∈ ps, ∃ m, getA s p = some m ∧ m ≤ h) → ∀ (fuel : Int) (sp : Nat), fuel < 1 → ∃ l sp', Grws ns g s fuel ps sp l sp' ∧ Okts g ps l ∧ cntL l ≤ nN ps * cA h ∧ depL l ≤ h
  | [], _, fuel, sp, _ => ⟨[], sp, .nil, .nil, by simp [cntL], by simp [depL]⟩
  | p :: ps, hp, fuel, sp, hf => by
    obtain ⟨m, hm, hmh⟩ := hp p (by simp)
    rw [nN_cons]
    rcases hv.LN hm with hL | hN
    · obtain ⟨l, sp', w1, w2, w3, w4⟩ := grow_list h hv one ps (fun q hq => hp q (by simp [hq])) (fuel - 1) sp (by omega)
      refine ⟨.leaf p :: l, sp', .cons (.leaf hL) w1, .cons (.leaf hL) w2, ?_, ?_⟩
      · rw [cntL, cntT, isN_of_isL hL, if_neg (by decide), Nat.zero_add, Nat.zero_add]
        exact w3
      · rw [depL, depT]
        omega
    · obtain ⟨t, sp1, t1, t2, t3, t4⟩ := one p m hm hmh fuel sp hf
      obtain ⟨l, sp', w1, w2, w3, w4⟩ := grow_list h hv one ps (fun q hq => hp q (by simp [hq])) (fuel - 1) sp1 (by omega)
      refine ⟨t :: l, sp', .cons t1 w1, .cons t2 w2, ?_, ?_⟩
      · rw [cntL, hN, if_pos rfl, Nat.add_mul, Nat.one_mul]
        omega
      · rw [depL]
        omega
theorem grow_one {ns : List Int} {g : SG} {s : List (Sym × Nat)} (hv : HV g s) (h3 : ∀ r ∈ g, nN r.2 ≤ 3) : ∀ (h : Nat) (x : Sym) (n : Nat), getA s x = some n → n ≤ h → ∀ (fuel : Int) (sp : Nat), fuel < 1 → ∃ t sp', Grw ns g s fuel x sp t sp' ∧ Okt g x t ∧ cntT t ≤ cA h ∧ depT t ≤ h
  | 0, x, n, hx, hn, fuel, sp, hf => by
    rcases hv.LN hx with hL | hN
    · exact ⟨.leaf x, sp, .leaf hL, .leaf hL, by simp [cntT], by simp [depT]⟩
    · obtain ⟨r, _, _, _, h4⟩ := hv.rule x n hx hN
      omega
  | h + 1, x, n, hx, hn, fuel, sp, hf => by
    rcases hv.LN hx with hL | hN
    · exact ⟨.leaf x, sp, .leaf hL, .leaf hL, by simp [cntT], by simp [depT]⟩
    · obtain ⟨hh, k, r, p1, p2, p3, p4, p5⟩ := hv.pick (ns := ns) hx hN fuel sp
      have hm := p5 hf
      have hr := h3 r (List.mem_of_getElem? p2)
      obtain ⟨l, sp', w1, w2, w3, w4⟩ := grow_list h hv (fun x n hx hn => grow_one hv h3 h x n hx hn) r.2 (fun p hp => by
        obtain ⟨m, hm2⟩ := okH_at p4 hp
        have := maxH_le.mp (Nat.le_refl (maxH s r.2)) p hp
        rw [hm2, Option.getD_some] at this
        exact ⟨m, hm2, by omega⟩) (fuel - 1) (sp + 1) (by omega)
      refine ⟨.node k l, sp', .node hN p1 p2 w1, p3 ▸ .node p2 w2, ?_, ?_⟩
      · rw [cntT, cA]
        have := Nat.mul_le_mul_right (cA h) hr
        omega
      · rw [depT]
        omega
def tB : Nat → Nat
  | 0 => 13 | 1 => 40 | 2 => 67 | _ => 121
def sB : Nat → Nat → Nat
  | _, 0 => 0
  | f, n + 1 => tB f + sB (f - 1) n
def GP (ns : List Int) (g : SG) (s : List (Sym × Nat)) (f : Nat) : Prop := ∀ x n, getA s x = some n → ∀ (fuel : Int) (sp : Nat), fuel ≤ f → ∃ t sp', Grw ns g s fuel x sp t sp' ∧ Okt g x t ∧ cntT t ≤ tB f ∧ depT t ≤ 3 + f
theorem grow_list2 {ns : List Int} {g : SG} {s : List (Sym × Nat)} (hv : HV g s) : ∀ (ps : List Sym) (f : Nat), (∀ f', f' ≤ f → GP ns g s f') → (∀ p ∈ ps, ∃ m, getA s p = some m) → ∀ (fuel : Int) (sp : Nat), fuel ≤ f → ∃ l sp', Grws ns g s fuel ps sp l sp' ∧ Okts g ps l ∧ cntL l ≤ sB f (nN ps) ∧ depL l ≤ 3 + f
  | [], f, _, _, fuel, sp, _ => ⟨[], sp, .nil, .nil, by simp [cntL], by simp [depL]⟩
  | p :: ps, f, hP, hp, fuel, sp, hf => by
    obtain ⟨m, hm⟩ := hp p (by simp)
    rw [nN_cons]
    rcases hv.LN hm with hL | hN
    · obtain ⟨l, sp', w1, w2, w3, w4⟩ := grow_list2 hv ps f hP (fun q hq => hp q (by simp [hq])) (fuel - 1) sp (by omega)
      refine ⟨.leaf p :: l, sp', .cons (.leaf hL) w1, .cons (.leaf hL) w2, ?_, ?_⟩
      · rw [cntL, cntT, isN_of_isL hL, if_neg (by decide), Nat.zero_add, Nat.zero_add]
        exact w3
      · rw [depL, depT]
        omega
    · obtain ⟨t, sp1, t1, t2, t3, t4⟩ := hP f (Nat.le_refl _) p m hm fuel sp hf
      obtain ⟨l, sp', w1, w2, w3, w4⟩ := grow_list2 hv ps (f - 1) (fun f' hf' => hP f' (by omega)) (fun q hq => hp q (by simp [hq])) (fuel - 1) sp1 (by omega)
      refine ⟨t :: l, sp', .cons t1 w1, .cons t2 w2, ?_, ?_⟩
      · rw [cntL, hN, if_pos rfl, Nat.add_comm 1, sB]
        omega
      · rw [depL]
        omega
theorem sB_3 {f n : Nat} (hf : f ≤ 2) (hn : n ≤ 3) : 1 + sB f n ≤ tB (f + 1) := by
  have : ∀ f : Fin 3, ∀ n : Fin 4, 1 + sB f.1 n.1 ≤ tB (f.1 + 1) := by decide
  exact this ⟨f, by omega⟩ ⟨n, by omega⟩
theorem grow_all {ns : List Int} {g : SG} {s : List (Sym × Nat)} (hv : HV g s) (h3 : ∀ r ∈ g, nN r.2 ≤ 3) : ∀ f, f ≤ 3 → ∀ f', f' ≤ f → GP ns g s f'
  | 0, _, f', hf' => by
    have e : f' = 0 := by omega
    subst e
    intro x n hx fuel sp hf
    obtain ⟨t, sp', w1, w2, w3, w4⟩ := grow_one (ns := ns) hv h3 3 x n hx (hv.le3 hx) fuel sp (by omega)
    exact ⟨t, sp', w1, w2, w3, w4⟩
  | f + 1, hf3, f', hf' => by
    have ih := grow_all (ns := ns) hv h3 f (by omega)
    rcases Nat.lt_or_ge f' (f + 1) with q | q
    · exact ih f' (by omega)
    · have e : f' = f + 1 := by omega
      subst e
      intro x n hx fuel sp hfu
      rcases hv.LN hx with hL | hN
      · exact ⟨.leaf x, sp, .leaf hL, .leaf hL, by simp [cntT], by simp [depT]⟩
      · obtain ⟨hh, k, r, p1, p2, p3, p4, p5⟩ := hv.pick (ns := ns) hx hN fuel sp
        have hr := h3 r (List.mem_of_getElem? p2)
        obtain ⟨l, sp', w1, w2, w3, w4⟩ := grow_list2 hv r.2 f ih (fun p hp => okH_at p4 hp) (fuel - 1) (sp + 1) (by omega)
        refine ⟨.node k l, sp', .node hN p1 p2 w1, p3 ▸ .node p2 w2, ?_, ?_⟩
        · rw [cntT]
          have := sB_3 (f := f) (n := nN r.2) (by omega) hr
          omega
        · rw [depT]
          omega

/-! ### forms -/
theorem places_mid {pre post : List Sym} {x : Sym} (hx : isL x = false) : places (pre ++ x :: post) = ((List.range pre.length).filter fun k => !isL ((pre ++ x :: post).getD k .dot)) ++ (pre.length :: (((List.range post.length).map (pre.length + 1 + ·)).filter fun k => !isL ((pre ++ x :: post).getD k .dot))) := by
  unfold places
  have e : (pre ++ x :: post).length = (pre.length + 1) + post.length := by rw [List.length_append, List.length_cons]; omega
  rw [e, List.range_add, List.filter_append, List.range_succ, List.filter_append]
  have e2 : (pre ++ x :: post).getD pre.length .dot = x := by
    rw [List.getD_eq_getElem?_getD, List.getElem?_append_right (Nat.le_refl _), Nat.sub_self]
    rfl
  rw [List.filter_cons, e2, hx]
  simp
theorem place_left {pre post : List Sym} {x : Sym} (hx : isL x = false) (hp : ∀ y ∈ pre, isL y = true) : place false (pre ++ x :: post) = some pre.length := by
  have e : ((List.range pre.length).filter fun k => !isL ((pre ++ x :: post).getD k .dot)) = [] := by
    rw [List.filter_eq_nil_iff]
    intro k hk
    have hk' := List.mem_range.mp hk
    rw [List.getD_eq_getElem?_getD, List.getElem?_append_left hk', List.getElem?_eq_getElem hk', Option.getD_some, hp _ (List.getElem_mem hk')]
    decide
  unfold place
  rw [if_neg (by decide), places_mid hx, e]
  rfl
theorem place_right {pre post : List Sym} {x : Sym} (hx : isL x = false) (hp : ∀ y ∈ post, isL y = true) : place true (pre ++ x :: post) = some pre.length := by
  have e : (((List.range post.length).map (pre.length + 1 + ·)).filter fun k => !isL ((pre ++ x :: post).getD k .dot)) = [] := by
    rw [List.filter_eq_nil_iff]
    intro k hk
    obtain ⟨j, hj, rfl⟩ := List.mem_map.mp hk
    have hj' := List.mem_range.mp hj
    rw [List.getD_eq_getElem?_getD, List.getElem?_append_right (by omega)]
    have e3 : pre.length + 1 + j - pre.length = j + 1 := by omega
    rw [e3, List.getElem?_cons_succ, List.getElem?_eq_getElem hj', Option.getD_some, hp _ (List.getElem_mem hj')]
    decide
  unfold place
  rw [if_pos rfl, places_mid hx, e, List.getLast?_append]
  rfl
theorem putF_mid (pre post ps : List Sym) (x : Sym) : putF (pre ++ x :: post) pre.length ps = pre ++ ps ++ post := by
  unfold putF
  rw [List.take_left, ← List.drop_drop, List.drop_left]
  rfl
section
variable {g : SG} (hN : ∀ r ∈ g, isL r.1 = false) (h6 : ∀ r ∈ g, r.2.length ≤ 6)
include hN h6
mutual
theorem unf_left : ∀ {x : Sym} {t : Tr}, Okt g x t → ∀ (pre post : List Sym) (rest : List Nat) (fs : List (List Sym)), (∀ y ∈ pre, isL y = true) → Unf g false (pre ++ ylT t ++ post) rest fs → ∃ fs', Unf g false (pre ++ x :: post) (nmT false t ++ rest) fs'
  | _, _, .leaf h, pre, post, rest, fs, hp, u => by
    rw [ylT] at u
    rw [nmT]
    exact ⟨fs, by simpa using u⟩
  | _, _, .node (n := n) (r := r) (l := l) e h, pre, post, rest, fs, hp, u => by
    rw [ylT] at u
    obtain ⟨fs', u'⟩ := unfs_left h pre post rest fs hp u
    have hx := hN r (List.mem_of_getElem? e)
    refine ⟨putF (pre ++ r.1 :: post) pre.length r.2 :: fs', ?_⟩
    rw [nmT_node]
    exact .cons e (place_left hx hp) (by rw [putF_mid]; exact u')
theorem unfs_left : ∀ {ps : List Sym} {l : List Tr}, Okts g ps l → ∀ (pre post : List Sym) (rest : List Nat) (fs : List (List Sym)), (∀ y ∈ pre, isL y = true) → Unf g false (pre ++ ylL l ++ post) rest fs → ∃ fs', Unf g false (pre ++ ps ++ post) ((l.map (nmT false)).flatten ++ rest) fs'
  | _, _, .nil, pre, post, rest, fs, hp, u => ⟨fs, by rw [ylL] at u; exact u⟩
  | _, _, .cons (x := x) (t := t) (ps := ps) (l := l) h r, pre, post, rest, fs, hp, u => by
    have hy := (Okt.yl h6 h).1
    rw [ylL] at u
    obtain ⟨fs1, u1⟩ := unfs_left r (pre ++ ylT t) post rest fs (fun y hy' => by
      rcases List.mem_append.mp hy' with q | q
      · exact hp y q
      · exact hy y q) (by simpa using u)
    obtain ⟨fs2, u2⟩ := unf_left h pre (ps ++ post) ((l.map (nmT false)).flatten ++ rest) fs1 hp (by simpa using u1)
    exact ⟨fs2, by simpa using u2⟩
end
mutual
theorem unf_right : ∀ {x : Sym} {t : Tr}, Okt g x t → ∀ (pre post : List Sym) (rest : List Nat) (fs : List (List Sym)), (∀ y ∈ post, isL y = true) → Unf g true (pre ++ ylT t ++ post) rest fs → ∃ fs', Unf g true (pre ++ x :: post) (nmT true t ++ rest) fs'
  | _, _, .leaf h, pre, post, rest, fs, hp, u => by
    rw [ylT] at u
    rw [nmT]
    exact ⟨fs, by simpa using u⟩
  | _, _, .node (n := n) (r := r) (l := l) e h, pre, post, rest, fs, hp, u => by
    rw [ylT] at u
    obtain ⟨fs', u'⟩ := unfs_right h pre post rest fs hp u
    have hx := hN r (List.mem_of_getElem? e)
    refine ⟨putF (pre ++ r.1 :: post) pre.length r.2 :: fs', ?_⟩
    rw [nmT_node]
    exact .cons e (place_right hx hp) (by rw [putF_mid]; exact u')
theorem unfs_right : ∀ {ps : List Sym} {l : List Tr}, Okts g ps l → ∀ (pre post : List Sym) (rest : List Nat) (fs : List (List Sym)), (∀ y ∈ post, isL y = true) → Unf g true (pre ++ ylL l ++ post) rest fs → ∃ fs', Unf g true (pre ++ ps ++ post) ((l.reverse.map (nmT true)).flatten ++ rest) fs'
  | _, _, .nil, pre, post, rest, fs, hp, u => ⟨fs, by rw [ylL] at u; exact u⟩
  | _, _, .cons (x := x) (t := t) (ps := ps) (l := l) h r, pre, post, rest, fs, hp, u => by
    have hy := (Okts.yl h6 r).1
    rw [ylL] at u
    obtain ⟨fs1, u1⟩ := unf_right h pre (ylL l ++ post) rest fs (fun y hy' => by
      rcases List.mem_append.mp hy' with q | q
      · exact hy y q
      · exact hp y q) (by simpa using u)
    obtain ⟨fs2, u2⟩ := unfs_right r (pre ++ [x]) post (nmT true t ++ rest) fs1 hp (by simpa using u1)
    exact ⟨fs2, by simpa using u2⟩
end
end
/-! ### the plain law -/
theorem plain_holds : Plain := fun ns => by
  obtain ⟨sok, h3⟩ := lawG_ok ns
  refine ⟨sok, marks_of sok, fun hf => ?_⟩
  have hv := HV.heights sok.rule
  obtain ⟨n, hn⟩ := Option.isSome_iff_exists.mp hf
  obtain ⟨t, sp', w1, w2, w3, w4⟩ := grow_all (ns := ns) hv h3 3 (Nat.le_refl _) 3 (Nat.le_refl _) (first (lawG ns)) n hn 3 (spotG ns) (Int.le_refl _)
  have hc : tB 3 = 121 := rfl
  refine ⟨t, sp', w1, ⟨w2, by omega, by omega⟩, ?_, ?_⟩
  · obtain ⟨fs, u⟩ := unf_left sok.hN sok.h6 w2 [] [] [] [] (by simp) (by simpa using Unf.nil)
    exact ⟨fs, by simpa using u⟩
  · obtain ⟨fs, u⟩ := unf_right sok.hN sok.h6 w2 [] [] [] [] (by simp) (by simpa using Unf.nil)
    exact ⟨fs, by simpa using u⟩
end RN

end
section
set_option maxRecDepth 100000
set_option maxHeartbeats 4000000
namespace RN
open PySem L2
/-! ### behind the top -/
theorem defAt_mk {K : PySem.W.Frag} {h : Heap} {mg : Str → Option Value} {x : Str} {st : Stmt} {ps : List Str} {f : Addr} {od an : Option Addr} {sl : Array (Option Value)} {oc kV dc pm cd ct : Value} (X : K.In h) (G : h.Ns mainGlobals mg)
    (b : ∀ {K : PySem.W.Frag} {f : Addr} {fd : FuncData}, L2.Fun K x x st f fd → Binds K fd ps [])
    (a : PySem.W.nsIn K mainGlobals x = some (some (.ref f))) (l : K.lookup f = some ⟨oc, od, .func (PySem.W.fnOf x x (defArgs st) (defBody st) (defScope st) .none kV dc pm an cd ct), sl⟩) (c : PySem.W.codeIn K cd x = true) (k : PySem.W.keepIn K (.ref f) = true) : DefAt K mg x st ps :=
  ⟨f, _, fun_mk l c k, PySem.W.mg_of X G a, b (fun_mk l c k)⟩
theorem bn_is_letter {K : PySem.W.Frag} {f : Addr} {fd : FuncData} (F : Fun K "is_letter" "is_letter" s_is_letter f fd) : Binds K fd ["part"] [] := F.binds fun _ _ _ _ _ _ us hl => match us, hl with | [_], _ => rfl
theorem bn_is_name {K : PySem.W.Frag} {f : Addr} {fd : FuncData} (F : Fun K "is_name" "is_name" s_is_name f fd) : Binds K fd ["part"] [] := F.binds fun _ _ _ _ _ _ us hl => match us, hl with | [_], _ => rfl
theorem bn_is_rule {K : PySem.W.Frag} {f : Addr} {fd : FuncData} (F : Fun K "is_rule" "is_rule" s_is_rule f fd) : Binds K fd ["rule"] [] := F.binds fun _ _ _ _ _ _ us hl => match us, hl with | [_], _ => rfl
theorem bn_is_grammar {K : PySem.W.Frag} {f : Addr} {fd : FuncData} (F : Fun K "is_grammar" "is_grammar" s_is_grammar f fd) : Binds K fd ["grammar"] [] := F.binds fun _ _ _ _ _ _ us hl => match us, hl with | [_], _ => rfl
theorem bn_must_be_grammar {K : PySem.W.Frag} {f : Addr} {fd : FuncData} (F : Fun K "must_be_grammar" "must_be_grammar" s_must_be_grammar f fd) : Binds K fd ["grammar"] [] := F.binds fun _ _ _ _ _ _ us hl => match us, hl with | [_], _ => rfl
theorem bn_names_by {K : PySem.W.Frag} {f : Addr} {fd : FuncData} (F : Fun K "names_by" "names_by" s_names_by f fd) : Binds K fd ["grammar"] [] := F.binds fun _ _ _ _ _ _ us hl => match us, hl with | [_], _ => rfl
theorem bn_names {K : PySem.W.Frag} {f : Addr} {fd : FuncData} (F : Fun K "names" "names" s_names f fd) : Binds K fd ["grammar"] [] := F.binds fun _ _ _ _ _ _ us hl => match us, hl with | [_], _ => rfl
theorem bn_letters_by {K : PySem.W.Frag} {f : Addr} {fd : FuncData} (F : Fun K "letters_by" "letters_by" s_letters_by f fd) : Binds K fd ["grammar"] [] := F.binds fun _ _ _ _ _ _ us hl => match us, hl with | [_], _ => rfl
theorem bn_letters {K : PySem.W.Frag} {f : Addr} {fd : FuncData} (F : Fun K "letters" "letters" s_letters f fd) : Binds K fd ["grammar"] [] := F.binds fun _ _ _ _ _ _ us hl => match us, hl with | [_], _ => rfl
theorem bn_numbers_by {K : PySem.W.Frag} {f : Addr} {fd : FuncData} (F : Fun K "numbers_by" "numbers_by" s_numbers_by f fd) : Binds K fd ["grammar", "name"] [] := F.binds fun _ _ _ _ _ _ us hl => match us, hl with | [_, _], _ => rfl
theorem bn_must_have {K : PySem.W.Frag} {f : Addr} {fd : FuncData} (F : Fun K "must_have" "must_have" s_must_have f fd) : Binds K fd ["grammar", "name"] [] := F.binds fun _ _ _ _ _ _ us hl => match us, hl with | [_, _], _ => rfl
theorem bn_rules_of {K : PySem.W.Frag} {f : Addr} {fd : FuncData} (F : Fun K "rules_of" "rules_of" s_rules_of f fd) : Binds K fd ["grammar", "name"] [] := F.binds fun _ _ _ _ _ _ us hl => match us, hl with | [_, _], _ => rfl
theorem bn_fits {K : PySem.W.Frag} {f : Addr} {fd : FuncData} (F : Fun K "fits" "fits" s_fits f fd) : Binds K fd ["grammar", "part", "tree"] [] := F.binds fun _ _ _ _ _ _ us hl => match us, hl with | [_, _, _], _ => rfl
theorem bn_count_of {K : PySem.W.Frag} {f : Addr} {fd : FuncData} (F : Fun K "count_of" "count_of" s_count_of f fd) : Binds K fd ["tree"] [] := F.binds fun _ _ _ _ _ _ us hl => match us, hl with | [_], _ => rfl
theorem bn_depth_of {K : PySem.W.Frag} {f : Addr} {fd : FuncData} (F : Fun K "depth_of" "depth_of" s_depth_of f fd) : Binds K fd ["tree"] [] := F.binds fun _ _ _ _ _ _ us hl => match us, hl with | [_], _ => rfl
theorem bn_is_tree_of {K : PySem.W.Frag} {f : Addr} {fd : FuncData} (F : Fun K "is_tree_of" "is_tree_of" s_is_tree_of f fd) : Binds K fd ["grammar", "part", "tree"] [] := F.binds fun _ _ _ _ _ _ us hl => match us, hl with | [_, _, _], _ => rfl
theorem bn_is_tree {K : PySem.W.Frag} {f : Addr} {fd : FuncData} (F : Fun K "is_tree" "is_tree" s_is_tree f fd) : Binds K fd ["grammar", "tree"] [] := F.binds fun _ _ _ _ _ _ us hl => match us, hl with | [_, _], _ => rfl
theorem bn_must_be_tree {K : PySem.W.Frag} {f : Addr} {fd : FuncData} (F : Fun K "must_be_tree" "must_be_tree" s_must_be_tree f fd) : Binds K fd ["grammar", "tree"] [] := F.binds fun _ _ _ _ _ _ us hl => match us, hl with | [_, _], _ => rfl
theorem bn_letters_of {K : PySem.W.Frag} {f : Addr} {fd : FuncData} (F : Fun K "letters_of" "letters_of" s_letters_of f fd) : Binds K fd ["tree"] [] := F.binds fun _ _ _ _ _ _ us hl => match us, hl with | [_], _ => rfl
theorem bn_text_of {K : PySem.W.Frag} {f : Addr} {fd : FuncData} (F : Fun K "text_of" "text_of" s_text_of f fd) : Binds K fd ["grammar", "tree"] [] := F.binds fun _ _ _ _ _ _ us hl => match us, hl with | [_, _], _ => rfl
theorem bn_sizes {K : PySem.W.Frag} {f : Addr} {fd : FuncData} (F : Fun K "sizes" "sizes" s_sizes f fd) : Binds K fd ["grammar", "tree"] [] := F.binds fun _ _ _ _ _ _ us hl => match us, hl with | [_, _], _ => rfl
theorem bn_spans_from {K : PySem.W.Frag} {f : Addr} {fd : FuncData} (F : Fun K "spans_from" "spans_from" s_spans_from f fd) : Binds K fd ["grammar", "tree", "place"] [] := F.binds fun _ _ _ _ _ _ us hl => match us, hl with | [_, _, _], _ => rfl
theorem bn_spans {K : PySem.W.Frag} {f : Addr} {fd : FuncData} (F : Fun K "spans" "spans" s_spans f fd) : Binds K fd ["grammar", "tree"] [] := F.binds fun _ _ _ _ _ _ us hl => match us, hl with | [_, _], _ => rfl
theorem bn_numbers_in {K : PySem.W.Frag} {f : Addr} {fd : FuncData} (F : Fun K "numbers_in" "numbers_in" s_numbers_in f fd) : Binds K fd ["tree"] [] := F.binds fun _ _ _ _ _ _ us hl => match us, hl with | [_], _ => rfl
theorem bn_order {K : PySem.W.Frag} {f : Addr} {fd : FuncData} (F : Fun K "order" "order" s_order f fd) : Binds K fd ["grammar", "one", "other"] [] := F.binds fun _ _ _ _ _ _ us hl => match us, hl with | [_, _, _], _ => rfl
theorem bn_steps_of {K : PySem.W.Frag} {f : Addr} {fd : FuncData} (F : Fun K "steps_of" "steps_of" s_steps_of f fd) : Binds K fd ["grammar", "tree"] [] := F.binds fun _ _ _ _ _ _ us hl => match us, hl with | [_, _], _ => rfl
theorem bn_numbers_right {K : PySem.W.Frag} {f : Addr} {fd : FuncData} (F : Fun K "numbers_right" "numbers_right" s_numbers_right f fd) : Binds K fd ["tree"] [] := F.binds fun _ _ _ _ _ _ us hl => match us, hl with | [_], _ => rfl
theorem bn_right_steps {K : PySem.W.Frag} {f : Addr} {fd : FuncData} (F : Fun K "right_steps" "right_steps" s_right_steps f fd) : Binds K fd ["grammar", "tree"] [] := F.binds fun _ _ _ _ _ _ us hl => match us, hl with | [_, _], _ => rfl
theorem bn_grown {K : PySem.W.Frag} {f : Addr} {fd : FuncData} (F : Fun K "grown" "grown" s_grown f fd) : Binds K fd ["grammar", "part", "steps", "at", "right"] [] := F.binds fun _ _ _ _ _ _ us hl => match us, hl with | [_, _, _, _, _], _ => rfl
theorem bn_tree_by {K : PySem.W.Frag} {f : Addr} {fd : FuncData} (F : Fun K "tree_by" "tree_by" s_tree_by f fd) : Binds K fd ["grammar", "steps", "right"] [] := F.binds fun _ _ _ _ _ _ us hl => match us, hl with | [_, _, _], _ => rfl
theorem bn_tree_of {K : PySem.W.Frag} {f : Addr} {fd : FuncData} (F : Fun K "tree_of" "tree_of" s_tree_of f fd) : Binds K fd ["grammar", "steps"] [] := F.binds fun _ _ _ _ _ _ us hl => match us, hl with | [_, _], _ => rfl
theorem bn_from_right {K : PySem.W.Frag} {f : Addr} {fd : FuncData} (F : Fun K "from_right" "from_right" s_from_right f fd) : Binds K fd ["grammar", "steps"] [] := F.binds fun _ _ _ _ _ _ us hl => match us, hl with | [_, _], _ => rfl
theorem bn_unfolded {K : PySem.W.Frag} {f : Addr} {fd : FuncData} (F : Fun K "unfolded" "unfolded" s_unfolded f fd) : Binds K fd ["grammar", "steps", "right"] [] := F.binds fun _ _ _ _ _ _ us hl => match us, hl with | [_, _, _], _ => rfl
theorem bn_forms_left {K : PySem.W.Frag} {f : Addr} {fd : FuncData} (F : Fun K "forms_left" "forms_left" s_forms_left f fd) : Binds K fd ["grammar", "tree"] [] := F.binds fun _ _ _ _ _ _ us hl => match us, hl with | [_, _], _ => rfl
theorem bn_forms_right {K : PySem.W.Frag} {f : Addr} {fd : FuncData} (F : Fun K "forms_right" "forms_right" s_forms_right f fd) : Binds K fd ["grammar", "tree"] [] := F.binds fun _ _ _ _ _ _ us hl => match us, hl with | [_, _], _ => rfl
theorem bn_makes_by {K : PySem.W.Frag} {f : Addr} {fd : FuncData} (F : Fun K "makes_by" "makes_by" s_makes_by f fd) : Binds K fd ["grammar"] [] := F.binds fun _ _ _ _ _ _ us hl => match us, hl with | [_], _ => rfl
theorem bn_makes {K : PySem.W.Frag} {f : Addr} {fd : FuncData} (F : Fun K "makes" "makes" s_makes f fd) : Binds K fd ["grammar"] [] := F.binds fun _ _ _ _ _ _ us hl => match us, hl with | [_], _ => rfl
theorem bn_reached_from {K : PySem.W.Frag} {f : Addr} {fd : FuncData} (F : Fun K "reached_from" "reached_from" s_reached_from f fd) : Binds K fd ["rules", "name"] [] := F.binds fun _ _ _ _ _ _ us hl => match us, hl with | [_, _], _ => rfl
theorem bn_reached {K : PySem.W.Frag} {f : Addr} {fd : FuncData} (F : Fun K "reached" "reached" s_reached f fd) : Binds K fd ["grammar"] [] := F.binds fun _ _ _ _ _ _ us hl => match us, hl with | [_], _ => rfl
theorem bn_empties_by {K : PySem.W.Frag} {f : Addr} {fd : FuncData} (F : Fun K "empties_by" "empties_by" s_empties_by f fd) : Binds K fd ["grammar"] [] := F.binds fun _ _ _ _ _ _ us hl => match us, hl with | [_], _ => rfl
theorem bn_empties {K : PySem.W.Frag} {f : Addr} {fd : FuncData} (F : Fun K "empties" "empties" s_empties f fd) : Binds K fd ["grammar"] [] := F.binds fun _ _ _ _ _ _ us hl => match us, hl with | [_], _ => rfl
theorem bn_useful_rules {K : PySem.W.Frag} {f : Addr} {fd : FuncData} (F : Fun K "useful_rules" "useful_rules" s_useful_rules f fd) : Binds K fd ["grammar"] [] := F.binds fun _ _ _ _ _ _ us hl => match us, hl with | [_], _ => rfl
theorem bn_firsts_by {K : PySem.W.Frag} {f : Addr} {fd : FuncData} (F : Fun K "firsts_by" "firsts_by" s_firsts_by f fd) : Binds K fd ["grammar"] [] := F.binds fun _ _ _ _ _ _ us hl => match us, hl with | [_], _ => rfl
theorem bn_begins_with {K : PySem.W.Frag} {f : Addr} {fd : FuncData} (F : Fun K "begins_with" "begins_with" s_begins_with f fd) : Binds K fd ["parts", "known", "hollow"] [] := F.binds fun _ _ _ _ _ _ us hl => match us, hl with | [_, _, _], _ => rfl
theorem bn_firsts {K : PySem.W.Frag} {f : Addr} {fd : FuncData} (F : Fun K "firsts" "firsts" s_firsts f fd) : Binds K fd ["grammar"] [] := F.binds fun _ _ _ _ _ _ us hl => match us, hl with | [_], _ => rfl
theorem bn_followers_by {K : PySem.W.Frag} {f : Addr} {fd : FuncData} (F : Fun K "followers_by" "followers_by" s_followers_by f fd) : Binds K fd ["grammar"] [] := F.binds fun _ _ _ _ _ _ us hl => match us, hl with | [_], _ => rfl
theorem bn_follow_rule {K : PySem.W.Frag} {f : Addr} {fd : FuncData} (F : Fun K "follow_rule" "follow_rule" s_follow_rule f fd) : Binds K fd ["name", "parts", "found", "known", "hollow"] [] := F.binds fun _ _ _ _ _ _ us hl => match us, hl with | [_, _, _, _, _], _ => rfl
theorem bn_followers {K : PySem.W.Frag} {f : Addr} {fd : FuncData} (F : Fun K "followers" "followers" s_followers f fd) : Binds K fd ["grammar"] [] := F.binds fun _ _ _ _ _ _ us hl => match us, hl with | [_], _ => rfl
theorem bn_least_by {K : PySem.W.Frag} {f : Addr} {fd : FuncData} (F : Fun K "least_by" "least_by" s_least_by f fd) : Binds K fd ["grammar"] [] := F.binds fun _ _ _ _ _ _ us hl => match us, hl with | [_], _ => rfl
theorem bn_least_text {K : PySem.W.Frag} {f : Addr} {fd : FuncData} (F : Fun K "least_text" "least_text" s_least_text f fd) : Binds K fd ["grammar", "name"] [] := F.binds fun _ _ _ _ _ _ us hl => match us, hl with | [_, _], _ => rfl
theorem bn_lengths_by {K : PySem.W.Frag} {f : Addr} {fd : FuncData} (F : Fun K "lengths_by" "lengths_by" s_lengths_by f fd) : Binds K fd ["grammar"] [] := F.binds fun _ _ _ _ _ _ us hl => match us, hl with | [_], _ => rfl
theorem bn_least_lengths {K : PySem.W.Frag} {f : Addr} {fd : FuncData} (F : Fun K "least_lengths" "least_lengths" s_least_lengths f fd) : Binds K fd ["grammar"] [] := F.binds fun _ _ _ _ _ _ us hl => match us, hl with | [_], _ => rfl
theorem bn_shown {K : PySem.W.Frag} {f : Addr} {fd : FuncData} (F : Fun K "shown" "shown" s_shown f fd) : Binds K fd ["grammar"] [] := F.binds fun _ _ _ _ _ _ us hl => match us, hl with | [_], _ => rfl
theorem bn_read {K : PySem.W.Frag} {f : Addr} {fd : FuncData} (F : Fun K "read" "read" s_read f fd) : Binds K fd ["text"] [] := F.binds fun _ _ _ _ _ _ us hl => match us, hl with | [_], _ => rfl
theorem bn_written_tree {K : PySem.W.Frag} {f : Addr} {fd : FuncData} (F : Fun K "written_tree" "written_tree" s_written_tree f fd) : Binds K fd ["tree"] [] := F.binds fun _ _ _ _ _ _ us hl => match us, hl with | [_], _ => rfl
theorem bn_shown_tree {K : PySem.W.Frag} {f : Addr} {fd : FuncData} (F : Fun K "shown_tree" "shown_tree" s_shown_tree f fd) : Binds K fd ["grammar", "tree"] [] := F.binds fun _ _ _ _ _ _ us hl => match us, hl with | [_, _], _ => rfl
theorem bn_number_from {K : PySem.W.Frag} {f : Addr} {fd : FuncData} (F : Fun K "number_from" "number_from" s_number_from f fd) : Binds K fd ["text", "at"] [] := F.binds fun _ _ _ _ _ _ us hl => match us, hl with | [_, _], _ => rfl
theorem bn_tree_from {K : PySem.W.Frag} {f : Addr} {fd : FuncData} (F : Fun K "tree_from" "tree_from" s_tree_from f fd) : Binds K fd ["text", "at", "deep"] [] := F.binds fun _ _ _ _ _ _ us hl => match us, hl with | [_, _, _], _ => rfl
theorem bn_read_tree {K : PySem.W.Frag} {f : Addr} {fd : FuncData} (F : Fun K "read_tree" "read_tree" s_read_tree f fd) : Binds K fd ["grammar", "text"] [] := F.binds fun _ _ _ _ _ _ us hl => match us, hl with | [_, _], _ => rfl
theorem bn__law_cell_at {K : PySem.W.Frag} {f : Addr} {fd : FuncData} (F : Fun K "_law_cell_at" "_law_cell_at" s__law_cell_at f fd) : Binds K fd ["script", "k"] [] := F.binds fun _ _ _ _ _ _ us hl => match us, hl with | [_, _], _ => rfl
theorem bn__law_next {K : PySem.W.Frag} {f : Addr} {fd : FuncData} (F : Fun K "_law_next" "_law_next" s__law_next f fd) : Binds K fd ["script", "spot"] [] := F.binds fun _ _ _ _ _ _ us hl => match us, hl with | [_, _], _ => rfl
theorem bn__law_rule_by {K : PySem.W.Frag} {f : Addr} {fd : FuncData} (F : Fun K "_law_rule_by" "_law_rule_by" s__law_rule_by f fd) : Binds K fd ["cell"] [] := F.binds fun _ _ _ _ _ _ us hl => match us, hl with | [_], _ => rfl
theorem bn__law_known {K : PySem.W.Frag} {f : Addr} {fd : FuncData} (F : Fun K "_law_known" "_law_known" s__law_known f fd) : Binds K fd ["number"] [] := F.binds fun _ _ _ _ _ _ us hl => match us, hl with | [_], _ => rfl
theorem bn__law_closed {K : PySem.W.Frag} {f : Addr} {fd : FuncData} (F : Fun K "_law_closed" "_law_closed" s__law_closed f fd) : Binds K fd ["rules"] [] := F.binds fun _ _ _ _ _ _ us hl => match us, hl with | [_], _ => rfl
theorem bn__law_grammar {K : PySem.W.Frag} {f : Addr} {fd : FuncData} (F : Fun K "_law_grammar" "_law_grammar" s__law_grammar f fd) : Binds K fd ["script", "spot"] [] := F.binds fun _ _ _ _ _ _ us hl => match us, hl with | [_, _], _ => rfl
theorem bn__law_heights {K : PySem.W.Frag} {f : Addr} {fd : FuncData} (F : Fun K "_law_heights" "_law_heights" s__law_heights f fd) : Binds K fd ["grammar"] [] := F.binds fun _ _ _ _ _ _ us hl => match us, hl with | [_], _ => rfl
theorem bn__law_grown {K : PySem.W.Frag} {f : Addr} {fd : FuncData} (F : Fun K "_law_grown" "_law_grown" s__law_grown f fd) : Binds K fd ["script", "spot", "grammar", "heights", "name", "fuel"] [] := F.binds fun _ _ _ _ _ _ us hl => match us, hl with | [_, _, _, _, _, _], _ => rfl
theorem bn__law_some_tree {K : PySem.W.Frag} {f : Addr} {fd : FuncData} (F : Fun K "_law_some_tree" "_law_some_tree" s__law_some_tree f fd) : Binds K fd ["script", "spot", "grammar", "fuel"] [] := F.binds fun _ _ _ _ _ _ us hl => match us, hl with | [_, _, _, _], _ => rfl
theorem bn__law_part {K : PySem.W.Frag} {f : Addr} {fd : FuncData} (F : Fun K "_law_part" "_law_part" s__law_part f fd) : Binds K fd ["part"] [] := F.binds fun _ _ _ _ _ _ us hl => match us, hl with | [_], _ => rfl
theorem bn__law_text {K : PySem.W.Frag} {f : Addr} {fd : FuncData} (F : Fun K "_law_text" "_law_text" s__law_text f fd) : Binds K fd ["text"] [] := F.binds fun _ _ _ _ _ _ us hl => match us, hl with | [_], _ => rfl
theorem bn__law_other {K : PySem.W.Frag} {f : Addr} {fd : FuncData} (F : Fun K "_law_other" "_law_other" s__law_other f fd) : Binds K fd ["grammar"] [] := F.binds fun _ _ _ _ _ _ us hl => match us, hl with | [_], _ => rfl
theorem bn__law_tree {K : PySem.W.Frag} {f : Addr} {fd : FuncData} (F : Fun K "_law_tree" "_law_tree" s__law_tree f fd) : Binds K fd ["tree"] [] := F.binds fun _ _ _ _ _ _ us hl => match us, hl with | [_], _ => rfl
theorem bn__law_parts {K : PySem.W.Frag} {f : Addr} {fd : FuncData} (F : Fun K "_law_parts" "_law_parts" s__law_parts f fd) : Binds K fd ["row"] [] := F.binds fun _ _ _ _ _ _ us hl => match us, hl with | [_], _ => rfl
theorem bn__law_told {K : PySem.W.Frag} {f : Addr} {fd : FuncData} (F : Fun K "_law_told" "_law_told" s__law_told f fd) : Binds K fd ["pairs"] [] := F.binds fun _ _ _ _ _ _ us hl => match us, hl with | [_], _ => rfl
theorem bn__law_marks_like {K : PySem.W.Frag} {f : Addr} {fd : FuncData} (F : Fun K "_law_marks_like" "_law_marks_like" s__law_marks_like f fd) : Binds K fd ["grammar", "other"] [] := F.binds fun _ _ _ _ _ _ us hl => match us, hl with | [_, _], _ => rfl
theorem bn__law_forms {K : PySem.W.Frag} {f : Addr} {fd : FuncData} (F : Fun K "_law_forms" "_law_forms" s__law_forms f fd) : Binds K fd ["rows"] [] := F.binds fun _ _ _ _ _ _ us hl => match us, hl with | [_], _ => rfl
theorem bn__law_trees_like {K : PySem.W.Frag} {f : Addr} {fd : FuncData} (F : Fun K "_law_trees_like" "_law_trees_like" s__law_trees_like f fd) : Binds K fd ["grammar", "other", "tree"] [] := F.binds fun _ _ _ _ _ _ us hl => match us, hl with | [_, _, _], _ => rfl
theorem bn_law {K : PySem.W.Frag} {f : Addr} {fd : FuncData} (F : Fun K "law" "law" s_law f fd) : Binds K fd ["script"] [] := F.binds fun _ _ _ _ _ _ us hl => match us, hl with | [_], _ => rfl

theorem law_all {l : PySem.W.OpenLaw} {w : World} {K : PySem.W.Frag} {h : Heap} {mg : Str → Option Value} {fa f : Addr} (X : K.In h) (G : h.Ns mainGlobals mg) (hfa : mg "law" = some (.ref fa)) (T : Txt K mg)
    {od an : Option Addr} {sl : Array (Option Value)} {oc kV dc pm cd ct : Value}
    (a : PySem.W.nsIn K mainGlobals "law" = some (some (.ref f))) (lk : K.lookup f = some ⟨oc, od, .func (PySem.W.fnOf "law" "law" (defArgs s_law) (defBody s_law) (defScope s_law) .none kV dc pm an cd ct), sl⟩) (c : PySem.W.codeIn K cd "law" = true) (k : PySem.W.keepIn K (.ref f) = true) :
    ∃ fd : FuncData, (∀ (s : Shared) (v : Value), BindsTo s fd ⟨[v], []⟩ [("script", v)]) ∧ ∀ base : Heap, K.In base → base.Ns mainGlobals mg → FnOk l.prog w K mg base CX0 19 fa fd ["script"] (spF (R_law K)) := by
  have e := hfa.symm.trans (PySem.W.mg_of X G a)
  cases e
  exact ⟨_, fun s v => .of_eq rfl, fun base _ _ => fn_law T (fun_mk lk c k)⟩
theorem walk {l : PySem.W.OpenLaw} {q : Program} {loose : List Str} {XP : (Str → Option Value) → Heap → Prop} {YP : World → Heap → Prop} {d : DefRec} {K : Params → PySem.W.Frag} (hn : l.most = some 63) (hdf : d.params.defaults = [])
    (hY : ∀ (w : World) (h : Heap), YP w h → (K w.params).In h)
    (F : ∀ (w : World) (mg : Str → Option Value) (fa : Addr) (h : Heap), (K w.params).In h → h.Ns mainGlobals mg → mg d.name = some (.ref fa) →
      ∃ fd : FuncData, (∀ (s : Shared) (u : Value), BindsTo s fd ⟨[u], []⟩ [("script", u)]) ∧ ∀ base : Heap, (K w.params).In base → base.Ns mainGlobals mg → FnOk l.prog w (K w.params) mg base CX0 19 fa fd ["script"] (spF (R_law (K w.params)))) :
    PySem.W.WalkO q loose XP YP l.row.toRowW d [] (fun f vs => PySem.call f vs) :=
  L2.walk_of (n := 63) (k := 19) (x := "script") (CX := fun _ => CX0) (sp := fun w => spF (R_law (K w.params))) hn (by decide) hdf ⟨rfl, by decide, by decide⟩ hY F (fun w H a ns hl _ hS => ⟨H, [scr _ ns], .bl true, .refl _, .one (.fz fun H' e => sqL_mono e hS), .mk ns plain_holds, fun v M' H' g r => by cases r; rfl⟩) fun _ _ _ _ _ z => z
end RN

end
namespace RN
open PySem
theorem constI {K : PySem.W.Frag} {h : Heap} {mg : Str → Option Value} {x : Str} {v c : Int} {t : Tok} (X : K.In h) (G : h.Ns mainGlobals mg) (e : PySem.W.nsIn K mainGlobals x = some (some (.int v t))) (q : v = c) : ∃ t, mg x = some (.int c t) := ⟨t, by rw [← q]; exact PySem.W.mg_of X G e⟩
theorem constS {K : PySem.W.Frag} {h : Heap} {mg : Str → Option Value} {x : Str} {v c : Str} {t : Tok} (X : K.In h) (G : h.Ns mainGlobals mg) (e : PySem.W.nsIn K mainGlobals x = some (some (.str v t))) (q : v = c) : ∃ t, mg x = some (.str c t) := ⟨t, by rw [← q]; exact PySem.W.mg_of X G e⟩
end RN
open PySem PySem.W PyProof.Rows
set_option maxRecDepth 100000 in
set_option maxHeartbeats 0 in
theorem PySem.Challenge.cw_rulewright_k94_whole_marks_and_trees_by_holds : PySem.Challenge.rw_rulewright_k94_whole_marks_and_trees_by.Holds := by
  w_on; o_law; k_head; (case hw => w_witness2)
  k_fill
  refine RN.walk (l := PySem.Challenge.rw_rulewright_k94_whole_marks_and_trees_by) rfl rfl (fun w h Y => PySem.W.kIn_of Y) ?F
  case F =>
    intro w mg fa h KX G hmg
    refine' RN.law_all KX G hmg (RN.Txt.mk ?b_len ?b_all ?b_list ?b_tuple ?b_sorted ?b_range ?b_enumerate ?b_reversed ?b_sum ?b_max ?b_min ?b_str ?b_int ?b_isinstance ?c_MOST_RULES ?c_MOST_PARTS ?c_MOST_NAME ?c_LETTERS ?c_CAPITALS ?c_FIGURES ?c_MOST_IN_TREE ?c_DEEPEST ?c_END ?d_is_letter ?d_is_name ?d_is_rule ?d_is_grammar ?d_must_be_grammar ?d_names_by ?d_names ?d_letters_by ?d_letters ?d_numbers_by ?d_must_have ?d_rules_of ?d_fits ?d_count_of ?d_depth_of ?d_is_tree_of ?d_is_tree ?d_must_be_tree ?d_letters_of ?d_text_of ?d_sizes ?d_spans_from ?d_spans ?d_numbers_in ?d_order ?d_steps_of ?d_numbers_right ?d_right_steps ?d_grown ?d_tree_by ?d_tree_of ?d_from_right ?d_unfolded ?d_forms_left ?d_forms_right ?d_makes_by ?d_makes ?d_reached_from ?d_reached ?d_empties_by ?d_empties ?d_useful_rules ?d_firsts_by ?d_begins_with ?d_firsts ?d_followers_by ?d_follow_rule ?d_followers ?d_least_by ?d_least_text ?d_lengths_by ?d_least_lengths ?d_shown ?d_read ?d_written_tree ?d_shown_tree ?d_number_from ?d_tree_from ?d_read_tree ?d__law_cell_at ?d__law_next ?d__law_rule_by ?d__law_known ?d__law_closed ?d__law_grammar ?d__law_heights ?d__law_grown ?d__law_some_tree ?d__law_part ?d__law_text ?d__law_other ?d__law_tree ?d__law_parts ?d__law_told ?d__law_marks_like ?d__law_forms ?d__law_trees_like ?d_law) ?xa ?xl ?xc ?xk
    (case b_len => refine' PySem.W.mg_none_of KX G ?_; k_is)
    (case b_all => refine' PySem.W.mg_none_of KX G ?_; k_is)
    (case b_list => refine' PySem.W.mg_none_of KX G ?_; k_is)
    (case b_tuple => refine' PySem.W.mg_none_of KX G ?_; k_is)
    (case b_sorted => refine' PySem.W.mg_none_of KX G ?_; k_is)
    (case b_range => refine' PySem.W.mg_none_of KX G ?_; k_is)
    (case b_enumerate => refine' PySem.W.mg_none_of KX G ?_; k_is)
    (case b_reversed => refine' PySem.W.mg_none_of KX G ?_; k_is)
    (case b_sum => refine' PySem.W.mg_none_of KX G ?_; k_is)
    (case b_max => refine' PySem.W.mg_none_of KX G ?_; k_is)
    (case b_min => refine' PySem.W.mg_none_of KX G ?_; k_is)
    (case b_str => refine' PySem.W.mg_none_of KX G ?_; k_is)
    (case b_int => refine' PySem.W.mg_none_of KX G ?_; k_is)
    (case b_isinstance => refine' PySem.W.mg_none_of KX G ?_; k_is)
    (case c_MOST_RULES => refine' RN.constI KX G ?e_0 ?q_0; (case e_0 => k_is); (case q_0 => first | rfl | decide +kernel))
    (case c_MOST_PARTS => refine' RN.constI KX G ?e_1 ?q_1; (case e_1 => k_is); (case q_1 => first | rfl | decide +kernel))
    (case c_MOST_NAME => refine' RN.constI KX G ?e_2 ?q_2; (case e_2 => k_is); (case q_2 => first | rfl | decide +kernel))
    (case c_LETTERS => refine' RN.constS KX G ?e_3 ?q_3; (case e_3 => k_is); (case q_3 => first | rfl | decide +kernel))
    (case c_CAPITALS => refine' RN.constS KX G ?e_4 ?q_4; (case e_4 => k_is); (case q_4 => first | rfl | decide +kernel))
    (case c_FIGURES => refine' RN.constS KX G ?e_5 ?q_5; (case e_5 => k_is); (case q_5 => first | rfl | decide +kernel))
    (case c_MOST_IN_TREE => refine' RN.constI KX G ?e_6 ?q_6; (case e_6 => k_is); (case q_6 => first | rfl | decide +kernel))
    (case c_DEEPEST => refine' RN.constI KX G ?e_7 ?q_7; (case e_7 => k_is); (case q_7 => first | rfl | decide +kernel))
    (case c_END => refine' RN.constS KX G ?e_8 ?q_8; (case e_8 => k_is); (case q_8 => first | rfl | decide +kernel))
    (case d_is_letter => refine' RN.defAt_mk KX G RN.bn_is_letter ?a_0 ?l_0 ?c_0 ?k_0; (case a_0 => k_is); (case l_0 => k_is); (case c_0 => k_is); (case k_0 => k_is))
    (case d_is_name => refine' RN.defAt_mk KX G RN.bn_is_name ?a_1 ?l_1 ?c_1 ?k_1; (case a_1 => k_is); (case l_1 => k_is); (case c_1 => k_is); (case k_1 => k_is))
    (case d_is_rule => refine' RN.defAt_mk KX G RN.bn_is_rule ?a_2 ?l_2 ?c_2 ?k_2; (case a_2 => k_is); (case l_2 => k_is); (case c_2 => k_is); (case k_2 => k_is))
    (case d_is_grammar => refine' RN.defAt_mk KX G RN.bn_is_grammar ?a_3 ?l_3 ?c_3 ?k_3; (case a_3 => k_is); (case l_3 => k_is); (case c_3 => k_is); (case k_3 => k_is))
    (case d_must_be_grammar => refine' RN.defAt_mk KX G RN.bn_must_be_grammar ?a_4 ?l_4 ?c_4 ?k_4; (case a_4 => k_is); (case l_4 => k_is); (case c_4 => k_is); (case k_4 => k_is))
    (case d_names_by => refine' RN.defAt_mk KX G RN.bn_names_by ?a_5 ?l_5 ?c_5 ?k_5; (case a_5 => k_is); (case l_5 => k_is); (case c_5 => k_is); (case k_5 => k_is))
    (case d_names => refine' RN.defAt_mk KX G RN.bn_names ?a_6 ?l_6 ?c_6 ?k_6; (case a_6 => k_is); (case l_6 => k_is); (case c_6 => k_is); (case k_6 => k_is))
    (case d_letters_by => refine' RN.defAt_mk KX G RN.bn_letters_by ?a_7 ?l_7 ?c_7 ?k_7; (case a_7 => k_is); (case l_7 => k_is); (case c_7 => k_is); (case k_7 => k_is))
    (case d_letters => refine' RN.defAt_mk KX G RN.bn_letters ?a_8 ?l_8 ?c_8 ?k_8; (case a_8 => k_is); (case l_8 => k_is); (case c_8 => k_is); (case k_8 => k_is))
    (case d_numbers_by => refine' RN.defAt_mk KX G RN.bn_numbers_by ?a_9 ?l_9 ?c_9 ?k_9; (case a_9 => k_is); (case l_9 => k_is); (case c_9 => k_is); (case k_9 => k_is))
    (case d_must_have => refine' RN.defAt_mk KX G RN.bn_must_have ?a_10 ?l_10 ?c_10 ?k_10; (case a_10 => k_is); (case l_10 => k_is); (case c_10 => k_is); (case k_10 => k_is))
    (case d_rules_of => refine' RN.defAt_mk KX G RN.bn_rules_of ?a_11 ?l_11 ?c_11 ?k_11; (case a_11 => k_is); (case l_11 => k_is); (case c_11 => k_is); (case k_11 => k_is))
    (case d_fits => refine' RN.defAt_mk KX G RN.bn_fits ?a_12 ?l_12 ?c_12 ?k_12; (case a_12 => k_is); (case l_12 => k_is); (case c_12 => k_is); (case k_12 => k_is))
    (case d_count_of => refine' RN.defAt_mk KX G RN.bn_count_of ?a_13 ?l_13 ?c_13 ?k_13; (case a_13 => k_is); (case l_13 => k_is); (case c_13 => k_is); (case k_13 => k_is))
    (case d_depth_of => refine' RN.defAt_mk KX G RN.bn_depth_of ?a_14 ?l_14 ?c_14 ?k_14; (case a_14 => k_is); (case l_14 => k_is); (case c_14 => k_is); (case k_14 => k_is))
    (case d_is_tree_of => refine' RN.defAt_mk KX G RN.bn_is_tree_of ?a_15 ?l_15 ?c_15 ?k_15; (case a_15 => k_is); (case l_15 => k_is); (case c_15 => k_is); (case k_15 => k_is))
    (case d_is_tree => refine' RN.defAt_mk KX G RN.bn_is_tree ?a_16 ?l_16 ?c_16 ?k_16; (case a_16 => k_is); (case l_16 => k_is); (case c_16 => k_is); (case k_16 => k_is))
    (case d_must_be_tree => refine' RN.defAt_mk KX G RN.bn_must_be_tree ?a_17 ?l_17 ?c_17 ?k_17; (case a_17 => k_is); (case l_17 => k_is); (case c_17 => k_is); (case k_17 => k_is))
    (case d_letters_of => refine' RN.defAt_mk KX G RN.bn_letters_of ?a_18 ?l_18 ?c_18 ?k_18; (case a_18 => k_is); (case l_18 => k_is); (case c_18 => k_is); (case k_18 => k_is))
    (case d_text_of => refine' RN.defAt_mk KX G RN.bn_text_of ?a_19 ?l_19 ?c_19 ?k_19; (case a_19 => k_is); (case l_19 => k_is); (case c_19 => k_is); (case k_19 => k_is))
    (case d_sizes => refine' RN.defAt_mk KX G RN.bn_sizes ?a_20 ?l_20 ?c_20 ?k_20; (case a_20 => k_is); (case l_20 => k_is); (case c_20 => k_is); (case k_20 => k_is))
    (case d_spans_from => refine' RN.defAt_mk KX G RN.bn_spans_from ?a_21 ?l_21 ?c_21 ?k_21; (case a_21 => k_is); (case l_21 => k_is); (case c_21 => k_is); (case k_21 => k_is))
    (case d_spans => refine' RN.defAt_mk KX G RN.bn_spans ?a_22 ?l_22 ?c_22 ?k_22; (case a_22 => k_is); (case l_22 => k_is); (case c_22 => k_is); (case k_22 => k_is))
    (case d_numbers_in => refine' RN.defAt_mk KX G RN.bn_numbers_in ?a_23 ?l_23 ?c_23 ?k_23; (case a_23 => k_is); (case l_23 => k_is); (case c_23 => k_is); (case k_23 => k_is))
    (case d_order => refine' RN.defAt_mk KX G RN.bn_order ?a_24 ?l_24 ?c_24 ?k_24; (case a_24 => k_is); (case l_24 => k_is); (case c_24 => k_is); (case k_24 => k_is))
    (case d_steps_of => refine' RN.defAt_mk KX G RN.bn_steps_of ?a_25 ?l_25 ?c_25 ?k_25; (case a_25 => k_is); (case l_25 => k_is); (case c_25 => k_is); (case k_25 => k_is))
    (case d_numbers_right => refine' RN.defAt_mk KX G RN.bn_numbers_right ?a_26 ?l_26 ?c_26 ?k_26; (case a_26 => k_is); (case l_26 => k_is); (case c_26 => k_is); (case k_26 => k_is))
    (case d_right_steps => refine' RN.defAt_mk KX G RN.bn_right_steps ?a_27 ?l_27 ?c_27 ?k_27; (case a_27 => k_is); (case l_27 => k_is); (case c_27 => k_is); (case k_27 => k_is))
    (case d_grown => refine' RN.defAt_mk KX G RN.bn_grown ?a_28 ?l_28 ?c_28 ?k_28; (case a_28 => k_is); (case l_28 => k_is); (case c_28 => k_is); (case k_28 => k_is))
    (case d_tree_by => refine' RN.defAt_mk KX G RN.bn_tree_by ?a_29 ?l_29 ?c_29 ?k_29; (case a_29 => k_is); (case l_29 => k_is); (case c_29 => k_is); (case k_29 => k_is))
    (case d_tree_of => refine' RN.defAt_mk KX G RN.bn_tree_of ?a_30 ?l_30 ?c_30 ?k_30; (case a_30 => k_is); (case l_30 => k_is); (case c_30 => k_is); (case k_30 => k_is))
    (case d_from_right => refine' RN.defAt_mk KX G RN.bn_from_right ?a_31 ?l_31 ?c_31 ?k_31; (case a_31 => k_is); (case l_31 => k_is); (case c_31 => k_is); (case k_31 => k_is))
    (case d_unfolded => refine' RN.defAt_mk KX G RN.bn_unfolded ?a_32 ?l_32 ?c_32 ?k_32; (case a_32 => k_is); (case l_32 => k_is); (case c_32 => k_is); (case k_32 => k_is))
    (case d_forms_left => refine' RN.defAt_mk KX G RN.bn_forms_left ?a_33 ?l_33 ?c_33 ?k_33; (case a_33 => k_is); (case l_33 => k_is); (case c_33 => k_is); (case k_33 => k_is))
    (case d_forms_right => refine' RN.defAt_mk KX G RN.bn_forms_right ?a_34 ?l_34 ?c_34 ?k_34; (case a_34 => k_is); (case l_34 => k_is); (case c_34 => k_is); (case k_34 => k_is))
    (case d_makes_by => refine' RN.defAt_mk KX G RN.bn_makes_by ?a_35 ?l_35 ?c_35 ?k_35; (case a_35 => k_is); (case l_35 => k_is); (case c_35 => k_is); (case k_35 => k_is))
    (case d_makes => refine' RN.defAt_mk KX G RN.bn_makes ?a_36 ?l_36 ?c_36 ?k_36; (case a_36 => k_is); (case l_36 => k_is); (case c_36 => k_is); (case k_36 => k_is))
    (case d_reached_from => refine' RN.defAt_mk KX G RN.bn_reached_from ?a_37 ?l_37 ?c_37 ?k_37; (case a_37 => k_is); (case l_37 => k_is); (case c_37 => k_is); (case k_37 => k_is))
    (case d_reached => refine' RN.defAt_mk KX G RN.bn_reached ?a_38 ?l_38 ?c_38 ?k_38; (case a_38 => k_is); (case l_38 => k_is); (case c_38 => k_is); (case k_38 => k_is))
    (case d_empties_by => refine' RN.defAt_mk KX G RN.bn_empties_by ?a_39 ?l_39 ?c_39 ?k_39; (case a_39 => k_is); (case l_39 => k_is); (case c_39 => k_is); (case k_39 => k_is))
    (case d_empties => refine' RN.defAt_mk KX G RN.bn_empties ?a_40 ?l_40 ?c_40 ?k_40; (case a_40 => k_is); (case l_40 => k_is); (case c_40 => k_is); (case k_40 => k_is))
    (case d_useful_rules => refine' RN.defAt_mk KX G RN.bn_useful_rules ?a_41 ?l_41 ?c_41 ?k_41; (case a_41 => k_is); (case l_41 => k_is); (case c_41 => k_is); (case k_41 => k_is))
    (case d_firsts_by => refine' RN.defAt_mk KX G RN.bn_firsts_by ?a_42 ?l_42 ?c_42 ?k_42; (case a_42 => k_is); (case l_42 => k_is); (case c_42 => k_is); (case k_42 => k_is))
    (case d_begins_with => refine' RN.defAt_mk KX G RN.bn_begins_with ?a_43 ?l_43 ?c_43 ?k_43; (case a_43 => k_is); (case l_43 => k_is); (case c_43 => k_is); (case k_43 => k_is))
    (case d_firsts => refine' RN.defAt_mk KX G RN.bn_firsts ?a_44 ?l_44 ?c_44 ?k_44; (case a_44 => k_is); (case l_44 => k_is); (case c_44 => k_is); (case k_44 => k_is))
    (case d_followers_by => refine' RN.defAt_mk KX G RN.bn_followers_by ?a_45 ?l_45 ?c_45 ?k_45; (case a_45 => k_is); (case l_45 => k_is); (case c_45 => k_is); (case k_45 => k_is))
    (case d_follow_rule => refine' RN.defAt_mk KX G RN.bn_follow_rule ?a_46 ?l_46 ?c_46 ?k_46; (case a_46 => k_is); (case l_46 => k_is); (case c_46 => k_is); (case k_46 => k_is))
    (case d_followers => refine' RN.defAt_mk KX G RN.bn_followers ?a_47 ?l_47 ?c_47 ?k_47; (case a_47 => k_is); (case l_47 => k_is); (case c_47 => k_is); (case k_47 => k_is))
    (case d_least_by => refine' RN.defAt_mk KX G RN.bn_least_by ?a_48 ?l_48 ?c_48 ?k_48; (case a_48 => k_is); (case l_48 => k_is); (case c_48 => k_is); (case k_48 => k_is))
    (case d_least_text => refine' RN.defAt_mk KX G RN.bn_least_text ?a_49 ?l_49 ?c_49 ?k_49; (case a_49 => k_is); (case l_49 => k_is); (case c_49 => k_is); (case k_49 => k_is))
    (case d_lengths_by => refine' RN.defAt_mk KX G RN.bn_lengths_by ?a_50 ?l_50 ?c_50 ?k_50; (case a_50 => k_is); (case l_50 => k_is); (case c_50 => k_is); (case k_50 => k_is))
    (case d_least_lengths => refine' RN.defAt_mk KX G RN.bn_least_lengths ?a_51 ?l_51 ?c_51 ?k_51; (case a_51 => k_is); (case l_51 => k_is); (case c_51 => k_is); (case k_51 => k_is))
    (case d_shown => refine' RN.defAt_mk KX G RN.bn_shown ?a_52 ?l_52 ?c_52 ?k_52; (case a_52 => k_is); (case l_52 => k_is); (case c_52 => k_is); (case k_52 => k_is))
    (case d_read => refine' RN.defAt_mk KX G RN.bn_read ?a_53 ?l_53 ?c_53 ?k_53; (case a_53 => k_is); (case l_53 => k_is); (case c_53 => k_is); (case k_53 => k_is))
    (case d_written_tree => refine' RN.defAt_mk KX G RN.bn_written_tree ?a_54 ?l_54 ?c_54 ?k_54; (case a_54 => k_is); (case l_54 => k_is); (case c_54 => k_is); (case k_54 => k_is))
    (case d_shown_tree => refine' RN.defAt_mk KX G RN.bn_shown_tree ?a_55 ?l_55 ?c_55 ?k_55; (case a_55 => k_is); (case l_55 => k_is); (case c_55 => k_is); (case k_55 => k_is))
    (case d_number_from => refine' RN.defAt_mk KX G RN.bn_number_from ?a_56 ?l_56 ?c_56 ?k_56; (case a_56 => k_is); (case l_56 => k_is); (case c_56 => k_is); (case k_56 => k_is))
    (case d_tree_from => refine' RN.defAt_mk KX G RN.bn_tree_from ?a_57 ?l_57 ?c_57 ?k_57; (case a_57 => k_is); (case l_57 => k_is); (case c_57 => k_is); (case k_57 => k_is))
    (case d_read_tree => refine' RN.defAt_mk KX G RN.bn_read_tree ?a_58 ?l_58 ?c_58 ?k_58; (case a_58 => k_is); (case l_58 => k_is); (case c_58 => k_is); (case k_58 => k_is))
    (case d__law_cell_at => refine' RN.defAt_mk KX G RN.bn__law_cell_at ?a_59 ?l_59 ?c_59 ?k_59; (case a_59 => k_is); (case l_59 => k_is); (case c_59 => k_is); (case k_59 => k_is))
    (case d__law_next => refine' RN.defAt_mk KX G RN.bn__law_next ?a_60 ?l_60 ?c_60 ?k_60; (case a_60 => k_is); (case l_60 => k_is); (case c_60 => k_is); (case k_60 => k_is))
    (case d__law_rule_by => refine' RN.defAt_mk KX G RN.bn__law_rule_by ?a_61 ?l_61 ?c_61 ?k_61; (case a_61 => k_is); (case l_61 => k_is); (case c_61 => k_is); (case k_61 => k_is))
    (case d__law_known => refine' RN.defAt_mk KX G RN.bn__law_known ?a_62 ?l_62 ?c_62 ?k_62; (case a_62 => k_is); (case l_62 => k_is); (case c_62 => k_is); (case k_62 => k_is))
    (case d__law_closed => refine' RN.defAt_mk KX G RN.bn__law_closed ?a_63 ?l_63 ?c_63 ?k_63; (case a_63 => k_is); (case l_63 => k_is); (case c_63 => k_is); (case k_63 => k_is))
    (case d__law_grammar => refine' RN.defAt_mk KX G RN.bn__law_grammar ?a_64 ?l_64 ?c_64 ?k_64; (case a_64 => k_is); (case l_64 => k_is); (case c_64 => k_is); (case k_64 => k_is))
    (case d__law_heights => refine' RN.defAt_mk KX G RN.bn__law_heights ?a_65 ?l_65 ?c_65 ?k_65; (case a_65 => k_is); (case l_65 => k_is); (case c_65 => k_is); (case k_65 => k_is))
    (case d__law_grown => refine' RN.defAt_mk KX G RN.bn__law_grown ?a_66 ?l_66 ?c_66 ?k_66; (case a_66 => k_is); (case l_66 => k_is); (case c_66 => k_is); (case k_66 => k_is))
    (case d__law_some_tree => refine' RN.defAt_mk KX G RN.bn__law_some_tree ?a_67 ?l_67 ?c_67 ?k_67; (case a_67 => k_is); (case l_67 => k_is); (case c_67 => k_is); (case k_67 => k_is))
    (case d__law_part => refine' RN.defAt_mk KX G RN.bn__law_part ?a_68 ?l_68 ?c_68 ?k_68; (case a_68 => k_is); (case l_68 => k_is); (case c_68 => k_is); (case k_68 => k_is))
    (case d__law_text => refine' RN.defAt_mk KX G RN.bn__law_text ?a_69 ?l_69 ?c_69 ?k_69; (case a_69 => k_is); (case l_69 => k_is); (case c_69 => k_is); (case k_69 => k_is))
    (case d__law_other => refine' RN.defAt_mk KX G RN.bn__law_other ?a_70 ?l_70 ?c_70 ?k_70; (case a_70 => k_is); (case l_70 => k_is); (case c_70 => k_is); (case k_70 => k_is))
    (case d__law_tree => refine' RN.defAt_mk KX G RN.bn__law_tree ?a_71 ?l_71 ?c_71 ?k_71; (case a_71 => k_is); (case l_71 => k_is); (case c_71 => k_is); (case k_71 => k_is))
    (case d__law_parts => refine' RN.defAt_mk KX G RN.bn__law_parts ?a_72 ?l_72 ?c_72 ?k_72; (case a_72 => k_is); (case l_72 => k_is); (case c_72 => k_is); (case k_72 => k_is))
    (case d__law_told => refine' RN.defAt_mk KX G RN.bn__law_told ?a_73 ?l_73 ?c_73 ?k_73; (case a_73 => k_is); (case l_73 => k_is); (case c_73 => k_is); (case k_73 => k_is))
    (case d__law_marks_like => refine' RN.defAt_mk KX G RN.bn__law_marks_like ?a_74 ?l_74 ?c_74 ?k_74; (case a_74 => k_is); (case l_74 => k_is); (case c_74 => k_is); (case k_74 => k_is))
    (case d__law_forms => refine' RN.defAt_mk KX G RN.bn__law_forms ?a_75 ?l_75 ?c_75 ?k_75; (case a_75 => k_is); (case l_75 => k_is); (case c_75 => k_is); (case k_75 => k_is))
    (case d__law_trees_like => refine' RN.defAt_mk KX G RN.bn__law_trees_like ?a_76 ?l_76 ?c_76 ?k_76; (case a_76 => k_is); (case l_76 => k_is); (case c_76 => k_is); (case k_76 => k_is))
    (case d_law => refine' RN.defAt_mk KX G RN.bn_law ?a_77 ?l_77 ?c_77 ?k_77; (case a_77 => k_is); (case l_77 => k_is); (case c_77 => k_is); (case k_77 => k_is))
    (case xa => k_is); (case xl => k_is); (case xc => k_is); (case xk => k_is)
