import PyProof.Rows.All
import Wide.All
import OpenK.AllK
import Wide.FinOn
import HandS.TupMul
import HandS.ForMost
import HandS.ForExc
import HandS.IsInst
import HandS.Wide
import HandS.TupAny
import HandS.TupLe
import HandS.Zip
import HandS.Walk
import HandS.Evl
import HandS.Deep
import HandS.StrMore
import HandS.EndBits
import HandS.Codes
import HandS.Flow
import HandS.Style
import KE.GoesMore
import KE.GoesEnum
import PyProof.EnumMake
import HandS.NoneIn
import PySem.Challenge.RW_carrytables_k01_things
set_option Elab.async false
set_option linter.all false
set_option maxRecDepth 100000
set_option maxHeartbeats 4000000
/-! Dz0: tuple * 1. -/
namespace Dz
open PySem PySem.Spec PyProof.Rows L2
theorem tuple_mul1 (l : Addr) (items : Array Value) (n : Nat) (dd : Option Addr) (sl : Array (Option Value)) (u : Tok) :
    Meets (Builtin.«tuple.__mul__» ⟨[.ref l, .int 1 u], []⟩) (fun _ R s => s.heap.get? l = some { cls := .type "tuple", dict := dd, data := .seq items n, slots := sl } ∧ R (.ok (.ret (Value.ref l))) s) :=
  .of_wp fun prog w A R s h => by
    obtain ⟨hp, g, d, tk, os⟩ := s
    obtain ⟨hl, h⟩ := h
    have f1 := AutoSeq1.idx_int
    wp_walk using wpAny_loadPart' hl
    exact ⟨_, rfl, h⟩
def rRep1 (K : PySem.W.Frag) : R2 := fun x y H Q => ∃ l xs, x = .ref l ∧ y = .int 1 ∧ SqT K H l xs ∧ Q (.ref l) H
theorem op_rep1 {X : Cx} : OpR X (binaryOp .Mult) (rRep1 X.K) := by
  intro pins s σ H x y v u Q I rx ry h
  obtain ⟨l, xs, rfl, rfl, hT, q⟩ := h
  cases rx
  obtain ⟨t, rfl⟩ := ry
  obtain ⟨its, r, ⟨⟨cls, dd, data, sl⟩, ho, hc, n, hd⟩, hs⟩ := I.tuple hT
  simp only at hc hd
  subst hc hd
  refine wpAny_binaryOp_repeat_ref (T := "tuple") (U := "int") (by decide) ⟨_, ho, rfl⟩ (fun s' => typeIs_int s' 1 t) noFill_tuple_mul F.fills_int_mul F.slot_int_rmul repeat_tuple F.slot_int_index.lookup
    (call_meets F.slot_int_rmul (typeIs_int s 1 t) F.entry_int_rmul (F.args_int_rmul_2 _ _) (int_rmul_tuple 1 t l its.toArray n dd sl)
      ⟨ho, rfl, ⟨_, ho, rfl⟩, call_meets F.slot_tuple_mul ⟨_, ho, rfl⟩ F.entry_tuple_mul (F.args_tuple_mul_2 _ _) (tuple_mul1 l its.toArray n dd sl t) ⟨ho, ?_⟩⟩)
  exact ⟨.ref l, H, I, rfl, q⟩
end Dz

/-! Dz: programs over plain data. A piece of Python is told by a function of the data in its slots. -/
namespace Dz
open PySem PySem.Spec PyProof.Rows L2 Evl

/-! ### the frozen part of a heap -/
abbrev Ow := Addr → Bool
def mn (H : Hp) (O : Ow) : Hp := fun a => if O a = true then none else H a
def ad (a : Addr) (O : Ow) : Ow := fun b => decide (b = a) || O b
theorem mn_some {H : Hp} {O : Ow} {a : Addr} {o : HO} (h : mn H O a = some o) : H a = some o ∧ O a = false := by
  unfold mn at h
  cases e : O a with
  | true => rw [e] at h; simp at h
  | false => rw [e] at h; simp at h; exact ⟨h, rfl⟩
theorem mn_of {H : Hp} {O : Ow} {a : Addr} {o : HO} (h : H a = some o) (e : O a = false) : mn H O a = some o := by
  unfold mn; rw [e]; simp [h]
theorem mn_le {H : Hp} {O : Ow} : Ex (mn H O) H := fun _ _ h => (mn_some h).1
theorem mn_ex {H H' : Hp} {O : Ow} (e : Ex H H') : Ex (mn H O) (mn H' O) := fun a o h => mn_of (e a o (mn_some h).1) (mn_some h).2
theorem mn_sub {H : Hp} {O O' : Ow} (h : ∀ a, O a = true → O' a = true) : Ex (mn H O') (mn H O) := fun a o q => by
  obtain ⟨q1, q2⟩ := mn_some q
  refine mn_of q1 ?_
  cases e : O a with
  | false => rfl
  | true => rw [h a e] at q2; cases q2
theorem ad_self {a : Addr} {O : Ow} : ad a O a = true := by simp [ad]
theorem ad_sub {a : Addr} {O : Ow} : ∀ b, O b = true → ad a O b = true := fun b h => by simp [ad, h]

/-! ### data stands -/
/-- the script, as data: its ints stand as the keys of a dict -/
def scrD (ns : List Int) : PyData := .dict (ns.map fun n => (.int n, .none))
mutual
inductive Dq (K : PySem.W.Frag) (H : Hp) : V → PyData → Prop
  | non : Dq K H .non .none
  | bl (b : Bool) : Dq K H (.bl b) (.bool b)
  | int (i : Int) : Dq K H (.int i) (.int i)
  | str (x : Str) : Dq K H (.str x) (.str x)
  | lst {a : Addr} {xs : List V} {ds : List PyData} : H a = some (.lst xs) → DqA K H xs ds → Dq K H (.ref a) (.list ds)
  | tup {a : Addr} {xs : List V} {ds : List PyData} : SqT K H a xs → DqA K H xs ds → Dq K H (.ref a) (.tuple ds)
  | scr {a : Addr} {ns : List Int} : SqL K H a (ns.map V.int) → Dq K H (.ref a) (.dict (ns.map fun n => (.int n, .none)))
inductive DqA (K : PySem.W.Frag) (H : Hp) : List V → List PyData → Prop
  | nil : DqA K H [] []
  | cons {v : V} {vs : List V} {d : PyData} {ds : List PyData} : Dq K H v d → DqA K H vs ds → DqA K H (v :: vs) (d :: ds)
end
section
variable {K : PySem.W.Frag} {H H' : Hp}
mutual
theorem dp_up (e : Ex H H') : ∀ {d : PyData} {v : V}, Dq K H v d → Dq K H' v d
  | .none, _, h => by cases h; exact .non
  | .bool b, _, h => by cases h; exact .bl b
  | .int i, _, h => by cases h; exact .int i
  | .str x, _, h => by cases h; exact .str x
  | .list ds, _, h => by
    cases h with
    | lst hs ha => exact .lst (e _ _ hs) (dpa_up e ha)
  | .tuple ds, _, h => by
    cases h with
    | tup hs ha => exact .tup (ex_t e hs) (dpa_up e ha)
  | .dict _, _, h => by
    cases h with
    | scr hs => exact .scr (ex_l e hs)
theorem dpa_up (e : Ex H H') : ∀ {ds : List PyData} {vs : List V}, DqA K H vs ds → DqA K H' vs ds
  | [], _, h => by cases h; exact .nil
  | d :: ds, _, h => by
    cases h with
    | cons h1 h2 => exact .cons (dp_up e h1) (dpa_up e h2)
end
mutual
/-- data without the script -/
theorem dq_dp : ∀ {d : PyData} {v : V}, Dq K H v d → d.canLay0 = true → Dp K H v d
  | .none, _, h, _ => by cases h; exact .non
  | .bool b, _, h, _ => by cases h; exact .bl b
  | .int i, _, h, _ => by cases h; exact .int i
  | .str x, _, h, _ => by cases h; exact .str x
  | .list ds, _, h, c => by
    cases h with
    | lst hs ha => exact .lst (.inl (.inl hs)) (dqa_dpa ha (by simpa [PyData.canLay0] using c))
  | .tuple ds, _, h, c => by
    cases h with
    | tup hs ha => exact .tup hs (dqa_dpa ha (by simpa [PyData.canLay0] using c))
  | .dict _, _, h, c => by simp [PyData.canLay0] at c
theorem dqa_dpa : ∀ {ds : List PyData} {vs : List V}, DqA K H vs ds → PyData.canLayAll0 ds = true → DpAll K H vs ds
  | [], _, h, _ => by cases h; exact .nil
  | d :: ds, _, h, c => by
    cases h with
    | cons h1 h2 =>
      have c' : d.canLay0 = true ∧ PyData.canLayAll0 ds = true := by simpa [PyData.canLayAll0] using c
      exact .cons (dq_dp h1 c'.1) (dqa_dpa h2 c'.2)
end
theorem DqA.len : ∀ {vs : List V} {ds : List PyData}, DqA K H vs ds → vs.length = ds.length
  | _, [], h => by cases h; rfl
  | _, d :: ds, h => by
    cases h with
    | cons _ h2 => simp [DqA.len h2]
theorem DqA.app : ∀ {vs ws : List V} {ds es : List PyData}, DqA K H vs ds → DqA K H ws es → DqA K H (vs ++ ws) (ds ++ es)
  | _, _, [], _, h, g => by cases h; exact g
  | _, _, d :: ds, _, h, g => by
    cases h with
    | cons h1 h2 => exact .cons h1 (DqA.app h2 g)
theorem DqA.get : ∀ {vs : List V} {ds : List PyData} {i : Nat} {d : PyData}, DqA K H vs ds → ds[i]? = some d → ∃ v, vs[i]? = some v ∧ Dq K H v d
  | _, [], _, _, h, e => by simp at e
  | _, d :: ds, i, x, h, e => by
    cases h with
    | @cons v vs _ _ h1 h2 =>
      cases i with
      | zero => simp at e; subst e; exact ⟨v, rfl, h1⟩
      | succ i =>
        obtain ⟨w, q1, q2⟩ := DqA.get (i := i) (d := x) h2 (by simpa using e)
        exact ⟨w, by simpa using q1, q2⟩
theorem DqA.getv {vs : List V} {ds : List PyData} {i : Nat} {v : V} (h : DqA K H vs ds) (e : vs[i]? = some v) : ∃ d, ds[i]? = some d ∧ Dq K H v d := by
  have hl := DqA.len h
  obtain ⟨hi, _⟩ := List.getElem?_eq_some_iff.mp e
  have hi' : i < ds.length := hl ▸ hi
  obtain ⟨w, q1, q2⟩ := DqA.get (d := ds[i]) h (List.getElem?_eq_getElem hi')
  rw [e] at q1; cases q1
  exact ⟨_, List.getElem?_eq_getElem hi', q2⟩
theorem DqA.take : ∀ {vs : List V} {ds : List PyData} (n : Nat), DqA K H vs ds → DqA K H (vs.take n) (ds.take n)
  | _, [], n, h => by cases h; simp; exact .nil
  | _, d :: ds, 0, h => by simp; exact .nil
  | _, d :: ds, n + 1, h => by
    cases h with
    | cons h1 h2 => exact .cons h1 (DqA.take n h2)
theorem DqA.drop : ∀ {vs : List V} {ds : List PyData} (n : Nat), DqA K H vs ds → DqA K H (vs.drop n) (ds.drop n)
  | _, [], n, h => by cases h; simp; exact .nil
  | _, d :: ds, 0, h => h
  | _, d :: ds, n + 1, h => by
    cases h with
    | cons h1 h2 => simpa using DqA.drop n h2
theorem DqA.set : ∀ {vs : List V} {ds : List PyData} (n : Nat) {v : V} {d : PyData}, DqA K H vs ds → Dq K H v d → DqA K H (vs.set n v) (ds.set n d)
  | _, [], n, _, _, h, _ => by cases h; exact .nil
  | _, d :: ds, 0, _, _, h, g => by cases h with | cons h1 h2 => exact .cons g h2
  | _, d :: ds, n + 1, _, _, h, g => by cases h with | cons h1 h2 => exact .cons h1 (DqA.set n h2 g)
theorem DqA.rev : ∀ {vs : List V} {ds : List PyData}, DqA K H vs ds → DqA K H vs.reverse ds.reverse
  | _, [], h => by cases h; exact .nil
  | _, d :: ds, h => by
    cases h with
    | cons h1 h2 => rw [List.reverse_cons, List.reverse_cons]; exact DqA.app (DqA.rev h2) (.cons h1 .nil)
theorem DqA.rep : ∀ (n : Nat) {vs : List V} {ds : List PyData}, DqA K H vs ds → DqA K H (List.replicate n vs).flatten (List.replicate n ds).flatten
  | 0, _, _, h => .nil
  | n + 1, _, _, h => by
    rw [List.replicate_succ, List.replicate_succ, List.flatten_cons, List.flatten_cons]
    exact DqA.app h (DqA.rep n h)
end

/-! ### slots -/
inductive Sl where
  | un
  | dat (d : PyData)
  | own (ds : List PyData)
abbrev En := List Sl

def SlOk (K : PySem.W.Frag) (H0 : Hp) (O : Ow) (H : Hp) (x : Option (Option V)) : Sl → Prop
  | .un => True
  | .dat d => ∃ v, x = some (some v) ∧ Dq K (mn H O) v d
  | .own ds => ∃ a vs, x = some (some (.ref a)) ∧ O a = true ∧ H0 a = none ∧ H a = some (.lst vs) ∧ DqA K (mn H O) vs ds

/-- the slots hold what env says; H0, O0: the entry; O: the lists that are still written to -/
structure Rp (K : PySem.W.Frag) (H0 : Hp) (O0 O : Ow) (H : Hp) (σ : L2.St) (env : En) : Prop where
  z : ∀ a, O0 a = true → H0 a ≠ none
  ex : Ex H0 H
  le : ∀ a, O0 a = true → O a = true
  tr : ∀ a, O a = true → H a ≠ none
  len : σ.length = env.length
  sl : ∀ (i : Nat) s, env[i]? = some s → SlOk K H0 O H σ[i]? s
  ne : ∀ (i j : Nat) ds es, i ≠ j → env[i]? = some (.own ds) → env[j]? = some (.own es) → σ[i]? ≠ σ[j]?

section
variable {K : PySem.W.Frag} {H0 H H' : Hp} {O0 O O' : Ow} {σ : L2.St} {env : En}
theorem SlOk.up {x : Option (Option V)} {s : Sl} (h : SlOk K H0 O H x s) (e : Ex H H') : SlOk K H0 O H' x s := by
  cases s with
  | un => trivial
  | dat d => obtain ⟨v, q, r⟩ := h; exact ⟨v, q, dp_up (mn_ex e) r⟩
  | own ds => obtain ⟨a, vs, q1, q2, q3, q4, q5⟩ := h; exact ⟨a, vs, q1, q2, q3, e _ _ q4, dpa_up (mn_ex e) q5⟩
theorem Rp.up (R : Rp K H0 O0 O H σ env) (e : Ex H H') : Rp K H0 O0 O H' σ env :=
  ⟨R.z, R.ex.trans e, R.le, fun a h => by
    have q := R.tr a h
    cases q2 : H a with
    | none => exact absurd q2 q
    | some o => rw [e a o q2]; simp, R.len, fun i s h => (R.sl i s h).up e, R.ne⟩
theorem Rp.dat (R : Rp K H0 O0 O H σ env) {i : Nat} {d : PyData} (h : env[i]? = some (.dat d)) : ∃ v, σ[i]? = some (some v) ∧ Dq K (mn H O) v d := R.sl i _ h
theorem Rp.own (R : Rp K H0 O0 O H σ env) {i : Nat} {ds : List PyData} (h : env[i]? = some (.own ds)) : ∃ a vs, σ[i]? = some (some (.ref a)) ∧ O a = true ∧ H0 a = none ∧ H a = some (.lst vs) ∧ DqA K (mn H O) vs ds := R.sl i _ h
/-- a fresh place is frozen -/
theorem Rp.fr (R : Rp K H0 O0 O H σ env) {p : Addr} (h : H p = none) : O p = false := by
  cases e : O p with
  | false => rfl
  | true => exact absurd h (R.tr p e)
/-- a slot is stored -/
theorem Rp.set (R : Rp K H0 O0 O H σ env) (i : Nat) {v : V} {d : PyData} (h : Dq K (mn H O) v d) : Rp K H0 O0 O H (σ.set i (some v)) (env.set i (.dat d)) := by
  refine ⟨R.z, R.ex, R.le, R.tr, by simpa using R.len, fun j s e => ?_, fun j k ds es n e1 e2 => ?_⟩
  · by_cases hj : i = j
    · subst hj
      by_cases hi : i < env.length
      · rw [List.getElem?_set_self hi] at e
        cases e
        exact ⟨v, by rw [List.getElem?_set_self (R.len ▸ hi)], h⟩
      · rw [List.getElem?_eq_none (by simpa using Nat.le_of_not_lt hi)] at e
        cases e
    · rw [List.getElem?_set_ne hj] at e ⊢
      exact R.sl j s e
  · have hj : i ≠ j := by
      rintro rfl
      by_cases hi : i < env.length
      · rw [List.getElem?_set_self hi] at e1; cases e1
      · rw [List.getElem?_eq_none (by simpa using Nat.le_of_not_lt hi)] at e1; cases e1
    have hk : i ≠ k := by
      rintro rfl
      by_cases hi : i < env.length
      · rw [List.getElem?_set_self hi] at e2; cases e2
      · rw [List.getElem?_eq_none (by simpa using Nat.le_of_not_lt hi)] at e2; cases e2
    rw [List.getElem?_set_ne hj] at e1 ⊢
    rw [List.getElem?_set_ne hk] at e2 ⊢
    exact R.ne j k ds es n e1 e2
/-- a slot is forgotten -/
theorem Rp.kill (R : Rp K H0 O0 O H σ env) (i : Nat) (x : Option V) : Rp K H0 O0 O H (σ.set i x) (env.set i .un) := by
  refine ⟨R.z, R.ex, R.le, R.tr, by simpa using R.len, fun j s e => ?_, fun j k ds es n e1 e2 => ?_⟩
  · by_cases hj : i = j
    · subst hj
      by_cases hi : i < env.length
      · rw [List.getElem?_set_self hi] at e
        cases e
        trivial
      · rw [List.getElem?_eq_none (by simpa using Nat.le_of_not_lt hi)] at e
        cases e
    · rw [List.getElem?_set_ne hj] at e ⊢
      exact R.sl j s e
  · have hj : i ≠ j := by
      rintro rfl
      by_cases hi : i < env.length
      · rw [List.getElem?_set_self hi] at e1; cases e1
      · rw [List.getElem?_eq_none (by simpa using Nat.le_of_not_lt hi)] at e1; cases e1
    have hk : i ≠ k := by
      rintro rfl
      by_cases hi : i < env.length
      · rw [List.getElem?_set_self hi] at e2; cases e2
      · rw [List.getElem?_eq_none (by simpa using Nat.le_of_not_lt hi)] at e2; cases e2
    rw [List.getElem?_set_ne hj] at e1 ⊢
    rw [List.getElem?_set_ne hk] at e2 ⊢
    exact R.ne j k ds es n e1 e2
theorem Rp.forget (R : Rp K H0 O0 O H σ env) (i : Nat) : Rp K H0 O0 O H σ (env.set i .un) := by
  by_cases hi : i < σ.length
  · have q := R.kill i (σ[i])
    rw [List.set_getElem_self] at q
    exact q
  · rw [List.set_eq_of_length_le (by rw [← R.len]; omega)]
    exact R
/-- one more list is written to from here on -/
theorem Rp.grow (R : Rp K H0 O0 O H σ env) {a : Addr} {vs : List V} {H1 : Hp} (e : Ex H H1) (hn : H a = none) (h1 : H1 a = some (.lst vs)) : Rp K H0 O0 (ad a O) H1 σ env := by
  have F : Ex (mn H O) (mn H1 (ad a O)) := fun b o h => by
    obtain ⟨q1, q2⟩ := mn_some h
    refine mn_of (e b o q1) ?_
    have : b ≠ a := fun z => by rw [z, hn] at q1; cases q1
    simp [ad, this, q2]
  refine ⟨R.z, R.ex.trans e, fun b h => ad_sub b (R.le b h), fun b h => ?_, R.len, fun i s h => ?_, R.ne⟩
  · by_cases hb : b = a
    · rw [hb, h1]; simp
    · have : O b = true := by simpa [ad, hb] using h
      have q := R.tr b this
      cases q2 : H b with
      | none => exact absurd q2 q
      | some o => rw [e b o q2]; simp
  · have q := R.sl i s h
    cases s with
    | un => trivial
    | dat d => obtain ⟨v, q1, q2⟩ := q; exact ⟨v, q1, dp_up F q2⟩
    | own ds => obtain ⟨b, ws, q1, q2, q3, q4, q5⟩ := q; exact ⟨b, ws, q1, ad_sub b q2, q3, e _ _ q4, dpa_up F q5⟩
/-- a new list goes to a slot, to be written to -/
theorem Rp.setN (R : Rp K H0 O0 O H σ env) (i : Nat) {a : Addr} {vs : List V} {ds : List PyData} {H1 : Hp} (e : Ex H H1) (hn : H a = none) (h1 : H1 a = some (.lst vs)) (hd : DqA K (mn H1 (ad a O)) vs ds) :
    Rp K H0 O0 (ad a O) H1 (σ.set i (some (.ref a))) (env.set i (.own ds)) := by
  have G := R.grow e hn h1
  have fresh : ∀ (j : Nat) es, env[j]? = some (.own es) → σ[j]? ≠ some (some (.ref a)) := fun j es h z => by
    obtain ⟨b, ws, q1, _, _, q4, _⟩ := R.own h
    rw [z] at q1
    have : a = b := by simpa using q1
    rw [← this, hn] at q4; cases q4
  refine ⟨G.z, G.ex, G.le, G.tr, by simpa using G.len, fun j s q => ?_, fun j k xs ys n e1 e2 => ?_⟩
  · by_cases hj : i = j
    · subst hj
      by_cases hi : i < env.length
      · rw [List.getElem?_set_self hi] at q
        cases q
        refine ⟨a, vs, by rw [List.getElem?_set_self (R.len ▸ hi)], ad_self, ?_, h1, hd⟩
        cases z : H0 a with
        | none => rfl
        | some o => have := R.ex a o z; rw [hn] at this; cases this
      · rw [List.getElem?_eq_none (by simpa using Nat.le_of_not_lt hi)] at q
        cases q
    · rw [List.getElem?_set_ne hj] at q ⊢
      exact G.sl j s q
  · by_cases hj : i = j
    · subst hj
      rw [List.getElem?_set_ne n] at e2 ⊢
      have hi : i < env.length := by
        apply Nat.lt_of_not_le
        intro z
        rw [List.getElem?_eq_none (by simpa using z)] at e1; cases e1
      rw [List.getElem?_set_self (R.len ▸ hi)]
      exact fun z => fresh k ys e2 z.symm
    · rw [List.getElem?_set_ne hj] at e1 ⊢
      by_cases hk : i = k
      · subst hk
        have hi : i < env.length := by
          apply Nat.lt_of_not_le
          intro z
          rw [List.getElem?_eq_none (by simpa using z)] at e2; cases e2
        rw [List.getElem?_set_self (R.len ▸ hi)]
        exact fresh j xs e1
      · rw [List.getElem?_set_ne hk] at e2 ⊢
        exact G.ne j k xs ys n e1 e2
/-- the list of a slot is written to -/
theorem Rp.write (R : Rp K H0 O0 O H σ env) {i : Nat} {a : Addr} {vs : List V} {ds0 ds : List PyData} (h : env[i]? = some (.own ds0)) (hs : σ[i]? = some (some (.ref a))) (hd : DqA K (mn H O) vs ds) :
    Rp K H0 O0 O (upd H a (.lst vs)) σ (env.set i (.own ds)) ∧ Ex (mn H O) (mn (upd H a (.lst vs)) O) := by
  obtain ⟨b, ws, q1, q2, q3, q4, q5⟩ := R.own h
  have eb : a = b := by rw [hs] at q1; simpa using q1
  subst eb
  have F : Ex (mn H O) (mn (upd H a (.lst vs)) O) := fun b o z => by
    obtain ⟨z1, z2⟩ := mn_some z
    have : b ≠ a := fun w => by rw [w, q2] at z2; cases z2
    exact mn_of (by rw [upd_ne this]; exact z1) z2
  have E0 : Ex H0 (upd H a (.lst vs)) := fun b o z => by
    have : b ≠ a := fun w => by rw [w, q3] at z; cases z
    rw [upd_ne this]; exact R.ex b o z
  have hi : i < env.length := (List.getElem?_eq_some_iff.mp h).1
  refine ⟨⟨R.z, E0, R.le, fun b z => ?_, by simpa using R.len, fun j s e => ?_, fun j k xs ys n e1 e2 => ?_⟩, F⟩
  · by_cases hb : b = a
    · rw [hb, upd_same]; simp
    · rw [upd_ne hb]; exact R.tr b z
  · by_cases hj : i = j
    · subst hj
      rw [List.getElem?_set_self hi] at e
      cases e
      exact ⟨a, vs, hs, q2, q3, upd_same, dpa_up F hd⟩
    · rw [List.getElem?_set_ne hj] at e
      have q := R.sl j s e
      cases s with
      | un => trivial
      | dat d => obtain ⟨v, r1, r2⟩ := q; exact ⟨v, r1, dp_up F r2⟩
      | own es =>
        obtain ⟨c, us, r1, r2, r3, r4, r5⟩ := q
        have : c ≠ a := fun w => by
          have := R.ne i j ds0 es hj h e
          rw [hs, r1, w] at this
          exact this rfl
        exact ⟨c, us, r1, r2, r3, by rw [upd_ne this]; exact r4, dpa_up F r5⟩
  · have f : ∀ (m : Nat) zs, (env.set i (.own ds))[m]? = some (.own zs) → ∃ us, env[m]? = some (.own us) := fun m zs z => by
      by_cases hm : i = m
      · subst hm; exact ⟨ds0, h⟩
      · rw [List.getElem?_set_ne hm] at z; exact ⟨zs, z⟩
    obtain ⟨us, f1⟩ := f j xs e1
    obtain ⟨ws', f2⟩ := f k ys e2
    exact R.ne j k us ws' n f1 f2
/-- the list of a slot is written to no more -/
theorem Rp.freeze (R : Rp K H0 O0 O H σ env) {i : Nat} {ds : List PyData} (h : env[i]? = some (.own ds)) :
    ∃ O', Rp K H0 O0 O' H σ (env.set i (.dat (.list ds))) ∧ Ex (mn H O) (mn H O') := by
  obtain ⟨a, vs, q1, q2, q3, q4, q5⟩ := R.own h
  let O' : Ow := fun b => if b = a then false else O b
  have hO : ∀ b, O' b = true → O b = true ∧ b ≠ a := fun b z => by
    by_cases hb : b = a
    · have : O' b = false := by show (if b = a then false else O b) = false; rw [if_pos hb]
      rw [this] at z; cases z
    · have : O' b = O b := by show (if b = a then false else O b) = O b; rw [if_neg hb]
      rw [this] at z; exact ⟨z, hb⟩
  have hO' : ∀ b, O b = true → b ≠ a → O' b = true := fun b z hb => by
    show (if b = a then false else O b) = true
    rw [if_neg hb]; exact z
  have F : Ex (mn H O) (mn H O') := mn_sub fun b z => (hO b z).1
  have ha : O' a = false := by show (if a = a then false else O a) = false; rw [if_pos rfl]
  have hi : i < env.length := (List.getElem?_eq_some_iff.mp h).1
  refine ⟨O', ⟨R.z, R.ex, fun b z => hO' b (R.le b z) fun w => ?_, fun b z => R.tr b (hO b z).1, by simpa using R.len, fun j s e => ?_, fun j k xs ys n e1 e2 => ?_⟩, F⟩
  · exact R.z b z (by rw [w]; exact q3)
  · by_cases hj : i = j
    · subst hj
      rw [List.getElem?_set_self hi] at e
      cases e
      exact ⟨.ref a, q1, .lst (mn_of q4 ha) (dpa_up F q5)⟩
    · rw [List.getElem?_set_ne hj] at e
      have q := R.sl j s e
      cases s with
      | un => trivial
      | dat d => obtain ⟨v, r1, r2⟩ := q; exact ⟨v, r1, dp_up F r2⟩
      | own es =>
        obtain ⟨c, us, r1, r2, r3, r4, r5⟩ := q
        have : c ≠ a := fun w => by
          have := R.ne i j ds es hj h e
          rw [q1, r1, w] at this
          exact this rfl
        exact ⟨c, us, r1, hO' c r2 this, r3, r4, dpa_up F r5⟩
  · have f : ∀ (m : Nat) zs, (env.set i (.dat (.list ds)))[m]? = some (.own zs) → env[m]? = some (.own zs) := fun m zs z => by
      by_cases hm : i = m
      · subst hm; rw [List.getElem?_set_self hi] at z; cases z
      · rw [List.getElem?_set_ne hm] at z; exact z
    exact R.ne j k xs ys n (f j xs e1) (f k ys e2)
end
end Dz

/-! Dz2: expressions over data. -/
namespace Dz
open PySem PySem.Spec PyProof.Rows L2 Evl

/-- an expression whose value is the data that f tells -/
def tED (K : PySem.W.Frag) (f : En → Option PyData) : TE := fun σ H Q => ∃ (H0 : Hp) (O0 O : Ow) (env : En) (d : PyData), Rp K H0 O0 O H σ env ∧ f env = some d ∧ ∀ v H', Ex H H' → Dq K (mn H' O) v d → Q v H'
def ED (X : Cx) (e : Expr) (f : En → Option PyData) : Prop := PE X e (tED X.K f)
/-- .. a new list -/
def tEN (K : PySem.W.Frag) (f : En → Option (List PyData)) : TE := fun σ H Q => ∃ (H0 : Hp) (O0 O : Ow) (env : En) (ds : List PyData), Rp K H0 O0 O H σ env ∧ f env = some ds ∧ ∀ a vs H', Ex H H' → H a = none → H' a = some (.lst vs) → DqA K (mn H' (ad a O)) vs ds → Q (.ref a) H'
def EN (X : Cx) (e : Expr) (f : En → Option (List PyData)) : Prop := PE X e (tEN X.K f)
/-- .. a list to be read at once (perhaps one that is still written to) -/
def tEL (K : PySem.W.Frag) (f : En → Option (List PyData)) : TE := fun σ H Q => ∃ (H0 : Hp) (O0 O : Ow) (env : En) (ds : List PyData), Rp K H0 O0 O H σ env ∧ f env = some ds ∧ ∀ a vs H', Ex H H' → H' a = some (.lst vs) → DqA K (mn H' O) vs ds → Q (.ref a) H'
def EL (X : Cx) (e : Expr) (f : En → Option (List PyData)) : Prop := PE X e (tEL X.K f)
/-- arguments -/
def tDA (K : PySem.W.Frag) (f : En → Option (List PyData)) : TA := fun σ H Q => ∃ (H0 : Hp) (O0 O : Ow) (env : En) (ds : List PyData), Rp K H0 O0 O H σ env ∧ f env = some ds ∧ ∀ vs H', Ex H H' → DqA K (mn H' O) vs ds → Q vs H'
def DA (X : Cx) (es : List Expr) (f : En → Option (List PyData)) : Prop := PA X es (tDA X.K f)
/-- a test -/
def tDT (K : PySem.W.Frag) (f : En → Option Bool) : TT := fun σ H Q => ∃ (H0 : Hp) (O0 O : Ow) (env : En) (b : Bool), Rp K H0 O0 O H σ env ∧ f env = some b ∧ ∀ H', Ex H H' → Q b H'
def DT (X : Cx) (e : Expr) (f : En → Option Bool) : Prop := PT X e (tDT X.K f)
def DW (X : Cx) (e : Expr) (f : En → Option Bool) : Prop := PW X e (tDT X.K f)
section
variable {X : Cx} {e : Expr} {es : List Expr}
theorem ED.ex {f : En → Option PyData} (h : ED X e f) : ∃ t, PE X e t ∧ ∀ H0 O0 O H σ env, Rp X.K H0 O0 O H σ env → ∀ d, f env = some d → ∀ Q : VK, (∀ v H', Ex H H' → Dq X.K (mn H' O) v d → Q v H') → t σ H Q :=
  ⟨_, h, fun H0 O0 O H σ env R d hd Q q => ⟨H0, O0, O, env, d, R, hd, q⟩⟩
theorem ED.of {f : En → Option PyData} (h : ∃ t, PE X e t ∧ ∀ H0 O0 O H σ env, Rp X.K H0 O0 O H σ env → ∀ d, f env = some d → ∀ Q : VK, (∀ v H', Ex H H' → Dq X.K (mn H' O) v d → Q v H') → t σ H Q) : ED X e f := by
  obtain ⟨t, h, p⟩ := h
  exact ⟨fun pins s σ H Q I ⟨H0, O0, O, env, d, R, hd, q⟩ => h.run pins s σ H Q I (p H0 O0 O H σ env R d hd Q q)⟩
theorem EN.ex {f : En → Option (List PyData)} (h : EN X e f) : ∃ t, PE X e t ∧ ∀ H0 O0 O H σ env, Rp X.K H0 O0 O H σ env → ∀ ds, f env = some ds → ∀ Q : VK, (∀ a vs H', Ex H H' → H a = none → H' a = some (.lst vs) → DqA X.K (mn H' (ad a O)) vs ds → Q (.ref a) H') → t σ H Q :=
  ⟨_, h, fun H0 O0 O H σ env R d hd Q q => ⟨H0, O0, O, env, d, R, hd, q⟩⟩
theorem EN.of {f : En → Option (List PyData)} (h : ∃ t, PE X e t ∧ ∀ H0 O0 O H σ env, Rp X.K H0 O0 O H σ env → ∀ ds, f env = some ds → ∀ Q : VK, (∀ a vs H', Ex H H' → H a = none → H' a = some (.lst vs) → DqA X.K (mn H' (ad a O)) vs ds → Q (.ref a) H') → t σ H Q) : EN X e f := by
  obtain ⟨t, h, p⟩ := h
  exact ⟨fun pins s σ H Q I ⟨H0, O0, O, env, d, R, hd, q⟩ => h.run pins s σ H Q I (p H0 O0 O H σ env R d hd Q q)⟩
theorem EL.ex {f : En → Option (List PyData)} (h : EL X e f) : ∃ t, PE X e t ∧ ∀ H0 O0 O H σ env, Rp X.K H0 O0 O H σ env → ∀ ds, f env = some ds → ∀ Q : VK, (∀ a vs H', Ex H H' → H' a = some (.lst vs) → DqA X.K (mn H' O) vs ds → Q (.ref a) H') → t σ H Q :=
  ⟨_, h, fun H0 O0 O H σ env R d hd Q q => ⟨H0, O0, O, env, d, R, hd, q⟩⟩
theorem EL.of {f : En → Option (List PyData)} (h : ∃ t, PE X e t ∧ ∀ H0 O0 O H σ env, Rp X.K H0 O0 O H σ env → ∀ ds, f env = some ds → ∀ Q : VK, (∀ a vs H', Ex H H' → H' a = some (.lst vs) → DqA X.K (mn H' O) vs ds → Q (.ref a) H') → t σ H Q) : EL X e f := by
  obtain ⟨t, h, p⟩ := h
  exact ⟨fun pins s σ H Q I ⟨H0, O0, O, env, d, R, hd, q⟩ => h.run pins s σ H Q I (p H0 O0 O H σ env R d hd Q q)⟩
theorem DA.ex {f : En → Option (List PyData)} (h : DA X es f) : ∃ t, PA X es t ∧ ∀ H0 O0 O H σ env, Rp X.K H0 O0 O H σ env → ∀ ds, f env = some ds → ∀ Q : List V → Hp → Prop, (∀ vs H', Ex H H' → DqA X.K (mn H' O) vs ds → Q vs H') → t σ H Q :=
  ⟨_, h, fun H0 O0 O H σ env R d hd Q q => ⟨H0, O0, O, env, d, R, hd, q⟩⟩
theorem DA.of {f : En → Option (List PyData)} (h : ∃ t, PA X es t ∧ ∀ H0 O0 O H σ env, Rp X.K H0 O0 O H σ env → ∀ ds, f env = some ds → ∀ Q : List V → Hp → Prop, (∀ vs H', Ex H H' → DqA X.K (mn H' O) vs ds → Q vs H') → t σ H Q) : DA X es f := by
  obtain ⟨t, h, p⟩ := h
  exact ⟨fun pos pins s σ H Q I ⟨H0, O0, O, env, d, R, hd, q⟩ => h.run pos pins s σ H Q I (p H0 O0 O H σ env R d hd Q q)⟩
theorem DT.ex {f : En → Option Bool} (h : DT X e f) : ∃ t, PT X e t ∧ ∀ H0 O0 O H σ env, Rp X.K H0 O0 O H σ env → ∀ b, f env = some b → ∀ Q : Bool → Hp → Prop, (∀ H', Ex H H' → Q b H') → t σ H Q :=
  ⟨_, h, fun H0 O0 O H σ env R d hd Q q => ⟨H0, O0, O, env, d, R, hd, q⟩⟩
theorem DT.of {f : En → Option Bool} (h : ∃ t, PT X e t ∧ ∀ H0 O0 O H σ env, Rp X.K H0 O0 O H σ env → ∀ b, f env = some b → ∀ Q : Bool → Hp → Prop, (∀ H', Ex H H' → Q b H') → t σ H Q) : DT X e f := by
  obtain ⟨t, h, p⟩ := h
  exact ⟨fun pins s σ H Q I ⟨H0, O0, O, env, d, R, hd, q⟩ => h.run pins s σ H Q I (p H0 O0 O H σ env R d hd Q q)⟩
theorem DW.ex {f : En → Option Bool} (h : DW X e f) : ∃ t, PW X e t ∧ ∀ H0 O0 O H σ env, Rp X.K H0 O0 O H σ env → ∀ b, f env = some b → ∀ Q : Bool → Hp → Prop, (∀ H', Ex H H' → Q b H') → t σ H Q :=
  ⟨_, h, fun H0 O0 O H σ env R d hd Q q => ⟨H0, O0, O, env, d, R, hd, q⟩⟩
theorem DW.of {f : En → Option Bool} (h : ∃ t, PW X e t ∧ ∀ H0 O0 O H σ env, Rp X.K H0 O0 O H σ env → ∀ b, f env = some b → ∀ Q : Bool → Hp → Prop, (∀ H', Ex H H' → Q b H') → t σ H Q) : DW X e f := by
  obtain ⟨t, h, p⟩ := h
  exact ⟨fun wh pins s σ H Q I ⟨H0, O0, O, env, d, R, hd, q⟩ => h.run wh pins s σ H Q I (p H0 O0 O H σ env R d hd Q q)⟩
end

/-! ### meanings -/
def asI : PyData → Option Int
  | .int i => some i
  | _ => none
def asB : PyData → Option Bool
  | .bool b => some b
  | _ => none
def asL : PyData → Option (List PyData)
  | .list ds => some ds
  | _ => none
/-- what is walked -/
def asQ : PyData → Option (List PyData)
  | .list ds => some ds
  | .tuple ds => some ds
  | .dict kvs => some (kvs.map (·.1))
  | _ => none
def sVar (i : Nat) (env : En) : Option PyData := match env[i]? with
  | some (.dat d) => some d
  | _ => none
def sOwn (i : Nat) (env : En) : Option (List PyData) := match env[i]? with
  | some (.dat (.list ds)) => some ds
  | some (.own ds) => some ds
  | _ => none
def sC (d : PyData) (_ : En) : Option PyData := some d
def s1 (f : PyData → Option PyData) (a : En → Option PyData) (env : En) : Option PyData := (a env).bind f
def s2 (f : PyData → PyData → Option PyData) (a b : En → Option PyData) (env : En) : Option PyData := (a env).bind fun x => (b env).bind fun y => f x y
def sNil (_ : En) : Option (List PyData) := some []
def sCons (a : En → Option PyData) (r : En → Option (List PyData)) (env : En) : Option (List PyData) := (a env).bind fun x => (r env).bind fun xs => some (x :: xs)
def sAs (g : List PyData → Option PyData) (a : En → Option (List PyData)) (env : En) : Option PyData := (a env).bind g
def sLst (a : En → Option (List PyData)) (env : En) : Option PyData := (a env).bind fun ds => some (.list ds)
def sB (a : En → Option PyData) (env : En) : Option Bool := (a env).bind asB
def sTb (a : En → Option Bool) (env : En) : Option PyData := (a env).bind fun b => some (.bool b)
def sAnd (a b : En → Option Bool) (env : En) : Option Bool := (a env).bind fun x => if x = true then b env else some false
def sOr (a b : En → Option Bool) (env : En) : Option Bool := (a env).bind fun x => if x = true then some true else b env
def sNot (a : En → Option Bool) (env : En) : Option Bool := (a env).bind fun x => some (!x)

/-! ### what gives what -/
section
variable {X : Cx} {e a b c : Expr} {es : List Expr} {fa fb fc f : En → Option PyData} {fl gl : En → Option (List PyData)} {pos : Pos}
theorem EN.ed (h : EN X e fl) : ED X e (sLst fl) := by
  obtain ⟨t, ht, r⟩ := h.ex
  refine ED.of ⟨t, ht, fun H0 O0 O H σ env R d hd Q q => ?_⟩
  unfold sLst at hd
  cases hf : fl env with
  | none => rw [hf] at hd; cases hd
  | some ds =>
    rw [hf] at hd; cases hd
    refine r H0 O0 O H σ env R ds hf Q fun p vs H' e hn hp hq => q _ _ e (.lst (mn_of hp (R.fr hn)) (dpa_up (mn_sub ad_sub) hq))
theorem EN.el (h : EN X e fl) : EL X e fl := by
  obtain ⟨t, ht, r⟩ := h.ex
  exact EL.of ⟨t, ht, fun H0 O0 O H σ env R ds hf Q q => r H0 O0 O H σ env R ds hf Q fun p vs H' e hn hp hq => q _ _ _ e hp (dpa_up (mn_sub ad_sub) hq)⟩
def sL (a : En → Option PyData) (env : En) : Option (List PyData) := (a env).bind asL
theorem ED.el (h : ED X e f) : EL X e (sL f) := by
  obtain ⟨t, ht, r⟩ := h.ex
  refine EL.of ⟨t, ht, fun H0 O0 O H σ env R ds hd Q q => ?_⟩
  unfold sL at hd
  cases hf : f env with
  | none => rw [hf] at hd; cases hd
  | some d =>
    rw [hf] at hd
    cases d with
    | list es =>
      cases hd
      refine r H0 O0 O H σ env R _ hf Q fun v H' e hq => ?_
      cases hq with
      | lst h1 h2 => exact q _ _ _ e (mn_some h1).1 h2
    | _ => cases hd
theorem ed_var {i : Nat} {x : Str} {pos : Pos} (h : PE X (.Name x pos) (tVar i)) : ED X (.Name x pos) (sVar i) := by
  refine ED.of ⟨_, h, fun H0 O0 O H σ env R d hd Q q => ?_⟩
  unfold sVar at hd
  split at hd
  · rename_i d' he
    cases hd
    obtain ⟨v, h1, h2⟩ := R.dat he
    exact ⟨v, h1, q v H (Ex.refl H) h2⟩
  · cases hd
theorem el_var {i : Nat} {x : Str} {pos : Pos} (h : PE X (.Name x pos) (tVar i)) : EL X (.Name x pos) (sOwn i) := by
  refine EL.of ⟨_, h, fun H0 O0 O H σ env R d hd Q q => ?_⟩
  unfold sOwn at hd
  split at hd
  · rename_i ds he
    cases hd
    obtain ⟨v, h1, h2⟩ := R.dat he
    cases h2 with
    | lst h3 h4 => exact ⟨_, h1, q _ _ H (Ex.refl H) (mn_some h3).1 h4⟩
  · rename_i ds he
    cases hd
    obtain ⟨p, vs, h1, _, _, h4, h5⟩ := R.own he
    exact ⟨_, h1, q _ _ H (Ex.refl H) h4 h5⟩
  · cases hd
theorem ed_c {v : V} {d : PyData} (h : PE X e (tC v)) (hd : ∀ H, Dq X.K H v d) : ED X e (sC d) := by
  refine ED.of ⟨_, h, fun H0 O0 O H σ env R d' hd' Q q => ?_⟩
  cases hd'
  exact q v H (Ex.refl H) (hd _)
theorem ed_int {i j pos} : ED X (.Constant (.int i) j pos) (sC (.int i)) := ed_c pe_int fun _ => .int i
theorem ed_bl {b j pos} : ED X (.Constant (.bool b) j pos) (sC (.bool b)) := ed_c pe_bl fun _ => .bl b
theorem ed_non {j pos} : ED X (.Constant .none j pos) (sC .none) := ed_c pe_non fun _ => .non
theorem ed_str {x j pos} : ED X (.Constant (.str x) j pos) (sC (.str x)) := ed_c pe_str fun _ => .str x

/-! ### two-place operations -/
def R2D (K : PySem.W.Frag) (r : R2) (f : PyData → PyData → Option PyData) : Prop := ∀ (H : Hp) (O : Ow) (x y : V) (dx dy dz : PyData), (∀ a, O a = true → H a ≠ none) → Dq K (mn H O) x dx → Dq K (mn H O) y dy → f dx dy = some dz →
  ∀ Q : VK, (∀ v H', Ex H H' → Dq K (mn H' O) v dz → Q v H') → r x y H Q
theorem ed_2 {r : R2} {g : PyData → PyData → Option PyData} {t : TE → TE → TE} (h : ∀ {ta tb}, PE X a ta → PE X b tb → PE X e (tOp r ta tb)) (hr : R2D X.K r g) (ha : ED X a fa) (hb : ED X b fb) : ED X e (s2 g fa fb) := by
  obtain ⟨ta, h1, r1⟩ := ha.ex
  obtain ⟨tb, h2, r2⟩ := hb.ex
  refine ED.of ⟨_, h h1 h2, fun H0 O0 O H σ env R d hd Q q => ?_⟩
  unfold s2 at hd
  cases hx : fa env with
  | none => rw [hx] at hd; cases hd
  | some dx =>
    cases hy : fb env with
    | none => rw [hx, hy] at hd; cases hd
    | some dy =>
      rw [hx, hy] at hd
      refine r1 H0 O0 O H σ env R dx hx _ fun x H1 e1 q1 => ?_
      have R1 := R.up e1
      refine r2 H0 O0 O H1 σ env R1 dy hy _ fun y H2 e2 q2 => ?_
      exact hr H2 O x y dx dy d (R1.up e2).tr (dp_up (mn_ex e2) q1) q2 hd Q fun v H' e3 q3 => q v H' ((e1.trans e2).trans e3) q3
theorem ed_op {op : Operator} {r : R2} {g : PyData → PyData → Option PyData} (ho : OpR X (binaryOp op) r) (hr : R2D X.K r g) (ha : ED X a fa) (hb : ED X b fb) : ED X (.BinOp a op b pos) (s2 g fa fb) :=
  ed_2 (t := fun _ _ => tC .non) (fun h1 h2 => pe_op ho h1 h2) hr ha hb
theorem ed_cmp {op : CmpOp} {r : R2} {g : PyData → PyData → Option PyData} (ho : OpR X (compareOp op) r) (hr : R2D X.K r g) (ha : ED X a fa) (hb : ED X b fb) (hm : behindInMarks op b = false) : ED X (.Compare a [op] [b] pos) (s2 g fa fb) :=
  ed_2 (t := fun _ _ => tC .non) (fun h1 h2 => pe_cmpR ho h1 h2 hm) hr ha hb
/-- a < b < c -/
def sChain (g g' : PyData → PyData → Option PyData) (fa fb fc : En → Option PyData) (env : En) : Option PyData := (fa env).bind fun x => (fb env).bind fun y => (g x y).bind fun d => (asB d).bind fun k => if k = true then (fc env).bind fun z => g' y z else some (.bool false)
theorem ed_chain {op op' : CmpOp} {r r' : R2} {g g' : PyData → PyData → Option PyData} (ho : OpR X (compareOp op) r) (ho' : OpR X (compareOp op') r') (hr : R2D X.K r g) (hr' : R2D X.K r' g') (ha : ED X a fa) (hb : ED X b fb) (hc : ED X c fc)
    (hm : lastMarks [op, op'] [b, c] = false := by with_unfolding_all rfl) : ED X (.Compare a [op, op'] [b, c] pos) (sChain g g' fa fb fc) := by
  obtain ⟨ta, h1, r1⟩ := ha.ex
  obtain ⟨tb, h2, r2⟩ := hb.ex
  obtain ⟨tc, h3, r3⟩ := hc.ex
  refine ED.of ⟨_, pe_chain ho ho' h1 h2 h3 hm, fun H0 O0 O H σ env R d hd Q q => ?_⟩
  unfold sChain at hd
  cases hx : fa env with
  | none => rw [hx] at hd; cases hd
  | some dx =>
    cases hy : fb env with
    | none => rw [hx, hy] at hd; cases hd
    | some dy =>
      rw [hx, hy] at hd
      simp only [Option.bind_some] at hd
      cases hg : g dx dy with
      | none => rw [hg] at hd; cases hd
      | some dk =>
        rw [hg] at hd
        simp only [Option.bind_some] at hd
        cases dk with
        | bool k =>
          simp only [asB, Option.bind_some] at hd
          refine r1 H0 O0 O H σ env R dx hx _ fun x H1 e1 q1 => ?_
          have R1 := R.up e1
          refine r2 H0 O0 O H1 σ env R1 dy hy _ fun y H2 e2 q2 => ?_
          have R2 := R1.up e2
          refine hr H2 O x y dx dy _ R2.tr (dp_up (mn_ex e2) q1) q2 hg _ fun z H3 e3 q3 => ?_
          cases q3
          refine ⟨k, rfl, ?_⟩
          cases k with
          | false =>
            simp only [Bool.false_eq_true, if_false] at hd ⊢
            cases hd
            exact q _ _ ((e1.trans e2).trans e3) (.bl false)
          | true =>
            simp only [if_true] at hd ⊢
            cases hz : fc env with
            | none => rw [hz] at hd; cases hd
            | some dz =>
              rw [hz] at hd
              have R3 := R2.up e3
              refine r3 H0 O0 O H3 σ env R3 dz hz _ fun w H4 e4 q4 => ?_
              exact hr' H4 O y w dy dz d (R3.up e4).tr (dp_up (mn_ex (e3.trans e4)) q2) q4 hd Q fun v H' e5 q5 => q v H' ((((e1.trans e2).trans e3).trans e4).trans e5) q5
        | _ => cases hd
/-! ### truth -/
theorem dt_e (h : ED X e f) (he : ∀ whole, isTrue e X.env whole = (do let v ← whole; standAt e.pos; holding [v] (truthy v)) := by intro _; rfl) : DT X e (sB f) := by
  obtain ⟨t, ht, r⟩ := h.ex
  refine DT.of ⟨_, pt_val ht he, fun H0 O0 O H σ env R d hd Q q => ?_⟩
  unfold sB at hd
  cases hf : f env with
  | none => rw [hf] at hd; cases hd
  | some x =>
    rw [hf] at hd
    cases x with
    | bool b =>
      cases hd
      refine r H0 O0 O H σ env R _ hf _ fun v H' e1 q1 => ?_
      cases q1
      exact ⟨_, rfl, q H' e1⟩
    | _ => cases hd
theorem dt_cmp {op : CmpOp} {r : R2} {g : PyData → PyData → Option PyData} (ho : OpR X (compareOp op) r) (hr : R2D X.K r g) (ha : ED X a fa) (hb : ED X b fb) (hm : behindInMarks op b = false) : DT X (.Compare a [op] [b] pos) (sB (s2 g fa fb)) := by
  obtain ⟨ta, h1, r1⟩ := ha.ex
  obtain ⟨tb, h2, r2⟩ := hb.ex
  refine DT.of ⟨_, pt_cmpR ho h1 h2 hm, fun H0 O0 O H σ env R d hd Q q => ?_⟩
  unfold sB s2 at hd
  cases hx : fa env with
  | none => rw [hx] at hd; cases hd
  | some dx =>
    cases hy : fb env with
    | none => rw [hx, hy] at hd; cases hd
    | some dy =>
      rw [hx, hy] at hd
      simp only [Option.bind_some] at hd
      cases hg : g dx dy with
      | none => rw [hg] at hd; cases hd
      | some dk =>
        rw [hg] at hd
        cases dk with
        | bool k =>
          cases hd
          refine r1 H0 O0 O H σ env R dx hx _ fun x H1 e1 q1 => ?_
          have R1 := R.up e1
          refine r2 H0 O0 O H1 σ env R1 dy hy _ fun y H2 e2 q2 => ?_
          refine hr H2 O x y dx dy _ (R1.up e2).tr (dp_up (mn_ex e2) q1) q2 hg _ fun v H' e3 q3 => ?_
          cases q3
          exact ⟨_, rfl, q H' ((e1.trans e2).trans e3)⟩
        | _ => cases hd
theorem dt_not {g : En → Option Bool} (h : DT X a g) : DT X (.UnaryOp .Not a pos) (sNot g) := by
  obtain ⟨t, ht, r⟩ := h.ex
  refine DT.of ⟨_, pt_not ht, fun H0 O0 O H σ env R d hd Q q => ?_⟩
  unfold sNot at hd
  cases hf : g env with
  | none => rw [hf] at hd; cases hd
  | some x =>
    rw [hf] at hd; cases hd
    exact r H0 O0 O H σ env R x hf _ fun H' e1 => q H' e1
theorem DW.dt {f : En → Option Bool} (h : DW X e f) : DT X e f := let ⟨t, h1, h2⟩ := h.ex; DT.of ⟨t, h1.pt, h2⟩
theorem dw_and1 {g : En → Option Bool} (h : DT X a g) : DW X (.BoolOp .And [a] pos) g := let ⟨t, h1, h2⟩ := h.ex; DW.of ⟨t, pw_and1 h1, h2⟩
theorem dw_or1 {g : En → Option Bool} (h : DT X a g) : DW X (.BoolOp .Or [a] pos) g := let ⟨t, h1, h2⟩ := h.ex; DW.of ⟨t, pw_or1 h1, h2⟩
theorem dw_and {rest : List Expr} {g k : En → Option Bool} (h : DT X a g) (h' : DW X (.BoolOp .And (b :: rest) pos) k) : DW X (.BoolOp .And (a :: b :: rest) pos) (sAnd g k) := by
  obtain ⟨t, h1, r1⟩ := h.ex
  obtain ⟨u, h2, r2⟩ := h'.ex
  refine DW.of ⟨_, pw_and h1 h2, fun H0 O0 O H σ env R d hd Q q => ?_⟩
  unfold sAnd at hd
  cases hf : g env with
  | none => rw [hf] at hd; cases hd
  | some x =>
    rw [hf] at hd
    refine r1 H0 O0 O H σ env R x hf _ fun H1 e1 => ?_
    cases x with
    | true =>
      simp only [Option.bind_some, if_true] at hd ⊢
      exact r2 H0 O0 O H1 σ env (R.up e1) d hd _ fun H' e2 => q H' (e1.trans e2)
    | false =>
      simp only [Option.bind_some, Bool.false_eq_true, if_false] at hd ⊢
      cases hd
      exact q H1 e1
theorem dw_or {rest : List Expr} {g k : En → Option Bool} (h : DT X a g) (h' : DW X (.BoolOp .Or (b :: rest) pos) k) : DW X (.BoolOp .Or (a :: b :: rest) pos) (sOr g k) := by
  obtain ⟨t, h1, r1⟩ := h.ex
  obtain ⟨u, h2, r2⟩ := h'.ex
  refine DW.of ⟨_, pw_or h1 h2, fun H0 O0 O H σ env R d hd Q q => ?_⟩
  unfold sOr at hd
  cases hf : g env with
  | none => rw [hf] at hd; cases hd
  | some x =>
    rw [hf] at hd
    refine r1 H0 O0 O H σ env R x hf _ fun H1 e1 => ?_
    cases x with
    | false =>
      simp only [Option.bind_some, Bool.false_eq_true, if_false] at hd ⊢
      exact r2 H0 O0 O H1 σ env (R.up e1) d hd _ fun H' e2 => q H' (e1.trans e2)
    | true =>
      simp only [Option.bind_some, if_true] at hd ⊢
      cases hd
      exact q H1 e1
/-! as values -/
def sAndV (a b : En → Option PyData) (env : En) : Option PyData := (a env).bind fun d => (asB d).bind fun x => if x = true then (b env) else some (.bool false)
def sOrV (a b : En → Option PyData) (env : En) : Option PyData := (a env).bind fun d => (asB d).bind fun x => if x = true then some (.bool true) else b env
def sNotV (a : En → Option PyData) (env : En) : Option PyData := (a env).bind fun d => (asB d).bind fun x => some (.bool (!x))
theorem ed_one {op} (h : ED X a fa) : ED X (.BoolOp op [a] pos) fa := let ⟨t, h1, h2⟩ := h.ex; ED.of ⟨t, pe_one h1, h2⟩
theorem ed_and {rest : List Expr} (h : ED X a fa) (h' : ED X (.BoolOp .And (b :: rest) pos) fb) : ED X (.BoolOp .And (a :: b :: rest) pos) (sAndV fa fb) := by
  obtain ⟨t, h1, r1⟩ := h.ex
  obtain ⟨u, h2, r2⟩ := h'.ex
  refine ED.of ⟨_, pe_and h1 h2, fun H0 O0 O H σ env R d hd Q q => ?_⟩
  unfold sAndV at hd
  cases hf : fa env with
  | none => rw [hf] at hd; cases hd
  | some x =>
    rw [hf] at hd
    cases x with
    | bool k =>
      simp only [Option.bind_some, asB] at hd
      refine r1 H0 O0 O H σ env R _ hf _ fun v H1 e1 q1 => ?_
      cases q1
      refine ⟨k, rfl, ?_⟩
      cases k with
      | true =>
        simp only [if_true] at hd ⊢
        exact r2 H0 O0 O H1 σ env (R.up e1) d hd _ fun v H' e2 q2 => q v H' (e1.trans e2) q2
      | false =>
        simp only [Bool.false_eq_true, if_false] at hd ⊢
        cases hd
        exact q _ H1 e1 (.bl false)
    | _ => cases hd
theorem ed_or {rest : List Expr} (h : ED X a fa) (h' : ED X (.BoolOp .Or (b :: rest) pos) fb) : ED X (.BoolOp .Or (a :: b :: rest) pos) (sOrV fa fb) := by
  obtain ⟨t, h1, r1⟩ := h.ex
  obtain ⟨u, h2, r2⟩ := h'.ex
  refine ED.of ⟨_, pe_or h1 h2, fun H0 O0 O H σ env R d hd Q q => ?_⟩
  unfold sOrV at hd
  cases hf : fa env with
  | none => rw [hf] at hd; cases hd
  | some x =>
    rw [hf] at hd
    cases x with
    | bool k =>
      simp only [Option.bind_some, asB] at hd
      refine r1 H0 O0 O H σ env R _ hf _ fun v H1 e1 q1 => ?_
      cases q1
      refine ⟨k, rfl, ?_⟩
      cases k with
      | false =>
        simp only [Bool.false_eq_true, if_false] at hd ⊢
        exact r2 H0 O0 O H1 σ env (R.up e1) d hd _ fun v H' e2 q2 => q v H' (e1.trans e2) q2
      | true =>
        simp only [if_true] at hd ⊢
        cases hd
        exact q _ H1 e1 (.bl true)
    | _ => cases hd
theorem ed_not (h : ED X a fa) : ED X (.UnaryOp .Not a pos) (sNotV fa) := by
  obtain ⟨t, h1, r1⟩ := h.ex
  refine ED.of ⟨_, pe_not h1, fun H0 O0 O H σ env R d hd Q q => ?_⟩
  unfold sNotV at hd
  cases hf : fa env with
  | none => rw [hf] at hd; cases hd
  | some x =>
    rw [hf] at hd
    cases x with
    | bool k =>
      cases hd
      refine r1 H0 O0 O H σ env R _ hf _ fun v H1 e1 q1 => ?_
      cases q1
      exact ⟨k, rfl, q _ H1 e1 (.bl (!k))⟩
    | _ => cases hd
/-! ### arguments, displays -/
theorem da_nil : DA X [] sNil := DA.of ⟨_, pa_nil, fun H0 O0 O H σ env R d hd Q q => by cases hd; exact q [] H (Ex.refl H) .nil⟩
theorem da_cons (h : ED X e fa) (hr : DA X es fl) (hs : starEach (e :: es) X.env = (false, eval e X.env) :: starEach es X.env := by rfl) : DA X (e :: es) (sCons fa fl) := by
  obtain ⟨t, h1, r1⟩ := h.ex
  obtain ⟨u, h2, r2⟩ := hr.ex
  refine DA.of ⟨_, pa_cons h1 h2 hs, fun H0 O0 O H σ env R d hd Q q => ?_⟩
  unfold sCons at hd
  cases hx : fa env with
  | none => rw [hx] at hd; cases hd
  | some dx =>
    cases hy : fl env with
    | none => rw [hx, hy] at hd; cases hd
    | some dy =>
      rw [hx, hy] at hd
      cases hd
      refine r1 H0 O0 O H σ env R dx hx _ fun x H1 e1 q1 => ?_
      refine r2 H0 O0 O H1 σ env (R.up e1) dy hy _ fun xs H2 e2 q2 => ?_
      exact q _ H2 (e1.trans e2) (.cons (dp_up (mn_ex e2) q1) q2)
def sTup (a : En → Option (List PyData)) (env : En) : Option PyData := (a env).bind fun ds => if ds.length ≤ sizeLine then some (.tuple ds) else none
def sDis (a : En → Option (List PyData)) (env : En) : Option (List PyData) := (a env).bind fun ds => if ds.length ≤ sizeLine then some ds else none
theorem ed_tup {x1} (h : DA X es fl) : ED X (.Tuple es x1 pos) (sTup fl) := by
  obtain ⟨t, h1, r1⟩ := h.ex
  refine ED.of ⟨_, pe_tup h1, fun H0 O0 O H σ env R d hd Q q => ?_⟩
  unfold sTup at hd
  cases hx : fl env with
  | none => rw [hx] at hd; cases hd
  | some ds =>
    rw [hx, Option.bind_some] at hd
    split at hd
    · rename_i hz
      cases hd
      refine r1 H0 O0 O H σ env R ds hx _ fun xs H1 e1 q1 => ⟨by rw [DqA.len q1]; exact hz, fun p hp => ?_⟩
      have R1 := R.up e1
      exact q _ _ (e1.trans (Ex.new hp)) (.tup (.inl (.inl (mn_of upd_same (R1.fr hp)))) (dpa_up (mn_ex (Ex.new hp)) q1))
    · cases hd
theorem en_lst (h : DA X es fl) : EN X (.List es pos) (sDis fl) := by
  obtain ⟨t, h1, r1⟩ := h.ex
  refine EN.of ⟨_, pe_lst h1, fun H0 O0 O H σ env R d hd Q q => ?_⟩
  unfold sDis at hd
  cases hx : fl env with
  | none => rw [hx] at hd; cases hd
  | some ds =>
    rw [hx, Option.bind_some] at hd
    split at hd
    · rename_i hz
      have hd' : ds = d := Option.some.inj hd
      subst hd'
      refine r1 H0 O0 O H σ env R ds hx _ fun xs H1 e1 q1 => ⟨by rw [DqA.len q1]; exact hz, fun p hp => ?_⟩
      have R1 := R.up e1
      refine q _ xs _ (e1.trans (Ex.new hp)) (fresh_back e1 hp) upd_same (dpa_up (fun b o z => ?_) q1)
      obtain ⟨z1, z2⟩ := mn_some z
      have hb : b ≠ p := ne_of_none z1 hp
      exact mn_of (by rw [upd_ne hb]; exact z1) (by simp [ad, hb, z2])
    · cases hd
/-! ### calls -/
def RCD (K : PySem.W.Frag) (r : List V → Hp → VK → Prop) (f : List PyData → Option PyData) : Prop := ∀ (H : Hp) (O : Ow) (vs : List V) (ds : List PyData) (dz : PyData), (∀ a, O a = true → H a ≠ none) → DqA K (mn H O) vs ds → f ds = some dz →
  ∀ Q : VK, (∀ v H', Ex H H' → Dq K (mn H' O) v dz → Q v H') → r vs H Q
theorem ed_cb {r : List V → Hp → VK → Prop} {g : List PyData → Option PyData} (h : ∀ {t}, PA X es t → PE X e (tCB r t)) (hr : RCD X.K r g) (ha : DA X es fl) : ED X e (sAs g fl) := by
  obtain ⟨t, h1, r1⟩ := ha.ex
  refine ED.of ⟨_, h h1, fun H0 O0 O H σ env R d hd Q q => ?_⟩
  unfold sAs at hd
  cases hx : fl env with
  | none => rw [hx] at hd; cases hd
  | some ds =>
    rw [hx, Option.bind_some] at hd
    refine r1 H0 O0 O H σ env R ds hx _ fun vs H1 e1 q1 => ?_
    exact hr H1 O vs ds d (R.up e1).tr q1 hd Q fun v H' e2 q2 => q v H' (e1.trans e2) q2
/-- a def's promise: it hands back the data f makes of its arguments, all that stood stands -/
def spD (n : Nat) (f : List PyData → Option PyData) (K : PySem.W.Frag) : Sp := fun vs H Q _ => ∃ (O : Ow) (ds : List PyData) (d : PyData), (∀ a, O a = true → H a ≠ none) ∧ ds.length = n ∧ DqA K (mn H O) vs ds ∧ f ds = some d ∧ ∀ v H', Ex H H' → Dq K (mn H' O) v d → Q v H'
theorem ed_call {k j : Nat} {x : Str} {n : Nat} {p : Pos} {g : List PyData → Option PyData} (c : C8.Cal X.prog X.w X.K X.mg X.base k x (spD n g X.K) []) (hr : Room j X.A) (hk : k ≤ j) (hg : Gl X x) (ha : DA X (e :: es) fl) (hn : ∀ env ds, fl env = some ds → ds.length = n)
    (hdb : (x == ("__debug__" : Str)) = false := by decide) (he : starEach (e :: es) X.env = (false, eval e X.env) :: starEach es X.env := by rfl) (hpl : (backTo pos (starEach es X.env)).any (·.1) = false := by rfl) : ED X (.Call (.Name x p) (e :: es) [] pos) (sAs g fl) := by
  obtain ⟨t, h1, r1⟩ := ha.ex
  refine ED.of ⟨_, C8.pe_c c hr hk hg h1 hdb he hpl, fun H0 O0 O H σ env R d hd Q q => ?_⟩
  unfold sAs at hd
  cases hx : fl env with
  | none => rw [hx] at hd; cases hd
  | some ds =>
    rw [hx, Option.bind_some] at hd
    refine r1 H0 O0 O H σ env R ds hx _ fun vs H1 e1 q1 => ?_
    refine ⟨O, ds, d, (R.up e1).tr, hn env ds hx, by rw [List.append_nil]; exact q1, hd, fun v H' e2 q2 => q v H' (e1.trans e2) q2⟩
end
end Dz

/-! Dz3: operators over data. -/
namespace Dz
open PySem PySem.Spec PyProof.Rows L2 Evl

theorem iteS {α : Type} {c : Prop} [Decidable c] {a b : α} (h : (if c then some a else none) = some b) : c ∧ a = b := by
  by_cases hc : c
  · rw [if_pos hc] at h
    exact ⟨hc, Option.some.inj h⟩
  · rw [if_neg hc] at h
    cases h
section
variable {X : Cx} {f : Value → Value → Sem Value} {r r' : R2} {g : PyData → PyData → Option PyData}
theorem opr_or (h : OpR X f r) (h' : OpR X f r') : OpR X f (fun x y H Q => r x y H Q ∨ r' x y H Q) := by
  intro pins s σ H x y v u Q I rx ry q
  rcases q with q | q
  · exact h pins s σ H x y v u Q I rx ry q
  · exact h' pins s σ H x y v u Q I rx ry q
end

/-- a new tuple, a new list behind -/
theorem nu_tup {K : PySem.W.Frag} {H : Hp} {O : Ow} {vs : List V} {ds : List PyData} (tr : ∀ a, O a = true → H a ≠ none) (h : DqA K (mn H O) vs ds) {p : Addr} (hp : H p = none) : Dq K (mn (upd H p (.tup vs)) O) (.ref p) (.tuple ds) := by
  have hO : O p = false := by
    cases e : O p with
    | false => rfl
    | true => exact absurd hp (tr p e)
  exact .tup (.inl (.inl (mn_of upd_same hO))) (dpa_up (mn_ex (Ex.new hp)) h)
theorem nu_lst {K : PySem.W.Frag} {H : Hp} {O : Ow} {vs : List V} {ds : List PyData} (tr : ∀ a, O a = true → H a ≠ none) (h : DqA K (mn H O) vs ds) {p : Addr} (hp : H p = none) : Dq K (mn (upd H p (.lst vs)) O) (.ref p) (.list ds) := by
  have hO : O p = false := by
    cases e : O p with
    | false => rfl
    | true => exact absurd hp (tr p e)
  exact .lst (mn_of upd_same hO) (dpa_up (mn_ex (Ex.new hp)) h)
/-- the items of a new list, the list itself set apart -/
theorem nu_its {K : PySem.W.Frag} {H : Hp} {O : Ow} {vs : List V} {ds : List PyData} (h : DqA K (mn H O) vs ds) {p : Addr} {o : HO} (hp : H p = none) : DqA K (mn (upd H p o) (ad p O)) vs ds := dpa_up (fun b u z => by
    obtain ⟨z1, z2⟩ := mn_some z
    have hb : b ≠ p := ne_of_none z1 hp
    exact mn_of (by rw [upd_ne hb]; exact z1) (by simp [ad, hb, z2])) h
theorem sqT_up {K : PySem.W.Frag} {H : Hp} {O : Ow} {a : Addr} {xs : List V} (h : SqT K (mn H O) a xs) : SqT K H a xs := ex_t mn_le h

/-! ### + - * // % ** -/
def addD : PyData → PyData → Option PyData
  | .int i, .int j => some (.int (i + j))
  | .str x, .str y => if x.length + y.length ≤ sizeLine then some (.str (x ++ y)) else none
  | .tuple xs, .tuple ys => if xs.length + ys.length ≤ sizeLine then some (.tuple (xs ++ ys)) else none
  | .list xs, .list ys => if xs.length + ys.length ≤ sizeLine then some (.list (xs ++ ys)) else none
  | _, _ => none
def rAddA (K : PySem.W.Frag) : R2 := fun x y H Q => ((rI0 (fun i j => .int (i + j)) x y H Q ∨ (∃ i j, x = .str i ∧ y = .str j ∧ i.length + j.length ≤ sizeLine ∧ Q (.str (i ++ j)) H)) ∨ rCatA K x y H Q) ∨ rCat x y H Q
theorem op_addA {X : Cx} : OpR X (binaryOp .Add) (rAddA X.K) := opr_or (opr_or (opr_or op_add op_add_str) op_catA) op_cat
theorem d_add {K : PySem.W.Frag} : R2D K (rAddA K) addD := by
  intro H O x y dx dy dz tr hx hy hd Q q
  cases hx with
  | int i =>
    cases hy with
    | int j => cases hd; exact .inl (.inl (.inl ⟨i, j, rfl, rfl, q _ _ (Ex.refl H) (.int _)⟩))
    | _ => cases hd
  | str a =>
    cases hy with
    | str b =>
      obtain ⟨hz, rfl⟩ := iteS hd
      exact .inl (.inl (.inr ⟨a, b, rfl, rfl, hz, q _ _ (Ex.refl H) (.str _)⟩))
    | _ => cases hd
  | @tup a xs ds h1 h2 =>
    cases hy with
    | @tup b ys es h3 h4 =>
      obtain ⟨hz, rfl⟩ := iteS hd
      refine .inl (.inr ⟨a, b, xs, ys, rfl, rfl, sqT_up h1, sqT_up h3, by rw [DqA.len h2, DqA.len h4]; exact hz, fun e => ?_, fun _ e => ?_, fun _ _ p hp => q _ _ (Ex.new hp) (nu_tup tr (DqA.app h2 h4) hp)⟩)
      · subst e
        cases ds with
        | nil => exact q _ _ (Ex.refl H) (.tup h3 h4)
        | cons _ _ => cases h2
      · subst e
        cases es with
        | nil => rw [List.append_nil] at q; exact q _ _ (Ex.refl H) (.tup h1 h2)
        | cons _ _ => cases h4
    | _ => cases hd
  | @lst a xs ds h1 h2 =>
    cases hy with
    | @lst b ys es h3 h4 =>
      obtain ⟨hz, rfl⟩ := iteS hd
      exact .inr ⟨a, b, xs, ys, rfl, rfl, (mn_some h1).1, (mn_some h3).1, by rw [DqA.len h2, DqA.len h4]; exact hz, fun p hp => q _ _ (Ex.new hp) (nu_lst tr (DqA.app h2 h4) hp)⟩
    | _ => cases hd
  | _ => cases hd
def iiD (c : Int → Int → Bool) (g : Int → Int → Int) : PyData → PyData → Option PyData
  | .int i, .int j => if c i j = true then some (.int (g i j)) else none
  | _, _ => none
theorem d_ii {K : PySem.W.Frag} {C : Int → Int → Prop} {c : Int → Int → Bool} {g : Int → Int → Int} (h : ∀ i j, c i j = true → C i j) : R2D K (rI C fun i j => .int (g i j)) (iiD c g) := by
  intro H O x y dx dy dz tr hx hy hd Q q
  cases hx with
  | int i =>
    cases hy with
    | int j =>
      obtain ⟨hc, rfl⟩ := iteS hd
      exact ⟨i, j, rfl, rfl, h i j hc, q _ _ (Ex.refl H) (.int _)⟩
    | _ => cases hd
  | _ => cases hd
def subD : PyData → PyData → Option PyData
  | .int i, .int j => some (.int (i - j))
  | _, _ => none
theorem d_sub {K : PySem.W.Frag} : R2D K (rI0 fun i j => .int (i - j)) subD := by
  intro H O x y dx dy dz tr hx hy hd Q q
  cases hx with
  | int i =>
    cases hy with
    | int j => cases hd; exact ⟨i, j, rfl, rfl, q _ _ (Ex.refl H) (.int _)⟩
    | _ => cases hd
  | _ => cases hd
def modD : PyData → PyData → Option PyData
  | .int i, .int j => if 0 < j then some (.int (i % j)) else none
  | _, _ => none
theorem d_mod {K : PySem.W.Frag} : R2D K (rI (fun _ j => 0 < j) fun i j => .int (i % j)) modD := by
  intro H O x y dx dy dz tr hx hy hd Q q
  cases hx with
  | int i =>
    cases hy with
    | int j =>
      obtain ⟨hc, rfl⟩ := iteS hd
      exact ⟨i, j, rfl, rfl, hc, q _ _ (Ex.refl H) (.int _)⟩
    | _ => cases hd
  | _ => cases hd
def divD : PyData → PyData → Option PyData
  | .int i, .int j => if 0 < j ∧ j < 1073741824 then some (.int (i / j)) else none
  | _, _ => none
theorem d_div {K : PySem.W.Frag} : R2D K (rI CDiv fun i j => .int (i / j)) divD := by
  intro H O x y dx dy dz tr hx hy hd Q q
  cases hx with
  | int i =>
    cases hy with
    | int j =>
      obtain ⟨hc, rfl⟩ := iteS hd
      exact ⟨i, j, rfl, rfl, hc, q _ _ (Ex.refl H) (.int _)⟩
    | _ => cases hd
  | _ => cases hd
def powD : PyData → PyData → Option PyData
  | .int i, .int j => if 0 ≤ j ∧ j ≤ 1000000 ∧ i.natAbs < 2 ^ 64 then some (.int (i ^ j.toNat)) else none
  | _, _ => none
theorem d_pow {K : PySem.W.Frag} : R2D K (rI CPow fun i j => .int (i ^ j.toNat)) powD := by
  intro H O x y dx dy dz tr hx hy hd Q q
  cases hx with
  | int i =>
    cases hy with
    | int j =>
      obtain ⟨hc, rfl⟩ := iteS hd
      exact ⟨i, j, rfl, rfl, hc, q _ _ (Ex.refl H) (.int _)⟩
    | _ => cases hd
  | _ => cases hd
def mulD : PyData → PyData → Option PyData
  | .int i, .int j => if (-(2 ^ 64) < i ∧ i < 2 ^ 64) ∨ (-(2 ^ 64) < j ∧ j < 2 ^ 64) then some (.int (i * j)) else none
  | .tuple xs, .int k => if 0 < xs.length ∧ 1 ≤ k ∧ k ≤ 1000 ∧ xs.length ≤ 1000 then some (.tuple (List.replicate k.toNat xs).flatten) else none
  | .list xs, .int k => if -(2 ^ 63) ≤ k ∧ k < 2 ^ 63 ∧ xs.length * k.toNat ≤ sizeLine then some (.list (List.replicate k.toNat xs).flatten) else none
  | _, _ => none
def rMulA (K : PySem.W.Frag) : R2 := fun x y H Q => ((rI CMul (fun i j => .int (i * j)) x y H Q ∨ rRepT K x y H Q) ∨ rRep1 K x y H Q) ∨ rRep x y H Q
theorem op_mulA {X : Cx} : OpR X (binaryOp .Mult) (rMulA X.K) := opr_or (opr_or (opr_or op_mul op_repT) op_rep1) op_rep
theorem d_mul {K : PySem.W.Frag} : R2D K (rMulA K) mulD := by
  intro H O x y dx dy dz tr hx hy hd Q q
  cases hx with
  | int i =>
    cases hy with
    | int j =>
      obtain ⟨hc, rfl⟩ := iteS hd
      exact .inl (.inl (.inl ⟨i, j, rfl, rfl, hc, q _ _ (Ex.refl H) (.int _)⟩))
    | _ => cases hd
  | @tup a xs ds h1 h2 =>
    cases hy with
    | int k =>
      obtain ⟨hc, rfl⟩ := iteS hd
      obtain ⟨c1, c2, c3, c4⟩ := hc
      by_cases e : k = 1
      · subst e
        refine .inl (.inr ⟨a, xs, rfl, rfl, sqT_up h1, ?_⟩)
        have : (List.replicate (1 : Int).toNat ds).flatten = ds := by simp
        rw [this] at q
        exact q _ _ (Ex.refl H) (.tup h1 h2)
      · refine .inl (.inl (.inr ⟨a, k, xs, rfl, rfl, sqT_up h1, fun z => ?_, by omega, c3, by rw [DqA.len h2]; exact c4, fun p hp => q _ _ (Ex.new hp) (nu_tup tr (DqA.rep k.toNat h2) hp)⟩))
        subst z
        cases ds with
        | nil => simp at c1
        | cons _ _ => cases h2
    | _ => cases hd
  | @lst a xs ds h1 h2 =>
    cases hy with
    | int k =>
      obtain ⟨hc, rfl⟩ := iteS hd
      obtain ⟨c1, c2, c3⟩ := hc
      exact .inr ⟨a, k, xs, rfl, rfl, (mn_some h1).1, c1, c2, by rw [DqA.len h2]; exact c3, fun p hp => q _ _ (Ex.new hp) (nu_lst tr (DqA.rep k.toNat h2) hp)⟩
    | _ => cases hd
  | _ => cases hd

/-! ### comparisons -/
def eqD (d e : PyData) : Option PyData := if (SeqAt.shaped d && SeqAt.shaped e) = true then some (.bool (PyData.eqv d e)) else none
def neD (d e : PyData) : Option PyData := if (SeqAt.shaped d && SeqAt.shaped e) = true then some (.bool (!PyData.eqv d e)) else none
theorem dq_full {K : PySem.W.Frag} {H : Hp} {O : Ow} {v : V} {d : PyData} (h : Dq K (mn H O) v d) (s : SeqAt.shaped d = true) : Dp K H v d := dq_dp (dp_up mn_le h) (SeqAt.canLay_of_shaped s)
theorem d_eq {K : PySem.W.Frag} : R2D K (rEqD K) eqD := by
  intro H O x y dx dy dz tr hx hy hd Q q
  unfold eqD at hd
  split at hd
  · rename_i hc
    cases hd
    obtain ⟨c1, c2⟩ := Bool.and_eq_true_iff.mp hc
    exact ⟨dx, dy, dq_full hx c1, dq_full hy c2, c1, c2, q _ _ (Ex.refl H) (.bl _)⟩
  · cases hd
theorem d_ne {K : PySem.W.Frag} : R2D K (rNeD K) neD := by
  intro H O x y dx dy dz tr hx hy hd Q q
  unfold neD at hd
  split at hd
  · rename_i hc
    cases hd
    obtain ⟨c1, c2⟩ := Bool.and_eq_true_iff.mp hc
    exact ⟨dx, dy, dq_full hx c1, dq_full hy c2, c1, c2, q _ _ (Ex.refl H) (.bl _)⟩
  · cases hd
def cmpD (g : Int → Int → Bool) : PyData → PyData → Option PyData
  | .int i, .int j => some (.bool (g i j))
  | _, _ => none
theorem d_cmp {K : PySem.W.Frag} {g : Int → Int → Bool} : R2D K (rI0 fun i j => .bl (g i j)) (cmpD g) := by
  intro H O x y dx dy dz tr hx hy hd Q q
  cases hx with
  | int i =>
    cases hy with
    | int j => cases hd; exact ⟨i, j, rfl, rfl, q _ _ (Ex.refl H) (.bl _)⟩
    | _ => cases hd
  | _ => cases hd
abbrev ltD := cmpD fun i j => decide (i < j)
abbrev leD := cmpD fun i j => decide (i ≤ j)
abbrev gtD := cmpD fun i j => decide (j < i)
abbrev geD := cmpD fun i j => decide (j ≤ i)
def signIn (c z : Str) : Option Bool := match c.cps.toList with
  | [k] => some (decide (k ∈ z.cps.toList))
  | _ => none
theorem signIn_some {c z : Str} {b : Bool} (h : signIn c z = some b) : ∃ k, c = ⟨#[k]⟩ ∧ b = decide (k ∈ z.cps.toList) := by
  unfold signIn at h
  split at h
  · rename_i k e
    cases h
    refine ⟨k, ?_, rfl⟩
    obtain ⟨cps⟩ := c
    have : cps = #[k] := Array.ext' e
    rw [this]
  · cases h
/-- x in a list of data; a sign in a text -/
def inD : PyData → PyData → Option PyData
  | d, .list ds => if (SeqAt.shaped d && SeqAt.shaped (.list ds)) = true then some (.bool (ds.any fun z => PyData.eqv z d)) else none
  | .str c, .str z => (signIn c z).bind fun b => some (.bool b)
  | _, _ => none
def niD : PyData → PyData → Option PyData
  | d, .list ds => if (SeqAt.shaped d && SeqAt.shaped (.list ds)) = true then some (.bool (!ds.any fun z => PyData.eqv z d)) else none
  | .str c, .str z => (signIn c z).bind fun b => some (.bool (!b))
  | _, _ => none
def rInA (K : PySem.W.Frag) : R2 := fun x y H Q => rInD K x y H Q ∨ ∃ (c : Nat) (z : Str), x = .str ⟨#[c]⟩ ∧ y = .str z ∧ Q (.bl (decide (c ∈ z.cps.toList))) H
def rNiA (K : PySem.W.Frag) : R2 := fun x y H Q => rNotInD K x y H Q ∨ ∃ (c : Nat) (z : Str), x = .str ⟨#[c]⟩ ∧ y = .str z ∧ Q (.bl (!decide (c ∈ z.cps.toList))) H
theorem op_inA {X : Cx} (hu : X.A.units + 65 < cLine) : OpR X (compareOp .In) (rInA X.K) := opr_or (op_inD hu) op_in_sign
theorem op_niA {X : Cx} (hu : X.A.units + 65 < cLine) : OpR X (compareOp .NotIn) (rNiA X.K) := opr_or (op_notInD hu) op_notIn_sign
theorem d_in {K : PySem.W.Frag} : R2D K (rInA K) inD := by
  intro H O x y dx dy dz tr hx hy hd Q q
  cases hy with
  | @lst a xs ds h1 h2 =>
    have hd' : (if (SeqAt.shaped dx && SeqAt.shaped (.list ds)) = true then some (PyData.bool (ds.any fun z => PyData.eqv z dx)) else none) = some dz := by
      cases dx <;> exact hd
    split at hd'
    · rename_i hc
      cases hd'
      obtain ⟨c1, c2⟩ := Bool.and_eq_true_iff.mp hc
      exact .inl ⟨dx, ds, dq_full hx c1, dq_full (.lst h1 h2) c2, c1, c2, q _ _ (Ex.refl H) (.bl _)⟩
    · cases hd'
  | str z =>
    cases hx with
    | str c =>
      have hd' : (signIn c z).bind (fun b => some (PyData.bool (b))) = some dz := hd
      cases hs : signIn c z with
      | none => rw [hs] at hd'; cases hd'
      | some b =>
        rw [hs] at hd'
        cases hd'
        obtain ⟨k, e, e2⟩ := signIn_some hs
        exact .inr ⟨k, z, by rw [e], rfl, by rw [← e2]; exact q _ _ (Ex.refl H) (.bl _)⟩
    | _ => cases hd
  | _ => cases hx <;> cases hd
theorem d_ni {K : PySem.W.Frag} : R2D K (rNiA K) niD := by
  intro H O x y dx dy dz tr hx hy hd Q q
  cases hy with
  | @lst a xs ds h1 h2 =>
    have hd' : (if (SeqAt.shaped dx && SeqAt.shaped (.list ds)) = true then some (PyData.bool (!ds.any fun z => PyData.eqv z dx)) else none) = some dz := by
      cases dx <;> exact hd
    split at hd'
    · rename_i hc
      cases hd'
      obtain ⟨c1, c2⟩ := Bool.and_eq_true_iff.mp hc
      exact .inl ⟨dx, ds, dq_full hx c1, dq_full (.lst h1 h2) c2, c1, c2, q _ _ (Ex.refl H) (.bl _)⟩
    · cases hd'
  | str z =>
    cases hx with
    | str c =>
      have hd' : (signIn c z).bind (fun b => some (PyData.bool (!b))) = some dz := hd
      cases hs : signIn c z with
      | none => rw [hs] at hd'; cases hd'
      | some b =>
        rw [hs] at hd'
        cases hd'
        obtain ⟨k, e, e2⟩ := signIn_some hs
        exact .inr ⟨k, z, by rw [e], rfl, by rw [← e2]; exact q _ _ (Ex.refl H) (.bl _)⟩
    | _ => cases hd
  | _ => cases hx <;> cases hd
/-- is None, is True -/
def isNoneD : PyData → Bool
  | .none => true
  | _ => false
def isD : PyData → PyData → Option PyData
  | d, .none => some (.bool (isNoneD d))
  | .bool a, .bool b => some (.bool (decide (a = b)))
  | _, _ => none
def isntD : PyData → PyData → Option PyData
  | d, .none => some (.bool (!isNoneD d))
  | .bool a, .bool b => some (.bool (!decide (a = b)))
  | _, _ => none
def rIsA : R2 := fun x y H Q => (y = .non ∧ Q (.bl (decide (x = .non))) H) ∨ ∃ a b, x = .bl a ∧ y = .bl b ∧ Q (.bl (decide (a = b))) H
def rIsntA : R2 := fun x y H Q => (y = .non ∧ Q (.bl (!decide (x = .non))) H) ∨ ∃ a b, x = .bl a ∧ y = .bl b ∧ Q (.bl (!decide (a = b))) H
theorem op_isA {X : Cx} : OpR X (compareOp .Is) rIsA := opr_or op_isN op_is_bl
theorem op_isntA {X : Cx} : OpR X (compareOp .IsNot) rIsntA := opr_or op_notN op_isnot_bl
theorem none_of {K : PySem.W.Frag} {H : Hp} {x : V} {d : PyData} (h : Dq K H x d) : decide (x = .non) = isNoneD d := by
  cases h <;> simp [isNoneD]
theorem d_is {K : PySem.W.Frag} : R2D K rIsA isD := by
  intro H O x y dx dy dz tr hx hy hd Q q
  cases hy with
  | non =>
    have hd' : some (PyData.bool (isNoneD dx)) = some dz := by cases dx <;> exact hd
    cases hd'
    exact .inl ⟨rfl, by rw [none_of hx]; exact q _ _ (Ex.refl H) (.bl _)⟩
  | bl b =>
    cases hx with
    | bl a => cases hd; exact .inr ⟨a, b, rfl, rfl, q _ _ (Ex.refl H) (.bl _)⟩
    | _ => cases hd
  | _ => cases hx <;> cases hd
theorem d_isnt {K : PySem.W.Frag} : R2D K rIsntA isntD := by
  intro H O x y dx dy dz tr hx hy hd Q q
  cases hy with
  | non =>
    have hd' : some (PyData.bool (!isNoneD dx)) = some dz := by cases dx <;> exact hd
    cases hd'
    exact .inl ⟨rfl, by rw [none_of hx]; exact q _ _ (Ex.refl H) (.bl _)⟩
  | bl b =>
    cases hx with
    | bl a => cases hd; exact .inr ⟨a, b, rfl, rfl, q _ _ (Ex.refl H) (.bl _)⟩
    | _ => cases hd
  | _ => cases hx <;> cases hd
end Dz

/-! Dz4: enumerate over a tuple; what is walked, as data. -/
namespace Dz
open PySem PySem.Spec PyProof.Rows L2 Evl

section
variable {X : Cx} {pins : List (Addr × Obj)} {σ : L2.St} {H : Hp} {s : Shared} {a e : Addr} {xs : List V}
theorem fp_ne (I : Inv X pins σ H s) (f : FpOk X pins H e) (h : SqT X.K H a xs) : e ≠ a := by
  intro z
  subst z
  rcases h with h | ⟨o, its, n, hk, _⟩
  · rcases h with h | ⟨o, h⟩
    · rw [f.1] at h; cases h
    · rw [f.1] at h; cases h
  · have hb := I.ok.mod.kin e o hk
    rcases f.2.2.2.1 with z | z
    · exact I.ok.noex e o hb z
    · exact absurd (Nat.lt_of_lt_of_le (Heap.lt_size hb) (Nat.le_trans I.ok.bsz z)) (Nat.lt_irrefl _)
end
/-- enumerate(v), v whatever begins -/
theorem en_meets {v : Value} {o : Obj} {G : Heap → Prop} (B : Begins v o G) :
    Meets (Builtin.«enumerate.__new__» ⟨[.type "enumerate", v], []⟩) (fun _ R s => G s.heap ∧
      R (.ok (.ret (.ref (s.heap.push o).objs.size))) { s with heap := (s.heap.push o).push { cls := .type "enumerate", data := .fields #[.none, .bool false, .ref s.heap.objs.size, rawInt 0, .none, .none] } }) :=
  .of_wp fun prog w A R s h => by
    obtain ⟨hp, g, d, tk, os⟩ := s
    obtain ⟨h1, h⟩ := h
    have hsub := sub_enumerate
    have q1 : ∀ {A2 : Around} {E Q : Value → Shared → Prop}, Q (.ref hp.objs.size) ⟨hp.push o, g, d, tk, os⟩ → wpAny (model prog w) A2 (pyIter v) Q E ⟨hp, g, d, tk, os⟩ :=
      fun q => B.iter prog w _ _ ⟨hp, g, d, tk, os⟩ _ h1 q
    wp_walk using q1
    refine wpAny_stack_any fun st => wpAny_pure ?_
    split
    · rename_i c _ _ _ _ _
      cases (c == Value.type "enumerate") <;> (wp_walk using q1; exact ⟨_, rfl, h⟩)
    · wp_walk using q1
      exact ⟨_, rfl, h⟩
theorem en_call {prog : Program} {w : World} {A : Around} {E : Value → Shared → Prop} {s : Shared} {v : Value} {o : Obj} {G : Heap → Prop} {Q : Value → Shared → Prop} (B : Begins v o G) (h1 : G s.heap)
    (h : ∀ h', IsEnum h' (s.heap.objs.size + 1) s.heap.objs.size 0 .none → h'.get? s.heap.objs.size = some o → (∀ b o, s.heap.get? b = some o → h'.get? b = some o) → Q (.ref (s.heap.objs.size + 1)) { s with heap := h' }) :
    wpAny (model prog w) A (call (.type "enumerate") [v]) Q E s := by
  refine callType_new F.called_enumerate (by decide) (F.typeCall_enumerate_1 _) (F.newCall_enumerate_1 _) (fun obj => F.args_object_init_2 obj _) F.entry_enumerate_new (en_meets B) ⟨h1, ?_⟩
  have hz : (s.heap.push o).objs.size = s.heap.objs.size + 1 := Heap.size_push ..
  show _ ∧ _
  rw [hz]
  have he : IsEnum ((s.heap.push o).push { cls := .type "enumerate", data := .fields #[.none, .bool false, .ref s.heap.objs.size, rawInt 0, .none, .none] }) (s.heap.objs.size + 1) s.heap.objs.size 0 .none := by
    have z := Heap.get?_push_size (s.heap.push o) (o := { cls := .type "enumerate", data := .fields #[.none, .bool false, .ref s.heap.objs.size, rawInt 0, .none, .none] }) rfl
    rw [hz] at z
    exact z
  exact ⟨⟨_, he, rfl⟩, h _ he (Heap.get?_push_of_some _ (Heap.get?_push_size _ B.free)) fun b o x => Heap.get?_push_of_some _ (Heap.get?_push_of_some _ x)⟩
/-- the tuple at a, each item in a new pair -/
def IteT (K : PySem.W.Frag) (a : Addr) : It where
  go := fun i H => ∃ (xs : List V) (x : V), SqT K H a xs ∧ xs[i]? = some x
  yld := fun i H v H' => ∃ T x, v = .ref T ∧ H T = none ∧ H' = upd H T (.tup [.int (i : Nat), x]) ∧ ∀ xs, SqT K H a xs → xs[i]? = some x
  stop := fun i H => ∃ xs : List V, SqT K H a xs ∧ xs.length = i
theorem turn_enumT {P : Program} {w : World} {K : PySem.W.Frag} {elts : List Expr} {kk : Nat} {tpos : Pos} (a e it : Addr) :
    Turn P w K (.Tuple elts kk tpos) (IteT K a) [e, it] e (fun i h => (∃ old, IsEnum h e it ((i : Nat) : Int) old) ∧ h.IsTupleIter it a i ∧ e ≠ it) where
  mem := by simp
  obj := fun i h st b hb => by
    obtain ⟨⟨old, he⟩, ⟨o, ho, hc, hd⟩, _⟩ := st
    have ee : b = e ∨ b = it := by simpa using hb
    rcases ee with z | z
    · subst z; exact ⟨_, he, fun v q => nomatch q⟩
    · subst z; exact ⟨o, ho, fun v q => by rw [hd] at q; cases q⟩
  keep := fun i h h' st k => ⟨let ⟨old, he⟩ := st.1; ⟨old, k e (by simp) _ he⟩, st.2.1.at fun o q => k it (by simp) o q, st.2.2⟩
  item := by
    intro X hP hw hK hc i pins s σ H E I hf st hg
    subst hP hw hK
    obtain ⟨⟨old, he⟩, hit, hne⟩ := st
    obtain ⟨xs, x, hq, hx⟩ := hg
    obtain ⟨its, rv, p, hz⟩ := I.tuple hq
    obtain ⟨u, hu, ru⟩ := rv.get hx
    have hel : e < s.heap.objs.size := Heap.lt_size he
    have hil : it < s.heap.objs.size := let ⟨_, q, _⟩ := hit; Heap.lt_size q
    have n1 : e ≠ a := fp_ne I (hf e (by simp)) hq
    have n2 : a ≠ it := Ne.symm (fp_ne I (hf it (by simp)) hq)
    have hh : X.A.in1.handled = none := I.ok.hd hc
    have hlt : i < its.toArray.size := by
      have := (List.getElem?_eq_some_iff.mp hu).1
      simpa using this
    refine wpAny_pyNext_enum_itemD (Draws.tuple hh it a n2 its.toArray) he ⟨hit, p⟩ hlt hne (by simp [hne, n1]) fun x' h' tk hP ho hst hT hsz hk => ?_
    have ex : x' = u := by
      have hP' : its.toArray[i]? = some x' := hP
      rw [List.getElem?_toArray, hu] at hP'
      exact (Option.some.inj hP').symm
    subst ex
    obtain ⟨hit', _⟩ := hst
    refine ⟨_, rfl, wpAny_letOwnedTupleGo_enum (s := { s with heap := h', toks := tk + 1 }) ho fun h'' he' sb => ?_⟩
    have hT2 : h''.get? s.heap.objs.size = some { cls := .type "tuple", data := .seq #[.int i tk, x'] } := (sb.2 _ (Nat.ne_of_gt hel)).trans hT
    have new : ObjOk X.prog X.w (upd H s.heap.objs.size (.tup [.int (i : Nat), x])) h'' s.heap.objs.size (.tup [.int (i : Nat), x]) :=
      ⟨by show 2 ≤ sizeLine; decide, [.int i tk, x'], .cons ⟨_, rfl⟩ (.cons ru .nil), ⟨_, hT2, rfl, _, rfl⟩⟩
    have I1 : Inv X pins σ (upd H s.heap.objs.size (.tup [.int (i : Nat), x])) { s with heap := h'', toks := tk + 1 } :=
      I.turnedNew (ch := [e, it]) (fun b ob hb q => (sb.2 b (fun z => hb (by simp [z]))).trans (hk b ob (fun z => hb (by simp [z])) (fun z => hb (by simp [z])) q)) hf (Nat.le_refl _) new
    refine ⟨.ref s.heap.objs.size, _, I1, rfl, ⟨_, x, rfl, I.hok.fresh (Nat.le_refl _), rfl, fun ys hy => by rw [I.tuple_inj hy hq]; exact hx⟩, ⟨⟨x', ?_⟩, hit'.at fun o q => (sb.2 it (Ne.symm hne)).trans q, hne⟩, fun b hb => ?_⟩
    · rw [show ((i + 1 : Nat) : Int) = (i : Int) + 1 by omega]
      exact he'
    · have hb' : b < s.heap.objs.size := by
        have ee : b = e ∨ b = it := by simpa using hb
        rcases ee with z | z <;> (rw [z]; assumption)
      rw [upd_ne (Nat.ne_of_lt hb')]
      exact (hf b hb).1
  done := by
    intro X hP hw hK hc i pins s σ H E I hf st hg
    subst hP hw hK
    obtain ⟨⟨old, he⟩, hit, hne⟩ := st
    obtain ⟨xs, hq, hx⟩ := hg
    obtain ⟨its, rv, p, hz⟩ := I.tuple hq
    obtain ⟨f0, f1, f2, f3, f4, f5⟩ := hf it (by simp)
    have hl := rv.length
    have n2 : a ≠ it := Ne.symm (fp_ne I (hf it (by simp)) hq)
    have hh : X.A.in1.handled = none := I.ok.hd hc
    have hi : i = its.toArray.size := by rw [List.size_toArray, ← hl, hx]
    rw [hi] at hit
    exact wpAny_pyNext_enum_endD (Draws.tuple hh it a n2 its.toArray) he ⟨hit, p⟩ fun h' eb => ⟨rfl, I.turned (t' := s.toks) (fun b o hb q => eb b o hb q) f0 f1 f3 f4 f5⟩
  self := fun A i s Q E st h => let ⟨⟨_, he⟩, _⟩ := st; wpAny_pyIter_enum he h
end Dz

/-! Dz5: what is walked, targets, comprehensions. -/
namespace Dz
open PySem PySem.Spec PyProof.Rows L2 Evl RZ

/-- J walks the data ds: while F stands; what it gives at turn i is the i-th of ds. F1: the frozen part at the start -/
def Wk (K : PySem.W.Frag) (F F1 : Hp) (ds : List PyData) (J : It) : Prop :=
  Walk J ds.length (fun H2 => Ex F H2) fun i H2 x H3 => ∃ d, ds[i]? = some d ∧ Ex H2 H3 ∧ ∀ O2 : Ow, Ex F1 (mn H2 O2) → (∀ a, O2 a = true → H2 a ≠ none) → Dq K (mn H3 O2) x d
theorem Wk.weak {K : PySem.W.Frag} {F F' F1 : Hp} {ds : List PyData} {J : It} (w : Wk K F F1 ds J) (h : Ex F F') : Wk K F' F1 ds J := Walk.mono w (fun H2 e => h.trans e) fun _ _ _ _ _ _ y => y
/-- what a for walks -/
def tDI (K : PySem.W.Frag) (f : En → Option (List PyData)) : TI := fun σ H R => ∃ (H0 : Hp) (O0 O : Ow) (env : En) (ds : List PyData), Rp K H0 O0 O H σ env ∧ f env = some ds ∧ ∀ J H', Ex H H' → Wk K (mn H' O) (mn H' O) ds J → R J H'
def DI (X : Cx) (tg iter : Expr) (f : En → Option (List PyData)) : Prop := PI X tg iter (tDI X.K f)
/-- what a comprehension walks: nothing is written meanwhile -/
def tDIc (K : PySem.W.Frag) (f : En → Option (List PyData)) : TI := fun σ H R => ∃ (H0 : Hp) (O0 O : Ow) (env : En) (ds : List PyData), Rp K H0 O0 O H σ env ∧ f env = some ds ∧ ∀ J H', Ex H H' → Wk K H' (mn H' O) ds J → R J H'
def DIc (X : Cx) (tg iter : Expr) (f : En → Option (List PyData)) : Prop := PI X tg iter (tDIc X.K f)
section
variable {X : Cx} {tg iter e e2 : Expr} {f g : En → Option PyData} {fl gl : En → Option (List PyData)}
theorem DI.of (h : ∃ w, PI X tg iter w ∧ ∀ H0 O0 O H σ env, Rp X.K H0 O0 O H σ env → ∀ ds, fl env = some ds → ∀ R : It → Hp → Prop, (∀ J H', Ex H H' → Wk X.K (mn H' O) (mn H' O) ds J → R J H') → w σ H R) : DI X tg iter fl := by
  obtain ⟨w, h, p⟩ := h
  exact ⟨fun pins s σ H R I ⟨H0, O0, O, env, ds, R', hd, q⟩ => h.run pins s σ H R I (p H0 O0 O H σ env R' ds hd R q)⟩
theorem DIc.of (h : ∃ w, PI X tg iter w ∧ ∀ H0 O0 O H σ env, Rp X.K H0 O0 O H σ env → ∀ ds, fl env = some ds → ∀ R : It → Hp → Prop, (∀ J H', Ex H H' → Wk X.K H' (mn H' O) ds J → R J H') → w σ H R) : DIc X tg iter fl := by
  obtain ⟨w, h, p⟩ := h
  exact ⟨fun pins s σ H R I ⟨H0, O0, O, env, ds, R', hd, q⟩ => h.run pins s σ H R I (p H0 O0 O H σ env R' ds hd R q)⟩
theorem DI.c (h : DI X tg iter fl) : DIc X tg iter fl := .of ⟨_, h, fun H0 O0 O H σ env R ds hd Q q => ⟨H0, O0, O, env, ds, R, hd, fun J H' e w => q J H' e (w.weak mn_le)⟩⟩
/-- a list or a tuple -/
def iSeq (K : PySem.W.Frag) (tl : TE) : TI := fun σ H R => tl σ H fun x H1 => ∃ a, x = .ref a ∧ (((∃ xs, SqL K H1 a xs) ∧ R (Itl K a) H1) ∨ ((∃ xs, SqT K H1 a xs) ∧ R (Itt K a) H1))
theorem pi_seq {tl : TE} (hl : PE X e tl) : PI X tg e (iSeq X.K tl) := by
  refine ⟨fun pins s σ H R I h => ?_⟩
  refine thn (hl.run pins s σ H _ I h) fun v s1 ⟨x, H1, I1, r1, q1⟩ => ?_
  obtain ⟨a, rfl, q⟩ := q1
  cases r1
  have fp : ∀ b ∈ [s1.heap.objs.size], FpOk X pins H1 b := fun b hb => by
    have ee : b = s1.heap.objs.size := by simpa using hb
    subst ee
    exact I1.fpOk (Nat.le_refl _) (I1.hok.fresh (Nat.le_refl _))
  rcases q with ⟨⟨xs, hq⟩, q⟩ | ⟨⟨xs, hq⟩, q⟩
  · obtain ⟨its, rv, p, hz⟩ := I1.list hq
    refine wpAny_pyIter_list p.isList ?_
    exact ⟨s1.heap.objs.size, [s1.heap.objs.size], _, _, H1, rfl, I1.kept (t' := s1.toks) fun b o e => Heap.get?_push_of_some _ e, turn_list a _, ⟨_, Heap.get?_push_size _ rfl, rfl, rfl⟩, fp, q⟩
  · obtain ⟨its, rv, p, hz⟩ := I1.tuple hq
    refine wpAny_pyIter_tuple (show s1.heap.IsTuple a its.toArray from p) ?_
    exact ⟨s1.heap.objs.size, [s1.heap.objs.size], _, _, H1, rfl, I1.kept (t' := s1.toks) fun b o e => Heap.get?_push_of_some _ e, turn_tuple a _, ⟨_, Heap.get?_push_size _ rfl, rfl, rfl⟩, fp, q⟩
theorem wk_list {K : PySem.W.Frag} {F F1 : Hp} {a : Addr} {xs : List V} {ds : List PyData} (h : SqL K F a xs) (hd : DqA K F1 xs ds) : Wk K F F1 ds (Itl K a) := by
  unfold Wk
  rw [← DqA.len hd]
  refine Walk.mono (walk_list (xs := xs)) (fun H2 e => ex_l e h) fun i H2 x H3 hi e y => ?_
  obtain ⟨rfl, hx⟩ := y
  obtain ⟨d, h1, h2⟩ := DqA.getv hd hx
  exact ⟨d, h1, Ex.refl _, fun O2 e2 _ => dp_up e2 h2⟩
theorem wk_tup {K : PySem.W.Frag} {F F1 : Hp} {a : Addr} {xs : List V} {ds : List PyData} (h : SqT K F a xs) (hd : DqA K F1 xs ds) : Wk K F F1 ds (Itt K a) := by
  unfold Wk
  rw [← DqA.len hd]
  refine Walk.mono (walk_tup (xs := xs)) (fun H2 e => ex_t e h) fun i H2 x H3 hi e y => ?_
  obtain ⟨rfl, hx⟩ := y
  obtain ⟨d, h1, h2⟩ := DqA.getv hd hx
  exact ⟨d, h1, Ex.refl _, fun O2 e2 _ => dp_up e2 h2⟩
theorem dqa_ints {K : PySem.W.Frag} {H : Hp} : ∀ ns : List Int, DqA K H (ns.map V.int) (ns.map PyData.int)
  | [] => .nil
  | n :: ns => .cons (.int n) (dqa_ints ns)
def sQ (a : En → Option PyData) (env : En) : Option (List PyData) := (a env).bind asQ
theorem di_seq (h : ED X e f) : DI X tg e (sQ f) := by
  obtain ⟨t, ht, r⟩ := h.ex
  refine .of ⟨_, pi_seq ht, fun H0 O0 O H σ env R ds hd Q q => ?_⟩
  unfold sQ at hd
  cases hf : f env with
  | none => rw [hf] at hd; cases hd
  | some d =>
    rw [hf] at hd
    refine r H0 O0 O H σ env R d hf _ fun v H' e hq => ?_
    cases hq with
    | @lst a xs es h1 h2 =>
      cases hd
      exact ⟨a, rfl, .inl ⟨⟨xs, ex_l mn_le (.inl (.inl h1))⟩, q _ H' e (wk_list (.inl (.inl h1)) h2)⟩⟩
    | @tup a xs es h1 h2 =>
      cases hd
      exact ⟨a, rfl, .inr ⟨⟨xs, sqT_up h1⟩, q _ H' e (wk_tup h1 h2)⟩⟩
    | @scr a ns h1 =>
      cases hd
      refine ⟨a, rfl, .inl ⟨⟨_, ex_l mn_le h1⟩, q _ H' e ?_⟩⟩
      have hm : List.map (fun x : PyData × PyData => x.1) (ns.map fun n => (PyData.int n, PyData.none)) = ns.map PyData.int := by rw [List.map_map]; rfl
      show Wk X.K (mn H' O) (mn H' O) (List.map (fun x : PyData × PyData => x.1) (ns.map fun n => (PyData.int n, PyData.none))) (Itl X.K a)
      rw [hm]
      exact wk_list h1 (dqa_ints ns)
    | _ => cases hd
/-- a list that may still be written to behind the comprehension -/
theorem dc_list (h : EL X e fl) : DIc X tg e fl := by
  obtain ⟨t, ht, r⟩ := h.ex
  refine .of ⟨_, pi_list ht, fun H0 O0 O H σ env R ds hd Q q => ?_⟩
  refine r H0 O0 O H σ env R ds hd _ fun a vs H' e h1 h2 => ⟨a, rfl, ⟨vs, .inl (.inl h1)⟩, q _ H' e (wk_list (.inl (.inl h1)) h2)⟩
/-- range(n), range(a, b) -/
def rgL (lo : Int) (n : Nat) : List PyData := (List.range n).map fun i => .int (lo + (i : Nat))
def rg1 : List PyData → Option (List PyData)
  | [.int n] => if -(2 ^ 62) ≤ n ∧ n < 2 ^ 62 then some (rgL 0 n.toNat) else none
  | _ => none
def rg2 : List PyData → Option (List PyData)
  | [.int a, .int b] => if -(2 ^ 62) ≤ a ∧ a < 2 ^ 62 ∧ -(2 ^ 62) ≤ b ∧ b < 2 ^ 62 then some (rgL a (b - a).toNat) else none
  | _ => none
def sArg (r : List PyData → Option (List PyData)) (fl : En → Option (List PyData)) (env : En) : Option (List PyData) := (fl env).bind r
theorem wk_range {K : PySem.W.Frag} {F F1 : Hp} {lo : Int} {n : Nat} : Wk K F F1 (rgL lo n) (Itr lo n) := by
  unfold Wk
  have hl : (rgL lo n).length = n := by simp [rgL]
  rw [hl]
  refine Walk.mono walk_range (fun _ _ => trivial) fun i H2 x H3 hi e y => ?_
  obtain ⟨rfl, rfl⟩ := y
  exact ⟨.int (lo + i), by simp [rgL, hi], Ex.refl _, fun O2 _ _ => .int _⟩
theorem di_rg1 {p pos : Pos} (hg : Gl X "range") (hm : X.mg "range" = none) (ha : DA X [e] fl) (hs : starEach [e] X.env = [(false, eval e X.env)] := by rfl) : DI X tg (.Call (.Name "range" p) [e] [] pos) (sArg rg1 fl) := by
  obtain ⟨t, ht, r⟩ := ha.ex
  refine .of ⟨_, pi_range1 hg hm ht hs, fun H0 O0 O H σ env R ds hd Q q => ?_⟩
  unfold sArg at hd
  cases hf : fl env with
  | none => rw [hf] at hd; cases hd
  | some xs =>
    rw [hf] at hd
    refine r H0 O0 O H σ env R xs hf _ fun vs H' e hq => ?_
    match xs, hq, hd with
    | [.int n], .cons (.int _) .nil, hd =>
      obtain ⟨hc, rfl⟩ := iteS hd
      exact ⟨n, rfl, hc.1, hc.2, q _ H' e wk_range⟩
theorem di_rg2 {p pos : Pos} (hg : Gl X "range") (hm : X.mg "range" = none) (ha : DA X [e, e2] fl) (hs : starEach [e, e2] X.env = [(false, eval e X.env), (false, eval e2 X.env)] := by rfl) (hs2 : starEach [e2] X.env = [(false, eval e2 X.env)] := by rfl) :
    DI X tg (.Call (.Name "range" p) [e, e2] [] pos) (sArg rg2 fl) := by
  obtain ⟨t, ht, r⟩ := ha.ex
  refine .of ⟨_, pi_range2 hg hm ht hs hs2, fun H0 O0 O H σ env R ds hd Q q => ?_⟩
  unfold sArg at hd
  cases hf : fl env with
  | none => rw [hf] at hd; cases hd
  | some xs =>
    rw [hf] at hd
    refine r H0 O0 O H σ env R xs hf _ fun vs H' e hq => ?_
    match xs, hq, hd with
    | [.int a, .int b], .cons (.int _) (.cons (.int _) .nil), hd =>
      obtain ⟨hc, rfl⟩ := iteS hd
      exact ⟨a, b, rfl, hc, q _ H' e wk_range⟩
/-- pairs -/
def zipL (xs ys : List PyData) : List PyData := List.zipWith (fun x y => .tuple [x, y]) xs ys
def enL (xs : List PyData) : List PyData := xs.zipIdx.map fun p => .tuple [.int (p.2 : Nat), p.1]
def zp : List PyData → Option (List PyData)
  | [.list xs, .list ys] => some (zipL xs ys)
  | [.tuple xs, .tuple ys] => some (zipL xs ys)
  | _ => none
def enu : List PyData → Option (List PyData)
  | [.list xs] => some (enL xs)
  | [.tuple xs] => some (enL xs)
  | _ => none
theorem pair_d {K : PySem.W.Frag} {H : Hp} {O : Ow} {x y : V} {dx dy : PyData} {T : Addr} (tr : ∀ a, O a = true → H a ≠ none) (hT : H T = none) (hx : Dq K (mn H O) x dx) (hy : Dq K (mn H O) y dy) : Dq K (mn (upd H T (.tup [x, y])) O) (.ref T) (.tuple [dx, dy]) :=
  nu_tup tr (.cons hx (.cons hy .nil)) hT
theorem wk_zipG {K : PySem.W.Frag} {F F1 : Hp} {xs ys : List V} {ds es : List PyData} {J : It} (w : Walk J (min xs.length ys.length) (fun H2 => Ex F H2) (YPair (fun i => xs[i]?) (fun i => ys[i]?))) (h1 : DqA K F1 xs ds) (h2 : DqA K F1 ys es) : Wk K F F1 (zipL ds es) J := by
  unfold Wk
  have hl : (zipL ds es).length = min xs.length ys.length := by simp [zipL, DqA.len h1, DqA.len h2]
  rw [hl]
  refine Walk.mono w (fun _ e => e) fun i H2 x H3 hi e y => ?_
  obtain ⟨T, a, b, rfl, hT, rfl, ha, hb⟩ := y
  obtain ⟨da, g1, g2⟩ := DqA.getv h1 ha
  obtain ⟨db, k1, k2⟩ := DqA.getv h2 hb
  refine ⟨.tuple [da, db], ?_, Ex.new hT, fun O2 e2 tr => pair_d tr hT (dp_up e2 g2) (dp_up e2 k2)⟩
  unfold zipL
  rw [List.getElem?_zipWith, g1, k1]
theorem walk_zipT {K : PySem.W.Frag} {a b : Addr} {xs ys : List V} : Walk (ItzT K a b) (min xs.length ys.length) (fun H => SqT K H a xs ∧ SqT K H b ys) (YPair (fun i => xs[i]?) (fun i => ys[i]?)) := by
  refine ⟨fun i H hi q => ?_, fun H q => ⟨xs, ys, q.1, q.2, by omega⟩, fun i H v H' _ q y => ?_⟩
  · have h1 : i < xs.length := by omega
    have h2 : i < ys.length := by omega
    exact ⟨xs, ys, xs[i], ys[i], q.1, q.2, by simp [h1], by simp [h2]⟩
  · obtain ⟨T, x, z, h1, h2, h3, h4, h5⟩ := y
    exact ⟨T, x, z, h1, h2, h3, h4 xs q.1, h5 ys q.2⟩
theorem di_zip {p pos tpos : Pos} {elts : List Expr} {kk : Nat} (hg : Gl X "zip") (hm : X.mg "zip" = none) (ha : DA X [e, e2] fl)
    (hs : starEach [e, e2] X.env = (false, eval e X.env) :: starEach [e2] X.env := by rfl) (hpl : (backTo pos (starEach [e2] X.env)).any (·.1) = false := by rfl) : DI X (.Tuple elts kk tpos) (.Call (.Name "zip" p) [e, e2] [] pos) (sArg zp fl) := by
  obtain ⟨t, ht, r⟩ := ha.ex
  refine .of ⟨_, pi_zipA hg hm ht hs hpl, fun H0 O0 O H σ env R ds hd Q q => ?_⟩
  unfold sArg at hd
  cases hf : fl env with
  | none => rw [hf] at hd; cases hd
  | some xs =>
    rw [hf] at hd
    refine r H0 O0 O H σ env R xs hf _ fun vs H' e hq => ?_
    match xs, hq, hd with
    | [.list ds, .list es], .cons (@Dq.lst _ _ a us _ h1 h2) (.cons (@Dq.lst _ _ b ws _ h3 h4) .nil), hd =>
      cases hd
      refine ⟨a, b, us, ws, rfl, .inl ⟨.inl (.inl (mn_some h1).1), .inl (.inl (mn_some h3).1), q _ H' e (wk_zipG (Walk.mono (walk_zip rfl) (fun H2 ee => ⟨ex_l ee (.inl (.inl h1)), ex_l ee (.inl (.inl h3))⟩) fun _ _ _ _ _ _ y => y) h2 h4)⟩⟩
    | [.tuple ds, .tuple es], .cons (@Dq.tup _ _ a us _ h1 h2) (.cons (@Dq.tup _ _ b ws _ h3 h4) .nil), hd =>
      cases hd
      refine ⟨a, b, us, ws, rfl, .inr ⟨sqT_up h1, sqT_up h3, q _ H' e (wk_zipG (Walk.mono walk_zipT (fun H2 ee => ⟨ex_t ee h1, ex_t ee h3⟩) fun _ _ _ _ _ _ y => y) h2 h4)⟩⟩
/-- enumerate of a list or a tuple -/
def iEnA (K : PySem.W.Frag) (ta : TA) : TI := fun σ H R => ta σ H fun vs H1 => ∃ a xs, vs = [.ref a] ∧ ((SqL K H1 a xs ∧ R (Ite K a) H1) ∨ (SqT K H1 a xs ∧ R (IteT K a) H1))
theorem pi_enA {ta : TA} {p pos tpos : Pos} {elts : List Expr} {kk : Nat} (hg : Gl X "enumerate") (hm : X.mg "enumerate" = none) (ha : PA X [e] ta) (hs : starEach [e] X.env = [(false, eval e X.env)] := by rfl) :
    PI X (.Tuple elts kk tpos) (.Call (.Name "enumerate" p) [e] [] pos) (iEnA X.K ta) := by
  refine ⟨fun pins s σ H R I h => ?_⟩
  refine Call_ (ld_blt I hg hm boot_enumerate (PyProof.Rows.callWith_type1 (thn (ha.run pos pins s σ H _ I h) fun us s1 ⟨vs, H1, I1, r1, q1⟩ => ?_) hs rfl))
  obtain ⟨a, xs, rfl, q⟩ := q1
  cases r1 with
  | cons r rr =>
    cases rr
    cases r
    have fp : ∀ b ∈ [s1.heap.objs.size + 1, s1.heap.objs.size], FpOk X pins H1 b := fun b hb => by
      have ee : b = s1.heap.objs.size + 1 ∨ b = s1.heap.objs.size := by simpa using hb
      have hle : s1.heap.objs.size ≤ b := by
        rcases ee with z | z
        · rw [z]; exact Nat.le_add_right _ _
        · rw [z]; exact Nat.le_refl _
      exact I1.fpOk hle (I1.hok.fresh hle)
    rcases q with ⟨hq, q⟩ | ⟨hq, q⟩
    · obtain ⟨its, rv, pp, hz⟩ := I1.list hq
      refine call_enumerate_list pp.isList fun h' he hit hsz hk => wpAny_pyIter_enum he ?_
      have I2 : Inv X pins σ H1 { s1 with heap := h' } := I1.kept (t' := s1.toks) hk
      exact ⟨s1.heap.objs.size + 1, [s1.heap.objs.size + 1, s1.heap.objs.size], _, _, H1, rfl, I2, turn_enum a (s1.heap.objs.size + 1) s1.heap.objs.size, ⟨⟨.none, he⟩, hit, Nat.succ_ne_self _⟩, fp, q⟩
    · obtain ⟨its, rv, pp, hz⟩ := I1.tuple hq
      refine en_call (begins_tuple a its.toArray) (show s1.heap.IsTuple a its.toArray from pp) fun h' he hob hk => wpAny_pyIter_enum he ?_
      have hit : h'.IsTupleIter s1.heap.objs.size a 0 := ⟨_, hob, rfl, rfl⟩
      have I2 : Inv X pins σ H1 { s1 with heap := h' } := I1.kept (t' := s1.toks) hk
      exact ⟨s1.heap.objs.size + 1, [s1.heap.objs.size + 1, s1.heap.objs.size], _, _, H1, rfl, I2, turn_enumT a (s1.heap.objs.size + 1) s1.heap.objs.size, ⟨⟨.none, he⟩, hit, Nat.succ_ne_self _⟩, fp, q⟩
end
end Dz

/-! Dz6: targets, comprehensions. -/
namespace Dz
open PySem PySem.Spec PyProof.Rows L2 Evl

/-! ### targets -/
theorem wipe_set {σ : L2.St} {i : Nat} {x : Option V} : ∀ vs : List Nat, wipe (σ.set i x) vs = if i ∈ vs then wipe σ vs else (wipe σ vs).set i x
  | [] => by simp [wipe]
  | v :: vs => by
    show (wipe (σ.set i x) vs).set v none = _
    rw [wipe_set vs]
    by_cases h : i ∈ vs
    · rw [if_pos h, if_pos (List.mem_cons_of_mem _ h)]
      rfl
    · rw [if_neg h]
      by_cases e : i = v
      · subst e
        rw [if_pos (List.mem_cons_self), List.set_set]
        rfl
      · rw [if_neg (by simp [e, h]), List.set_comm _ _ e]
        rfl
theorem wipe_in {σ : L2.St} {i : Nat} {x : Option V} {vs : List Nat} (h : i ∈ vs) : wipe (σ.set i x) vs = wipe σ vs := by
  rw [wipe_set, if_pos h]
theorem wipe_sub {σ : L2.St} : ∀ {us vs : List Nat}, (∀ i ∈ us, i ∈ vs) → wipe (wipe σ us) vs = wipe σ vs
  | [], _, _ => rfl
  | u :: us, vs, h => by
    show wipe ((wipe σ us).set u none) vs = _
    rw [wipe_in (h u List.mem_cons_self), wipe_sub fun i hi => h i (List.mem_cons_of_mem _ hi)]
def wipeE (env : En) : List Nat → En
  | [] => env
  | v :: vs => (wipeE env vs).set v .un
theorem Rp.wipe {K : PySem.W.Frag} {H0 H : Hp} {O0 O : Ow} {σ : L2.St} {env : En} (R : Rp K H0 O0 O H σ env) : ∀ vs : List Nat, Rp K H0 O0 O H (L2.wipe σ vs) (wipeE env vs)
  | [] => R
  | v :: vs => (R.wipe vs).kill v none

def tDG (K : PySem.W.Frag) (is : List Nat) (gt : PyData → En → Option En) : TG := fun v σ H Q => ∃ (H0 : Hp) (O0 O : Ow) (env : En) (d : PyData) (env' : En), Rp K H0 O0 O H σ env ∧ Dq K (mn H O) v d ∧ gt d env = some env' ∧
  ∀ σ', Rp K H0 O0 O H σ' env' → (∀ vs, (∀ i ∈ is, i ∈ vs) → L2.wipe σ' vs = L2.wipe σ vs) → Q σ' H
def DG (X : Cx) (tg : Expr) (is : List Nat) (gt : PyData → En → Option En) : Prop := PG X tg (tDG X.K is gt)
def tDGs (K : PySem.W.Frag) (is : List Nat) (gt : List PyData → En → Option En) : TGs := fun v σ H Q => ∃ (H0 : Hp) (O0 O : Ow) (env : En) (d : List PyData) (env' : En), Rp K H0 O0 O H σ env ∧ DqA K (mn H O) v d ∧ gt d env = some env' ∧
  ∀ σ', Rp K H0 O0 O H σ' env' → (∀ vs, (∀ i ∈ is, i ∈ vs) → L2.wipe σ' vs = L2.wipe σ vs) → Q σ' H
def DGs (X : Cx) (tg : List Expr) (is : List Nat) (gt : List PyData → En → Option En) : Prop := PGs X tg (tDGs X.K is gt)
def gN (i : Nat) (d : PyData) (env : En) : Option En := some (env.set i (.dat d))
def gNil : List PyData → En → Option En
  | [], env => some env
  | _, _ => none
def gCons (g : PyData → En → Option En) (r : List PyData → En → Option En) : List PyData → En → Option En
  | d :: ds, env => (g d env).bind (r ds)
  | [], _ => none
def gT (r : List PyData → En → Option En) : PyData → En → Option En
  | .tuple ds, env => r ds env
  | _, _ => none
section
variable {X : Cx} {e : Expr} {es : List Expr} {pos : Pos}
theorem dg_name {i : Nat} {x : Str} (h : PG X (.Name x pos) (gName i)) : DG X (.Name x pos) [i] (gN i) :=
  ⟨fun pins s σ H v u Q I r ⟨H0, O0, O, env, d, env', R, hv, hg, q⟩ => h.run pins s σ H v u Q I r (by
    cases hg
    exact q _ (R.set i hv) fun vs hvs => wipe_in (hvs i (by simp)))⟩
theorem dgs_nil : DGs X [] [] gNil :=
  ⟨fun pins s σ H v u Q I r ⟨H0, O0, O, env, d, env', R, hv, hg, q⟩ => pgs_nil.run pins s σ H v u Q I r (by
    cases d with
    | nil => cases hv; cases hg; exact ⟨rfl, q σ R fun _ _ => rfl⟩
    | cons _ _ => cases hg)⟩
theorem dgs_cons {is js : List Nat} {g : PyData → En → Option En} {r : List PyData → En → Option En} (h1 : DG X e is g) (h2 : DGs X es js r)
    (hs : (assignEach (e :: es) X.env).map (·.2) = assign e X.env :: (assignEach es X.env).map (·.2) := by rfl) : DGs X (e :: es) (is ++ js) (gCons g r) :=
  ⟨fun pins s σ H v u Q I rr ⟨H0, O0, O, env, d, env', R, hv, hg, q⟩ => (pgs_cons h1 h2 hs).run pins s σ H v u Q I rr (by
    cases d with
    | nil => cases hg
    | cons d ds =>
      cases hv with
      | @cons v vs _ _ hv1 hv2 =>
        have hg' : (g d env).bind (r ds) = some env' := hg
        cases he : g d env with
        | none => rw [he] at hg'; cases hg'
        | some env1 =>
          rw [he] at hg'
          refine ⟨v, vs, rfl, H0, O0, O, env, d, env1, R, hv1, he, fun σ1 R1 w1 => ⟨H0, O0, O, env1, ds, env', R1, hv2, hg', fun σ2 R2 w2 => q σ2 R2 fun vs h => ?_⟩⟩
          rw [w2 vs fun i hi => h i (List.mem_append_right _ hi), w1 vs fun i hi => h i (List.mem_append_left _ hi)])⟩
theorem gts_len {n : Nat} : True := trivial
theorem dg_tup {k : Nat} {is : List Nat} {r : List PyData → En → Option En} {n : Nat} (hc : X.calm = true) (h : DGs X es is r) (hl : ∀ ds env env', r ds env = some env' → ds.length = n)
    (hn : (assignEach es X.env).length = n := by rfl) (hst : (assignEach es X.env).findIdx? (·.1) = none := by rfl) : DG X (.Tuple es k pos) is (gT r) :=
  ⟨fun pins s σ H v u Q I rr ⟨H0, O0, O, env, d, env', R, hv, hg, q⟩ => (pg_tup hc h hn hst).run pins s σ H v u Q I rr (by
    cases hv with
    | @tup a xs ds h1 h2 =>
      have hg' : r ds env = some env' := hg
      exact ⟨a, xs, rfl, sqT_up h1, by rw [DqA.len h2]; exact hl ds env env' hg', H0, O0, O, env, ds, env', R, h2, hg', q⟩
    | _ => cases hg)⟩
theorem gl_nil : ∀ ds env env', gNil ds env = some env' → ds.length = 0 := by
  intro ds env env' h
  cases ds with
  | nil => rfl
  | cons _ _ => cases h
theorem gl_cons {g : PyData → En → Option En} {r : List PyData → En → Option En} {n : Nat} (h : ∀ ds env env', r ds env = some env' → ds.length = n) : ∀ ds env env', gCons g r ds env = some env' → ds.length = n + 1 := by
  intro ds env env' e
  cases ds with
  | nil => cases e
  | cons d ds =>
    have e' : (g d env).bind (r ds) = some env' := e
    cases hg : g d env with
    | none => rw [hg] at e'; cases e'
    | some env1 => rw [hg] at e'; simp [h ds env1 env' e']
end

/-! ### comprehensions -/
def lcPut : Option PyData → List PyData → List PyData
  | some x, rs => x :: rs
  | none, rs => rs
def lcGo (body : PyData → Option (Option PyData)) : List PyData → Option (List PyData)
  | [] => some []
  | d :: ds => (body d).bind fun r => (lcGo body ds).bind fun rs => some (lcPut r rs)
def lcB (gt : PyData → En → Option En) (ft : En → Option Bool) (fe : En → Option PyData) (env1 : En) (d : PyData) : Option (Option PyData) := (gt d env1).bind fun env2 => (ft env2).bind fun b => if b = true then (fe env2).bind fun x => some (some x) else some none
def sLc (fi : En → Option (List PyData)) (gt : PyData → En → Option En) (ft : En → Option Bool) (fe : En → Option PyData) (vs : List Nat) (env : En) : Option (List PyData) :=
  (fi env).bind fun ds => if ds.length ≤ sizeLine then lcGo (lcB gt ft fe (wipeE env vs)) ds else none
def sYes (_ : En) : Option Bool := some true
def DTs (X : Cx) (ifs : List Expr) (f : En → Option Bool) : Prop := PTs X ifs (tDT X.K f)
theorem dts_nil {X : Cx} : DTs X [] sYes := ⟨fun pins s σ H Q I ⟨H0, O0, O, env, b, R, hb, q⟩ => pts_nil.run pins s σ H Q I (by cases hb; exact q H (Ex.refl H))⟩
theorem dts_one {X : Cx} {c : Expr} {f : En → Option Bool} (h : DT X c f) : DTs X [c] f := pts_one h
theorem mn_ad {H : Hp} {D : Addr} {O : Ow} {o : HO} : mn (upd H D o) (ad D O) = mn H (ad D O) := by
  funext b
  unfold mn ad
  by_cases h : b = D
  · simp [h]
  · simp [h, upd_ne h]
theorem lc_read {K : PySem.W.Frag} {fi : En → Option (List PyData)} {is : List Nat} {gt : PyData → En → Option En} {ft : En → Option Bool} {fe : En → Option PyData} {vs : List Nat} (his : ∀ i ∈ is, i ∈ vs)
    {H0 H : Hp} {O0 O : Ow} {σ : L2.St} {env : En} (R : Rp K H0 O0 O H σ env) {rs : List PyData} (hf : sLc fi gt ft fe vs env = some rs) {Q : VK}
    (q : ∀ a ws H', Ex H H' → H a = none → H' a = some (.lst ws) → DqA K (mn H' (ad a O)) ws rs → Q (.ref a) H') : tLc (tDIc K fi) (tDG K is gt) (tDT K ft) (tED K fe) vs σ H Q := by
  unfold sLc at hf
  cases hi : fi env with
  | none => rw [hi] at hf; cases hf
  | some ds =>
    rw [hi, Option.bind_some] at hf
    by_cases hz : ds.length ≤ sizeLine
    · rw [if_pos hz] at hf
      refine ⟨H0, O0, O, env, ds, R, hi, fun J H1 e1 w D hD => ?_⟩
      have R1 := R.up e1
      have hDH : H D = none := fresh_back e1 hD
      let Pv : Nat → Hp → Prop := fun i H' => Ex H1 H' ∧ ∃ acc done rest, H' D = some (.lst acc) ∧ DqA K (mn H' (ad D O)) acc done ∧ lcGo (lcB gt ft fe (wipeE env vs)) (ds.drop i) = some rest ∧ rs = done ++ rest ∧ acc.length ≤ i
      refine lc_it (D := D) w Pv ⟨Ex.new hD, [], [], rs, upd_same, .nil, by simpa using hf, rfl, Nat.zero_le _⟩ (fun i H' _ p => p.1) (fun i x H2 H3 hlt p y => ?_) (fun H' p => ?_)
      · obtain ⟨e2, acc, done, rest, hacc, hdone, hrest, hrs, hlen⟩ := p
        obtain ⟨d, hd, e3, hx⟩ := y
        have hdrop : ds.drop i = d :: ds.drop (i + 1) := by
          obtain ⟨h1, h2⟩ := List.getElem?_eq_some_iff.mp hd
          rw [← h2]
          exact List.drop_eq_getElem_cons h1
        rw [hdrop] at hrest
        have e13 := e2.trans e3
        have hacc3 : H3 D = some (.lst acc) := e3 _ _ hacc
        have G : Rp K H0 O0 (ad D O) H3 σ env := R1.grow e13 hD hacc3
        have trH2 : ∀ a, (ad D O) a = true → H2 a ≠ none := (R1.grow e2 hD hacc).tr
        have F2 : Ex (mn H1 O) (mn H2 (ad D O)) := fun b o h => by
          obtain ⟨q1, q2⟩ := mn_some h
          have hb : b ≠ D := ne_of_none q1 hD
          exact mn_of (e2 b o q1) (by simp [ad, hb, q2])
        have hxd := hx (ad D O) F2 trH2
        have hrest' : ((lcB gt ft fe (wipeE env vs)) d).bind (fun r => (lcGo (lcB gt ft fe (wipeE env vs)) (ds.drop (i + 1))).bind fun rs => some (lcPut r rs)) = some rest := hrest
        cases hb : lcB gt ft fe (wipeE env vs) d with
        | none => rw [hb] at hrest'; cases hrest'
        | some r =>
          cases hgo : lcGo (lcB gt ft fe (wipeE env vs)) (ds.drop (i + 1)) with
          | none => rw [hb, hgo] at hrest'; cases hrest'
          | some rest1 =>
            rw [hb, hgo] at hrest'
            have hrest2 : lcPut r rest1 = rest := Option.some.inj hrest'
            unfold lcB at hb
            cases hgt : gt d (wipeE env vs) with
            | none => rw [hgt] at hb; cases hb
            | some env2 =>
              rw [hgt, Option.bind_some] at hb
              cases hft : ft env2 with
              | none => rw [hft] at hb; cases hb
              | some b =>
                rw [hft, Option.bind_some] at hb
                refine ⟨H0, O0, ad D O, wipeE env vs, d, env2, G.wipe vs, hxd, hgt, fun σ2 R2 w2 => ⟨?_, ?_⟩⟩
                · rw [w2 vs his, wipe_sub fun _ h => h]
                · refine ⟨H0, O0, ad D O, env2, b, R2, hft, fun H4 e4 => ?_⟩
                  cases b with
                  | true =>
                    rw [if_pos rfl] at hb ⊢
                    cases hfe : fe env2 with
                    | none => rw [hfe] at hb; cases hb
                    | some z =>
                      rw [hfe] at hb
                      have hr : r = some z := (Option.some.inj hb).symm
                      subst hr
                      refine ⟨H0, O0, ad D O, env2, z, R2.up e4, hfe, fun y H5 e5 hy => ⟨acc, e5 _ _ (e4 _ _ hacc3), Nat.lt_of_le_of_lt hlen (Nat.lt_of_lt_of_le hlt hz), ?_⟩⟩
                      have e15 : Ex H1 H5 := (e13.trans e4).trans e5
                      refine ⟨Ex.mut e15 hD, acc ++ [y], done ++ [z], rest1, upd_same, ?_, hgo, ?_, by simp; omega⟩
                      · rw [mn_ad]
                        exact DqA.app (dpa_up (mn_ex ((e3.trans e4).trans e5)) hdone) (.cons hy .nil)
                      · rw [hrs, ← hrest2]; simp [lcPut]
                  | false =>
                    rw [if_neg Bool.false_ne_true] at hb ⊢
                    have hr : r = none := (Option.some.inj hb).symm
                    subst hr
                    exact ⟨e13.trans e4, acc, done, rest1, e4 _ _ hacc3, dpa_up (mn_ex (e3.trans e4)) hdone, hgo, by rw [hrs, ← hrest2]; rfl, by omega⟩
      · obtain ⟨e2, acc, done, rest, hacc, hdone, hrest, hrs, hlen⟩ := p
        have hrest' : rest = [] := by
          rw [List.drop_length] at hrest
          exact (Option.some.inj hrest).symm
        rw [hrest', List.append_nil] at hrs
        subst hrs
        exact q D acc H' (e1.trans e2) hDH hacc hdone
    · rw [if_neg hz] at hf; cases hf
section
variable {X : Cx} {elt tg iter : Expr} {ifs : List Expr} {scope : Scope} {own : List (Str × Nat)} {pos : Pos} {fi : En → Option (List PyData)} {is : List Nat} {gt : PyData → En → Option En} {ft : En → Option Bool} {fe : En → Option PyData}
theorem en_lc (hc : X.calm = true) (hN : X.N.Nodup) (hi : DIc X tg iter fi) (ok : BlkOk X.N X.env.scope scope own)
    (hg : ∀ (s : Shared) (H : Hp) (C : Addr) (cl : List (Str × Addr)) (fp : List Addr), DG (X.blk s H scope (compEnvC scope cl C X.env) fp) tg is gt) (ht : ∀ (s : Shared) (H : Hp) (C : Addr) (cl : List (Str × Addr)) (fp : List Addr), DTs (X.blk s H scope (compEnvC scope cl C X.env) fp) ifs ft)
    (he : ∀ (s : Shared) (H : Hp) (C : Addr) (cl : List (Str × Addr)) (fp : List Addr), ED (X.blk s H scope (compEnvC scope cl C X.env) fp) elt fe) (his : (is.all fun i => decide (i ∈ own.map (·.2))) = true) (hs : ∀ x, foldedSetIterable iter X.env x = pure x := by intro _; rfl) :
    EN X (.ListComp elt [⟨tg, iter, ifs, 0⟩] scope pos) (sLc fi gt ft fe (own.map (·.2))) :=
  .of ⟨_, pe_lc (wi := tDIc X.K fi) (g := tDG X.K is gt) (tt := tDT X.K ft) (te := tED X.K fe) hc hN hi ok hg ht he hs, fun H0 O0 O H σ env R ds hd Q q => lc_read (fun i hi => of_decide_eq_true (List.all_eq_true.mp his i hi)) R hd q⟩
end
end Dz

/-! Dz7: statements over data. -/
namespace Dz
open PySem PySem.Spec PyProof.Rows L2 Evl

inductive Ou where
  | nx (env : En)
  | rt (d : PyData)
def OutOk (K : PySem.W.Frag) (H0 : Hp) (O0 O : Ow) (H : Hp) (D : Ends) : Ou → Prop
  | .nx env => ∀ (O' : Ow) H' σ', Rp K H0 O0 O' H' σ' env → Ex (mn H O) (mn H' O') → D.nx σ' H'
  | .rt d => ∀ v H', Ex H0 H' → Dq K (mn H' O0) v d → D.rt v H'
def tDS (K : PySem.W.Frag) (g : En → Option Ou) : TS := fun D σ H => ∃ (H0 : Hp) (O0 O : Ow) (env : En) (r : Ou), Rp K H0 O0 O H σ env ∧ g env = some r ∧ OutOk K H0 O0 O H D r
def DS (X : Cx) (st : Stmt) (g : En → Option Ou) : Prop := PS X st (tDS X.K g)
def DSs (X : Cx) (sts : List Stmt) (g : En → Option Ou) : Prop := PSs X sts (tDS X.K g)
theorem DS.of {X : Cx} {st : Stmt} {g : En → Option Ou} (h : ∃ t, PS X st t ∧ ∀ H0 O0 O H σ env, Rp X.K H0 O0 O H σ env → ∀ r, g env = some r → ∀ D, OutOk X.K H0 O0 O H D r → t D σ H) : DS X st g := by
  obtain ⟨t, h, p⟩ := h
  exact ⟨fun pins s σ H D I ⟨H0, O0, O, env, r, R, hd, q⟩ => h.run pins s σ H D I (p H0 O0 O H σ env R r hd D q)⟩
theorem DSs.of {X : Cx} {st : List Stmt} {g : En → Option Ou} (h : ∃ t, PSs X st t ∧ ∀ H0 O0 O H σ env, Rp X.K H0 O0 O H σ env → ∀ r, g env = some r → ∀ D, OutOk X.K H0 O0 O H D r → t D σ H) : DSs X st g := by
  obtain ⟨t, h, p⟩ := h
  exact ⟨fun pins s σ H D I ⟨H0, O0, O, env, r, R, hd, q⟩ => h.run pins s σ H D I (p H0 O0 O H σ env R r hd D q)⟩
def gNext (env : En) : Option Ou := some (.nx env)
def oK (k : En → Option Ou) : Ou → Option Ou
  | .nx env => k env
  | .rt d => some (.rt d)
def gSeq (g k : En → Option Ou) (env : En) : Option Ou := (g env).bind (oK k)
def gSet (i : Nat) (f : En → Option PyData) (env : En) : Option Ou := (f env).bind fun d => some (.nx (env.set i (.dat d)))
def gSetN (i : Nat) (f : En → Option (List PyData)) (env : En) : Option Ou := (f env).bind fun ds => some (.nx (env.set i (.own ds)))
def gAsg (f : En → Option PyData) (gt : PyData → En → Option En) (env : En) : Option Ou := (f env).bind fun d => (gt d env).bind fun env' => some (.nx env')
def gRet (f : En → Option PyData) (env : En) : Option Ou := (f env).bind fun d => some (.rt d)
def gIf (c : En → Option Bool) (g k : En → Option Ou) (env : En) : Option Ou := (c env).bind fun b => if b = true then g env else k env
def gApp (i : Nat) (f : En → Option PyData) (env : En) : Option Ou := match env[i]? with
  | some (.own ds) => (f env).bind fun d => if ds.length < sizeLine then some (.nx (env.set i (.own (ds ++ [d])))) else none
  | _ => none
def gExt (i : Nat) (f : En → Option (List PyData)) (env : En) : Option Ou := match env[i]? with
  | some (.own ds) => (f env).bind fun es => if ds.length + es.length ≤ sizeLine then some (.nx (env.set i (.own (ds ++ es)))) else none
  | _ => none
def gPut (i : Nat) (fi fe : En → Option PyData) (env : En) : Option Ou := match env[i]? with
  | some (.own ds) => (fe env).bind fun d => (fi env).bind fun x => (asI x).bind fun k => (ixN ds.length k).bind fun j => some (.nx (env.set i (.own (ds.set j d))))
  | _ => none
def fz (i : Nat) (env : En) : En := match env[i]? with
  | some (.own ds) => env.set i (.dat (.list ds))
  | _ => env
def gFz (i : Nat) (k : En → Option Ou) (env : En) : Option Ou := k (fz i env)
def kl (ks : List Nat) (env : En) : En := wipeE env ks
def gKl (ks : List Nat) (k : En → Option Ou) (env : En) : Option Ou := k (kl ks env)
theorem Rp.kl {K : PySem.W.Frag} {H0 H : Hp} {O0 O : Ow} {σ : L2.St} {env : En} (R : Rp K H0 O0 O H σ env) : ∀ vs : List Nat, Rp K H0 O0 O H σ (kl vs env)
  | [] => R
  | v :: vs => (R.kl vs).forget v
theorem Rp.fz {K : PySem.W.Frag} {H0 H : Hp} {O0 O : Ow} {σ : L2.St} {env : En} (R : Rp K H0 O0 O H σ env) (i : Nat) : ∃ O', Rp K H0 O0 O' H σ (fz i env) ∧ Ex (mn H O) (mn H O') := by
  unfold Dz.fz
  split
  · rename_i ds h
    exact R.freeze h
  · exact ⟨O, R, Ex.refl _⟩
/-- a for's turns -/
def forGo (gt : PyData → En → Option En) (body : En → Option Ou) (ks : List Nat) : List PyData → En → Option Ou
  | [], env => some (.nx env)
  | d :: ds, env => (gt d env).bind fun env1 => (body env1).bind (oK fun env2 => forGo gt body ks ds (kl ks env2))
def gFor (fi : En → Option (List PyData)) (gt : PyData → En → Option En) (body : En → Option Ou) (ks : List Nat) (env : En) : Option Ou := (fi env).bind fun ds => forGo gt body ks ds (kl ks env)
/-- a while's turns, n at most -/
def whGo (c : En → Option Bool) (body : En → Option Ou) (ks : List Nat) : Nat → En → Option Ou
  | 0, _ => none
  | n + 1, env => (c env).bind fun b => if b = true then (body env).bind (oK fun env2 => whGo c body ks n (kl ks env2)) else some (.nx env)
def gWh (c : En → Option Bool) (body : En → Option Ou) (ks : List Nat) (most : Nat) (env : En) : Option Ou := whGo c body ks most (kl ks env)
section
variable {X : Cx} {st : Stmt} {rest sts sts2 : List Stmt} {g k : En → Option Ou} {e : Expr} {f : En → Option PyData} {fl : En → Option (List PyData)} {pos : Pos}
theorem OutOk.of_nx {K : PySem.W.Frag} {H0 H : Hp} {O0 O : Ow} {D : Ends} {env : En} (q : OutOk K H0 O0 O H D (.nx env)) {O' : Ow} {H' : Hp} {σ' : L2.St} (R : Rp K H0 O0 O' H' σ' env) (e : Ex (mn H O) (mn H' O')) : D.nx σ' H' := q O' H' σ' R e
theorem dss_nil : DSs X [] gNext := .of ⟨_, pss_nil, fun H0 O0 O H σ env R r hd D q => by cases hd; exact q O H σ R (Ex.refl _)⟩
theorem out_seq {K : PySem.W.Frag} {H0 H : Hp} {O0 O : Ow} {D : Ends} {r r1 : Ou} (hr : oK k r1 = some r) (q : OutOk K H0 O0 O H D r) : OutOk K H0 O0 O H { D with nx := tDS K k D } r1 := by
  cases r1 with
  | nx env1 =>
    intro O' H' σ' R' e'
    refine ⟨H0, O0, O', env1, r, R', hr, ?_⟩
    cases r with
    | nx env2 => exact fun O2 H2 σ2 R2 e2 => q O2 H2 σ2 R2 (e'.trans e2)
    | rt d => exact q
  | rt d =>
    cases hr
    exact q
theorem dss_cons (h : DS X st g) (h2 : DSs X rest k) : DSs X (st :: rest) (gSeq g k) := by
  refine .of ⟨_, pss_cons h h2, fun H0 O0 O H σ env R r hd D q => ?_⟩
  unfold gSeq at hd
  cases hg : g env with
  | none => rw [hg] at hd; cases hd
  | some r1 =>
    rw [hg] at hd
    exact ⟨H0, O0, O, env, r1, R, hg, out_seq hd q⟩
theorem dss_one (h : DS X st g) : DSs X [st] g := pss_one h
theorem dss_fz (i : Nat) (h : DSs X sts g) : DSs X sts (gFz i g) := .of ⟨_, h, fun H0 O0 O H σ env R r hd D q => by
  obtain ⟨O', R', e'⟩ := R.fz i
  refine ⟨H0, O0, O', _, r, R', hd, ?_⟩
  cases r with
  | nx env2 => exact fun O2 H2 σ2 R2 e2 => q O2 H2 σ2 R2 (e'.trans e2)
  | rt d => exact q⟩
theorem dss_kl (ks : List Nat) (h : DSs X sts g) : DSs X sts (gKl ks g) := .of ⟨_, h, fun H0 O0 O H σ env R r hd D q => ⟨H0, O0, O, _, r, R.kl ks, hd, q⟩⟩
theorem ds_set {i : Nat} (h : ED X e f) (hp : ∀ {te : TE}, PE X e te → PS X st (tAsg te (gName i))) : DS X st (gSet i f) := by
  obtain ⟨t, ht, r⟩ := h.ex
  refine .of ⟨_, hp ht, fun H0 O0 O H σ env R o hd D q => ?_⟩
  unfold gSet at hd
  cases hf : f env with
  | none => rw [hf] at hd; cases hd
  | some d =>
    rw [hf] at hd; cases hd
    exact r H0 O0 O H σ env R d hf _ fun v H' e1 hv => q O H' _ ((R.up e1).set i hv) (mn_ex e1)
theorem nw_ex {H H' : Hp} {O : Ow} {a : Addr} (e : Ex H H') (hn : H a = none) : Ex (mn H O) (mn H' (ad a O)) := fun b o h => by
  obtain ⟨q1, q2⟩ := mn_some h
  have hb : b ≠ a := ne_of_none q1 hn
  exact mn_of (e b o q1) (by simp [ad, hb, q2])
theorem ds_setN {i : Nat} (h : EN X e fl) (hp : ∀ {te : TE}, PE X e te → PS X st (tAsg te (gName i))) : DS X st (gSetN i fl) := by
  obtain ⟨t, ht, r⟩ := h.ex
  refine .of ⟨_, hp ht, fun H0 O0 O H σ env R o hd D q => ?_⟩
  unfold gSetN at hd
  cases hf : fl env with
  | none => rw [hf] at hd; cases hd
  | some d =>
    rw [hf] at hd; cases hd
    exact r H0 O0 O H σ env R d hf _ fun a vs H' e1 hn ha hv => q _ H' _ (R.setN i e1 hn ha hv) (nw_ex e1 hn)
/-- y = [..], y a local -/
theorem ds_setLc {i : Nat} {own : List (Str × Nat)} {fi : En → Option (List PyData)} {is : List Nat} {gt : PyData → En → Option En} {ft : En → Option Bool} {fe : En → Option PyData}
    (h : PS X st (tAsg (tLc (tDIc X.K fi) (tDG X.K is gt) (tDT X.K ft) (tED X.K fe) (own.map (·.2))) (gName i))) (his : (is.all fun i => decide (i ∈ own.map (·.2))) = true) : DS X st (gSetN i (sLc fi gt ft fe (own.map (·.2)))) := by
  refine .of ⟨_, h, fun H0 O0 O H σ env R o hd D q => ?_⟩
  unfold gSetN at hd
  cases hf : sLc fi gt ft fe (own.map (·.2)) env with
  | none => rw [hf] at hd; cases hd
  | some d =>
    rw [hf] at hd; cases hd
    exact lc_read (fun i hi => of_decide_eq_true (List.all_eq_true.mp his i hi)) R hf fun a vs H' e1 hn ha hv => q _ H' _ (R.setN i e1 hn ha hv) (nw_ex e1 hn)
theorem ds_asg {is : List Nat} {gt : PyData → En → Option En} {tg : Expr} (h : ED X e f) (hg : DG X tg is gt) (hp : ∀ {te : TE} {g : TG}, PE X e te → PG X tg g → PS X st (tAsg te g)) : DS X st (gAsg f gt) := by
  obtain ⟨t, ht, r⟩ := h.ex
  refine .of ⟨_, hp ht hg, fun H0 O0 O H σ env R o hd D q => ?_⟩
  unfold gAsg at hd
  cases hf : f env with
  | none => rw [hf] at hd; cases hd
  | some d =>
    rw [hf, Option.bind_some] at hd
    cases hgt : gt d env with
    | none => rw [hgt] at hd; cases hd
    | some env1 =>
      rw [hgt] at hd; cases hd
      exact r H0 O0 O H σ env R d hf _ fun v H' e1 hv => ⟨H0, O0, O, env, d, env1, R.up e1, hv, hgt, fun σ' R' _ => q O H' σ' R' (mn_ex e1)⟩
theorem ds_ret (h : ED X e f) : DS X (.Return (some e) pos) (gRet f) := by
  obtain ⟨t, ht, r⟩ := h.ex
  refine .of ⟨_, ps_ret ht, fun H0 O0 O H σ env R o hd D q => ?_⟩
  unfold gRet at hd
  cases hf : f env with
  | none => rw [hf] at hd; cases hd
  | some d =>
    rw [hf] at hd; cases hd
    exact r H0 O0 O H σ env R d hf _ fun v H' e1 hv => q v H' (R.ex.trans e1) (dp_up (mn_sub R.le) hv)
theorem ds_if {c : Expr} {fc : En → Option Bool} (hc : DT X c fc) (h1 : DSs X sts g) (h2 : DSs X sts2 k) : DS X (.If c sts sts2 pos) (gIf fc g k) := by
  obtain ⟨t, ht, r⟩ := hc.ex
  refine .of ⟨_, ps_if ht h1 h2, fun H0 O0 O H σ env R o hd D q => ?_⟩
  unfold gIf at hd
  cases hf : fc env with
  | none => rw [hf] at hd; cases hd
  | some b =>
    rw [hf, Option.bind_some] at hd
    refine r H0 O0 O H σ env R b hf _ fun H' e1 => ?_
    have q' : OutOk X.K H0 O0 O H' D o := by
      cases o with
      | nx env2 => exact fun O2 H2 σ2 R2 e2 => q O2 H2 σ2 R2 ((mn_ex e1).trans e2)
      | rt d => exact q
    cases b with
    | true =>
      simp only [if_true] at hd ⊢
      exact ⟨H0, O0, O, env, o, R.up e1, hd, q'⟩
    | false =>
      simp only [Bool.false_eq_true, if_false] at hd ⊢
      exact ⟨H0, O0, O, env, o, R.up e1, hd, q'⟩
/-- code that is never come to (a raise that does not happen) -/
def gNever (_ : En) : Option Ou := none
theorem ds_never : DS X st gNever := .of ⟨_, ps_never, fun _ _ _ _ _ _ _ _ hd => by cases hd⟩
theorem wk_core {P : Prop} (p : P) : P := p
/-- x.append(e) -/
theorem ds_app {i : Nat} (h : ED X e f) (hp : ∀ {te : TE}, PE X e te → PS X st (tDrop (tBM X.K "list" rAppend (tVar i) (tCons te tNil)))) : DS X st (gApp i f) := by
  obtain ⟨t, ht, r⟩ := h.ex
  refine .of ⟨_, hp ht, fun H0 O0 O H σ env R o hd D q => ?_⟩
  unfold gApp at hd
  split at hd
  · rename_i ds hi
    cases hf : f env with
    | none => rw [hf] at hd; cases hd
    | some d =>
      rw [hf, Option.bind_some] at hd
      obtain ⟨hz, rfl⟩ := iteS hd
      obtain ⟨a, vs, h1, h2, h3, h4, h5⟩ := R.own hi
      refine ⟨.ref a, h1, .inl ⟨rfl, vs, .inl (.inl h4)⟩, ?_⟩
      refine r H0 O0 O H σ env R d hf _ fun v H' e1 hv => ?_
      have R1 := R.up e1
      refine ⟨a, vs, v, rfl, rfl, e1 _ _ h4, by rw [DqA.len h5]; exact hz, ?_⟩
      obtain ⟨R2, e2⟩ := R1.write hi h1 (DqA.app (dpa_up (mn_ex e1) h5) (.cons hv .nil))
      exact q O _ σ R2 ((mn_ex e1).trans e2)
  · cases hd
/-- x.extend(e) -/
theorem ds_ext {i : Nat} (h : EL X e fl) (hp : ∀ {te : TE}, PE X e te → PS X st (tDrop (tBM X.K "list" rExtend (tVar i) (tCons te tNil)))) : DS X st (gExt i fl) := by
  obtain ⟨t, ht, r⟩ := h.ex
  refine .of ⟨_, hp ht, fun H0 O0 O H σ env R o hd D q => ?_⟩
  unfold gExt at hd
  split at hd
  · rename_i ds hi
    cases hf : fl env with
    | none => rw [hf] at hd; cases hd
    | some es =>
      rw [hf, Option.bind_some] at hd
      obtain ⟨hz, rfl⟩ := iteS hd
      obtain ⟨a, vs, h1, h2, h3, h4, h5⟩ := R.own hi
      refine ⟨.ref a, h1, .inl ⟨rfl, vs, .inl (.inl h4)⟩, ?_⟩
      refine r H0 O0 O H σ env R es hf _ fun b ws H' e1 hb hv => ?_
      have R1 := R.up e1
      refine ⟨a, b, vs, ws, rfl, rfl, e1 _ _ h4, hb, by rw [DqA.len h5, DqA.len hv]; exact hz, ?_⟩
      obtain ⟨R2, e2⟩ := R1.write hi h1 (DqA.app (dpa_up (mn_ex e1) h5) hv)
      exact q O _ σ R2 ((mn_ex e1).trans e2)
  · cases hd
/-- x[i] = e -/
theorem ds_put {i : Nat} {ix : Expr} {fi : En → Option PyData} (he : ED X e f) (hi : ED X ix fi) (hp : ∀ {te ti : TE}, PE X e te → PE X ix ti → PS X st (tAsg te (gSub (tVar i) ti rSetL))) : DS X st (gPut i fi f) := by
  obtain ⟨t, ht, r⟩ := he.ex
  obtain ⟨u, hu, ru⟩ := hi.ex
  refine .of ⟨_, hp ht hu, fun H0 O0 O H σ env R o hd D q => ?_⟩
  unfold gPut at hd
  split at hd
  · rename_i ds hs
    cases hf : f env with
    | none => rw [hf] at hd; cases hd
    | some d =>
      rw [hf, Option.bind_some] at hd
      cases hx : fi env with
      | none => rw [hx] at hd; cases hd
      | some x =>
        rw [hx, Option.bind_some] at hd
        cases x with
        | int m =>
          simp only [asI, Option.bind_some] at hd
          cases hj : ixN ds.length m with
          | none => rw [hj] at hd; cases hd
          | some j =>
            rw [hj] at hd; cases hd
            obtain ⟨a, vs, h1, h2, h3, h4, h5⟩ := R.own hs
            refine r H0 O0 O H σ env R d hf _ fun v H1 e1 hv => ?_
            refine ⟨.ref a, h1, ?_⟩
            have R1 := R.up e1
            refine ru H0 O0 O H1 σ env R1 _ hx _ fun y H2 e2 hy => ?_
            cases hy
            have R2 := R1.up e2
            refine ⟨a, vs, m, j, rfl, rfl, e2 _ _ (e1 _ _ h4), by rw [DqA.len h5]; exact hj, ?_⟩
            obtain ⟨R3, e3⟩ := R2.write hs h1 (DqA.set j (dpa_up (mn_ex (e1.trans e2)) h5) (dp_up (mn_ex e2) hv))
            exact q O _ σ R3 ((mn_ex (e1.trans e2)).trans e3)
        | _ => cases hd
  · cases hd
/-- for -/
theorem ds_for {tg iter : Expr} {is : List Nat} {gt : PyData → En → Option En} (ks : List Nat) (hp : PassesOwn (model X.prog X.w) X.A X.env X.xe) (hc : X.calm = true) (hi : DI X tg iter fl) (hg : DG X tg is gt) (hb : DSs X sts g)
    (hs : ∀ x, foldedSetIterable iter X.env x = pure x := by intro _; rfl) : DS X (.For tg iter sts [] pos) (gFor fl gt g ks) := by
  refine .of ⟨_, ps_for hp hc hi hg hb hs, fun H0 O0 O H σ env R o hd D q => ?_⟩
  unfold gFor at hd
  cases hf : fl env with
  | none => rw [hf] at hd; cases hd
  | some ds =>
    rw [hf, Option.bind_some] at hd
    refine ⟨H0, O0, O, env, ds, R, hf, fun J H1 e1 w => ?_⟩
    have R1 := R.up e1
    let Pv : Nat → L2.St → Hp → Prop := fun i σ' H' => ∃ O' env', Rp X.K H0 O0 O' H' σ' env' ∧ Ex (mn H1 O) (mn H' O') ∧ forGo gt g ks (ds.drop i) env' = some o
    refine for_it w Pv ⟨O, kl ks env, R1.kl ks, Ex.refl _, by simpa using hd⟩ (fun i σ' H' _ ⟨O', env', R', e', _⟩ => e'.trans mn_le) (fun i x σ2 H2 H3 hlt p y => ?_) (fun σ' H' p => ?_)
    · obtain ⟨O', env', R', e', hgo⟩ := p
      obtain ⟨d, hd', e3, hx⟩ := y
      have hdrop : ds.drop i = d :: ds.drop (i + 1) := by
        obtain ⟨h1, h2⟩ := List.getElem?_eq_some_iff.mp hd'
        rw [← h2]
        exact List.drop_eq_getElem_cons h1
      rw [hdrop] at hgo
      have hgo' : (gt d env').bind (fun env1 => (g env1).bind (oK fun env2 => forGo gt g ks (ds.drop (i + 1)) (kl ks env2))) = some o := hgo
      cases hgt : gt d env' with
      | none => rw [hgt] at hgo'; cases hgo'
      | some env1 =>
        rw [hgt, Option.bind_some] at hgo'
        cases hgb : g env1 with
        | none => rw [hgb] at hgo'; cases hgo'
        | some r1 =>
          rw [hgb, Option.bind_some] at hgo'
          refine ⟨H0, O0, O', env', d, env1, R'.up e3, hx O' e' R'.tr, hgt, fun σ4 R4 _ => ?_⟩
          refine ⟨H0, O0, O', env1, r1, R4, hgb, ?_⟩
          cases r1 with
          | nx env2 => exact fun O5 H5 σ5 R5 e5 => ⟨O5, kl ks env2, R5.kl ks, (e'.trans (mn_ex e3)).trans e5, hgo'⟩
          | rt dd =>
            have : o = .rt dd := (Option.some.inj hgo').symm
            subst this
            exact q
    · obtain ⟨O', env', R', e', hgo⟩ := p
      rw [List.drop_length] at hgo
      have : o = .nx env' := (Option.some.inj hgo).symm
      subst this
      exact q O' H' σ' R' ((mn_ex e1).trans e')
/-- while -/
theorem ds_while {c : Expr} {fc : En → Option Bool} (ks : List Nat) (most : Nat) (hp : PassesOwn (model X.prog X.w) X.A X.env X.xe) (hc : DT X c fc) (hb : DSs X sts g) : DS X (.While c sts [] pos) (gWh fc g ks most) := by
  obtain ⟨t, ht, r⟩ := hc.ex
  refine .of ⟨_, ps_while hp ht hb, fun H0 O0 O H σ env R o hd D q => ?_⟩
  refine ⟨fun n σ' H' => ∃ O' env', Rp X.K H0 O0 O' H' σ' env' ∧ Ex (mn H O) (mn H' O') ∧ whGo fc g ks n env' = some o, ⟨most, O, kl ks env, R.kl ks, Ex.refl _, hd⟩, fun n σ' H' p => ?_⟩
  obtain ⟨O', env', R', e', hgo⟩ := p
  cases n with
  | zero => cases hgo
  | succ n =>
    have hgo' : (fc env').bind (fun b => if b = true then (g env').bind (oK fun env2 => whGo fc g ks n (kl ks env2)) else some (.nx env')) = some o := hgo
    cases hf : fc env' with
    | none => rw [hf] at hgo'; cases hgo'
    | some b =>
      rw [hf, Option.bind_some] at hgo'
      refine r H0 O0 O' H' σ' env' R' b hf _ fun H2 e2 => ?_
      cases b with
      | true =>
        rw [if_pos rfl] at hgo' ⊢
        cases hg : g env' with
        | none => rw [hg] at hgo'; cases hgo'
        | some r1 =>
          rw [hg, Option.bind_some] at hgo'
          refine ⟨fun σ5 H5 => ∃ O5 env5, Rp X.K H0 O0 O5 H5 σ5 env5 ∧ Ex (mn H O) (mn H5 O5) ∧ whGo fc g ks n env5 = some o, fun σ5 H5 z => ⟨n, Nat.lt_succ_self n, z⟩, H0, O0, O', env', r1, R'.up e2, hg, ?_⟩
          cases r1 with
          | nx env2 => exact fun O5 H5 σ5 R5 e5 => ⟨O5, kl ks env2, R5.kl ks, (e'.trans (mn_ex e2)).trans e5, hgo'⟩
          | rt dd =>
            have : o = .rt dd := (Option.some.inj hgo').symm
            subst this
            exact q
      | false =>
        rw [if_neg Bool.false_ne_true] at hgo' ⊢
        have : o = .nx env' := (Option.some.inj hgo').symm
        subst this
        exact q O' H2 σ' (R'.up e2) (e'.trans (mn_ex e2))
end
/-! ### a def by its body -/
def runF (g : En → Option Ou) (n : Nat) (ds : List PyData) : Option PyData := (g (ds.map Sl.dat ++ List.replicate n Sl.un)).bind fun r => match r with
  | .rt d => some d
  | .nx _ => some .none
end Dz

/-! Dz8: built-ins, places, slices, the call of a def. -/
namespace Dz
open PySem PySem.Spec PyProof.Rows L2 Evl

section
variable {X : Cx} {e a b : Expr} {es : List Expr} {f fa fb : En → Option PyData} {fl : En → Option (List PyData)} {pos p : Pos}
/-- a built-in over one list, perhaps one that is still written to -/
def RLD (K : PySem.W.Frag) (r : List V → Hp → VK → Prop) (h : List PyData → Option PyData) : Prop := ∀ (H : Hp) (O : Ow) (a : Addr) (vs : List V) (ds : List PyData) (dz : PyData), (∀ a, O a = true → H a ≠ none) → H a = some (.lst vs) → DqA K (mn H O) vs ds → h ds = some dz →
  ∀ Q : VK, (∀ v H', Ex H H' → Dq K (mn H' O) v dz → Q v H') → r [.ref a] H Q
theorem ed_cbL {c : Expr} {r : List V → Hp → VK → Prop} {h : List PyData → Option PyData} (hp : ∀ {t}, PA X [e] t → PE X c (tCB r t)) (hr : RLD X.K r h) (he : EL X e fl) (hs : starEach [e] X.env = (false, eval e X.env) :: starEach [] X.env := by rfl) : ED X c (sAs h fl) := by
  obtain ⟨t, h1, r1⟩ := he.ex
  refine .of ⟨_, hp (pa_cons h1 pa_nil hs), fun H0 O0 O H σ env R d hd Q q => ?_⟩
  unfold sAs at hd
  cases hx : fl env with
  | none => rw [hx] at hd; cases hd
  | some ds =>
    rw [hx, Option.bind_some] at hd
    refine r1 H0 O0 O H σ env R ds hx _ fun p vs H1 e1 q1 q2 => ?_
    exact hr H1 O p vs ds d (R.up e1).tr q1 q2 hd Q fun v H' e2 q3 => q v H' (e1.trans e2) q3
/-! len -/
def lenD : List PyData → Option PyData
  | [.list ds] => some (.int ds.length)
  | [.tuple ds] => some (.int ds.length)
  | [.str x] => if x.length ≤ sizeLine then some (.int x.length) else none
  | [.dict kvs] => some (.int kvs.length)
  | _ => none
theorem d_len {K : PySem.W.Frag} : RCD K (fun xs H Q => ∃ x n, xs = [x] ∧ LenV K x H n ∧ Q (.int n) H) lenD := by
  intro H O vs ds dz tr hv hd Q q
  match ds, vs, hv, hd with
  | [.list ds], _, .cons (@Dq.lst _ _ a us _ h1 h2) .nil, hd => cases hd; exact ⟨_, _, rfl, .inl ⟨us, .inl (.inl (mn_some h1).1), rfl⟩, by rw [DqA.len h2]; exact q _ _ (Ex.refl H) (.int _)⟩
  | [.tuple ds], _, .cons (@Dq.tup _ _ a us _ h1 h2) .nil, hd => cases hd; exact ⟨_, _, rfl, .inr ⟨us, sqT_up h1, rfl⟩, by rw [DqA.len h2]; exact q _ _ (Ex.refl H) (.int _)⟩
  | [.str x], _, .cons (.str _) .nil, hd =>
    obtain ⟨hz, rfl⟩ := iteS hd
    exact ⟨_, _, rfl, ⟨hz, rfl⟩, q _ _ (Ex.refl H) (.int _)⟩
  | [.dict kvs], _, .cons h0 .nil, hd =>
    cases hd
    cases h0 with
    | @scr a ns h1 =>
      refine ⟨_, _, rfl, .inl ⟨_, ex_l mn_le h1, rfl⟩, ?_⟩
      rw [List.length_map] at q ⊢
      exact q _ _ (Ex.refl H) (.int _)
def lenL (ds : List PyData) : Option PyData := some (.int ds.length)
theorem d_lenL {K : PySem.W.Frag} : RLD K (fun xs H Q => ∃ x n, xs = [x] ∧ LenV K x H n ∧ Q (.int n) H) lenL := by
  intro H O a vs ds dz tr h1 h2 hd Q q
  cases hd
  exact ⟨_, _, rfl, .inl ⟨vs, .inl (.inl h1), rfl⟩, by rw [DqA.len h2]; exact q _ _ (Ex.refl H) (.int _)⟩
/-! tuple, list -/
def tupL (ds : List PyData) : Option PyData := some (.tuple ds)
theorem d_tupL {K : PySem.W.Frag} : RLD K (fun xs H Q => ∃ p ys, xs = [.ref p] ∧ ((SqL K H p ys ∧ ∀ l, H l = none → Q (.ref l) (upd H l (.tup ys))) ∨ (SqT K H p ys ∧ Q (.ref p) H))) tupL := by
  intro H O a vs ds dz tr h1 h2 hd Q q
  cases hd
  exact ⟨a, vs, rfl, .inl ⟨.inl (.inl h1), fun l hl => q _ _ (Ex.new hl) (nu_tup tr h2 hl)⟩⟩
def tupD : List PyData → Option PyData
  | [.list ds] => some (.tuple ds)
  | [.tuple ds] => some (.tuple ds)
  | _ => none
theorem d_tup {K : PySem.W.Frag} : RCD K (fun xs H Q => ∃ p ys, xs = [.ref p] ∧ ((SqL K H p ys ∧ ∀ l, H l = none → Q (.ref l) (upd H l (.tup ys))) ∨ (SqT K H p ys ∧ Q (.ref p) H))) tupD := by
  intro H O vs ds dz tr hv hd Q q
  match ds, vs, hv, hd with
  | [.list ds], _, .cons (@Dq.lst _ _ a us _ h1 h2) .nil, hd => cases hd; exact ⟨a, us, rfl, .inl ⟨.inl (.inl (mn_some h1).1), fun l hl => q _ _ (Ex.new hl) (nu_tup tr h2 hl)⟩⟩
  | [.tuple ds], _, .cons (@Dq.tup _ _ a us _ h1 h2) .nil, hd => cases hd; exact ⟨a, us, rfl, .inr ⟨sqT_up h1, q _ _ (Ex.refl H) (.tup h1 h2)⟩⟩
/-- list(x): new -/
def lisD (d : PyData) : Option (List PyData) := match d with
  | .list ds => some ds
  | .tuple ds => some ds
  | _ => none
def sNw (h : PyData → Option (List PyData)) (f : En → Option PyData) (env : En) : Option (List PyData) := (f env).bind h
theorem en_list {c : Expr} (hp : ∀ {t}, PA X [e] t → PE X c (tCB (fun xs H Q => ∃ p ys, xs = [.ref p] ∧ (SqL X.K H p ys ∨ SqT X.K H p ys) ∧ ∀ l, H l = none → Q (.ref l) (upd H l (.lst ys))) t)) (he : ED X e f) (hs : starEach [e] X.env = (false, eval e X.env) :: starEach [] X.env := by rfl) : EN X c (sNw lisD f) := by
  obtain ⟨t, h1, r1⟩ := he.ex
  refine .of ⟨_, hp (pa_cons h1 pa_nil hs), fun H0 O0 O H σ env R ds hd Q q => ?_⟩
  unfold sNw at hd
  cases hx : f env with
  | none => rw [hx] at hd; cases hd
  | some d =>
    rw [hx, Option.bind_some] at hd
    refine r1 H0 O0 O H σ env R d hx _ fun v H1 e1 q1 => ?_
    cases q1 with
    | @lst p vs es g1 g2 =>
      cases hd
      exact ⟨p, vs, rfl, .inl (.inl (.inl (mn_some g1).1)), fun l hl => q l vs _ (e1.trans (Ex.new hl)) (fresh_back e1 hl) upd_same (nu_its g2 hl)⟩
    | @tup p vs es g1 g2 =>
      cases hd
      exact ⟨p, vs, rfl, .inr (sqT_up g1), fun l hl => q l vs _ (e1.trans (Ex.new hl)) (fresh_back e1 hl) upd_same (nu_its g2 hl)⟩
    | _ => cases hd
/-! list + list, list * int: new -/
def sCat (fl gl : En → Option (List PyData)) (env : En) : Option (List PyData) := (fl env).bind fun xs => (gl env).bind fun ys => if xs.length + ys.length ≤ sizeLine then some (xs ++ ys) else none
def sRep (fl : En → Option (List PyData)) (fb : En → Option PyData) (env : En) : Option (List PyData) := (fl env).bind fun xs => (fb env).bind fun y => (asI y).bind fun k => if -(2 ^ 63) ≤ k ∧ k < 2 ^ 63 ∧ xs.length * k.toNat ≤ sizeLine then some (List.replicate k.toNat xs).flatten else none
theorem en_cat (ha : EL X a fl) {gl : En → Option (List PyData)} (hb : EL X b gl) : EN X (.BinOp a .Add b pos) (sCat fl gl) := by
  obtain ⟨ta, h1, r1⟩ := ha.ex
  obtain ⟨tb, h2, r2⟩ := hb.ex
  refine .of ⟨_, pe_op op_cat h1 h2, fun H0 O0 O H σ env R d hd Q q => ?_⟩
  unfold sCat at hd
  cases hx : fl env with
  | none => simp only [hx] at hd; cases hd
  | some xs =>
    cases hy : gl env with
    | none => simp only [hx, hy] at hd; cases hd
    | some ys =>
      simp only [hx, hy, Option.bind_some] at hd
      obtain ⟨hz, rfl⟩ := iteS hd
      refine r1 H0 O0 O H σ env R xs hx _ fun p vs H1 e1 p1 p2 => ?_
      refine r2 H0 O0 O H1 σ env (R.up e1) ys hy _ fun p' ws H2 e2 p3 p4 => ?_
      exact ⟨p, p', vs, ws, rfl, rfl, e2 _ _ p1, p3, by rw [DqA.len p2, DqA.len p4]; exact hz, fun l hl => q l _ _ ((e1.trans e2).trans (Ex.new hl)) (fresh_back (e1.trans e2) hl) upd_same (nu_its (DqA.app (dpa_up (mn_ex e2) p2) p4) hl)⟩
theorem en_rep (ha : EL X a fl) (hb : ED X b fb) : EN X (.BinOp a .Mult b pos) (sRep fl fb) := by
  obtain ⟨ta, h1, r1⟩ := ha.ex
  obtain ⟨tb, h2, r2⟩ := hb.ex
  refine .of ⟨_, pe_op op_rep h1 h2, fun H0 O0 O H σ env R d hd Q q => ?_⟩
  unfold sRep at hd
  cases hx : fl env with
  | none => simp only [hx] at hd; cases hd
  | some xs =>
    cases hy : fb env with
    | none => simp only [hx, hy] at hd; cases hd
    | some y =>
      simp only [hx, hy, Option.bind_some] at hd
      cases y with
      | int k =>
        simp only [asI, Option.bind_some] at hd
        obtain ⟨⟨c1, c2, c3⟩, rfl⟩ := iteS hd
        refine r1 H0 O0 O H σ env R xs hx _ fun p vs H1 e1 p1 p2 => ?_
        refine r2 H0 O0 O H1 σ env (R.up e1) _ hy _ fun v H2 e2 p3 => ?_
        cases p3
        exact ⟨p, k, vs, rfl, rfl, e2 _ _ p1, c1, c2, by rw [DqA.len p2]; exact c3, fun l hl => q l _ _ ((e1.trans e2).trans (Ex.new hl)) (fresh_back (e1.trans e2) hl) upd_same (nu_its (DqA.rep k.toNat (dpa_up (mn_ex e2) p2)) hl)⟩
      | _ => cases hd
/-! sum, all, any -/
def intL : List PyData → Option (List Int)
  | [] => some []
  | .int i :: ds => (intL ds).bind fun ns => some (i :: ns)
  | _ => none
def blL : List PyData → Option (List Bool)
  | [] => some []
  | .bool i :: ds => (blL ds).bind fun ns => some (i :: ns)
  | _ => none
theorem intL_v {K : PySem.W.Frag} {H : Hp} : ∀ {ds : List PyData} {vs : List V} {ns : List Int}, DqA K H vs ds → intL ds = some ns → vs = ns.map V.int
  | [], _, _, .nil, h => by cases h; rfl
  | .int i :: ds, _, ns, .cons (.int _) h2, h => by
    have h' : (intL ds).bind (fun ns => some (i :: ns)) = some ns := h
    cases hi : intL ds with
    | none => rw [hi] at h'; cases h'
    | some ms =>
      rw [hi] at h'
      cases h'
      rw [intL_v h2 hi]
      rfl
theorem blL_v {K : PySem.W.Frag} {H : Hp} : ∀ {ds : List PyData} {vs : List V} {ns : List Bool}, DqA K H vs ds → blL ds = some ns → vs = ns.map V.bl
  | [], _, _, .nil, h => by cases h; rfl
  | .bool i :: ds, _, ns, .cons (.bl _) h2, h => by
    have h' : (blL ds).bind (fun ns => some (i :: ns)) = some ns := h
    cases hi : blL ds with
    | none => rw [hi] at h'; cases h'
    | some ms =>
      rw [hi] at h'
      cases h'
      rw [blL_v h2 hi]
      rfl
def sumL (ds : List PyData) : Option PyData := (intL ds).bind fun ns => some (.int ns.sum)
def allL (ds : List PyData) : Option PyData := (blL ds).bind fun ns => some (.bool (ns.all id))
def anyL (ds : List PyData) : Option PyData := (blL ds).bind fun ns => some (.bool (ns.any id))
theorem d_sumL {K : PySem.W.Frag} : RLD K (rSum K) sumL := by
  intro H O a vs ds dz tr h1 h2 hd Q q
  unfold sumL at hd
  cases hi : intL ds with
  | none => rw [hi] at hd; cases hd
  | some ns =>
    rw [hi] at hd; cases hd
    exact ⟨a, ns, rfl, by rw [← intL_v h2 hi]; exact .inl (.inl h1), q _ _ (Ex.refl H) (.int _)⟩
theorem d_allL {K : PySem.W.Frag} : RLD K (rAll K) allL := by
  intro H O a vs ds dz tr h1 h2 hd Q q
  unfold allL at hd
  cases hi : blL ds with
  | none => rw [hi] at hd; cases hd
  | some ns =>
    rw [hi] at hd; cases hd
    exact ⟨a, ns, rfl, by rw [← blL_v h2 hi]; exact .inl (.inl h1), q _ _ (Ex.refl H) (.bl _)⟩
theorem d_anyL {K : PySem.W.Frag} : RLD K (rAny K) anyL := by
  intro H O a vs ds dz tr h1 h2 hd Q q
  unfold anyL at hd
  cases hi : blL ds with
  | none => rw [hi] at hd; cases hd
  | some ns =>
    rw [hi] at hd; cases hd
    exact ⟨a, ns, rfl, by rw [← blL_v h2 hi]; exact .inl (.inl h1), q _ _ (Ex.refl H) (.bl _)⟩
/-! int, str, min, max of two -/
def intD : List PyData → Option PyData
  | [.int i] => some (.int i)
  | [.bool b] => some (.int (if b then 1 else 0))
  | _ => none
theorem d_int {K : PySem.W.Frag} : RCD K (fun xs H Q => (∃ i, xs = [.int i] ∧ Q (.int i) H) ∨ ∃ k, xs = [.bl k] ∧ Q (.int (if k then 1 else 0)) H) intD := by
  intro H O vs ds dz tr hv hd Q q
  match ds, vs, hv, hd with
  | [.int i], _, .cons (.int _) .nil, hd => cases hd; exact .inl ⟨i, rfl, q _ _ (Ex.refl H) (.int _)⟩
  | [.bool b], _, .cons (.bl _) .nil, hd => cases hd; exact .inr ⟨b, rfl, q _ _ (Ex.refl H) (.int _)⟩
def strD : List PyData → Option PyData
  | [.int i] => if i.natAbs.log2 < 1920 then some (.str (Str.ofString (toString i))) else none
  | _ => none
theorem d_str {K : PySem.W.Frag} : RCD K (fun xs H Q => ∃ i, xs = [.int i] ∧ i.natAbs.log2 < 1920 ∧ Q (.str (toString i)) H) strD := by
  intro H O vs ds dz tr hv hd Q q
  match ds, vs, hv, hd with
  | [.int i], _, .cons (.int _) .nil, hd =>
    obtain ⟨hz, rfl⟩ := iteS hd
    exact ⟨i, rfl, hz, q _ _ (Ex.refl H) (.str _)⟩
def minD : List PyData → Option PyData
  | [.int i, .int j] => some (.int (if j < i then j else i))
  | _ => none
theorem d_min {K : PySem.W.Frag} : RCD K (fun xs H Q => ∃ i j, xs = [.int i, .int j] ∧ Q (.int (if j < i then j else i)) H) minD := by
  intro H O vs ds dz tr hv hd Q q
  match ds, vs, hv, hd with
  | [.int i, .int j], _, .cons (.int _) (.cons (.int _) .nil), hd => cases hd; exact ⟨i, j, rfl, q _ _ (Ex.refl H) (.int _)⟩
def maxD : List PyData → Option PyData
  | [.int i, .int j] => some (.int (if j > i then j else i))
  | _ => none
theorem d_max {K : PySem.W.Frag} : RCD K (fun xs H Q => ∃ i j, xs = [.int i, .int j] ∧ Q (.int (if j > i then j else i)) H) maxD := by
  intro H O vs ds dz tr hv hd Q q
  match ds, vs, hv, hd with
  | [.int i, .int j], _, .cons (.int _) (.cons (.int _) .nil), hd => cases hd; exact ⟨i, j, rfl, q _ _ (Ex.refl H) (.int _)⟩
/-! isinstance -/
def tyN : PyData → String
  | .none => "NoneType"
  | .bool _ => "bool"
  | .int _ => "int"
  | .str _ => "str"
  | .list _ => "list"
  | .tuple _ => "tuple"
  | .dict _ => "dict"
def isiB (a b : String) : Bool := a == b || (a == "bool" && b == "int")
def isiD (T : String) : PyData → Option PyData
  | .dict _ => none
  | d => some (.bool (isiB (tyN d) T))
def KitOk (T : String) : Prop := ∀ a ∈ ["NoneType", "bool", "int", "str", "list", "tuple"], kitB a T = some (isiB a T)
theorem kit_int : KitOk "int" := by
  intro a ha
  simp only [List.mem_cons, List.not_mem_nil, or_false] at ha
  rcases ha with rfl | rfl | rfl | rfl | rfl | rfl <;> decide +kernel
theorem kit_bool : KitOk "bool" := by
  intro a ha
  simp only [List.mem_cons, List.not_mem_nil, or_false] at ha
  rcases ha with rfl | rfl | rfl | rfl | rfl | rfl <;> decide +kernel
theorem kit_tuple : KitOk "tuple" := by
  intro a ha
  simp only [List.mem_cons, List.not_mem_nil, or_false] at ha
  rcases ha with rfl | rfl | rfl | rfl | rfl | rfl <;> decide +kernel
theorem kit_str : KitOk "str" := by
  intro a ha
  simp only [List.mem_cons, List.not_mem_nil, or_false] at ha
  rcases ha with rfl | rfl | rfl | rfl | rfl | rfl <;> decide +kernel
theorem dq_ty {K : PySem.W.Frag} {H : Hp} {O : Ow} {v : V} {d : PyData} (h : Dq K (mn H O) v d) (hn : ∀ kvs, d ≠ .dict kvs) : TyX K H v (.type (tyN d)) ∧ tyN d ∈ ["NoneType", "bool", "int", "str", "list", "tuple"] := by
  cases h with
  | non => exact ⟨.base .non, by simp [tyN]⟩
  | bl b => exact ⟨.base (.bl b), by simp [tyN]⟩
  | int i => exact ⟨.base (.int i), by simp [tyN]⟩
  | str x => exact ⟨.base (.str x), by simp [tyN]⟩
  | lst h1 _ => exact ⟨.base (.lst (mn_some h1).1), by simp [tyN]⟩
  | tup h1 _ =>
    refine ⟨?_, by simp [tyN]⟩
    rcases sqT_up h1 with h | ⟨o, its, n, hk, hc, _⟩
    · rcases h with h | ⟨o, h⟩
      · exact .base (.tup h)
      · exact .fTuple h
    · exact .kTuple hk hc
  | scr _ => exact absurd rfl (hn _)
theorem ed_isi {c : Expr} {T : String} (hk : KitOk T) (hp : ∀ {t}, PA X [e, a] t → PE X c (tCB (rIsi X.K) t)) (he : ED X e f) (ha : PE X a (tC (.ty T))) (hs : starEach [e, a] X.env = (false, eval e X.env) :: starEach [a] X.env := by rfl) (hs2 : starEach [a] X.env = (false, eval a X.env) :: starEach [] X.env := by rfl) :
    ED X c (s1 (isiD T) f) := by
  obtain ⟨t, h1, r1⟩ := he.ex
  refine .of ⟨_, hp (pa_cons h1 (pa_cons ha pa_nil hs2) hs), fun H0 O0 O H σ env R ds hd Q q => ?_⟩
  unfold s1 at hd
  cases hx : f env with
  | none => rw [hx] at hd; cases hd
  | some d =>
    rw [hx, Option.bind_some] at hd
    have hn : ∀ kvs, d ≠ .dict kvs := fun kvs z => by rw [z] at hd; cases hd
    have hd' : some (PyData.bool (isiB (tyN d) T)) = some ds := by
      cases d with
      | dict kvs => exact absurd rfl (hn kvs)
      | _ => exact hd
    cases hd'
    refine r1 H0 O0 O H σ env R d hx _ fun v H1 e1 q1 => ?_
    obtain ⟨g1, g2⟩ := dq_ty q1 hn
    exact ⟨v, .ty T, _, _, _, rfl, .ty T, g1, kit_ty (hk _ g2), q _ _ e1 (.bl _)⟩
/-! ### places -/
theorem atI_d {K : PySem.W.Frag} {H : Hp} {vs : List V} {ds : List PyData} {i : Int} {d : PyData} (h : DqA K H vs ds) (hd : atI ds i = some d) : ∃ v, atI vs i = some v ∧ Dq K H v d := by
  unfold atI at hd ⊢
  rw [DqA.len h]
  cases hj : ixN ds.length i with
  | none => rw [hj] at hd; cases hd
  | some j =>
    rw [hj, Option.bind_some] at hd
    exact DqA.get h hd
def ixD : PyData → PyData → Option PyData
  | .list ds, .int i => atI ds i
  | .tuple ds, .int i => atI ds i
  | .str z, .int i => if z.length ≤ sizeLine then (atI z.cps.toList i).bind fun c => some (.str ⟨#[c]⟩) else none
  | .dict kvs, .int i => atI (kvs.map (·.1)) i
  | _, _ => none
theorem d_ix {K : PySem.W.Frag} : R2D K (rIx K) ixD := by
  intro H O x y dx dy dz tr hx hy hd Q q
  cases hy with
  | int i =>
    cases hx with
    | @lst a vs ds h1 h2 =>
      obtain ⟨v, g1, g2⟩ := atI_d h2 (show atI ds i = some dz from hd)
      exact .inl ⟨a, vs, i, v, rfl, rfl, .inl (.inl (mn_some h1).1), g1, q _ _ (Ex.refl H) g2⟩
    | @tup a vs ds h1 h2 =>
      obtain ⟨v, g1, g2⟩ := atI_d h2 (show atI ds i = some dz from hd)
      exact .inr (.inl ⟨a, vs, i, v, rfl, rfl, sqT_up h1, g1, q _ _ (Ex.refl H) g2⟩)
    | str z =>
      have hd' : (if z.length ≤ sizeLine then (atI z.cps.toList i).bind fun c => some (PyData.str ⟨#[c]⟩) else none) = some dz := hd
      by_cases hz : z.length ≤ sizeLine
      · rw [if_pos hz] at hd'
        cases hc : atI z.cps.toList i with
        | none => rw [hc] at hd'; cases hd'
        | some c =>
          rw [hc] at hd'; cases hd'
          exact .inr (.inr ⟨z, i, c, rfl, rfl, hz, hc, q _ _ (Ex.refl H) (.str _)⟩)
      · rw [if_neg hz] at hd'; cases hd'
    | @scr a ns h1 =>
      have hm : List.map (fun x : PyData × PyData => x.1) (ns.map fun n => (PyData.int n, PyData.none)) = ns.map PyData.int := by rw [List.map_map]; rfl
      have hd' : atI (List.map (fun x : PyData × PyData => x.1) (ns.map fun n => (PyData.int n, PyData.none))) i = some dz := hd
      rw [hm] at hd'
      obtain ⟨v, g1, g2⟩ := atI_d (K := K) (H := mn H O) (dqa_ints ns) hd'
      exact .inl ⟨a, _, i, v, rfl, rfl, ex_l mn_le h1, g1, q _ _ (Ex.refl H) g2⟩
    | _ => cases hd
  | _ => cases hx <;> cases hd
theorem ed_ix (ha : ED X a fa) (hb : ED X b fb) (hs : PlainIx b) : ED X (.Subscript a b pos) (s2 ixD fa fb) := ed_2 (t := fun _ _ => tC .non) (fun h1 h2 => pe_ix ix_seq h1 h2 hs) d_ix ha hb
/-- xs[i] of a list that is still written to -/
def sIxL (fl : En → Option (List PyData)) (fb : En → Option PyData) (env : En) : Option PyData := (fl env).bind fun ds => (fb env).bind fun y => (asI y).bind fun i => atI ds i
theorem ed_ixL (ha : EL X a fl) (hb : ED X b fb) (hs : PlainIx b) : ED X (.Subscript a b pos) (sIxL fl fb) := by
  obtain ⟨ta, h1, r1⟩ := ha.ex
  obtain ⟨tb, h2, r2⟩ := hb.ex
  refine .of ⟨_, pe_ix ix_list h1 h2 hs, fun H0 O0 O H σ env R d hd Q q => ?_⟩
  unfold sIxL at hd
  cases hx : fl env with
  | none => rw [hx] at hd; cases hd
  | some ds =>
    cases hy : fb env with
    | none => rw [hx, hy] at hd; cases hd
    | some y =>
      rw [hx, hy, Option.bind_some, Option.bind_some] at hd
      cases y with
      | int i =>
        simp only [asI, Option.bind_some] at hd
        refine r1 H0 O0 O H σ env R ds hx _ fun p vs H1 e1 p1 p2 => ?_
        refine r2 H0 O0 O H1 σ env (R.up e1) _ hy _ fun v H2 e2 p3 => ?_
        cases p3
        obtain ⟨v, g1, g2⟩ := atI_d (dpa_up (mn_ex e2) p2) hd
        exact ⟨p, vs, i, v, rfl, rfl, .inl (.inl (e2 _ _ p1)), g1, q _ _ (e1.trans e2) g2⟩
      | _ => cases hd
/-! ### slices -/
structure DO (X : Cx) (lo : Option Expr) (f : En → Option (Option Int)) : Prop where
  ex : ∃ t, PO X lo t ∧ ∀ H0 O0 O H σ env, Rp X.K H0 O0 O H σ env → ∀ o, f env = some o → ∀ Q : Option Int → Hp → Prop, (∀ H', Ex H H' → Q o H') → t σ H Q
def sNo (_ : En) : Option (Option Int) := some none
def sSo (f : En → Option PyData) (env : En) : Option (Option Int) := (f env).bind fun d => (asI d).bind fun i => some (some i)
theorem do_none : DO X none sNo := ⟨_, po_none, fun H0 O0 O H σ env R o hd Q q => by cases hd; exact q H (Ex.refl H)⟩
theorem do_some (h : ED X e f) : DO X (some e) (sSo f) := by
  obtain ⟨t, h1, r1⟩ := h.ex
  refine ⟨_, po_some h1, fun H0 O0 O H σ env R o hd Q q => ?_⟩
  unfold sSo at hd
  cases hx : f env with
  | none => rw [hx] at hd; cases hd
  | some d =>
    rw [hx, Option.bind_some] at hd
    cases d with
    | int i =>
      cases hd
      refine r1 H0 O0 O H σ env R _ hx _ fun v H1 e1 q1 => ?_
      cases q1
      exact ⟨i, rfl, q H1 e1⟩
    | _ => cases hd
def cutL (xs : List PyData) (lo hi : Option Int) : List PyData := (xs.drop (HT.sIx xs.length 0 lo)).take (HT.sIx xs.length xs.length hi - HT.sIx xs.length 0 lo)
theorem cut_d {K : PySem.W.Frag} {H : Hp} {vs : List V} {ds : List PyData} (h : DqA K H vs ds) (lo hi : Option Int) : DqA K H (cutV vs lo hi) (cutL ds lo hi) := by
  unfold cutV cutL
  rw [DqA.len h]
  exact DqA.take _ (DqA.drop _ h)
def slD (d : PyData) (lo hi : Option Int) : Option PyData := match d with
  | .list ds => some (.list (cutL ds lo hi))
  | .tuple ds => some (.tuple (cutL ds lo hi))
  | .str z => if z.length ≤ sizeLine then some (.str (cutS z lo hi)) else none
  | _ => none
def sSl (f : En → Option PyData) (l h : En → Option (Option Int)) (env : En) : Option PyData := (f env).bind fun d => (l env).bind fun lo => (h env).bind fun hi => slD d lo hi
theorem ed_sl {lo hi : Option Expr} {l h : En → Option (Option Int)} {p2 : Pos} (he : ED X e f) (hl : DO X lo l) (hh : DO X hi h) : ED X (.Subscript e (.Slice lo hi none p2) pos) (sSl f l h) := by
  obtain ⟨t, h1, r1⟩ := he.ex
  obtain ⟨tl, h2, r2⟩ := hl.ex
  obtain ⟨th, h3, r3⟩ := hh.ex
  refine .of ⟨_, pe_slice ((sl_list.or sl_tupA).or sl_str) h1 h2 h3, fun H0 O0 O H σ env R d hd Q q => ?_⟩
  unfold sSl at hd
  cases hx : f env with
  | none => rw [hx] at hd; cases hd
  | some d0 =>
    cases hy : l env with
    | none => rw [hx, hy] at hd; cases hd
    | some lo' =>
      cases hz : h env with
      | none => rw [hx, hy, hz] at hd; cases hd
      | some hi' =>
        rw [hx, hy, hz, Option.bind_some, Option.bind_some, Option.bind_some] at hd
        refine r1 H0 O0 O H σ env R d0 hx _ fun v H1 e1 q1 => ?_
        have R1 := R.up e1
        refine r2 H0 O0 O H1 σ env R1 lo' hy _ fun H2 e2 => ?_
        have R2 := R1.up e2
        refine r3 H0 O0 O H2 σ env R2 hi' hz _ fun H3 e3 => ?_
        have R3 := R2.up e3
        have q3 := dp_up (mn_ex (e2.trans e3)) q1
        have e13 := (e1.trans e2).trans e3
        cases q3 with
        | @lst a vs ds g1 g2 =>
          cases hd
          exact .inl (.inl ⟨a, vs, rfl, .inl (.inl (mn_some g1).1), fun p hp => q _ _ (e13.trans (Ex.new hp)) (nu_lst R3.tr (cut_d g2 lo' hi') hp)⟩)
        | @tup a vs ds g1 g2 =>
          cases hd
          refine .inl (.inr ⟨a, vs, rfl, sqT_up g1, fun hw => ?_, fun _ p hp => q _ _ (e13.trans (Ex.new hp)) (nu_tup R3.tr (cut_d g2 lo' hi') hp)⟩)
          have : cutL ds lo' hi' = ds := by
            unfold cutL
            rw [← DqA.len g2, hw.1, hw.2, DqA.len g2]
            simp
          rw [this] at q
          exact q _ _ e13 (.tup g1 g2)
        | str z =>
          obtain ⟨hs, rfl⟩ := iteS hd
          exact .inr ⟨z, rfl, hs, q _ _ e13 (.str _)⟩
        | _ => cases hd
end
/-! ### a def -/
section
variable {P : Program} {w : World} {K : PySem.W.Frag} {mg : Str → Option Value} {base : Heap}
theorem dqa_cons_inv {H : Hp} {v : V} {vs : List V} {d : PyData} {ds : List PyData} (h : DqA K H (v :: vs) (d :: ds)) : Dq K H v d ∧ DqA K H vs ds := by
  cases h with
  | cons a b => exact ⟨a, b⟩
theorem rp_start {H : Hp} {O : Ow} {vs : List V} {ds : List PyData} {n : Nat} (tr : ∀ a, O a = true → H a ≠ none) (h : DqA K (mn H O) vs ds) : Rp K H O O H (vs.map some ++ List.replicate n none) (ds.map Sl.dat ++ List.replicate n Sl.un) := by
  have hl := DqA.len h
  refine ⟨tr, Ex.refl H, fun _ h => h, tr, by simp [hl], fun i s e => ?_, fun i j xs ys _ e1 _ => ?_⟩
  · by_cases hi : i < ds.length
    · rw [List.getElem?_append_left (by simpa using hi), List.getElem?_map, List.getElem?_eq_getElem hi] at e
      cases e
      obtain ⟨v, g1, g2⟩ := DqA.get (d := ds[i]) h (List.getElem?_eq_getElem hi)
      exact ⟨v, by rw [List.getElem?_append_left (by simpa [hl] using hi), List.getElem?_map, g1]; rfl, g2⟩
    · rw [List.getElem?_append_right (by simpa using Nat.le_of_not_lt hi)] at e
      have := List.getElem?_eq_some_iff.mp e
      obtain ⟨_, e2⟩ := this
      simp at e2
      subst e2
      trivial
  · by_cases hi : i < ds.length
    · rw [List.getElem?_append_left (by simpa using hi), List.getElem?_map, List.getElem?_eq_getElem hi] at e1
      cases e1
    · rw [List.getElem?_append_right (by simpa using Nat.le_of_not_lt hi)] at e1
      obtain ⟨_, e2⟩ := List.getElem?_eq_some_iff.mp e1
      simp at e2
def rtD : Ou → PyData
  | .rt d => d
  | .nx _ => .none
/-- what a def's body gives -/
def runB (n : Nat) (g : En → Option Ou) (ds : List PyData) : Option PyData := (g (ds.map Sl.dat ++ List.replicate n Sl.un)).bind fun r => some (rtD r)
theorem fn_d {x : Str} {st : Stmt} {f : Addr} {fd : FuncData} {N ps : List Str} {k n : Nat} {g : En → Option Ou} (F : C8.Fun K x x st f fd) (S : FnScope N ps (C8.fnScope st)) (hn : N.length = ps.length + n)
    (hbody : ∀ (cdv : Value) (A : Around) (outer : List Env) (s : Shared) (H : Hp) (E : XK), Room k (A.deeper (envOfC x (C8.fnScope st) s.heap.objs.size f cdv)) → DSs (cxOf C8.CX0 P w K mg base N x (C8.fnScope st) f cdv A outer s H E).nox (C8.fnBody st) g) :
    FnOk P w K mg base C8.CX0 (k + 1) f fd ps (spD ps.length (runB n g) K) := by
  refine C8.fn0 F S (fun vs H Q E h => ?_) fun cdv A outer s H vs Q E hr hsp => ⟨_, hbody cdv A outer s H E hr, ?_⟩
  · obtain ⟨O, ds, d, tr, hl, hd, _⟩ := h
    rw [DqA.len hd, hl]
  · obtain ⟨O, ds, d, tr, hl, hd, hf, q⟩ := hsp
    unfold runB at hf
    cases hg : g (ds.map Sl.dat ++ List.replicate n Sl.un) with
    | none => rw [hg] at hf; cases hf
    | some r =>
      rw [hg] at hf
      have hlen : N.length - vs.length = n := by rw [DqA.len hd, hl, hn]; omega
      have R := rp_start (K := K) (n := n) tr hd
      refine ⟨H, O, O, _, r, by unfold L2.start; rw [hlen]; exact R, hg, ?_⟩
      cases r with
      | nx env =>
        cases hf
        exact fun O' H' σ' R' e' => q _ _ R'.ex .non
      | rt d' =>
        cases hf
        exact fun v H' e' hv => q v H' e' hv
end
end Dz

/-! Dz9: more of the same. -/
namespace Dz
open PySem PySem.Spec PyProof.Rows L2 Evl
section
variable {X : Cx} {e a b c : Expr} {es : List Expr} {f fa fb fc : En → Option PyData} {fl : En → Option (List PyData)} {pos p : Pos}
theorem dt_chain {op op' : CmpOp} {r r' : R2} {g g' : PyData → PyData → Option PyData} (ho : OpR X (compareOp op) r) (ho' : OpR X (compareOp op') r') (hr : R2D X.K r g) (hr' : R2D X.K r' g') (ha : ED X a fa) (hb : ED X b fb) (hc : ED X c fc)
    (hm : lastMarks [op, op'] [b, c] = false := by with_unfolding_all rfl) : DT X (.Compare a [op, op'] [b, c] pos) (sB (sChain g g' fa fb fc)) := by
  obtain ⟨ta, h1, r1⟩ := ha.ex
  obtain ⟨tb, h2, r2⟩ := hb.ex
  obtain ⟨tc, h3, r3⟩ := hc.ex
  refine .of ⟨_, pt_chain ho ho' h1 h2 h3 hm, fun H0 O0 O H σ env R d hd Q q => ?_⟩
  unfold sB sChain at hd
  cases hx : fa env with
  | none => rw [hx] at hd; cases hd
  | some dx =>
    cases hy : fb env with
    | none => rw [hx, hy] at hd; cases hd
    | some dy =>
      rw [hx, hy] at hd
      simp only [Option.bind_some] at hd
      cases hg : g dx dy with
      | none => rw [hg] at hd; cases hd
      | some dk =>
        rw [hg] at hd
        simp only [Option.bind_some] at hd
        cases dk with
        | bool k =>
          simp only [asB, Option.bind_some] at hd
          refine r1 H0 O0 O H σ env R dx hx _ fun x H1 e1 q1 => ?_
          have R1 := R.up e1
          refine r2 H0 O0 O H1 σ env R1 dy hy _ fun y H2 e2 q2 => ?_
          have R2 := R1.up e2
          refine hr H2 O x y dx dy _ R2.tr (dp_up (mn_ex e2) q1) q2 hg _ fun z H3 e3 q3 => ?_
          cases q3
          refine ⟨k, rfl, ?_⟩
          cases k with
          | false =>
            simp only [Bool.false_eq_true, if_false, Option.bind_some, asB] at hd ⊢
            cases hd
            exact ⟨_, rfl, q _ ((e1.trans e2).trans e3)⟩
          | true =>
            simp only [if_true] at hd ⊢
            cases hz : fc env with
            | none => rw [hz] at hd; cases hd
            | some dz =>
              rw [hz] at hd
              simp only [Option.bind_some] at hd
              cases hg2 : g' dy dz with
              | none => rw [hg2] at hd; cases hd
              | some dk2 =>
                rw [hg2] at hd
                cases dk2 with
                | bool k2 =>
                  cases hd
                  have R3 := R2.up e3
                  refine r3 H0 O0 O H3 σ env R3 dz hz _ fun w H4 e4 q4 => ?_
                  refine hr' H4 O y w dy dz _ (R3.up e4).tr (dp_up (mn_ex (e3.trans e4)) q2) q4 hg2 _ fun v H' e5 q5 => ?_
                  cases q5
                  exact ⟨_, rfl, q _ ((((e1.trans e2).trans e3).trans e4).trans e5)⟩
                | _ => cases hd
        | _ => cases hd
def negD : PyData → Option PyData
  | .int i => some (.int (-i))
  | _ => none
theorem ed_neg (h : ED X a fa) : ED X (.UnaryOp .USub a pos) (s1 negD fa) := by
  obtain ⟨t, h1, r1⟩ := h.ex
  refine .of ⟨_, pe_un un_neg h1, fun H0 O0 O H σ env R d hd Q q => ?_⟩
  unfold s1 at hd
  cases hx : fa env with
  | none => rw [hx] at hd; cases hd
  | some dx =>
    rw [hx, Option.bind_some] at hd
    cases dx with
    | int i =>
      cases hd
      refine r1 H0 O0 O H σ env R _ hx _ fun v H1 e1 q1 => ?_
      cases q1
      exact ⟨i, rfl, q _ _ e1 (.int _)⟩
    | _ => cases hd
/-- xs[::-1], xs a list -/
def revL : PyData → Option (List PyData)
  | .list ds => some ds.reverse
  | _ => none
theorem en_rev {k : Nat} {p1 p2 p3 : Pos} (h : ED X e f) : EN X (.Subscript e (.Slice none none (some (.UnaryOp .USub (.Constant (.int 1) k p1) p2)) p3) pos) (sNw revL f) := by
  obtain ⟨t, h1, r1⟩ := h.ex
  refine .of ⟨_, pe_revL h1, fun H0 O0 O H σ env R ds hd Q q => ?_⟩
  unfold sNw at hd
  cases hx : f env with
  | none => rw [hx] at hd; cases hd
  | some dx =>
    rw [hx, Option.bind_some] at hd
    cases dx with
    | list es =>
      cases hd
      refine r1 H0 O0 O H σ env R _ hx _ fun v H1 e1 q1 => ?_
      cases q1 with
      | @lst a vs _ g1 g2 =>
        exact ⟨a, vs, rfl, .inl (.inl (mn_some g1).1), fun l hl => q l _ _ (e1.trans (Ex.new hl)) (fresh_back e1 hl) upd_same (nu_its (DqA.rev g2) hl)⟩
    | _ => cases hd
/-- a module's constant -/
theorem ed_gi {x : Str} {i : Int} {t : Tok} (hg : Gl X x) (hm : X.mg x = some (.int i t)) (hd : (x == ("__debug__" : Str)) = false := by decide) : ED X (.Name x pos) (sC (.int i)) := ed_c (v := .int i) (pe_glob hg hm ⟨t, rfl⟩ hd) fun _ => .int i
theorem ed_gs {x z : Str} {t : Tok} (hg : Gl X x) (hm : X.mg x = some (.str z t)) (hd : (x == ("__debug__" : Str)) = false := by decide) : ED X (.Name x pos) (sC (.str z)) := ed_c (v := .str z) (pe_glob hg hm ⟨t, rfl⟩ hd) fun _ => .str z
/-- a, b = a list -/
def gL (r : List PyData → En → Option En) : PyData → En → Option En
  | .list ds, env => r ds env
  | _, _ => none
theorem dg_lst {k : Nat} {is : List Nat} {r : List PyData → En → Option En} {n : Nat} (hc : X.calm = true) (h : DGs X es is r) (hl : ∀ ds env env', r ds env = some env' → ds.length = n)
    (hn : (assignEach es X.env).length = n := by rfl) (hst : (assignEach es X.env).findIdx? (·.1) = none := by rfl) : DG X (.Tuple es k pos) is (gL r) :=
  ⟨fun pins s σ H v u Q I rr ⟨H0, O0, O, env, d, env', R, hv, hg, q⟩ => (pg_unl hc h hn hst).run pins s σ H v u Q I rr (by
    cases hv with
    | @lst a xs ds h1 h2 =>
      have hg' : r ds env = some env' := hg
      exact ⟨a, xs, rfl, .inl (.inl (mn_some h1).1), by rw [DqA.len h2]; exact hl ds env env' hg', H0, O0, O, env, ds, env', R, h2, hg', q⟩
    | _ => cases hg)⟩
/-- for i, x in enumerate(..) -/
theorem en_get {xs : List PyData} {i : Nat} : (enL xs)[i]? = (xs[i]?).map fun x => .tuple [.int (i : Nat), x] := by
  unfold enL
  rw [List.getElem?_map, List.getElem?_zipIdx]
  cases xs[i]? <;> simp
theorem wk_enu {K : PySem.W.Frag} {F F1 : Hp} {vs : List V} {ds : List PyData} {J : It} (w : Walk J vs.length (fun H2 => Ex F H2) (YPair (fun i => some (.int (i : Nat))) (fun i => vs[i]?))) (h : DqA K F1 vs ds) : Wk K F F1 (enL ds) J := by
  unfold Wk
  have hl : (enL ds).length = vs.length := by simp [enL, DqA.len h]
  rw [hl]
  refine Walk.mono w (fun _ e => e) fun i H2 x H3 hi e y => ?_
  obtain ⟨T, a, b, rfl, hT, rfl, ha, hb⟩ := y
  cases ha
  obtain ⟨d, g1, g2⟩ := DqA.getv h hb
  exact ⟨_, by rw [en_get, g1]; rfl, Ex.new hT, fun O2 e2 tr => pair_d tr hT (.int _) (dp_up e2 g2)⟩
theorem walk_enumT {K : PySem.W.Frag} {a : Addr} {xs : List V} : Walk (IteT K a) xs.length (fun H => SqT K H a xs) (YPair (fun i => some (.int (i : Nat))) (fun i => xs[i]?)) := by
  refine ⟨fun i _ hi q => ⟨xs, xs[i], q, by simp [hi]⟩, fun _ q => ⟨xs, q, rfl⟩, fun i H v H' _ q y => ?_⟩
  obtain ⟨T, x, h1, h2, h3, h4⟩ := y
  exact ⟨T, .int (i : Nat), x, h1, h2, h3, rfl, h4 xs q⟩
theorem di_enu {tpos : Pos} {elts : List Expr} {kk : Nat} (hg : Gl X "enumerate") (hm : X.mg "enumerate" = none) (ha : DA X [e] fl) (hs : starEach [e] X.env = [(false, eval e X.env)] := by rfl) : DI X (.Tuple elts kk tpos) (.Call (.Name "enumerate" p) [e] [] pos) (sArg enu fl) := by
  obtain ⟨t, ht, r⟩ := ha.ex
  refine .of ⟨_, pi_enA hg hm ht hs, fun H0 O0 O H σ env R ds hd Q q => ?_⟩
  unfold sArg at hd
  cases hf : fl env with
  | none => rw [hf] at hd; cases hd
  | some xs =>
    rw [hf] at hd
    refine r H0 O0 O H σ env R xs hf _ fun vs H' e hq => ?_
    match xs, vs, hq, hd with
    | [.list ds], _, .cons (@Dq.lst _ _ a us _ h1 h2) .nil, hd =>
      cases hd
      exact ⟨a, us, rfl, .inl ⟨.inl (.inl (mn_some h1).1), q _ H' e (wk_enu (Walk.mono walk_enum (fun H2 ee => ex_l ee (.inl (.inl h1))) fun _ _ _ _ _ _ y => y) h2)⟩⟩
    | [.tuple ds], _, .cons (@Dq.tup _ _ a us _ h1 h2) .nil, hd =>
      cases hd
      exact ⟨a, us, rfl, .inr ⟨sqT_up h1, q _ H' e (wk_enu (Walk.mono walk_enumT (fun H2 ee => ex_t ee h1) fun _ _ _ _ _ _ y => y) h2)⟩⟩
/-! how many arguments -/
theorem sl_nil : ∀ env ds, sNil env = some ds → ds.length = 0 := by
  intro env ds h
  cases h
  rfl
theorem sl_cons {n : Nat} (h : ∀ env ds, fl env = some ds → ds.length = n) : ∀ env ds, sCons fa fl env = some ds → ds.length = n + 1 := by
  intro env ds e
  unfold sCons at e
  cases hx : fa env with
  | none => rw [hx] at e; cases e
  | some x =>
    cases hy : fl env with
    | none => rw [hx, hy] at e; cases e
    | some xs =>
      rw [hx, hy] at e
      cases e
      simp [h env xs hy]
theorem room64 {k : Nat} {A : Around} (r : Room k A) : A.units + 64 < cLine := r.units
theorem room65 {k : Nat} {A : Around} (r : Room k A) : A.units + 65 < cLine := by
  have := r.un
  omega
end
/-- the law's end -/
theorem sp_end {K : PySem.W.Frag} {H : Hp} {a : Addr} {ns : List Int} {f : List PyData → Option PyData} {E : XK} (h : f [scrD ns] = some (.bool true)) (hS : SqL K H a (ns.map V.int)) : spD 1 f K [.ref a] H (fun v _ => v = .bl true) E := by
  have e : mn H (fun _ => false) = H := by
    funext b
    unfold mn
    simp
  refine ⟨fun _ => false, [scrD ns], .bool true, fun _ z => (by cases z), rfl, DqA.cons (.scr (by rw [e]; exact hS)) .nil, h, fun v H' _ hv => ?_⟩
  cases hv
  rfl
/-- the built-in names that the program leaves alone -/
structure Bl (mg : Str → Option Value) : Prop where
  len : mg "len" = none
  zip : mg "zip" = none
  range : mg "range" = none
  enumerate : mg "enumerate" = none
  tuple : mg "tuple" = none
  list : mg "list" = none
  sum : mg "sum" = none
  all : mg "all" = none
  any : mg "any" = none
  int : mg "int" = none
  str : mg "str" = none
  bool : mg "bool" = none
  min : mg "min" = none
  max : mg "max" = none
  sorted : mg "sorted" = none
  set : mg "set" = none
  isinstance : mg "isinstance" = none
  ValueError : mg "ValueError" = none
end Dz

/-! Pl1: how the meanings are reckoned with. -/
namespace Dz
open PySem (PyData Str sizeLine)

/-! ### comprehensions -/
theorem lcGo_map {α : Type} {body : PyData → Option (Option PyData)} {h k : α → PyData} : ∀ {xs : List α}, (∀ x ∈ xs, body (h x) = some (some (k x))) → lcGo body (xs.map h) = some (xs.map k)
  | [], _ => rfl
  | x :: xs, hb => by
    show (body (h x)).bind (fun r => (lcGo body (xs.map h)).bind fun rs => some (lcPut r rs)) = _
    rw [hb x List.mem_cons_self, lcGo_map fun y hy => hb y (List.mem_cons_of_mem _ hy)]
    rfl
theorem lcGo_filter {α : Type} {body : PyData → Option (Option PyData)} {h k : α → PyData} {p : α → Bool} : ∀ {xs : List α}, (∀ x ∈ xs, body (h x) = some (if p x = true then some (k x) else none)) → lcGo body (xs.map h) = some ((xs.filter p).map k)
  | [], _ => rfl
  | x :: xs, hb => by
    show (body (h x)).bind (fun r => (lcGo body (xs.map h)).bind fun rs => some (lcPut r rs)) = _
    rw [hb x List.mem_cons_self, lcGo_filter fun y hy => hb y (List.mem_cons_of_mem _ hy)]
    cases hp : p x <;> simp [hp, lcPut]
theorem sLc_map {α : Type} {fi : En → Option (List PyData)} {gt : PyData → En → Option En} {ft : En → Option Bool} {fe : En → Option PyData} {vs : List Nat} {env : En} {xs : List α} {h k : α → PyData}
    (hi : fi env = some (xs.map h)) (hl : xs.length ≤ 16777216) (hb : ∀ x ∈ xs, lcB gt ft fe (wipeE env vs) (h x) = some (some (k x))) : sLc fi gt ft fe vs env = some (xs.map k) := by
  unfold sLc
  rw [hi, Option.bind_some, if_pos (by rw [List.length_map]; exact hl)]
  exact lcGo_map hb
theorem sLc_filter {α : Type} {fi : En → Option (List PyData)} {gt : PyData → En → Option En} {ft : En → Option Bool} {fe : En → Option PyData} {vs : List Nat} {env : En} {xs : List α} {h k : α → PyData} {p : α → Bool}
    (hi : fi env = some (xs.map h)) (hl : xs.length ≤ 16777216) (hb : ∀ x ∈ xs, lcB gt ft fe (wipeE env vs) (h x) = some (if p x = true then some (k x) else none)) : sLc fi gt ft fe vs env = some ((xs.filter p).map k) := by
  unfold sLc
  rw [hi, Option.bind_some, if_pos (by rw [List.length_map]; exact hl)]
  exact lcGo_filter hb

/-! ### loops -/
def turn (gt : PyData → En → Option En) (body : En → Option Ou) (ks : List Nat) (d : PyData) (env : En) : Option Ou := (gt d env).bind fun env1 => (body env1).bind (oK fun env2 => some (.nx (kl ks env2)))
theorem forGo_cons {gt : PyData → En → Option En} {body : En → Option Ou} {ks : List Nat} {d : PyData} {ds : List PyData} {env : En} : forGo gt body ks (d :: ds) env = (turn gt body ks d env).bind (oK (forGo gt body ks ds)) := by
  show (gt d env).bind (fun env1 => (body env1).bind (oK fun env2 => forGo gt body ks ds (kl ks env2))) = _
  unfold turn
  cases gt d env with
  | none => rfl
  | some env1 =>
    simp only [Option.bind_some]
    cases body env1 with
    | none => rfl
    | some r => cases r <;> rfl
theorem forGo_fold {α σ : Type} {gt : PyData → En → Option En} {body : En → Option Ou} {ks : List Nat} (mk : σ → En) (h : α → PyData) (step : σ → α → σ) : ∀ (xs : List α) (s : σ),
    (∀ s, ∀ x ∈ xs, turn gt body ks (h x) (mk s) = some (.nx (mk (step s x)))) → forGo gt body ks (xs.map h) (mk s) = some (.nx (mk (xs.foldl step s)))
  | [], _, _ => rfl
  | x :: xs, s, hs => by
    rw [List.map_cons, forGo_cons, hs s x List.mem_cons_self]
    exact forGo_fold mk h step xs (step s x) fun s y hy => hs s y (List.mem_cons_of_mem _ hy)
/-- .. with a word that holds between the turns -/
theorem forGo_inv {α σ : Type} {gt : PyData → En → Option En} {body : En → Option Ou} {ks : List Nat} (mk : σ → En) (h : α → PyData) (step : σ → α → σ) (P : σ → Prop) : ∀ (xs : List α) (s : σ), P s →
    (∀ s, P s → ∀ x ∈ xs, turn gt body ks (h x) (mk s) = some (.nx (mk (step s x))) ∧ P (step s x)) → forGo gt body ks (xs.map h) (mk s) = some (.nx (mk (xs.foldl step s))) ∧ P (xs.foldl step s)
  | [], _, p, _ => ⟨rfl, p⟩
  | x :: xs, s, p, hs => by
    rw [List.map_cons, forGo_cons, (hs s p x List.mem_cons_self).1]
    exact forGo_inv mk h step P xs (step s x) (hs s p x List.mem_cons_self).2 fun s q y hy => hs s q y (List.mem_cons_of_mem _ hy)
theorem gFor_fold {α σ : Type} {fi : En → Option (List PyData)} {gt : PyData → En → Option En} {body : En → Option Ou} {ks : List Nat} {env : En} (mk : σ → En) (h : α → PyData) (step : σ → α → σ) (xs : List α) (s : σ)
    (hi : fi env = some (xs.map h)) (h0 : kl ks env = mk s) (hs : ∀ s, ∀ x ∈ xs, turn gt body ks (h x) (mk s) = some (.nx (mk (step s x)))) : gFor fi gt body ks env = some (.nx (mk (xs.foldl step s))) := by
  unfold gFor
  rw [hi, Option.bind_some, h0]
  exact forGo_fold mk h step xs s hs
theorem gFor_inv {α σ : Type} {fi : En → Option (List PyData)} {gt : PyData → En → Option En} {body : En → Option Ou} {ks : List Nat} {env : En} (mk : σ → En) (h : α → PyData) (step : σ → α → σ) (P : σ → Prop) (xs : List α) (s : σ)
    (hi : fi env = some (xs.map h)) (h0 : kl ks env = mk s) (p : P s) (hs : ∀ s, P s → ∀ x ∈ xs, turn gt body ks (h x) (mk s) = some (.nx (mk (step s x))) ∧ P (step s x)) : gFor fi gt body ks env = some (.nx (mk (xs.foldl step s))) := by
  unfold gFor
  rw [hi, Option.bind_some, h0]
  exact (forGo_inv mk h step P xs s p hs).1
/-- the state told by what has been gone through -/
theorem forGo_pre {α : Type} {gt : PyData → En → Option En} {body : En → Option Ou} {ks : List Nat} (mk : List α → En) (h : α → PyData) : ∀ (post pre : List α),
    (∀ l x r, pre ++ post = l ++ x :: r → turn gt body ks (h x) (mk l) = some (.nx (mk (l ++ [x])))) → forGo gt body ks (post.map h) (mk pre) = some (.nx (mk (pre ++ post)))
  | [], pre, _ => by rw [List.append_nil]; rfl
  | x :: post, pre, hs => by
    rw [List.map_cons, forGo_cons, hs pre x post rfl]
    show forGo gt body ks (post.map h) (mk (pre ++ [x])) = _
    rw [forGo_pre mk h post (pre ++ [x]) fun l y r e => hs l y r (by rw [← e, List.append_assoc]; rfl), List.append_assoc]
    rfl
theorem gFor_pre {α : Type} {fi : En → Option (List PyData)} {gt : PyData → En → Option En} {body : En → Option Ou} {ks : List Nat} {env : En} (mk : List α → En) (h : α → PyData) (xs : List α)
    (hi : fi env = some (xs.map h)) (h0 : kl ks env = mk []) (hs : ∀ l x r, xs = l ++ x :: r → turn gt body ks (h x) (mk l) = some (.nx (mk (l ++ [x])))) : gFor fi gt body ks env = some (.nx (mk xs)) := by
  unfold gFor
  rw [hi, Option.bind_some, h0]
  exact forGo_pre mk h xs [] hs
theorem pre_len {α : Type} {xs l r : List α} {x : α} (e : xs = l ++ x :: r) : l.length < xs.length := by
  rw [e, List.length_append, List.length_cons]
  omega
theorem bd_ok {α β : Type} {x : Option α} {a : α} {f : α → Option β} (h : x = some a) : x.bind f = f a := by rw [h]; rfl
theorem as_ok {g : List PyData → Option PyData} {a : En → Option (List PyData)} {env : En} {x : List PyData} (h : a env = some x) : sAs g a env = g x := bd_ok h
theorem seq_ok {g k : En → Option Ou} {env env1 : En} (h : g env = some (.nx env1)) : gSeq g k env = k env1 := bd_ok h
theorem seq_rt {g k : En → Option Ou} {env : En} {d : PyData} (h : g env = some (.rt d)) : gSeq g k env = some (.rt d) := bd_ok h
theorem set_ok {i : Nat} {f : En → Option PyData} {env : En} {d : PyData} (h : f env = some d) : gSet i f env = some (.nx (env.set i (.dat d))) := bd_ok h
theorem setN_ok {i : Nat} {f : En → Option (List PyData)} {env : En} {d : List PyData} (h : f env = some d) : gSetN i f env = some (.nx (env.set i (.own d))) := bd_ok h
theorem ret_ok {f : En → Option PyData} {env : En} {d : PyData} (h : f env = some d) : gRet f env = some (.rt d) := bd_ok h
theorem if_t {c : En → Option Bool} {g k : En → Option Ou} {env : En} (h : c env = some true) : gIf c g k env = g env := bd_ok h
theorem if_f {c : En → Option Bool} {g k : En → Option Ou} {env : En} (h : c env = some false) : gIf c g k env = k env := bd_ok h
theorem s2_ok {f : PyData → PyData → Option PyData} {a b : En → Option PyData} {env : En} {x y : PyData} (ha : a env = some x) (hb : b env = some y) : s2 f a b env = f x y := by
  unfold s2
  rw [ha, hb]
  rfl
theorem var_ok {i : Nat} {env : En} {d : PyData} (h : env[i]? = some (.dat d)) : sVar i env = some d := by
  unfold sVar
  rw [h]
theorem own_ok {i : Nat} {env : En} {ds : List PyData} (h : env[i]? = some (.own ds)) : sOwn i env = some ds := by
  unfold sOwn
  rw [h]
theorem ownd_ok {i : Nat} {env : En} {ds : List PyData} (h : env[i]? = some (.dat (.list ds))) : sOwn i env = some ds := by
  unfold sOwn
  rw [h]
theorem c_ok {env : En} {d : PyData} : sC d env = some d := rfl
theorem nil_ok {env : En} : sNil env = some [] := rfl
theorem s2_to {f : PyData → PyData → Option PyData} {a b : En → Option PyData} {env : En} {x y z : PyData} (ha : a env = some x) (hb : b env = some y) (hf : f x y = some z) : s2 f a b env = some z := (s2_ok ha hb).trans hf
theorem s1_to {f : PyData → Option PyData} {a : En → Option PyData} {env : En} {x z : PyData} (ha : a env = some x) (hf : f x = some z) : s1 f a env = some z := (bd_ok ha).trans hf
theorem as_to {g : List PyData → Option PyData} {a : En → Option (List PyData)} {env : En} {x : List PyData} {z : PyData} (h : a env = some x) (hg : g x = some z) : sAs g a env = some z := (bd_ok h).trans hg
theorem ar_to {g : List PyData → Option (List PyData)} {a : En → Option (List PyData)} {env : En} {x z : List PyData} (h : a env = some x) (hg : g x = some z) : sArg g a env = some z := (bd_ok h).trans hg
theorem seq_to {g k : En → Option Ou} {env env1 : En} {o : Option Ou} (h : g env = some (.nx env1)) (hk : k env1 = o) : gSeq g k env = o := (seq_ok h).trans hk
theorem lst_ok {a : En → Option (List PyData)} {env : En} {ds : List PyData} (h : a env = some ds) : sLst a env = some (.list ds) := by
  unfold sLst
  rw [h]
  rfl
theorem nw_to {g : PyData → Option (List PyData)} {a : En → Option PyData} {env : En} {x : PyData} {z : List PyData} (h : a env = some x) (hg : g x = some z) : sNw g a env = some z := (bd_ok h).trans hg
theorem q_to {a : En → Option PyData} {env : En} {x : PyData} {z : List PyData} (h : a env = some x) (hg : asQ x = some z) : sQ a env = some z := (bd_ok h).trans hg
theorem l_to {a : En → Option PyData} {env : En} {z : List PyData} (h : a env = some (.list z)) : sL a env = some z := (bd_ok h).trans rfl
theorem asg_to {f : En → Option PyData} {gt : PyData → En → Option En} {env env1 : En} {d : PyData} (h : f env = some d) (hg : gt d env = some env1) : gAsg f gt env = some (.nx env1) := by
  unfold gAsg
  rw [h, Option.bind_some, hg]
  rfl
theorem cons_ok {a : En → Option PyData} {r : En → Option (List PyData)} {env : En} {x : PyData} {xs : List PyData} (ha : a env = some x) (hb : r env = some xs) : sCons a r env = some (x :: xs) := by
  unfold sCons
  rw [ha, hb]
  rfl
theorem lcB_ok {gt : PyData → En → Option En} {ft : En → Option Bool} {fe : En → Option PyData} {env1 env2 : En} {d x : PyData} (h1 : gt d env1 = some env2) (h2 : ft env2 = some true) (h3 : fe env2 = some x) : lcB gt ft fe env1 d = some (some x) := by
  unfold lcB
  rw [h1, Option.bind_some, h2, Option.bind_some, if_pos rfl, h3]
  rfl
theorem lcB_if {gt : PyData → En → Option En} {ft : En → Option Bool} {fe : En → Option PyData} {env1 env2 : En} {d x : PyData} {b : Bool} (h1 : gt d env1 = some env2) (h2 : ft env2 = some b) (h3 : b = true → fe env2 = some x) : lcB gt ft fe env1 d = some (if b = true then some x else none) := by
  unfold lcB
  rw [h1, Option.bind_some, h2, Option.bind_some]
  cases b with
  | true => rw [if_pos rfl, if_pos rfl, h3 rfl]; rfl
  | false => rfl
theorem and_ok {a b : En → Option Bool} {env : En} {x y : Bool} (ha : a env = some x) (hb : x = true → b env = some y) : sAnd a b env = some (x && y) := by
  refine (bd_ok ha).trans ?_
  cases x with
  | true => rw [if_pos rfl, hb rfl]; rfl
  | false => rfl
theorem or_ok {a b : En → Option Bool} {env : En} {x y : Bool} (ha : a env = some x) (hb : x = false → b env = some y) : sOr a b env = some (x || y) := by
  refine (bd_ok ha).trans ?_
  cases x with
  | false => rw [if_neg Bool.false_ne_true, hb rfl]; rfl
  | true => rfl
theorem not_ok {a : En → Option Bool} {env : En} {x : Bool} (ha : a env = some x) : sNot a env = some (!x) := bd_ok ha
theorem ifset_ok {c : En → Option Bool} {i : Nat} {f : En → Option PyData} {env : En} {b : Bool} {d0 d1 : PyData} (hc : c env = some b) (hf : b = true → f env = some d1) (h0 : env.set i (.dat d0) = env) : gIf c (gSet i f) gNext env = some (.nx (env.set i (.dat (if b = true then d1 else d0)))) := by
  cases b with
  | true => exact (if_t hc).trans (set_ok (hf rfl))
  | false =>
    refine (if_f hc).trans ?_
    rw [if_neg Bool.false_ne_true, h0]
    rfl
theorem turn_to {gt : PyData → En → Option En} {body : En → Option Ou} {ks : List Nat} {d : PyData} {env env1 env2 env3 : En} (h1 : gt d env = some env1) (h2 : body env1 = some (.nx env2)) (h3 : kl ks env2 = env3) : turn gt body ks d env = some (.nx env3) := by
  unfold turn
  rw [h1, Option.bind_some, h2, Option.bind_some, ← h3]
  rfl
theorem wh_t {c : En → Option Bool} {body : En → Option Ou} {ks : List Nat} {n : Nat} {env env1 : En} (hc : c env = some true) (hb : body env = some (.nx env1)) : whGo c body ks (n + 1) env = whGo c body ks n (kl ks env1) := by
  show (c env).bind (fun b => if b = true then (body env).bind (oK fun env2 => whGo c body ks n (kl ks env2)) else some (.nx env)) = _
  rw [hc, Option.bind_some, if_pos rfl, hb]
  rfl
theorem wh_f {c : En → Option Bool} {body : En → Option Ou} {ks : List Nat} {n : Nat} {env : En} (hc : c env = some false) : whGo c body ks (n + 1) env = some (.nx env) := by
  show (c env).bind (fun b => if b = true then (body env).bind (oK fun env2 => whGo c body ks n (kl ks env2)) else some (.nx env)) = _
  rw [hc]
  rfl
theorem sB_ok {a : En → Option PyData} {env : En} {b : Bool} (h : a env = some (.bool b)) : sB a env = some b := bd_ok h
theorem run_ok {n : Nat} {g : En → Option Ou} {ds : List PyData} {d : PyData} (h : g (ds.map Sl.dat ++ List.replicate n Sl.un) = some (.rt d)) : runB n g ds = some d := bd_ok h
/-- x.append(e), done -/
theorem app_ok {i : Nat} {f : En → Option PyData} {env : En} {ds : List PyData} {d : PyData} (h : env[i]? = some (.own ds)) (hf : f env = some d) (hl : ds.length < 16777216) : gApp i f env = some (.nx (env.set i (.own (ds ++ [d])))) := by
  unfold gApp
  rw [h]
  show (f env).bind _ = _
  rw [hf, Option.bind_some]
  exact if_pos hl
end Dz

/-! Pl2: rests by a prime, rows and tables of them, as data. -/
namespace Dz
open PySem (PyData Str sizeLine)

class Pr (p : Nat) : Prop where
  is : p = 2 ∨ p = 3 ∨ p = 5
instance : Pr 2 := ⟨.inl rfl⟩
instance : Pr 3 := ⟨.inr (.inl rfl)⟩
instance : Pr 5 := ⟨.inr (.inr rfl)⟩
instance prNZ {p : Nat} [h : Pr p] : NeZero p := ⟨by rcases h.is with h | h | h <;> omega⟩
theorem Pr.le {p : Nat} [h : Pr p] : 2 ≤ p ∧ p ≤ 5 := by rcases h.is with h | h | h <;> omega

/-- a whole number as data -/
abbrev eN (n : Nat) : PyData := .int (n : Int)
abbrev eI {p : Nat} (x : Fin p) : PyData := .int (x.val : Int)
abbrev fr (n : Nat) : List (Fin n) := List.finRange n
def eR {p n : Nat} (v : Fin n → Fin p) : PyData := .tuple ((fr n).map fun i => eI (v i))
abbrev Mt (p r c : Nat) : Type := Fin r → Fin c → Fin p
def eT {p r c : Nat} (A : Mt p r c) : PyData := .tuple ((fr r).map fun i => eR (A i))
/-- rows, as a list -/
def eRs {p n : Nat} (vs : List (Fin n → Fin p)) : List PyData := vs.map eR

theorem fr_len (n : Nat) : (fr n).length = n := List.length_finRange
theorem fr_get {n i : Nat} (h : i < n) : (fr n)[i]? = some ⟨i, h⟩ := by
  rw [List.getElem?_eq_getElem (by rw [fr_len]; exact h)]
  simp
theorem rg_fr (n : Nat) : rgL 0 n = (fr n).map fun i => .int (i.val : Int) := by
  unfold rgL
  apply List.ext_getElem?
  intro i
  rw [List.getElem?_map, List.getElem?_map]
  by_cases h : i < n
  · rw [fr_get h, List.getElem?_range h]
    simp
  · rw [List.getElem?_eq_none (by simpa using h), List.getElem?_eq_none (by rw [fr_len]; omega)]
    rfl
theorem zip_fr {α : Type} (xs : List α) (f g : α → PyData) : zipL (xs.map f) (xs.map g) = xs.map fun i => .tuple [f i, g i] := by
  induction xs with
  | nil => rfl
  | cons x xs ih =>
    show _ :: zipL (xs.map f) (xs.map g) = _
    rw [ih]
    rfl
theorem ixN_nat {n j : Nat} (h : j < n) : L2.ixN n ((j : Nat) : Int) = some j := by
  unfold L2.ixN
  rw [if_pos (by omega), if_pos (by omega)]
  simp
theorem at_fr {n : Nat} (f : Fin n → PyData) (i : Fin n) : L2.atI ((fr n).map f) ((i.val : Nat) : Int) = some (f i) := by
  unfold L2.atI
  rw [List.length_map, fr_len, ixN_nat i.isLt, Option.bind_some, List.getElem?_map, fr_get i.isLt]
  rfl
theorem at_map {α : Type} {xs : List α} {f : α → PyData} {j : Nat} {x : α} (h : xs[j]? = some x) : L2.atI (xs.map f) ((j : Nat) : Int) = some (f x) := by
  unfold L2.atI
  have hj : j < xs.length := (List.getElem?_eq_some_iff.mp h).1
  rw [List.length_map, ixN_nat hj, Option.bind_some, List.getElem?_map, h]
  rfl
theorem at_fr0 {n : Nat} (f : Fin (n + 1) → PyData) : L2.atI ((fr (n + 1)).map f) 0 = some (f 0) := at_fr f 0
theorem intL_map {α : Type} (xs : List α) (f : α → Int) : intL (xs.map fun i => .int (f i)) = some (xs.map f) := by
  induction xs with
  | nil => rfl
  | cons x xs ih =>
    show (intL (xs.map fun i => .int (f i))).bind (fun ns => some (f x :: ns)) = _
    rw [ih]
    rfl
theorem blL_map {α : Type} (xs : List α) (f : α → Bool) : blL (xs.map fun i => .bool (f i)) = some (xs.map f) := by
  induction xs with
  | nil => rfl
  | cons x xs ih =>
    show (blL (xs.map fun i => .bool (f i))).bind (fun ns => some (f x :: ns)) = _
    rw [ih]
    rfl

/-! ### sums -/
def sm {p : Nat} [Pr p] {n : Nat} (f : Fin n → Fin p) : Fin p := (fr n).foldr (fun i a => f i + a) 0
theorem val_add {p : Nat} [Pr p] (a b : Fin p) : ((a + b).val : Int) = ((a.val : Int) + (b.val : Int)) % (p : Int) := by
  rw [Fin.val_add, Int.natCast_emod, Int.natCast_add]
theorem val_mul {p : Nat} [Pr p] (a b : Fin p) : ((a * b).val : Int) = ((a.val : Int) * (b.val : Int)) % (p : Int) := by
  rw [Fin.val_mul, Int.natCast_emod, Int.natCast_mul]
theorem val_mod {p : Nat} (a : Fin p) : ((a.val : Int)) % (p : Int) = (a.val : Int) := by
  have := a.isLt
  rw [Int.emod_eq_of_lt (by omega) (by omega)]
theorem sum_val {p : Nat} [Pr p] {n : Nat} (f g : Fin n → Fin p) : (((fr n).map fun i => (((f i).val : Int) * ((g i).val : Int))).sum % (p : Int)) = ((sm fun i => f i * g i).val : Int) := by
  unfold sm
  generalize fr n = xs
  induction xs with
  | nil => simp
  | cons x xs ih =>
    rw [List.map_cons, List.sum_cons, List.foldr_cons, val_add, val_mul, ← ih, ← Int.add_emod]
/-- a number's rest -/
def rs (p : Nat) [Pr p] (n : Int) : Fin p := ⟨(n % (p : Int)).toNat, by
  have h := Pr.le (p := p)
  have := Int.emod_lt_of_pos n (show (0 : Int) < p by omega)
  have := Int.emod_nonneg n (show (p : Int) ≠ 0 by omega)
  omega⟩
theorem rs_val (p : Nat) [Pr p] (n : Int) : ((rs p n).val : Int) = n % (p : Int) := by
  have h := Pr.le (p := p)
  have := Int.emod_nonneg n (show (p : Int) ≠ 0 by omega)
  show (((n % (p : Int)).toNat : Nat) : Int) = _
  omega
/-! ### operations on such data -/
theorem mul_i {a b : Int} (h : (-(2 ^ 64) < a ∧ a < 2 ^ 64) ∨ (-(2 ^ 64) < b ∧ b < 2 ^ 64)) : mulD (.int a) (.int b) = some (.int (a * b)) := if_pos h
theorem small64 {a : Int} (h0 : 0 ≤ a) (h : a ≤ 100000) : -(2 ^ 64) < a ∧ a < 2 ^ 64 := by
  have e : (2 : Int) ^ 64 = 18446744073709551616 := by decide
  rw [e]
  omega
theorem mul_ok {p : Nat} [Pr p] (a : Fin p) (b : Int) : mulD (eI a) (.int b) = some (.int ((a.val : Int) * b)) := by
  have h := Pr.le (p := p)
  have := a.isLt
  exact mul_i (.inl (small64 (by omega) (by omega)))
theorem mod_ok {p : Nat} [Pr p] (a : Int) : modD (.int a) (eN p) = some (.int (a % (p : Int))) := by
  have h := Pr.le (p := p)
  exact if_pos (by omega)
theorem p62 : (2 : Int) ^ 62 = 4611686018427387904 := by decide
theorem rg1_ok {n : Nat} (h : n ≤ 1000000000) : rg1 [eN n] = some ((fr n).map fun i => .int (i.val : Int)) := by
  rw [← rg_fr]
  have e : rg1 [eN n] = if -(2 ^ 62) ≤ (n : Int) ∧ (n : Int) < 2 ^ 62 then some (rgL 0 (n : Int).toNat) else none := rfl
  rw [e, p62, if_pos (by omega), Int.toNat_natCast]
theorem ix_R {p n : Nat} (v : Fin n → Fin p) (j : Fin n) : ixD (eR v) (.int (j.val : Int)) = some (eI (v j)) := at_fr _ j
theorem ix_T {p r c : Nat} (A : Mt p r c) (i : Fin r) : ixD (eT A) (.int (i.val : Int)) = some (eR (A i)) := at_fr _ i
theorem ix_R0 {p n : Nat} (v : Fin (n + 1) → Fin p) : ixD (eR v) (.int 0) = some (eI (v 0)) := at_fr _ 0
theorem ix_T0 {p r c : Nat} (A : Mt p (r + 1) c) : ixD (eT A) (.int 0) = some (eR (A 0)) := at_fr _ 0
theorem len_R {p n : Nat} (v : Fin n → Fin p) : lenD [eR v] = some (eN n) := by
  show some (PyData.int (((fr n).map _).length : Nat)) = _
  rw [List.length_map, fr_len]
theorem len_T {p r c : Nat} (A : Mt p r c) : lenD [eT A] = some (eN r) := by
  show some (PyData.int (((fr r).map _).length : Nat)) = _
  rw [List.length_map, fr_len]
theorem add_v {p : Nat} [Pr p] (x y : Fin p) : modD (.int ((x.val : Int) + (y.val : Int))) (eN p) = some (eI (x + y)) := (mod_ok _).trans (by rw [← val_add])
theorem mul_v {p : Nat} [Pr p] (x y : Fin p) : modD (.int ((x.val : Int) * (y.val : Int))) (eN p) = some (eI (x * y)) := (mod_ok _).trans (by rw [← val_mul])
theorem sum_v {p n : Nat} [Pr p] (f g : Fin n → Fin p) : modD (.int ((fr n).map fun i => (((f i).val : Int) * ((g i).val : Int))).sum) (eN p) = some (eI (sm fun i => f i * g i)) := (mod_ok _).trans (by rw [sum_val])
theorem eq_int (i j : Int) : eqD (.int i) (.int j) = some (.bool (decide (i = j))) := by
  show some (PyData.bool (i == j)) = _
  rw [Bool.beq_eq_decide_eq]
theorem ne_int (i j : Int) : neD (.int i) (.int j) = some (.bool (!decide (i = j))) := by
  show some (PyData.bool (!(i == j))) = _
  rw [Bool.beq_eq_decide_eq]
theorem one_val {p : Nat} [Pr p] : (((1 : Fin p).val : Nat) : Int) = 1 := by
  rcases (‹Pr p›).is with e | e | e <;> subst e <;> rfl
theorem mod_pos (i : Int) {j : Int} (h : 0 < j) : modD (.int i) (.int j) = some (.int (i % j)) := if_pos h
theorem div_pos (i : Int) {j : Int} (h : 0 < j) (h2 : j < 1073741824) : divD (.int i) (.int j) = some (.int (i / j)) := if_pos ⟨h, h2⟩
theorem cN (n : Nat) {env : En} : sC (.int (@OfNat.ofNat Int n instOfNat)) env = some (eN (@OfNat.ofNat Nat n (instOfNatNat n))) := rfl
theorem addN (a b : Nat) : addD (eN a) (eN b) = some (eN (a + b)) := rfl
theorem p64 : (2 : Int) ^ 64 = 18446744073709551616 := by decide
theorem mulN (a b : Nat) (h : a < 18446744073709551616 ∨ b < 18446744073709551616) : mulD (eN a) (eN b) = some (eN (a * b)) := (mul_i (by rw [p64]; omega)).trans (by rw [← Int.natCast_mul])
theorem modN (a b : Nat) (h : 0 < b) : modD (eN a) (eN b) = some (eN (a % b)) := (mod_pos _ (by omega)).trans (by rw [← Int.natCast_emod])
theorem divN (a b : Nat) (h : 0 < b) (h2 : b < 1073741824) : divD (eN a) (eN b) = some (eN (a / b)) := (div_pos _ (by omega) (by omega)).trans (by rw [← Int.natCast_ediv])
theorem eqN (a b : Nat) : eqD (eN a) (eN b) = some (.bool (decide (a = b))) := (eq_int _ _).trans (by congr 2; exact decide_eq_decide.mpr (by omega))
theorem neN (a b : Nat) : neD (eN a) (eN b) = some (.bool (!decide (a = b))) := (ne_int _ _).trans (by congr 3; exact decide_eq_decide.mpr (by omega))
theorem ltN (a b : Nat) : ltD (eN a) (eN b) = some (.bool (decide (a < b))) := congrArg some (congrArg PyData.bool (decide_eq_decide.mpr (by omega)))
theorem leN (a b : Nat) : leD (eN a) (eN b) = some (.bool (decide (a ≤ b))) := congrArg some (congrArg PyData.bool (decide_eq_decide.mpr (by omega)))
theorem gtN (a b : Nat) : gtD (eN a) (eN b) = some (.bool (decide (b < a))) := congrArg some (congrArg PyData.bool (decide_eq_decide.mpr (by omega)))
theorem geN (a b : Nat) : geD (eN a) (eN b) = some (.bool (decide (b ≤ a))) := congrArg some (congrArg PyData.bool (decide_eq_decide.mpr (by omega)))
theorem add_i (i j : Int) : addD (.int i) (.int j) = some (.int (i + j)) := rfl
end Dz

/-! Ma1: sums and products of tables of rests. -/
namespace Dz
instance fnDec {n : Nat} {α : Type} [DecidableEq α] : DecidableEq (Fin n → α) := fun v w => decidable_of_iff (∀ i, v i = w i) ⟨funext, fun h i => by rw [h]⟩
/-! ### the rests are a field -/
def iv {p : Nat} (x : Fin p) : Fin p := if p = 5 then x * x * x else x
theorem mul_iv2 : ∀ x : Fin 2, x ≠ 0 → x * iv x = 1 := by decide
theorem mul_iv3 : ∀ x : Fin 3, x ≠ 0 → x * iv x = 1 := by decide
theorem mul_iv5 : ∀ x : Fin 5, x ≠ 0 → x * iv x = 1 := by decide
theorem z1_2 : (0 : Fin 2) ≠ 1 := by decide
theorem z1_3 : (0 : Fin 3) ≠ 1 := by decide
theorem z1_5 : (0 : Fin 5) ≠ 1 := by decide
section
variable {p : Nat} [Pr p]
theorem mul_iv (x : Fin p) (h : x ≠ 0) : x * iv x = 1 := by
  rcases (‹Pr p›).is with e | e | e
  · subst e; exact mul_iv2 x h
  · subst e; exact mul_iv3 x h
  · subst e; exact mul_iv5 x h
theorem z1 : (0 : Fin p) ≠ 1 := by
  rcases (‹Pr p›).is with e | e | e
  · subst e; exact z1_2
  · subst e; exact z1_3
  · subst e; exact z1_5
theorem mul_z {a b : Fin p} (h : a * b = 0) : a = 0 ∨ b = 0 := by
  by_cases ha : a = 0
  · exact .inl ha
  · right
    have e := mul_iv a ha
    grind
/-! ### sums over lists -/
def ls {α : Type} (xs : List α) (f : α → Fin p) : Fin p := xs.foldr (fun i a => f i + a) 0
theorem ls_nil {α : Type} {f : α → Fin p} : ls [] f = 0 := rfl
theorem ls_cons {α : Type} {x : α} {xs : List α} {f : α → Fin p} : ls (x :: xs) f = f x + ls xs f := rfl
theorem ls_add {α : Type} (xs : List α) (f g : α → Fin p) : (ls xs fun i => f i + g i) = ls xs f + ls xs g := by
  induction xs with
  | nil => simp only [ls_nil]; grind
  | cons x xs ih => simp only [ls_cons, ih]; grind
theorem ls_sub {α : Type} (xs : List α) (f g : α → Fin p) : (ls xs fun i => f i - g i) = ls xs f - ls xs g := by
  induction xs with
  | nil => simp only [ls_nil]; grind
  | cons x xs ih => simp only [ls_cons, ih]; grind
theorem ls_mul {α : Type} (xs : List α) (c : Fin p) (f : α → Fin p) : (ls xs fun i => c * f i) = c * ls xs f := by
  induction xs with
  | nil => simp only [ls_nil]; grind
  | cons x xs ih => simp only [ls_cons, ih]; grind
theorem ls_mulr {α : Type} (xs : List α) (c : Fin p) (f : α → Fin p) : (ls xs fun i => f i * c) = ls xs f * c := by
  induction xs with
  | nil => simp only [ls_nil]; grind
  | cons x xs ih => simp only [ls_cons, ih]; grind
theorem ls_zero {α : Type} (xs : List α) : (ls xs fun _ => (0 : Fin p)) = 0 := by
  induction xs with
  | nil => rfl
  | cons x xs ih => simp only [ls_cons, ih]; grind
theorem ls_congr {α : Type} {xs : List α} {f g : α → Fin p} (h : ∀ x ∈ xs, f x = g x) : ls xs f = ls xs g := by
  induction xs with
  | nil => rfl
  | cons x xs ih => rw [ls_cons, ls_cons, h x List.mem_cons_self, ih fun y hy => h y (List.mem_cons_of_mem _ hy)]
theorem ls_swap {α β : Type} (xs : List α) (ys : List β) (f : α → β → Fin p) : (ls xs fun x => ls ys fun y => f x y) = ls ys fun y => ls xs fun x => f x y := by
  induction xs with
  | nil => simp only [ls_nil]; rw [ls_zero]
  | cons x xs ih => simp only [ls_cons, ih]; rw [ls_add]
theorem ls_app {α : Type} (xs ys : List α) (f : α → Fin p) : ls (xs ++ ys) f = ls xs f + ls ys f := by
  induction xs with
  | nil => simp only [List.nil_append, ls_nil]; grind
  | cons x xs ih => simp only [List.cons_append, ls_cons, ih]; grind
theorem ls_map {α β : Type} (xs : List α) (h : α → β) (f : β → Fin p) : ls (xs.map h) f = ls xs fun x => f (h x) := by
  induction xs with
  | nil => rfl
  | cons x xs ih => simp only [List.map_cons, ls_cons, ih]
/-- one place alone -/
theorem ls_one {α : Type} [DecidableEq α] {xs : List α} (hn : xs.Nodup) {a : α} (ha : a ∈ xs) (f : α → Fin p) : (ls xs fun i => if i = a then f i else 0) = f a := by
  induction xs with
  | nil => cases ha
  | cons x xs ih =>
    rw [ls_cons]
    obtain ⟨h1, h2⟩ := List.nodup_cons.mp hn
    by_cases e : x = a
    · subst e
      rw [if_pos rfl, ls_congr (g := fun _ => 0) fun y hy => if_neg (fun z : y = x => h1 (by rw [← z]; exact hy)), ls_zero]
      grind
    · rw [if_neg e, ih h2 (by rcases List.mem_cons.mp ha with z | z; exact absurd z.symm e; exact z)]
      grind
theorem sm_ls {n : Nat} (f : Fin n → Fin p) : sm f = ls (fr n) f := rfl
theorem fr_nodup (n : Nat) : (fr n).Nodup := List.nodup_finRange n
theorem fr_mem {n : Nat} (i : Fin n) : i ∈ fr n := List.mem_finRange i
theorem sm_add {n : Nat} (f g : Fin n → Fin p) : (sm fun i => f i + g i) = sm f + sm g := ls_add _ _ _
theorem sm_sub {n : Nat} (f g : Fin n → Fin p) : (sm fun i => f i - g i) = sm f - sm g := ls_sub _ _ _
theorem sm_mul {n : Nat} (c : Fin p) (f : Fin n → Fin p) : (sm fun i => c * f i) = c * sm f := ls_mul _ _ _
theorem sm_mulr {n : Nat} (c : Fin p) (f : Fin n → Fin p) : (sm fun i => f i * c) = sm f * c := ls_mulr _ _ _
theorem sm_zero {n : Nat} : (sm fun _ : Fin n => (0 : Fin p)) = 0 := ls_zero _
theorem sm_swap {n m : Nat} (f : Fin n → Fin m → Fin p) : (sm fun i => sm fun j => f i j) = sm fun j => sm fun i => f i j := ls_swap _ _ _
theorem sm_congr {n : Nat} {f g : Fin n → Fin p} (h : ∀ i, f i = g i) : sm f = sm g := ls_congr fun i _ => h i
theorem sm_one {n : Nat} (a : Fin n) (f : Fin n → Fin p) : (sm fun i => if i = a then f i else 0) = f a := ls_one (fr_nodup n) (fr_mem a) f
theorem sm_one' {n : Nat} (a : Fin n) (f : Fin n → Fin p) : (sm fun i => if a = i then f i else 0) = f a := by
  rw [← sm_one a f]
  exact sm_congr fun i => by simp only [eq_comm]
theorem sm0 (f : Fin 0 → Fin p) : sm f = 0 := rfl
theorem sm1 (f : Fin 1 → Fin p) : sm f = f 0 := by
  show f 0 + 0 = f 0
  grind
theorem sm2 (f : Fin 2 → Fin p) : sm f = f 0 + f 1 := by
  show f 0 + (f 1 + 0) = _
  grind
theorem sm3 (f : Fin 3 → Fin p) : sm f = f 0 + f 1 + f 2 := by
  show f 0 + (f 1 + (f 2 + 0)) = _
  grind
/-! ### tables -/
def mm {r k c : Nat} (A : Mt p r k) (B : Mt p k c) : Mt p r c := fun i j => sm fun l => A i l * B l j
def ma {r c : Nat} (A B : Mt p r c) : Mt p r c := fun i j => A i j + B i j
def ms {r c : Nat} (x : Fin p) (A : Mt p r c) : Mt p r c := fun i j => x * A i j
def mt {r c : Nat} (A : Mt p r c) : Mt p c r := fun i j => A j i
def m1 {n : Nat} : Mt p n n := fun i j => if i = j then 1 else 0
instance mtDec {r c : Nat} : DecidableEq (Mt p r c) := fnDec
def m0 {r c : Nat} : Mt p r c := fun _ _ => 0
theorem mm_assoc {a b c d : Nat} (A : Mt p a b) (B : Mt p b c) (C : Mt p c d) : mm (mm A B) C = mm A (mm B C) := by
  funext i j
  show (sm fun l => (sm fun k => A i k * B k l) * C l j) = sm fun k => A i k * sm fun l => B k l * C l j
  have e1 : ∀ l, (sm fun k => A i k * B k l) * C l j = sm fun k => A i k * B k l * C l j := fun l => (sm_mulr _ _).symm
  have e2 : ∀ k, (A i k * sm fun l => B k l * C l j) = sm fun l => A i k * B k l * C l j := fun k => by
    rw [← sm_mul]
    exact sm_congr fun l => by grind
  rw [sm_congr e1, sm_congr e2]
  exact sm_swap _
theorem mm_1 {r c : Nat} (A : Mt p r c) : mm A m1 = A := by
  funext i j
  show (sm fun l => A i l * (if l = j then 1 else 0)) = _
  rw [← sm_one j fun l => A i l]
  exact sm_congr fun l => by split <;> grind
theorem m1_m {r c : Nat} (A : Mt p r c) : mm m1 A = A := by
  funext i j
  show (sm fun l => (if i = l then 1 else 0) * A l j) = _
  rw [← sm_one' i fun l => A l j]
  exact sm_congr fun l => by split <;> grind
theorem mm_addr {a b c : Nat} (A : Mt p a b) (B C : Mt p b c) : mm A (ma B C) = ma (mm A B) (mm A C) := by
  funext i j
  show (sm fun l => A i l * (B l j + C l j)) = (sm fun l => A i l * B l j) + sm fun l => A i l * C l j
  rw [← sm_add]
  exact sm_congr fun l => by grind
theorem mm_addl {a b c : Nat} (A B : Mt p a b) (C : Mt p b c) : mm (ma A B) C = ma (mm A C) (mm B C) := by
  funext i j
  show (sm fun l => (A i l + B i l) * C l j) = (sm fun l => A i l * C l j) + sm fun l => B i l * C l j
  rw [← sm_add]
  exact sm_congr fun l => by grind
theorem mm_sr {a b c : Nat} (x : Fin p) (A : Mt p a b) (B : Mt p b c) : mm A (ms x B) = ms x (mm A B) := by
  funext i j
  show (sm fun l => A i l * (x * B l j)) = x * sm fun l => A i l * B l j
  rw [← sm_mul]
  exact sm_congr fun l => by grind
theorem mm_sl {a b c : Nat} (x : Fin p) (A : Mt p a b) (B : Mt p b c) : mm (ms x A) B = ms x (mm A B) := by
  funext i j
  show (sm fun l => (x * A i l) * B l j) = x * sm fun l => A i l * B l j
  rw [← sm_mul]
  exact sm_congr fun l => by grind
theorem mt_mm {a b c : Nat} (A : Mt p a b) (B : Mt p b c) : mt (mm A B) = mm (mt B) (mt A) := by
  funext i j
  exact sm_congr fun l => by show A j l * B l i = B l i * A j l; grind
theorem mt_mt {r c : Nat} (A : Mt p r c) : mt (mt A) = A := rfl
theorem mt_1 {n : Nat} : mt (m1 : Mt p n n) = m1 := by
  funext i j
  show (if j = i then (1 : Fin p) else 0) = if i = j then 1 else 0
  simp only [eq_comm]
theorem del_i {n : Nat} (i j : Fin n) : intD [.bool (decide ((i.val : Int) = (j.val : Int)))] = some (eI ((m1 : Mt p n n) i j)) := by
  show some (PySem.PyData.int (if decide ((i.val : Int) = (j.val : Int)) = true then 1 else 0)) = some (PySem.PyData.int (((if i = j then (1 : Fin p) else 0).val : Nat) : Int))
  by_cases e : i = j
  · subst e
    simp only [decide_true, if_true]
    rw [one_val]
  · rw [if_neg e, decide_eq_false (fun z => e (Fin.ext (by omega)))]
    simp
/-- powers -/
def mp {n : Nat} (A : Mt p n n) : Nat → Mt p n n
  | 0 => m1
  | k + 1 => mm (mp A k) A
theorem mp_add {n : Nat} (A : Mt p n n) (i : Nat) : ∀ j, mp A (i + j) = mm (mp A i) (mp A j)
  | 0 => (mm_1 _).symm
  | j + 1 => by
    show mm (mp A (i + j)) A = mm (mp A i) (mm (mp A j) A)
    rw [mp_add A i j, mm_assoc]
theorem mp_1 {n : Nat} (A : Mt p n n) : mp A 1 = A := m1_m A
theorem mp_sq {n : Nat} (A : Mt p n n) : ∀ k, mp (mm A A) k = mp A (2 * k)
  | 0 => rfl
  | k + 1 => by
    show mm (mp (mm A A) k) (mm A A) = mp A (2 * k + 1 + 1)
    rw [mp_sq A k]
    show _ = mm (mm (mp A (2 * k)) A) A
    rw [mm_assoc]
theorem mp_comm {n : Nat} (A : Mt p n n) (k : Nat) : mm A (mp A k) = mm (mp A k) A := by
  have e := mp_add A 1 k
  rw [mp_1] at e
  rw [← e, Nat.add_comm]
  rfl
end
end Dz

/-! Pl3: == of tables and of other data. -/
namespace Dz
open PySem (PyData Str sizeLine)
theorem pre_idx {n : Nat} {l r : List (Fin n)} {i : Fin n} (e : fr n = l ++ i :: r) : i.val = l.length := by
  have hl : l.length < n := by
    have := pre_len e
    rw [fr_len] at this
    exact this
  have h1 := fr_get hl
  rw [e, List.getElem?_append_right (Nat.le_refl _), Nat.sub_self] at h1
  have h2 : i = ⟨l.length, hl⟩ := by simpa using h1
  rw [h2]
/-! ### data of small depth -/
def Sh (k : Nat) (d : PyData) : Prop := d.canLay0 = true ∧ d.depth ≤ k
theorem sh_ok {k : Nat} {d : PyData} (h : Sh k d) (hk : k ≤ 64) : PySem.SeqAt.shaped d = true := by
  unfold PySem.SeqAt.shaped
  rw [h.1, decide_eq_true (Nat.le_trans h.2 hk)]
  rfl
theorem sh_all {k : Nat} : ∀ {ds : List PyData}, (∀ d ∈ ds, Sh k d) → PyData.canLayAll0 ds = true ∧ PyData.depthAll ds ≤ k
  | [], _ => ⟨by simp [PyData.canLayAll0], by simp [PyData.depthAll]⟩
  | d :: ds, h => by
    have h1 := h d List.mem_cons_self
    have h2 := sh_all fun x hx => h x (List.mem_cons_of_mem _ hx)
    exact ⟨by simp [PyData.canLayAll0, h1.1, h2.1], by simp only [PyData.depthAll]; exact Nat.max_le.mpr ⟨h1.2, h2.2⟩⟩
theorem sh_tup {k : Nat} {ds : List PyData} (h : ∀ d ∈ ds, Sh k d) : Sh (k + 1) (.tuple ds) := by
  have := sh_all h
  exact ⟨by simp [PyData.canLay0, this.1], by simp only [PyData.depth]; omega⟩
theorem sh_lst {k : Nat} {ds : List PyData} (h : ∀ d ∈ ds, Sh k d) : Sh (k + 1) (.list ds) := by
  have := sh_all h
  exact ⟨by simp [PyData.canLay0, this.1], by simp only [PyData.depth]; omega⟩
theorem sh_int (i : Int) : Sh 0 (.int i) := ⟨by simp [PyData.canLay0], by simp [PyData.depth]⟩
theorem sh_bool (i : Bool) : Sh 0 (.bool i) := ⟨by simp [PyData.canLay0], by simp [PyData.depth]⟩
theorem sh_none : Sh 0 .none := ⟨by simp [PyData.canLay0], by simp [PyData.depth]⟩
theorem sh_mono {k j : Nat} {d : PyData} (h : Sh k d) (hk : k ≤ j) : Sh j d := ⟨h.1, Nat.le_trans h.2 hk⟩
theorem sh_map {α : Type} {k : Nat} {xs : List α} {f : α → PyData} (h : ∀ x, Sh k (f x)) : ∀ d ∈ xs.map f, Sh k d := fun d hd => by
  obtain ⟨x, _, rfl⟩ := List.mem_map.mp hd
  exact h x
theorem sh_R {p n : Nat} (v : Fin n → Fin p) : Sh 1 (eR v) := sh_tup (sh_map fun _ => sh_int _)
theorem sh_T {p r c : Nat} (A : Mt p r c) : Sh 2 (eT A) := sh_tup (sh_map fun _ => sh_R _)
/-! ### equal -/
theorem eqv_map {α : Type} (f g : α → PyData) : ∀ xs : List α, PyData.eqvAll (xs.map f) (xs.map g) = xs.all fun x => PyData.eqv (f x) (g x)
  | [] => by simp [PyData.eqvAll]
  | x :: xs => by simp [PyData.eqvAll, eqv_map f g xs]
theorem eqv_map2 {α β : Type} (f : α → PyData) (g : β → PyData) : ∀ (xs : List α) (ys : List β), PyData.eqvAll (xs.map f) (ys.map g) = (decide (xs.length = ys.length) && (xs.zip ys).all fun z => PyData.eqv (f z.1) (g z.2))
  | [], [] => by simp [PyData.eqvAll]
  | [], _ :: _ => by simp [PyData.eqvAll]
  | _ :: _, [] => by simp [PyData.eqvAll]
  | x :: xs, y :: ys => by
    simp only [List.map_cons, PyData.eqvAll, eqv_map2 f g xs ys, List.length_cons, List.zip_cons_cons, List.all_cons, Nat.add_right_cancel_iff]
    cases PyData.eqv (f x) (g y) <;> cases decide (xs.length = ys.length) <;> rfl
theorem eqv_int (i j : Int) : PyData.eqv (.int i) (.int j) = decide (i = j) := by
  simp only [PyData.eqv]
  exact Bool.beq_eq_decide_eq _ _
theorem eqv_I {p : Nat} (x y : Fin p) : PyData.eqv (eI x) (eI y) = decide (x = y) := by
  rw [eqv_int]
  exact decide_eq_decide.mpr ⟨fun h => Fin.ext (by omega), fun h => by rw [h]⟩
theorem all_fr {n : Nat} (f : Fin n → Bool) : (fr n).all f = decide (∀ i, f i = true) := by
  cases h : (fr n).all f with
  | true => exact (decide_eq_true fun i => List.all_eq_true.mp h i (fr_mem i)).symm
  | false =>
    refine (decide_eq_false fun z => ?_).symm
    have : (fr n).all f = true := List.all_eq_true.mpr fun i _ => z i
    rw [h] at this
    cases this
theorem eqv_R {p n : Nat} (v w : Fin n → Fin p) : PyData.eqv (eR v) (eR w) = decide (v = w) := by
  unfold eR
  simp only [PyData.eqv]
  rw [eqv_map, all_fr]
  exact decide_eq_decide.mpr ⟨fun h => funext fun i => of_decide_eq_true ((eqv_I _ _).symm.trans (h i)), fun h i => by rw [h, eqv_I]; exact decide_eq_true rfl⟩
theorem eqv_T {p r c : Nat} (A B : Mt p r c) : PyData.eqv (eT A) (eT B) = decide (A = B) := by
  unfold eT
  simp only [PyData.eqv]
  rw [eqv_map, all_fr]
  exact decide_eq_decide.mpr ⟨fun h => funext fun i => of_decide_eq_true ((eqv_R _ _).symm.trans (h i)), fun h i => by rw [h, eqv_R]; exact decide_eq_true rfl⟩
theorem eqD_of {d e : PyData} {k j : Nat} (h1 : Sh k d) (h2 : Sh j e) (hk : k ≤ 64) (hj : j ≤ 64) : eqD d e = some (.bool (PyData.eqv d e)) := by
  unfold eqD
  rw [sh_ok h1 hk, sh_ok h2 hj]
  rfl
theorem neD_of {d e : PyData} {k j : Nat} (h1 : Sh k d) (h2 : Sh j e) (hk : k ≤ 64) (hj : j ≤ 64) : neD d e = some (.bool (!PyData.eqv d e)) := by
  unfold neD
  rw [sh_ok h1 hk, sh_ok h2 hj]
  rfl
theorem eqT {p r c : Nat} (A B : Mt p r c) : eqD (eT A) (eT B) = some (.bool (decide (A = B))) := by
  rw [eqD_of (sh_T A) (sh_T B) (by decide) (by decide), eqv_T]
theorem neT {p r c : Nat} (A B : Mt p r c) : neD (eT A) (eT B) = some (.bool (!decide (A = B))) := by
  rw [neD_of (sh_T A) (sh_T B) (by decide) (by decide), eqv_T]
theorem eqT_self {p r c : Nat} (A : Mt p r c) : eqD (eT A) (eT A) = some (.bool true) := by
  rw [eqT, decide_eq_true rfl]
theorem neT_self {p r c : Nat} (A : Mt p r c) : neD (eT A) (eT A) = some (.bool false) := by
  rw [neT, decide_eq_true rfl]
  rfl
theorem neN_self (a : Nat) : neD (eN a) (eN a) = some (.bool false) := by
  rw [neN, decide_eq_true rfl]
  rfl
theorem ne_nil : neD (.list []) (.list []) = some (.bool false) := by
  rw [neD_of (k := 1) (j := 1) (sh_lst (by simp)) (sh_lst (by simp)) (by decide) (by decide)]
  simp [PyData.eqv, PyData.eqvAll]
theorem eq_nil : eqD (.list []) (.list []) = some (.bool true) := by
  rw [eqD_of (k := 1) (j := 1) (sh_lst (by simp)) (sh_lst (by simp)) (by decide) (by decide)]
  simp [PyData.eqv, PyData.eqvAll]
end Dz

/-! what the defs mean, printed by gen.py -/
namespace Dz
open PySem
def b_is_rest : En → Option Ou := (gRet (sAndV (s1 (isiD "int") (sVar 0)) (sAndV (sNotV (s1 (isiD "bool") (sVar 0))) (sChain leD ltD (sC (.int 0)) (sVar 0) (sVar 1)))))
def m_is_rest : List PyData → Option PyData := runB 0 b_is_rest
def is_table_c1 : En → Option (List PyData) := sLc (sQ (sVar 0)) (gN 2) sYes (sAndV (s1 (isiD "tuple") (sVar 2)) (sChain leD leD (sC (.int 1)) (sAs lenD (sCons (sVar 2) sNil)) (sC (.int 3)))) [2]
def is_table_c2 : En → Option (List PyData) := sLc (sQ (sVar 0)) (gN 2) sYes (s2 eqD (sAs lenD (sCons (sVar 2) sNil)) (sAs lenD (sCons (s2 ixD (sVar 0) (sC (.int 0))) sNil))) [2]
def is_table_c3 : En → Option (List PyData) := sLc (sQ (sVar 2)) (gN 3) sYes (sAs m_is_rest (sCons (sVar 3) (sCons (sVar 1) sNil))) [3]
def is_table_c4 : En → Option (List PyData) := sLc (sQ (sVar 0)) (gN 2) sYes (sAs allL is_table_c3) [2]
def b_is_table : En → Option Ou := (gSeq (gIf (sOr (sNot (sB (s1 (isiD "tuple") (sVar 0)))) (sNot (sB (sChain leD leD (sC (.int 1)) (sAs lenD (sCons (sVar 0) sNil)) (sC (.int 3)))))) (gRet (sC (.bool false))) gNext) (gSeq (gIf (sNot (sB (sAs allL is_table_c1))) (gRet (sC (.bool false))) gNext) (gSeq (gIf (sNot (sB (sAs allL is_table_c2))) (gRet (sC (.bool false))) gNext) (gRet (sAs allL is_table_c4)))))
def m_is_table : List PyData → Option PyData := runB 2 b_is_table
def is_powers_c1 : En → Option (List PyData) := sLc (sQ (sVar 0)) (gN 2) sYes (sAs m_is_rest (sCons (sVar 2) (sCons (sVar 1) sNil))) [2]
def b_is_powers : En → Option Ou := (gSeq (gIf (sOr (sNot (sB (s1 (isiD "tuple") (sVar 0)))) (sOr (sB (s2 gtD (sAs lenD (sCons (sVar 0) sNil)) (sC (.int 7)))) (sNot (sB (sAs allL is_powers_c1))))) (gRet (sC (.bool false))) gNext) (gRet (sOrV (s2 eqD (sVar 0) (sTup sNil)) (s2 neD (s2 ixD (sVar 0) (s1 negD (sC (.int 1)))) (sC (.int 0))))))
def m_is_powers : List PyData → Option PyData := runB 1 b_is_powers
def b_law_cell_at : En → Option Ou := (gSeq (gIf (sB (s2 ltD (sVar 1) (sAs lenD (sCons (sVar 0) sNil)))) (gRet (s2 ixD (sVar 0) (sVar 1))) gNext) (gRet (sC (.int 0))))
def m_law_cell_at : List PyData → Option PyData := runB 0 b_law_cell_at
def b_law_mixed : En → Option Ou := (gSeq (gSet 2 (s2 modD (s2 mulD (s2 addD (s2 addD (sAs m_law_cell_at (sCons (sVar 0) (sCons (sVar 1) sNil))) (s2 mulD (sC (.int 7919)) (sVar 1))) (sC (.int 1))) (sC (.int 48271))) (sC (.int 2147483647)))) (gRet (s2 modD (s2 addD (s2 addD (s2 mulD (sVar 2) (sVar 2)) (s2 mulD (sC (.int 7)) (sVar 2))) (sVar 1)) (sC (.int 2147483629)))))
def m_law_mixed : List PyData → Option PyData := runB 1 b_law_mixed
def b_law_drawn : En → Option Ou := (gSeq (gSet 2 (s2 modD (s2 mulD (s2 addD (s2 addD (sVar 0) (s2 mulD (sC (.int 104729)) (sVar 1))) (sC (.int 17))) (sC (.int 69621))) (sC (.int 2147483647)))) (gRet (s2 modD (s2 addD (s2 addD (s2 mulD (sVar 2) (sVar 2)) (s2 mulD (sC (.int 3)) (sVar 2))) (sVar 1)) (sC (.int 2147483629)))))
def m_law_drawn : List PyData → Option PyData := runB 1 b_law_drawn
def law_table_b1 : En → Option Ou := (gSeq (gSet 9 (s2 divD (sAs m_law_drawn (sCons (sVar 0) (sCons (s2 addD (s2 mulD (sC (.int 5)) (sVar 6)) (sVar 8)) sNil))) (sC (.int 4)))) (gSeq (gSet 10 (s2 modD (sVar 9) (sVar 1))) (gSeq (gIf (sAnd (sB (s2 eqD (sVar 4) (sC (.int 1)))) (sB (s2 gtD (s2 modD (s2 divD (sVar 9) (sC (.int 8))) (sC (.int 3))) (sC (.int 0))))) (gSet 10 (sC (.int 0))) gNext) (gSeq (gIf (sAnd (sB (s2 eqD (sVar 4) (sC (.int 2)))) (sB (s2 gtD (sVar 6) (sVar 8)))) (gSet 10 (sC (.int 0))) gNext) (gSeq (gIf (sAnd (sB (s2 eqD (sVar 4) (sC (.int 3)))) (sB (s2 eqD (sVar 6) (sVar 8)))) (gSet 10 (s2 modD (s2 divD (sVar 0) (sC (.int 16))) (sVar 1))) gNext) (gApp 7 (sVar 10)))))))
def law_table_b2 : En → Option Ou := (gSeq (gSetN 7 (sDis sNil)) (gSeq (gFor (sArg rg1 (sCons (sVar 3) sNil)) (gN 8) law_table_b1 [8, 9, 10]) (gApp 5 (sAs tupL (sOwn 7)))))
def b_law_table : En → Option Ou := (gSeq (gSet 4 (s2 modD (sVar 0) (sC (.int 4)))) (gSeq (gSetN 5 (sDis sNil)) (gSeq (gFor (sArg rg1 (sCons (sVar 2) sNil)) (gN 6) law_table_b2 [6, 7, 8, 9, 10]) (gRet (sAs tupL (sOwn 5))))))
def m_law_table : List PyData → Option PyData := runB 7 b_law_table
def law_times_c1 : En → Option (List PyData) := sLc (sArg rg1 (sCons (sAs lenD (sCons (sVar 2) sNil)) sNil)) (gN 8) sYes (s2 mulD (s2 ixD (sVar 4) (sVar 8)) (s2 ixD (s2 ixD (sVar 2) (sVar 8)) (sVar 6))) [8]
def law_times_b2 : En → Option Ou := (gSeq (gSetN 7 law_times_c1) (gFz 7 (gApp 5 (s2 modD (sAs sumL (sOwn 7)) (sVar 0)))))
def law_times_b3 : En → Option Ou := (gSeq (gSetN 5 (sDis sNil)) (gSeq (gFor (sArg rg1 (sCons (sAs lenD (sCons (s2 ixD (sVar 2) (sC (.int 0))) sNil)) sNil)) (gN 6) law_times_b2 [6, 7]) (gApp 3 (sAs tupL (sOwn 5)))))
def b_law_times : En → Option Ou := (gSeq (gSetN 3 (sDis sNil)) (gSeq (gFor (sQ (sVar 1)) (gN 4) law_times_b3 [4, 5, 6, 7]) (gRet (sAs tupL (sOwn 3)))))
def m_law_times : List PyData → Option PyData := runB 6 b_law_times
def law_unit_c1 : En → Option (List PyData) := sLc (sArg rg1 (sCons (sVar 0) sNil)) (gN 3) sYes (sAs intD (sCons (s2 eqD (sVar 2) (sVar 3)) sNil)) [3]
def law_unit_b2 : En → Option Ou := (gApp 1 (sAs tupL law_unit_c1))
def b_law_unit : En → Option Ou := (gSeq (gSetN 1 (sDis sNil)) (gSeq (gFor (sArg rg1 (sCons (sVar 0) sNil)) (gN 2) law_unit_b2 [2]) (gRet (sAs tupL (sOwn 1)))))
def m_law_unit : List PyData → Option PyData := runB 3 b_law_unit
def law_worth_c1 : En → Option (List PyData) := sLc (sArg rg1 (sCons (sC (.int 3)) sNil)) (gN 7) (sB (s2 neD (sVar 7) (sVar 4))) (sVar 7) [7]
def law_worth_b2 : En → Option Ou := (gSeq (gAsg (sLst law_worth_c1) (gL (gCons (gN 2) (gCons (gN 5) gNil)))) (gSeq (gSet 6 (s2 mulD (s2 ixD (s2 ixD (sVar 1) (sC (.int 1))) (sVar 2)) (s2 ixD (s2 ixD (sVar 1) (sC (.int 2))) (sVar 5)))) (gSeq (gSet 6 (s2 subD (sVar 6) (s2 mulD (s2 ixD (s2 ixD (sVar 1) (sC (.int 1))) (sVar 5)) (s2 ixD (s2 ixD (sVar 1) (sC (.int 2))) (sVar 2))))) (gSet 3 (s2 addD (sVar 3) (s2 mulD (s2 mulD (s2 ixD (sTup (sCons (sC (.int 1)) (sCons (s1 negD (sC (.int 1))) (sCons (sC (.int 1)) sNil)))) (sVar 4)) (s2 ixD (s2 ixD (sVar 1) (sC (.int 0))) (sVar 4))) (sVar 6)))))))
def b_law_worth : En → Option Ou := (gSeq (gIf (sB (s2 eqD (sAs lenD (sCons (sVar 1) sNil)) (sC (.int 1)))) (gRet (s2 modD (s2 ixD (s2 ixD (sVar 1) (sC (.int 0))) (sC (.int 0))) (sVar 0))) gNext) (gSeq (gIf (sB (s2 eqD (sAs lenD (sCons (sVar 1) sNil)) (sC (.int 2)))) (gSeq (gSet 2 (s2 mulD (s2 ixD (s2 ixD (sVar 1) (sC (.int 0))) (sC (.int 0))) (s2 ixD (s2 ixD (sVar 1) (sC (.int 1))) (sC (.int 1))))) (gRet (s2 modD (s2 subD (sVar 2) (s2 mulD (s2 ixD (s2 ixD (sVar 1) (sC (.int 0))) (sC (.int 1))) (s2 ixD (s2 ixD (sVar 1) (sC (.int 1))) (sC (.int 0))))) (sVar 0)))) gNext) (gKl [2] (gSeq (gSet 3 (sC (.int 0))) (gSeq (gFor (sArg rg1 (sCons (sC (.int 3)) sNil)) (gN 4) law_worth_b2 [2, 4, 5, 6]) (gRet (s2 modD (sVar 3) (sVar 0))))))))
def m_law_worth : List PyData → Option PyData := runB 6 b_law_worth
def b_law_by : En → Option Ou := (gRet (s2 ixD (sTup (sCons (sC (.int 2)) (sCons (sC (.int 3)) (sCons (sC (.int 5)) sNil)))) (s2 modD (sVar 0) (sC (.int 3)))))
def m_law_by : List PyData → Option PyData := runB 0 b_law_by
def law_unlike_b1 : En → Option Ou := (gSeq (gSet 5 (sVar 6)) (gSet 6 (sAs m_law_times (sCons (sVar 0) (sCons (sVar 6) (sCons (sVar 4) sNil))))))
def b_law_unlike : En → Option Ou := (gSeq (gSet 3 (sAs lenD (sCons (sVar 1) sNil))) (gSeq (gSet 4 (sAs m_law_table (sCons (s2 mulD (sC (.int 4)) (sVar 2)) (sCons (sVar 0) (sCons (sVar 3) (sCons (sVar 3) sNil)))))) (gSeq (gIf (sB (s2 eqD (sAs m_law_worth (sCons (sVar 0) (sCons (sVar 4) sNil))) (sC (.int 0)))) (gSet 4 (s2 addD (sSl (sAs m_law_unit (sCons (sVar 3) sNil)) (sSo (sC (.int 1))) sNo) (sSl (sAs m_law_unit (sCons (sVar 3) sNil)) sNo (sSo (sC (.int 1)))))) gNext) (gSeq (gSet 5 (sAs m_law_unit (sCons (sVar 3) sNil))) (gSeq (gSet 6 (sVar 4)) (gSeq (gWh (sB (s2 neD (sVar 6) (sAs m_law_unit (sCons (sVar 3) sNil)))) law_unlike_b1 [] 2000000) (gRet (sAs m_law_times (sCons (sVar 0) (sCons (sAs m_law_times (sCons (sVar 0) (sCons (sVar 5) (sCons (sVar 1) sNil)))) (sCons (sVar 4) sNil)))))))))))
def m_law_unlike : List PyData → Option PyData := runB 4 b_law_unlike
def b_law_rest : En → Option Ou := (gRet (sAndV (s1 (isiD "int") (sVar 0)) (sAndV (sNotV (s1 (isiD "bool") (sVar 0))) (sChain leD ltD (sC (.int 0)) (sVar 0) (sVar 1)))))
def m_law_rest : List PyData → Option PyData := runB 0 b_law_rest
def law_is_table_c1 : En → Option (List PyData) := sLc (sQ (sVar 2)) (gN 3) (sNot (sB (sAs m_law_rest (sCons (sVar 3) (sCons (sVar 1) sNil))))) (sVar 3) [3]
def law_is_table_b2 : En → Option Ou := (gSeq (gIf (sOr (sNot (sB (s1 (isiD "tuple") (sVar 2)))) (sNot (sB (sChain leD leD (sC (.int 1)) (sAs lenD (sCons (sVar 2) sNil)) (sC (.int 3)))))) (gRet (sC (.bool false))) gNext) (gIf (sOr (sB (s2 neD (sAs lenD (sCons (sVar 2) sNil)) (sAs lenD (sCons (s2 ixD (sVar 0) (sC (.int 0))) sNil)))) (sB (s2 neD (sLst law_is_table_c1) (sLst (sDis sNil))))) (gRet (sC (.bool false))) gNext))
def b_law_is_table : En → Option Ou := (gSeq (gIf (sOr (sNot (sB (s1 (isiD "tuple") (sVar 0)))) (sNot (sB (sChain leD leD (sC (.int 1)) (sAs lenD (sCons (sVar 0) sNil)) (sC (.int 3)))))) (gRet (sC (.bool false))) gNext) (gSeq (gFor (sQ (sVar 0)) (gN 2) law_is_table_b2 [2]) (gRet (sC (.bool true)))))
def m_law_is_table : List PyData → Option PyData := runB 2 b_law_is_table
def law_is_powers_c1 : En → Option (List PyData) := sLc (sQ (sVar 0)) (gN 2) (sNot (sB (sAs m_law_rest (sCons (sVar 2) (sCons (sVar 1) sNil))))) (sVar 2) [2]
def b_law_is_powers : En → Option Ou := (gSeq (gIf (sOr (sNot (sB (s1 (isiD "tuple") (sVar 0)))) (sOr (sB (s2 gtD (sAs lenD (sCons (sVar 0) sNil)) (sC (.int 7)))) (sB (s2 neD (sLst law_is_powers_c1) (sLst (sDis sNil)))))) (gRet (sC (.bool false))) gNext) (gRet (sOrV (s2 eqD (sVar 0) (sTup sNil)) (s2 neD (s2 ixD (sVar 0) (s2 subD (sAs lenD (sCons (sVar 0) sNil)) (sC (.int 1)))) (sC (.int 0))))))
def m_law_is_powers : List PyData → Option PyData := runB 1 b_law_is_powers
def b_law_spoilt (r : List PyData → Option PyData) : En → Option Ou := (gSeq (gIf (sAnd (sB (s2 gtD (sVar 2) (sC (.int 0)))) (sAnd (sB (s1 (isiD "tuple") (sVar 0))) (sAnd (sB (s2 gtD (sAs lenD (sCons (sVar 0) sNil)) (sC (.int 0)))) (sB (s2 gtD (s2 modD (sVar 1) (sC (.int 6))) (sC (.int 0))))))) (gSeq (gSet 3 (s2 modD (s2 divD (sVar 1) (sC (.int 6))) (sAs lenD (sCons (sVar 0) sNil)))) (gSeq (gSet 4 (sAs r (sCons (s2 ixD (sVar 0) (sVar 3)) (sCons (s2 divD (sAs m_law_drawn (sCons (sVar 1) (sCons (sVar 2) sNil))) (sC (.int 4))) (sCons (s2 subD (sVar 2) (sC (.int 1))) sNil))))) (gRet (s2 addD (s2 addD (sSl (sVar 0) sNo (sSo (sVar 3))) (sTup (sCons (sVar 4) sNil))) (sSl (sVar 0) (sSo (s2 addD (sVar 3) (sC (.int 1)))) sNo))))) gNext) (gKl [3, 4] (gSeq (gIf (sAnd (sB (s1 (isiD "tuple") (sVar 0))) (sAnd (sB (s2 gtD (sAs lenD (sCons (sVar 0) sNil)) (sC (.int 0)))) (sB (s2 eqD (s2 modD (s2 divD (sVar 1) (sC (.int 6))) (sC (.int 2))) (sC (.int 0)))))) (gRet (s2 ixD (sLst (sDis (sCons (sLst (sNw lisD (sVar 0))) (sCons (sSl (sVar 0) sNo (sSo (s1 negD (sC (.int 1))))) (sCons (s2 addD (sVar 0) (sSl (sVar 0) (sSo (s1 negD (sC (.int 1)))) sNo)) (sCons (sSl (sVar 0) (sSo (sC (.int 1))) sNo) (sCons (s2 addD (sVar 0) (sTup (sCons (sC (.int 0)) sNil))) (sCons (s2 mulD (sVar 0) (sC (.int 3))) sNil)))))))) (s2 modD (s2 divD (sVar 1) (sC (.int 12))) (sC (.int 6))))) gNext) (gSeq (gIf (sAnd (sB (s1 (isiD "int") (sVar 0))) (sB (s2 eqD (s2 modD (s2 divD (sVar 1) (sC (.int 6))) (sC (.int 2))) (sC (.int 0))))) (gRet (s2 ixD (sLst (sDis (sCons (sAs strD (sCons (s2 modD (sVar 0) (sC (.int 100))) sNil)) (sCons (s2 subD (sC (.int 0)) (sVar 0)) (sCons (s2 addD (sVar 0) (sC (.int 1))) (sCons (s2 eqD (sVar 0) (sC (.int 1))) (sCons (s2 addD (sVar 0) (sC (.int 2))) (sCons (sC (.int 5)) sNil)))))))) (s2 modD (s2 divD (sVar 1) (sC (.int 12))) (sC (.int 6))))) gNext) (gSeq (gSet 5 (sLst (sDis (sCons (sC .none) (sCons (sC (.bool true)) (sCons (sC (.bool false)) (sCons (sC (.int 0)) (sCons (sC (.int 1)) (sCons (sC (.int 2)) (sCons (sC (.int 3)) (sCons (sC (.int 4)) (sCons (sC (.int 5)) (sCons (s1 negD (sC (.int 1))) (sCons (sC (.str "")) (sCons (sC (.str "1")) (sCons (sTup sNil) (sCons (sTup (sCons (sC (.int 0)) sNil)) (sCons (sTup (sCons (sC (.int 1)) (sCons (sC (.int 0)) sNil))) (sCons (sLst (sDis sNil)) (sCons (sTup (sCons (sTup (sCons (sC (.int 1)) sNil)) sNil)) (sCons (sTup (sCons (sTup sNil) (sCons (sTup sNil) sNil))) (sCons (s2 mulD (sTup (sCons (sC (.int 1)) sNil)) (sC (.int 8))) sNil)))))))))))))))))))))) (gRet (s2 ixD (sVar 5) (s2 modD (s2 divD (sVar 1) (sC (.int 6))) (sC (.int 19))))))))))
def m_law_spoilt : Nat → List PyData → Option PyData
  | 0 => fun _ => none
  | n + 1 => runB 3 (b_law_spoilt (m_law_spoilt n))
def law_c1 : En → Option (List PyData) := sLc (sArg rg1 (sCons (s2 modD (sVar 4) (sC (.int 7))) sNil)) (gN 8) sYes (s2 modD (s2 divD (sAs m_law_drawn (sCons (sVar 4) (sCons (sVar 8) sNil))) (sC (.int 4))) (sVar 2)) [8]
def law_b2 : En → Option Ou := (gSeq (gSet 7 (sAs m_is_table (sCons (sVar 6) (sCons (sVar 2) sNil)))) (gSeq (gIf (sOr (sNot (sB (s1 (isiD "bool") (sVar 7)))) (sB (s2 neD (sVar 7) (sAs m_law_is_table (sCons (sVar 6) (sCons (sVar 2) sNil)))))) (gRet (sC (.bool false))) gNext) (gSeq (gSet 7 (sAs m_is_powers (sCons (sVar 6) (sCons (sVar 2) sNil)))) (gIf (sOr (sNot (sB (s1 (isiD "bool") (sVar 7)))) (sB (s2 neD (sVar 7) (sAs m_law_is_powers (sCons (sVar 6) (sCons (sVar 2) sNil)))))) (gRet (sC (.bool false))) gNext))))
def b_law : En → Option Ou := (gSeq (gSet 1 (sAs m_law_mixed (sCons (sVar 0) (sCons (sC (.int 0)) sNil)))) (gSeq (gSet 2 (sAs m_law_by (sCons (s2 divD (sVar 1) (sC (.int 3))) sNil))) (gSeq (gSet 3 (sAs m_law_table (sCons (sAs m_law_mixed (sCons (sVar 0) (sCons (sC (.int 1)) sNil))) (sCons (sVar 2) (sCons (s2 addD (sC (.int 1)) (s2 modD (s2 divD (sVar 1) (sC (.int 16))) (sC (.int 3)))) (sCons (s2 addD (sC (.int 1)) (s2 modD (s2 divD (sVar 1) (sC (.int 64))) (sC (.int 3)))) sNil)))))) (gSeq (gSet 4 (sAs m_law_mixed (sCons (sVar 0) (sCons (sC (.int 2)) sNil)))) (gSeq (gSet 5 (sAs tupL law_c1)) (gSeq (gSet 5 (s2 addD (sVar 5) (sTup (sCons (s2 addD (sC (.int 1)) (s2 modD (s2 divD (sVar 4) (sC (.int 8))) (s2 subD (sVar 2) (sC (.int 1))))) sNil)))) (gSeq (gIf (sB (s2 eqD (s2 modD (s2 divD (sVar 1) (sC (.int 256))) (sC (.int 5))) (sC (.int 0)))) (gSet 5 (sTup sNil)) gNext) (gSeq (gIf (sB (s2 gtD (s2 modD (sVar 1) (sC (.int 3))) (sC (.int 0)))) (gSeq (gSet 3 (sAs (m_law_spoilt 6) (sCons (sVar 3) (sCons (sAs m_law_mixed (sCons (sVar 0) (sCons (sC (.int 3)) sNil))) (sCons (s2 modD (s2 divD (sVar 1) (sC (.int 1024))) (sC (.int 3))) sNil))))) (gSet 5 (sAs (m_law_spoilt 6) (sCons (sVar 5) (sCons (sAs m_law_mixed (sCons (sVar 0) (sCons (sC (.int 4)) sNil))) (sCons (s2 modD (s2 divD (sVar 1) (sC (.int 4096))) (sC (.int 2))) sNil)))))) gNext) (gSeq (gFor (sQ (sTup (sCons (sVar 3) (sCons (sVar 5) sNil)))) (gN 6) law_b2 [6, 7]) (gRet (sC (.bool true))))))))))))
def m_law : List PyData → Option PyData := runB 8 b_law
end Dz

namespace Dz
open PySem (PyData Str sizeLine)
/-- the cell of the script -/
def cel (ns : List Int) (k : Nat) : Int := (ns[k]?).getD 0
theorem e_cell (ns : List Int) (k : Nat) : m_law_cell_at [scrD ns, eN k] = some (.int (cel ns k)) := by
  have hl : lenD [scrD ns] = some (eN ns.length) := by
    show some (PyData.int (((ns.map fun n => (PyData.int n, PyData.none)).length : Nat) : Int)) = _
    rw [List.length_map]
  have ht : sB (s2 ltD (sVar 1) (sAs lenD (sCons (sVar 0) sNil))) [Sl.dat (scrD ns), .dat (eN k)] = some (decide (k < ns.length)) := sB_ok (s2_to rfl (as_to (cons_ok rfl rfl) hl) (ltN _ _))
  by_cases h : k < ns.length
  · rw [decide_eq_true h] at ht
    refine run_ok (seq_rt ((if_t ht).trans (ret_ok (s2_to rfl rfl ?_))))
    have e : ixD (scrD ns) (eN k) = L2.atI ((ns.map fun n => (PyData.int n, PyData.none)).map (·.1)) (k : Int) := rfl
    rw [e, List.map_map]
    have hg : ns[k]? = some ns[k] := List.getElem?_eq_getElem h
    rw [at_map (f := (fun x : PyData × PyData => x.1) ∘ fun n => (PyData.int n, PyData.none)) hg]
    unfold cel
    rw [hg]
    rfl
  · rw [decide_eq_false h] at ht
    refine run_ok (seq_to (if_f ht) (ret_ok (f := sC (.int 0)) ?_))
    unfold cel
    rw [List.getElem?_eq_none (Nat.le_of_not_lt h)]
    rfl
def mxd (ns : List Int) (k : Nat) : Nat := ((cel ns k + 7919 * (k : Int) + 1) * 48271 % 2147483647).toNat
def mx (ns : List Int) (k : Nat) : Nat := (mxd ns k * mxd ns k + 7 * mxd ns k + k) % 2147483629
theorem mx_lt (ns : List Int) (k : Nat) : mx ns k < 2147483629 := Nat.mod_lt _ (by decide)
theorem e_mixed (ns : List Int) (k : Nat) (hk : k ≤ 1000) : m_law_mixed [scrD ns, eN k] = some (eN (mx ns k)) := by
  have h0 : (0 : Int) ≤ (cel ns k + 7919 * (k : Int) + 1) * 48271 % 2147483647 := Int.emod_nonneg _ (by decide)
  have h1 : (cel ns k + 7919 * (k : Int) + 1) * 48271 % 2147483647 < 2147483647 := Int.emod_lt_of_pos _ (by decide)
  have hd : mxd ns k < 2147483647 := by unfold mxd; omega
  have hv : ((mxd ns k : Nat) : Int) = (cel ns k + 7919 * (k : Int) + 1) * 48271 % 2147483647 := by unfold mxd; omega
  have hset : gSet 2 (s2 modD (s2 mulD (s2 addD (s2 addD (sAs m_law_cell_at (sCons (sVar 0) (sCons (sVar 1) sNil))) (s2 mulD (sC (.int 7919)) (sVar 1))) (sC (.int 1))) (sC (.int 48271))) (sC (.int 2147483647))) [Sl.dat (scrD ns), .dat (eN k), .un] = some (.nx [Sl.dat (scrD ns), .dat (eN k), .dat (eN (mxd ns k))]) := by
    refine set_ok (d := eN (mxd ns k)) (s2_to (s2_to (s2_to (s2_to (as_to (cons_ok rfl (cons_ok rfl rfl)) (e_cell ns k)) (s2_to rfl rfl (mul_i (.inl (by rw [p64]; omega)))) (add_i _ _)) rfl (add_i _ _)) rfl (mul_i (.inr (by rw [p64]; omega)))) rfl ((mod_pos _ (by decide)).trans ?_))
    show _ = some (PyData.int ((mxd ns k : Nat) : Int))
    rw [hv]
  apply run_ok
  apply seq_to hset
  unfold mx
  apply ret_ok
  (repeat' first | with_reducible exact cN _ | with_reducible exact c_ok | with_reducible exact nil_ok | ((with_reducible apply var_ok); exact rfl) | with_reducible exact addN _ _ | with_reducible exact mulN _ _ (by omega) | with_reducible exact modN _ _ (by omega) | with_reducible exact divN _ _ (by omega) (by omega) | with_reducible exact eqN _ _ | with_reducible exact neN _ _ | with_reducible exact ltN _ _ | with_reducible exact leN _ _ | with_reducible exact gtN _ _ | with_reducible exact geN _ _ | with_reducible apply s2_to | with_reducible apply cons_ok | with_reducible apply as_to | with_reducible apply sB_ok)
def drd (n k : Nat) : Nat := (n + 104729 * k + 17) * 69621 % 2147483647
def dr (n k : Nat) : Nat := (drd n k * drd n k + 3 * drd n k + k) % 2147483629
theorem dr_lt (n k : Nat) : dr n k < 2147483629 := Nat.mod_lt _ (by decide)
theorem e_drawn (n k : Nat) (hn : n ≤ 1000000000000) (hk : k ≤ 1000) : m_law_drawn [eN n, eN k] = some (eN (dr n k)) := by
  have hd : drd n k < 2147483647 := Nat.mod_lt _ (by decide)
  apply run_ok
  apply seq_to
  · apply set_ok (d := eN (drd n k))
    unfold drd
    (repeat' first | with_reducible exact cN _ | with_reducible exact c_ok | with_reducible exact nil_ok | ((with_reducible apply var_ok); exact rfl) | with_reducible exact addN _ _ | with_reducible exact mulN _ _ (by omega) | with_reducible exact modN _ _ (by omega) | with_reducible exact divN _ _ (by omega) (by omega) | with_reducible exact eqN _ _ | with_reducible exact neN _ _ | with_reducible exact ltN _ _ | with_reducible exact leN _ _ | with_reducible exact gtN _ _ | with_reducible exact geN _ _ | with_reducible apply s2_to | with_reducible apply cons_ok | with_reducible apply as_to | with_reducible apply sB_ok)
  · unfold dr
    apply ret_ok
    (repeat' first | with_reducible exact cN _ | with_reducible exact c_ok | with_reducible exact nil_ok | ((with_reducible apply var_ok); exact rfl) | with_reducible exact addN _ _ | with_reducible exact mulN _ _ (by omega) | with_reducible exact modN _ _ (by omega) | with_reducible exact divN _ _ (by omega) (by omega) | with_reducible exact eqN _ _ | with_reducible exact neN _ _ | with_reducible exact ltN _ _ | with_reducible exact leN _ _ | with_reducible exact gtN _ _ | with_reducible exact geN _ _ | with_reducible apply s2_to | with_reducible apply cons_ok | with_reducible apply as_to | with_reducible apply sB_ok)
def byN (n : Nat) : Nat := if n % 3 = 0 then 2 else if n % 3 = 1 then 3 else 5
instance byPr (n : Nat) : Pr (byN n) := ⟨by unfold byN; split; exact .inl rfl; split; exact .inr (.inl rfl); exact .inr (.inr rfl)⟩
theorem e_by (n : Nat) : m_law_by [eN n] = some (eN (byN n)) := by
  have hm : modD (eN n) (.int 3) = some (eN (n % 3)) := modN n 3 (by decide)
  have h3 : n % 3 = 0 ∨ n % 3 = 1 ∨ n % 3 = 2 := by omega
  refine run_ok (ret_ok (s2_to rfl (s2_to rfl rfl hm) ?_))
  unfold byN
  rcases h3 with e | e | e <;> rw [e] <;> rfl
def tfN (n p kind i j : Nat) : Nat :=
  if (decide (kind = 3) && decide (i = j)) = true then n / 16 % p else if (decide (kind = 2) && decide (j < i)) = true then 0 else if (decide (kind = 1) && decide (0 < dr n (5 * i + j) / 4 / 8 % 3)) = true then 0 else dr n (5 * i + j) / 4 % p
theorem tfN_lt (n p kind i j : Nat) (h : 0 < p) : tfN n p kind i j < p := by
  unfold tfN
  split
  · exact Nat.mod_lt _ h
  · split
    · exact h
    · split
      · exact h
      · exact Nat.mod_lt _ h
/-- the table that is drawn -/
def tab (p n r c : Nat) [Pr p] : Mt p r c := fun i j => ⟨tfN n p (n % 4) i.val j.val, tfN_lt _ _ _ _ _ (by have := Pr.le (p := p); omega)⟩
theorem tab_in {p : Nat} [Pr p] (n r c i j kind : Nat) (fd line : List PyData) (hn : n ≤ 1000000000000) (hi : i ≤ 100) (hj : j ≤ 100) (hl : line.length < 16777216) :
    law_table_b1 [.dat (eN n), .dat (eN p), .dat (eN r), .dat (eN c), .dat (eN kind), .own fd, .dat (eN i), .own line, .dat (eN j), .un, .un] = some (.nx [.dat (eN n), .dat (eN p), .dat (eN r), .dat (eN c), .dat (eN kind), .own fd, .dat (eN i), .own (line ++ [eN (tfN n p kind i j)]), .dat (eN j), .dat (eN (dr n (5 * i + j) / 4)), .dat (eN (tfN n p kind i j))]) := by
  have hp := Pr.le (p := p)
  have hd := dr_lt n (5 * i + j)
  apply seq_to
  · apply set_ok (d := eN (dr n (5 * i + j) / 4))
    (repeat' first | with_reducible exact cN _ | with_reducible exact c_ok | with_reducible exact nil_ok | ((with_reducible apply var_ok); exact rfl) | with_reducible exact addN _ _ | with_reducible exact mulN _ _ (by omega) | with_reducible exact modN _ _ (by omega) | with_reducible exact divN _ _ (by omega) (by omega) | with_reducible exact eqN _ _ | with_reducible exact neN _ _ | with_reducible exact ltN _ _ | with_reducible exact leN _ _ | with_reducible exact gtN _ _ | with_reducible exact geN _ _ | with_reducible exact e_drawn _ _ (by omega) (by omega) | with_reducible apply s2_to | with_reducible apply cons_ok | with_reducible apply as_to | with_reducible apply sB_ok)
  simp only [List.set_cons_succ, List.set_cons_zero, List.map_cons, List.map_nil, List.replicate, List.cons_append, List.nil_append]
  apply seq_to
  · apply set_ok (d := eN (dr n (5 * i + j) / 4 % p))
    (repeat' first | with_reducible exact cN _ | with_reducible exact c_ok | with_reducible exact nil_ok | ((with_reducible apply var_ok); exact rfl) | with_reducible exact addN _ _ | with_reducible exact mulN _ _ (by omega) | with_reducible exact modN _ _ (by omega) | with_reducible exact divN _ _ (by omega) (by omega) | with_reducible exact eqN _ _ | with_reducible exact neN _ _ | with_reducible exact ltN _ _ | with_reducible exact leN _ _ | with_reducible exact gtN _ _ | with_reducible exact geN _ _ | with_reducible apply s2_to | with_reducible apply cons_ok | with_reducible apply as_to | with_reducible apply sB_ok)
  simp only [List.set_cons_succ, List.set_cons_zero, List.map_cons, List.map_nil, List.replicate, List.cons_append, List.nil_append]
  apply seq_to
  · refine ifset_ok (d0 := eN (dr n (5 * i + j) / 4 % p)) (d1 := eN 0) (b := decide (kind = 1) && decide (0 < dr n (5 * i + j) / 4 / 8 % 3)) (and_ok ?_ fun _ => ?_) (fun _ => rfl) rfl
    · (repeat' first | with_reducible exact cN _ | with_reducible exact c_ok | with_reducible exact nil_ok | ((with_reducible apply var_ok); exact rfl) | with_reducible exact addN _ _ | with_reducible exact mulN _ _ (by omega) | with_reducible exact modN _ _ (by omega) | with_reducible exact divN _ _ (by omega) (by omega) | with_reducible exact eqN _ _ | with_reducible exact neN _ _ | with_reducible exact ltN _ _ | with_reducible exact leN _ _ | with_reducible exact gtN _ _ | with_reducible exact geN _ _ | with_reducible apply s2_to | with_reducible apply cons_ok | with_reducible apply as_to | with_reducible apply sB_ok)
    · (repeat' first | with_reducible exact cN _ | with_reducible exact c_ok | with_reducible exact nil_ok | ((with_reducible apply var_ok); exact rfl) | with_reducible exact addN _ _ | with_reducible exact mulN _ _ (by omega) | with_reducible exact modN _ _ (by omega) | with_reducible exact divN _ _ (by omega) (by omega) | with_reducible exact eqN _ _ | with_reducible exact neN _ _ | with_reducible exact ltN _ _ | with_reducible exact leN _ _ | with_reducible exact gtN _ _ | with_reducible exact geN _ _ | with_reducible apply s2_to | with_reducible apply cons_ok | with_reducible apply as_to | with_reducible apply sB_ok)
  simp only [List.set_cons_succ, List.set_cons_zero, List.map_cons, List.map_nil, List.replicate, List.cons_append, List.nil_append]
  apply seq_to
  · refine ifset_ok (d0 := _) (d1 := eN 0) (b := decide (kind = 2) && decide (j < i)) (and_ok ?_ fun _ => ?_) (fun _ => rfl) rfl
    · (repeat' first | with_reducible exact cN _ | with_reducible exact c_ok | with_reducible exact nil_ok | ((with_reducible apply var_ok); exact rfl) | with_reducible exact addN _ _ | with_reducible exact mulN _ _ (by omega) | with_reducible exact modN _ _ (by omega) | with_reducible exact divN _ _ (by omega) (by omega) | with_reducible exact eqN _ _ | with_reducible exact neN _ _ | with_reducible exact ltN _ _ | with_reducible exact leN _ _ | with_reducible exact gtN _ _ | with_reducible exact geN _ _ | with_reducible apply s2_to | with_reducible apply cons_ok | with_reducible apply as_to | with_reducible apply sB_ok)
    · (repeat' first | with_reducible exact cN _ | with_reducible exact c_ok | with_reducible exact nil_ok | ((with_reducible apply var_ok); exact rfl) | with_reducible exact addN _ _ | with_reducible exact mulN _ _ (by omega) | with_reducible exact modN _ _ (by omega) | with_reducible exact divN _ _ (by omega) (by omega) | with_reducible exact eqN _ _ | with_reducible exact neN _ _ | with_reducible exact ltN _ _ | with_reducible exact leN _ _ | with_reducible exact gtN _ _ | with_reducible exact geN _ _ | with_reducible apply s2_to | with_reducible apply cons_ok | with_reducible apply as_to | with_reducible apply sB_ok)
  simp only [List.set_cons_succ, List.set_cons_zero, List.map_cons, List.map_nil, List.replicate, List.cons_append, List.nil_append]
  apply seq_to
  · refine ifset_ok (d0 := _) (d1 := eN (n / 16 % p)) (b := decide (kind = 3) && decide (i = j)) (and_ok ?_ fun _ => ?_) (fun _ => ?_) rfl
    · (repeat' first | with_reducible exact cN _ | with_reducible exact c_ok | with_reducible exact nil_ok | ((with_reducible apply var_ok); exact rfl) | with_reducible exact addN _ _ | with_reducible exact mulN _ _ (by omega) | with_reducible exact modN _ _ (by omega) | with_reducible exact divN _ _ (by omega) (by omega) | with_reducible exact eqN _ _ | with_reducible exact neN _ _ | with_reducible exact ltN _ _ | with_reducible exact leN _ _ | with_reducible exact gtN _ _ | with_reducible exact geN _ _ | with_reducible apply s2_to | with_reducible apply cons_ok | with_reducible apply as_to | with_reducible apply sB_ok)
    · (repeat' first | with_reducible exact cN _ | with_reducible exact c_ok | with_reducible exact nil_ok | ((with_reducible apply var_ok); exact rfl) | with_reducible exact addN _ _ | with_reducible exact mulN _ _ (by omega) | with_reducible exact modN _ _ (by omega) | with_reducible exact divN _ _ (by omega) (by omega) | with_reducible exact eqN _ _ | with_reducible exact neN _ _ | with_reducible exact ltN _ _ | with_reducible exact leN _ _ | with_reducible exact gtN _ _ | with_reducible exact geN _ _ | with_reducible apply s2_to | with_reducible apply cons_ok | with_reducible apply as_to | with_reducible apply sB_ok)
    · (repeat' first | with_reducible exact cN _ | with_reducible exact c_ok | with_reducible exact nil_ok | ((with_reducible apply var_ok); exact rfl) | with_reducible exact addN _ _ | with_reducible exact mulN _ _ (by omega) | with_reducible exact modN _ _ (by omega) | with_reducible exact divN _ _ (by omega) (by omega) | with_reducible exact eqN _ _ | with_reducible exact neN _ _ | with_reducible exact ltN _ _ | with_reducible exact leN _ _ | with_reducible exact gtN _ _ | with_reducible exact geN _ _ | with_reducible apply s2_to | with_reducible apply cons_ok | with_reducible apply as_to | with_reducible apply sB_ok)
  simp only [List.set_cons_succ, List.set_cons_zero, List.map_cons, List.map_nil, List.replicate, List.cons_append, List.nil_append]
  have e : (if (decide (kind = 3) && decide (i = j)) = true then eN (n / 16 % p) else if (decide (kind = 2) && decide (j < i)) = true then eN 0 else if (decide (kind = 1) && decide (0 < dr n (5 * i + j) / 4 / 8 % 3)) = true then eN 0 else eN (dr n (5 * i + j) / 4 % p)) = eN (tfN n p kind i j) := by
    unfold tfN
    split
    · rfl
    · split
      · rfl
      · split <;> rfl
  rw [e]
  exact app_ok (i := 7) rfl rfl hl
theorem e_table {p : Nat} [Pr p] (n r c : Nat) (hn : n ≤ 1000000000000) (hr : r ≤ 100) (hc : c ≤ 100) : m_law_table [eN n, eN p, eN r, eN c] = some (eT (tab p n r c)) := by
  apply run_ok
  apply seq_to
  · apply set_ok (d := eN (n % 4))
    (repeat' first | with_reducible exact cN _ | with_reducible exact c_ok | with_reducible exact nil_ok | ((with_reducible apply var_ok); exact rfl) | with_reducible exact addN _ _ | with_reducible exact mulN _ _ (by omega) | with_reducible exact modN _ _ (by omega) | with_reducible exact divN _ _ (by omega) (by omega) | with_reducible exact eqN _ _ | with_reducible exact neN _ _ | with_reducible exact ltN _ _ | with_reducible exact leN _ _ | with_reducible exact gtN _ _ | with_reducible exact geN _ _ | with_reducible apply s2_to | with_reducible apply cons_ok | with_reducible apply as_to | with_reducible apply sB_ok)
  apply seq_to
  · exact rfl
  apply seq_to
  · refine gFor_pre (fun l => [.dat (eN n), .dat (eN p), .dat (eN r), .dat (eN c), .dat (eN (n % 4)), .own (l.map fun i => eR (tab p n r c i)), .un, .un, .un, .un, .un]) (fun i : Fin r => .int (i.val : Int)) (fr r) (ar_to (cons_ok rfl rfl) (rg1_ok (by omega))) rfl fun l i rr e => ?_
    have hl := pre_len e
    rw [fr_len] at hl
    have hb : law_table_b2 [.dat (eN n), .dat (eN p), .dat (eN r), .dat (eN c), .dat (eN (n % 4)), .own (l.map fun i => eR (tab p n r c i)), .dat (eN i.val), .un, .un, .un, .un] = some (.nx [.dat (eN n), .dat (eN p), .dat (eN r), .dat (eN c), .dat (eN (n % 4)), .own (l.map (fun i => eR (tab p n r c i)) ++ [eR (tab p n r c i)]), .dat (eN i.val), .own ((fr c).map fun j => eI (tab p n r c i j)), .un, .un, .un]) := by
      apply seq_to
      · exact rfl
      apply seq_to
      · refine gFor_pre (fun l' => [.dat (eN n), .dat (eN p), .dat (eN r), .dat (eN c), .dat (eN (n % 4)), .own (l.map fun i => eR (tab p n r c i)), .dat (eN i.val), .own (l'.map fun j => eI (tab p n r c i j)), .un, .un, .un]) (fun j : Fin c => .int (j.val : Int)) (fr c) (ar_to (cons_ok rfl rfl) (rg1_ok (by omega))) rfl fun l' j rr' e' => ?_
        have hl' := pre_len e'
        rw [fr_len] at hl'
        refine turn_to rfl (tab_in n r c i.val j.val (n % 4) (l.map fun i => eR (tab p n r c i)) (l'.map fun j => eI (tab p n r c i j)) hn (by omega) (by omega) (by rw [List.length_map]; omega)) ?_
        rw [List.map_append]
        rfl
      · exact app_ok (i := 5) rfl (as_to (own_ok rfl) rfl) (by rw [List.length_map]; omega)
    refine turn_to rfl hb ?_
    rw [List.map_append]
    rfl
  · rfl
end Dz

namespace Dz
open PySem (PyData Str sizeLine)
/-! what is a rest, a table, a sum of powers -/
def isRest (p : Nat) : PyData → Bool
  | .int i => decide (0 ≤ i) && decide (i < (p : Int))
  | _ => false
def tups : PyData → List PyData
  | .tuple ds => ds
  | _ => []
def rowOk : PyData → Bool
  | .tuple ds => decide (1 ≤ ds.length) && decide (ds.length ≤ 3)
  | _ => false
def isTab (p : Nat) : PyData → Bool
  | .tuple ds => (decide (1 ≤ ds.length) && decide (ds.length ≤ 3)) && (ds.all rowOk && (ds.all (fun r => decide ((tups r).length = (tups (ds.headD .none)).length)) && ds.all fun r => (tups r).all (isRest p)))
  | _ => false
def last0 (ds : List PyData) : Bool := match ds.getLast? with
  | some (.int i) => decide (i = 0)
  | _ => false
def isPow (p : Nat) : PyData → Bool
  | .tuple ds => (decide (ds.length ≤ 7) && ds.all (isRest p)) && (ds.isEmpty || !last0 ds)
  | _ => false
theorem sh_kids {k : Nat} : ∀ {ds : List PyData}, PyData.canLayAll0 ds = true → PyData.depthAll ds ≤ k → ∀ d ∈ ds, Sh k d
  | [], _, _, d, h => nomatch h
  | x :: ds, h1, h2, d, h => by
    simp only [PyData.canLayAll0, Bool.and_eq_true] at h1
    simp only [PyData.depthAll] at h2
    rcases List.mem_cons.mp h with rfl | h
    · exact ⟨h1.1, by omega⟩
    · exact sh_kids h1.2 (by omega) d h
theorem sh_tups {k : Nat} {ds : List PyData} (h : Sh k (.tuple ds)) : ∀ d ∈ ds, Sh k d := by
  obtain ⟨h1, h2⟩ := h
  simp only [PyData.canLay0] at h1
  simp only [PyData.depth] at h2
  exact sh_kids h1 (by omega)
theorem sLc_mem {fi : En → Option (List PyData)} {gt : PyData → En → Option En} {ft : En → Option Bool} {fe : En → Option PyData} {vs : List Nat} {env : En} {ds : List PyData} {k : PyData → PyData}
    (hi : fi env = some ds) (hl : ds.length ≤ 16777216) (hb : ∀ x ∈ ds, lcB gt ft fe (wipeE env vs) x = some (some (k x))) : sLc fi gt ft fe vs env = some (ds.map k) :=
  sLc_map (h := fun x => x) (hi.trans (by rw [List.map_id'])) hl hb
theorem sLc_memf {fi : En → Option (List PyData)} {gt : PyData → En → Option En} {ft : En → Option Bool} {fe : En → Option PyData} {vs : List Nat} {env : En} {ds : List PyData} {p : PyData → Bool}
    (hi : fi env = some ds) (hl : ds.length ≤ 16777216) (hb : ∀ x ∈ ds, lcB gt ft fe (wipeE env vs) x = some (if p x = true then some x else none)) : sLc fi gt ft fe vs env = some (ds.filter p) :=
  (sLc_filter (h := fun x => x) (k := fun x => x) (hi.trans (by rw [List.map_id'])) hl hb).trans (by rw [List.map_id'])
theorem all_ok {f : En → Option (List PyData)} {env : En} {α : Type} {xs : List α} {g : α → Bool} (h : f env = some (xs.map fun x => .bool (g x))) : sAs allL f env = some (.bool (xs.all g)) := by
  refine as_to h ?_
  unfold allL
  rw [blL_map, Option.bind_some, List.all_map]
  rfl
theorem all_mem {f : En → Option (List PyData)} {env : En} {xs : List PyData} {g : PyData → Bool} (h : f env = some (xs.map fun x => .bool (g x))) : sAs allL f env = some (.bool (xs.all g)) := all_ok h
theorem sAndV_ok {a b : En → Option PyData} {env : En} {x y : Bool} (ha : a env = some (.bool x)) (hb : x = true → b env = some (.bool y)) : sAndV a b env = some (.bool (x && y)) := by
  unfold sAndV
  rw [ha]
  cases x with
  | true => exact hb rfl
  | false => rfl
theorem sOrV_ok {a b : En → Option PyData} {env : En} {x y : Bool} (ha : a env = some (.bool x)) (hb : x = false → b env = some (.bool y)) : sOrV a b env = some (.bool (x || y)) := by
  unfold sOrV
  rw [ha]
  cases x with
  | false => exact hb rfl
  | true => rfl
theorem sNotV_ok {a : En → Option PyData} {env : En} {x : Bool} (ha : a env = some (.bool x)) : sNotV a env = some (.bool (!x)) := by
  unfold sNotV
  rw [ha]
  rfl
theorem sChain_ok {g g' : PyData → PyData → Option PyData} {a b c : En → Option PyData} {env : En} {x y z : PyData} {k l : Bool} (ha : a env = some x) (hb : b env = some y) (hc : c env = some z) (h1 : g x y = some (.bool k)) (h2 : g' y z = some (.bool l)) : sChain g g' a b c env = some (.bool (k && l)) := by
  unfold sChain
  rw [ha, hb, Option.bind_some, Option.bind_some, h1, Option.bind_some]
  cases k with
  | true =>
    show (c env).bind _ = _
    rw [hc]
    exact h2
  | false => rfl
theorem le_i (i j : Int) : leD (.int i) (.int j) = some (.bool (decide (i ≤ j))) := rfl
theorem lt_i (i j : Int) : ltD (.int i) (.int j) = some (.bool (decide (i < j))) := rfl
theorem isInt (i : Int) : isiD "int" (.int i) = some (.bool true) := rfl
theorem isTup (ds : List PyData) : isiD "tuple" (.tuple ds) = some (.bool true) := rfl
def isT : PyData → Bool
  | .tuple _ => true
  | _ => false
def isI : PyData → Bool
  | .int _ => true
  | _ => false
theorem isi_tup {k : Nat} {d : PyData} (h : Sh k d) : isiD "tuple" d = some (.bool (isT d)) := by
  cases d <;> first | rfl | (obtain ⟨h1, _⟩ := h; simp [PyData.canLay0] at h1)
theorem isi_bool (b : Bool) : isiD "bool" (.bool b) = some (.bool true) := rfl
theorem rest_body {k : Nat} {d : PyData} (h : Sh k d) (p : Nat) : sAndV (s1 (isiD "int") (sVar 0)) (sAndV (sNotV (s1 (isiD "bool") (sVar 0))) (sChain leD ltD (sC (.int 0)) (sVar 0) (sVar 1))) [.dat d, .dat (eN p)] = some (.bool (isRest p d)) := by
  cases d with
  | int i =>
    refine (sAndV_ok (x := true) (y := decide (0 ≤ i) && decide (i < (p : Int))) rfl fun _ => ?_)
    refine (sAndV_ok (x := true) (y := decide (0 ≤ i) && decide (i < (p : Int))) rfl fun _ => ?_)
    exact sChain_ok rfl rfl rfl (le_i _ _) (lt_i _ _)
  | bool b => rfl
  | none => rfl
  | str x => rfl
  | list ds => rfl
  | tuple ds => rfl
  | dict kvs =>
    obtain ⟨h1, _⟩ := h
    simp [PyData.canLay0] at h1
theorem len_tup (ds : List PyData) : lenD [.tuple ds] = some (eN ds.length) := rfl
theorem tupOf {d : PyData} (h : isT d = true) : d = .tuple (tups d) := by
  cases d <;> first | rfl | cases h
theorem rowT {d : PyData} (h : rowOk d = true) : d = .tuple (tups d) ∧ 1 ≤ (tups d).length ∧ (tups d).length ≤ 3 := by
  cases d with
  | tuple ds =>
    simp only [rowOk, Bool.and_eq_true, decide_eq_true_eq] at h
    exact ⟨rfl, h⟩
  | _ => cases h
theorem rowOk_eq (d : PyData) : rowOk d = (isT d && (decide (1 ≤ (tups d).length) && decide ((tups d).length ≤ 3))) := by
  cases d <;> rfl
theorem chain13 {f : En → Option PyData} {env : En} {n : Nat} (h : f env = some (eN n)) : sChain leD leD (sC (.int 1)) f (sC (.int 3)) env = some (.bool (decide (1 ≤ n) && decide (n ≤ 3))) :=
  sChain_ok (cN 1) h (cN 3) (leN _ _) (leN _ _)
theorem chk_to {c : En → Option Bool} {f : En → Option PyData} {k : En → Option Ou} {env : En} {b : Bool} {d : PyData} {o : Option Ou} (hc : c env = some b) (hf : f env = some d) (ht : b = true → some (.rt d) = o) (hk : b = false → k env = o) : gSeq (gIf c (gRet f) gNext) k env = o := by
  cases b with
  | true => exact (seq_rt ((if_t hc).trans (ret_ok hf))).trans (ht rfl)
  | false => exact seq_to ((if_f hc).trans rfl) (hk rfl)
/-- a loop whose turns change nothing, or return -/
theorem forGo_chk {α : Type} {gt : PyData → En → Option En} {body : En → Option Ou} {ks : List Nat} {env : En} {h : α → PyData} {d : PyData} (ok : α → Bool) : ∀ xs : List α,
    (∀ x ∈ xs, turn gt body ks (h x) env = some (if ok x = true then .nx env else .rt d)) → forGo gt body ks (xs.map h) env = some (if xs.all ok = true then .nx env else .rt d)
  | [], _ => rfl
  | x :: xs, hs => by
    rw [List.map_cons, forGo_cons, hs x List.mem_cons_self, List.all_cons]
    cases hx : ok x with
    | true => exact forGo_chk ok xs fun y hy => hs y (List.mem_cons_of_mem _ hy)
    | false => rfl
theorem turn_ok {gt : PyData → En → Option En} {body : En → Option Ou} {ks : List Nat} {d : PyData} {env env1 env2 : En} {b : Bool} {r : PyData} (h1 : gt d env = some env1) (h2 : body env1 = some (if b = true then .nx env2 else .rt r)) (h3 : kl ks env2 = env) : turn gt body ks d env = some (if b = true then .nx env else .rt r) := by
  unfold turn
  rw [h1, Option.bind_some, h2, Option.bind_some]
  cases b with
  | true => exact congrArg some (congrArg Ou.nx h3)
  | false => rfl
theorem nt_to {i : Nat} {c : En → Option Bool} {f : En → Option PyData} {k : En → Option Ou} {env : En} {d r : PyData} {n : Nat} (h0 : env[i]? = some (.dat d)) (h : Sh n d) (ht : isT d = false) (hf : f env = some r) : gSeq (gIf (sOr (sNot (sB (s1 (isiD "tuple") (sVar i)))) c) (gRet f) gNext) k env = some (.rt r) := by
  have h1 : sOr (sNot (sB (s1 (isiD "tuple") (sVar i)))) c env = some true := by
    unfold sOr
    rw [not_ok (sB_ok (s1_to (var_ok h0) (isi_tup h))), ht]
    rfl
  exact seq_rt ((if_t h1).trans (ret_ok hf))
theorem tt_ok {i : Nat} {c : En → Option Bool} {env : En} {d : PyData} {b : Bool} (h0 : env[i]? = some (.dat d)) (ht : isT d = true) (hc : c env = some b) : sOr (sNot (sB (s1 (isiD "tuple") (sVar i)))) c env = some b := by
  unfold sOr
  have : isiD "tuple" d = some (.bool true) := by rw [tupOf ht]; rfl
  rw [not_ok (sB_ok (s1_to (var_ok h0) this))]
  exact hc
theorem nt_f {b : Bool} (h : (!b) = true) : b = false := by cases b <;> first | rfl | cases h
theorem nt_t {b : Bool} (h : (!b) = false) : b = true := by cases b <;> first | rfl | cases h
theorem two_ok {a : Nat} {xs : List PyData} {p : Nat} {c : En → Option Bool} {env : En} {i : Nat} (h0 : env[i]? = some (.dat (.tuple xs))) (hc : xs.length ≤ 7 → c env = some (!(xs.all (isRest p)))) : sOr (sNot (sB (s1 (isiD "tuple") (sVar i)))) (sOr (sB (s2 gtD (sAs lenD (sCons (sVar i) sNil)) (sC (.int 7)))) c) env = some (!(decide (xs.length ≤ 7) && xs.all (isRest p))) := by
  refine tt_ok h0 rfl ?_
  have h1 : sB (s2 gtD (sAs lenD (sCons (sVar i) sNil)) (sC (.int 7))) env = some (decide (7 < xs.length)) := sB_ok (s2_to (as_to (cons_ok (var_ok h0) rfl) (len_tup xs)) (cN 7) (gtN _ _))
  refine (or_ok (y := !(xs.all (isRest p))) h1 fun z => hc (by have := of_decide_eq_false z; omega)).trans ?_
  by_cases h7 : xs.length ≤ 7
  · rw [decide_eq_true h7, decide_eq_false (by omega)]
    rfl
  · rw [decide_eq_false h7, decide_eq_true (by omega)]
    rfl
theorem at_hd (d : PyData) (ds : List PyData) : ixD (.tuple (d :: ds)) (.int 0) = some d := by
  have := at_map (f := fun x : PyData => x) (xs := d :: ds) (j := 0) (x := d) rfl
  rw [List.map_id'] at this
  exact this
theorem gFor_of {fi : En → Option (List PyData)} {gt : PyData → En → Option En} {body : En → Option Ou} {ks : List Nat} {env env1 : En} {ds : List PyData} (hi : fi env = some ds) (h0 : kl ks env = env1) : gFor fi gt body ks env = forGo gt body ks ds env1 := by
  unfold gFor
  rw [hi, Option.bind_some, h0]
theorem e_is_rest {k : Nat} {d : PyData} (h : Sh k d) (p : Nat) : m_is_rest [d, eN p] = some (.bool (isRest p d)) := run_ok (ret_ok (rest_body h p))
theorem rest_list {k : Nat} {env : En} {ds : List PyData} {p : Nat} {fi : En → Option (List PyData)} {gt : PyData → En → Option En} {fe : En → Option PyData} {vs : List Nat} (hs : ∀ d ∈ ds, Sh k d) (hi : fi env = some ds) (hl : ds.length ≤ 16777216)
    (hb : ∀ x ∈ ds, ∃ e2, gt x (wipeE env vs) = some e2 ∧ fe e2 = m_is_rest [x, eN p]) : sAs allL (sLc fi gt sYes fe vs) env = some (.bool (ds.all (isRest p))) := by
  refine all_mem (sLc_mem (k := fun x => .bool (isRest p x)) hi hl fun x hx => ?_)
  obtain ⟨e2, h1, h2⟩ := hb x hx
  exact lcB_ok h1 rfl (h2.trans (e_is_rest (hs x hx) p))
theorem e_is_table {k : Nat} {d : PyData} (h : Sh k d) (p : Nat) : m_is_table [d, eN p] = some (.bool (isTab p d)) := by
  apply run_ok
  cases ht : isT d with
  | false =>
    refine (nt_to (i := 0) (d := d) rfl h ht rfl).trans ?_
    cases d <;> first | rfl | cases ht
  | true =>
    have hd := tupOf ht
    generalize tups d = ds at hd
    subst hd
    have hk := sh_tups h
    have h1 : isTab p (.tuple ds) = ((decide (1 ≤ ds.length) && decide (ds.length ≤ 3)) && (ds.all rowOk && (ds.all (fun r => decide ((tups r).length = (tups (ds.headD .none)).length)) && ds.all fun r => (tups r).all (isRest p)))) := rfl
    rw [h1]
    refine chk_to (tt_ok (i := 0) rfl rfl (not_ok (sB_ok (chain13 (as_to rfl (len_tup ds)))))) rfl (fun z => ?_) (fun z => ?_)
    · rw [nt_f z]
      rfl
    have hl := nt_t z
    rw [hl]
    have hl' : 1 ≤ ds.length ∧ ds.length ≤ 3 := by simpa using hl
    refine chk_to (not_ok (sB_ok (all_mem (g := rowOk) (sLc_mem (k := fun x => .bool (rowOk x)) rfl (by omega) fun x hx => lcB_ok rfl rfl ?_)))) rfl (fun z => ?_) (fun z => ?_)
    · rw [rowOk_eq]
      refine sAndV_ok ((s1_to rfl (isi_tup (hk x hx)))) fun hx => ?_
      refine chain13 (as_to rfl ?_)
      rw [tupOf hx]
      rfl
    · rw [nt_f z]
      rfl
    have hr := nt_t z
    rw [hr]
    have hr' := List.all_eq_true.mp hr
    obtain ⟨d0, rest, rfl⟩ : ∃ d0 rest, ds = d0 :: rest := by
      cases ds with
      | nil => exact absurd hl'.1 (by simp)
      | cons a b => exact ⟨a, b, rfl⟩
    refine chk_to (not_ok (sB_ok (all_mem (g := fun r => decide ((tups r).length = (tups d0).length)) (sLc_mem (k := fun r => .bool (decide ((tups r).length = (tups d0).length))) rfl (by omega) fun x hx => lcB_ok rfl rfl ?_)))) rfl (fun z => ?_) (fun z => ?_)
    · have e1 := (rowT (hr' x hx)).1
      have e2 := (rowT (hr' d0 List.mem_cons_self)).1
      refine s2_to (x := eN (tups x).length) (y := eN (tups d0).length) (as_to rfl ?_) (as_to (cons_ok (s2_to rfl rfl (z := d0) (at_hd d0 rest)) rfl) ?_) (eqN _ _)
      · rw [e1]; rfl
      · rw [e2]; rfl
    · rw [show ((d0 :: rest).all (fun r => decide ((tups r).length = (tups ((d0 :: rest).headD .none)).length))) = false from nt_f z]
      rfl
    have hw : ((d0 :: rest).all (fun r => decide ((tups r).length = (tups ((d0 :: rest).headD .none)).length))) = true := nt_t z
    rw [hw]
    refine ret_ok (all_mem (g := fun r => (tups r).all (isRest p)) (sLc_mem (k := fun r => .bool ((tups r).all (isRest p))) rfl (by omega) fun x hx => lcB_ok rfl rfl ?_))
    have e1 := rowT (hr' x hx)
    have hs : ∀ d ∈ tups x, Sh k d := sh_tups (by have := hk x hx; rw [e1.1] at this; exact this)
    have hq : asQ x = some (tups x) := by
      generalize tups x = xs at e1
      rw [e1.1]
      rfl
    exact rest_list hs (q_to rfl hq) (by omega) fun y hy => ⟨_, rfl, rfl⟩
theorem last_at {ds : List PyData} {d : PyData} (h : ds.getLast? = some d) : L2.atI ds (-1) = some d ∧ L2.atI ds ((ds.length : Int) - 1) = some d := by
  have h0 : ds ≠ [] := by rintro rfl; cases h
  have hl : 1 ≤ ds.length := List.length_pos_iff.mpr h0
  rw [List.getLast?_eq_getElem?] at h
  have e1 : L2.ixN ds.length (-1) = some (ds.length - 1) := by
    unfold L2.ixN
    split
    · omega
    · split
      · congr 1; omega
      · omega
  have e2 : L2.ixN ds.length ((ds.length : Int) - 1) = some (ds.length - 1) := by
    unfold L2.ixN
    split
    · split
      · congr 1; omega
      · omega
    · omega
  exact ⟨by unfold L2.atI; rw [e1]; exact h, by unfold L2.atI; rw [e2]; exact h⟩
theorem eq_unit {k : Nat} {ds : List PyData} (h : Sh k (.tuple ds)) (hk : k ≤ 64) : eqD (.tuple ds) (.tuple []) = some (.bool ds.isEmpty) := by
  rw [eqD_of (k := k) (j := 1) h (sh_tup (by simp)) hk (by decide)]
  cases ds <;> simp [PyData.eqv, PyData.eqvAll]
theorem pow_last {k p : Nat} {ds : List PyData} {env : En} {f f' : En → Option PyData} (h : Sh k (.tuple ds)) (hk : k ≤ 64) (h0 : f env = some (.tuple ds)) (hi : ∀ d, ds.getLast? = some d → f' env = some d) (hr : ds.all (isRest p) = true) :
    sOrV (s2 eqD f (sTup sNil)) (s2 neD f' (sC (.int 0))) env = some (.bool (ds.isEmpty || !last0 ds)) := by
  refine sOrV_ok (s2_to h0 rfl (eq_unit h hk)) fun z => ?_
  obtain ⟨d, hd⟩ : ∃ d, ds.getLast? = some d := by
    cases ds with
    | nil => cases z
    | cons a b => exact ⟨_, List.getLast?_eq_some_getLast (by simp)⟩
  refine s2_to (hi d hd) rfl ?_
  have hm : d ∈ ds := List.mem_of_getLast? hd
  have := List.all_eq_true.mp hr d hm
  cases d with
  | int i =>
    rw [ne_int]
    unfold last0
    rw [hd]
  | _ => cases this
theorem e_is_powers {k : Nat} {d : PyData} (h : Sh k d) (h64 : k ≤ 64) (p : Nat) : m_is_powers [d, eN p] = some (.bool (isPow p d)) := by
  apply run_ok
  cases ht : isT d with
  | false =>
    refine (nt_to (i := 0) (d := d) rfl h ht rfl).trans ?_
    cases d <;> first | rfl | cases ht
  | true =>
    have hd := tupOf ht
    generalize tups d = ds at hd
    subst hd
    have hk := sh_tups h
    have h1 : isPow p (.tuple ds) = ((decide (ds.length ≤ 7) && ds.all (isRest p)) && (ds.isEmpty || !last0 ds)) := rfl
    rw [h1]
    refine chk_to (two_ok (i := 0) (a := 0) (p := p) rfl fun h7 => not_ok (sB_ok (rest_list hk rfl (by omega) fun y hy => ⟨_, rfl, rfl⟩))) rfl (fun z => ?_) (fun z => ?_)
    · rw [nt_f z]
      rfl
    have hw := nt_t z
    rw [hw]
    exact ret_ok (pow_last h h64 rfl (fun d hd => s2_to rfl (z := d) rfl (last_at hd).1) (Bool.and_eq_true_iff.mp hw).2)
theorem e_law_rest {k : Nat} {d : PyData} (h : Sh k d) (p : Nat) : m_law_rest [d, eN p] = some (.bool (isRest p d)) := run_ok (ret_ok (rest_body h p))
theorem not_rests {k : Nat} {env : En} {ds : List PyData} {p : Nat} {fi : En → Option (List PyData)} {gt : PyData → En → Option En} {ft : En → Option Bool} {fe : En → Option PyData} {vs : List Nat} (hs : ∀ d ∈ ds, Sh k d) (hk : k < 64) (hi : fi env = some ds) (hl : ds.length ≤ 16777216)
    (hb : ∀ x ∈ ds, ∃ e2, gt x (wipeE env vs) = some e2 ∧ ft e2 = sNot (sB fun _ => m_law_rest [x, eN p]) e2 ∧ fe e2 = some x) : sB (s2 neD (sLst (sLc fi gt ft fe vs)) (sLst (sDis sNil))) env = some (!(ds.all (isRest p))) := by
  have h1 : sLc fi gt ft fe vs env = some (ds.filter fun x => !(isRest p x)) := by
    refine sLc_memf hi hl fun x hx => ?_
    obtain ⟨e2, h1, h2, h3⟩ := hb x hx
    refine lcB_if h1 (h2.trans (not_ok (sB_ok (e_law_rest (hs x hx) p)))) fun _ => h3
  refine sB_ok (s2_to (lst_ok h1) rfl ?_)
  rw [neD_of (sh_lst (k := k) fun d hd => hs d (List.mem_filter.mp hd).1) (sh_lst (k := 0) (by simp)) (by omega) (by decide)]
  have h2 : PySem.PyData.eqv (.list (ds.filter fun x => !(isRest p x))) (.list []) = (ds.filter fun x => !(isRest p x)).isEmpty := by
    cases (ds.filter fun x => !(isRest p x)) <;> simp [PySem.PyData.eqv, PySem.PyData.eqvAll]
  rw [h2]
  congr 3
  cases hf : ds.all (isRest p) with
  | true =>
    rw [List.isEmpty_iff, List.filter_eq_nil_iff]
    intro x hx
    rw [List.all_eq_true.mp hf x hx]
    simp
  | false =>
    rw [List.isEmpty_eq_false_iff]
    intro hn
    have hn := List.filter_eq_nil_iff.mp hn
    have : ds.all (isRest p) = true := List.all_eq_true.mpr fun x hx => by simpa using hn x hx
    rw [this] at hf
    cases hf
theorem e_law_is_table {k : Nat} {d : PyData} (h : Sh k d) (h64 : k < 64) (p : Nat) : m_law_is_table [d, eN p] = some (.bool (isTab p d)) := by
  apply run_ok
  cases ht : isT d with
  | false =>
    refine (nt_to (i := 0) (d := d) rfl h ht rfl).trans ?_
    cases d <;> first | rfl | cases ht
  | true =>
    have hd := tupOf ht
    generalize tups d = ds at hd
    subst hd
    have hk := sh_tups h
    have h1 : isTab p (.tuple ds) = ((decide (1 ≤ ds.length) && decide (ds.length ≤ 3)) && (ds.all rowOk && (ds.all (fun r => decide ((tups r).length = (tups (ds.headD .none)).length)) && ds.all fun r => (tups r).all (isRest p)))) := rfl
    rw [h1]
    refine chk_to (tt_ok (i := 0) rfl rfl (not_ok (sB_ok (chain13 (as_to rfl (len_tup ds)))))) rfl (fun z => ?_) (fun z => ?_)
    · rw [nt_f z]
      rfl
    have hl := nt_t z
    rw [hl]
    have hl' : 1 ≤ ds.length ∧ ds.length ≤ 3 := by simpa using hl
    obtain ⟨d0, rest, rfl⟩ : ∃ d0 rest, ds = d0 :: rest := by
      cases ds with
      | nil => exact absurd hl'.1 (by simp)
      | cons a b => exact ⟨a, b, rfl⟩
    -- a turn
    let ok : PyData → Bool := fun x => rowOk x && (decide ((tups x).length = (tups d0).length) && (tups x).all (isRest p))
    have hbad : ∀ x ∈ d0 :: rest, rowOk x = false → law_is_table_b2 [.dat (.tuple (d0 :: rest)), .dat (eN p), .dat x, .un] = some (.rt (.bool false)) := by
      intro x hx hr
      cases hxt : isT x with
      | false => exact nt_to (i := 2) rfl (hk x hx) hxt rfl
      | true =>
        have e := tupOf hxt
        generalize tups x = xs at e
        subst e
        refine chk_to (tt_ok (i := 2) rfl rfl (not_ok (sB_ok (chain13 (as_to rfl (len_tup xs)))))) rfl (fun _ => rfl) (fun z => ?_)
        have : (decide (1 ≤ xs.length) && decide (xs.length ≤ 3)) = false := hr
        rw [this] at z
        cases z
    cases h0 : rowOk d0 with
    | false =>
      have hf : (d0 :: rest).all rowOk = false := by rw [List.all_cons, h0]; rfl
      rw [hf]
      show gSeq _ _ [.dat (.tuple (d0 :: rest)), .dat (eN p), .un, .un] = _
      refine seq_rt ?_
      refine (gFor_of (ds := d0 :: rest) (env1 := [.dat (.tuple (d0 :: rest)), .dat (eN p), .un, .un]) rfl rfl).trans ?_
      rw [forGo_cons]
      have : turn (gN 2) law_is_table_b2 [2] d0 [.dat (.tuple (d0 :: rest)), .dat (eN p), .un, .un] = some (.rt (.bool false)) := by
        unfold turn
        show (law_is_table_b2 [.dat (.tuple (d0 :: rest)), .dat (eN p), .dat d0, .un]).bind _ = _
        rw [hbad d0 List.mem_cons_self h0]
        rfl
      show (turn (gN 2) law_is_table_b2 [2] d0 [.dat (.tuple (d0 :: rest)), .dat (eN p), .un, .un]).bind _ = _
      rw [this]
      rfl
    | true =>
      have e0 := (rowT h0).1
      have ht : ∀ x ∈ d0 :: rest, turn (gN 2) law_is_table_b2 [2] x [.dat (.tuple (d0 :: rest)), .dat (eN p), .un, .un] = some (if ok x = true then .nx [.dat (.tuple (d0 :: rest)), .dat (eN p), .un, .un] else .rt (.bool false)) := by
        intro x hx
        refine turn_ok (env1 := [.dat (.tuple (d0 :: rest)), .dat (eN p), .dat x, .un]) (env2 := [.dat (.tuple (d0 :: rest)), .dat (eN p), .dat x, .un]) rfl ?_ rfl
        cases hr : rowOk x with
        | false =>
          rw [hbad x hx hr]
          show _ = some (if (rowOk x && _) = true then _ else _)
          rw [hr]
          rfl
        | true =>
          have ex := rowT hr
          have hs : ∀ d ∈ tups x, Sh k d := sh_tups (by have := hk x hx; rw [ex.1] at this; exact this)
          have ho : ok x = (decide ((tups x).length = (tups d0).length) && (tups x).all (isRest p)) := by
            show (rowOk x && _) = _
            rw [hr]
            rfl
          rw [ho]
          have hxt : isT x = true := by rw [ex.1]; rfl
          have hq : asQ x = some (tups x) := by rw [ex.1]; rfl
          refine chk_to (tt_ok (i := 2) rfl hxt (not_ok (sB_ok (chain13 (n := (tups x).length) (as_to rfl (by rw [ex.1]; rfl)))))) rfl (fun z => ?_) (fun _ => ?_)
          · rw [decide_eq_true ex.2.1, decide_eq_true ex.2.2] at z
            cases z
          have hc : ∀ {α : Type} (b : Bool) (x y : α), (if (!b) = true then x else y) = if b = true then y else x := by intro α b x y; cases b <;> rfl
          have hif : sOr (sB (s2 neD (sAs lenD (sCons (sVar 2) sNil)) (sAs lenD (sCons (s2 ixD (sVar 0) (sC (.int 0))) sNil)))) (sB (s2 neD (sLst law_is_table_c1) (sLst (sDis sNil)))) [.dat (.tuple (d0 :: rest)), .dat (eN p), .dat x, .un] = some (!(decide ((tups x).length = (tups d0).length) && (tups x).all (isRest p))) := by
            rw [Bool.not_and]
            refine or_ok (sB_ok ((s2_ok (as_to rfl (z := eN (tups x).length) (by rw [ex.1]; rfl)) (as_to (cons_ok (s2_to rfl rfl (z := d0) (at_hd d0 rest)) rfl) (z := eN (tups d0).length) (by rw [e0]; rfl))).trans (neN _ _))) fun _ => ?_
            exact not_rests hs h64 (q_to rfl hq) (by omega) fun y hy => ⟨_, rfl, rfl, rfl⟩
          show gIf _ _ _ _ = _
          cases hb : (decide ((tups x).length = (tups d0).length) && (tups x).all (isRest p)) with
          | true => exact (if_f (hif.trans (by rw [hb]; rfl))).trans rfl
          | false => exact (if_t (hif.trans (by rw [hb]; rfl))).trans rfl
      have hgo := forGo_chk (h := fun x => x) ok (d0 :: rest) ht
      rw [List.map_id'] at hgo
      have hres : (d0 :: rest).all ok = ((d0 :: rest).all rowOk && ((d0 :: rest).all (fun r => decide ((tups r).length = (tups ((d0 :: rest).headD .none)).length)) && (d0 :: rest).all fun r => (tups r).all (isRest p))) := by
        show (d0 :: rest).all (fun x => rowOk x && (decide ((tups x).length = (tups d0).length) && (tups x).all (isRest p))) = _
        rw [List.headD_cons]
        generalize d0 :: rest = xs
        rw [Bool.eq_iff_iff]
        simp only [List.all_eq_true, Bool.and_eq_true]
        exact ⟨fun h => ⟨fun x hx => (h x hx).1, fun x hx => (h x hx).2.1, fun x hx => (h x hx).2.2⟩, fun h x hx => ⟨h.1 x hx, h.2.1 x hx, h.2.2 x hx⟩⟩
      rw [← hres]
      have hgf : gFor (sQ (sVar 0)) (gN 2) law_is_table_b2 [2] [.dat (.tuple (d0 :: rest)), .dat (eN p), .un, .un] = some (if (d0 :: rest).all ok = true then .nx [.dat (.tuple (d0 :: rest)), .dat (eN p), .un, .un] else .rt (.bool false)) := (gFor_of (ds := d0 :: rest) (env1 := [.dat (.tuple (d0 :: rest)), .dat (eN p), .un, .un]) rfl rfl).trans hgo
      cases ha : (d0 :: rest).all ok with
      | true =>
        rw [ha] at hgf
        exact seq_to hgf rfl
      | false =>
        rw [ha] at hgf
        exact seq_rt hgf
theorem e_law_is_powers {k : Nat} {d : PyData} (h : Sh k d) (h64 : k < 64) (p : Nat) : m_law_is_powers [d, eN p] = some (.bool (isPow p d)) := by
  apply run_ok
  cases ht : isT d with
  | false =>
    refine (nt_to (i := 0) (d := d) rfl h ht rfl).trans ?_
    cases d <;> first | rfl | cases ht
  | true =>
    have hd := tupOf ht
    generalize tups d = ds at hd
    subst hd
    have hk := sh_tups h
    have h1 : isPow p (.tuple ds) = ((decide (ds.length ≤ 7) && ds.all (isRest p)) && (ds.isEmpty || !last0 ds)) := rfl
    rw [h1]
    refine chk_to (two_ok (i := 0) (a := 0) (p := p) rfl fun h7 => not_rests hk h64 rfl (by omega) fun y hy => ⟨_, rfl, rfl, rfl⟩) rfl (fun z => ?_) (fun z => ?_)
    · rw [nt_f z]
      rfl
    have hw := nt_t z
    rw [hw]
    exact ret_ok (pow_last h (by omega) rfl (fun d hd => s2_to rfl (z := d) (s2_to (as_to rfl (len_tup ds)) rfl rfl) (last_at hd).2) (Bool.and_eq_true_iff.mp hw).2)
end Dz

namespace Dz
open PySem (PyData Str sizeLine)
theorem dis_ok {a : En → Option (List PyData)} {env : En} {ds : List PyData} (h : a env = some ds) (hl : ds.length ≤ sizeLine) : sDis a env = some ds := by
  unfold sDis
  rw [h]
  exact if_pos hl
theorem tup_ok {a : En → Option (List PyData)} {env : En} {ds : List PyData} (h : a env = some ds) (hl : ds.length ≤ sizeLine) : sTup a env = some (.tuple ds) := by
  unfold sTup
  rw [h]
  exact if_pos hl
theorem cut_mem {ds : List PyData} {lo hi : Option Int} {d : PyData} (h : d ∈ cutL ds lo hi) : d ∈ ds := List.mem_of_mem_drop (List.mem_of_mem_take h)
theorem cut_len (ds : List PyData) (lo hi : Option Int) : (cutL ds lo hi).length ≤ ds.length := by
  unfold cutL
  rw [List.length_take, List.length_drop]
  omega
theorem sl_ok {f : En → Option PyData} {l h : En → Option (Option Int)} {env : En} {ds : List PyData} {lo hi : Option Int} (hf : f env = some (.tuple ds)) (hl : l env = some lo) (hh : h env = some hi) : sSl f l h env = some (.tuple (cutL ds lo hi)) := by
  unfold sSl
  rw [hf, Option.bind_some, hl, Option.bind_some, hh, Option.bind_some]
  rfl
theorem so_ok {f : En → Option PyData} {env : En} {i : Int} (h : f env = some (.int i)) : sSo f env = some (some i) := by
  unfold sSo
  rw [h]
  rfl
theorem add_tt {xs ys : List PyData} (h : xs.length + ys.length ≤ 16777216) : addD (.tuple xs) (.tuple ys) = some (.tuple (xs ++ ys)) := if_pos h
inductive Nt : Nat → PyData → Prop
  | int {k : Nat} (i : Nat) (h : i ≤ 100) : Nt k (eN i)
  | tup {k : Nat} (ds : List PyData) (hl : ds.length ≤ 8) (h : ∀ d ∈ ds, Nt k d) : Nt (k + 1) (.tuple ds)
theorem Nt.sh {k : Nat} {d : PyData} (h : Nt k d) : Sh k d := by
  induction h with
  | int i _ => exact sh_mono (sh_int _) (by omega)
  | tup ds _ _ ih => exact sh_tup ih
theorem pick {ds : List PyData} {j k : Nat} (hj : j < ds.length) (h : ∀ d ∈ ds, Sh k d) : ∃ d, ixD (.list ds) (eN j) = some d ∧ Sh k d := by
  refine ⟨ds[j], ?_, h _ (List.getElem_mem hj)⟩
  have := at_map (f := fun x : PyData => x) (List.getElem?_eq_getElem hj)
  rw [List.map_id'] at this
  exact this
theorem div_mod {e : En → Option PyData} {env : En} {m a b : Nat} (h : e env = some (eN m)) (ha : 0 < a) (h2 : a < 1073741824) (hb : 0 < b) : s2 modD (s2 divD e (fun _ => some (eN a))) (fun _ => some (eN b)) env = some (eN (m / a % b)) :=
  s2_to (s2_to h rfl (divN _ _ ha h2)) rfl (modN _ _ hb)
theorem bind_some' {α β : Type} {a : α} {f : α → Option β} : (some a).bind f = f a := rfl
theorem spoilt_end (m deep k : Nat) (d : PyData) (hm : m ≤ 1000000000000) {e3 e4 : Sl} (hc : sAnd (sB (s1 (isiD "tuple") (sVar 0))) (sAnd (sB (s2 gtD (sAs lenD (sCons (sVar 0) sNil)) (sC (.int 0)))) (sB (s2 eqD (s2 modD (s2 divD (sVar 1) (sC (.int 6))) (sC (.int 2))) (sC (.int 0))))) [.dat d, .dat (eN m), .dat (eN deep), .un, .un, .un] = some false)
    (hi : sAnd (sB (s1 (isiD "int") (sVar 0))) (sB (s2 eqD (s2 modD (s2 divD (sVar 1) (sC (.int 6))) (sC (.int 2))) (sC (.int 0)))) [.dat d, .dat (eN m), .dat (eN deep), .un, .un, .un] = some false) (r : List PyData → Option PyData)
    (h1 : sAnd (sB (s2 gtD (sVar 2) (sC (.int 0)))) (sAnd (sB (s1 (isiD "tuple") (sVar 0))) (sAnd (sB (s2 gtD (sAs lenD (sCons (sVar 0) sNil)) (sC (.int 0)))) (sB (s2 gtD (s2 modD (sVar 1) (sC (.int 6))) (sC (.int 0)))))) [.dat d, .dat (eN m), .dat (eN deep), .un, .un, .un] = some false) : ∃ d', b_law_spoilt r [.dat d, .dat (eN m), .dat (eN deep), .un, .un, .un] = some (.rt d') ∧ Sh 2 d' := by
  let some' : List PyData := [.none, .bool true, .bool false, .int 0, .int 1, .int 2, .int 3, .int 4, .int 5, .int (-1), .str "", .str "1", .tuple [], .tuple [.int 0], .tuple [.int 1, .int 0], .list [], .tuple [.tuple [.int 1]], .tuple [.tuple [], .tuple []], .tuple [.int 1, .int 1, .int 1, .int 1, .int 1, .int 1, .int 1, .int 1]]
  have hs : ∀ x ∈ some', Sh 2 x := by
    have h : PyData.canLayAll0 some' = true ∧ PyData.depthAll some' ≤ 2 := by decide +kernel
    exact sh_kids h.1 h.2
  have hj : m / 6 % 19 < some'.length := Nat.mod_lt _ (by decide)
  obtain ⟨d', he, hd⟩ := pick hj hs
  refine ⟨d', ?_, hd⟩
  apply seq_to
  · exact (if_f h1).trans rfl
  show gSeq _ _ [.dat d, .dat (eN m), .dat (eN deep), .un, .un, .un] = _
  apply seq_to
  · exact (if_f hc).trans rfl
  apply seq_to
  · exact (if_f hi).trans rfl
  apply seq_to
  · refine set_ok (d := .list some') (lst_ok (dis_ok ?_ (by decide)))
    repeat (refine cons_ok ?_ ?_; · first | exact c_ok | rfl)
    rfl
  simp only [List.set_cons_succ, List.set_cons_zero, List.map_cons, List.map_nil, List.replicate, List.cons_append, List.nil_append]
  exact ret_ok (s2_to rfl (s2_to (s2_to rfl (cN 6) (divN _ _ (by decide) (by decide))) (cN 19) (modN _ _ (by decide))) he)
theorem nat_and (p q : Prop) [Decidable p] [Decidable q] : (decide p && decide q) = decide (p ∧ q) := by simp
theorem Sh.i (k : Nat) (i : Int) : Sh k (.int i) := sh_mono (sh_int i) (by omega)
theorem strOk_of (s : String) : PyData.strOk (Str.ofString s) = true := by
  unfold PyData.strOk
  rw [Str.ofString_eq_toList]
  rw [Array.all_eq_true]
  intro i hi
  rw [List.getElem_toArray, List.getElem_map]
  refine decide_eq_true ?_
  generalize s.toList[i]'_ = c
  have := c.valid
  show c.val.toNat < _
  rcases this with h | h
  · omega
  · omega
theorem sh_str (k : Nat) (s : String) : Sh k (.str (Str.ofString s)) := ⟨by simp only [PyData.canLay0]; exact strOk_of s, by simp [PyData.depth]⟩
theorem e_spoilt : ∀ (n k : Nat) (d : PyData) (m deep : Nat), Nt k d → k ≤ 20 → deep < n → deep ≤ 1000 → m ≤ 1000000000000 → ∃ d', m_law_spoilt n [d, eN m, eN deep] = some d' ∧ Sh (k + 3) d'
  | 0, _, _, _, _, _, _, h, _, _ => absurd h (by omega)
  | n + 1, k, d, m, deep, hd, hk, hn, h1, hm => by
    suffices h : ∃ d', b_law_spoilt (m_law_spoilt n) [.dat d, .dat (eN m), .dat (eN deep), .un, .un, .un] = some (.rt d') ∧ Sh (k + 3) d' by
      obtain ⟨d', h, hs⟩ := h
      exact ⟨d', run_ok h, hs⟩
    have h6 : ∀ {d : PyData} {e3 e4 e5 : Sl}, sB (s2 gtD (s2 modD (sVar 1) (sC (.int 6))) (sC (.int 0))) [.dat d, .dat (eN m), .dat (eN deep), e3, e4, e5] = some (decide (0 < m % 6)) := sB_ok (s2_to (s2_to rfl (cN 6) (modN _ _ (by decide))) (cN 0) (gtN _ _))
    have h62 : ∀ {d : PyData} {e3 e4 e5 : Sl}, sB (s2 eqD (s2 modD (s2 divD (sVar 1) (sC (.int 6))) (sC (.int 2))) (sC (.int 0))) [.dat d, .dat (eN m), .dat (eN deep), e3, e4, e5] = some (decide (m / 6 % 2 = 0)) := sB_ok (s2_to (s2_to (s2_to rfl (cN 6) (divN _ _ (by decide) (by decide))) (cN 2) (modN _ _ (by decide))) (cN 0) (eqN _ _))
    have h12 : ∀ {d : PyData} {e3 e4 e5 : Sl}, s2 modD (s2 divD (sVar 1) (sC (.int 12))) (sC (.int 6)) [.dat d, .dat (eN m), .dat (eN deep), e3, e4, e5] = some (eN (m / 12 % 6)) := s2_to (s2_to rfl (cN 12) (divN _ _ (by decide) (by decide))) (cN 6) (modN _ _ (by decide))
    have hdp : ∀ {d : PyData} {e3 e4 e5 : Sl}, sB (s2 gtD (sVar 2) (sC (.int 0))) [.dat d, .dat (eN m), .dat (eN deep), e3, e4, e5] = some (decide (0 < deep)) := sB_ok (s2_to rfl (cN 0) (gtN _ _))
    cases hd with
    | int i hi =>
      have c1 : sAnd (sB (s2 gtD (sVar 2) (sC (.int 0)))) (sAnd (sB (s1 (isiD "tuple") (sVar 0))) (sAnd (sB (s2 gtD (sAs lenD (sCons (sVar 0) sNil)) (sC (.int 0)))) (sB (s2 gtD (s2 modD (sVar 1) (sC (.int 6))) (sC (.int 0)))))) [.dat (eN i), .dat (eN m), .dat (eN deep), .un, .un, .un] = some false :=
        (and_ok (y := false) hdp fun _ => (and_ok (x := false) (y := false) rfl fun z => nomatch z).trans rfl).trans (by rw [Bool.and_false])
      have c2 : sAnd (sB (s1 (isiD "tuple") (sVar 0))) (sAnd (sB (s2 gtD (sAs lenD (sCons (sVar 0) sNil)) (sC (.int 0)))) (sB (s2 eqD (s2 modD (s2 divD (sVar 1) (sC (.int 6))) (sC (.int 2))) (sC (.int 0))))) [.dat (eN i), .dat (eN m), .dat (eN deep), .un, .un, .un] = some false :=
        (and_ok (x := false) (y := false) rfl fun z => nomatch z).trans rfl
      have c3 : sAnd (sB (s1 (isiD "int") (sVar 0))) (sB (s2 eqD (s2 modD (s2 divD (sVar 1) (sC (.int 6))) (sC (.int 2))) (sC (.int 0)))) [.dat (eN i), .dat (eN m), .dat (eN deep), .un, .un, .un] = some (decide (m / 6 % 2 = 0)) := (and_ok (x := true) rfl fun _ => h62).trans (by rw [Bool.true_and])
      by_cases h2 : m / 6 % 2 = 0
      · rw [decide_eq_true h2] at c3
        let some' : List PyData := [.str (Str.ofString (toString ((i % 100 : Nat) : Int))), .int (0 - (i : Int)), .int ((i : Int) + 1), .bool (decide (i = 1)), .int ((i : Int) + 2), .int 5]
        have hs : ∀ x ∈ some', Sh (k + 3) x := by
          intro x hx
          simp only [some', List.mem_cons, List.not_mem_nil, or_false] at hx
          rcases hx with rfl | rfl | rfl | rfl | rfl | rfl
          · exact sh_str _ _
          · exact Sh.i _ _
          · exact Sh.i _ _
          · exact sh_mono (sh_bool _) (by omega)
          · exact Sh.i _ _
          · exact Sh.i _ _
        obtain ⟨d', he, hd⟩ := pick (show m / 12 % 6 < some'.length from Nat.mod_lt _ (by decide)) hs
        refine ⟨d', ?_, hd⟩
        apply seq_to
        · exact (if_f c1).trans rfl
        show gSeq _ _ [.dat (eN i), .dat (eN m), .dat (eN deep), .un, .un, .un] = _
        apply seq_to
        · exact (if_f c2).trans rfl
        refine seq_rt ((if_t c3).trans (ret_ok (s2_to (x := .list some') (lst_ok (dis_ok ?_ (show 6 ≤ 16777216 by decide))) h12 he)))
        refine cons_ok (as_to (cons_ok (s2_to rfl (cN 100) (modN _ _ (by decide))) rfl) ?_) (cons_ok (s2_to rfl rfl rfl) (cons_ok (s2_to rfl rfl rfl) (cons_ok (s2_to rfl (cN 1) (eqN _ _)) (cons_ok (s2_to rfl rfl rfl) (cons_ok rfl rfl)))))
        have : (((i % 100 : Nat) : Int)).natAbs.log2 < 1920 := by
          rw [Int.natAbs_natCast]
          have : i % 100 < 2 ^ 7 := by omega
          by_cases h0 : i % 100 = 0
          · rw [h0]; decide
          · exact Nat.lt_trans ((Nat.log2_lt h0).mpr this) (by decide)
        exact if_pos this
      · rw [decide_eq_false h2] at c3
        obtain ⟨d', h, hs⟩ := spoilt_end m deep k (eN i) hm c2 c3 (m_law_spoilt n) c1 (e3 := .un) (e4 := .un)
        exact ⟨d', h, sh_mono hs (by omega)⟩
    | @tup k ds hl hds =>
      have hsh : ∀ x ∈ ds, Sh k x := fun x hx => (hds x hx).sh
      have l0 : ∀ {e3 e4 e5 : Sl}, sB (s2 gtD (sAs lenD (sCons (sVar 0) sNil)) (sC (.int 0))) [.dat (.tuple ds), .dat (eN m), .dat (eN deep), e3, e4, e5] = some (decide (0 < ds.length)) := sB_ok (s2_to (as_to rfl (len_tup ds)) (cN 0) (gtN _ _))
      have c1 : sAnd (sB (s2 gtD (sVar 2) (sC (.int 0)))) (sAnd (sB (s1 (isiD "tuple") (sVar 0))) (sAnd (sB (s2 gtD (sAs lenD (sCons (sVar 0) sNil)) (sC (.int 0)))) (sB (s2 gtD (s2 modD (sVar 1) (sC (.int 6))) (sC (.int 0)))))) [.dat (.tuple ds), .dat (eN m), .dat (eN deep), .un, .un, .un] = some (decide (0 < deep) && (decide (0 < ds.length) && decide (0 < m % 6))) :=
        and_ok hdp fun _ => (and_ok (x := true) rfl fun _ => and_ok l0 fun _ => h6).trans (by rw [Bool.true_and])
      have c2 : sAnd (sB (s1 (isiD "tuple") (sVar 0))) (sAnd (sB (s2 gtD (sAs lenD (sCons (sVar 0) sNil)) (sC (.int 0)))) (sB (s2 eqD (s2 modD (s2 divD (sVar 1) (sC (.int 6))) (sC (.int 2))) (sC (.int 0))))) [.dat (.tuple ds), .dat (eN m), .dat (eN deep), .un, .un, .un] = some (decide (0 < ds.length) && decide (m / 6 % 2 = 0)) :=
        (and_ok (x := true) rfl fun _ => and_ok l0 fun _ => h62).trans (by rw [Bool.true_and])
      have c3 : sAnd (sB (s1 (isiD "int") (sVar 0))) (sB (s2 eqD (s2 modD (s2 divD (sVar 1) (sC (.int 6))) (sC (.int 2))) (sC (.int 0)))) [.dat (.tuple ds), .dat (eN m), .dat (eN deep), .un, .un, .un] = some false := (and_ok (x := false) (y := false) rfl fun z => nomatch z).trans rfl
      cases b1 : (decide (0 < deep) && (decide (0 < ds.length) && decide (0 < m % 6))) with
      | true =>
        rw [b1] at c1
        simp only [Bool.and_eq_true, decide_eq_true_eq] at b1
        obtain ⟨b1, b2, b3⟩ := b1
        have hat : m / 6 % ds.length < ds.length := Nat.mod_lt _ b2
        have hx := hds _ (List.getElem_mem hat)
        have hdr := dr_lt m deep
        obtain ⟨d', he, hs⟩ := e_spoilt n k _ (dr m deep / 4) (deep - 1) hx (by omega) (by omega) (by omega) (by omega)
        refine ⟨.tuple ((cutL ds none (some ((m / 6 % ds.length : Nat) : Int)) ++ [d']) ++ cutL ds (some (((m / 6 % ds.length + 1 : Nat)) : Int)) none), ?_, sh_tup fun x hx => ?_⟩
        · refine seq_rt ((if_t c1).trans ?_)
          apply seq_to
          · exact set_ok (s2_to (s2_to rfl (cN 6) (divN _ _ (by decide) (by decide))) (as_to rfl (len_tup ds)) (modN _ _ b2))
          simp only [List.set_cons_succ, List.set_cons_zero, List.map_cons, List.map_nil, List.replicate, List.cons_append, List.nil_append]
          apply seq_to
          · refine set_ok (as_to (cons_ok (s2_to rfl rfl (z := ds[m / 6 % ds.length]) ?_) (cons_ok (s2_to (as_to rfl (e_drawn m deep hm h1)) (cN 4) (divN _ _ (by decide) (by decide))) (cons_ok (s2_to rfl (cN 1) (z := eN (deep - 1)) ?_) rfl))) he)
            · have := at_map (f := fun x : PyData => x) (List.getElem?_eq_getElem hat)
              rw [List.map_id'] at this
              exact this
            · show some (PyData.int ((deep : Int) - 1)) = _
              congr 2
              omega
          simp only [List.set_cons_succ, List.set_cons_zero, List.map_cons, List.map_nil, List.replicate, List.cons_append, List.nil_append]
          have l1 := cut_len ds none (some ((m / 6 % ds.length : Nat) : Int))
          have l2 := cut_len ds (some (((m / 6 % ds.length + 1 : Nat)) : Int)) none
          refine ret_ok (s2_to (s2_to (sl_ok rfl rfl rfl) (tup_ok rfl (show 1 ≤ 16777216 by decide)) (add_tt ?_)) (sl_ok rfl (so_ok (s2_to rfl (cN 1) (addN _ _))) rfl) (add_tt ?_))
          · exact Nat.le_trans (Nat.add_le_add (cut_len _ _ _) (Nat.le_refl 1)) (by omega)
          · rw [List.length_append]
            exact Nat.le_trans (Nat.add_le_add (Nat.add_le_add (cut_len _ _ _) (Nat.le_refl 1)) (cut_len _ _ _)) (by omega)
        · rw [List.mem_append, List.mem_append, List.mem_singleton] at hx
          rcases hx with (hx | rfl) | hx
          · exact sh_mono (hsh _ (cut_mem hx)) (by omega)
          · exact hs
          · exact sh_mono (hsh _ (cut_mem hx)) (by omega)
      | false =>
        rw [b1] at c1
        cases b2 : (decide (0 < ds.length) && decide (m / 6 % 2 = 0)) with
        | true =>
          rw [b2] at c2
          simp only [Bool.and_eq_true, decide_eq_true_eq] at b2
          let some' : List PyData := [.list ds, .tuple (cutL ds none (some (-1))), .tuple (ds ++ cutL ds (some (-1)) none), .tuple (cutL ds (some 1) none), .tuple (ds ++ [.int 0]), .tuple (List.replicate (Int.toNat 3) ds).flatten]
          have hs : ∀ x ∈ some', Sh (k + 1 + 3) x := by
            have hz : Sh (k + 3) (.int 0) := Sh.i _ _
            have hm : ∀ x ∈ ds, Sh (k + 3) x := fun x hx => sh_mono (hsh x hx) (by omega)
            intro x hx
            simp only [some', List.mem_cons, List.not_mem_nil, or_false] at hx
            rcases hx with rfl | rfl | rfl | rfl | rfl | rfl
            · exact sh_lst hm
            · exact sh_tup fun x hx => hm x (cut_mem hx)
            · exact sh_tup fun x hx => (List.mem_append.mp hx).elim (hm x) fun h => hm x (cut_mem h)
            · exact sh_tup fun x hx => hm x (cut_mem hx)
            · exact sh_tup fun x hx => (List.mem_append.mp hx).elim (hm x) fun h => by rw [List.mem_singleton.mp h]; exact hz
            · refine sh_tup fun x hx => ?_
              obtain ⟨l, h1, h2⟩ := List.mem_flatten.mp hx
              rw [(List.mem_replicate.mp h1).2] at h2
              exact hm x h2
          obtain ⟨d', he, hd⟩ := pick (show m / 12 % 6 < some'.length from Nat.mod_lt _ (by decide)) hs
          refine ⟨d', ?_, hd⟩
          apply seq_to
          · exact (if_f c1).trans rfl
          show gSeq _ _ [.dat (.tuple ds), .dat (eN m), .dat (eN deep), .un, .un, .un] = _
          refine seq_rt ((if_t c2).trans (ret_ok (s2_to (x := .list some') (lst_ok (dis_ok ?_ (show 6 ≤ 16777216 by decide))) h12 he)))
          have l1 := cut_len ds (some (-1)) none
          refine cons_ok (lst_ok (nw_to rfl rfl)) (cons_ok (sl_ok rfl rfl (so_ok (i := -1) rfl)) (cons_ok (s2_to rfl (sl_ok rfl (so_ok (i := -1) rfl) rfl) (add_tt (by omega))) (cons_ok (sl_ok rfl (so_ok (i := 1) rfl) rfl) (cons_ok (s2_to rfl (tup_ok rfl (by decide)) (add_tt ?_)) (cons_ok (s2_to rfl rfl ?_) rfl)))))
          · show _ + 1 ≤ _
            omega
          · exact if_pos ⟨b2.1, by decide, by decide, by omega⟩
        | false =>
          rw [b2] at c2
          obtain ⟨d', h, hs⟩ := spoilt_end m deep k (.tuple ds) hm c2 c3 (m_law_spoilt n) c1 (e3 := .un) (e4 := .un)
          exact ⟨d', h, sh_mono hs (by omega)⟩
theorem nt_R {p n : Nat} [Pr p] (hn : n ≤ 8) (v : Fin n → Fin p) : Nt 1 (eR v) := .tup _ (by rw [List.length_map, fr_len]; exact hn) fun d hd => by
  obtain ⟨i, _, rfl⟩ := List.mem_map.mp hd
  have := Pr.le (p := p)
  exact .int _ (by have := (v i).isLt; omega)
theorem nt_T {p r c : Nat} [Pr p] (hr : r ≤ 8) (hc : c ≤ 8) (A : Mt p r c) : Nt 2 (eT A) := .tup _ (by rw [List.length_map, fr_len]; exact hr) fun d hd => by
  obtain ⟨i, _, rfl⟩ := List.mem_map.mp hd
  exact nt_R hc _
end Dz

namespace Dz
open PySem (PyData Str sizeLine)
theorem sh6 {d : PyData} {k : Nat} (h : Sh k d) (hk : k ≤ 6) : Sh 6 d := sh_mono h hk
theorem law_true : ∀ ns : List Int, ns.length ≤ 63 → m_law [scrD ns] = some (.bool true) := by
  intro ns _
  have hm := mx_lt ns
  generalize hn : mx ns 0 = n
  have ln := hm 0
  rw [hn] at ln
  have lp := Pr.le (p := byN (n / 3))
  generalize hp : byN (n / 3) = p at lp
  have ip : Pr p := by rw [← hp]; infer_instance
  have l2 := hm 2
  generalize hd : mx ns 2 = d at l2
  -- the end: what is asked of two things
  have tail : ∀ (t w : PyData), Sh 6 t → Sh 6 w → gSeq (gFor (sQ (sTup (sCons (sVar 3) (sCons (sVar 5) sNil)))) (gN 6) law_b2 [6, 7]) (gRet (sC (.bool true))) [.dat (scrD ns), .dat (eN n), .dat (eN p), .dat t, .dat (eN d), .dat w, .un, .un, .un] = some (.rt (.bool true)) := by
    intro t w ht hw
    have turn1 : ∀ x : PyData, Sh 6 x → turn (gN 6) law_b2 [6, 7] x [.dat (scrD ns), .dat (eN n), .dat (eN p), .dat t, .dat (eN d), .dat w, .un, .un, .un] = some (.nx [.dat (scrD ns), .dat (eN n), .dat (eN p), .dat t, .dat (eN d), .dat w, .un, .un, .un]) := by
      intro x hx
      refine turn_to (env1 := [.dat (scrD ns), .dat (eN n), .dat (eN p), .dat t, .dat (eN d), .dat w, .dat x, .un, .un]) (env2 := [.dat (scrD ns), .dat (eN n), .dat (eN p), .dat t, .dat (eN d), .dat w, .dat x, .dat (.bool (isPow p x)), .un]) rfl ?_ rfl
      have hb : ∀ b : Bool, neD (.bool b) (.bool b) = some (.bool false) := by intro b; cases b <;> rfl
      apply seq_to
      · exact set_ok (as_to rfl (e_is_table hx p))
      simp only [List.set_cons_succ, List.set_cons_zero, List.map_cons, List.map_nil, List.replicate, List.cons_append, List.nil_append]
      apply seq_to
      · exact (if_f (or_ok (x := false) (y := false) (not_ok (x := true) (sB_ok (s1_to rfl (isi_bool _)))) fun _ => sB_ok (s2_to rfl (as_to rfl (e_law_is_table hx (by decide) p)) (hb _)))).trans rfl
      apply seq_to
      · exact set_ok (as_to rfl (e_is_powers hx (by decide) p))
      simp only [List.set_cons_succ, List.set_cons_zero, List.map_cons, List.map_nil, List.replicate, List.cons_append, List.nil_append]
      exact (if_f (or_ok (x := false) (y := false) (not_ok (x := true) (sB_ok (s1_to rfl (isi_bool _)))) fun _ => sB_ok (s2_to rfl (as_to rfl (e_law_is_powers hx (by decide) p)) (hb _)))).trans rfl
    apply seq_to (env1 := [.dat (scrD ns), .dat (eN n), .dat (eN p), .dat t, .dat (eN d), .dat w, .un, .un, .un])
    · refine (gFor_of (ds := [t, w]) (env1 := [.dat (scrD ns), .dat (eN n), .dat (eN p), .dat t, .dat (eN d), .dat w, .un, .un, .un]) (q_to (tup_ok (ds := [t, w]) rfl (show 2 ≤ 16777216 by decide)) rfl) rfl).trans ?_
      refine (forGo_cons.trans (bd_ok (turn1 t ht))).trans ?_
      exact (forGo_cons.trans (bd_ok (turn1 w hw))).trans rfl
    · rfl
  apply run_ok
  apply seq_to
  · exact set_ok (as_to (cons_ok rfl (cons_ok (cN 0) rfl)) ((e_mixed ns 0 (by decide)).trans (by rw [hn])))
  simp only [List.set_cons_succ, List.set_cons_zero, List.map_cons, List.map_nil, List.replicate, List.cons_append, List.nil_append]
  apply seq_to
  · exact set_ok (as_to (cons_ok (s2_to rfl (cN 3) (divN _ _ (by decide) (by decide))) rfl) ((e_by (n / 3)).trans (by rw [hp])))
  simp only [List.set_cons_succ, List.set_cons_zero, List.map_cons, List.map_nil, List.replicate, List.cons_append, List.nil_append]
  apply seq_to
  · exact set_ok (as_to (cons_ok (as_to (cons_ok rfl (cons_ok (cN 1) rfl)) (e_mixed ns 1 (by decide))) (cons_ok rfl (cons_ok (s2_to (cN 1) (s2_to (s2_to rfl (cN 16) (divN _ _ (by decide) (by decide))) (cN 3) (modN _ _ (by decide))) (addN _ _)) (cons_ok (s2_to (cN 1) (s2_to (s2_to rfl (cN 64) (divN _ _ (by decide) (by decide))) (cN 3) (modN _ _ (by decide))) (addN _ _)) rfl)))) (e_table (p := p) (mx ns 1) (1 + n / 16 % 3) (1 + n / 64 % 3) (by have := hm 1; omega) (by omega) (by omega)))
  simp only [List.set_cons_succ, List.set_cons_zero, List.map_cons, List.map_nil, List.replicate, List.cons_append, List.nil_append]
  generalize hT : tab p (mx ns 1) (1 + n / 16 % 3) (1 + n / 64 % 3) = T
  have nT : Nt 2 (eT T) := nt_T (by omega) (by omega) T
  generalize eT T = t at nT
  apply seq_to
  · exact set_ok (as_to (cons_ok rfl (cons_ok (cN 2) rfl)) ((e_mixed ns 2 (by decide)).trans (by rw [hd])))
  simp only [List.set_cons_succ, List.set_cons_zero, List.map_cons, List.map_nil, List.replicate, List.cons_append, List.nil_append]
  let f : Fin (d % 7) → Nat := fun k => dr d k.val / 4 % p
  apply seq_to
  · refine set_ok (d := .tuple ((fr (d % 7)).map fun k => eN (f k))) (as_to ?_ rfl)
    refine sLc_map (h := fun k : Fin (d % 7) => .int (k.val : Int)) (ar_to (cons_ok (s2_to rfl (cN 7) (modN d 7 (by decide))) rfl) (rg1_ok (n := d % 7) (by omega))) (by rw [fr_len]; omega) fun k _ => ?_
    have := k.isLt
    exact lcB_ok rfl rfl (s2_to (s2_to (as_to rfl (e_drawn d k.val (by omega) (by omega))) (cN 4) (divN _ _ (by decide) (by decide))) rfl (modN _ _ (by omega)))
  simp only [List.set_cons_succ, List.set_cons_zero, List.map_cons, List.map_nil, List.replicate, List.cons_append, List.nil_append]
  apply seq_to
  · refine set_ok (d := .tuple (((fr (d % 7)).map fun k => eN (f k)) ++ [eN (1 + d / 8 % (p - 1))])) (s2_to rfl (tup_ok (cons_ok (s2_to (cN 1) (s2_to (s2_to rfl (cN 8) (divN _ _ (by decide) (by decide))) (s2_to rfl (cN 1) (z := eN (p - 1)) ?_) (modN _ _ (by omega))) (addN _ _)) rfl) (show 1 ≤ 16777216 by decide)) (add_tt ?_))
    · show some (PyData.int ((p : Int) - 1)) = _
      congr 2
      omega
    · rw [List.length_map, fr_len]
      show _ + 1 ≤ _
      omega
  simp only [List.set_cons_succ, List.set_cons_zero, List.map_cons, List.map_nil, List.replicate, List.cons_append, List.nil_append]
  have nw : Nt 1 (.tuple (((fr (d % 7)).map fun k => eN (f k)) ++ [eN (1 + d / 8 % (p - 1))])) := by
    refine .tup _ ?_ fun x hx => ?_
    · rw [List.length_append, List.length_map, fr_len]
      show _ + 1 ≤ _
      omega
    · rcases List.mem_append.mp hx with hx | hx
      · obtain ⟨k, _, rfl⟩ := List.mem_map.mp hx
        have : f k < p := Nat.mod_lt _ (by omega)
        exact .int _ (by omega)
      · rw [List.mem_singleton.mp hx]
        have : d / 8 % (p - 1) < p - 1 := Nat.mod_lt _ (by omega)
        exact .int _ (by omega)
  generalize PySem.PyData.tuple (((fr (d % 7)).map fun k => eN (f k)) ++ [eN (1 + d / 8 % (p - 1))]) = w at nw
  obtain ⟨w', nw', hw'⟩ : ∃ w', Nt 1 w' ∧ gIf (sB (s2 eqD (s2 modD (s2 divD (sVar 1) (sC (.int 256))) (sC (.int 5))) (sC (.int 0)))) (gSet 5 (sTup sNil)) gNext [.dat (scrD ns), .dat (eN n), .dat (eN p), .dat t, .dat (eN d), .dat w, .un, .un, .un] = some (.nx [.dat (scrD ns), .dat (eN n), .dat (eN p), .dat t, .dat (eN d), .dat w', .un, .un, .un]) := by
    have hc : sB (s2 eqD (s2 modD (s2 divD (sVar 1) (sC (.int 256))) (sC (.int 5))) (sC (.int 0))) [.dat (scrD ns), .dat (eN n), .dat (eN p), .dat t, .dat (eN d), .dat w, .un, .un, .un] = some (decide (n / 256 % 5 = 0)) := sB_ok (s2_to (s2_to (s2_to rfl (cN 256) (divN _ _ (by decide) (by decide))) (cN 5) (modN _ _ (by decide))) (cN 0) (eqN _ _))
    cases hb : decide (n / 256 % 5 = 0) with
    | true => exact ⟨.tuple [], .tup _ (by simp) (by simp), (if_t (hc.trans (by rw [hb]))).trans (set_ok rfl)⟩
    | false => exact ⟨w, nw, (if_f (hc.trans (by rw [hb]))).trans rfl⟩
  apply seq_to hw'
  have hc : sB (s2 gtD (s2 modD (sVar 1) (sC (.int 3))) (sC (.int 0))) [.dat (scrD ns), .dat (eN n), .dat (eN p), .dat t, .dat (eN d), .dat w', .un, .un, .un] = some (decide (0 < n % 3)) := sB_ok (s2_to (s2_to rfl (cN 3) (modN _ _ (by decide))) (cN 0) (gtN _ _))
  cases hb : decide (0 < n % 3) with
  | false =>
    apply seq_to
    · exact (if_f (hc.trans (by rw [hb]))).trans rfl
    exact tail t w' (sh6 nT.sh (by decide)) (sh6 nw'.sh (by decide))
  | true =>
    have l3 := hm 3
    have l4 := hm 4
    obtain ⟨t2, e1, s1⟩ := e_spoilt 6 2 t (mx ns 3) (n / 1024 % 3) nT (by omega) (by omega) (by omega) (by omega)
    obtain ⟨w2, e2, s2⟩ := e_spoilt 6 1 w' (mx ns 4) (n / 4096 % 2) nw' (by omega) (by omega) (by omega) (by omega)
    apply seq_to
    · refine (if_t (hc.trans (by rw [hb]))).trans ?_
      apply seq_to
      · exact set_ok (as_to (cons_ok rfl (cons_ok (as_to (cons_ok rfl (cons_ok (cN 3) rfl)) (e_mixed ns 3 (by decide))) (cons_ok (s2_to (s2_to rfl (cN 1024) (divN _ _ (by decide) (by decide))) (cN 3) (modN _ _ (by decide))) rfl))) e1)
      simp only [List.set_cons_succ, List.set_cons_zero, List.map_cons, List.map_nil, List.replicate, List.cons_append, List.nil_append]
      exact set_ok (as_to (cons_ok rfl (cons_ok (as_to (cons_ok rfl (cons_ok (cN 4) rfl)) (e_mixed ns 4 (by decide))) (cons_ok (s2_to (s2_to rfl (cN 4096) (divN _ _ (by decide) (by decide))) (cN 2) (modN _ _ (by decide))) rfl))) e2)
    simp only [List.set_cons_succ, List.set_cons_zero, List.map_cons, List.map_nil, List.replicate, List.cons_append, List.nil_append]
    exact tail t2 w2 (sh6 s1 (by decide)) (sh6 s2 (by decide))
end Dz

/-! the walks, printed by gen.py -/
namespace Dz
open PySem PySem.Spec PyProof.Rows L2 Evl RZ
def topS (i : Nat) : Stmt := PySem.Challenge.pw_carrytables_k01_things.main.body.getD i (.Pass ⟨0, 0, 0, 0⟩)
section
variable {P : Program} {w : World} {K : PySem.W.Frag} {mg : Str → Option Value} {base : Heap}
theorem sc_is_rest : FnScope ["thing", "by"] ["thing", "by"] (C8.fnScope (topS 3)) := C8.fnScope_by (by decide +kernel)
theorem w_is_rest {f : Addr} {fd : FuncData} (F : C8.Def K mg "is_rest" (topS 3) f fd) (b : Binds K fd ["thing", "by"] []) (Z : Bl mg) : FnOk P w K mg base C8.CX0 1 f fd ["thing", "by"] (spD 2 m_is_rest K) := by
  refine fn_d (g := b_is_rest) (n := 0) F.fn sc_is_rest rfl (fun cdv A outer s H E hr => by
    have nd := sc_is_rest.nd
    exact (dss_one (ds_ret (ed_and (ed_isi kit_int (fun h => pe_callB call_isi (by rfl) Z.isinstance (by decide +kernel) h) (ed_var (pv 0)) (pe_bltn (v := .ty "int") (by rfl) Z.int (by decide +kernel) rfl)) (ed_and (ed_not (ed_isi kit_bool (fun h => pe_callB call_isi (by rfl) Z.isinstance (by decide +kernel) h) (ed_var (pv 0)) (pe_bltn (v := .ty "bool") (by rfl) Z.bool (by decide +kernel) rfl))) (ed_one (ed_chain op_le op_lt d_cmp d_cmp ed_int (ed_var (pv 0)) (ed_var (pv 1)))))))))
theorem sc_is_table : FnScope ["thing", "by", "row", "part"] ["thing", "by"] (C8.fnScope (topS 4)) := C8.fnScope_by (by decide +kernel)
theorem w_is_table {f : Addr} {fd : FuncData} (F : C8.Def K mg "is_table" (topS 4) f fd) (b : Binds K fd ["thing", "by"] []) (Z : Bl mg) {tk_MOST_SIZE : Tok} (c_MOST_SIZE : mg "MOST_SIZE" = some (.int 3 tk_MOST_SIZE)) (c_is_rest : C8.Cal P w K mg base 1 "is_rest" (spD 2 m_is_rest K) []) : FnOk P w K mg base C8.CX0 2 f fd ["thing", "by"] (spD 2 m_is_table K) := by
  refine fn_d (g := b_is_table) (n := 2) F.fn sc_is_table rfl (fun cdv A outer s H E hr => by
    have nd := sc_is_table.nd
    exact (dss_cons (ds_if ((dw_or (dt_not (dt_e (ed_isi kit_tuple (fun h => pe_callB call_isi (by rfl) Z.isinstance (by decide +kernel) h) (ed_var (pv 0)) (pe_bltn (v := .ty "tuple") (by rfl) Z.tuple (by decide +kernel) rfl)))) (dw_or1 (dt_not (dt_chain op_le op_le d_cmp d_cmp ed_int (ed_cb (fun h => pe_callB call_len (by rfl) Z.len PySem.boot_len h) d_len (da_cons (ed_var (pv 0)) da_nil)) (ed_gi (by rfl) c_MOST_SIZE)))))).dt (dss_one (ds_ret ed_bl)) dss_nil) (dss_cons (ds_if (dt_not (dt_e (ed_cbL (fun h => pe_callB (cr_all rfl) (by rfl) Z.all (by decide +kernel) h) d_allL ((en_lc (own := [("row", 2)]) rfl nd (di_seq (ed_var (pv 0))).c (blkOk_by (by kernel_rfl)) (fun _ _ _ _ _ => (dg_name (pg_name nd (by rfl) (by first | exact Or.inl rfl | exact Or.inr rfl)))) (fun _ _ _ _ _ => dts_nil) (fun _ _ _ _ _ => (ed_and (ed_isi kit_tuple (fun h => pe_callB call_isi (by rfl) Z.isinstance (by decide +kernel) h) (ed_var (pv 2)) (pe_bltn (v := .ty "tuple") (by rfl) Z.tuple (by decide +kernel) rfl)) (ed_one (ed_chain op_le op_le d_cmp d_cmp ed_int (ed_cb (fun h => pe_callB call_len (by rfl) Z.len PySem.boot_len h) d_len (da_cons (ed_var (pv 2)) da_nil)) (ed_gi (by rfl) c_MOST_SIZE))))) (by decide))).el))) (dss_one (ds_ret ed_bl)) dss_nil) (dss_cons (ds_if (dt_not (dt_e (ed_cbL (fun h => pe_callB (cr_all rfl) (by rfl) Z.all (by decide +kernel) h) d_allL ((en_lc (own := [("row", 2)]) rfl nd (di_seq (ed_var (pv 0))).c (blkOk_by (by kernel_rfl)) (fun _ _ _ _ _ => (dg_name (pg_name nd (by rfl) (by first | exact Or.inl rfl | exact Or.inr rfl)))) (fun _ _ _ _ _ => dts_nil) (fun _ _ _ _ _ => (ed_cmp (op_eqD (room64 hr)) d_eq (ed_cb (fun h => pe_callB call_len (by rfl) Z.len PySem.boot_len h) d_len (da_cons (ed_var (pv 2)) da_nil)) (ed_cb (fun h => pe_callB call_len (by rfl) Z.len PySem.boot_len h) d_len (da_cons (ed_ix (ed_var (pv 0)) ed_int (fun _ _ => rfl)) da_nil)) (nomark _))) (by decide))).el))) (dss_one (ds_ret ed_bl)) dss_nil) (dss_one (ds_ret (ed_cbL (fun h => pe_callB (cr_all rfl) (by rfl) Z.all (by decide +kernel) h) d_allL ((en_lc (own := [("row", 2)]) rfl nd (di_seq (ed_var (pv 0))).c (blkOk_by (by kernel_rfl)) (fun _ _ _ _ _ => (dg_name (pg_name nd (by rfl) (by first | exact Or.inl rfl | exact Or.inr rfl)))) (fun _ _ _ _ _ => dts_nil) (fun _ _ _ _ _ => (ed_cbL (fun h => pe_callB (cr_all rfl) (by rfl) Z.all (by decide +kernel) h) d_allL ((en_lc (own := [("part", 3)]) rfl nd (di_seq (ed_var (pv 2))).c (blkOk_by (by kernel_rfl)) (fun _ _ _ _ _ => (dg_name (pg_name nd (by rfl) (by first | exact Or.inl rfl | exact Or.inr rfl)))) (fun _ _ _ _ _ => dts_nil) (fun _ _ _ _ _ => (ed_call c_is_rest hr (by decide) (by rfl) (da_cons (ed_var (pv 3)) (da_cons (ed_var (pv 1)) da_nil)) (sl_cons (sl_cons sl_nil)))) (by decide))).el)) (by decide))).el)))))))
theorem sc_is_powers : FnScope ["thing", "by", "part"] ["thing", "by"] (C8.fnScope (topS 5)) := C8.fnScope_by (by decide +kernel)
theorem w_is_powers {f : Addr} {fd : FuncData} (F : C8.Def K mg "is_powers" (topS 5) f fd) (b : Binds K fd ["thing", "by"] []) (Z : Bl mg) {tk_MOST_POWERS : Tok} (c_MOST_POWERS : mg "MOST_POWERS" = some (.int 7 tk_MOST_POWERS)) (c_is_rest : C8.Cal P w K mg base 1 "is_rest" (spD 2 m_is_rest K) []) : FnOk P w K mg base C8.CX0 2 f fd ["thing", "by"] (spD 2 m_is_powers K) := by
  refine fn_d (g := b_is_powers) (n := 1) F.fn sc_is_powers rfl (fun cdv A outer s H E hr => by
    have nd := sc_is_powers.nd
    exact (dss_cons (ds_if ((dw_or (dt_not (dt_e (ed_isi kit_tuple (fun h => pe_callB call_isi (by rfl) Z.isinstance (by decide +kernel) h) (ed_var (pv 0)) (pe_bltn (v := .ty "tuple") (by rfl) Z.tuple (by decide +kernel) rfl)))) (dw_or (dt_cmp op_gt d_cmp (ed_cb (fun h => pe_callB call_len (by rfl) Z.len PySem.boot_len h) d_len (da_cons (ed_var (pv 0)) da_nil)) (ed_gi (by rfl) c_MOST_POWERS) (nomark _)) (dw_or1 (dt_not (dt_e (ed_cbL (fun h => pe_callB (cr_all rfl) (by rfl) Z.all (by decide +kernel) h) d_allL ((en_lc (own := [("part", 2)]) rfl nd (di_seq (ed_var (pv 0))).c (blkOk_by (by kernel_rfl)) (fun _ _ _ _ _ => (dg_name (pg_name nd (by rfl) (by first | exact Or.inl rfl | exact Or.inr rfl)))) (fun _ _ _ _ _ => dts_nil) (fun _ _ _ _ _ => (ed_call c_is_rest hr (by decide) (by rfl) (da_cons (ed_var (pv 2)) (da_cons (ed_var (pv 1)) da_nil)) (sl_cons (sl_cons sl_nil)))) (by decide))).el))))))).dt (dss_one (ds_ret ed_bl)) dss_nil) (dss_one (ds_ret (ed_or (ed_cmp (op_eqD (room64 hr)) d_eq (ed_var (pv 0)) (ed_tup da_nil) (nomark _)) (ed_one (ed_cmp (op_neD (room64 hr)) d_ne (ed_ix (ed_var (pv 0)) (ed_neg ed_int) (fun _ _ => rfl)) ed_int (nomark _))))))))
theorem sc_law_cell_at : FnScope ["_law_script", "_law_k"] ["_law_script", "_law_k"] (C8.fnScope (topS 7)) := C8.fnScope_by (by decide +kernel)
theorem w_law_cell_at {f : Addr} {fd : FuncData} (F : C8.Def K mg "_law_cell_at" (topS 7) f fd) (b : Binds K fd ["_law_script", "_law_k"] []) (Z : Bl mg) : FnOk P w K mg base C8.CX0 1 f fd ["_law_script", "_law_k"] (spD 2 m_law_cell_at K) := by
  refine fn_d (g := b_law_cell_at) (n := 0) F.fn sc_law_cell_at rfl (fun cdv A outer s H E hr => by
    have nd := sc_law_cell_at.nd
    exact (dss_cons (ds_if (dt_cmp op_lt d_cmp (ed_var (pv 1)) (ed_cb (fun h => pe_callB call_len (by rfl) Z.len PySem.boot_len h) d_len (da_cons (ed_var (pv 0)) da_nil)) (nomark _)) (dss_one (ds_ret (ed_ix (ed_var (pv 0)) (ed_var (pv 1)) (fun _ _ => rfl)))) dss_nil) (dss_one (ds_ret ed_int))))
theorem sc_law_mixed : FnScope ["_law_script", "_law_k", "_law_drawn_here"] ["_law_script", "_law_k"] (C8.fnScope (topS 8)) := C8.fnScope_by (by decide +kernel)
theorem w_law_mixed {f : Addr} {fd : FuncData} (F : C8.Def K mg "_law_mixed" (topS 8) f fd) (b : Binds K fd ["_law_script", "_law_k"] []) (Z : Bl mg) (c__law_cell_at : C8.Cal P w K mg base 1 "_law_cell_at" (spD 2 m_law_cell_at K) []) : FnOk P w K mg base C8.CX0 2 f fd ["_law_script", "_law_k"] (spD 2 m_law_mixed K) := by
  refine fn_d (g := b_law_mixed) (n := 1) F.fn sc_law_mixed rfl (fun cdv A outer s H E hr => by
    have nd := sc_law_mixed.nd
    exact (dss_cons (ds_set (ed_op op_mod d_mod (ed_op op_mulA d_mul (ed_op op_addA d_add (ed_op op_addA d_add (ed_call c__law_cell_at hr (by decide) (by rfl) (da_cons (ed_var (pv 0)) (da_cons (ed_var (pv 1)) da_nil)) (sl_cons (sl_cons sl_nil))) (ed_op op_mulA d_mul ed_int (ed_var (pv 1)))) ed_int) ed_int) ed_int) (fun h => ps_set (i := 2) nd (by rfl) (by first | exact Or.inl rfl | exact Or.inr rfl) h)) (dss_one (ds_ret (ed_op op_mod d_mod (ed_op op_addA d_add (ed_op op_addA d_add (ed_op op_mulA d_mul (ed_var (pv 2)) (ed_var (pv 2))) (ed_op op_mulA d_mul ed_int (ed_var (pv 2)))) (ed_var (pv 1))) ed_int)))))
theorem sc_law_drawn : FnScope ["_law_number", "_law_k", "_law_drawn_here"] ["_law_number", "_law_k"] (C8.fnScope (topS 9)) := C8.fnScope_by (by decide +kernel)
theorem w_law_drawn {f : Addr} {fd : FuncData} (F : C8.Def K mg "_law_drawn" (topS 9) f fd) (b : Binds K fd ["_law_number", "_law_k"] []) (Z : Bl mg) : FnOk P w K mg base C8.CX0 1 f fd ["_law_number", "_law_k"] (spD 2 m_law_drawn K) := by
  refine fn_d (g := b_law_drawn) (n := 1) F.fn sc_law_drawn rfl (fun cdv A outer s H E hr => by
    have nd := sc_law_drawn.nd
    exact (dss_cons (ds_set (ed_op op_mod d_mod (ed_op op_mulA d_mul (ed_op op_addA d_add (ed_op op_addA d_add (ed_var (pv 0)) (ed_op op_mulA d_mul ed_int (ed_var (pv 1)))) ed_int) ed_int) ed_int) (fun h => ps_set (i := 2) nd (by rfl) (by first | exact Or.inl rfl | exact Or.inr rfl) h)) (dss_one (ds_ret (ed_op op_mod d_mod (ed_op op_addA d_add (ed_op op_addA d_add (ed_op op_mulA d_mul (ed_var (pv 2)) (ed_var (pv 2))) (ed_op op_mulA d_mul ed_int (ed_var (pv 2)))) (ed_var (pv 1))) ed_int)))))
theorem sc_law_table : FnScope ["_law_number", "_law_by_here", "_law_rows", "_law_columns", "_law_kind", "_law_found", "_law_row", "_law_line", "_law_at", "_law_drawn_here", "_law_part"] ["_law_number", "_law_by_here", "_law_rows", "_law_columns"] (C8.fnScope (topS 10)) := C8.fnScope_by (by decide +kernel)
theorem w_law_table {f : Addr} {fd : FuncData} (F : C8.Def K mg "_law_table" (topS 10) f fd) (b : Binds K fd ["_law_number", "_law_by_here", "_law_rows", "_law_columns"] []) (Z : Bl mg) (c__law_drawn : C8.Cal P w K mg base 1 "_law_drawn" (spD 2 m_law_drawn K) []) : FnOk P w K mg base C8.CX0 2 f fd ["_law_number", "_law_by_here", "_law_rows", "_law_columns"] (spD 4 m_law_table K) := by
  refine fn_d (g := b_law_table) (n := 7) F.fn sc_law_table rfl (fun cdv A outer s H E hr => by
    have nd := sc_law_table.nd
    exact (dss_cons (ds_set (ed_op op_mod d_mod (ed_var (pv 0)) ed_int) (fun h => ps_set (i := 4) nd (by rfl) (by first | exact Or.inl rfl | exact Or.inr rfl) h)) (dss_cons (ds_setN (en_lst da_nil) (fun h => ps_set (i := 5) nd (by rfl) (by first | exact Or.inl rfl | exact Or.inr rfl) h)) (dss_cons (ds_for [6, 7, 8, 9, 10] PassesOwn.never rfl (di_rg1 (by rfl) Z.range (da_cons (ed_var (pv 2)) da_nil)) (dg_name (pg_name nd (by rfl) (by first | exact Or.inl rfl | exact Or.inr rfl))) (dss_cons (ds_setN (en_lst da_nil) (fun h => ps_set (i := 7) nd (by rfl) (by first | exact Or.inl rfl | exact Or.inr rfl) h)) (dss_cons (ds_for [8, 9, 10] PassesOwn.never rfl (di_rg1 (by rfl) Z.range (da_cons (ed_var (pv 3)) da_nil)) (dg_name (pg_name nd (by rfl) (by first | exact Or.inl rfl | exact Or.inr rfl))) (dss_cons (ds_set (ed_op op_fdiv d_div (ed_call c__law_drawn hr (by decide) (by rfl) (da_cons (ed_var (pv 0)) (da_cons (ed_op op_addA d_add (ed_op op_mulA d_mul ed_int (ed_var (pv 6))) (ed_var (pv 8))) da_nil)) (sl_cons (sl_cons sl_nil))) ed_int) (fun h => ps_set (i := 9) nd (by rfl) (by first | exact Or.inl rfl | exact Or.inr rfl) h)) (dss_cons (ds_set (ed_op op_mod d_mod (ed_var (pv 9)) (ed_var (pv 1))) (fun h => ps_set (i := 10) nd (by rfl) (by first | exact Or.inl rfl | exact Or.inr rfl) h)) (dss_cons (ds_if ((dw_and (dt_cmp (op_eqD (room64 hr)) d_eq (ed_var (pv 4)) ed_int (nomark _)) (dw_and1 (dt_cmp op_gt d_cmp (ed_op op_mod d_mod (ed_op op_fdiv d_div (ed_var (pv 9)) ed_int) ed_int) ed_int (nomark _))))).dt (dss_one (ds_set ed_int (fun h => ps_set (i := 10) nd (by rfl) (by first | exact Or.inl rfl | exact Or.inr rfl) h))) dss_nil) (dss_cons (ds_if ((dw_and (dt_cmp (op_eqD (room64 hr)) d_eq (ed_var (pv 4)) ed_int (nomark _)) (dw_and1 (dt_cmp op_gt d_cmp (ed_var (pv 6)) (ed_var (pv 8)) (nomark _))))).dt (dss_one (ds_set ed_int (fun h => ps_set (i := 10) nd (by rfl) (by first | exact Or.inl rfl | exact Or.inr rfl) h))) dss_nil) (dss_cons (ds_if ((dw_and (dt_cmp (op_eqD (room64 hr)) d_eq (ed_var (pv 4)) ed_int (nomark _)) (dw_and1 (dt_cmp (op_eqD (room64 hr)) d_eq (ed_var (pv 6)) (ed_var (pv 8)) (nomark _))))).dt (dss_one (ds_set (ed_op op_mod d_mod (ed_op op_fdiv d_div (ed_var (pv 0)) ed_int) (ed_var (pv 1))) (fun h => ps_set (i := 10) nd (by rfl) (by first | exact Or.inl rfl | exact Or.inr rfl) h))) dss_nil) (dss_one (ds_app (ed_var (pv 10)) (fun h => ps_expr (pe_bm PySem.F.plainAttrs_list PySem.F.slot_list_append PySem.F.type_list_append mt_append (pv 7) (pa_cons h pa_nil))))))))))) (dss_one (ds_app (ed_cbL (fun h => pe_callTy call_tuple_of (by rfl) Z.tuple PyProof.Rows.boot_tuple h) d_tupL (el_var (pv 7))) (fun h => ps_expr (pe_bm PySem.F.plainAttrs_list PySem.F.slot_list_append PySem.F.type_list_append mt_append (pv 5) (pa_cons h pa_nil)))))))) (dss_one (ds_ret (ed_cbL (fun h => pe_callTy call_tuple_of (by rfl) Z.tuple PyProof.Rows.boot_tuple h) d_tupL (el_var (pv 5)))))))))
theorem sc_law_times : FnScope ["_law_by_here", "_law_one", "_law_other", "_law_found", "_law_row", "_law_line", "_law_at", "_law_some", "_law_k"] ["_law_by_here", "_law_one", "_law_other"] (C8.fnScope (topS 11)) := C8.fnScope_by (by decide +kernel)
theorem w_law_times {f : Addr} {fd : FuncData} (F : C8.Def K mg "_law_times" (topS 11) f fd) (b : Binds K fd ["_law_by_here", "_law_one", "_law_other"] []) (Z : Bl mg) : FnOk P w K mg base C8.CX0 1 f fd ["_law_by_here", "_law_one", "_law_other"] (spD 3 m_law_times K) := by
  refine fn_d (g := b_law_times) (n := 6) F.fn sc_law_times rfl (fun cdv A outer s H E hr => by
    have nd := sc_law_times.nd
    exact (dss_cons (ds_setN (en_lst da_nil) (fun h => ps_set (i := 3) nd (by rfl) (by first | exact Or.inl rfl | exact Or.inr rfl) h)) (dss_cons (ds_for [4, 5, 6, 7] PassesOwn.never rfl (di_seq (ed_var (pv 1))) (dg_name (pg_name nd (by rfl) (by first | exact Or.inl rfl | exact Or.inr rfl))) (dss_cons (ds_setN (en_lst da_nil) (fun h => ps_set (i := 5) nd (by rfl) (by first | exact Or.inl rfl | exact Or.inr rfl) h)) (dss_cons (ds_for [6, 7] PassesOwn.never rfl (di_rg1 (by rfl) Z.range (da_cons (ed_cb (fun h => pe_callB call_len (by rfl) Z.len PySem.boot_len h) d_len (da_cons (ed_ix (ed_var (pv 2)) ed_int (fun _ _ => rfl)) da_nil)) da_nil)) (dg_name (pg_name nd (by rfl) (by first | exact Or.inl rfl | exact Or.inr rfl))) (dss_cons (ds_setLc (own := [("_law_k", 8)]) (ps_setLc rfl nd (by rfl) rfl (sw_true rfl rfl rfl (by kernel_rfl)) (di_rg1 (by rfl) Z.range (da_cons (ed_cb (fun h => pe_callB call_len (by rfl) Z.len PySem.boot_len h) d_len (da_cons (ed_var (pv 2)) da_nil)) da_nil)).c (blkOk_by (by kernel_rfl)) (fun _ _ _ _ _ => (dg_name (pg_name nd (by rfl) (by first | exact Or.inl rfl | exact Or.inr rfl)))) (fun _ _ _ _ _ => dts_nil) (fun _ _ _ _ _ => (ed_op op_mulA d_mul (ed_ix (ed_var (pv 4)) (ed_var (pv 8)) (fun _ _ => rfl)) (ed_ix (ed_ix (ed_var (pv 2)) (ed_var (pv 8)) (fun _ _ => rfl)) (ed_var (pv 6)) (fun _ _ => rfl))))) (by decide)) (dss_fz 7 (dss_one (ds_app (ed_op op_mod d_mod (ed_cbL (fun h => pe_callB (cr_sum rfl) (by rfl) Z.sum PyProof.Rows.boot_sum h) d_sumL (el_var (pv 7))) (ed_var (pv 0))) (fun h => ps_expr (pe_bm PySem.F.plainAttrs_list PySem.F.slot_list_append PySem.F.type_list_append mt_append (pv 5) (pa_cons h pa_nil)))))))) (dss_one (ds_app (ed_cbL (fun h => pe_callTy call_tuple_of (by rfl) Z.tuple PyProof.Rows.boot_tuple h) d_tupL (el_var (pv 5))) (fun h => ps_expr (pe_bm PySem.F.plainAttrs_list PySem.F.slot_list_append PySem.F.type_list_append mt_append (pv 3) (pa_cons h pa_nil)))))))) (dss_one (ds_ret (ed_cbL (fun h => pe_callTy call_tuple_of (by rfl) Z.tuple PyProof.Rows.boot_tuple h) d_tupL (el_var (pv 3))))))))
theorem sc_law_unit : FnScope ["_law_size", "_law_rows", "_law_row", "_law_at"] ["_law_size"] (C8.fnScope (topS 12)) := C8.fnScope_by (by decide +kernel)
theorem w_law_unit {f : Addr} {fd : FuncData} (F : C8.Def K mg "_law_unit" (topS 12) f fd) (b : Binds K fd ["_law_size"] []) (Z : Bl mg) : FnOk P w K mg base C8.CX0 1 f fd ["_law_size"] (spD 1 m_law_unit K) := by
  refine fn_d (g := b_law_unit) (n := 3) F.fn sc_law_unit rfl (fun cdv A outer s H E hr => by
    have nd := sc_law_unit.nd
    exact (dss_cons (ds_setN (en_lst da_nil) (fun h => ps_set (i := 1) nd (by rfl) (by first | exact Or.inl rfl | exact Or.inr rfl) h)) (dss_cons (ds_for [2] PassesOwn.never rfl (di_rg1 (by rfl) Z.range (da_cons (ed_var (pv 0)) da_nil)) (dg_name (pg_name nd (by rfl) (by first | exact Or.inl rfl | exact Or.inr rfl))) (dss_one (ds_app (ed_cbL (fun h => pe_callTy call_tuple_of (by rfl) Z.tuple PyProof.Rows.boot_tuple h) d_tupL ((en_lc (own := [("_law_at", 3)]) rfl nd (di_rg1 (by rfl) Z.range (da_cons (ed_var (pv 0)) da_nil)).c (blkOk_by (by kernel_rfl)) (fun _ _ _ _ _ => (dg_name (pg_name nd (by rfl) (by first | exact Or.inl rfl | exact Or.inr rfl)))) (fun _ _ _ _ _ => dts_nil) (fun _ _ _ _ _ => (ed_cb (fun h => pe_callTy call_int1 (by rfl) Z.int (by decide +kernel) h) d_int (da_cons (ed_cmp (op_eqD (room64 hr)) d_eq (ed_var (pv 2)) (ed_var (pv 3)) (nomark _)) da_nil))) (by decide))).el) (fun h => ps_expr (pe_bm PySem.F.plainAttrs_list PySem.F.slot_list_append PySem.F.type_list_append mt_append (pv 1) (pa_cons h pa_nil)))))) (dss_one (ds_ret (ed_cbL (fun h => pe_callTy call_tuple_of (by rfl) Z.tuple PyProof.Rows.boot_tuple h) d_tupL (el_var (pv 1))))))))
theorem sc_law_worth : FnScope ["_law_by_here", "_law_table_here", "_law_one", "_law_whole", "_law_at", "_law_other", "_law_part", "_law_k"] ["_law_by_here", "_law_table_here"] (C8.fnScope (topS 13)) := C8.fnScope_by (by decide +kernel)
theorem w_law_worth {f : Addr} {fd : FuncData} (F : C8.Def K mg "_law_worth" (topS 13) f fd) (b : Binds K fd ["_law_by_here", "_law_table_here"] []) (Z : Bl mg) : FnOk P w K mg base C8.CX0 1 f fd ["_law_by_here", "_law_table_here"] (spD 2 m_law_worth K) := by
  refine fn_d (g := b_law_worth) (n := 6) F.fn sc_law_worth rfl (fun cdv A outer s H E hr => by
    have nd := sc_law_worth.nd
    exact (dss_cons (ds_if (dt_cmp (op_eqD (room64 hr)) d_eq (ed_cb (fun h => pe_callB call_len (by rfl) Z.len PySem.boot_len h) d_len (da_cons (ed_var (pv 1)) da_nil)) ed_int (nomark _)) (dss_one (ds_ret (ed_op op_mod d_mod (ed_ix (ed_ix (ed_var (pv 1)) ed_int (fun _ _ => rfl)) ed_int (fun _ _ => rfl)) (ed_var (pv 0))))) dss_nil) (dss_cons (ds_if (dt_cmp (op_eqD (room64 hr)) d_eq (ed_cb (fun h => pe_callB call_len (by rfl) Z.len PySem.boot_len h) d_len (da_cons (ed_var (pv 1)) da_nil)) ed_int (nomark _)) (dss_cons (ds_set (ed_op op_mulA d_mul (ed_ix (ed_ix (ed_var (pv 1)) ed_int (fun _ _ => rfl)) ed_int (fun _ _ => rfl)) (ed_ix (ed_ix (ed_var (pv 1)) ed_int (fun _ _ => rfl)) ed_int (fun _ _ => rfl))) (fun h => ps_set (i := 2) nd (by rfl) (by first | exact Or.inl rfl | exact Or.inr rfl) h)) (dss_one (ds_ret (ed_op op_mod d_mod (ed_op op_sub d_sub (ed_var (pv 2)) (ed_op op_mulA d_mul (ed_ix (ed_ix (ed_var (pv 1)) ed_int (fun _ _ => rfl)) ed_int (fun _ _ => rfl)) (ed_ix (ed_ix (ed_var (pv 1)) ed_int (fun _ _ => rfl)) ed_int (fun _ _ => rfl)))) (ed_var (pv 0)))))) dss_nil) (dss_kl [2] (dss_cons (ds_set ed_int (fun h => ps_set (i := 3) nd (by rfl) (by first | exact Or.inl rfl | exact Or.inr rfl) h)) (dss_cons (ds_for [2, 4, 5, 6] PassesOwn.never rfl (di_rg1 (by rfl) Z.range (da_cons ed_int da_nil)) (dg_name (pg_name nd (by rfl) (by first | exact Or.inl rfl | exact Or.inr rfl))) (dss_cons (ds_asg ((en_lc (own := [("_law_k", 7)]) rfl nd (di_rg1 (by rfl) Z.range (da_cons ed_int da_nil)).c (blkOk_by (by kernel_rfl)) (fun _ _ _ _ _ => (dg_name (pg_name nd (by rfl) (by first | exact Or.inl rfl | exact Or.inr rfl)))) (fun _ _ _ _ _ => (dts_one (dt_cmp (op_neD (room64 hr)) d_ne (ed_var (pv 7)) (ed_var (pv 4)) (nomark _)))) (fun _ _ _ _ _ => (ed_var (pv 7))) (by decide))).ed (dg_lst rfl (dgs_cons (dg_name (pg_name nd (by rfl) (by first | exact Or.inl rfl | exact Or.inr rfl))) (dgs_cons (dg_name (pg_name nd (by rfl) (by first | exact Or.inl rfl | exact Or.inr rfl))) dgs_nil)) (gl_cons (gl_cons gl_nil))) (fun h h2 => ps_asg h h2)) (dss_cons (ds_set (ed_op op_mulA d_mul (ed_ix (ed_ix (ed_var (pv 1)) ed_int (fun _ _ => rfl)) (ed_var (pv 2)) (fun _ _ => rfl)) (ed_ix (ed_ix (ed_var (pv 1)) ed_int (fun _ _ => rfl)) (ed_var (pv 5)) (fun _ _ => rfl))) (fun h => ps_set (i := 6) nd (by rfl) (by first | exact Or.inl rfl | exact Or.inr rfl) h)) (dss_cons (ds_set (ed_op op_sub d_sub (ed_var (pv 6)) (ed_op op_mulA d_mul (ed_ix (ed_ix (ed_var (pv 1)) ed_int (fun _ _ => rfl)) (ed_var (pv 5)) (fun _ _ => rfl)) (ed_ix (ed_ix (ed_var (pv 1)) ed_int (fun _ _ => rfl)) (ed_var (pv 2)) (fun _ _ => rfl)))) (fun h => ps_set (i := 6) nd (by rfl) (by first | exact Or.inl rfl | exact Or.inr rfl) h)) (dss_one (ds_set (ed_op op_addA d_add (ed_var (pv 3)) (ed_op op_mulA d_mul (ed_op op_mulA d_mul (ed_ix (ed_tup (da_cons ed_int (da_cons (ed_neg ed_int) (da_cons ed_int da_nil)))) (ed_var (pv 4)) (fun _ _ => rfl)) (ed_ix (ed_ix (ed_var (pv 1)) ed_int (fun _ _ => rfl)) (ed_var (pv 4)) (fun _ _ => rfl))) (ed_var (pv 6)))) (fun h => ps_set (i := 3) nd (by rfl) (by first | exact Or.inl rfl | exact Or.inr rfl) h))))))) (dss_one (ds_ret (ed_op op_mod d_mod (ed_var (pv 3)) (ed_var (pv 0)))))))))))
theorem sc_law_by : FnScope ["_law_number"] ["_law_number"] (C8.fnScope (topS 14)) := C8.fnScope_by (by decide +kernel)
theorem w_law_by {f : Addr} {fd : FuncData} (F : C8.Def K mg "_law_by" (topS 14) f fd) (b : Binds K fd ["_law_number"] []) (Z : Bl mg) : FnOk P w K mg base C8.CX0 1 f fd ["_law_number"] (spD 1 m_law_by K) := by
  refine fn_d (g := b_law_by) (n := 0) F.fn sc_law_by rfl (fun cdv A outer s H E hr => by
    have nd := sc_law_by.nd
    exact (dss_one (ds_ret (ed_ix (ed_tup (da_cons ed_int (da_cons ed_int (da_cons ed_int da_nil)))) (ed_op op_mod d_mod (ed_var (pv 0)) ed_int) (fun _ _ => rfl)))))
theorem sc_law_unlike : FnScope ["_law_by_here", "_law_table_here", "_law_number", "_law_size", "_law_turn", "_law_back", "_law_here"] ["_law_by_here", "_law_table_here", "_law_number"] (C8.fnScope (topS 15)) := C8.fnScope_by (by decide +kernel)
theorem w_law_unlike {f : Addr} {fd : FuncData} (F : C8.Def K mg "_law_unlike" (topS 15) f fd) (b : Binds K fd ["_law_by_here", "_law_table_here", "_law_number"] []) (Z : Bl mg) (c__law_table : C8.Cal P w K mg base 2 "_law_table" (spD 4 m_law_table K) []) (c__law_worth : C8.Cal P w K mg base 1 "_law_worth" (spD 2 m_law_worth K) []) (c__law_unit : C8.Cal P w K mg base 1 "_law_unit" (spD 1 m_law_unit K) []) (c__law_times : C8.Cal P w K mg base 1 "_law_times" (spD 3 m_law_times K) []) : FnOk P w K mg base C8.CX0 3 f fd ["_law_by_here", "_law_table_here", "_law_number"] (spD 3 m_law_unlike K) := by
  refine fn_d (g := b_law_unlike) (n := 4) F.fn sc_law_unlike rfl (fun cdv A outer s H E hr => by
    have nd := sc_law_unlike.nd
    exact (dss_cons (ds_set (ed_cb (fun h => pe_callB call_len (by rfl) Z.len PySem.boot_len h) d_len (da_cons (ed_var (pv 1)) da_nil)) (fun h => ps_set (i := 3) nd (by rfl) (by first | exact Or.inl rfl | exact Or.inr rfl) h)) (dss_cons (ds_set (ed_call c__law_table hr (by decide) (by rfl) (da_cons (ed_op op_mulA d_mul ed_int (ed_var (pv 2))) (da_cons (ed_var (pv 0)) (da_cons (ed_var (pv 3)) (da_cons (ed_var (pv 3)) da_nil)))) (sl_cons (sl_cons (sl_cons (sl_cons sl_nil))))) (fun h => ps_set (i := 4) nd (by rfl) (by first | exact Or.inl rfl | exact Or.inr rfl) h)) (dss_cons (ds_if (dt_cmp (op_eqD (room64 hr)) d_eq (ed_call c__law_worth hr (by decide) (by rfl) (da_cons (ed_var (pv 0)) (da_cons (ed_var (pv 4)) da_nil)) (sl_cons (sl_cons sl_nil))) ed_int (nomark _)) (dss_one (ds_set (ed_op op_addA d_add (ed_sl (ed_call c__law_unit hr (by decide) (by rfl) (da_cons (ed_var (pv 3)) da_nil) (sl_cons sl_nil)) (do_some ed_int) do_none) (ed_sl (ed_call c__law_unit hr (by decide) (by rfl) (da_cons (ed_var (pv 3)) da_nil) (sl_cons sl_nil)) do_none (do_some ed_int))) (fun h => ps_set (i := 4) nd (by rfl) (by first | exact Or.inl rfl | exact Or.inr rfl) h))) dss_nil) (dss_cons (ds_set (ed_call c__law_unit hr (by decide) (by rfl) (da_cons (ed_var (pv 3)) da_nil) (sl_cons sl_nil)) (fun h => ps_set (i := 5) nd (by rfl) (by first | exact Or.inl rfl | exact Or.inr rfl) h)) (dss_cons (ds_set (ed_var (pv 4)) (fun h => ps_set (i := 6) nd (by rfl) (by first | exact Or.inl rfl | exact Or.inr rfl) h)) (dss_cons (ds_while [] 2000000 PassesOwn.never (dt_cmp (op_neD (room64 hr)) d_ne (ed_var (pv 6)) (ed_call c__law_unit hr (by decide) (by rfl) (da_cons (ed_var (pv 3)) da_nil) (sl_cons sl_nil)) (nomark _)) (dss_cons (ds_set (ed_var (pv 6)) (fun h => ps_set (i := 5) nd (by rfl) (by first | exact Or.inl rfl | exact Or.inr rfl) h)) (dss_one (ds_set (ed_call c__law_times hr (by decide) (by rfl) (da_cons (ed_var (pv 0)) (da_cons (ed_var (pv 6)) (da_cons (ed_var (pv 4)) da_nil))) (sl_cons (sl_cons (sl_cons sl_nil)))) (fun h => ps_set (i := 6) nd (by rfl) (by first | exact Or.inl rfl | exact Or.inr rfl) h))))) (dss_one (ds_ret (ed_call c__law_times hr (by decide) (by rfl) (da_cons (ed_var (pv 0)) (da_cons (ed_call c__law_times hr (by decide) (by rfl) (da_cons (ed_var (pv 0)) (da_cons (ed_var (pv 5)) (da_cons (ed_var (pv 1)) da_nil))) (sl_cons (sl_cons (sl_cons sl_nil)))) (da_cons (ed_var (pv 4)) da_nil))) (sl_cons (sl_cons (sl_cons sl_nil)))))))))))))
theorem sc_law_rest : FnScope ["_law_thing", "_law_by_here"] ["_law_thing", "_law_by_here"] (C8.fnScope (topS 16)) := C8.fnScope_by (by decide +kernel)
theorem w_law_rest {f : Addr} {fd : FuncData} (F : C8.Def K mg "_law_rest" (topS 16) f fd) (b : Binds K fd ["_law_thing", "_law_by_here"] []) (Z : Bl mg) : FnOk P w K mg base C8.CX0 1 f fd ["_law_thing", "_law_by_here"] (spD 2 m_law_rest K) := by
  refine fn_d (g := b_law_rest) (n := 0) F.fn sc_law_rest rfl (fun cdv A outer s H E hr => by
    have nd := sc_law_rest.nd
    exact (dss_one (ds_ret (ed_and (ed_isi kit_int (fun h => pe_callB call_isi (by rfl) Z.isinstance (by decide +kernel) h) (ed_var (pv 0)) (pe_bltn (v := .ty "int") (by rfl) Z.int (by decide +kernel) rfl)) (ed_and (ed_not (ed_isi kit_bool (fun h => pe_callB call_isi (by rfl) Z.isinstance (by decide +kernel) h) (ed_var (pv 0)) (pe_bltn (v := .ty "bool") (by rfl) Z.bool (by decide +kernel) rfl))) (ed_one (ed_chain op_le op_lt d_cmp d_cmp ed_int (ed_var (pv 0)) (ed_var (pv 1)))))))))
theorem sc_law_is_table : FnScope ["_law_thing", "_law_by_here", "_law_row", "_law_part"] ["_law_thing", "_law_by_here"] (C8.fnScope (topS 17)) := C8.fnScope_by (by decide +kernel)
theorem w_law_is_table {f : Addr} {fd : FuncData} (F : C8.Def K mg "_law_is_table" (topS 17) f fd) (b : Binds K fd ["_law_thing", "_law_by_here"] []) (Z : Bl mg) (c__law_rest : C8.Cal P w K mg base 1 "_law_rest" (spD 2 m_law_rest K) []) : FnOk P w K mg base C8.CX0 2 f fd ["_law_thing", "_law_by_here"] (spD 2 m_law_is_table K) := by
  refine fn_d (g := b_law_is_table) (n := 2) F.fn sc_law_is_table rfl (fun cdv A outer s H E hr => by
    have nd := sc_law_is_table.nd
    exact (dss_cons (ds_if ((dw_or (dt_not (dt_e (ed_isi kit_tuple (fun h => pe_callB call_isi (by rfl) Z.isinstance (by decide +kernel) h) (ed_var (pv 0)) (pe_bltn (v := .ty "tuple") (by rfl) Z.tuple (by decide +kernel) rfl)))) (dw_or1 (dt_not (dt_chain op_le op_le d_cmp d_cmp ed_int (ed_cb (fun h => pe_callB call_len (by rfl) Z.len PySem.boot_len h) d_len (da_cons (ed_var (pv 0)) da_nil)) ed_int))))).dt (dss_one (ds_ret ed_bl)) dss_nil) (dss_cons (ds_for [2] PassesOwn.never rfl (di_seq (ed_var (pv 0))) (dg_name (pg_name nd (by rfl) (by first | exact Or.inl rfl | exact Or.inr rfl))) (dss_cons (ds_if ((dw_or (dt_not (dt_e (ed_isi kit_tuple (fun h => pe_callB call_isi (by rfl) Z.isinstance (by decide +kernel) h) (ed_var (pv 2)) (pe_bltn (v := .ty "tuple") (by rfl) Z.tuple (by decide +kernel) rfl)))) (dw_or1 (dt_not (dt_chain op_le op_le d_cmp d_cmp ed_int (ed_cb (fun h => pe_callB call_len (by rfl) Z.len PySem.boot_len h) d_len (da_cons (ed_var (pv 2)) da_nil)) ed_int))))).dt (dss_one (ds_ret ed_bl)) dss_nil) (dss_one (ds_if ((dw_or (dt_cmp (op_neD (room64 hr)) d_ne (ed_cb (fun h => pe_callB call_len (by rfl) Z.len PySem.boot_len h) d_len (da_cons (ed_var (pv 2)) da_nil)) (ed_cb (fun h => pe_callB call_len (by rfl) Z.len PySem.boot_len h) d_len (da_cons (ed_ix (ed_var (pv 0)) ed_int (fun _ _ => rfl)) da_nil)) (nomark _)) (dw_or1 (dt_cmp (op_neD (room64 hr)) d_ne ((en_lc (own := [("_law_part", 3)]) rfl nd (di_seq (ed_var (pv 2))).c (blkOk_by (by kernel_rfl)) (fun _ _ _ _ _ => (dg_name (pg_name nd (by rfl) (by first | exact Or.inl rfl | exact Or.inr rfl)))) (fun _ _ _ _ _ => (dts_one (dt_not (dt_e (ed_call c__law_rest hr (by decide) (by rfl) (da_cons (ed_var (pv 3)) (da_cons (ed_var (pv 1)) da_nil)) (sl_cons (sl_cons sl_nil))))))) (fun _ _ _ _ _ => (ed_var (pv 3))) (by decide))).ed ((en_lst da_nil)).ed (nomark _))))).dt (dss_one (ds_ret ed_bl)) dss_nil)))) (dss_one (ds_ret ed_bl)))))
theorem sc_law_is_powers : FnScope ["_law_thing", "_law_by_here", "_law_part"] ["_law_thing", "_law_by_here"] (C8.fnScope (topS 18)) := C8.fnScope_by (by decide +kernel)
theorem w_law_is_powers {f : Addr} {fd : FuncData} (F : C8.Def K mg "_law_is_powers" (topS 18) f fd) (b : Binds K fd ["_law_thing", "_law_by_here"] []) (Z : Bl mg) (c__law_rest : C8.Cal P w K mg base 1 "_law_rest" (spD 2 m_law_rest K) []) : FnOk P w K mg base C8.CX0 2 f fd ["_law_thing", "_law_by_here"] (spD 2 m_law_is_powers K) := by
  refine fn_d (g := b_law_is_powers) (n := 1) F.fn sc_law_is_powers rfl (fun cdv A outer s H E hr => by
    have nd := sc_law_is_powers.nd
    exact (dss_cons (ds_if ((dw_or (dt_not (dt_e (ed_isi kit_tuple (fun h => pe_callB call_isi (by rfl) Z.isinstance (by decide +kernel) h) (ed_var (pv 0)) (pe_bltn (v := .ty "tuple") (by rfl) Z.tuple (by decide +kernel) rfl)))) (dw_or (dt_cmp op_gt d_cmp (ed_cb (fun h => pe_callB call_len (by rfl) Z.len PySem.boot_len h) d_len (da_cons (ed_var (pv 0)) da_nil)) ed_int (nomark _)) (dw_or1 (dt_cmp (op_neD (room64 hr)) d_ne ((en_lc (own := [("_law_part", 2)]) rfl nd (di_seq (ed_var (pv 0))).c (blkOk_by (by kernel_rfl)) (fun _ _ _ _ _ => (dg_name (pg_name nd (by rfl) (by first | exact Or.inl rfl | exact Or.inr rfl)))) (fun _ _ _ _ _ => (dts_one (dt_not (dt_e (ed_call c__law_rest hr (by decide) (by rfl) (da_cons (ed_var (pv 2)) (da_cons (ed_var (pv 1)) da_nil)) (sl_cons (sl_cons sl_nil))))))) (fun _ _ _ _ _ => (ed_var (pv 2))) (by decide))).ed ((en_lst da_nil)).ed (nomark _)))))).dt (dss_one (ds_ret ed_bl)) dss_nil) (dss_one (ds_ret (ed_or (ed_cmp (op_eqD (room64 hr)) d_eq (ed_var (pv 0)) (ed_tup da_nil) (nomark _)) (ed_one (ed_cmp (op_neD (room64 hr)) d_ne (ed_ix (ed_var (pv 0)) (ed_op op_sub d_sub (ed_cb (fun h => pe_callB call_len (by rfl) Z.len PySem.boot_len h) d_len (da_cons (ed_var (pv 0)) da_nil)) ed_int) (fun _ _ => rfl)) ed_int (nomark _))))))))
theorem sc_law_spoilt : FnScope ["_law_thing", "_law_number", "_law_deep", "_law_at", "_law_part", "_law_some"] ["_law_thing", "_law_number", "_law_deep"] (C8.fnScope (topS 19)) := C8.fnScope_by (by decide +kernel)
theorem w_law_spoilt {f : Addr} {fd : FuncData} (F : C8.Def K mg "_law_spoilt" (topS 19) f fd) (b : Binds K fd ["_law_thing", "_law_number", "_law_deep"] []) (Z : Bl mg) (c__law_drawn : C8.Cal P w K mg base 1 "_law_drawn" (spD 2 m_law_drawn K) []) : ∀ n : Nat, FnOk P w K mg base C8.CX0 (1 + n) f fd ["_law_thing", "_law_number", "_law_deep"] (spD 3 (m_law_spoilt n) K)
  | 0 => ⟨fun vs H Q E h => let ⟨_, _, _, _, _, _, z, _⟩ := h; (nomatch z), fun A outer s H args us vs Q E _ _ _ _ h => let ⟨_, _, _, _, _, _, z, _⟩ := h; (nomatch z)⟩
  | n + 1 => by
    have c__law_spoilt : C8.Cal P w K mg base (1 + n) "_law_spoilt" (spD 3 (m_law_spoilt n) K) [] := ⟨f, fd, _, [], w_law_spoilt F b Z c__law_drawn n, F.mgf, F.kp, b, .nil⟩
    show FnOk P w K mg base C8.CX0 ((1 + n) + 1) f fd ["_law_thing", "_law_number", "_law_deep"] (spD 3 (m_law_spoilt (n + 1)) K)
    refine fn_d (g := b_law_spoilt (m_law_spoilt n)) (n := 3) F.fn sc_law_spoilt rfl (fun cdv A outer s H E hr => by
      have nd := sc_law_spoilt.nd
      exact (dss_cons (ds_if ((dw_and (dt_cmp op_gt d_cmp (ed_var (pv 2)) ed_int (nomark _)) (dw_and (dt_e (ed_isi kit_tuple (fun h => pe_callB call_isi (by rfl) Z.isinstance (by decide +kernel) h) (ed_var (pv 0)) (pe_bltn (v := .ty "tuple") (by rfl) Z.tuple (by decide +kernel) rfl))) (dw_and (dt_cmp op_gt d_cmp (ed_cb (fun h => pe_callB call_len (by rfl) Z.len PySem.boot_len h) d_len (da_cons (ed_var (pv 0)) da_nil)) ed_int (nomark _)) (dw_and1 (dt_cmp op_gt d_cmp (ed_op op_mod d_mod (ed_var (pv 1)) ed_int) ed_int (nomark _))))))).dt (dss_cons (ds_set (ed_op op_mod d_mod (ed_op op_fdiv d_div (ed_var (pv 1)) ed_int) (ed_cb (fun h => pe_callB call_len (by rfl) Z.len PySem.boot_len h) d_len (da_cons (ed_var (pv 0)) da_nil))) (fun h => ps_set (i := 3) nd (by rfl) (by first | exact Or.inl rfl | exact Or.inr rfl) h)) (dss_cons (ds_set (ed_call c__law_spoilt hr (by omega) (by rfl) (da_cons (ed_ix (ed_var (pv 0)) (ed_var (pv 3)) (fun _ _ => rfl)) (da_cons (ed_op op_fdiv d_div (ed_call c__law_drawn hr (by omega) (by rfl) (da_cons (ed_var (pv 1)) (da_cons (ed_var (pv 2)) da_nil)) (sl_cons (sl_cons sl_nil))) ed_int) (da_cons (ed_op op_sub d_sub (ed_var (pv 2)) ed_int) da_nil))) (sl_cons (sl_cons (sl_cons sl_nil)))) (fun h => ps_set (i := 4) nd (by rfl) (by first | exact Or.inl rfl | exact Or.inr rfl) h)) (dss_one (ds_ret (ed_op op_addA d_add (ed_op op_addA d_add (ed_sl (ed_var (pv 0)) do_none (do_some (ed_var (pv 3)))) (ed_tup (da_cons (ed_var (pv 4)) da_nil))) (ed_sl (ed_var (pv 0)) (do_some (ed_op op_addA d_add (ed_var (pv 3)) ed_int)) do_none)))))) dss_nil) (dss_kl [3, 4] (dss_cons (ds_if ((dw_and (dt_e (ed_isi kit_tuple (fun h => pe_callB call_isi (by rfl) Z.isinstance (by decide +kernel) h) (ed_var (pv 0)) (pe_bltn (v := .ty "tuple") (by rfl) Z.tuple (by decide +kernel) rfl))) (dw_and (dt_cmp op_gt d_cmp (ed_cb (fun h => pe_callB call_len (by rfl) Z.len PySem.boot_len h) d_len (da_cons (ed_var (pv 0)) da_nil)) ed_int (nomark _)) (dw_and1 (dt_cmp (op_eqD (room64 hr)) d_eq (ed_op op_mod d_mod (ed_op op_fdiv d_div (ed_var (pv 1)) ed_int) ed_int) ed_int (nomark _)))))).dt (dss_one (ds_ret (ed_ix ((en_lst (da_cons ((en_list (fun h => pe_callTy call_list_of (by rfl) Z.list PyProof.Rows.boot_list h) (ed_var (pv 0)))).ed (da_cons (ed_sl (ed_var (pv 0)) do_none (do_some (ed_neg ed_int))) (da_cons (ed_op op_addA d_add (ed_var (pv 0)) (ed_sl (ed_var (pv 0)) (do_some (ed_neg ed_int)) do_none)) (da_cons (ed_sl (ed_var (pv 0)) (do_some ed_int) do_none) (da_cons (ed_op op_addA d_add (ed_var (pv 0)) (ed_tup (da_cons ed_int da_nil))) (da_cons (ed_op op_mulA d_mul (ed_var (pv 0)) ed_int) da_nil)))))))).ed (ed_op op_mod d_mod (ed_op op_fdiv d_div (ed_var (pv 1)) ed_int) ed_int) (fun _ _ => rfl)))) dss_nil) (dss_cons (ds_if ((dw_and (dt_e (ed_isi kit_int (fun h => pe_callB call_isi (by rfl) Z.isinstance (by decide +kernel) h) (ed_var (pv 0)) (pe_bltn (v := .ty "int") (by rfl) Z.int (by decide +kernel) rfl))) (dw_and1 (dt_cmp (op_eqD (room64 hr)) d_eq (ed_op op_mod d_mod (ed_op op_fdiv d_div (ed_var (pv 1)) ed_int) ed_int) ed_int (nomark _))))).dt (dss_one (ds_ret (ed_ix ((en_lst (da_cons (ed_cb (fun h => pe_callTy call_str_int (by rfl) Z.str (by decide +kernel) h) d_str (da_cons (ed_op op_mod d_mod (ed_var (pv 0)) ed_int) da_nil)) (da_cons (ed_op op_sub d_sub ed_int (ed_var (pv 0))) (da_cons (ed_op op_addA d_add (ed_var (pv 0)) ed_int) (da_cons (ed_cmp (op_eqD (room64 hr)) d_eq (ed_var (pv 0)) ed_int (nomark _)) (da_cons (ed_op op_addA d_add (ed_var (pv 0)) ed_int) (da_cons ed_int da_nil)))))))).ed (ed_op op_mod d_mod (ed_op op_fdiv d_div (ed_var (pv 1)) ed_int) ed_int) (fun _ _ => rfl)))) dss_nil) (dss_cons (ds_set ((en_lst (da_cons ed_non (da_cons ed_bl (da_cons ed_bl (da_cons ed_int (da_cons ed_int (da_cons ed_int (da_cons ed_int (da_cons ed_int (da_cons ed_int (da_cons (ed_neg ed_int) (da_cons ed_str (da_cons ed_str (da_cons (ed_tup da_nil) (da_cons (ed_tup (da_cons ed_int da_nil)) (da_cons (ed_tup (da_cons ed_int (da_cons ed_int da_nil))) (da_cons ((en_lst da_nil)).ed (da_cons (ed_tup (da_cons (ed_tup (da_cons ed_int da_nil)) da_nil)) (da_cons (ed_tup (da_cons (ed_tup da_nil) (da_cons (ed_tup da_nil) da_nil))) (da_cons (ed_op op_mulA d_mul (ed_tup (da_cons ed_int da_nil)) ed_int) da_nil))))))))))))))))))))).ed (fun h => ps_set (i := 5) nd (by rfl) (by first | exact Or.inl rfl | exact Or.inr rfl) h)) (dss_one (ds_ret (ed_ix (ed_var (pv 5)) (ed_op op_mod d_mod (ed_op op_fdiv d_div (ed_var (pv 1)) ed_int) ed_int) (fun _ _ => rfl))))))))))
theorem sc_law : FnScope ["_law_script", "_law_number", "_law_by_here", "_law_table_here", "_law_drawn_here", "_law_powers", "_law_one", "_law_found", "_law_k"] ["_law_script"] (C8.fnScope (topS 20)) := C8.fnScope_by (by decide +kernel)
theorem w_law {f : Addr} {fd : FuncData} (F : C8.Def K mg "law" (topS 20) f fd) (b : Binds K fd ["_law_script"] []) (Z : Bl mg) (c__law_mixed : C8.Cal P w K mg base 2 "_law_mixed" (spD 2 m_law_mixed K) []) (c__law_by : C8.Cal P w K mg base 1 "_law_by" (spD 1 m_law_by K) []) (c__law_table : C8.Cal P w K mg base 2 "_law_table" (spD 4 m_law_table K) []) (c__law_drawn : C8.Cal P w K mg base 1 "_law_drawn" (spD 2 m_law_drawn K) []) (c__law_spoilt : C8.Cal P w K mg base 7 "_law_spoilt" (spD 3 (m_law_spoilt 6) K) []) (c_is_table : C8.Cal P w K mg base 2 "is_table" (spD 2 m_is_table K) []) (c__law_is_table : C8.Cal P w K mg base 2 "_law_is_table" (spD 2 m_law_is_table K) []) (c_is_powers : C8.Cal P w K mg base 2 "is_powers" (spD 2 m_is_powers K) []) (c__law_is_powers : C8.Cal P w K mg base 2 "_law_is_powers" (spD 2 m_law_is_powers K) []) : FnOk P w K mg base C8.CX0 8 f fd ["_law_script"] (spD 1 m_law K) := by
  refine fn_d (g := b_law) (n := 8) F.fn sc_law rfl (fun cdv A outer s H E hr => by
    have nd := sc_law.nd
    exact (dss_cons (ds_set (ed_call c__law_mixed hr (by decide) (by rfl) (da_cons (ed_var (pv 0)) (da_cons ed_int da_nil)) (sl_cons (sl_cons sl_nil))) (fun h => ps_set (i := 1) nd (by rfl) (by first | exact Or.inl rfl | exact Or.inr rfl) h)) (dss_cons (ds_set (ed_call c__law_by hr (by decide) (by rfl) (da_cons (ed_op op_fdiv d_div (ed_var (pv 1)) ed_int) da_nil) (sl_cons sl_nil)) (fun h => ps_set (i := 2) nd (by rfl) (by first | exact Or.inl rfl | exact Or.inr rfl) h)) (dss_cons (ds_set (ed_call c__law_table hr (by decide) (by rfl) (da_cons (ed_call c__law_mixed hr (by decide) (by rfl) (da_cons (ed_var (pv 0)) (da_cons ed_int da_nil)) (sl_cons (sl_cons sl_nil))) (da_cons (ed_var (pv 2)) (da_cons (ed_op op_addA d_add ed_int (ed_op op_mod d_mod (ed_op op_fdiv d_div (ed_var (pv 1)) ed_int) ed_int)) (da_cons (ed_op op_addA d_add ed_int (ed_op op_mod d_mod (ed_op op_fdiv d_div (ed_var (pv 1)) ed_int) ed_int)) da_nil)))) (sl_cons (sl_cons (sl_cons (sl_cons sl_nil))))) (fun h => ps_set (i := 3) nd (by rfl) (by first | exact Or.inl rfl | exact Or.inr rfl) h)) (dss_cons (ds_set (ed_call c__law_mixed hr (by decide) (by rfl) (da_cons (ed_var (pv 0)) (da_cons ed_int da_nil)) (sl_cons (sl_cons sl_nil))) (fun h => ps_set (i := 4) nd (by rfl) (by first | exact Or.inl rfl | exact Or.inr rfl) h)) (dss_cons (ds_set (ed_cbL (fun h => pe_callTy call_tuple_of (by rfl) Z.tuple PyProof.Rows.boot_tuple h) d_tupL ((en_lc (own := [("_law_k", 8)]) rfl nd (di_rg1 (by rfl) Z.range (da_cons (ed_op op_mod d_mod (ed_var (pv 4)) ed_int) da_nil)).c (blkOk_by (by kernel_rfl)) (fun _ _ _ _ _ => (dg_name (pg_name nd (by rfl) (by first | exact Or.inl rfl | exact Or.inr rfl)))) (fun _ _ _ _ _ => dts_nil) (fun _ _ _ _ _ => (ed_op op_mod d_mod (ed_op op_fdiv d_div (ed_call c__law_drawn hr (by decide) (by rfl) (da_cons (ed_var (pv 4)) (da_cons (ed_var (pv 8)) da_nil)) (sl_cons (sl_cons sl_nil))) ed_int) (ed_var (pv 2)))) (by decide))).el) (fun h => ps_set (i := 5) nd (by rfl) (by first | exact Or.inl rfl | exact Or.inr rfl) h)) (dss_cons (ds_set (ed_op op_addA d_add (ed_var (pv 5)) (ed_tup (da_cons (ed_op op_addA d_add ed_int (ed_op op_mod d_mod (ed_op op_fdiv d_div (ed_var (pv 4)) ed_int) (ed_op op_sub d_sub (ed_var (pv 2)) ed_int))) da_nil))) (fun h => ps_set (i := 5) nd (by rfl) (by first | exact Or.inl rfl | exact Or.inr rfl) h)) (dss_cons (ds_if (dt_cmp (op_eqD (room64 hr)) d_eq (ed_op op_mod d_mod (ed_op op_fdiv d_div (ed_var (pv 1)) ed_int) ed_int) ed_int (nomark _)) (dss_one (ds_set (ed_tup da_nil) (fun h => ps_set (i := 5) nd (by rfl) (by first | exact Or.inl rfl | exact Or.inr rfl) h))) dss_nil) (dss_cons (ds_if (dt_cmp op_gt d_cmp (ed_op op_mod d_mod (ed_var (pv 1)) ed_int) ed_int (nomark _)) (dss_cons (ds_set (ed_call c__law_spoilt hr (by decide) (by rfl) (da_cons (ed_var (pv 3)) (da_cons (ed_call c__law_mixed hr (by decide) (by rfl) (da_cons (ed_var (pv 0)) (da_cons ed_int da_nil)) (sl_cons (sl_cons sl_nil))) (da_cons (ed_op op_mod d_mod (ed_op op_fdiv d_div (ed_var (pv 1)) ed_int) ed_int) da_nil))) (sl_cons (sl_cons (sl_cons sl_nil)))) (fun h => ps_set (i := 3) nd (by rfl) (by first | exact Or.inl rfl | exact Or.inr rfl) h)) (dss_one (ds_set (ed_call c__law_spoilt hr (by decide) (by rfl) (da_cons (ed_var (pv 5)) (da_cons (ed_call c__law_mixed hr (by decide) (by rfl) (da_cons (ed_var (pv 0)) (da_cons ed_int da_nil)) (sl_cons (sl_cons sl_nil))) (da_cons (ed_op op_mod d_mod (ed_op op_fdiv d_div (ed_var (pv 1)) ed_int) ed_int) da_nil))) (sl_cons (sl_cons (sl_cons sl_nil)))) (fun h => ps_set (i := 5) nd (by rfl) (by first | exact Or.inl rfl | exact Or.inr rfl) h)))) dss_nil) (dss_cons (ds_for [6, 7] PassesOwn.never rfl (di_seq (ed_tup (da_cons (ed_var (pv 3)) (da_cons (ed_var (pv 5)) da_nil)))) (dg_name (pg_name nd (by rfl) (by first | exact Or.inl rfl | exact Or.inr rfl))) (dss_cons (ds_set (ed_call c_is_table hr (by decide) (by rfl) (da_cons (ed_var (pv 6)) (da_cons (ed_var (pv 2)) da_nil)) (sl_cons (sl_cons sl_nil))) (fun h => ps_set (i := 7) nd (by rfl) (by first | exact Or.inl rfl | exact Or.inr rfl) h)) (dss_cons (ds_if ((dw_or (dt_not (dt_e (ed_isi kit_bool (fun h => pe_callB call_isi (by rfl) Z.isinstance (by decide +kernel) h) (ed_var (pv 7)) (pe_bltn (v := .ty "bool") (by rfl) Z.bool (by decide +kernel) rfl)))) (dw_or1 (dt_cmp (op_neD (room64 hr)) d_ne (ed_var (pv 7)) (ed_call c__law_is_table hr (by decide) (by rfl) (da_cons (ed_var (pv 6)) (da_cons (ed_var (pv 2)) da_nil)) (sl_cons (sl_cons sl_nil))) (nomark _))))).dt (dss_one (ds_ret ed_bl)) dss_nil) (dss_cons (ds_set (ed_call c_is_powers hr (by decide) (by rfl) (da_cons (ed_var (pv 6)) (da_cons (ed_var (pv 2)) da_nil)) (sl_cons (sl_cons sl_nil))) (fun h => ps_set (i := 7) nd (by rfl) (by first | exact Or.inl rfl | exact Or.inr rfl) h)) (dss_one (ds_if ((dw_or (dt_not (dt_e (ed_isi kit_bool (fun h => pe_callB call_isi (by rfl) Z.isinstance (by decide +kernel) h) (ed_var (pv 7)) (pe_bltn (v := .ty "bool") (by rfl) Z.bool (by decide +kernel) rfl)))) (dw_or1 (dt_cmp (op_neD (room64 hr)) d_ne (ed_var (pv 7)) (ed_call c__law_is_powers hr (by decide) (by rfl) (da_cons (ed_var (pv 6)) (da_cons (ed_var (pv 2)) da_nil)) (sl_cons (sl_cons sl_nil))) (nomark _))))).dt (dss_one (ds_ret ed_bl)) dss_nil)))))) (dss_one (ds_ret ed_bl))))))))))))
end
theorem all_mk {l : PySem.W.OpenLaw} {w : World} {K : PySem.W.Frag} {h : Heap} {mg : Str → Option Value} {fa : Addr} (X : K.In h) (G : h.Ns mainGlobals mg) (hfa : mg "law" = some (.ref fa))
    {f_is_rest : Addr} {od_is_rest an_is_rest : Option Addr} {sl_is_rest : Array (Option Value)} {oc_is_rest kV_is_rest dc_is_rest pm_is_rest cd_is_rest ct_is_rest : Value}
    {f_is_table : Addr} {od_is_table an_is_table : Option Addr} {sl_is_table : Array (Option Value)} {oc_is_table kV_is_table dc_is_table pm_is_table cd_is_table ct_is_table : Value}
    {f_is_powers : Addr} {od_is_powers an_is_powers : Option Addr} {sl_is_powers : Array (Option Value)} {oc_is_powers kV_is_powers dc_is_powers pm_is_powers cd_is_powers ct_is_powers : Value}
    {f_law_cell_at : Addr} {od_law_cell_at an_law_cell_at : Option Addr} {sl_law_cell_at : Array (Option Value)} {oc_law_cell_at kV_law_cell_at dc_law_cell_at pm_law_cell_at cd_law_cell_at ct_law_cell_at : Value}
    {f_law_mixed : Addr} {od_law_mixed an_law_mixed : Option Addr} {sl_law_mixed : Array (Option Value)} {oc_law_mixed kV_law_mixed dc_law_mixed pm_law_mixed cd_law_mixed ct_law_mixed : Value}
    {f_law_drawn : Addr} {od_law_drawn an_law_drawn : Option Addr} {sl_law_drawn : Array (Option Value)} {oc_law_drawn kV_law_drawn dc_law_drawn pm_law_drawn cd_law_drawn ct_law_drawn : Value}
    {f_law_table : Addr} {od_law_table an_law_table : Option Addr} {sl_law_table : Array (Option Value)} {oc_law_table kV_law_table dc_law_table pm_law_table cd_law_table ct_law_table : Value}
    {f_law_times : Addr} {od_law_times an_law_times : Option Addr} {sl_law_times : Array (Option Value)} {oc_law_times kV_law_times dc_law_times pm_law_times cd_law_times ct_law_times : Value}
    {f_law_unit : Addr} {od_law_unit an_law_unit : Option Addr} {sl_law_unit : Array (Option Value)} {oc_law_unit kV_law_unit dc_law_unit pm_law_unit cd_law_unit ct_law_unit : Value}
    {f_law_worth : Addr} {od_law_worth an_law_worth : Option Addr} {sl_law_worth : Array (Option Value)} {oc_law_worth kV_law_worth dc_law_worth pm_law_worth cd_law_worth ct_law_worth : Value}
    {f_law_by : Addr} {od_law_by an_law_by : Option Addr} {sl_law_by : Array (Option Value)} {oc_law_by kV_law_by dc_law_by pm_law_by cd_law_by ct_law_by : Value}
    {f_law_unlike : Addr} {od_law_unlike an_law_unlike : Option Addr} {sl_law_unlike : Array (Option Value)} {oc_law_unlike kV_law_unlike dc_law_unlike pm_law_unlike cd_law_unlike ct_law_unlike : Value}
    {f_law_rest : Addr} {od_law_rest an_law_rest : Option Addr} {sl_law_rest : Array (Option Value)} {oc_law_rest kV_law_rest dc_law_rest pm_law_rest cd_law_rest ct_law_rest : Value}
    {f_law_is_table : Addr} {od_law_is_table an_law_is_table : Option Addr} {sl_law_is_table : Array (Option Value)} {oc_law_is_table kV_law_is_table dc_law_is_table pm_law_is_table cd_law_is_table ct_law_is_table : Value}
    {f_law_is_powers : Addr} {od_law_is_powers an_law_is_powers : Option Addr} {sl_law_is_powers : Array (Option Value)} {oc_law_is_powers kV_law_is_powers dc_law_is_powers pm_law_is_powers cd_law_is_powers ct_law_is_powers : Value}
    {f_law_spoilt : Addr} {od_law_spoilt an_law_spoilt : Option Addr} {sl_law_spoilt : Array (Option Value)} {oc_law_spoilt kV_law_spoilt dc_law_spoilt pm_law_spoilt cd_law_spoilt ct_law_spoilt : Value}
    {f_law : Addr} {od_law an_law : Option Addr} {sl_law : Array (Option Value)} {oc_law kV_law dc_law pm_law cd_law ct_law : Value}
    {tk_MOST_POWERS : Tok}
    {tk_MOST_SIZE : Tok}
    (a_is_rest : PySem.W.nsIn K mainGlobals "is_rest" = some (some (.ref f_is_rest))) (l_is_rest : K.lookup f_is_rest = some ⟨oc_is_rest, od_is_rest, .func (PySem.W.fnOf "is_rest" "is_rest" (C8.fnArgs (topS 3)) (C8.fnBody (topS 3)) (C8.fnScope (topS 3)) .none kV_is_rest dc_is_rest pm_is_rest an_is_rest cd_is_rest ct_is_rest), sl_is_rest⟩) (e_is_rest : PySem.W.codeIn K cd_is_rest "is_rest" = true) (k_is_rest : PySem.W.keepIn K (.ref f_is_rest) = true)
    (a_is_table : PySem.W.nsIn K mainGlobals "is_table" = some (some (.ref f_is_table))) (l_is_table : K.lookup f_is_table = some ⟨oc_is_table, od_is_table, .func (PySem.W.fnOf "is_table" "is_table" (C8.fnArgs (topS 4)) (C8.fnBody (topS 4)) (C8.fnScope (topS 4)) .none kV_is_table dc_is_table pm_is_table an_is_table cd_is_table ct_is_table), sl_is_table⟩) (e_is_table : PySem.W.codeIn K cd_is_table "is_table" = true) (k_is_table : PySem.W.keepIn K (.ref f_is_table) = true)
    (a_is_powers : PySem.W.nsIn K mainGlobals "is_powers" = some (some (.ref f_is_powers))) (l_is_powers : K.lookup f_is_powers = some ⟨oc_is_powers, od_is_powers, .func (PySem.W.fnOf "is_powers" "is_powers" (C8.fnArgs (topS 5)) (C8.fnBody (topS 5)) (C8.fnScope (topS 5)) .none kV_is_powers dc_is_powers pm_is_powers an_is_powers cd_is_powers ct_is_powers), sl_is_powers⟩) (e_is_powers : PySem.W.codeIn K cd_is_powers "is_powers" = true) (k_is_powers : PySem.W.keepIn K (.ref f_is_powers) = true)
    (a_law_cell_at : PySem.W.nsIn K mainGlobals "_law_cell_at" = some (some (.ref f_law_cell_at))) (l_law_cell_at : K.lookup f_law_cell_at = some ⟨oc_law_cell_at, od_law_cell_at, .func (PySem.W.fnOf "_law_cell_at" "_law_cell_at" (C8.fnArgs (topS 7)) (C8.fnBody (topS 7)) (C8.fnScope (topS 7)) .none kV_law_cell_at dc_law_cell_at pm_law_cell_at an_law_cell_at cd_law_cell_at ct_law_cell_at), sl_law_cell_at⟩) (e_law_cell_at : PySem.W.codeIn K cd_law_cell_at "_law_cell_at" = true) (k_law_cell_at : PySem.W.keepIn K (.ref f_law_cell_at) = true)
    (a_law_mixed : PySem.W.nsIn K mainGlobals "_law_mixed" = some (some (.ref f_law_mixed))) (l_law_mixed : K.lookup f_law_mixed = some ⟨oc_law_mixed, od_law_mixed, .func (PySem.W.fnOf "_law_mixed" "_law_mixed" (C8.fnArgs (topS 8)) (C8.fnBody (topS 8)) (C8.fnScope (topS 8)) .none kV_law_mixed dc_law_mixed pm_law_mixed an_law_mixed cd_law_mixed ct_law_mixed), sl_law_mixed⟩) (e_law_mixed : PySem.W.codeIn K cd_law_mixed "_law_mixed" = true) (k_law_mixed : PySem.W.keepIn K (.ref f_law_mixed) = true)
    (a_law_drawn : PySem.W.nsIn K mainGlobals "_law_drawn" = some (some (.ref f_law_drawn))) (l_law_drawn : K.lookup f_law_drawn = some ⟨oc_law_drawn, od_law_drawn, .func (PySem.W.fnOf "_law_drawn" "_law_drawn" (C8.fnArgs (topS 9)) (C8.fnBody (topS 9)) (C8.fnScope (topS 9)) .none kV_law_drawn dc_law_drawn pm_law_drawn an_law_drawn cd_law_drawn ct_law_drawn), sl_law_drawn⟩) (e_law_drawn : PySem.W.codeIn K cd_law_drawn "_law_drawn" = true) (k_law_drawn : PySem.W.keepIn K (.ref f_law_drawn) = true)
    (a_law_table : PySem.W.nsIn K mainGlobals "_law_table" = some (some (.ref f_law_table))) (l_law_table : K.lookup f_law_table = some ⟨oc_law_table, od_law_table, .func (PySem.W.fnOf "_law_table" "_law_table" (C8.fnArgs (topS 10)) (C8.fnBody (topS 10)) (C8.fnScope (topS 10)) .none kV_law_table dc_law_table pm_law_table an_law_table cd_law_table ct_law_table), sl_law_table⟩) (e_law_table : PySem.W.codeIn K cd_law_table "_law_table" = true) (k_law_table : PySem.W.keepIn K (.ref f_law_table) = true)
    (a_law_times : PySem.W.nsIn K mainGlobals "_law_times" = some (some (.ref f_law_times))) (l_law_times : K.lookup f_law_times = some ⟨oc_law_times, od_law_times, .func (PySem.W.fnOf "_law_times" "_law_times" (C8.fnArgs (topS 11)) (C8.fnBody (topS 11)) (C8.fnScope (topS 11)) .none kV_law_times dc_law_times pm_law_times an_law_times cd_law_times ct_law_times), sl_law_times⟩) (e_law_times : PySem.W.codeIn K cd_law_times "_law_times" = true) (k_law_times : PySem.W.keepIn K (.ref f_law_times) = true)
    (a_law_unit : PySem.W.nsIn K mainGlobals "_law_unit" = some (some (.ref f_law_unit))) (l_law_unit : K.lookup f_law_unit = some ⟨oc_law_unit, od_law_unit, .func (PySem.W.fnOf "_law_unit" "_law_unit" (C8.fnArgs (topS 12)) (C8.fnBody (topS 12)) (C8.fnScope (topS 12)) .none kV_law_unit dc_law_unit pm_law_unit an_law_unit cd_law_unit ct_law_unit), sl_law_unit⟩) (e_law_unit : PySem.W.codeIn K cd_law_unit "_law_unit" = true) (k_law_unit : PySem.W.keepIn K (.ref f_law_unit) = true)
    (a_law_worth : PySem.W.nsIn K mainGlobals "_law_worth" = some (some (.ref f_law_worth))) (l_law_worth : K.lookup f_law_worth = some ⟨oc_law_worth, od_law_worth, .func (PySem.W.fnOf "_law_worth" "_law_worth" (C8.fnArgs (topS 13)) (C8.fnBody (topS 13)) (C8.fnScope (topS 13)) .none kV_law_worth dc_law_worth pm_law_worth an_law_worth cd_law_worth ct_law_worth), sl_law_worth⟩) (e_law_worth : PySem.W.codeIn K cd_law_worth "_law_worth" = true) (k_law_worth : PySem.W.keepIn K (.ref f_law_worth) = true)
    (a_law_by : PySem.W.nsIn K mainGlobals "_law_by" = some (some (.ref f_law_by))) (l_law_by : K.lookup f_law_by = some ⟨oc_law_by, od_law_by, .func (PySem.W.fnOf "_law_by" "_law_by" (C8.fnArgs (topS 14)) (C8.fnBody (topS 14)) (C8.fnScope (topS 14)) .none kV_law_by dc_law_by pm_law_by an_law_by cd_law_by ct_law_by), sl_law_by⟩) (e_law_by : PySem.W.codeIn K cd_law_by "_law_by" = true) (k_law_by : PySem.W.keepIn K (.ref f_law_by) = true)
    (a_law_unlike : PySem.W.nsIn K mainGlobals "_law_unlike" = some (some (.ref f_law_unlike))) (l_law_unlike : K.lookup f_law_unlike = some ⟨oc_law_unlike, od_law_unlike, .func (PySem.W.fnOf "_law_unlike" "_law_unlike" (C8.fnArgs (topS 15)) (C8.fnBody (topS 15)) (C8.fnScope (topS 15)) .none kV_law_unlike dc_law_unlike pm_law_unlike an_law_unlike cd_law_unlike ct_law_unlike), sl_law_unlike⟩) (e_law_unlike : PySem.W.codeIn K cd_law_unlike "_law_unlike" = true) (k_law_unlike : PySem.W.keepIn K (.ref f_law_unlike) = true)
    (a_law_rest : PySem.W.nsIn K mainGlobals "_law_rest" = some (some (.ref f_law_rest))) (l_law_rest : K.lookup f_law_rest = some ⟨oc_law_rest, od_law_rest, .func (PySem.W.fnOf "_law_rest" "_law_rest" (C8.fnArgs (topS 16)) (C8.fnBody (topS 16)) (C8.fnScope (topS 16)) .none kV_law_rest dc_law_rest pm_law_rest an_law_rest cd_law_rest ct_law_rest), sl_law_rest⟩) (e_law_rest : PySem.W.codeIn K cd_law_rest "_law_rest" = true) (k_law_rest : PySem.W.keepIn K (.ref f_law_rest) = true)
    (a_law_is_table : PySem.W.nsIn K mainGlobals "_law_is_table" = some (some (.ref f_law_is_table))) (l_law_is_table : K.lookup f_law_is_table = some ⟨oc_law_is_table, od_law_is_table, .func (PySem.W.fnOf "_law_is_table" "_law_is_table" (C8.fnArgs (topS 17)) (C8.fnBody (topS 17)) (C8.fnScope (topS 17)) .none kV_law_is_table dc_law_is_table pm_law_is_table an_law_is_table cd_law_is_table ct_law_is_table), sl_law_is_table⟩) (e_law_is_table : PySem.W.codeIn K cd_law_is_table "_law_is_table" = true) (k_law_is_table : PySem.W.keepIn K (.ref f_law_is_table) = true)
    (a_law_is_powers : PySem.W.nsIn K mainGlobals "_law_is_powers" = some (some (.ref f_law_is_powers))) (l_law_is_powers : K.lookup f_law_is_powers = some ⟨oc_law_is_powers, od_law_is_powers, .func (PySem.W.fnOf "_law_is_powers" "_law_is_powers" (C8.fnArgs (topS 18)) (C8.fnBody (topS 18)) (C8.fnScope (topS 18)) .none kV_law_is_powers dc_law_is_powers pm_law_is_powers an_law_is_powers cd_law_is_powers ct_law_is_powers), sl_law_is_powers⟩) (e_law_is_powers : PySem.W.codeIn K cd_law_is_powers "_law_is_powers" = true) (k_law_is_powers : PySem.W.keepIn K (.ref f_law_is_powers) = true)
    (a_law_spoilt : PySem.W.nsIn K mainGlobals "_law_spoilt" = some (some (.ref f_law_spoilt))) (l_law_spoilt : K.lookup f_law_spoilt = some ⟨oc_law_spoilt, od_law_spoilt, .func (PySem.W.fnOf "_law_spoilt" "_law_spoilt" (C8.fnArgs (topS 19)) (C8.fnBody (topS 19)) (C8.fnScope (topS 19)) .none kV_law_spoilt dc_law_spoilt pm_law_spoilt an_law_spoilt cd_law_spoilt ct_law_spoilt), sl_law_spoilt⟩) (e_law_spoilt : PySem.W.codeIn K cd_law_spoilt "_law_spoilt" = true) (k_law_spoilt : PySem.W.keepIn K (.ref f_law_spoilt) = true)
    (a_law : PySem.W.nsIn K mainGlobals "law" = some (some (.ref f_law))) (l_law : K.lookup f_law = some ⟨oc_law, od_law, .func (PySem.W.fnOf "law" "law" (C8.fnArgs (topS 20)) (C8.fnBody (topS 20)) (C8.fnScope (topS 20)) .none kV_law dc_law pm_law an_law cd_law ct_law), sl_law⟩) (e_law : PySem.W.codeIn K cd_law "law" = true) (k_law : PySem.W.keepIn K (.ref f_law) = true)
    (g_MOST_POWERS : PySem.W.nsIn K mainGlobals "MOST_POWERS" = some (some (.int 7 tk_MOST_POWERS)))
    (g_MOST_SIZE : PySem.W.nsIn K mainGlobals "MOST_SIZE" = some (some (.int 3 tk_MOST_SIZE)))
    (z_len : PySem.W.nsIn K mainGlobals "len" = some none)
    (z_zip : PySem.W.nsIn K mainGlobals "zip" = some none)
    (z_range : PySem.W.nsIn K mainGlobals "range" = some none)
    (z_enumerate : PySem.W.nsIn K mainGlobals "enumerate" = some none)
    (z_tuple : PySem.W.nsIn K mainGlobals "tuple" = some none)
    (z_list : PySem.W.nsIn K mainGlobals "list" = some none)
    (z_sum : PySem.W.nsIn K mainGlobals "sum" = some none)
    (z_all : PySem.W.nsIn K mainGlobals "all" = some none)
    (z_any : PySem.W.nsIn K mainGlobals "any" = some none)
    (z_int : PySem.W.nsIn K mainGlobals "int" = some none)
    (z_str : PySem.W.nsIn K mainGlobals "str" = some none)
    (z_bool : PySem.W.nsIn K mainGlobals "bool" = some none)
    (z_min : PySem.W.nsIn K mainGlobals "min" = some none)
    (z_max : PySem.W.nsIn K mainGlobals "max" = some none)
    (z_sorted : PySem.W.nsIn K mainGlobals "sorted" = some none)
    (z_set : PySem.W.nsIn K mainGlobals "set" = some none)
    (z_isinstance : PySem.W.nsIn K mainGlobals "isinstance" = some none)
    (z_ValueError : PySem.W.nsIn K mainGlobals "ValueError" = some none) :
    ∃ fd : FuncData, (∀ (s : Shared) (v : Value), BindsTo s fd ⟨[v], []⟩ [("_law_script", v)]) ∧ ∀ base : Heap, K.In base → base.Ns mainGlobals mg → FnOk l.prog w K mg base C8.CX0 8 fa fd ["_law_script"] (spD 1 m_law K) := by
  have D_is_rest : C8.Def K mg "is_rest" (topS 3) f_is_rest _ := ⟨⟨oc_is_rest, od_is_rest, .none, kV_is_rest, dc_is_rest, pm_is_rest, an_is_rest, cd_is_rest, ct_is_rest, sl_is_rest, rfl, l_is_rest, e_is_rest⟩, PySem.W.mg_of X G a_is_rest, k_is_rest⟩
  have B_is_rest := C8.Fun.binds (ps := ["thing", "by"]) D_is_rest.fn rfl fun _ _ _ _ _ _ us hl => match us, hl with | [_, _], _ => rfl
  have D_is_table : C8.Def K mg "is_table" (topS 4) f_is_table _ := ⟨⟨oc_is_table, od_is_table, .none, kV_is_table, dc_is_table, pm_is_table, an_is_table, cd_is_table, ct_is_table, sl_is_table, rfl, l_is_table, e_is_table⟩, PySem.W.mg_of X G a_is_table, k_is_table⟩
  have B_is_table := C8.Fun.binds (ps := ["thing", "by"]) D_is_table.fn rfl fun _ _ _ _ _ _ us hl => match us, hl with | [_, _], _ => rfl
  have D_is_powers : C8.Def K mg "is_powers" (topS 5) f_is_powers _ := ⟨⟨oc_is_powers, od_is_powers, .none, kV_is_powers, dc_is_powers, pm_is_powers, an_is_powers, cd_is_powers, ct_is_powers, sl_is_powers, rfl, l_is_powers, e_is_powers⟩, PySem.W.mg_of X G a_is_powers, k_is_powers⟩
  have B_is_powers := C8.Fun.binds (ps := ["thing", "by"]) D_is_powers.fn rfl fun _ _ _ _ _ _ us hl => match us, hl with | [_, _], _ => rfl
  have D_law_cell_at : C8.Def K mg "_law_cell_at" (topS 7) f_law_cell_at _ := ⟨⟨oc_law_cell_at, od_law_cell_at, .none, kV_law_cell_at, dc_law_cell_at, pm_law_cell_at, an_law_cell_at, cd_law_cell_at, ct_law_cell_at, sl_law_cell_at, rfl, l_law_cell_at, e_law_cell_at⟩, PySem.W.mg_of X G a_law_cell_at, k_law_cell_at⟩
  have B_law_cell_at := C8.Fun.binds (ps := ["_law_script", "_law_k"]) D_law_cell_at.fn rfl fun _ _ _ _ _ _ us hl => match us, hl with | [_, _], _ => rfl
  have D_law_mixed : C8.Def K mg "_law_mixed" (topS 8) f_law_mixed _ := ⟨⟨oc_law_mixed, od_law_mixed, .none, kV_law_mixed, dc_law_mixed, pm_law_mixed, an_law_mixed, cd_law_mixed, ct_law_mixed, sl_law_mixed, rfl, l_law_mixed, e_law_mixed⟩, PySem.W.mg_of X G a_law_mixed, k_law_mixed⟩
  have B_law_mixed := C8.Fun.binds (ps := ["_law_script", "_law_k"]) D_law_mixed.fn rfl fun _ _ _ _ _ _ us hl => match us, hl with | [_, _], _ => rfl
  have D_law_drawn : C8.Def K mg "_law_drawn" (topS 9) f_law_drawn _ := ⟨⟨oc_law_drawn, od_law_drawn, .none, kV_law_drawn, dc_law_drawn, pm_law_drawn, an_law_drawn, cd_law_drawn, ct_law_drawn, sl_law_drawn, rfl, l_law_drawn, e_law_drawn⟩, PySem.W.mg_of X G a_law_drawn, k_law_drawn⟩
  have B_law_drawn := C8.Fun.binds (ps := ["_law_number", "_law_k"]) D_law_drawn.fn rfl fun _ _ _ _ _ _ us hl => match us, hl with | [_, _], _ => rfl
  have D_law_table : C8.Def K mg "_law_table" (topS 10) f_law_table _ := ⟨⟨oc_law_table, od_law_table, .none, kV_law_table, dc_law_table, pm_law_table, an_law_table, cd_law_table, ct_law_table, sl_law_table, rfl, l_law_table, e_law_table⟩, PySem.W.mg_of X G a_law_table, k_law_table⟩
  have B_law_table := C8.Fun.binds (ps := ["_law_number", "_law_by_here", "_law_rows", "_law_columns"]) D_law_table.fn rfl fun _ _ _ _ _ _ us hl => match us, hl with | [_, _, _, _], _ => rfl
  have D_law_times : C8.Def K mg "_law_times" (topS 11) f_law_times _ := ⟨⟨oc_law_times, od_law_times, .none, kV_law_times, dc_law_times, pm_law_times, an_law_times, cd_law_times, ct_law_times, sl_law_times, rfl, l_law_times, e_law_times⟩, PySem.W.mg_of X G a_law_times, k_law_times⟩
  have B_law_times := C8.Fun.binds (ps := ["_law_by_here", "_law_one", "_law_other"]) D_law_times.fn rfl fun _ _ _ _ _ _ us hl => match us, hl with | [_, _, _], _ => rfl
  have D_law_unit : C8.Def K mg "_law_unit" (topS 12) f_law_unit _ := ⟨⟨oc_law_unit, od_law_unit, .none, kV_law_unit, dc_law_unit, pm_law_unit, an_law_unit, cd_law_unit, ct_law_unit, sl_law_unit, rfl, l_law_unit, e_law_unit⟩, PySem.W.mg_of X G a_law_unit, k_law_unit⟩
  have B_law_unit := C8.Fun.binds (ps := ["_law_size"]) D_law_unit.fn rfl fun _ _ _ _ _ _ us hl => match us, hl with | [_], _ => rfl
  have D_law_worth : C8.Def K mg "_law_worth" (topS 13) f_law_worth _ := ⟨⟨oc_law_worth, od_law_worth, .none, kV_law_worth, dc_law_worth, pm_law_worth, an_law_worth, cd_law_worth, ct_law_worth, sl_law_worth, rfl, l_law_worth, e_law_worth⟩, PySem.W.mg_of X G a_law_worth, k_law_worth⟩
  have B_law_worth := C8.Fun.binds (ps := ["_law_by_here", "_law_table_here"]) D_law_worth.fn rfl fun _ _ _ _ _ _ us hl => match us, hl with | [_, _], _ => rfl
  have D_law_by : C8.Def K mg "_law_by" (topS 14) f_law_by _ := ⟨⟨oc_law_by, od_law_by, .none, kV_law_by, dc_law_by, pm_law_by, an_law_by, cd_law_by, ct_law_by, sl_law_by, rfl, l_law_by, e_law_by⟩, PySem.W.mg_of X G a_law_by, k_law_by⟩
  have B_law_by := C8.Fun.binds (ps := ["_law_number"]) D_law_by.fn rfl fun _ _ _ _ _ _ us hl => match us, hl with | [_], _ => rfl
  have D_law_unlike : C8.Def K mg "_law_unlike" (topS 15) f_law_unlike _ := ⟨⟨oc_law_unlike, od_law_unlike, .none, kV_law_unlike, dc_law_unlike, pm_law_unlike, an_law_unlike, cd_law_unlike, ct_law_unlike, sl_law_unlike, rfl, l_law_unlike, e_law_unlike⟩, PySem.W.mg_of X G a_law_unlike, k_law_unlike⟩
  have B_law_unlike := C8.Fun.binds (ps := ["_law_by_here", "_law_table_here", "_law_number"]) D_law_unlike.fn rfl fun _ _ _ _ _ _ us hl => match us, hl with | [_, _, _], _ => rfl
  have D_law_rest : C8.Def K mg "_law_rest" (topS 16) f_law_rest _ := ⟨⟨oc_law_rest, od_law_rest, .none, kV_law_rest, dc_law_rest, pm_law_rest, an_law_rest, cd_law_rest, ct_law_rest, sl_law_rest, rfl, l_law_rest, e_law_rest⟩, PySem.W.mg_of X G a_law_rest, k_law_rest⟩
  have B_law_rest := C8.Fun.binds (ps := ["_law_thing", "_law_by_here"]) D_law_rest.fn rfl fun _ _ _ _ _ _ us hl => match us, hl with | [_, _], _ => rfl
  have D_law_is_table : C8.Def K mg "_law_is_table" (topS 17) f_law_is_table _ := ⟨⟨oc_law_is_table, od_law_is_table, .none, kV_law_is_table, dc_law_is_table, pm_law_is_table, an_law_is_table, cd_law_is_table, ct_law_is_table, sl_law_is_table, rfl, l_law_is_table, e_law_is_table⟩, PySem.W.mg_of X G a_law_is_table, k_law_is_table⟩
  have B_law_is_table := C8.Fun.binds (ps := ["_law_thing", "_law_by_here"]) D_law_is_table.fn rfl fun _ _ _ _ _ _ us hl => match us, hl with | [_, _], _ => rfl
  have D_law_is_powers : C8.Def K mg "_law_is_powers" (topS 18) f_law_is_powers _ := ⟨⟨oc_law_is_powers, od_law_is_powers, .none, kV_law_is_powers, dc_law_is_powers, pm_law_is_powers, an_law_is_powers, cd_law_is_powers, ct_law_is_powers, sl_law_is_powers, rfl, l_law_is_powers, e_law_is_powers⟩, PySem.W.mg_of X G a_law_is_powers, k_law_is_powers⟩
  have B_law_is_powers := C8.Fun.binds (ps := ["_law_thing", "_law_by_here"]) D_law_is_powers.fn rfl fun _ _ _ _ _ _ us hl => match us, hl with | [_, _], _ => rfl
  have D_law_spoilt : C8.Def K mg "_law_spoilt" (topS 19) f_law_spoilt _ := ⟨⟨oc_law_spoilt, od_law_spoilt, .none, kV_law_spoilt, dc_law_spoilt, pm_law_spoilt, an_law_spoilt, cd_law_spoilt, ct_law_spoilt, sl_law_spoilt, rfl, l_law_spoilt, e_law_spoilt⟩, PySem.W.mg_of X G a_law_spoilt, k_law_spoilt⟩
  have B_law_spoilt := C8.Fun.binds (ps := ["_law_thing", "_law_number", "_law_deep"]) D_law_spoilt.fn rfl fun _ _ _ _ _ _ us hl => match us, hl with | [_, _, _], _ => rfl
  have D_law : C8.Def K mg "law" (topS 20) f_law _ := ⟨⟨oc_law, od_law, .none, kV_law, dc_law, pm_law, an_law, cd_law, ct_law, sl_law, rfl, l_law, e_law⟩, PySem.W.mg_of X G a_law, k_law⟩
  have B_law := C8.Fun.binds (ps := ["_law_script"]) D_law.fn rfl fun _ _ _ _ _ _ us hl => match us, hl with | [_], _ => rfl
  have Z : Bl mg := ⟨PySem.W.mg_none_of X G z_len, PySem.W.mg_none_of X G z_zip, PySem.W.mg_none_of X G z_range, PySem.W.mg_none_of X G z_enumerate, PySem.W.mg_none_of X G z_tuple, PySem.W.mg_none_of X G z_list, PySem.W.mg_none_of X G z_sum, PySem.W.mg_none_of X G z_all, PySem.W.mg_none_of X G z_any, PySem.W.mg_none_of X G z_int, PySem.W.mg_none_of X G z_str, PySem.W.mg_none_of X G z_bool, PySem.W.mg_none_of X G z_min, PySem.W.mg_none_of X G z_max, PySem.W.mg_none_of X G z_sorted, PySem.W.mg_none_of X G z_set, PySem.W.mg_none_of X G z_isinstance, PySem.W.mg_none_of X G z_ValueError⟩
  have c_MOST_POWERS := PySem.W.mg_of X G g_MOST_POWERS
  have c_MOST_SIZE := PySem.W.mg_of X G g_MOST_SIZE
  have ef := hfa.symm.trans (PySem.W.mg_of X G a_law)
  cases ef
  refine ⟨PySem.W.fnOf "law" "law" (C8.fnArgs (topS 20)) (C8.fnBody (topS 20)) (C8.fnScope (topS 20)) .none kV_law dc_law pm_law an_law cd_law ct_law, fun s v => .of_eq rfl, fun base Kb Gb => ?_⟩
  have c_is_rest : C8.Cal l.prog w K mg base 1 "is_rest" (spD 2 m_is_rest K) [] := ⟨f_is_rest, _, _, [], w_is_rest D_is_rest B_is_rest Z, D_is_rest.mgf, D_is_rest.kp, B_is_rest, .nil⟩
  have c_is_table : C8.Cal l.prog w K mg base 2 "is_table" (spD 2 m_is_table K) [] := ⟨f_is_table, _, _, [], w_is_table D_is_table B_is_table Z c_MOST_SIZE c_is_rest, D_is_table.mgf, D_is_table.kp, B_is_table, .nil⟩
  have c_is_powers : C8.Cal l.prog w K mg base 2 "is_powers" (spD 2 m_is_powers K) [] := ⟨f_is_powers, _, _, [], w_is_powers D_is_powers B_is_powers Z c_MOST_POWERS c_is_rest, D_is_powers.mgf, D_is_powers.kp, B_is_powers, .nil⟩
  have c__law_cell_at : C8.Cal l.prog w K mg base 1 "_law_cell_at" (spD 2 m_law_cell_at K) [] := ⟨f_law_cell_at, _, _, [], w_law_cell_at D_law_cell_at B_law_cell_at Z, D_law_cell_at.mgf, D_law_cell_at.kp, B_law_cell_at, .nil⟩
  have c__law_mixed : C8.Cal l.prog w K mg base 2 "_law_mixed" (spD 2 m_law_mixed K) [] := ⟨f_law_mixed, _, _, [], w_law_mixed D_law_mixed B_law_mixed Z c__law_cell_at, D_law_mixed.mgf, D_law_mixed.kp, B_law_mixed, .nil⟩
  have c__law_drawn : C8.Cal l.prog w K mg base 1 "_law_drawn" (spD 2 m_law_drawn K) [] := ⟨f_law_drawn, _, _, [], w_law_drawn D_law_drawn B_law_drawn Z, D_law_drawn.mgf, D_law_drawn.kp, B_law_drawn, .nil⟩
  have c__law_table : C8.Cal l.prog w K mg base 2 "_law_table" (spD 4 m_law_table K) [] := ⟨f_law_table, _, _, [], w_law_table D_law_table B_law_table Z c__law_drawn, D_law_table.mgf, D_law_table.kp, B_law_table, .nil⟩
  have c__law_times : C8.Cal l.prog w K mg base 1 "_law_times" (spD 3 m_law_times K) [] := ⟨f_law_times, _, _, [], w_law_times D_law_times B_law_times Z, D_law_times.mgf, D_law_times.kp, B_law_times, .nil⟩
  have c__law_unit : C8.Cal l.prog w K mg base 1 "_law_unit" (spD 1 m_law_unit K) [] := ⟨f_law_unit, _, _, [], w_law_unit D_law_unit B_law_unit Z, D_law_unit.mgf, D_law_unit.kp, B_law_unit, .nil⟩
  have c__law_worth : C8.Cal l.prog w K mg base 1 "_law_worth" (spD 2 m_law_worth K) [] := ⟨f_law_worth, _, _, [], w_law_worth D_law_worth B_law_worth Z, D_law_worth.mgf, D_law_worth.kp, B_law_worth, .nil⟩
  have c__law_by : C8.Cal l.prog w K mg base 1 "_law_by" (spD 1 m_law_by K) [] := ⟨f_law_by, _, _, [], w_law_by D_law_by B_law_by Z, D_law_by.mgf, D_law_by.kp, B_law_by, .nil⟩
  have c__law_unlike : C8.Cal l.prog w K mg base 3 "_law_unlike" (spD 3 m_law_unlike K) [] := ⟨f_law_unlike, _, _, [], w_law_unlike D_law_unlike B_law_unlike Z c__law_table c__law_worth c__law_unit c__law_times, D_law_unlike.mgf, D_law_unlike.kp, B_law_unlike, .nil⟩
  have c__law_rest : C8.Cal l.prog w K mg base 1 "_law_rest" (spD 2 m_law_rest K) [] := ⟨f_law_rest, _, _, [], w_law_rest D_law_rest B_law_rest Z, D_law_rest.mgf, D_law_rest.kp, B_law_rest, .nil⟩
  have c__law_is_table : C8.Cal l.prog w K mg base 2 "_law_is_table" (spD 2 m_law_is_table K) [] := ⟨f_law_is_table, _, _, [], w_law_is_table D_law_is_table B_law_is_table Z c__law_rest, D_law_is_table.mgf, D_law_is_table.kp, B_law_is_table, .nil⟩
  have c__law_is_powers : C8.Cal l.prog w K mg base 2 "_law_is_powers" (spD 2 m_law_is_powers K) [] := ⟨f_law_is_powers, _, _, [], w_law_is_powers D_law_is_powers B_law_is_powers Z c__law_rest, D_law_is_powers.mgf, D_law_is_powers.kp, B_law_is_powers, .nil⟩
  have c__law_spoilt : C8.Cal l.prog w K mg base 7 "_law_spoilt" (spD 3 (m_law_spoilt 6) K) [] := ⟨f_law_spoilt, _, _, [], w_law_spoilt D_law_spoilt B_law_spoilt Z c__law_drawn 6, D_law_spoilt.mgf, D_law_spoilt.kp, B_law_spoilt, .nil⟩
  exact w_law D_law B_law Z c__law_mixed c__law_by c__law_table c__law_drawn c__law_spoilt c_is_table c__law_is_table c_is_powers c__law_is_powers
end Dz

open PySem PySem.W PyProof.Rows
set_option maxHeartbeats 0 in
theorem PySem.Challenge.cw_carrytables_k01_things_holds : PySem.Challenge.rw_carrytables_k01_things.Holds := by
  w_on; o_law; k_head; (case hw => w_witness2)
  k_fill
  refine L2.walk_of (l := PySem.Challenge.rw_carrytables_k01_things) (n := 63) (k := 8) (x := "_law_script") (CX := fun _ => C8.CX0) (sp := fun w => Dz.spD 1 Dz.m_law _) rfl (by decide) rfl ⟨rfl, by decide, by decide⟩ (fun w h Y => PySem.W.kIn_of Y) ?F (fun _ H a ns hl _ hS => Dz.sp_end (Dz.law_true ns hl) hS) (fun _ _ _ _ _ h => h)
  case F =>
    intro w mg fa h KX G hmg
    refine' Dz.all_mk KX G hmg ?a_is_rest ?l_is_rest ?e_is_rest ?k_is_rest ?a_is_table ?l_is_table ?e_is_table ?k_is_table ?a_is_powers ?l_is_powers ?e_is_powers ?k_is_powers ?a_law_cell_at ?l_law_cell_at ?e_law_cell_at ?k_law_cell_at ?a_law_mixed ?l_law_mixed ?e_law_mixed ?k_law_mixed ?a_law_drawn ?l_law_drawn ?e_law_drawn ?k_law_drawn ?a_law_table ?l_law_table ?e_law_table ?k_law_table ?a_law_times ?l_law_times ?e_law_times ?k_law_times ?a_law_unit ?l_law_unit ?e_law_unit ?k_law_unit ?a_law_worth ?l_law_worth ?e_law_worth ?k_law_worth ?a_law_by ?l_law_by ?e_law_by ?k_law_by ?a_law_unlike ?l_law_unlike ?e_law_unlike ?k_law_unlike ?a_law_rest ?l_law_rest ?e_law_rest ?k_law_rest ?a_law_is_table ?l_law_is_table ?e_law_is_table ?k_law_is_table ?a_law_is_powers ?l_law_is_powers ?e_law_is_powers ?k_law_is_powers ?a_law_spoilt ?l_law_spoilt ?e_law_spoilt ?k_law_spoilt ?a_law ?l_law ?e_law ?k_law ?g_MOST_POWERS ?g_MOST_SIZE ?z_len ?z_zip ?z_range ?z_enumerate ?z_tuple ?z_list ?z_sum ?z_all ?z_any ?z_int ?z_str ?z_bool ?z_min ?z_max ?z_sorted ?z_set ?z_isinstance ?z_ValueError
    (case a_is_rest => k_is)
    (case l_is_rest => k_is)
    (case e_is_rest => k_is)
    (case k_is_rest => k_is)
    (case a_is_table => k_is)
    (case l_is_table => k_is)
    (case e_is_table => k_is)
    (case k_is_table => k_is)
    (case a_is_powers => k_is)
    (case l_is_powers => k_is)
    (case e_is_powers => k_is)
    (case k_is_powers => k_is)
    (case a_law_cell_at => k_is)
    (case l_law_cell_at => k_is)
    (case e_law_cell_at => k_is)
    (case k_law_cell_at => k_is)
    (case a_law_mixed => k_is)
    (case l_law_mixed => k_is)
    (case e_law_mixed => k_is)
    (case k_law_mixed => k_is)
    (case a_law_drawn => k_is)
    (case l_law_drawn => k_is)
    (case e_law_drawn => k_is)
    (case k_law_drawn => k_is)
    (case a_law_table => k_is)
    (case l_law_table => k_is)
    (case e_law_table => k_is)
    (case k_law_table => k_is)
    (case a_law_times => k_is)
    (case l_law_times => k_is)
    (case e_law_times => k_is)
    (case k_law_times => k_is)
    (case a_law_unit => k_is)
    (case l_law_unit => k_is)
    (case e_law_unit => k_is)
    (case k_law_unit => k_is)
    (case a_law_worth => k_is)
    (case l_law_worth => k_is)
    (case e_law_worth => k_is)
    (case k_law_worth => k_is)
    (case a_law_by => k_is)
    (case l_law_by => k_is)
    (case e_law_by => k_is)
    (case k_law_by => k_is)
    (case a_law_unlike => k_is)
    (case l_law_unlike => k_is)
    (case e_law_unlike => k_is)
    (case k_law_unlike => k_is)
    (case a_law_rest => k_is)
    (case l_law_rest => k_is)
    (case e_law_rest => k_is)
    (case k_law_rest => k_is)
    (case a_law_is_table => k_is)
    (case l_law_is_table => k_is)
    (case e_law_is_table => k_is)
    (case k_law_is_table => k_is)
    (case a_law_is_powers => k_is)
    (case l_law_is_powers => k_is)
    (case e_law_is_powers => k_is)
    (case k_law_is_powers => k_is)
    (case a_law_spoilt => k_is)
    (case l_law_spoilt => k_is)
    (case e_law_spoilt => k_is)
    (case k_law_spoilt => k_is)
    (case a_law => k_is)
    (case l_law => k_is)
    (case e_law => k_is)
    (case k_law => k_is)
    (case g_MOST_POWERS => k_is)
    (case g_MOST_SIZE => k_is)
    (case z_len => k_is)
    (case z_zip => k_is)
    (case z_range => k_is)
    (case z_enumerate => k_is)
    (case z_tuple => k_is)
    (case z_list => k_is)
    (case z_sum => k_is)
    (case z_all => k_is)
    (case z_any => k_is)
    (case z_int => k_is)
    (case z_str => k_is)
    (case z_bool => k_is)
    (case z_min => k_is)
    (case z_max => k_is)
    (case z_sorted => k_is)
    (case z_set => k_is)
    (case z_isinstance => k_is)
    (case z_ValueError => k_is)
