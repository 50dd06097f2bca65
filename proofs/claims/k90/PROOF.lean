import PyProof.Rows.All
import Wide.All
import OpenK.AllK
import Wide.FinOn
import HandS.TupMul
import HandS.ForMost
import HandS.ForExc
import HandS.IsInst
import HandS.Wide
import HandS.TupAny
import HandS.TupLe
import HandS.Zip
import HandS.Walk
import HandS.Evl
import HandS.Deep
import HandS.StrMore
import HandS.EndBits
import HandS.Codes
import HandS.Flow
import HandS.Style
import HandS.TupLen
import HandS.Lambda
import KE.GoesMore
import KE.GoesEnum
import PyProof.EnumMake
import HandS.NoneIn
import HandS.TupSets
import KE.DataCmp
import KE.SortData
import KE.KDictDisplayH
import HandS.DictEq
import HandS.EndOwn
import HandS.ExcOwn
import HandS.ExcIs
import HandS.Text
import PyProof.Rows.StrStep
import PySem.Challenge.RW_carrytables_k90_whole_refusals
set_option Elab.async false
set_option linter.all false
set_option maxRecDepth 100000
set_option maxHeartbeats 4000000
/-! Dz0: tuple * 1. -/
namespace Dz
open PySem PySem.Spec PyProof.Rows L2
theorem tuple_mul1 (l : Addr) (items : Array Value) (n : Nat) (dd : Option Addr) (sl : Array (Option Value)) (u : Tok) :
    Meets (Builtin.«tuple.__mul__» ⟨[.ref l, .int 1 u], []⟩) (fun _ R s => s.heap.get? l = some { cls := .type "tuple", dict := dd, data := .seq items n, slots := sl } ∧ R (.ok (.ret (Value.ref l))) s) :=
  .of_wp fun prog w A R s h => by
    obtain ⟨hp, g, d, tk, os⟩ := s
    obtain ⟨hl, h⟩ := h
    have f1 := AutoSeq1.idx_int
    wp_walk using wpAny_loadPart' hl
    exact ⟨_, rfl, h⟩
theorem tuple_mul0 (l : Addr) (items : Array Value) (n : Nat) (dd : Option Addr) (sl : Array (Option Value)) (u : Tok) (c1 : (items.isEmpty || (0 : Int) == 1) = false) :
    Meets (Builtin.«tuple.__mul__» ⟨[.ref l, .int 0 u], []⟩) (fun _ R s => s.heap.get? l = some { cls := .type "tuple", dict := dd, data := .seq items n, slots := sl } ∧
      R (.ok (.ret (Value.ref s.heap.objs.size))) { s with heap := s.heap.push { cls := Value.type "tuple", data := Data.seq #[] }, toks := s.toks }) :=
  .of_wp fun prog w A R s h => by
    obtain ⟨hp, g, d, tk, os⟩ := s
    obtain ⟨hl, h⟩ := h
    have f1 := AutoSeq1.idx_int
    wp_walk using wpAny_loadPart' hl
    refine wpAny_ite_false (decide_eq_false (by rw [c1]; exact Bool.false_ne_true)) ?_
    wp_walk using wpAny_loadPart' hl
    exact ⟨_, rfl, h⟩
def rRep0 (K : PySem.W.Frag) : R2 := fun x y H Q => ∃ l xs, x = .ref l ∧ y = .int 0 ∧ SqT K H l xs ∧ xs ≠ [] ∧ ∀ p, H p = none → Q (.ref p) (upd H p (.tup []))
theorem op_rep0 {X : Cx} : OpR X (binaryOp .Mult) (rRep0 X.K) := by
  intro pins s σ H x y v u Q I rx ry h
  obtain ⟨l, xs, rfl, rfl, hT, hne, q⟩ := h
  cases rx
  obtain ⟨t, rfl⟩ := ry
  obtain ⟨its, r, ⟨⟨cls, dd, data, sl⟩, ho, hc, n, hd⟩, hs⟩ := I.tuple hT
  simp only at hc hd
  subst hc hd
  have hle : its.length = xs.length := r.length.symm
  have c1 : (its.toArray.isEmpty || (0 : Int) == 1) = false := by
    cases its with
    | nil => exact absurd (List.eq_nil_of_length_eq_zero hle.symm) hne
    | cons a b => rfl
  refine wpAny_binaryOp_repeat_ref (T := "tuple") (U := "int") (by decide) ⟨_, ho, rfl⟩ (fun s' => typeIs_int s' 0 t) noFill_tuple_mul F.fills_int_mul F.slot_int_rmul repeat_tuple F.slot_int_index.lookup
    (call_meets F.slot_int_rmul (typeIs_int s 0 t) F.entry_int_rmul (F.args_int_rmul_2 _ _) (int_rmul_tuple 0 t l its.toArray n dd sl)
      ⟨ho, rfl, ⟨_, ho, rfl⟩, call_meets F.slot_tuple_mul ⟨_, ho, rfl⟩ F.entry_tuple_mul (F.args_tuple_mul_2 _ _) (tuple_mul0 l its.toArray n dd sl t c1) ⟨ho, ?_⟩⟩)
  refine ⟨.ref s.heap.objs.size, _, I.laid (t' := s.toks) (o := .tup []) (fun b ob q => Heap.get?_push_of_some _ q) (Nat.le_refl _) ?_, rfl, q _ (I.hok.fresh (Nat.le_refl _))⟩
  exact ⟨by rw [sizeLine_eq]; decide, _, .nil, IsTup.new _ _⟩
def rRep1 (K : PySem.W.Frag) : R2 := fun x y H Q => ∃ l xs, x = .ref l ∧ y = .int 1 ∧ SqT K H l xs ∧ Q (.ref l) H
theorem op_rep1 {X : Cx} : OpR X (binaryOp .Mult) (rRep1 X.K) := by
  intro pins s σ H x y v u Q I rx ry h
  obtain ⟨l, xs, rfl, rfl, hT, q⟩ := h
  cases rx
  obtain ⟨t, rfl⟩ := ry
  obtain ⟨its, r, ⟨⟨cls, dd, data, sl⟩, ho, hc, n, hd⟩, hs⟩ := I.tuple hT
  simp only at hc hd
  subst hc hd
  refine wpAny_binaryOp_repeat_ref (T := "tuple") (U := "int") (by decide) ⟨_, ho, rfl⟩ (fun s' => typeIs_int s' 1 t) noFill_tuple_mul F.fills_int_mul F.slot_int_rmul repeat_tuple F.slot_int_index.lookup
    (call_meets F.slot_int_rmul (typeIs_int s 1 t) F.entry_int_rmul (F.args_int_rmul_2 _ _) (int_rmul_tuple 1 t l its.toArray n dd sl)
      ⟨ho, rfl, ⟨_, ho, rfl⟩, call_meets F.slot_tuple_mul ⟨_, ho, rfl⟩ F.entry_tuple_mul (F.args_tuple_mul_2 _ _) (tuple_mul1 l its.toArray n dd sl t) ⟨ho, ?_⟩⟩)
  exact ⟨.ref l, H, I, rfl, q⟩
end Dz

/-! Dz: programs over plain data. A piece of Python is told by a function of the data in its slots. -/
namespace Dz
open PySem PySem.Spec PyProof.Rows L2 Evl LamX

/-! ### what stays -/
/-- the name that the code of the law's lambdas bears -/
def lamQ : Str := ("law" ++ ".<locals>." : Str) ++ "<lambda>"
/-- all but the tables of code objects stays -/
structure Ed (H H' : Hp) : Prop where
  keep : ∀ a o, H a = some o → (n : ∀ ps, o ≠ .tbl ps := by (intro _ z; cases z)) → H' a = some o
  tbl : ∀ a ps, H a = some (.tbl ps) → ∃ ps', H' a = some (.tbl ps')
instance {H H' : Hp} : CoeFun (Ed H H') (fun _ => ∀ a o, H a = some o → (n : ∀ ps, o ≠ .tbl ps := by (intro _ z; cases z)) → H' a = some o) := ⟨fun e => @Ed.keep H H' e⟩
/-- .. and the tables tell lambdas' codes alone -/
structure Ex (H H' : Hp) : Prop extends Ed H H' where
  tb : ∀ P, TabS H P lamQ → TabS H' P lamQ
instance {H H' : Hp} : CoeFun (Ex H H') (fun _ => ∀ a o, H a = some o → (n : ∀ ps, o ≠ .tbl ps := by (intro _ z; cases z)) → H' a = some o) := ⟨fun e => @Ed.keep H H' e.toEd⟩
instance {H H' : Hp} : Coe (Ex H H') (Ed H H') := ⟨Ex.toEd⟩
theorem tbl_or (o : HO) : (∃ ps, o = .tbl ps) ∨ ∀ ps, o ≠ .tbl ps := by
  cases o with
  | tbl ps => exact .inl ⟨ps, rfl⟩
  | _ => exact .inr fun _ z => by cases z
theorem Ed.of {H H' : Hp} (e : ∀ a o, H a = some o → H' a = some o) : Ed H H' := ⟨fun a o h _ => e a o h, fun a ps h => ⟨ps, e a _ h⟩⟩
theorem Ex.of {H H' : Hp} (e : ∀ a o, H a = some o → H' a = some o) : Ex H H' := ⟨Ed.of e, fun _ t => t.ext e⟩
theorem Ed.refl (H : Hp) : Ed H H := .of fun _ _ h => h
theorem Ex.refl (H : Hp) : Ex H H := .of fun _ _ h => h
theorem Ed.trans {H H1 H2 : Hp} (a : Ed H H1) (b : Ed H1 H2) : Ed H H2 := ⟨fun x o h n => b.keep x o (a.keep x o h n) n, fun x ps h => let ⟨ps', h'⟩ := a.tbl x ps h; b.tbl x ps' h'⟩
theorem Ex.trans {H H1 H2 : Hp} (a : Ex H H1) (b : Ex H1 H2) : Ex H H2 := ⟨a.toEd.trans b.toEd, fun P t => b.tb P (a.tb P t)⟩
theorem Ex.new {H : Hp} {p : Addr} {o : HO} (h : H p = none) : Ex H (upd H p o) := .of fun a u e => by
  rw [upd_ne (ne_of_none e h)]
  exact e
theorem Ex.mut {H H' : Hp} {p : Addr} {o : HO} (e : Ex H H') (h : H' p = none) : Ex H (upd H' p o) := e.trans (.new h)
theorem ex_rd {H H' : Hp} {a : Addr} {u : HO} (e : Ed H H') (h : Rd H a u) (n : ∀ ps, u ≠ .tbl ps := by (intro _ z; cases z)) : Rd H' a u := by
  rcases h with h | ⟨o, h⟩
  · exact Or.inl (e.keep a _ h n)
  · exact Or.inr ⟨o, e.keep a _ h⟩
theorem ex_l {K : PySem.W.Frag} {H H' : Hp} {a : Addr} {xs : List V} (e : Ed H H') (h : SqL K H a xs) : SqL K H' a xs := by
  rcases h with h | h
  · exact Or.inl (ex_rd e h)
  · exact Or.inr h
theorem ex_t {K : PySem.W.Frag} {H H' : Hp} {a : Addr} {xs : List V} (e : Ed H H') (h : SqT K H a xs) : SqT K H' a xs := by
  rcases h with h | h
  · exact Or.inl (ex_rd e h)
  · exact Or.inr h
theorem fresh_back {H H' : Hp} {p : Addr} (e : Ed H H') (h : H' p = none) : H p = none := by
  cases h1 : H p with
  | none => rfl
  | some o =>
    rcases tbl_or o with ⟨ps, rfl⟩ | n
    · obtain ⟨ps', z⟩ := e.tbl p ps h1
      rw [h] at z; cases z
    · have z := e.keep p o h1 n
      rw [h] at z; cases z
/-- what may be written to -/
def Mu : Option HO → Prop
  | some (.lst _) => True
  | some (.dK _) => True
  | some (.dT _) => True
  | some (.set _ _) => True
  | some (.ins _ _ _) => True
  | _ => False
theorem Mu.mut {o : Option HO} (h : Mu o) : Mut o := by
  cases o with
  | none => exact h
  | some o => cases o <;> first | exact h | exact trivial
theorem Mu.nt {o : HO} (h : Mu (some o)) : ∀ ps, o ≠ .tbl ps := fun ps z => by subst z; exact h
theorem tabs_upd {H : Hp} {P a : Addr} {q : Str} {o : HO} (t : TabS H P q) (m : Mu (H a)) : TabS (upd H a o) P q := by
  obtain ⟨ps, h1, h2, h3⟩ := t
  refine ⟨ps, ?_, h2, fun pos cv hc => ?_⟩
  · rw [upd_ne fun z => by rw [← z, h1] at m; exact m]; exact h1
  · obtain ⟨c, e1, e2⟩ := h3 pos cv hc
    refine ⟨c, e1, ?_⟩
    rw [upd_ne fun z => by rw [← z, e2] at m; exact m]; exact e2

/-! ### the frozen part of a heap -/
abbrev Ow := Addr → Bool
def mn (H : Hp) (O : Ow) : Hp := fun a => if O a = true then none else H a
def ad (a : Addr) (O : Ow) : Ow := fun b => decide (b = a) || O b
theorem mn_some {H : Hp} {O : Ow} {a : Addr} {o : HO} (h : mn H O a = some o) : H a = some o ∧ O a = false := by
  unfold mn at h
  cases e : O a with
  | true => rw [e] at h; simp at h
  | false => rw [e] at h; simp at h; exact ⟨h, rfl⟩
theorem mn_of {H : Hp} {O : Ow} {a : Addr} {o : HO} (h : H a = some o) (e : O a = false) : mn H O a = some o := by
  unfold mn; rw [e]; simp [h]
theorem mn_le {H : Hp} {O : Ow} : Ed (mn H O) H := .of fun _ _ h => (mn_some h).1
theorem mn_ex {H H' : Hp} {O : Ow} (e : Ex H H') : Ed (mn H O) (mn H' O) := ⟨fun a o h n => mn_of (e.toEd.keep a o (mn_some h).1 n) (mn_some h).2, fun a ps h => let ⟨ps', q⟩ := e.toEd.tbl a ps (mn_some h).1; ⟨ps', mn_of q (mn_some h).2⟩⟩
theorem mn_sub {H : Hp} {O O' : Ow} (h : ∀ a, O a = true → O' a = true) : Ed (mn H O') (mn H O) := .of fun a o q => by
  obtain ⟨q1, q2⟩ := mn_some q
  refine mn_of q1 ?_
  cases e : O a with
  | false => rfl
  | true => rw [h a e] at q2; cases q2
theorem ad_self {a : Addr} {O : Ow} : ad a O a = true := by simp [ad]
theorem ad_sub {a : Addr} {O : Ow} : ∀ b, O b = true → ad a O b = true := fun b h => by simp [ad, h]

/-! ### data stands -/
/-- the script, as data: its ints stand as the keys of a dict -/
def scrD (ns : List Int) : PyData := .dict (ns.map fun n => (.int n, .none))
/-- a dict whose keys are tuples of ints, as the kit tells it -/
def dctH (ks : List (List Int)) : HO := .dT (ks.map fun k => (k.map Sum.inl, V.bl true))
/-- .. as data -/
def dctD (ks : List (List Int)) : PyData := .dict (ks.map fun k => (.tuple (k.map PyData.int), .bool true))
mutual
inductive Dq (K : PySem.W.Frag) (H : Hp) : V → PyData → Prop
  | non : Dq K H .non .none
  | bl (b : Bool) : Dq K H (.bl b) (.bool b)
  | int (i : Int) : Dq K H (.int i) (.int i)
  | str (x : Str) : Dq K H (.str x) (.str x)
  | lst {a : Addr} {xs : List V} {ds : List PyData} : H a = some (.lst xs) → DqA K H xs ds → Dq K H (.ref a) (.list ds)
  | tup {a : Addr} {xs : List V} {ds : List PyData} : SqT K H a xs → DqA K H xs ds → Dq K H (.ref a) (.tuple ds)
  | scr {a : Addr} {ns : List Int} : SqL K H a (ns.map V.int) → Dq K H (.ref a) (.dict (ns.map fun n => (.int n, .none)))
  | dct {a : Addr} {od : Obj} {ks : List (List Int)} : H a = some (.frz od (dctH ks)) → Dq K H (.ref a) (.dict (ks.map fun k => (.tuple (k.map PyData.int), .bool true)))
inductive DqA (K : PySem.W.Frag) (H : Hp) : List V → List PyData → Prop
  | nil : DqA K H [] []
  | cons {v : V} {vs : List V} {d : PyData} {ds : List PyData} : Dq K H v d → DqA K H vs ds → DqA K H (v :: vs) (d :: ds)
end
section
variable {K : PySem.W.Frag} {H H' : Hp}
mutual
theorem dp_up (e : Ed H H') : ∀ {d : PyData} {v : V}, Dq K H v d → Dq K H' v d
  | .none, _, h => by cases h; exact .non
  | .bool b, _, h => by cases h; exact .bl b
  | .int i, _, h => by cases h; exact .int i
  | .str x, _, h => by cases h; exact .str x
  | .list ds, _, h => by
    cases h with
    | lst hs ha => exact .lst (e _ _ hs) (dpa_up e ha)
  | .tuple ds, _, h => by
    cases h with
    | tup hs ha => exact .tup (ex_t e hs) (dpa_up e ha)
  | .dict _, _, h => by
    cases h with
    | scr hs => exact .scr (ex_l e hs)
    | dct hs => exact .dct (e _ _ hs)
theorem dpa_up (e : Ed H H') : ∀ {ds : List PyData} {vs : List V}, DqA K H vs ds → DqA K H' vs ds
  | [], _, h => by cases h; exact .nil
  | d :: ds, _, h => by
    cases h with
    | cons h1 h2 => exact .cons (dp_up e h1) (dpa_up e h2)
end
mutual
/-- data without the script -/
theorem dq_dp : ∀ {d : PyData} {v : V}, Dq K H v d → d.canLay0 = true → Dp K H v d
  | .none, _, h, _ => by cases h; exact .non
  | .bool b, _, h, _ => by cases h; exact .bl b
  | .int i, _, h, _ => by cases h; exact .int i
  | .str x, _, h, _ => by cases h; exact .str x
  | .list ds, _, h, c => by
    cases h with
    | lst hs ha => exact .lst (.inl (.inl hs)) (dqa_dpa ha (by simpa [PyData.canLay0] using c))
  | .tuple ds, _, h, c => by
    cases h with
    | tup hs ha => exact .tup hs (dqa_dpa ha (by simpa [PyData.canLay0] using c))
  | .dict _, _, h, c => by simp [PyData.canLay0] at c
theorem dqa_dpa : ∀ {ds : List PyData} {vs : List V}, DqA K H vs ds → PyData.canLayAll0 ds = true → DpAll K H vs ds
  | [], _, h, _ => by cases h; exact .nil
  | d :: ds, _, h, c => by
    cases h with
    | cons h1 h2 =>
      have c' : d.canLay0 = true ∧ PyData.canLayAll0 ds = true := by simpa [PyData.canLayAll0] using c
      exact .cons (dq_dp h1 c'.1) (dqa_dpa h2 c'.2)
end
theorem DqA.len : ∀ {vs : List V} {ds : List PyData}, DqA K H vs ds → vs.length = ds.length
  | _, [], h => by cases h; rfl
  | _, d :: ds, h => by
    cases h with
    | cons _ h2 => simp [DqA.len h2]
theorem DqA.app : ∀ {vs ws : List V} {ds es : List PyData}, DqA K H vs ds → DqA K H ws es → DqA K H (vs ++ ws) (ds ++ es)
  | _, _, [], _, h, g => by cases h; exact g
  | _, _, d :: ds, _, h, g => by
    cases h with
    | cons h1 h2 => exact .cons h1 (DqA.app h2 g)
theorem DqA.get : ∀ {vs : List V} {ds : List PyData} {i : Nat} {d : PyData}, DqA K H vs ds → ds[i]? = some d → ∃ v, vs[i]? = some v ∧ Dq K H v d
  | _, [], _, _, h, e => by simp at e
  | _, d :: ds, i, x, h, e => by
    cases h with
    | @cons v vs _ _ h1 h2 =>
      cases i with
      | zero => simp at e; subst e; exact ⟨v, rfl, h1⟩
      | succ i =>
        obtain ⟨w, q1, q2⟩ := DqA.get (i := i) (d := x) h2 (by simpa using e)
        exact ⟨w, by simpa using q1, q2⟩
theorem DqA.getv {vs : List V} {ds : List PyData} {i : Nat} {v : V} (h : DqA K H vs ds) (e : vs[i]? = some v) : ∃ d, ds[i]? = some d ∧ Dq K H v d := by
  have hl := DqA.len h
  obtain ⟨hi, _⟩ := List.getElem?_eq_some_iff.mp e
  have hi' : i < ds.length := hl ▸ hi
  obtain ⟨w, q1, q2⟩ := DqA.get (d := ds[i]) h (List.getElem?_eq_getElem hi')
  rw [e] at q1; cases q1
  exact ⟨_, List.getElem?_eq_getElem hi', q2⟩
theorem DqA.take : ∀ {vs : List V} {ds : List PyData} (n : Nat), DqA K H vs ds → DqA K H (vs.take n) (ds.take n)
  | _, [], n, h => by cases h; simp; exact .nil
  | _, d :: ds, 0, h => by simp; exact .nil
  | _, d :: ds, n + 1, h => by
    cases h with
    | cons h1 h2 => exact .cons h1 (DqA.take n h2)
theorem DqA.drop : ∀ {vs : List V} {ds : List PyData} (n : Nat), DqA K H vs ds → DqA K H (vs.drop n) (ds.drop n)
  | _, [], n, h => by cases h; simp; exact .nil
  | _, d :: ds, 0, h => h
  | _, d :: ds, n + 1, h => by
    cases h with
    | cons h1 h2 => simpa using DqA.drop n h2
theorem DqA.set : ∀ {vs : List V} {ds : List PyData} (n : Nat) {v : V} {d : PyData}, DqA K H vs ds → Dq K H v d → DqA K H (vs.set n v) (ds.set n d)
  | _, [], n, _, _, h, _ => by cases h; exact .nil
  | _, d :: ds, 0, _, _, h, g => by cases h with | cons h1 h2 => exact .cons g h2
  | _, d :: ds, n + 1, _, _, h, g => by cases h with | cons h1 h2 => exact .cons h1 (DqA.set n h2 g)
theorem DqA.rev : ∀ {vs : List V} {ds : List PyData}, DqA K H vs ds → DqA K H vs.reverse ds.reverse
  | _, [], h => by cases h; exact .nil
  | _, d :: ds, h => by
    cases h with
    | cons h1 h2 => rw [List.reverse_cons, List.reverse_cons]; exact DqA.app (DqA.rev h2) (.cons h1 .nil)
theorem DqA.rep : ∀ (n : Nat) {vs : List V} {ds : List PyData}, DqA K H vs ds → DqA K H (List.replicate n vs).flatten (List.replicate n ds).flatten
  | 0, _, _, h => .nil
  | n + 1, _, _, h => by
    rw [List.replicate_succ, List.replicate_succ, List.flatten_cons, List.flatten_cons]
    exact DqA.app h (DqA.rep n h)
end

/-! ### slots -/
inductive Sl where
  | un
  | dat (d : PyData)
  | own (ds : List PyData)
  | nst (dss : List (List PyData))
  | dct (ks : List (List Int))
  | tab (P : Addr)
abbrev En := List Sl
/-- the rows of a list of lists that is still written to -/
def Ins (K : PySem.W.Frag) (H0 : Hp) (O : Ow) (H : Hp) (bs : List Addr) (dss : List (List PyData)) : Prop :=
  bs.length = dss.length ∧ bs.Nodup ∧ ∀ (i : Nat) b ds, bs[i]? = some b → dss[i]? = some ds → O b = true ∧ H0 b = none ∧ ∃ vs, H b = some (.lst vs) ∧ DqA K (mn H O) vs ds
def SlOk (K : PySem.W.Frag) (H0 : Hp) (O : Ow) (H : Hp) (x : Option (Option V)) : Sl → Prop
  | .un => True
  | .dat d => ∃ v, x = some (some v) ∧ Dq K (mn H O) v d
  | .own ds => ∃ a vs, x = some (some (.ref a)) ∧ O a = true ∧ H0 a = none ∧ H a = some (.lst vs) ∧ DqA K (mn H O) vs ds
  | .nst dss => ∃ a bs, x = some (some (.ref a)) ∧ O a = true ∧ H0 a = none ∧ H a = some (.lst (bs.map V.ref)) ∧ a ∉ bs ∧ Ins K H0 O H bs dss
  | .dct ks => ∃ a, x = some (some (.ref a)) ∧ O a = true ∧ H0 a = none ∧ H a = some (dctH ks)
  | .tab P => TabS H P lamQ
/-- what a slot owns -/
def OwA (H : Hp) (x : Option (Option V)) : Sl → Addr → Prop
  | .un, _ => False
  | .dat _, _ => False
  | .own _, c => x = some (some (.ref c))
  | .dct _, c => x = some (some (.ref c))
  | .tab _, _ => False
  | .nst _, c => ∃ a, x = some (some (.ref a)) ∧ (c = a ∨ ∃ bs : List Addr, H a = some (.lst (bs.map V.ref)) ∧ c ∈ bs)
theorem ref_inj : ∀ {bs cs : List Addr}, bs.map V.ref = cs.map V.ref → bs = cs
  | [], [], _ => rfl
  | [], _ :: _, h => by cases h
  | _ :: _, [], h => by cases h
  | b :: bs, c :: cs, h => by
    rw [List.map_cons, List.map_cons] at h
    injection h with h1 h2
    injection h1 with h1
    rw [h1, ref_inj h2]

theorem mut_ne {o : Option HO} (h : Mu o) : o ≠ none := fun z => by rw [z] at h; exact h
/-- the slots hold what env says; H0, O0: the entry; O: the lists that are still written to -/
structure Rp (K : PySem.W.Frag) (H0 : Hp) (O0 O : Ow) (H : Hp) (σ : L2.St) (env : En) : Prop where
  z : ∀ a, O0 a = true → H0 a ≠ none
  ex : Ex H0 H
  le : ∀ a, O0 a = true → O a = true
  tr : ∀ a, O a = true → Mu (H a)
  len : σ.length = env.length
  sl : ∀ (i : Nat) s, env[i]? = some s → SlOk K H0 O H σ[i]? s
  ne : ∀ (i j : Nat) s t c, i ≠ j → env[i]? = some s → env[j]? = some t → OwA H σ[i]? s c → OwA H σ[j]? t c → False

section
variable {K : PySem.W.Frag} {H0 H H' : Hp} {O0 O O' : Ow} {σ : L2.St} {env : En}
theorem Ins.up {bs : List Addr} {dss : List (List PyData)} (h : Ins K H0 O H bs dss) (e : Ex H H') : Ins K H0 O H' bs dss :=
  ⟨h.1, h.2.1, fun i b ds e1 e2 => let ⟨q1, q2, vs, q3, q4⟩ := h.2.2 i b ds e1 e2; ⟨q1, q2, vs, e _ _ q3, dpa_up (mn_ex e) q4⟩⟩
theorem SlOk.up {x : Option (Option V)} {s : Sl} (h : SlOk K H0 O H x s) (e : Ex H H') : SlOk K H0 O H' x s := by
  cases s with
  | un => trivial
  | dat d => obtain ⟨v, q, r⟩ := h; exact ⟨v, q, dp_up (mn_ex e) r⟩
  | own ds => obtain ⟨a, vs, q1, q2, q3, q4, q5⟩ := h; exact ⟨a, vs, q1, q2, q3, e _ _ q4, dpa_up (mn_ex e) q5⟩
  | nst dss => obtain ⟨a, bs, q1, q2, q3, q4, q5, q6⟩ := h; exact ⟨a, bs, q1, q2, q3, e _ _ q4, q5, q6.up e⟩
  | dct ks => obtain ⟨a, q1, q2, q3, q4⟩ := h; exact ⟨a, q1, q2, q3, e _ _ q4⟩
  | tab P => exact e.tb P h
/-- what is owned is told by the store alone, where the list of rows stays -/
theorem OwA.back {x : Option (Option V)} {s : Sl} {c : Addr} (h : SlOk K H0 O H x s) (e : ∀ a bs, x = some (some (.ref a)) → H a = some (.lst (List.map V.ref bs)) → H' a = some (.lst (bs.map V.ref))) (w : OwA H' x s c) : OwA H x s c := by
  cases s with
  | un => exact w
  | dat d => exact w
  | own ds => exact w
  | dct ks => exact w
  | tab P => exact w
  | nst dss =>
    obtain ⟨a, bs, q1, q2, q3, q4, q5, q6⟩ := h
    obtain ⟨b, r1, r2⟩ := w
    have : a = b := by rw [q1] at r1; simpa using r1
    subst this
    refine ⟨a, q1, r2.imp id fun ⟨cs, r3, r4⟩ => ⟨cs, ?_, r4⟩⟩
    have h2 := e a bs q1 q4
    rw [h2] at r3
    injection r3 with r3
    injection r3 with r3
    rw [← ref_inj r3]
    exact q4
theorem SlOk.owA {x : Option (Option V)} {s : Sl} {c : Addr} (h : SlOk K H0 O H x s) (w : OwA H x s c) : O c = true ∧ H0 c = none ∧ H c ≠ none := by
  cases s with
  | un => exact w.elim
  | dat d => exact w.elim
  | tab P => exact w.elim
  | own ds =>
    obtain ⟨a, vs, q1, q2, q3, q4, q5⟩ := h
    have : a = c := by have w : x = some (some (.ref c)) := w; rw [q1] at w; simpa using w
    subst this
    exact ⟨q2, q3, by rw [q4]; simp⟩
  | dct ks =>
    obtain ⟨a, q1, q2, q3, q4⟩ := h
    have : a = c := by have w : x = some (some (.ref c)) := w; rw [q1] at w; simpa using w
    subst this
    exact ⟨q2, q3, by rw [q4]; simp⟩
  | nst dss =>
    obtain ⟨a, bs, q1, q2, q3, q4, q5, q6⟩ := h
    obtain ⟨b, r1, r2⟩ := w
    have : a = b := by rw [q1] at r1; simpa using r1
    subst this
    rcases r2 with rfl | ⟨cs, r3, r4⟩
    · exact ⟨q2, q3, by rw [q4]; simp⟩
    · rw [q4] at r3
      injection r3 with r3
      injection r3 with r3
      rw [← ref_inj r3] at r4
      obtain ⟨i, hi, e⟩ := List.getElem_of_mem r4
      have hi2 : i < dss.length := q6.1 ▸ hi
      obtain ⟨s1, s2, vs, s3, _⟩ := q6.2.2 i c dss[i] (by rw [List.getElem?_eq_getElem hi, e]) (List.getElem?_eq_getElem hi2)
      exact ⟨s1, s2, by rw [s3]; simp⟩
theorem Rp.up (R : Rp K H0 O0 O H σ env) (e : Ex H H') : Rp K H0 O0 O H' σ env :=
  ⟨R.z, R.ex.trans e, R.le, fun a h => by
    have q := R.tr a h
    cases q2 : H a with
    | none => rw [q2] at q; exact q.elim
    | some o => rw [e.keep a o q2 (by rw [q2] at q; exact q.nt), ← q2]; exact q, R.len, fun i s h => (R.sl i s h).up e, fun i j s t c n h1 h2 w1 w2 =>
      R.ne i j s t c n h1 h2 (w1.back (R.sl i s h1) fun _ _ _ q => e _ _ q) (w2.back (R.sl j t h2) fun _ _ _ q => e _ _ q)⟩
theorem Rp.dat (R : Rp K H0 O0 O H σ env) {i : Nat} {d : PyData} (h : env[i]? = some (.dat d)) : ∃ v, σ[i]? = some (some v) ∧ Dq K (mn H O) v d := R.sl i _ h
theorem Rp.own (R : Rp K H0 O0 O H σ env) {i : Nat} {ds : List PyData} (h : env[i]? = some (.own ds)) : ∃ a vs, σ[i]? = some (some (.ref a)) ∧ O a = true ∧ H0 a = none ∧ H a = some (.lst vs) ∧ DqA K (mn H O) vs ds := R.sl i _ h
/-- a fresh place is frozen -/
theorem Rp.fr (R : Rp K H0 O0 O H σ env) {p : Addr} (h : H p = none) : O p = false := by
  cases e : O p with
  | false => rfl
  | true => exact absurd h (mut_ne (R.tr p e))
theorem set_in {i : Nat} {s t : Sl} (e : (env.set i s)[i]? = some t) : i < env.length ∧ s = t := by
  by_cases hi : i < env.length
  · rw [List.getElem?_set_self hi] at e
    exact ⟨hi, Option.some.inj e⟩
  · rw [List.getElem?_eq_none (by simpa using Nat.le_of_not_lt hi)] at e
    cases e
/-- a slot's new value, that owns nothing, or only what no other slot owns -/
theorem Rp.put (R : Rp K H0 O0 O H σ env) (i : Nat) {x : Option V} {s : Sl} (h : i < σ.length → SlOk K H0 O H (some x) s) (w : ∀ j t c, i ≠ j → env[j]? = some t → OwA H (some x) s c → OwA H σ[j]? t c → False) : Rp K H0 O0 O H (σ.set i x) (env.set i s) := by
  refine ⟨R.z, R.ex, R.le, R.tr, by simpa using R.len, fun j t e => ?_, fun j k t u c n e1 e2 w1 w2 => ?_⟩
  · by_cases hj : i = j
    · subst hj
      obtain ⟨hi, rfl⟩ := set_in e
      rw [List.getElem?_set_self (R.len ▸ hi)]
      exact h (R.len ▸ hi)
    · rw [List.getElem?_set_ne hj] at e ⊢
      exact R.sl j t e
  · by_cases hj : i = j
    · subst hj
      obtain ⟨hi, rfl⟩ := set_in e1
      rw [List.getElem?_set_self (R.len ▸ hi)] at w1
      rw [List.getElem?_set_ne n] at e2 w2
      exact w k u c n e2 w1 w2
    · rw [List.getElem?_set_ne hj] at e1 w1
      by_cases hk : i = k
      · subst hk
        obtain ⟨hi, rfl⟩ := set_in e2
        rw [List.getElem?_set_self (R.len ▸ hi)] at w2
        exact w j t c hj e1 w2 w1
      · rw [List.getElem?_set_ne hk] at e2 w2
        exact R.ne j k t u c n e1 e2 w1 w2
/-- a slot is stored -/
theorem Rp.set (R : Rp K H0 O0 O H σ env) (i : Nat) {v : V} {d : PyData} (h : Dq K (mn H O) v d) : Rp K H0 O0 O H (σ.set i (some v)) (env.set i (.dat d)) := R.put i (fun _ => ⟨v, rfl, h⟩) fun _ _ _ _ _ w _ => w
/-- a slot is forgotten -/
theorem Rp.kill (R : Rp K H0 O0 O H σ env) (i : Nat) (x : Option V) : Rp K H0 O0 O H (σ.set i x) (env.set i .un) := R.put i (fun _ => trivial) fun _ _ _ _ _ w _ => w
theorem Rp.forget (R : Rp K H0 O0 O H σ env) (i : Nat) : Rp K H0 O0 O H σ (env.set i .un) := by
  by_cases hi : i < σ.length
  · have q := R.kill i (σ[i])
    rw [List.set_getElem_self] at q
    exact q
  · rw [List.set_eq_of_length_le (by rw [← R.len]; omega)]
    exact R
/-- some more that was not there is written to from here on -/
theorem Rp.more (R : Rp K H0 O0 O H σ env) {O1 : Ow} {H1 : Hp} (e : Ex H H1) (hO : ∀ b, O b = true → O1 b = true) (hn : ∀ b, O1 b = true → O b = true ∨ (H b = none ∧ Mu (H1 b))) : Rp K H0 O0 O1 H1 σ env := by
  have F1 : ∀ b o, mn H O b = some o → O1 b = false := fun b o h => by
    obtain ⟨q1, q2⟩ := mn_some h
    cases z : O1 b with
    | false => rfl
    | true =>
      rcases hn b z with w | w
      · rw [w] at q2; cases q2
      · rw [w.1] at q1; cases q1
  have F : Ed (mn H O) (mn H1 O1) := ⟨fun b o h n => mn_of (e.keep b o (mn_some h).1 n) (F1 b o h), fun b ps h => let ⟨ps', q⟩ := e.toEd.tbl b ps (mn_some h).1; ⟨ps', mn_of q (F1 b _ h)⟩⟩
  refine ⟨R.z, R.ex.trans e, fun b h => hO b (R.le b h), fun b h => ?_, R.len, fun i s h => ?_, fun i j s t c n h1 h2 w1 w2 =>
      R.ne i j s t c n h1 h2 (w1.back (R.sl i s h1) fun _ _ _ q => e _ _ q) (w2.back (R.sl j t h2) fun _ _ _ q => e _ _ q)⟩
  · rcases hn b h with w | w
    · have q := R.tr b w
      cases q2 : H b with
      | none => rw [q2] at q; exact q.elim
      | some o => rw [e.keep b o q2 (by rw [q2] at q; exact q.nt), ← q2]; exact q
    · exact w.2
  · have q := R.sl i s h
    cases s with
    | un => trivial
    | dat d => obtain ⟨v, q1, q2⟩ := q; exact ⟨v, q1, dp_up F q2⟩
    | own ds => obtain ⟨b, ws, q1, q2, q3, q4, q5⟩ := q; exact ⟨b, ws, q1, hO b q2, q3, e _ _ q4, dpa_up F q5⟩
    | nst dss =>
      obtain ⟨b, bs, q1, q2, q3, q4, q5, q6, q7, q8⟩ := q
      exact ⟨b, bs, q1, hO b q2, q3, e _ _ q4, q5, q6, q7, fun k c ds e1 e2 => let ⟨r1, r2, vs, r3, r4⟩ := q8 k c ds e1 e2; ⟨hO c r1, r2, vs, e _ _ r3, dpa_up F r4⟩⟩
    | dct ks => obtain ⟨b, q1, q2, q3, q4⟩ := q; exact ⟨b, q1, hO b q2, q3, e _ _ q4⟩
    | tab P => exact e.tb P q
/-- one more list is written to from here on -/
theorem Rp.grow (R : Rp K H0 O0 O H σ env) {a : Addr} {vs : List V} {H1 : Hp} (e : Ex H H1) (hn : H a = none) (h1 : H1 a = some (.lst vs)) : Rp K H0 O0 (ad a O) H1 σ env :=
  R.more e ad_sub fun b h => by
    by_cases hb : b = a
    · right; rw [hb, h1]; exact ⟨hn, trivial⟩
    · left; simpa [ad, hb] using h
theorem Rp.new0 (R : Rp K H0 O0 O H σ env) {a : Addr} (hn : H a = none) : H0 a = none := fresh_back R.ex hn
/-- a new list goes to a slot, to be written to -/
theorem Rp.setN (R : Rp K H0 O0 O H σ env) (i : Nat) {a : Addr} {vs : List V} {ds : List PyData} {H1 : Hp} (e : Ex H H1) (hn : H a = none) (h1 : H1 a = some (.lst vs)) (hd : DqA K (mn H1 (ad a O)) vs ds) :
    Rp K H0 O0 (ad a O) H1 (σ.set i (some (.ref a))) (env.set i (.own ds)) := by
  refine (R.grow e hn h1).put i (fun _ => ⟨a, vs, rfl, ad_self, R.new0 hn, h1, hd⟩) fun j t c n hj w1 w2 => ?_
  have hc : a = c := by have w1 : some (some (V.ref a)) = some (some (.ref c)) := w1; simpa using w1
  subst hc
  exact ((R.sl j t hj).owA (w2.back (R.sl j t hj) fun _ _ _ q => e _ _ q)).2.2 hn
/-- a thing that the entry does not know is written to -/
theorem ex_upd {H0 H : Hp} {a : Addr} {o : HO} (e : Ex H0 H) (h0 : H0 a = none) (m : Mu (H a)) : Ex H0 (upd H a o) :=
  ⟨⟨fun b u z n => by
    have : b ≠ a := fun w => by rw [w, h0] at z; cases z
    rw [upd_ne this]; exact e.toEd.keep b u z n, fun b ps z => by
    have : b ≠ a := fun w => by rw [w, h0] at z; cases z
    rw [upd_ne this]; exact e.toEd.tbl b ps z⟩, fun P t => tabs_upd (e.tb P t) m⟩
/-- the list of a slot is written to -/
theorem Rp.write (R : Rp K H0 O0 O H σ env) {i : Nat} {a : Addr} {vs : List V} {ds0 ds : List PyData} (h : env[i]? = some (.own ds0)) (hs : σ[i]? = some (some (.ref a))) (hd : DqA K (mn H O) vs ds) :
    Rp K H0 O0 O (upd H a (.lst vs)) σ (env.set i (.own ds)) ∧ Ed (mn H O) (mn (upd H a (.lst vs)) O) := by
  obtain ⟨b, ws, q1, q2, q3, q4, q5⟩ := R.own h
  have eb : a = b := by rw [hs] at q1; simpa using q1
  subst eb
  have F : Ed (mn H O) (mn (upd H a (.lst vs)) O) := .of fun b o z => by
    obtain ⟨z1, z2⟩ := mn_some z
    have : b ≠ a := fun w => by rw [w, q2] at z2; cases z2
    exact mn_of (by rw [upd_ne this]; exact z1) z2
  have E0 : Ex H0 (upd H a (.lst vs)) := ex_upd R.ex q3 (R.tr a q2)
  have hi : i < env.length := (List.getElem?_eq_some_iff.mp h).1
  have oth : ∀ j t c, i ≠ j → env[j]? = some t → OwA H σ[j]? t c → c ≠ a := fun j t c n e w z => by
    subst z
    exact R.ne i j _ t c n h e hs w
  have bk : ∀ j t, i ≠ j → env[j]? = some t → ∀ c, OwA (upd H a (.lst vs)) σ[j]? t c → OwA H σ[j]? t c := fun j t n e c w => by
    refine w.back (R.sl j t e) fun a2 bs q r => ?_
    by_cases hz : a2 = a
    · subst hz
      have w0 : OwA (upd H a2 (.lst vs)) σ[j]? t c := w
      cases t with
      | un => exact w.elim
      | dat d => exact w.elim
      | tab P => exact w.elim
      | own es => exact absurd rfl (oth j _ a2 n e q)
      | dct ks => exact absurd rfl (oth j _ a2 n e q)
      | nst es => exact absurd rfl (oth j _ a2 n e ⟨a2, q, .inl rfl⟩)
    · rw [upd_ne hz]; exact r
  refine ⟨⟨R.z, E0, R.le, fun b z => ?_, by simpa using R.len, fun j s e => ?_, fun j k s t c n e1 e2 w1 w2 => ?_⟩, F⟩
  · by_cases hb : b = a
    · rw [hb, upd_same]; trivial
    · rw [upd_ne hb]; exact R.tr b z
  · by_cases hj : i = j
    · subst hj
      obtain ⟨_, rfl⟩ := set_in e
      exact ⟨a, vs, hs, q2, q3, upd_same, dpa_up F hd⟩
    · rw [List.getElem?_set_ne hj] at e
      have q := R.sl j s e
      have ot := oth j s
      cases s with
      | un => trivial
      | tab P => exact tabs_upd q (R.tr a q2)
      | dat d => obtain ⟨v, r1, r2⟩ := q; exact ⟨v, r1, dp_up F r2⟩
      | own es =>
        obtain ⟨c, us, r1, r2, r3, r4, r5⟩ := q
        exact ⟨c, us, r1, r2, r3, by rw [upd_ne (ot c hj e r1)]; exact r4, dpa_up F r5⟩
      | dct ks =>
        obtain ⟨c, r1, r2, r3, r4⟩ := q
        exact ⟨c, r1, r2, r3, by rw [upd_ne (ot c hj e r1)]; exact r4⟩
      | nst es =>
        obtain ⟨c, bs, r1, r2, r3, r4, r5, r6, r7, r8⟩ := q
        refine ⟨c, bs, r1, r2, r3, by rw [upd_ne (ot c hj e ⟨c, r1, .inl rfl⟩)]; exact r4, r5, r6, r7, fun k b ds e1 e2 => ?_⟩
        obtain ⟨s1, s2, us, s3, s4⟩ := r8 k b ds e1 e2
        exact ⟨s1, s2, us, by rw [upd_ne (ot b hj e ⟨c, r1, .inr ⟨bs, r4, List.mem_of_getElem? e1⟩⟩)]; exact s3, dpa_up F s4⟩
  · by_cases hj : i = j
    · subst hj
      obtain ⟨_, rfl⟩ := set_in e1
      rw [List.getElem?_set_ne n] at e2
      exact R.ne i k _ t c n h e2 w1 (bk k t n e2 c w2)
    · rw [List.getElem?_set_ne hj] at e1
      by_cases hk : i = k
      · subst hk
        obtain ⟨_, rfl⟩ := set_in e2
        exact R.ne j i s _ c n e1 h (bk j s hj e1 c w1) w2
      · rw [List.getElem?_set_ne hk] at e2
        exact R.ne j k s t c n e1 e2 (bk j s hj e1 c w1) (bk k t hk e2 c w2)
/-- what a slot owns is written to no more: it is data from here on -/
theorem Rp.ice (R : Rp K H0 O0 O H σ env) {i : Nat} {s0 : Sl} {v : V} {d : PyData} (h : env[i]? = some s0) (hs : σ[i]? = some (some v)) (P : Addr → Prop) [DecidablePred P] (hP : ∀ c, P c → OwA H σ[i]? s0 c) (hd : Dq K (mn H fun b => if P b then false else O b) v d) :
    Rp K H0 O0 (fun b => if P b then false else O b) H σ (env.set i (.dat d)) ∧ Ed (mn H O) (mn H fun b => if P b then false else O b) := by
  have hO : ∀ b, (if P b then false else O b) = true → O b = true := fun b z => by
    by_cases hb : P b
    · rw [if_pos hb] at z; cases z
    · rwa [if_neg hb] at z
  have hO' : ∀ b, O b = true → ¬ P b → (if P b then false else O b) = true := fun b z hb => by rw [if_neg hb]; exact z
  have F : Ed (mn H O) (mn H fun b => if P b then false else O b) := mn_sub hO
  have hi : i < env.length := (List.getElem?_eq_some_iff.mp h).1
  have oth : ∀ j t c, i ≠ j → env[j]? = some t → OwA H σ[j]? t c → ¬ P c := fun j t c n e w z => R.ne i j _ t c n h e (hP c z) w
  refine ⟨⟨R.z, R.ex, fun b z => hO' b (R.le b z) fun w => R.z b z ((R.sl i _ h).owA (hP b w)).2.1, fun b z => R.tr b (hO b z), by simpa using R.len, fun j s e => ?_, fun j k s t c n e1 e2 w1 w2 => ?_⟩, F⟩
  · by_cases hj : i = j
    · subst hj
      obtain ⟨_, rfl⟩ := set_in e
      exact ⟨v, hs, hd⟩
    · rw [List.getElem?_set_ne hj] at e
      have q := R.sl j s e
      have ot := oth j s
      cases s with
      | un => trivial
      | tab P => exact q
      | dat d => obtain ⟨v, r1, r2⟩ := q; exact ⟨v, r1, dp_up F r2⟩
      | own es =>
        obtain ⟨c, us, r1, r2, r3, r4, r5⟩ := q
        exact ⟨c, us, r1, hO' c r2 (ot c hj e r1), r3, r4, dpa_up F r5⟩
      | dct ks =>
        obtain ⟨c, r1, r2, r3, r4⟩ := q
        exact ⟨c, r1, hO' c r2 (ot c hj e r1), r3, r4⟩
      | nst es =>
        obtain ⟨c, bs, r1, r2, r3, r4, r5, r6, r7, r8⟩ := q
        refine ⟨c, bs, r1, hO' c r2 (ot c hj e ⟨c, r1, .inl rfl⟩), r3, r4, r5, r6, r7, fun k b ds e1 e2 => ?_⟩
        obtain ⟨s1, s2, us, s3, s4⟩ := r8 k b ds e1 e2
        exact ⟨hO' b s1 (ot b hj e ⟨c, r1, .inr ⟨bs, r4, List.mem_of_getElem? e1⟩⟩), s2, us, s3, dpa_up F s4⟩
  · by_cases hj : i = j
    · subst hj
      obtain ⟨_, rfl⟩ := set_in e1
      exact w1
    · rw [List.getElem?_set_ne hj] at e1
      by_cases hk : i = k
      · subst hk
        obtain ⟨_, rfl⟩ := set_in e2
        exact w2
      · rw [List.getElem?_set_ne hk] at e2
        exact R.ne j k s t c n e1 e2 w1 w2
/-- the list of a slot is written to no more -/
theorem Rp.freeze (R : Rp K H0 O0 O H σ env) {i : Nat} {ds : List PyData} (h : env[i]? = some (.own ds)) :
    ∃ O', Rp K H0 O0 O' H σ (env.set i (.dat (.list ds))) ∧ Ed (mn H O) (mn H O') := by
  obtain ⟨a, vs, q1, q2, q3, q4, q5⟩ := R.own h
  have F : Ed (mn H O) (mn H fun b => if b = a then false else O b) := mn_sub fun b z => by
    by_cases hb : b = a
    · rw [if_pos hb] at z; cases z
    · rwa [if_neg hb] at z
  exact ⟨_, R.ice h q1 (fun b => b = a) (fun c hc => by subst hc; exact q1) (.lst (mn_of q4 (if_pos rfl)) (dpa_up F q5))⟩
/-! a dict -/
/-- a thing that no slot owns is written to -/
theorem Rp.poke (R : Rp K H0 O0 O H σ env) {O' : Ow} {a : Addr} {o : HO} (hO : O a = true) (h0 : H0 a = none) (h1 : ∀ b, O' b = true → O b = true) (h2 : ∀ b, b ≠ a → O b = true → O' b = true) (hm : O' a = true → Mu (some o))
    (hf : ∀ (j : Nat) t, env[j]? = some t → OwA H σ[j]? t a → False) : Rp K H0 O0 O' (upd H a o) σ env ∧ Ed (mn H O) (mn (upd H a o) O') := by
  have F : Ed (mn H O) (mn (upd H a o) O') := .of fun b u z => by
    obtain ⟨z1, z2⟩ := mn_some z
    have hb : b ≠ a := fun w => by rw [w, hO] at z2; cases z2
    refine mn_of (by rw [upd_ne hb]; exact z1) ?_
    cases w : O' b with
    | false => rfl
    | true => rw [h1 b w] at z2; cases z2
  have bk : ∀ (j : Nat) t, env[j]? = some t → ∀ c, OwA (upd H a o) σ[j]? t c → OwA H σ[j]? t c := fun j t e c w => by
    refine w.back (R.sl j t e) fun a2 bs q r => ?_
    by_cases hz : a2 = a
    · subst hz
      cases t with
      | un => exact w.elim
      | dat d => exact w.elim
      | tab P => exact w.elim
      | own es => exact (hf j _ e q).elim
      | dct ks => exact (hf j _ e q).elim
      | nst es => exact (hf j _ e ⟨a2, q, .inl rfl⟩).elim
    · rw [upd_ne hz]; exact r
  refine ⟨⟨R.z, ex_upd R.ex h0 (R.tr a hO), fun b z => ?_, fun b z => ?_, R.len, fun j s e => ?_, fun j k s t c n e1 e2 w1 w2 => R.ne j k s t c n e1 e2 (bk j s e1 c w1) (bk k t e2 c w2)⟩, F⟩
  · exact h2 b (fun w => R.z b z (by rw [w]; exact h0)) (R.le b z)
  · by_cases hb : b = a
    · subst hb; rw [upd_same]; exact hm z
    · rw [upd_ne hb]; exact R.tr b (h1 b z)
  · have q := R.sl j s e
    have ot := hf j s e
    cases s with
    | un => trivial
    | tab P => exact tabs_upd q (R.tr a hO)
    | dat d => obtain ⟨v, r1, r2⟩ := q; exact ⟨v, r1, dp_up F r2⟩
    | own es =>
      obtain ⟨c, us, r1, r2, r3, r4, r5⟩ := q
      have hc : c ≠ a := fun z => by subst z; exact ot r1
      exact ⟨c, us, r1, h2 c hc r2, r3, by rw [upd_ne hc]; exact r4, dpa_up F r5⟩
    | dct ks =>
      obtain ⟨c, r1, r2, r3, r4⟩ := q
      have hc : c ≠ a := fun z => by subst z; exact ot r1
      exact ⟨c, r1, h2 c hc r2, r3, by rw [upd_ne hc]; exact r4⟩
    | nst es =>
      obtain ⟨c, bs, r1, r2, r3, r4, r5, r6, r7, r8⟩ := q
      have hc : c ≠ a := fun z => by subst z; exact ot ⟨c, r1, .inl rfl⟩
      refine ⟨c, bs, r1, h2 c hc r2, r3, by rw [upd_ne hc]; exact r4, r5, r6, r7, fun k b ds e1 e2 => ?_⟩
      obtain ⟨s1, s2, us, s3, s4⟩ := r8 k b ds e1 e2
      have hb : b ≠ a := fun z => by subst z; exact ot ⟨c, r1, .inr ⟨bs, r4, List.mem_of_getElem? e1⟩⟩
      exact ⟨h2 b hb s1, s2, us, by rw [upd_ne hb]; exact s3, dpa_up F s4⟩
theorem Rp.dct (R : Rp K H0 O0 O H σ env) {i : Nat} {ks : List (List Int)} (h : env[i]? = some (.dct ks)) : ∃ a, σ[i]? = some (some (.ref a)) ∧ O a = true ∧ H0 a = none ∧ H a = some (dctH ks) := R.sl i _ h
theorem Rp.alone (R : Rp K H0 O0 O H σ env) {i : Nat} {s : Sl} {a : Addr} (h : env[i]? = some s) (w : OwA H σ[i]? s a) : ∀ (j : Nat) t, (env.set i .un)[j]? = some t → OwA H σ[j]? t a → False := fun j t e w2 => by
  by_cases hj : i = j
  · subst hj
    obtain ⟨_, rfl⟩ := set_in e
    exact w2
  · rw [List.getElem?_set_ne hj] at e
    exact R.ne i j s t a hj h e w w2
theorem set_same {i : Nat} {x : Option V} (h : σ[i]? = some x) : σ.set i x = σ := by
  obtain ⟨hi, e⟩ := List.getElem?_eq_some_iff.mp h
  rw [← e, List.set_getElem_self]
/-- the dict of a slot is written to -/
theorem Rp.writeD (R : Rp K H0 O0 O H σ env) {i : Nat} {ks ks' : List (List Int)} {a : Addr} (h : env[i]? = some (.dct ks)) (hs : σ[i]? = some (some (.ref a))) :
    Rp K H0 O0 O (upd H a (dctH ks')) σ (env.set i (.dct ks')) ∧ Ed (mn H O) (mn (upd H a (dctH ks')) O) := by
  obtain ⟨b, q1, q2, q3, q4⟩ := R.dct h
  have eb : a = b := by rw [hs] at q1; simpa using q1
  subst eb
  obtain ⟨R1, F⟩ := (R.forget i).poke (O' := O) (o := dctH ks') q2 q3 (fun _ h => h) (fun _ _ h => h) (fun _ => trivial) (R.alone h hs)
  refine ⟨?_, F⟩
  have R2 := R1.put i (x := some (.ref a)) (s := .dct ks') (fun _ => ⟨a, rfl, q2, q3, upd_same⟩) fun j t c n e w1 w2 => ?_
  · rw [set_same hs, List.set_set] at R2
    exact R2
  · have hc : a = c := by have w1 : some (some (V.ref a)) = some (some (.ref c)) := w1; simpa using w1
    subst hc
    rw [List.getElem?_set_ne n] at e
    refine R.ne i j _ t a n h e hs (w2.back (R.sl j t e) fun a2 bs q r => ?_)
    by_cases hz : a2 = a
    · subst hz
      rw [q4] at r; cases r
    · rw [upd_ne hz]; exact r
/-- the dict of a slot is written to no more -/
theorem Rp.freezeD (R : Rp K H0 O0 O H σ env) {i : Nat} {ks : List (List Int)} {a : Addr} (od : Obj) (h : env[i]? = some (.dct ks)) (hs : σ[i]? = some (some (.ref a))) :
    ∃ O', Rp K H0 O0 O' (upd H a (.frz od (dctH ks))) σ (env.set i (.dat (dctD ks))) ∧ Ed (mn H O) (mn (upd H a (.frz od (dctH ks))) O') := by
  obtain ⟨b, q1, q2, q3, q4⟩ := R.dct h
  have eb : a = b := by rw [hs] at q1; simpa using q1
  subst eb
  obtain ⟨R1, F⟩ := (R.forget i).poke (O' := fun b => if b = a then false else O b) (o := .frz od (dctH ks)) q2 q3 (fun b z => by
    by_cases hb : b = a
    · rw [if_pos hb] at z; cases z
    · rwa [if_neg hb] at z) (fun b hb z => by rw [if_neg hb]; exact z) (fun z => by rw [if_pos rfl] at z; cases z) (R.alone h hs)
  refine ⟨_, ?_, F⟩
  have R2 := R1.put i (x := some (.ref a)) (s := .dat (dctD ks)) (fun _ => ⟨.ref a, rfl, .dct (mn_of upd_same (if_pos rfl))⟩) fun _ _ _ _ _ w _ => w
  rw [set_same hs, List.set_set] at R2
  exact R2
/-- a new dict goes to a slot -/
theorem Rp.setD (R : Rp K H0 O0 O H σ env) (i : Nat) {a : Addr} {ks : List (List Int)} {H1 : Hp} (e : Ex H H1) (hn : H a = none) (h1 : H1 a = some (dctH ks)) : Rp K H0 O0 (ad a O) H1 (σ.set i (some (.ref a))) (env.set i (.dct ks)) := by
  refine (R.more e ad_sub fun b h => ?_).put i (fun _ => ⟨a, rfl, ad_self, R.new0 hn, h1⟩) fun j t c n hj w1 w2 => ?_
  · by_cases hb : b = a
    · right; rw [hb, h1]; exact ⟨hn, trivial⟩
    · left; simpa [ad, hb] using h
  · have hc : a = c := by have w1 : some (some (V.ref a)) = some (some (.ref c)) := w1; simpa using w1
    subst hc
    exact ((R.sl j t hj).owA (w2.back (R.sl j t hj) fun _ _ _ q => e _ _ q)).2.2 hn
/-! a list of lists -/
/-- a new list of new lists goes to a slot, to be written to -/
theorem Rp.setNN (R : Rp K H0 O0 O H σ env) (i : Nat) {a : Addr} {bs : List Addr} {dss : List (List PyData)} {H1 : Hp} {O1 : Ow} (e : Ex H H1) (hO : ∀ b, O1 b = true ↔ O b = true ∨ b = a ∨ b ∈ bs) (hna : H a = none) (hnb : ∀ b ∈ bs, H b = none) (hab : a ∉ bs) (hnd : bs.Nodup) (hl : bs.length = dss.length)
    (h1 : H1 a = some (.lst (bs.map V.ref))) (hd : ∀ (k : Nat) b ds, bs[k]? = some b → dss[k]? = some ds → ∃ vs, H1 b = some (.lst vs) ∧ DqA K (mn H1 O1) vs ds) : Rp K H0 O0 O1 H1 (σ.set i (some (.ref a))) (env.set i (.nst dss)) := by
  have hb1 : ∀ b ∈ bs, Mu (H1 b) := fun b hb => by
    obtain ⟨k, hk, e1⟩ := List.getElem_of_mem hb
    obtain ⟨vs, q, _⟩ := hd k b dss[k] (by rw [List.getElem?_eq_getElem hk, e1]) (List.getElem?_eq_getElem (hl ▸ hk))
    rw [q]; trivial
  refine (R.more e (fun b h => (hO b).mpr (.inl h)) fun b h => ?_).put i (fun _ => ⟨a, bs, rfl, (hO a).mpr (.inr (.inl rfl)), R.new0 hna, h1, hab, hl, hnd, fun k b ds e1 e2 => ?_⟩) fun j t c n hj w1 w2 => ?_
  · rcases (hO b).mp h with h | rfl | h
    · exact .inl h
    · exact .inr ⟨hna, by rw [h1]; trivial⟩
    · exact .inr ⟨hnb b h, hb1 b h⟩
  · obtain ⟨vs, q1, q2⟩ := hd k b ds e1 e2
    have hb := List.mem_of_getElem? e1
    exact ⟨(hO b).mpr (.inr (.inr hb)), R.new0 (hnb b hb), vs, q1, q2⟩
  · have hw := ((R.sl j t hj).owA (w2.back (R.sl j t hj) fun _ _ _ q => e _ _ q)).2.2
    obtain ⟨a2, x1, x2⟩ := w1
    have : a = a2 := by have x1 : some (some (V.ref a)) = some (some (.ref a2)) := x1; simpa using x1
    subst this
    rcases x2 with rfl | ⟨cs, x3, x4⟩
    · exact hw hna
    · rw [h1] at x3
      injection x3 with x3
      injection x3 with x3
      rw [← ref_inj x3] at x4
      exact hw (hnb c x4)
theorem Rp.nst (R : Rp K H0 O0 O H σ env) {i : Nat} {dss : List (List PyData)} (h : env[i]? = some (.nst dss)) : ∃ a bs, σ[i]? = some (some (.ref a)) ∧ O a = true ∧ H0 a = none ∧ H a = some (.lst (bs.map V.ref)) ∧ a ∉ bs ∧ Ins K H0 O H bs dss := R.sl i _ h
/-- a row of the list of lists is written to -/
theorem Rp.writeN (R : Rp K H0 O0 O H σ env) {i k : Nat} {a b : Addr} {bs : List Addr} {vs : List V} {dss : List (List PyData)} {ds : List PyData} (h : env[i]? = some (.nst dss)) (hs : σ[i]? = some (some (.ref a))) (ha : H a = some (.lst (bs.map V.ref))) (hk : bs[k]? = some b) (hd : DqA K (mn H O) vs ds) :
    Rp K H0 O0 O (upd H b (.lst vs)) σ (env.set i (.nst (dss.set k ds))) ∧ Ed (mn H O) (mn (upd H b (.lst vs)) O) := by
  obtain ⟨a', bs', q1, q2, q3, q4, q5, q6, q7, q8⟩ := R.nst h
  have eb : a' = a := by rw [hs] at q1; simpa using q1.symm
  subst eb
  have eb2 : bs' = bs := by
    rw [ha] at q4
    injection q4 with q4
    injection q4 with q4
    exact (ref_inj q4).symm
  subst eb2
  have hkl : k < bs'.length := (List.getElem?_eq_some_iff.mp hk).1
  have hbm : b ∈ bs' := List.mem_of_getElem? hk
  obtain ⟨p1, p2, ws, p3, p4⟩ := q8 k b dss[k] hk (List.getElem?_eq_getElem (q6 ▸ hkl))
  have hba : a' ≠ b := fun z => q5 (z ▸ hbm)
  have F : Ed (mn H O) (mn (upd H b (.lst vs)) O) := .of fun c o z => by
    obtain ⟨z1, z2⟩ := mn_some z
    have : c ≠ b := fun w => by rw [w, p1] at z2; cases z2
    exact mn_of (by rw [upd_ne this]; exact z1) z2
  have E0 : Ex H0 (upd H b (.lst vs)) := ex_upd R.ex p2 (R.tr b p1)
  have hi : i < env.length := (List.getElem?_eq_some_iff.mp h).1
  have hown : OwA H σ[i]? (.nst dss) b := ⟨a', hs, .inr ⟨bs', ha, hbm⟩⟩
  have oth : ∀ j t c, i ≠ j → env[j]? = some t → OwA H σ[j]? t c → c ≠ b := fun j t c n e w z => by
    subst z
    exact R.ne i j _ t c n h e hown w
  have bk : ∀ j t, i ≠ j → env[j]? = some t → ∀ c, OwA (upd H b (.lst vs)) σ[j]? t c → OwA H σ[j]? t c := fun j t n e c w => by
    refine w.back (R.sl j t e) fun a2 cs q r => ?_
    by_cases hz : a2 = b
    · subst hz
      cases t with
      | un => exact w.elim
      | dat d => exact w.elim
      | tab P => exact w.elim
      | own es => exact absurd rfl (oth j _ a2 n e q)
      | dct ks => exact absurd rfl (oth j _ a2 n e q)
      | nst es => exact absurd rfl (oth j _ a2 n e ⟨a2, q, .inl rfl⟩)
    · rw [upd_ne hz]; exact r
  have bi : ∀ es c, OwA (upd H b (.lst vs)) σ[i]? (.nst es) c → OwA H σ[i]? (.nst dss) c := fun es c w => by
    obtain ⟨a2, x1, x2⟩ := w
    have : a' = a2 := by rw [hs] at x1; simpa using x1
    subst this
    refine ⟨a', hs, x2.imp id fun ⟨cs, y1, y2⟩ => ⟨cs, ?_, y2⟩⟩
    rw [upd_ne hba] at y1
    exact y1
  refine ⟨⟨R.z, E0, R.le, fun c z => ?_, by simpa using R.len, fun j s e => ?_, fun j m s t c n e1 e2 w1 w2 => ?_⟩, F⟩
  · by_cases hb : c = b
    · rw [hb, upd_same]; trivial
    · rw [upd_ne hb]; exact R.tr c z
  · by_cases hj : i = j
    · subst hj
      obtain ⟨_, rfl⟩ := set_in e
      refine ⟨a', bs', hs, q2, q3, by rw [upd_ne hba]; exact ha, q5, by rw [List.length_set]; exact q6, q7, fun m c es e1 e2 => ?_⟩
      by_cases hm : k = m
      · subst hm
        rw [hk] at e1
        have hcb : c = b := (Option.some.inj e1).symm
        subst hcb
        rw [List.getElem?_set_self (q6 ▸ hkl)] at e2
        have : ds = es := Option.some.inj e2
        subst this
        exact ⟨p1, p2, vs, upd_same, dpa_up F hd⟩
      · rw [List.getElem?_set_ne hm] at e2
        obtain ⟨s1, s2, us, s3, s4⟩ := q8 m c es e1 e2
        have hcb : c ≠ b := fun z => by
          subst z
          have h1 := List.getElem?_eq_some_iff.mp e1
          have h2 := List.getElem?_eq_some_iff.mp hk
          obtain ⟨l1, g1⟩ := h1
          obtain ⟨l2, g2⟩ := h2
          have P := List.pairwise_iff_getElem.mp q7
          rcases Nat.lt_or_gt_of_ne hm with hlt | hlt
          · exact P k m l2 l1 hlt (g2.trans g1.symm)
          · exact P m k l1 l2 hlt (g1.trans g2.symm)
        exact ⟨s1, s2, us, by rw [upd_ne hcb]; exact s3, dpa_up F s4⟩
    · rw [List.getElem?_set_ne hj] at e
      have q := R.sl j s e
      have ot := oth j s
      cases s with
      | un => trivial
      | tab P => exact tabs_upd q (R.tr b p1)
      | dat d => obtain ⟨v, r1, r2⟩ := q; exact ⟨v, r1, dp_up F r2⟩
      | own es =>
        obtain ⟨c, us, r1, r2, r3, r4, r5⟩ := q
        exact ⟨c, us, r1, r2, r3, by rw [upd_ne (ot c hj e r1)]; exact r4, dpa_up F r5⟩
      | dct ks =>
        obtain ⟨c, r1, r2, r3, r4⟩ := q
        exact ⟨c, r1, r2, r3, by rw [upd_ne (ot c hj e r1)]; exact r4⟩
      | nst es =>
        obtain ⟨c, cs, r1, r2, r3, r4, r5, r6, r7, r8⟩ := q
        refine ⟨c, cs, r1, r2, r3, by rw [upd_ne (ot c hj e ⟨c, r1, .inl rfl⟩)]; exact r4, r5, r6, r7, fun m d ds e1 e2 => ?_⟩
        obtain ⟨s1, s2, us, s3, s4⟩ := r8 m d ds e1 e2
        exact ⟨s1, s2, us, by rw [upd_ne (ot d hj e ⟨c, r1, .inr ⟨cs, r4, List.mem_of_getElem? e1⟩⟩)]; exact s3, dpa_up F s4⟩
  · by_cases hj : i = j
    · subst hj
      obtain ⟨_, rfl⟩ := set_in e1
      rw [List.getElem?_set_ne n] at e2
      exact R.ne i m _ t c n h e2 (bi _ c w1) (bk m t n e2 c w2)
    · rw [List.getElem?_set_ne hj] at e1
      by_cases hm : i = m
      · subst hm
        obtain ⟨_, rfl⟩ := set_in e2
        exact R.ne j i s _ c n e1 h (bk j s hj e1 c w1) (bi _ c w2)
      · rw [List.getElem?_set_ne hm] at e2
        exact R.ne j m s t c n e1 e2 (bk j s hj e1 c w1) (bk m t hm e2 c w2)
/-- the list of lists is written to no more -/
theorem Rp.freezeN (R : Rp K H0 O0 O H σ env) {i : Nat} {dss : List (List PyData)} (h : env[i]? = some (.nst dss)) :
    ∃ O', Rp K H0 O0 O' H σ (env.set i (.dat (.list (dss.map .list)))) ∧ Ed (mn H O) (mn H O') := by
  obtain ⟨a, bs, q1, q2, q3, q4, q5, q6, q7, q8⟩ := R.nst h
  let O' : Ow := fun b => if b = a ∨ b ∈ bs then false else O b
  have F : Ed (mn H O) (mn H O') := mn_sub fun b z => by
    have z : (if b = a ∨ b ∈ bs then false else O b) = true := z
    by_cases hb : b = a ∨ b ∈ bs
    · rw [if_pos hb] at z; cases z
    · rwa [if_neg hb] at z
  have hrows : ∀ (cs : List Addr) (ess : List (List PyData)), cs.length = ess.length → (∀ c ∈ cs, c ∈ bs) → (∀ (k : Nat) b ds, cs[k]? = some b → ess[k]? = some ds → ∃ vs, H b = some (.lst vs) ∧ DqA K (mn H O) vs ds) → DqA K (mn H O') (cs.map V.ref) (ess.map .list) := by
    intro cs
    induction cs with
    | nil => intro ess hl _ _; cases ess with
      | nil => exact .nil
      | cons _ _ => cases hl
    | cons c cs ih =>
      intro ess hl hm hq
      cases ess with
      | nil => cases hl
      | cons e ess =>
        obtain ⟨vs, g1, g2⟩ := hq 0 c e rfl rfl
        exact .cons (.lst (mn_of g1 (if_pos (.inr (hm c List.mem_cons_self)))) (dpa_up F g2)) (ih ess (by simpa using hl) (fun d hd => hm d (List.mem_cons_of_mem _ hd)) fun k b ds e1 e2 => hq (k + 1) b ds (by simpa using e1) (by simpa using e2))
  exact ⟨_, R.ice h q1 (fun b => b = a ∨ b ∈ bs) (fun c hc => ⟨a, q1, hc.imp id fun hc => ⟨bs, q4, hc⟩⟩) (.lst (mn_of q4 (if_pos (.inl rfl))) (hrows bs dss q6 (fun _ h => h) fun k b ds e1 e2 => (q8 k b ds e1 e2).2.2))⟩
end
end Dz

/-! Dz2: expressions over data. -/
namespace Dz
open PySem PySem.Spec PyProof.Rows L2 Evl

/-- an expression whose value is the data that f tells -/
def tED (K : PySem.W.Frag) (f : En → Option PyData) : TE := fun σ H Q => ∃ (H0 : Hp) (O0 O : Ow) (env : En) (d : PyData), Rp K H0 O0 O H σ env ∧ f env = some d ∧ ∀ v H', Ex H H' → Dq K (mn H' O) v d → Q v H'
def ED (X : Cx) (e : Expr) (f : En → Option PyData) : Prop := PE X e (tED X.K f)
/-- .. a new list -/
def tEN (K : PySem.W.Frag) (f : En → Option (List PyData)) : TE := fun σ H Q => ∃ (H0 : Hp) (O0 O : Ow) (env : En) (ds : List PyData), Rp K H0 O0 O H σ env ∧ f env = some ds ∧ ∀ a vs H', Ex H H' → H a = none → H' a = some (.lst vs) → DqA K (mn H' (ad a O)) vs ds → Q (.ref a) H'
def EN (X : Cx) (e : Expr) (f : En → Option (List PyData)) : Prop := PE X e (tEN X.K f)
/-- .. a list to be read at once (perhaps one that is still written to) -/
def tEL (K : PySem.W.Frag) (f : En → Option (List PyData)) : TE := fun σ H Q => ∃ (H0 : Hp) (O0 O : Ow) (env : En) (ds : List PyData), Rp K H0 O0 O H σ env ∧ f env = some ds ∧ ∀ a vs H', Ex H H' → H' a = some (.lst vs) → DqA K (mn H' O) vs ds → Q (.ref a) H'
def EL (X : Cx) (e : Expr) (f : En → Option (List PyData)) : Prop := PE X e (tEL X.K f)
/-- arguments -/
def tDA (K : PySem.W.Frag) (f : En → Option (List PyData)) : TA := fun σ H Q => ∃ (H0 : Hp) (O0 O : Ow) (env : En) (ds : List PyData), Rp K H0 O0 O H σ env ∧ f env = some ds ∧ ∀ vs H', Ex H H' → DqA K (mn H' O) vs ds → Q vs H'
def DA (X : Cx) (es : List Expr) (f : En → Option (List PyData)) : Prop := PA X es (tDA X.K f)
/-- a test -/
def tDT (K : PySem.W.Frag) (f : En → Option Bool) : TT := fun σ H Q => ∃ (H0 : Hp) (O0 O : Ow) (env : En) (b : Bool), Rp K H0 O0 O H σ env ∧ f env = some b ∧ ∀ H', Ex H H' → Q b H'
def DT (X : Cx) (e : Expr) (f : En → Option Bool) : Prop := PT X e (tDT X.K f)
def DW (X : Cx) (e : Expr) (f : En → Option Bool) : Prop := PW X e (tDT X.K f)
section
variable {X : Cx} {e : Expr} {es : List Expr}
theorem ED.ex {f : En → Option PyData} (h : ED X e f) : ∃ t, PE X e t ∧ ∀ H0 O0 O H σ env, Rp X.K H0 O0 O H σ env → ∀ d, f env = some d → ∀ Q : VK, (∀ v H', Ex H H' → Dq X.K (mn H' O) v d → Q v H') → t σ H Q :=
  ⟨_, h, fun H0 O0 O H σ env R d hd Q q => ⟨H0, O0, O, env, d, R, hd, q⟩⟩
theorem ED.of {f : En → Option PyData} (h : ∃ t, PE X e t ∧ ∀ H0 O0 O H σ env, Rp X.K H0 O0 O H σ env → ∀ d, f env = some d → ∀ Q : VK, (∀ v H', Ex H H' → Dq X.K (mn H' O) v d → Q v H') → t σ H Q) : ED X e f := by
  obtain ⟨t, h, p⟩ := h
  exact ⟨fun pins s σ H Q I ⟨H0, O0, O, env, d, R, hd, q⟩ => h.run pins s σ H Q I (p H0 O0 O H σ env R d hd Q q)⟩
theorem EN.ex {f : En → Option (List PyData)} (h : EN X e f) : ∃ t, PE X e t ∧ ∀ H0 O0 O H σ env, Rp X.K H0 O0 O H σ env → ∀ ds, f env = some ds → ∀ Q : VK, (∀ a vs H', Ex H H' → H a = none → H' a = some (.lst vs) → DqA X.K (mn H' (ad a O)) vs ds → Q (.ref a) H') → t σ H Q :=
  ⟨_, h, fun H0 O0 O H σ env R d hd Q q => ⟨H0, O0, O, env, d, R, hd, q⟩⟩
theorem EN.of {f : En → Option (List PyData)} (h : ∃ t, PE X e t ∧ ∀ H0 O0 O H σ env, Rp X.K H0 O0 O H σ env → ∀ ds, f env = some ds → ∀ Q : VK, (∀ a vs H', Ex H H' → H a = none → H' a = some (.lst vs) → DqA X.K (mn H' (ad a O)) vs ds → Q (.ref a) H') → t σ H Q) : EN X e f := by
  obtain ⟨t, h, p⟩ := h
  exact ⟨fun pins s σ H Q I ⟨H0, O0, O, env, d, R, hd, q⟩ => h.run pins s σ H Q I (p H0 O0 O H σ env R d hd Q q)⟩
theorem EL.ex {f : En → Option (List PyData)} (h : EL X e f) : ∃ t, PE X e t ∧ ∀ H0 O0 O H σ env, Rp X.K H0 O0 O H σ env → ∀ ds, f env = some ds → ∀ Q : VK, (∀ a vs H', Ex H H' → H' a = some (.lst vs) → DqA X.K (mn H' O) vs ds → Q (.ref a) H') → t σ H Q :=
  ⟨_, h, fun H0 O0 O H σ env R d hd Q q => ⟨H0, O0, O, env, d, R, hd, q⟩⟩
theorem EL.of {f : En → Option (List PyData)} (h : ∃ t, PE X e t ∧ ∀ H0 O0 O H σ env, Rp X.K H0 O0 O H σ env → ∀ ds, f env = some ds → ∀ Q : VK, (∀ a vs H', Ex H H' → H' a = some (.lst vs) → DqA X.K (mn H' O) vs ds → Q (.ref a) H') → t σ H Q) : EL X e f := by
  obtain ⟨t, h, p⟩ := h
  exact ⟨fun pins s σ H Q I ⟨H0, O0, O, env, d, R, hd, q⟩ => h.run pins s σ H Q I (p H0 O0 O H σ env R d hd Q q)⟩
theorem DA.ex {f : En → Option (List PyData)} (h : DA X es f) : ∃ t, PA X es t ∧ ∀ H0 O0 O H σ env, Rp X.K H0 O0 O H σ env → ∀ ds, f env = some ds → ∀ Q : List V → Hp → Prop, (∀ vs H', Ex H H' → DqA X.K (mn H' O) vs ds → Q vs H') → t σ H Q :=
  ⟨_, h, fun H0 O0 O H σ env R d hd Q q => ⟨H0, O0, O, env, d, R, hd, q⟩⟩
theorem DA.of {f : En → Option (List PyData)} (h : ∃ t, PA X es t ∧ ∀ H0 O0 O H σ env, Rp X.K H0 O0 O H σ env → ∀ ds, f env = some ds → ∀ Q : List V → Hp → Prop, (∀ vs H', Ex H H' → DqA X.K (mn H' O) vs ds → Q vs H') → t σ H Q) : DA X es f := by
  obtain ⟨t, h, p⟩ := h
  exact ⟨fun pos pins s σ H Q I ⟨H0, O0, O, env, d, R, hd, q⟩ => h.run pos pins s σ H Q I (p H0 O0 O H σ env R d hd Q q)⟩
theorem DT.ex {f : En → Option Bool} (h : DT X e f) : ∃ t, PT X e t ∧ ∀ H0 O0 O H σ env, Rp X.K H0 O0 O H σ env → ∀ b, f env = some b → ∀ Q : Bool → Hp → Prop, (∀ H', Ex H H' → Q b H') → t σ H Q :=
  ⟨_, h, fun H0 O0 O H σ env R d hd Q q => ⟨H0, O0, O, env, d, R, hd, q⟩⟩
theorem DT.of {f : En → Option Bool} (h : ∃ t, PT X e t ∧ ∀ H0 O0 O H σ env, Rp X.K H0 O0 O H σ env → ∀ b, f env = some b → ∀ Q : Bool → Hp → Prop, (∀ H', Ex H H' → Q b H') → t σ H Q) : DT X e f := by
  obtain ⟨t, h, p⟩ := h
  exact ⟨fun pins s σ H Q I ⟨H0, O0, O, env, d, R, hd, q⟩ => h.run pins s σ H Q I (p H0 O0 O H σ env R d hd Q q)⟩
theorem DW.ex {f : En → Option Bool} (h : DW X e f) : ∃ t, PW X e t ∧ ∀ H0 O0 O H σ env, Rp X.K H0 O0 O H σ env → ∀ b, f env = some b → ∀ Q : Bool → Hp → Prop, (∀ H', Ex H H' → Q b H') → t σ H Q :=
  ⟨_, h, fun H0 O0 O H σ env R d hd Q q => ⟨H0, O0, O, env, d, R, hd, q⟩⟩
theorem DW.of {f : En → Option Bool} (h : ∃ t, PW X e t ∧ ∀ H0 O0 O H σ env, Rp X.K H0 O0 O H σ env → ∀ b, f env = some b → ∀ Q : Bool → Hp → Prop, (∀ H', Ex H H' → Q b H') → t σ H Q) : DW X e f := by
  obtain ⟨t, h, p⟩ := h
  exact ⟨fun wh pins s σ H Q I ⟨H0, O0, O, env, d, R, hd, q⟩ => h.run wh pins s σ H Q I (p H0 O0 O H σ env R d hd Q q)⟩
end

/-! ### meanings -/
def asI : PyData → Option Int
  | .int i => some i
  | _ => none
def asB : PyData → Option Bool
  | .bool b => some b
  | _ => none
def asL : PyData → Option (List PyData)
  | .list ds => some ds
  | _ => none
/-- what is walked -/
def asQ : PyData → Option (List PyData)
  | .list ds => some ds
  | .tuple ds => some ds
  | .dict kvs => some (kvs.map (·.1))
  | _ => none
def sVar (i : Nat) (env : En) : Option PyData := match env[i]? with
  | some (.dat d) => some d
  | _ => none
def sOwn (i : Nat) (env : En) : Option (List PyData) := match env[i]? with
  | some (.dat (.list ds)) => some ds
  | some (.own ds) => some ds
  | _ => none
def sC (d : PyData) (_ : En) : Option PyData := some d
def s1 (f : PyData → Option PyData) (a : En → Option PyData) (env : En) : Option PyData := (a env).bind f
def s2 (f : PyData → PyData → Option PyData) (a b : En → Option PyData) (env : En) : Option PyData := (a env).bind fun x => (b env).bind fun y => f x y
def sNil (_ : En) : Option (List PyData) := some []
def sCons (a : En → Option PyData) (r : En → Option (List PyData)) (env : En) : Option (List PyData) := (a env).bind fun x => (r env).bind fun xs => some (x :: xs)
def sAs (g : List PyData → Option PyData) (a : En → Option (List PyData)) (env : En) : Option PyData := (a env).bind g
def sLst (a : En → Option (List PyData)) (env : En) : Option PyData := (a env).bind fun ds => some (.list ds)
def sB (a : En → Option PyData) (env : En) : Option Bool := (a env).bind asB
def sTb (a : En → Option Bool) (env : En) : Option PyData := (a env).bind fun b => some (.bool b)
def sAnd (a b : En → Option Bool) (env : En) : Option Bool := (a env).bind fun x => if x = true then b env else some false
def sOr (a b : En → Option Bool) (env : En) : Option Bool := (a env).bind fun x => if x = true then some true else b env
def sNot (a : En → Option Bool) (env : En) : Option Bool := (a env).bind fun x => some (!x)

/-! ### what gives what -/
section
variable {X : Cx} {e a b c : Expr} {es : List Expr} {fa fb fc f : En → Option PyData} {fl gl : En → Option (List PyData)} {pos : Pos}
theorem EN.ed (h : EN X e fl) : ED X e (sLst fl) := by
  obtain ⟨t, ht, r⟩ := h.ex
  refine ED.of ⟨t, ht, fun H0 O0 O H σ env R d hd Q q => ?_⟩
  unfold sLst at hd
  cases hf : fl env with
  | none => rw [hf] at hd; cases hd
  | some ds =>
    rw [hf] at hd; cases hd
    refine r H0 O0 O H σ env R ds hf Q fun p vs H' e hn hp hq => q _ _ e (.lst (mn_of hp (R.fr hn)) (dpa_up (mn_sub ad_sub) hq))
theorem EN.el (h : EN X e fl) : EL X e fl := by
  obtain ⟨t, ht, r⟩ := h.ex
  exact EL.of ⟨t, ht, fun H0 O0 O H σ env R ds hf Q q => r H0 O0 O H σ env R ds hf Q fun p vs H' e hn hp hq => q _ _ _ e hp (dpa_up (mn_sub ad_sub) hq)⟩
def sL (a : En → Option PyData) (env : En) : Option (List PyData) := (a env).bind asL
theorem ED.el (h : ED X e f) : EL X e (sL f) := by
  obtain ⟨t, ht, r⟩ := h.ex
  refine EL.of ⟨t, ht, fun H0 O0 O H σ env R ds hd Q q => ?_⟩
  unfold sL at hd
  cases hf : f env with
  | none => rw [hf] at hd; cases hd
  | some d =>
    rw [hf] at hd
    cases d with
    | list es =>
      cases hd
      refine r H0 O0 O H σ env R _ hf Q fun v H' e hq => ?_
      cases hq with
      | lst h1 h2 => exact q _ _ _ e (mn_some h1).1 h2
    | _ => cases hd
theorem ed_var {i : Nat} {x : Str} {pos : Pos} (h : PE X (.Name x pos) (tVar i)) : ED X (.Name x pos) (sVar i) := by
  refine ED.of ⟨_, h, fun H0 O0 O H σ env R d hd Q q => ?_⟩
  unfold sVar at hd
  split at hd
  · rename_i d' he
    cases hd
    obtain ⟨v, h1, h2⟩ := R.dat he
    exact ⟨v, h1, q v H (Ex.refl H) h2⟩
  · cases hd
theorem el_var {i : Nat} {x : Str} {pos : Pos} (h : PE X (.Name x pos) (tVar i)) : EL X (.Name x pos) (sOwn i) := by
  refine EL.of ⟨_, h, fun H0 O0 O H σ env R d hd Q q => ?_⟩
  unfold sOwn at hd
  split at hd
  · rename_i ds he
    cases hd
    obtain ⟨v, h1, h2⟩ := R.dat he
    cases h2 with
    | lst h3 h4 => exact ⟨_, h1, q _ _ H (Ex.refl H) (mn_some h3).1 h4⟩
  · rename_i ds he
    cases hd
    obtain ⟨p, vs, h1, _, _, h4, h5⟩ := R.own he
    exact ⟨_, h1, q _ _ H (Ex.refl H) h4 h5⟩
  · cases hd
theorem ed_c {v : V} {d : PyData} (h : PE X e (tC v)) (hd : ∀ H, Dq X.K H v d) : ED X e (sC d) := by
  refine ED.of ⟨_, h, fun H0 O0 O H σ env R d' hd' Q q => ?_⟩
  cases hd'
  exact q v H (Ex.refl H) (hd _)
theorem ed_int {i j pos} : ED X (.Constant (.int i) j pos) (sC (.int i)) := ed_c pe_int fun _ => .int i
theorem ed_bl {b j pos} : ED X (.Constant (.bool b) j pos) (sC (.bool b)) := ed_c pe_bl fun _ => .bl b
theorem ed_non {j pos} : ED X (.Constant .none j pos) (sC .none) := ed_c pe_non fun _ => .non
theorem ed_str {x j pos} : ED X (.Constant (.str x) j pos) (sC (.str x)) := ed_c pe_str fun _ => .str x

/-! ### two-place operations -/
def R2D (K : PySem.W.Frag) (r : R2) (f : PyData → PyData → Option PyData) : Prop := ∀ (H : Hp) (O : Ow) (x y : V) (dx dy dz : PyData), (∀ a, O a = true → Mu (H a)) → Dq K (mn H O) x dx → Dq K (mn H O) y dy → f dx dy = some dz →
  ∀ Q : VK, (∀ v H', Ex H H' → Dq K (mn H' O) v dz → Q v H') → r x y H Q
theorem ed_2 {r : R2} {g : PyData → PyData → Option PyData} {t : TE → TE → TE} (h : ∀ {ta tb}, PE X a ta → PE X b tb → PE X e (tOp r ta tb)) (hr : R2D X.K r g) (ha : ED X a fa) (hb : ED X b fb) : ED X e (s2 g fa fb) := by
  obtain ⟨ta, h1, r1⟩ := ha.ex
  obtain ⟨tb, h2, r2⟩ := hb.ex
  refine ED.of ⟨_, h h1 h2, fun H0 O0 O H σ env R d hd Q q => ?_⟩
  unfold s2 at hd
  cases hx : fa env with
  | none => rw [hx] at hd; cases hd
  | some dx =>
    cases hy : fb env with
    | none => rw [hx, hy] at hd; cases hd
    | some dy =>
      rw [hx, hy] at hd
      refine r1 H0 O0 O H σ env R dx hx _ fun x H1 e1 q1 => ?_
      have R1 := R.up e1
      refine r2 H0 O0 O H1 σ env R1 dy hy _ fun y H2 e2 q2 => ?_
      exact hr H2 O x y dx dy d (R1.up e2).tr (dp_up (mn_ex e2) q1) q2 hd Q fun v H' e3 q3 => q v H' ((e1.trans e2).trans e3) q3
theorem ed_op {op : Operator} {r : R2} {g : PyData → PyData → Option PyData} (ho : OpR X (binaryOp op) r) (hr : R2D X.K r g) (ha : ED X a fa) (hb : ED X b fb) : ED X (.BinOp a op b pos) (s2 g fa fb) :=
  ed_2 (t := fun _ _ => tC .non) (fun h1 h2 => pe_op ho h1 h2) hr ha hb
theorem ed_cmp {op : CmpOp} {r : R2} {g : PyData → PyData → Option PyData} (ho : OpR X (compareOp op) r) (hr : R2D X.K r g) (ha : ED X a fa) (hb : ED X b fb) (hm : behindInMarks op b = false) : ED X (.Compare a [op] [b] pos) (s2 g fa fb) :=
  ed_2 (t := fun _ _ => tC .non) (fun h1 h2 => pe_cmpR ho h1 h2 hm) hr ha hb
/-- a < b < c -/
def sChain (g g' : PyData → PyData → Option PyData) (fa fb fc : En → Option PyData) (env : En) : Option PyData := (fa env).bind fun x => (fb env).bind fun y => (g x y).bind fun d => (asB d).bind fun k => if k = true then (fc env).bind fun z => g' y z else some (.bool false)
theorem ed_chain {op op' : CmpOp} {r r' : R2} {g g' : PyData → PyData → Option PyData} (ho : OpR X (compareOp op) r) (ho' : OpR X (compareOp op') r') (hr : R2D X.K r g) (hr' : R2D X.K r' g') (ha : ED X a fa) (hb : ED X b fb) (hc : ED X c fc)
    (hm : lastMarks [op, op'] [b, c] = false := by with_unfolding_all rfl) : ED X (.Compare a [op, op'] [b, c] pos) (sChain g g' fa fb fc) := by
  obtain ⟨ta, h1, r1⟩ := ha.ex
  obtain ⟨tb, h2, r2⟩ := hb.ex
  obtain ⟨tc, h3, r3⟩ := hc.ex
  refine ED.of ⟨_, pe_chain ho ho' h1 h2 h3 hm, fun H0 O0 O H σ env R d hd Q q => ?_⟩
  unfold sChain at hd
  cases hx : fa env with
  | none => rw [hx] at hd; cases hd
  | some dx =>
    cases hy : fb env with
    | none => rw [hx, hy] at hd; cases hd
    | some dy =>
      rw [hx, hy] at hd
      simp only [Option.bind_some] at hd
      cases hg : g dx dy with
      | none => rw [hg] at hd; cases hd
      | some dk =>
        rw [hg] at hd
        simp only [Option.bind_some] at hd
        cases dk with
        | bool k =>
          simp only [asB, Option.bind_some] at hd
          refine r1 H0 O0 O H σ env R dx hx _ fun x H1 e1 q1 => ?_
          have R1 := R.up e1
          refine r2 H0 O0 O H1 σ env R1 dy hy _ fun y H2 e2 q2 => ?_
          have R2 := R1.up e2
          refine hr H2 O x y dx dy _ R2.tr (dp_up (mn_ex e2) q1) q2 hg _ fun z H3 e3 q3 => ?_
          cases q3
          refine ⟨k, rfl, ?_⟩
          cases k with
          | false =>
            simp only [Bool.false_eq_true, if_false] at hd ⊢
            cases hd
            exact q _ _ ((e1.trans e2).trans e3) (.bl false)
          | true =>
            simp only [if_true] at hd ⊢
            cases hz : fc env with
            | none => rw [hz] at hd; cases hd
            | some dz =>
              rw [hz] at hd
              have R3 := R2.up e3
              refine r3 H0 O0 O H3 σ env R3 dz hz _ fun w H4 e4 q4 => ?_
              exact hr' H4 O y w dy dz d (R3.up e4).tr (dp_up (mn_ex (e3.trans e4)) q2) q4 hd Q fun v H' e5 q5 => q v H' ((((e1.trans e2).trans e3).trans e4).trans e5) q5
        | _ => cases hd
/-! ### truth -/
theorem dt_e (h : ED X e f) (he : ∀ whole, isTrue e X.env whole = (do let v ← whole; standAt e.pos; holding [v] (truthy v)) := by intro _; rfl) : DT X e (sB f) := by
  obtain ⟨t, ht, r⟩ := h.ex
  refine DT.of ⟨_, pt_val ht he, fun H0 O0 O H σ env R d hd Q q => ?_⟩
  unfold sB at hd
  cases hf : f env with
  | none => rw [hf] at hd; cases hd
  | some x =>
    rw [hf] at hd
    cases x with
    | bool b =>
      cases hd
      refine r H0 O0 O H σ env R _ hf _ fun v H' e1 q1 => ?_
      cases q1
      exact ⟨_, rfl, q H' e1⟩
    | _ => cases hd
theorem dt_cmp {op : CmpOp} {r : R2} {g : PyData → PyData → Option PyData} (ho : OpR X (compareOp op) r) (hr : R2D X.K r g) (ha : ED X a fa) (hb : ED X b fb) (hm : behindInMarks op b = false) : DT X (.Compare a [op] [b] pos) (sB (s2 g fa fb)) := by
  obtain ⟨ta, h1, r1⟩ := ha.ex
  obtain ⟨tb, h2, r2⟩ := hb.ex
  refine DT.of ⟨_, pt_cmpR ho h1 h2 hm, fun H0 O0 O H σ env R d hd Q q => ?_⟩
  unfold sB s2 at hd
  cases hx : fa env with
  | none => rw [hx] at hd; cases hd
  | some dx =>
    cases hy : fb env with
    | none => rw [hx, hy] at hd; cases hd
    | some dy =>
      rw [hx, hy] at hd
      simp only [Option.bind_some] at hd
      cases hg : g dx dy with
      | none => rw [hg] at hd; cases hd
      | some dk =>
        rw [hg] at hd
        cases dk with
        | bool k =>
          cases hd
          refine r1 H0 O0 O H σ env R dx hx _ fun x H1 e1 q1 => ?_
          have R1 := R.up e1
          refine r2 H0 O0 O H1 σ env R1 dy hy _ fun y H2 e2 q2 => ?_
          refine hr H2 O x y dx dy _ (R1.up e2).tr (dp_up (mn_ex e2) q1) q2 hg _ fun v H' e3 q3 => ?_
          cases q3
          exact ⟨_, rfl, q H' ((e1.trans e2).trans e3)⟩
        | _ => cases hd
theorem dt_not {g : En → Option Bool} (h : DT X a g) : DT X (.UnaryOp .Not a pos) (sNot g) := by
  obtain ⟨t, ht, r⟩ := h.ex
  refine DT.of ⟨_, pt_not ht, fun H0 O0 O H σ env R d hd Q q => ?_⟩
  unfold sNot at hd
  cases hf : g env with
  | none => rw [hf] at hd; cases hd
  | some x =>
    rw [hf] at hd; cases hd
    exact r H0 O0 O H σ env R x hf _ fun H' e1 => q H' e1
theorem DW.dt {f : En → Option Bool} (h : DW X e f) : DT X e f := let ⟨t, h1, h2⟩ := h.ex; DT.of ⟨t, h1.pt, h2⟩
theorem dw_and1 {g : En → Option Bool} (h : DT X a g) : DW X (.BoolOp .And [a] pos) g := let ⟨t, h1, h2⟩ := h.ex; DW.of ⟨t, pw_and1 h1, h2⟩
theorem dw_or1 {g : En → Option Bool} (h : DT X a g) : DW X (.BoolOp .Or [a] pos) g := let ⟨t, h1, h2⟩ := h.ex; DW.of ⟨t, pw_or1 h1, h2⟩
theorem dw_and {rest : List Expr} {g k : En → Option Bool} (h : DT X a g) (h' : DW X (.BoolOp .And (b :: rest) pos) k) : DW X (.BoolOp .And (a :: b :: rest) pos) (sAnd g k) := by
  obtain ⟨t, h1, r1⟩ := h.ex
  obtain ⟨u, h2, r2⟩ := h'.ex
  refine DW.of ⟨_, pw_and h1 h2, fun H0 O0 O H σ env R d hd Q q => ?_⟩
  unfold sAnd at hd
  cases hf : g env with
  | none => rw [hf] at hd; cases hd
  | some x =>
    rw [hf] at hd
    refine r1 H0 O0 O H σ env R x hf _ fun H1 e1 => ?_
    cases x with
    | true =>
      simp only [Option.bind_some, if_true] at hd ⊢
      exact r2 H0 O0 O H1 σ env (R.up e1) d hd _ fun H' e2 => q H' (e1.trans e2)
    | false =>
      simp only [Option.bind_some, Bool.false_eq_true, if_false] at hd ⊢
      cases hd
      exact q H1 e1
theorem dw_or {rest : List Expr} {g k : En → Option Bool} (h : DT X a g) (h' : DW X (.BoolOp .Or (b :: rest) pos) k) : DW X (.BoolOp .Or (a :: b :: rest) pos) (sOr g k) := by
  obtain ⟨t, h1, r1⟩ := h.ex
  obtain ⟨u, h2, r2⟩ := h'.ex
  refine DW.of ⟨_, pw_or h1 h2, fun H0 O0 O H σ env R d hd Q q => ?_⟩
  unfold sOr at hd
  cases hf : g env with
  | none => rw [hf] at hd; cases hd
  | some x =>
    rw [hf] at hd
    refine r1 H0 O0 O H σ env R x hf _ fun H1 e1 => ?_
    cases x with
    | false =>
      simp only [Option.bind_some, Bool.false_eq_true, if_false] at hd ⊢
      exact r2 H0 O0 O H1 σ env (R.up e1) d hd _ fun H' e2 => q H' (e1.trans e2)
    | true =>
      simp only [Option.bind_some, if_true] at hd ⊢
      cases hd
      exact q H1 e1
/-! as values -/
def sAndV (a b : En → Option PyData) (env : En) : Option PyData := (a env).bind fun d => (asB d).bind fun x => if x = true then (b env) else some (.bool false)
def sOrV (a b : En → Option PyData) (env : En) : Option PyData := (a env).bind fun d => (asB d).bind fun x => if x = true then some (.bool true) else b env
def sNotV (a : En → Option PyData) (env : En) : Option PyData := (a env).bind fun d => (asB d).bind fun x => some (.bool (!x))
theorem ed_one {op} (h : ED X a fa) : ED X (.BoolOp op [a] pos) fa := let ⟨t, h1, h2⟩ := h.ex; ED.of ⟨t, pe_one h1, h2⟩
theorem ed_and {rest : List Expr} (h : ED X a fa) (h' : ED X (.BoolOp .And (b :: rest) pos) fb) : ED X (.BoolOp .And (a :: b :: rest) pos) (sAndV fa fb) := by
  obtain ⟨t, h1, r1⟩ := h.ex
  obtain ⟨u, h2, r2⟩ := h'.ex
  refine ED.of ⟨_, pe_and h1 h2, fun H0 O0 O H σ env R d hd Q q => ?_⟩
  unfold sAndV at hd
  cases hf : fa env with
  | none => rw [hf] at hd; cases hd
  | some x =>
    rw [hf] at hd
    cases x with
    | bool k =>
      simp only [Option.bind_some, asB] at hd
      refine r1 H0 O0 O H σ env R _ hf _ fun v H1 e1 q1 => ?_
      cases q1
      refine ⟨k, rfl, ?_⟩
      cases k with
      | true =>
        simp only [if_true] at hd ⊢
        exact r2 H0 O0 O H1 σ env (R.up e1) d hd _ fun v H' e2 q2 => q v H' (e1.trans e2) q2
      | false =>
        simp only [Bool.false_eq_true, if_false] at hd ⊢
        cases hd
        exact q _ H1 e1 (.bl false)
    | _ => cases hd
theorem ed_or {rest : List Expr} (h : ED X a fa) (h' : ED X (.BoolOp .Or (b :: rest) pos) fb) : ED X (.BoolOp .Or (a :: b :: rest) pos) (sOrV fa fb) := by
  obtain ⟨t, h1, r1⟩ := h.ex
  obtain ⟨u, h2, r2⟩ := h'.ex
  refine ED.of ⟨_, pe_or h1 h2, fun H0 O0 O H σ env R d hd Q q => ?_⟩
  unfold sOrV at hd
  cases hf : fa env with
  | none => rw [hf] at hd; cases hd
  | some x =>
    rw [hf] at hd
    cases x with
    | bool k =>
      simp only [Option.bind_some, asB] at hd
      refine r1 H0 O0 O H σ env R _ hf _ fun v H1 e1 q1 => ?_
      cases q1
      refine ⟨k, rfl, ?_⟩
      cases k with
      | false =>
        simp only [Bool.false_eq_true, if_false] at hd ⊢
        exact r2 H0 O0 O H1 σ env (R.up e1) d hd _ fun v H' e2 q2 => q v H' (e1.trans e2) q2
      | true =>
        simp only [if_true] at hd ⊢
        cases hd
        exact q _ H1 e1 (.bl true)
    | _ => cases hd
theorem ed_not (h : ED X a fa) : ED X (.UnaryOp .Not a pos) (sNotV fa) := by
  obtain ⟨t, h1, r1⟩ := h.ex
  refine ED.of ⟨_, pe_not h1, fun H0 O0 O H σ env R d hd Q q => ?_⟩
  unfold sNotV at hd
  cases hf : fa env with
  | none => rw [hf] at hd; cases hd
  | some x =>
    rw [hf] at hd
    cases x with
    | bool k =>
      cases hd
      refine r1 H0 O0 O H σ env R _ hf _ fun v H1 e1 q1 => ?_
      cases q1
      exact ⟨k, rfl, q _ H1 e1 (.bl (!k))⟩
    | _ => cases hd
/-! ### arguments, displays -/
theorem da_nil : DA X [] sNil := DA.of ⟨_, pa_nil, fun H0 O0 O H σ env R d hd Q q => by cases hd; exact q [] H (Ex.refl H) .nil⟩
theorem da_cons (h : ED X e fa) (hr : DA X es fl) (hs : starEach (e :: es) X.env = (false, eval e X.env) :: starEach es X.env := by rfl) : DA X (e :: es) (sCons fa fl) := by
  obtain ⟨t, h1, r1⟩ := h.ex
  obtain ⟨u, h2, r2⟩ := hr.ex
  refine DA.of ⟨_, pa_cons h1 h2 hs, fun H0 O0 O H σ env R d hd Q q => ?_⟩
  unfold sCons at hd
  cases hx : fa env with
  | none => rw [hx] at hd; cases hd
  | some dx =>
    cases hy : fl env with
    | none => rw [hx, hy] at hd; cases hd
    | some dy =>
      rw [hx, hy] at hd
      cases hd
      refine r1 H0 O0 O H σ env R dx hx _ fun x H1 e1 q1 => ?_
      refine r2 H0 O0 O H1 σ env (R.up e1) dy hy _ fun xs H2 e2 q2 => ?_
      exact q _ H2 (e1.trans e2) (.cons (dp_up (mn_ex e2) q1) q2)
def sTup (a : En → Option (List PyData)) (env : En) : Option PyData := (a env).bind fun ds => if ds.length ≤ sizeLine then some (.tuple ds) else none
def sDis (a : En → Option (List PyData)) (env : En) : Option (List PyData) := (a env).bind fun ds => if ds.length ≤ sizeLine then some ds else none
theorem ed_tup {x1} (h : DA X es fl) : ED X (.Tuple es x1 pos) (sTup fl) := by
  obtain ⟨t, h1, r1⟩ := h.ex
  refine ED.of ⟨_, pe_tup h1, fun H0 O0 O H σ env R d hd Q q => ?_⟩
  unfold sTup at hd
  cases hx : fl env with
  | none => rw [hx] at hd; cases hd
  | some ds =>
    rw [hx, Option.bind_some] at hd
    split at hd
    · rename_i hz
      cases hd
      refine r1 H0 O0 O H σ env R ds hx _ fun xs H1 e1 q1 => ⟨by rw [DqA.len q1]; exact hz, fun p hp => ?_⟩
      have R1 := R.up e1
      exact q _ _ (e1.trans (Ex.new hp)) (.tup (.inl (.inl (mn_of upd_same (R1.fr hp)))) (dpa_up (mn_ex (Ex.new hp)) q1))
    · cases hd
theorem en_lst (h : DA X es fl) : EN X (.List es pos) (sDis fl) := by
  obtain ⟨t, h1, r1⟩ := h.ex
  refine EN.of ⟨_, pe_lst h1, fun H0 O0 O H σ env R d hd Q q => ?_⟩
  unfold sDis at hd
  cases hx : fl env with
  | none => rw [hx] at hd; cases hd
  | some ds =>
    rw [hx, Option.bind_some] at hd
    split at hd
    · rename_i hz
      have hd' : ds = d := Option.some.inj hd
      subst hd'
      refine r1 H0 O0 O H σ env R ds hx _ fun xs H1 e1 q1 => ⟨by rw [DqA.len q1]; exact hz, fun p hp => ?_⟩
      have R1 := R.up e1
      refine q _ xs _ (e1.trans (Ex.new hp)) (fresh_back e1 hp) upd_same (dpa_up (.of fun b o z => ?_) q1)
      obtain ⟨z1, z2⟩ := mn_some z
      have hb : b ≠ p := ne_of_none z1 hp
      exact mn_of (by rw [upd_ne hb]; exact z1) (by simp [ad, hb, z2])
    · cases hd
/-! ### calls -/
def RCD (K : PySem.W.Frag) (r : List V → Hp → VK → Prop) (f : List PyData → Option PyData) : Prop := ∀ (H : Hp) (O : Ow) (vs : List V) (ds : List PyData) (dz : PyData), (∀ a, O a = true → Mu (H a)) → DqA K (mn H O) vs ds → f ds = some dz →
  ∀ Q : VK, (∀ v H', Ex H H' → Dq K (mn H' O) v dz → Q v H') → r vs H Q
theorem ed_cb {r : List V → Hp → VK → Prop} {g : List PyData → Option PyData} (h : ∀ {t}, PA X es t → PE X e (tCB r t)) (hr : RCD X.K r g) (ha : DA X es fl) : ED X e (sAs g fl) := by
  obtain ⟨t, h1, r1⟩ := ha.ex
  refine ED.of ⟨_, h h1, fun H0 O0 O H σ env R d hd Q q => ?_⟩
  unfold sAs at hd
  cases hx : fl env with
  | none => rw [hx] at hd; cases hd
  | some ds =>
    rw [hx, Option.bind_some] at hd
    refine r1 H0 O0 O H σ env R ds hx _ fun vs H1 e1 q1 => ?_
    exact hr H1 O vs ds d (R.up e1).tr q1 hd Q fun v H' e2 q2 => q v H' (e1.trans e2) q2
/-- a def's promise: it hands back the data f makes of its arguments, all that stood stands -/
def spD (n : Nat) (f : List PyData → Option PyData) (K : PySem.W.Frag) : Sp := fun vs H Q _ => ∃ (O : Ow) (ds : List PyData) (d : PyData), (∀ a, O a = true → Mu (H a)) ∧ ds.length = n ∧ DqA K (mn H O) vs ds ∧ f ds = some d ∧ ∀ v H', Ex H H' → Dq K (mn H' O) v d → Q v H'
theorem ed_call {k j : Nat} {x : Str} {n : Nat} {p : Pos} {g : List PyData → Option PyData} (c : C8.Cal X.prog X.w X.K X.mg X.base k x (spD n g X.K) []) (hr : Room j X.A) (hk : k ≤ j) (hg : Gl X x) (ha : DA X (e :: es) fl) (hn : ∀ env ds, fl env = some ds → ds.length = n)
    (hdb : (x == ("__debug__" : Str)) = false := by decide) (he : starEach (e :: es) X.env = (false, eval e X.env) :: starEach es X.env := by rfl) (hpl : (backTo pos (starEach es X.env)).any (·.1) = false := by rfl) : ED X (.Call (.Name x p) (e :: es) [] pos) (sAs g fl) := by
  obtain ⟨t, h1, r1⟩ := ha.ex
  refine ED.of ⟨_, C8.pe_c c hr hk hg h1 hdb he hpl, fun H0 O0 O H σ env R d hd Q q => ?_⟩
  unfold sAs at hd
  cases hx : fl env with
  | none => rw [hx] at hd; cases hd
  | some ds =>
    rw [hx, Option.bind_some] at hd
    refine r1 H0 O0 O H σ env R ds hx _ fun vs H1 e1 q1 => ?_
    refine ⟨O, ds, d, (R.up e1).tr, hn env ds hx, by rw [List.append_nil]; exact q1, hd, fun v H' e2 q2 => q v H' (e1.trans e2) q2⟩
end
end Dz

/-! Dz3: operators over data. -/
namespace Dz
open PySem PySem.Spec PyProof.Rows L2 Evl

theorem iteS {α : Type} {c : Prop} [Decidable c] {a b : α} (h : (if c then some a else none) = some b) : c ∧ a = b := by
  by_cases hc : c
  · rw [if_pos hc] at h
    exact ⟨hc, Option.some.inj h⟩
  · rw [if_neg hc] at h
    cases h
section
variable {X : Cx} {f : Value → Value → Sem Value} {r r' : R2} {g : PyData → PyData → Option PyData}
theorem opr_or (h : OpR X f r) (h' : OpR X f r') : OpR X f (fun x y H Q => r x y H Q ∨ r' x y H Q) := by
  intro pins s σ H x y v u Q I rx ry q
  rcases q with q | q
  · exact h pins s σ H x y v u Q I rx ry q
  · exact h' pins s σ H x y v u Q I rx ry q
end

/-- a new tuple, a new list behind -/
theorem nu_tup {K : PySem.W.Frag} {H : Hp} {O : Ow} {vs : List V} {ds : List PyData} (tr : ∀ a, O a = true → Mu (H a)) (h : DqA K (mn H O) vs ds) {p : Addr} (hp : H p = none) : Dq K (mn (upd H p (.tup vs)) O) (.ref p) (.tuple ds) := by
  have hO : O p = false := by
    cases e : O p with
    | false => rfl
    | true => exact absurd hp (mut_ne (tr p e))
  exact .tup (.inl (.inl (mn_of upd_same hO))) (dpa_up (mn_ex (Ex.new hp)) h)
theorem nu_lst {K : PySem.W.Frag} {H : Hp} {O : Ow} {vs : List V} {ds : List PyData} (tr : ∀ a, O a = true → Mu (H a)) (h : DqA K (mn H O) vs ds) {p : Addr} (hp : H p = none) : Dq K (mn (upd H p (.lst vs)) O) (.ref p) (.list ds) := by
  have hO : O p = false := by
    cases e : O p with
    | false => rfl
    | true => exact absurd hp (mut_ne (tr p e))
  exact .lst (mn_of upd_same hO) (dpa_up (mn_ex (Ex.new hp)) h)
/-- the items of a new list, the list itself set apart -/
theorem nu_its {K : PySem.W.Frag} {H : Hp} {O : Ow} {vs : List V} {ds : List PyData} (h : DqA K (mn H O) vs ds) {p : Addr} {o : HO} (hp : H p = none) : DqA K (mn (upd H p o) (ad p O)) vs ds := dpa_up (.of fun b u z => by
    obtain ⟨z1, z2⟩ := mn_some z
    have hb : b ≠ p := ne_of_none z1 hp
    exact mn_of (by rw [upd_ne hb]; exact z1) (by simp [ad, hb, z2])) h
theorem sqT_up {K : PySem.W.Frag} {H : Hp} {O : Ow} {a : Addr} {xs : List V} (h : SqT K (mn H O) a xs) : SqT K H a xs := ex_t mn_le h

/-! ### + - * // % ** -/
def addD : PyData → PyData → Option PyData
  | .int i, .int j => some (.int (i + j))
  | .str x, .str y => if x.length + y.length ≤ sizeLine then some (.str (x ++ y)) else none
  | .tuple xs, .tuple ys => if xs.length + ys.length ≤ sizeLine then some (.tuple (xs ++ ys)) else none
  | .list xs, .list ys => if xs.length + ys.length ≤ sizeLine then some (.list (xs ++ ys)) else none
  | _, _ => none
def rAddA (K : PySem.W.Frag) : R2 := fun x y H Q => ((rI0 (fun i j => .int (i + j)) x y H Q ∨ (∃ i j, x = .str i ∧ y = .str j ∧ i.length + j.length ≤ sizeLine ∧ Q (.str (i ++ j)) H)) ∨ rCatA K x y H Q) ∨ rCat x y H Q
theorem op_addA {X : Cx} : OpR X (binaryOp .Add) (rAddA X.K) := opr_or (opr_or (opr_or op_add op_add_str) op_catA) op_cat
theorem d_add {K : PySem.W.Frag} : R2D K (rAddA K) addD := by
  intro H O x y dx dy dz tr hx hy hd Q q
  cases hx with
  | int i =>
    cases hy with
    | int j => cases hd; exact .inl (.inl (.inl ⟨i, j, rfl, rfl, q _ _ (Ex.refl H) (.int _)⟩))
    | _ => cases hd
  | str a =>
    cases hy with
    | str b =>
      obtain ⟨hz, rfl⟩ := iteS hd
      exact .inl (.inl (.inr ⟨a, b, rfl, rfl, hz, q _ _ (Ex.refl H) (.str _)⟩))
    | _ => cases hd
  | @tup a xs ds h1 h2 =>
    cases hy with
    | @tup b ys es h3 h4 =>
      obtain ⟨hz, rfl⟩ := iteS hd
      refine .inl (.inr ⟨a, b, xs, ys, rfl, rfl, sqT_up h1, sqT_up h3, by rw [DqA.len h2, DqA.len h4]; exact hz, fun e => ?_, fun _ e => ?_, fun _ _ p hp => q _ _ (Ex.new hp) (nu_tup tr (DqA.app h2 h4) hp)⟩)
      · subst e
        cases ds with
        | nil => exact q _ _ (Ex.refl H) (.tup h3 h4)
        | cons _ _ => cases h2
      · subst e
        cases es with
        | nil => rw [List.append_nil] at q; exact q _ _ (Ex.refl H) (.tup h1 h2)
        | cons _ _ => cases h4
    | _ => cases hd
  | @lst a xs ds h1 h2 =>
    cases hy with
    | @lst b ys es h3 h4 =>
      obtain ⟨hz, rfl⟩ := iteS hd
      exact .inr ⟨a, b, xs, ys, rfl, rfl, (mn_some h1).1, (mn_some h3).1, by rw [DqA.len h2, DqA.len h4]; exact hz, fun p hp => q _ _ (Ex.new hp) (nu_lst tr (DqA.app h2 h4) hp)⟩
    | _ => cases hd
  | _ => cases hd
def iiD (c : Int → Int → Bool) (g : Int → Int → Int) : PyData → PyData → Option PyData
  | .int i, .int j => if c i j = true then some (.int (g i j)) else none
  | _, _ => none
theorem d_ii {K : PySem.W.Frag} {C : Int → Int → Prop} {c : Int → Int → Bool} {g : Int → Int → Int} (h : ∀ i j, c i j = true → C i j) : R2D K (rI C fun i j => .int (g i j)) (iiD c g) := by
  intro H O x y dx dy dz tr hx hy hd Q q
  cases hx with
  | int i =>
    cases hy with
    | int j =>
      obtain ⟨hc, rfl⟩ := iteS hd
      exact ⟨i, j, rfl, rfl, h i j hc, q _ _ (Ex.refl H) (.int _)⟩
    | _ => cases hd
  | _ => cases hd
def subD : PyData → PyData → Option PyData
  | .int i, .int j => some (.int (i - j))
  | _, _ => none
theorem d_sub {K : PySem.W.Frag} : R2D K (rI0 fun i j => .int (i - j)) subD := by
  intro H O x y dx dy dz tr hx hy hd Q q
  cases hx with
  | int i =>
    cases hy with
    | int j => cases hd; exact ⟨i, j, rfl, rfl, q _ _ (Ex.refl H) (.int _)⟩
    | _ => cases hd
  | _ => cases hd
def modD : PyData → PyData → Option PyData
  | .int i, .int j => if 0 < j then some (.int (i % j)) else none
  | _, _ => none
theorem d_mod {K : PySem.W.Frag} : R2D K (rI (fun _ j => 0 < j) fun i j => .int (i % j)) modD := by
  intro H O x y dx dy dz tr hx hy hd Q q
  cases hx with
  | int i =>
    cases hy with
    | int j =>
      obtain ⟨hc, rfl⟩ := iteS hd
      exact ⟨i, j, rfl, rfl, hc, q _ _ (Ex.refl H) (.int _)⟩
    | _ => cases hd
  | _ => cases hd
def divD : PyData → PyData → Option PyData
  | .int i, .int j => if 0 < j ∧ j < 1073741824 then some (.int (i / j)) else none
  | _, _ => none
theorem d_div {K : PySem.W.Frag} : R2D K (rI CDiv fun i j => .int (i / j)) divD := by
  intro H O x y dx dy dz tr hx hy hd Q q
  cases hx with
  | int i =>
    cases hy with
    | int j =>
      obtain ⟨hc, rfl⟩ := iteS hd
      exact ⟨i, j, rfl, rfl, hc, q _ _ (Ex.refl H) (.int _)⟩
    | _ => cases hd
  | _ => cases hd
def powD : PyData → PyData → Option PyData
  | .int i, .int j => if 0 ≤ j ∧ j ≤ 1000000 ∧ i.natAbs < 2 ^ 64 then some (.int (i ^ j.toNat)) else none
  | _, _ => none
theorem d_pow {K : PySem.W.Frag} : R2D K (rI CPow fun i j => .int (i ^ j.toNat)) powD := by
  intro H O x y dx dy dz tr hx hy hd Q q
  cases hx with
  | int i =>
    cases hy with
    | int j =>
      obtain ⟨hc, rfl⟩ := iteS hd
      exact ⟨i, j, rfl, rfl, hc, q _ _ (Ex.refl H) (.int _)⟩
    | _ => cases hd
  | _ => cases hd
def mulD : PyData → PyData → Option PyData
  | .int i, .int j => if (-(2 ^ 64) < i ∧ i < 2 ^ 64) ∨ (-(2 ^ 64) < j ∧ j < 2 ^ 64) then some (.int (i * j)) else none
  | .tuple xs, .int k => if 0 < xs.length ∧ 0 ≤ k ∧ k ≤ 1000 ∧ xs.length ≤ 1000 then some (.tuple (List.replicate k.toNat xs).flatten) else none
  | .list xs, .int k => if -(2 ^ 63) ≤ k ∧ k < 2 ^ 63 ∧ xs.length * k.toNat ≤ sizeLine then some (.list (List.replicate k.toNat xs).flatten) else none
  | _, _ => none
def rMulA (K : PySem.W.Frag) : R2 := fun x y H Q => ((rI CMul (fun i j => .int (i * j)) x y H Q ∨ rRepT K x y H Q) ∨ (rRep1 K x y H Q ∨ rRep0 K x y H Q)) ∨ rRep x y H Q
theorem op_mulA {X : Cx} : OpR X (binaryOp .Mult) (rMulA X.K) := opr_or (opr_or (opr_or op_mul op_repT) (opr_or op_rep1 op_rep0)) op_rep
theorem d_mul {K : PySem.W.Frag} : R2D K (rMulA K) mulD := by
  intro H O x y dx dy dz tr hx hy hd Q q
  cases hx with
  | int i =>
    cases hy with
    | int j =>
      obtain ⟨hc, rfl⟩ := iteS hd
      exact .inl (.inl (.inl ⟨i, j, rfl, rfl, hc, q _ _ (Ex.refl H) (.int _)⟩))
    | _ => cases hd
  | @tup a xs ds h1 h2 =>
    cases hy with
    | int k =>
      obtain ⟨hc, rfl⟩ := iteS hd
      obtain ⟨c1, c2, c3, c4⟩ := hc
      by_cases e : k = 1
      · subst e
        refine .inl (.inr (.inl ⟨a, xs, rfl, rfl, sqT_up h1, ?_⟩))
        have : (List.replicate (1 : Int).toNat ds).flatten = ds := by simp
        rw [this] at q
        exact q _ _ (Ex.refl H) (.tup h1 h2)
      · have hne : xs ≠ [] := fun z => by
          subst z
          cases ds with
          | nil => simp at c1
          | cons _ _ => cases h2
        by_cases e0 : k = 0
        · subst e0
          exact .inl (.inr (.inr ⟨a, xs, rfl, rfl, sqT_up h1, hne, fun p hp => q _ _ (Ex.new hp) (nu_tup tr .nil hp)⟩))
        · exact .inl (.inl (.inr ⟨a, k, xs, rfl, rfl, sqT_up h1, hne, by omega, c3, by rw [DqA.len h2]; exact c4, fun p hp => q _ _ (Ex.new hp) (nu_tup tr (DqA.rep k.toNat h2) hp)⟩))
    | _ => cases hd
  | @lst a xs ds h1 h2 =>
    cases hy with
    | int k =>
      obtain ⟨hc, rfl⟩ := iteS hd
      obtain ⟨c1, c2, c3⟩ := hc
      exact .inr ⟨a, k, xs, rfl, rfl, (mn_some h1).1, c1, c2, by rw [DqA.len h2]; exact c3, fun p hp => q _ _ (Ex.new hp) (nu_lst tr (DqA.rep k.toNat h2) hp)⟩
    | _ => cases hd
  | _ => cases hd

/-! ### comparisons -/
def eqD (d e : PyData) : Option PyData := if (SeqAt.shaped d && SeqAt.shaped e) = true then some (.bool (PyData.eqv d e)) else none
def neD (d e : PyData) : Option PyData := if (SeqAt.shaped d && SeqAt.shaped e) = true then some (.bool (!PyData.eqv d e)) else none
theorem dq_full {K : PySem.W.Frag} {H : Hp} {O : Ow} {v : V} {d : PyData} (h : Dq K (mn H O) v d) (s : SeqAt.shaped d = true) : Dp K H v d := dq_dp (dp_up mn_le h) (SeqAt.canLay_of_shaped s)
theorem d_eq {K : PySem.W.Frag} : R2D K (rEqD K) eqD := by
  intro H O x y dx dy dz tr hx hy hd Q q
  unfold eqD at hd
  split at hd
  · rename_i hc
    cases hd
    obtain ⟨c1, c2⟩ := Bool.and_eq_true_iff.mp hc
    exact ⟨dx, dy, dq_full hx c1, dq_full hy c2, c1, c2, q _ _ (Ex.refl H) (.bl _)⟩
  · cases hd
theorem d_ne {K : PySem.W.Frag} : R2D K (rNeD K) neD := by
  intro H O x y dx dy dz tr hx hy hd Q q
  unfold neD at hd
  split at hd
  · rename_i hc
    cases hd
    obtain ⟨c1, c2⟩ := Bool.and_eq_true_iff.mp hc
    exact ⟨dx, dy, dq_full hx c1, dq_full hy c2, c1, c2, q _ _ (Ex.refl H) (.bl _)⟩
  · cases hd
def cmpD (g : Int → Int → Bool) : PyData → PyData → Option PyData
  | .int i, .int j => some (.bool (g i j))
  | _, _ => none
theorem d_cmp {K : PySem.W.Frag} {g : Int → Int → Bool} : R2D K (rI0 fun i j => .bl (g i j)) (cmpD g) := by
  intro H O x y dx dy dz tr hx hy hd Q q
  cases hx with
  | int i =>
    cases hy with
    | int j => cases hd; exact ⟨i, j, rfl, rfl, q _ _ (Ex.refl H) (.bl _)⟩
    | _ => cases hd
  | _ => cases hd
abbrev ltD := cmpD fun i j => decide (i < j)
abbrev leD := cmpD fun i j => decide (i ≤ j)
abbrev gtD := cmpD fun i j => decide (j < i)
abbrev geD := cmpD fun i j => decide (j ≤ i)
def signIn (c z : Str) : Option Bool := match c.cps.toList with
  | [k] => some (decide (k ∈ z.cps.toList))
  | _ => none
theorem signIn_some {c z : Str} {b : Bool} (h : signIn c z = some b) : ∃ k, c = ⟨#[k]⟩ ∧ b = decide (k ∈ z.cps.toList) := by
  unfold signIn at h
  split at h
  · rename_i k e
    cases h
    refine ⟨k, ?_, rfl⟩
    obtain ⟨cps⟩ := c
    have : cps = #[k] := Array.ext' e
    rw [this]
  · cases h
/-- x in a list of data; a sign in a text -/
def inD : PyData → PyData → Option PyData
  | d, .list ds => if (SeqAt.shaped d && SeqAt.shaped (.list ds)) = true then some (.bool (ds.any fun z => PyData.eqv z d)) else none
  | .str c, .str z => (signIn c z).bind fun b => some (.bool b)
  | _, _ => none
def niD : PyData → PyData → Option PyData
  | d, .list ds => if (SeqAt.shaped d && SeqAt.shaped (.list ds)) = true then some (.bool (!ds.any fun z => PyData.eqv z d)) else none
  | .str c, .str z => (signIn c z).bind fun b => some (.bool (!b))
  | _, _ => none
def rInA (K : PySem.W.Frag) : R2 := fun x y H Q => rInD K x y H Q ∨ ∃ (c : Nat) (z : Str), x = .str ⟨#[c]⟩ ∧ y = .str z ∧ Q (.bl (decide (c ∈ z.cps.toList))) H
def rNiA (K : PySem.W.Frag) : R2 := fun x y H Q => rNotInD K x y H Q ∨ ∃ (c : Nat) (z : Str), x = .str ⟨#[c]⟩ ∧ y = .str z ∧ Q (.bl (!decide (c ∈ z.cps.toList))) H
theorem op_inA {X : Cx} (hu : X.A.units + 65 < cLine) : OpR X (compareOp .In) (rInA X.K) := opr_or (op_inD hu) op_in_sign
theorem op_niA {X : Cx} (hu : X.A.units + 65 < cLine) : OpR X (compareOp .NotIn) (rNiA X.K) := opr_or (op_notInD hu) op_notIn_sign
theorem d_in {K : PySem.W.Frag} : R2D K (rInA K) inD := by
  intro H O x y dx dy dz tr hx hy hd Q q
  cases hy with
  | @lst a xs ds h1 h2 =>
    have hd' : (if (SeqAt.shaped dx && SeqAt.shaped (.list ds)) = true then some (PyData.bool (ds.any fun z => PyData.eqv z dx)) else none) = some dz := by
      cases dx <;> exact hd
    split at hd'
    · rename_i hc
      cases hd'
      obtain ⟨c1, c2⟩ := Bool.and_eq_true_iff.mp hc
      exact .inl ⟨dx, ds, dq_full hx c1, dq_full (.lst h1 h2) c2, c1, c2, q _ _ (Ex.refl H) (.bl _)⟩
    · cases hd'
  | str z =>
    cases hx with
    | str c =>
      have hd' : (signIn c z).bind (fun b => some (PyData.bool (b))) = some dz := hd
      cases hs : signIn c z with
      | none => rw [hs] at hd'; cases hd'
      | some b =>
        rw [hs] at hd'
        cases hd'
        obtain ⟨k, e, e2⟩ := signIn_some hs
        exact .inr ⟨k, z, by rw [e], rfl, by rw [← e2]; exact q _ _ (Ex.refl H) (.bl _)⟩
    | _ => cases hd
  | _ => cases hx <;> cases hd
theorem d_ni {K : PySem.W.Frag} : R2D K (rNiA K) niD := by
  intro H O x y dx dy dz tr hx hy hd Q q
  cases hy with
  | @lst a xs ds h1 h2 =>
    have hd' : (if (SeqAt.shaped dx && SeqAt.shaped (.list ds)) = true then some (PyData.bool (!ds.any fun z => PyData.eqv z dx)) else none) = some dz := by
      cases dx <;> exact hd
    split at hd'
    · rename_i hc
      cases hd'
      obtain ⟨c1, c2⟩ := Bool.and_eq_true_iff.mp hc
      exact .inl ⟨dx, ds, dq_full hx c1, dq_full (.lst h1 h2) c2, c1, c2, q _ _ (Ex.refl H) (.bl _)⟩
    · cases hd'
  | str z =>
    cases hx with
    | str c =>
      have hd' : (signIn c z).bind (fun b => some (PyData.bool (!b))) = some dz := hd
      cases hs : signIn c z with
      | none => rw [hs] at hd'; cases hd'
      | some b =>
        rw [hs] at hd'
        cases hd'
        obtain ⟨k, e, e2⟩ := signIn_some hs
        exact .inr ⟨k, z, by rw [e], rfl, by rw [← e2]; exact q _ _ (Ex.refl H) (.bl _)⟩
    | _ => cases hd
  | _ => cases hx <;> cases hd
/-- is None, is True -/
def isNoneD : PyData → Bool
  | .none => true
  | _ => false
def isD : PyData → PyData → Option PyData
  | d, .none => some (.bool (isNoneD d))
  | .bool a, .bool b => some (.bool (decide (a = b)))
  | _, _ => none
def isntD : PyData → PyData → Option PyData
  | d, .none => some (.bool (!isNoneD d))
  | .bool a, .bool b => some (.bool (!decide (a = b)))
  | _, _ => none
def rIsA : R2 := fun x y H Q => (y = .non ∧ Q (.bl (decide (x = .non))) H) ∨ ∃ a b, x = .bl a ∧ y = .bl b ∧ Q (.bl (decide (a = b))) H
def rIsntA : R2 := fun x y H Q => (y = .non ∧ Q (.bl (!decide (x = .non))) H) ∨ ∃ a b, x = .bl a ∧ y = .bl b ∧ Q (.bl (!decide (a = b))) H
theorem op_isA {X : Cx} : OpR X (compareOp .Is) rIsA := opr_or op_isN op_is_bl
theorem op_isntA {X : Cx} : OpR X (compareOp .IsNot) rIsntA := opr_or op_notN op_isnot_bl
theorem none_of {K : PySem.W.Frag} {H : Hp} {x : V} {d : PyData} (h : Dq K H x d) : decide (x = .non) = isNoneD d := by
  cases h <;> simp [isNoneD]
theorem d_is {K : PySem.W.Frag} : R2D K rIsA isD := by
  intro H O x y dx dy dz tr hx hy hd Q q
  cases hy with
  | non =>
    have hd' : some (PyData.bool (isNoneD dx)) = some dz := by cases dx <;> exact hd
    cases hd'
    exact .inl ⟨rfl, by rw [none_of hx]; exact q _ _ (Ex.refl H) (.bl _)⟩
  | bl b =>
    cases hx with
    | bl a => cases hd; exact .inr ⟨a, b, rfl, rfl, q _ _ (Ex.refl H) (.bl _)⟩
    | _ => cases hd
  | _ => cases hx <;> cases hd
theorem d_isnt {K : PySem.W.Frag} : R2D K rIsntA isntD := by
  intro H O x y dx dy dz tr hx hy hd Q q
  cases hy with
  | non =>
    have hd' : some (PyData.bool (!isNoneD dx)) = some dz := by cases dx <;> exact hd
    cases hd'
    exact .inl ⟨rfl, by rw [none_of hx]; exact q _ _ (Ex.refl H) (.bl _)⟩
  | bl b =>
    cases hx with
    | bl a => cases hd; exact .inr ⟨a, b, rfl, rfl, q _ _ (Ex.refl H) (.bl _)⟩
    | _ => cases hd
  | _ => cases hx <;> cases hd
end Dz

/-! Dz4: enumerate over a tuple; what is walked, as data. -/
namespace Dz
open PySem PySem.Spec PyProof.Rows L2 Evl

section
variable {X : Cx} {pins : List (Addr × Obj)} {σ : L2.St} {H : Hp} {s : Shared} {a e : Addr} {xs : List V}
theorem fp_ne (I : Inv X pins σ H s) (f : FpOk X pins H e) (h : SqT X.K H a xs) : e ≠ a := by
  intro z
  subst z
  rcases h with h | ⟨o, its, n, hk, _⟩
  · rcases h with h | ⟨o, h⟩
    · rw [f.1] at h; cases h
    · rw [f.1] at h; cases h
  · have hb := I.ok.mod.kin e o hk
    rcases f.2.2.2.1 with z | z
    · exact I.ok.noex e o hb z
    · exact absurd (Nat.lt_of_lt_of_le (Heap.lt_size hb) (Nat.le_trans I.ok.bsz z)) (Nat.lt_irrefl _)
end
/-- enumerate(v), v whatever begins -/
theorem en_meets {v : Value} {o : Obj} {G : Heap → Prop} (B : Begins v o G) :
    Meets (Builtin.«enumerate.__new__» ⟨[.type "enumerate", v], []⟩) (fun _ R s => G s.heap ∧
      R (.ok (.ret (.ref (s.heap.push o).objs.size))) { s with heap := (s.heap.push o).push { cls := .type "enumerate", data := .fields #[.none, .bool false, .ref s.heap.objs.size, rawInt 0, .none, .none] } }) :=
  .of_wp fun prog w A R s h => by
    obtain ⟨hp, g, d, tk, os⟩ := s
    obtain ⟨h1, h⟩ := h
    have hsub := sub_enumerate
    have q1 : ∀ {A2 : Around} {E Q : Value → Shared → Prop}, Q (.ref hp.objs.size) ⟨hp.push o, g, d, tk, os⟩ → wpAny (model prog w) A2 (pyIter v) Q E ⟨hp, g, d, tk, os⟩ :=
      fun q => B.iter prog w _ _ ⟨hp, g, d, tk, os⟩ _ h1 q
    wp_walk using q1
    refine wpAny_stack_any fun st => wpAny_pure ?_
    split
    · rename_i c _ _ _ _ _
      cases (c == Value.type "enumerate") <;> (wp_walk using q1; exact ⟨_, rfl, h⟩)
    · wp_walk using q1
      exact ⟨_, rfl, h⟩
theorem en_call {prog : Program} {w : World} {A : Around} {E : Value → Shared → Prop} {s : Shared} {v : Value} {o : Obj} {G : Heap → Prop} {Q : Value → Shared → Prop} (B : Begins v o G) (h1 : G s.heap)
    (h : ∀ h', IsEnum h' (s.heap.objs.size + 1) s.heap.objs.size 0 .none → h'.get? s.heap.objs.size = some o → (∀ b o, s.heap.get? b = some o → h'.get? b = some o) → Q (.ref (s.heap.objs.size + 1)) { s with heap := h' }) :
    wpAny (model prog w) A (call (.type "enumerate") [v]) Q E s := by
  refine callType_new F.called_enumerate (by decide) (F.typeCall_enumerate_1 _) (F.newCall_enumerate_1 _) (fun obj => F.args_object_init_2 obj _) F.entry_enumerate_new (en_meets B) ⟨h1, ?_⟩
  have hz : (s.heap.push o).objs.size = s.heap.objs.size + 1 := Heap.size_push ..
  show _ ∧ _
  rw [hz]
  have he : IsEnum ((s.heap.push o).push { cls := .type "enumerate", data := .fields #[.none, .bool false, .ref s.heap.objs.size, rawInt 0, .none, .none] }) (s.heap.objs.size + 1) s.heap.objs.size 0 .none := by
    have z := Heap.get?_push_size (s.heap.push o) (o := { cls := .type "enumerate", data := .fields #[.none, .bool false, .ref s.heap.objs.size, rawInt 0, .none, .none] }) rfl
    rw [hz] at z
    exact z
  exact ⟨⟨_, he, rfl⟩, h _ he (Heap.get?_push_of_some _ (Heap.get?_push_size _ B.free)) fun b o x => Heap.get?_push_of_some _ (Heap.get?_push_of_some _ x)⟩
/-- the tuple at a, each item in a new pair -/
def IteT (K : PySem.W.Frag) (a : Addr) : It where
  go := fun i H => ∃ (xs : List V) (x : V), SqT K H a xs ∧ xs[i]? = some x
  yld := fun i H v H' => ∃ T x, v = .ref T ∧ H T = none ∧ H' = upd H T (.tup [.int (i : Nat), x]) ∧ ∀ xs, SqT K H a xs → xs[i]? = some x
  stop := fun i H => ∃ xs : List V, SqT K H a xs ∧ xs.length = i
theorem turn_enumT {P : Program} {w : World} {K : PySem.W.Frag} {elts : List Expr} {kk : Nat} {tpos : Pos} (a e it : Addr) :
    Turn P w K (.Tuple elts kk tpos) (IteT K a) [e, it] e (fun i h => (∃ old, IsEnum h e it ((i : Nat) : Int) old) ∧ h.IsTupleIter it a i ∧ e ≠ it) where
  mem := by simp
  obj := fun i h st b hb => by
    obtain ⟨⟨old, he⟩, ⟨o, ho, hc, hd⟩, _⟩ := st
    have ee : b = e ∨ b = it := by simpa using hb
    rcases ee with z | z
    · subst z; exact ⟨_, he, fun v q => nomatch q⟩
    · subst z; exact ⟨o, ho, fun v q => by rw [hd] at q; cases q⟩
  keep := fun i h h' st k => ⟨let ⟨old, he⟩ := st.1; ⟨old, k e (by simp) _ he⟩, st.2.1.at fun o q => k it (by simp) o q, st.2.2⟩
  item := by
    intro X hP hw hK hc i pins s σ H E I hf st hg
    subst hP hw hK
    obtain ⟨⟨old, he⟩, hit, hne⟩ := st
    obtain ⟨xs, x, hq, hx⟩ := hg
    obtain ⟨its, rv, p, hz⟩ := I.tuple hq
    obtain ⟨u, hu, ru⟩ := rv.get hx
    have hel : e < s.heap.objs.size := Heap.lt_size he
    have hil : it < s.heap.objs.size := let ⟨_, q, _⟩ := hit; Heap.lt_size q
    have n1 : e ≠ a := fp_ne I (hf e (by simp)) hq
    have n2 : a ≠ it := Ne.symm (fp_ne I (hf it (by simp)) hq)
    have hh : X.A.in1.handled = none := I.ok.hd hc
    have hlt : i < its.toArray.size := by
      have := (List.getElem?_eq_some_iff.mp hu).1
      simpa using this
    refine wpAny_pyNext_enum_itemD (Draws.tuple hh it a n2 its.toArray) he ⟨hit, p⟩ hlt hne (by simp [hne, n1]) fun x' h' tk hP ho hst hT hsz hk => ?_
    have ex : x' = u := by
      have hP' : its.toArray[i]? = some x' := hP
      rw [List.getElem?_toArray, hu] at hP'
      exact (Option.some.inj hP').symm
    subst ex
    obtain ⟨hit', _⟩ := hst
    refine ⟨_, rfl, wpAny_letOwnedTupleGo_enum (s := { s with heap := h', toks := tk + 1 }) ho fun h'' he' sb => ?_⟩
    have hT2 : h''.get? s.heap.objs.size = some { cls := .type "tuple", data := .seq #[.int i tk, x'] } := (sb.2 _ (Nat.ne_of_gt hel)).trans hT
    have new : ObjOk X.prog X.w (upd H s.heap.objs.size (.tup [.int (i : Nat), x])) h'' s.heap.objs.size (.tup [.int (i : Nat), x]) :=
      ⟨by show 2 ≤ sizeLine; decide, [.int i tk, x'], .cons ⟨_, rfl⟩ (.cons ru .nil), ⟨_, hT2, rfl, _, rfl⟩⟩
    have I1 : Inv X pins σ (upd H s.heap.objs.size (.tup [.int (i : Nat), x])) { s with heap := h'', toks := tk + 1 } :=
      I.turnedNew (ch := [e, it]) (fun b ob hb q => (sb.2 b (fun z => hb (by simp [z]))).trans (hk b ob (fun z => hb (by simp [z])) (fun z => hb (by simp [z])) q)) hf (Nat.le_refl _) new
    refine ⟨.ref s.heap.objs.size, _, I1, rfl, ⟨_, x, rfl, I.hok.fresh (Nat.le_refl _), rfl, fun ys hy => by rw [I.tuple_inj hy hq]; exact hx⟩, ⟨⟨x', ?_⟩, hit'.at fun o q => (sb.2 it (Ne.symm hne)).trans q, hne⟩, fun b hb => ?_⟩
    · rw [show ((i + 1 : Nat) : Int) = (i : Int) + 1 by omega]
      exact he'
    · have hb' : b < s.heap.objs.size := by
        have ee : b = e ∨ b = it := by simpa using hb
        rcases ee with z | z <;> (rw [z]; assumption)
      rw [upd_ne (Nat.ne_of_lt hb')]
      exact (hf b hb).1
  done := by
    intro X hP hw hK hc i pins s σ H E I hf st hg
    subst hP hw hK
    obtain ⟨⟨old, he⟩, hit, hne⟩ := st
    obtain ⟨xs, hq, hx⟩ := hg
    obtain ⟨its, rv, p, hz⟩ := I.tuple hq
    obtain ⟨f0, f1, f2, f3, f4, f5⟩ := hf it (by simp)
    have hl := rv.length
    have n2 : a ≠ it := Ne.symm (fp_ne I (hf it (by simp)) hq)
    have hh : X.A.in1.handled = none := I.ok.hd hc
    have hi : i = its.toArray.size := by rw [List.size_toArray, ← hl, hx]
    rw [hi] at hit
    exact wpAny_pyNext_enum_endD (Draws.tuple hh it a n2 its.toArray) he ⟨hit, p⟩ fun h' eb => ⟨rfl, I.turned (t' := s.toks) (fun b o hb q => eb b o hb q) f0 f1 f3 f4 f5⟩
  self := fun A i s Q E st h => let ⟨⟨_, he⟩, _⟩ := st; wpAny_pyIter_enum he h
end Dz

/-! Dz5: what is walked, targets, comprehensions. -/
namespace Dz
open PySem PySem.Spec PyProof.Rows L2 Evl RZ

/-- J walks the data ds: while F stands; what it gives at turn i is the i-th of ds. F1: the frozen part at the start -/
def Wk (K : PySem.W.Frag) (F F1 : Hp) (ds : List PyData) (J : It) : Prop :=
  Walk J ds.length (fun H2 => Ed F H2) fun i H2 x H3 => ∃ d, ds[i]? = some d ∧ Ex H2 H3 ∧ ∀ O2 : Ow, Ed F1 (mn H2 O2) → (∀ a, O2 a = true → Mu (H2 a)) → Dq K (mn H3 O2) x d
theorem Wk.weak {K : PySem.W.Frag} {F F' F1 : Hp} {ds : List PyData} {J : It} (w : Wk K F F1 ds J) (h : Ed F F') : Wk K F' F1 ds J := Walk.mono w (fun H2 e => h.trans e) fun _ _ _ _ _ _ y => y
/-- what a for walks -/
def tDI (K : PySem.W.Frag) (f : En → Option (List PyData)) : TI := fun σ H R => ∃ (H0 : Hp) (O0 O : Ow) (env : En) (ds : List PyData), Rp K H0 O0 O H σ env ∧ f env = some ds ∧ ∀ J H', Ex H H' → Wk K (mn H' O) (mn H' O) ds J → R J H'
def DI (X : Cx) (tg iter : Expr) (f : En → Option (List PyData)) : Prop := PI X tg iter (tDI X.K f)
/-- what a comprehension walks: nothing is written meanwhile -/
def tDIc (K : PySem.W.Frag) (f : En → Option (List PyData)) : TI := fun σ H R => ∃ (H0 : Hp) (O0 O : Ow) (env : En) (ds : List PyData), Rp K H0 O0 O H σ env ∧ f env = some ds ∧ ∀ J H', Ex H H' → Wk K H' (mn H' O) ds J → R J H'
def DIc (X : Cx) (tg iter : Expr) (f : En → Option (List PyData)) : Prop := PI X tg iter (tDIc X.K f)
section
variable {X : Cx} {tg iter e e2 : Expr} {f g : En → Option PyData} {fl gl : En → Option (List PyData)}
theorem DI.of (h : ∃ w, PI X tg iter w ∧ ∀ H0 O0 O H σ env, Rp X.K H0 O0 O H σ env → ∀ ds, fl env = some ds → ∀ R : It → Hp → Prop, (∀ J H', Ex H H' → Wk X.K (mn H' O) (mn H' O) ds J → R J H') → w σ H R) : DI X tg iter fl := by
  obtain ⟨w, h, p⟩ := h
  exact ⟨fun pins s σ H R I ⟨H0, O0, O, env, ds, R', hd, q⟩ => h.run pins s σ H R I (p H0 O0 O H σ env R' ds hd R q)⟩
theorem DIc.of (h : ∃ w, PI X tg iter w ∧ ∀ H0 O0 O H σ env, Rp X.K H0 O0 O H σ env → ∀ ds, fl env = some ds → ∀ R : It → Hp → Prop, (∀ J H', Ex H H' → Wk X.K H' (mn H' O) ds J → R J H') → w σ H R) : DIc X tg iter fl := by
  obtain ⟨w, h, p⟩ := h
  exact ⟨fun pins s σ H R I ⟨H0, O0, O, env, ds, R', hd, q⟩ => h.run pins s σ H R I (p H0 O0 O H σ env R' ds hd R q)⟩
theorem DI.c (h : DI X tg iter fl) : DIc X tg iter fl := .of ⟨_, h, fun H0 O0 O H σ env R ds hd Q q => ⟨H0, O0, O, env, ds, R, hd, fun J H' e w => q J H' e (w.weak mn_le)⟩⟩
/-- a list or a tuple -/
def iSeq (K : PySem.W.Frag) (tl : TE) : TI := fun σ H R => tl σ H fun x H1 => ∃ a, x = .ref a ∧ (((∃ xs, SqL K H1 a xs) ∧ R (Itl K a) H1) ∨ ((∃ xs, SqT K H1 a xs) ∧ R (Itt K a) H1) ∨ ∃ od kvs, H1 a = some (.frz od (.dT kvs)) ∧ R (Itkt a od kvs) H1)
theorem pi_seq {tl : TE} (hl : PE X e tl) : PI X tg e (iSeq X.K tl) := by
  refine ⟨fun pins s σ H R I h => ?_⟩
  refine thn (hl.run pins s σ H _ I h) fun v s1 ⟨x, H1, I1, r1, q1⟩ => ?_
  obtain ⟨a, rfl, q⟩ := q1
  cases r1
  have fp : ∀ b ∈ [s1.heap.objs.size], FpOk X pins H1 b := fun b hb => by
    have ee : b = s1.heap.objs.size := by simpa using hb
    subst ee
    exact I1.fpOk (Nat.le_refl _) (I1.hok.fresh (Nat.le_refl _))
  rcases q with ⟨⟨xs, hq⟩, q⟩ | ⟨⟨xs, hq⟩, q⟩ | ⟨od, kvs, hd, q⟩
  · obtain ⟨its, rv, p, hz⟩ := I1.list hq
    refine wpAny_pyIter_list p.isList ?_
    exact ⟨s1.heap.objs.size, [s1.heap.objs.size], _, _, H1, rfl, I1.kept (t' := s1.toks) fun b o e => Heap.get?_push_of_some _ e, turn_list a _, ⟨_, Heap.get?_push_size _ rfl, rfl, rfl⟩, fp, q⟩
  · obtain ⟨its, rv, p, hz⟩ := I1.tuple hq
    refine wpAny_pyIter_tuple (show s1.heap.IsTuple a its.toArray from p) ?_
    exact ⟨s1.heap.objs.size, [s1.heap.objs.size], _, _, H1, rfl, I1.kept (t' := s1.toks) fun b o e => Heap.get?_push_of_some _ e, turn_tuple a _, ⟨_, Heap.get?_push_size _ rfl, rfl, rfl⟩, fp, q⟩
  · obtain ⟨hs, hgd, hx, es, ep, hdt, hsz, ent⟩ := I1.frzT hd
    refine iter_keys hs hgd hx hdt (pi_one (tk := s1.toks) I1 _ (turn_keysT _ hdt) ⟨_, Heap.get?_push_size _ rfl, rfl, ?_⟩ q)
    rw [hsz] <;> rfl
theorem wk_list {K : PySem.W.Frag} {F F1 : Hp} {a : Addr} {xs : List V} {ds : List PyData} (h : SqL K F a xs) (hd : DqA K F1 xs ds) : Wk K F F1 ds (Itl K a) := by
  unfold Wk
  rw [← DqA.len hd]
  refine Walk.mono (walk_list (xs := xs)) (fun H2 e => ex_l e h) fun i H2 x H3 hi e y => ?_
  obtain ⟨rfl, hx⟩ := y
  obtain ⟨d, h1, h2⟩ := DqA.getv hd hx
  exact ⟨d, h1, Ex.refl _, fun O2 e2 _ => dp_up e2 h2⟩
theorem wk_tup {K : PySem.W.Frag} {F F1 : Hp} {a : Addr} {xs : List V} {ds : List PyData} (h : SqT K F a xs) (hd : DqA K F1 xs ds) : Wk K F F1 ds (Itt K a) := by
  unfold Wk
  rw [← DqA.len hd]
  refine Walk.mono (walk_tup (xs := xs)) (fun H2 e => ex_t e h) fun i H2 x H3 hi e y => ?_
  obtain ⟨rfl, hx⟩ := y
  obtain ⟨d, h1, h2⟩ := DqA.getv hd hx
  exact ⟨d, h1, Ex.refl _, fun O2 e2 _ => dp_up e2 h2⟩
theorem dqa_ints {K : PySem.W.Frag} {H : Hp} : ∀ ns : List Int, DqA K H (ns.map V.int) (ns.map PyData.int)
  | [] => .nil
  | n :: ns => .cons (.int n) (dqa_ints ns)
theorem wk_dct {K : PySem.W.Frag} {F F1 : Hp} {a : Addr} {od : Obj} {ks : List (List Int)} (h : F a = some (.frz od (dctH ks))) : Wk K F F1 ((ks.map fun k => (PyData.tuple (k.map PyData.int), PyData.bool true)).map fun x : PyData × PyData => x.1) (Itkt a od (ks.map fun k => (k.map Sum.inl, V.bl true))) := by
  unfold Wk
  have hl : ((ks.map fun k => (PyData.tuple (k.map PyData.int), PyData.bool true)).map fun x : PyData × PyData => x.1).length = (ks.map fun k => (k.map (Sum.inl (β := Str)), V.bl true)).length := by simp
  rw [hl]
  refine Walk.mono walk_keysT (fun H2 e => e _ _ h) fun i H2 x H3 hi e y => ?_
  obtain ⟨rfl, k, v, q, g1, rfl, g3⟩ := y
  rw [List.getElem?_map] at g1
  cases hk : ks[i]? with
  | none => rw [hk] at g1; cases g1
  | some k0 =>
    rw [hk] at g1
    have g1' : (k0.map (Sum.inl (β := Str)), V.bl true) = (k, v) := Option.some.inj g1
    cases g1'
    have e3 : (k0.map (Sum.inl (β := Str))).map kV = k0.map V.int := by rw [List.map_map]; rfl
    rw [e3] at g3
    refine ⟨.tuple (k0.map PyData.int), by rw [List.getElem?_map, List.getElem?_map, hk]; rfl, Ex.refl _, fun O2 _ tr2 => .tup (.inl (.inl (mn_of g3 ?_))) (dqa_ints k0)⟩
    cases z : O2 q with
    | false => rfl
    | true => have := tr2 q z; rw [g3] at this; exact this.elim
def sQ (a : En → Option PyData) (env : En) : Option (List PyData) := (a env).bind asQ
theorem di_seq (h : ED X e f) : DI X tg e (sQ f) := by
  obtain ⟨t, ht, r⟩ := h.ex
  refine .of ⟨_, pi_seq ht, fun H0 O0 O H σ env R ds hd Q q => ?_⟩
  unfold sQ at hd
  cases hf : f env with
  | none => rw [hf] at hd; cases hd
  | some d =>
    rw [hf] at hd
    refine r H0 O0 O H σ env R d hf _ fun v H' e hq => ?_
    cases hq with
    | @lst a xs es h1 h2 =>
      cases hd
      exact ⟨a, rfl, .inl ⟨⟨xs, ex_l mn_le (.inl (.inl h1))⟩, q _ H' e (wk_list (.inl (.inl h1)) h2)⟩⟩
    | @tup a xs es h1 h2 =>
      cases hd
      exact ⟨a, rfl, .inr (.inl ⟨⟨xs, sqT_up h1⟩, q _ H' e (wk_tup h1 h2)⟩)⟩
    | @scr a ns h1 =>
      cases hd
      refine ⟨a, rfl, .inl ⟨⟨_, ex_l mn_le h1⟩, q _ H' e ?_⟩⟩
      have hm : List.map (fun x : PyData × PyData => x.1) (ns.map fun n => (PyData.int n, PyData.none)) = ns.map PyData.int := by rw [List.map_map]; rfl
      show Wk X.K (mn H' O) (mn H' O) (List.map (fun x : PyData × PyData => x.1) (ns.map fun n => (PyData.int n, PyData.none))) (Itl X.K a)
      rw [hm]
      exact wk_list h1 (dqa_ints ns)
    | @dct a od ks h1 =>
      cases hd
      exact ⟨a, rfl, .inr (.inr ⟨od, _, (mn_some h1).1, q _ H' e (wk_dct h1)⟩)⟩
    | _ => cases hd
/-- a list that may still be written to behind the comprehension -/
theorem dc_list (h : EL X e fl) : DIc X tg e fl := by
  obtain ⟨t, ht, r⟩ := h.ex
  refine .of ⟨_, pi_list ht, fun H0 O0 O H σ env R ds hd Q q => ?_⟩
  refine r H0 O0 O H σ env R ds hd _ fun a vs H' e h1 h2 => ⟨a, rfl, ⟨vs, .inl (.inl h1)⟩, q _ H' e (wk_list (.inl (.inl h1)) h2)⟩
/-- range(n), range(a, b) -/
def rgL (lo : Int) (n : Nat) : List PyData := (List.range n).map fun i => .int (lo + (i : Nat))
def rg1 : List PyData → Option (List PyData)
  | [.int n] => if -(2 ^ 62) ≤ n ∧ n < 2 ^ 62 then some (rgL 0 n.toNat) else none
  | _ => none
def rg2 : List PyData → Option (List PyData)
  | [.int a, .int b] => if -(2 ^ 62) ≤ a ∧ a < 2 ^ 62 ∧ -(2 ^ 62) ≤ b ∧ b < 2 ^ 62 then some (rgL a (b - a).toNat) else none
  | _ => none
def sArg (r : List PyData → Option (List PyData)) (fl : En → Option (List PyData)) (env : En) : Option (List PyData) := (fl env).bind r
theorem wk_range {K : PySem.W.Frag} {F F1 : Hp} {lo : Int} {n : Nat} : Wk K F F1 (rgL lo n) (Itr lo n) := by
  unfold Wk
  have hl : (rgL lo n).length = n := by simp [rgL]
  rw [hl]
  refine Walk.mono walk_range (fun _ _ => trivial) fun i H2 x H3 hi e y => ?_
  obtain ⟨rfl, rfl⟩ := y
  exact ⟨.int (lo + i), by simp [rgL, hi], Ex.refl _, fun O2 _ _ => .int _⟩
theorem di_rg1 {p pos : Pos} (hg : Gl X "range") (hm : X.mg "range" = none) (ha : DA X [e] fl) (hs : starEach [e] X.env = [(false, eval e X.env)] := by rfl) : DI X tg (.Call (.Name "range" p) [e] [] pos) (sArg rg1 fl) := by
  obtain ⟨t, ht, r⟩ := ha.ex
  refine .of ⟨_, pi_range1 hg hm ht hs, fun H0 O0 O H σ env R ds hd Q q => ?_⟩
  unfold sArg at hd
  cases hf : fl env with
  | none => rw [hf] at hd; cases hd
  | some xs =>
    rw [hf] at hd
    refine r H0 O0 O H σ env R xs hf _ fun vs H' e hq => ?_
    match xs, hq, hd with
    | [.int n], .cons (.int _) .nil, hd =>
      obtain ⟨hc, rfl⟩ := iteS hd
      exact ⟨n, rfl, hc.1, hc.2, q _ H' e wk_range⟩
theorem di_rg2 {p pos : Pos} (hg : Gl X "range") (hm : X.mg "range" = none) (ha : DA X [e, e2] fl) (hs : starEach [e, e2] X.env = [(false, eval e X.env), (false, eval e2 X.env)] := by rfl) (hs2 : starEach [e2] X.env = [(false, eval e2 X.env)] := by rfl) :
    DI X tg (.Call (.Name "range" p) [e, e2] [] pos) (sArg rg2 fl) := by
  obtain ⟨t, ht, r⟩ := ha.ex
  refine .of ⟨_, pi_range2 hg hm ht hs hs2, fun H0 O0 O H σ env R ds hd Q q => ?_⟩
  unfold sArg at hd
  cases hf : fl env with
  | none => rw [hf] at hd; cases hd
  | some xs =>
    rw [hf] at hd
    refine r H0 O0 O H σ env R xs hf _ fun vs H' e hq => ?_
    match xs, hq, hd with
    | [.int a, .int b], .cons (.int _) (.cons (.int _) .nil), hd =>
      obtain ⟨hc, rfl⟩ := iteS hd
      exact ⟨a, b, rfl, hc, q _ H' e wk_range⟩
/-- pairs -/
def zipL (xs ys : List PyData) : List PyData := List.zipWith (fun x y => .tuple [x, y]) xs ys
def enL (xs : List PyData) : List PyData := xs.zipIdx.map fun p => .tuple [.int (p.2 : Nat), p.1]
def zp : List PyData → Option (List PyData)
  | [.list xs, .list ys] => some (zipL xs ys)
  | [.tuple xs, .tuple ys] => some (zipL xs ys)
  | _ => none
def enu : List PyData → Option (List PyData)
  | [.list xs] => some (enL xs)
  | [.tuple xs] => some (enL xs)
  | _ => none
theorem pair_d {K : PySem.W.Frag} {H : Hp} {O : Ow} {x y : V} {dx dy : PyData} {T : Addr} (tr : ∀ a, O a = true → Mu (H a)) (hT : H T = none) (hx : Dq K (mn H O) x dx) (hy : Dq K (mn H O) y dy) : Dq K (mn (upd H T (.tup [x, y])) O) (.ref T) (.tuple [dx, dy]) :=
  nu_tup tr (.cons hx (.cons hy .nil)) hT
theorem wk_zipG {K : PySem.W.Frag} {F F1 : Hp} {xs ys : List V} {ds es : List PyData} {J : It} (w : Walk J (min xs.length ys.length) (fun H2 => Ed F H2) (YPair (fun i => xs[i]?) (fun i => ys[i]?))) (h1 : DqA K F1 xs ds) (h2 : DqA K F1 ys es) : Wk K F F1 (zipL ds es) J := by
  unfold Wk
  have hl : (zipL ds es).length = min xs.length ys.length := by simp [zipL, DqA.len h1, DqA.len h2]
  rw [hl]
  refine Walk.mono w (fun _ e => e) fun i H2 x H3 hi e y => ?_
  obtain ⟨T, a, b, rfl, hT, rfl, ha, hb⟩ := y
  obtain ⟨da, g1, g2⟩ := DqA.getv h1 ha
  obtain ⟨db, k1, k2⟩ := DqA.getv h2 hb
  refine ⟨.tuple [da, db], ?_, Ex.new hT, fun O2 e2 tr => pair_d tr hT (dp_up e2 g2) (dp_up e2 k2)⟩
  unfold zipL
  rw [List.getElem?_zipWith, g1, k1]
theorem walk_zipT {K : PySem.W.Frag} {a b : Addr} {xs ys : List V} : Walk (ItzT K a b) (min xs.length ys.length) (fun H => SqT K H a xs ∧ SqT K H b ys) (YPair (fun i => xs[i]?) (fun i => ys[i]?)) := by
  refine ⟨fun i H hi q => ?_, fun H q => ⟨xs, ys, q.1, q.2, by omega⟩, fun i H v H' _ q y => ?_⟩
  · have h1 : i < xs.length := by omega
    have h2 : i < ys.length := by omega
    exact ⟨xs, ys, xs[i], ys[i], q.1, q.2, by simp [h1], by simp [h2]⟩
  · obtain ⟨T, x, z, h1, h2, h3, h4, h5⟩ := y
    exact ⟨T, x, z, h1, h2, h3, h4 xs q.1, h5 ys q.2⟩
theorem di_zip {p pos tpos : Pos} {elts : List Expr} {kk : Nat} (hg : Gl X "zip") (hm : X.mg "zip" = none) (ha : DA X [e, e2] fl)
    (hs : starEach [e, e2] X.env = (false, eval e X.env) :: starEach [e2] X.env := by rfl) (hpl : (backTo pos (starEach [e2] X.env)).any (·.1) = false := by rfl) : DI X (.Tuple elts kk tpos) (.Call (.Name "zip" p) [e, e2] [] pos) (sArg zp fl) := by
  obtain ⟨t, ht, r⟩ := ha.ex
  refine .of ⟨_, pi_zipA hg hm ht hs hpl, fun H0 O0 O H σ env R ds hd Q q => ?_⟩
  unfold sArg at hd
  cases hf : fl env with
  | none => rw [hf] at hd; cases hd
  | some xs =>
    rw [hf] at hd
    refine r H0 O0 O H σ env R xs hf _ fun vs H' e hq => ?_
    match xs, hq, hd with
    | [.list ds, .list es], .cons (@Dq.lst _ _ a us _ h1 h2) (.cons (@Dq.lst _ _ b ws _ h3 h4) .nil), hd =>
      cases hd
      refine ⟨a, b, us, ws, rfl, .inl ⟨.inl (.inl (mn_some h1).1), .inl (.inl (mn_some h3).1), q _ H' e (wk_zipG (Walk.mono (walk_zip rfl) (fun H2 ee => ⟨ex_l ee (.inl (.inl h1)), ex_l ee (.inl (.inl h3))⟩) fun _ _ _ _ _ _ y => y) h2 h4)⟩⟩
    | [.tuple ds, .tuple es], .cons (@Dq.tup _ _ a us _ h1 h2) (.cons (@Dq.tup _ _ b ws _ h3 h4) .nil), hd =>
      cases hd
      refine ⟨a, b, us, ws, rfl, .inr ⟨sqT_up h1, sqT_up h3, q _ H' e (wk_zipG (Walk.mono walk_zipT (fun H2 ee => ⟨ex_t ee h1, ex_t ee h3⟩) fun _ _ _ _ _ _ y => y) h2 h4)⟩⟩
/-- enumerate of a list or a tuple -/
def iEnA (K : PySem.W.Frag) (ta : TA) : TI := fun σ H R => ta σ H fun vs H1 => ∃ a xs, vs = [.ref a] ∧ ((SqL K H1 a xs ∧ R (Ite K a) H1) ∨ (SqT K H1 a xs ∧ R (IteT K a) H1))
theorem pi_enA {ta : TA} {p pos tpos : Pos} {elts : List Expr} {kk : Nat} (hg : Gl X "enumerate") (hm : X.mg "enumerate" = none) (ha : PA X [e] ta) (hs : starEach [e] X.env = [(false, eval e X.env)] := by rfl) :
    PI X (.Tuple elts kk tpos) (.Call (.Name "enumerate" p) [e] [] pos) (iEnA X.K ta) := by
  refine ⟨fun pins s σ H R I h => ?_⟩
  refine Call_ (ld_blt I hg hm boot_enumerate (PyProof.Rows.callWith_type1 (thn (ha.run pos pins s σ H _ I h) fun us s1 ⟨vs, H1, I1, r1, q1⟩ => ?_) hs rfl))
  obtain ⟨a, xs, rfl, q⟩ := q1
  cases r1 with
  | cons r rr =>
    cases rr
    cases r
    have fp : ∀ b ∈ [s1.heap.objs.size + 1, s1.heap.objs.size], FpOk X pins H1 b := fun b hb => by
      have ee : b = s1.heap.objs.size + 1 ∨ b = s1.heap.objs.size := by simpa using hb
      have hle : s1.heap.objs.size ≤ b := by
        rcases ee with z | z
        · rw [z]; exact Nat.le_add_right _ _
        · rw [z]; exact Nat.le_refl _
      exact I1.fpOk hle (I1.hok.fresh hle)
    rcases q with ⟨hq, q⟩ | ⟨hq, q⟩
    · obtain ⟨its, rv, pp, hz⟩ := I1.list hq
      refine call_enumerate_list pp.isList fun h' he hit hsz hk => wpAny_pyIter_enum he ?_
      have I2 : Inv X pins σ H1 { s1 with heap := h' } := I1.kept (t' := s1.toks) hk
      exact ⟨s1.heap.objs.size + 1, [s1.heap.objs.size + 1, s1.heap.objs.size], _, _, H1, rfl, I2, turn_enum a (s1.heap.objs.size + 1) s1.heap.objs.size, ⟨⟨.none, he⟩, hit, Nat.succ_ne_self _⟩, fp, q⟩
    · obtain ⟨its, rv, pp, hz⟩ := I1.tuple hq
      refine en_call (begins_tuple a its.toArray) (show s1.heap.IsTuple a its.toArray from pp) fun h' he hob hk => wpAny_pyIter_enum he ?_
      have hit : h'.IsTupleIter s1.heap.objs.size a 0 := ⟨_, hob, rfl, rfl⟩
      have I2 : Inv X pins σ H1 { s1 with heap := h' } := I1.kept (t' := s1.toks) hk
      exact ⟨s1.heap.objs.size + 1, [s1.heap.objs.size + 1, s1.heap.objs.size], _, _, H1, rfl, I2, turn_enumT a (s1.heap.objs.size + 1) s1.heap.objs.size, ⟨⟨.none, he⟩, hit, Nat.succ_ne_self _⟩, fp, q⟩
end
end Dz

/-! Dz6: targets, comprehensions. -/
namespace Dz
open PySem PySem.Spec PyProof.Rows L2 Evl

/-! ### targets -/
theorem wipe_set {σ : L2.St} {i : Nat} {x : Option V} : ∀ vs : List Nat, wipe (σ.set i x) vs = if i ∈ vs then wipe σ vs else (wipe σ vs).set i x
  | [] => by simp [wipe]
  | v :: vs => by
    show (wipe (σ.set i x) vs).set v none = _
    rw [wipe_set vs]
    by_cases h : i ∈ vs
    · rw [if_pos h, if_pos (List.mem_cons_of_mem _ h)]
      rfl
    · rw [if_neg h]
      by_cases e : i = v
      · subst e
        rw [if_pos (List.mem_cons_self), List.set_set]
        rfl
      · rw [if_neg (by simp [e, h]), List.set_comm _ _ e]
        rfl
theorem wipe_in {σ : L2.St} {i : Nat} {x : Option V} {vs : List Nat} (h : i ∈ vs) : wipe (σ.set i x) vs = wipe σ vs := by
  rw [wipe_set, if_pos h]
theorem wipe_sub {σ : L2.St} : ∀ {us vs : List Nat}, (∀ i ∈ us, i ∈ vs) → wipe (wipe σ us) vs = wipe σ vs
  | [], _, _ => rfl
  | u :: us, vs, h => by
    show wipe ((wipe σ us).set u none) vs = _
    rw [wipe_in (h u List.mem_cons_self), wipe_sub fun i hi => h i (List.mem_cons_of_mem _ hi)]
def wipeE (env : En) : List Nat → En
  | [] => env
  | v :: vs => (wipeE env vs).set v .un
theorem Rp.wipe {K : PySem.W.Frag} {H0 H : Hp} {O0 O : Ow} {σ : L2.St} {env : En} (R : Rp K H0 O0 O H σ env) : ∀ vs : List Nat, Rp K H0 O0 O H (L2.wipe σ vs) (wipeE env vs)
  | [] => R
  | v :: vs => (R.wipe vs).kill v none

def tDG (K : PySem.W.Frag) (is : List Nat) (gt : PyData → En → Option En) : TG := fun v σ H Q => ∃ (H0 : Hp) (O0 O : Ow) (env : En) (d : PyData) (env' : En), Rp K H0 O0 O H σ env ∧ Dq K (mn H O) v d ∧ gt d env = some env' ∧
  ∀ σ', Rp K H0 O0 O H σ' env' → (∀ vs, (∀ i ∈ is, i ∈ vs) → L2.wipe σ' vs = L2.wipe σ vs) → Q σ' H
def DG (X : Cx) (tg : Expr) (is : List Nat) (gt : PyData → En → Option En) : Prop := PG X tg (tDG X.K is gt)
def tDGs (K : PySem.W.Frag) (is : List Nat) (gt : List PyData → En → Option En) : TGs := fun v σ H Q => ∃ (H0 : Hp) (O0 O : Ow) (env : En) (d : List PyData) (env' : En), Rp K H0 O0 O H σ env ∧ DqA K (mn H O) v d ∧ gt d env = some env' ∧
  ∀ σ', Rp K H0 O0 O H σ' env' → (∀ vs, (∀ i ∈ is, i ∈ vs) → L2.wipe σ' vs = L2.wipe σ vs) → Q σ' H
def DGs (X : Cx) (tg : List Expr) (is : List Nat) (gt : List PyData → En → Option En) : Prop := PGs X tg (tDGs X.K is gt)
def gN (i : Nat) (d : PyData) (env : En) : Option En := some (env.set i (.dat d))
def gNil : List PyData → En → Option En
  | [], env => some env
  | _, _ => none
def gCons (g : PyData → En → Option En) (r : List PyData → En → Option En) : List PyData → En → Option En
  | d :: ds, env => (g d env).bind (r ds)
  | [], _ => none
def gT (r : List PyData → En → Option En) : PyData → En → Option En
  | .tuple ds, env => r ds env
  | _, _ => none
section
variable {X : Cx} {e : Expr} {es : List Expr} {pos : Pos}
theorem dg_name {i : Nat} {x : Str} (h : PG X (.Name x pos) (gName i)) : DG X (.Name x pos) [i] (gN i) :=
  ⟨fun pins s σ H v u Q I r ⟨H0, O0, O, env, d, env', R, hv, hg, q⟩ => h.run pins s σ H v u Q I r (by
    cases hg
    exact q _ (R.set i hv) fun vs hvs => wipe_in (hvs i (by simp)))⟩
theorem dgs_nil : DGs X [] [] gNil :=
  ⟨fun pins s σ H v u Q I r ⟨H0, O0, O, env, d, env', R, hv, hg, q⟩ => pgs_nil.run pins s σ H v u Q I r (by
    cases d with
    | nil => cases hv; cases hg; exact ⟨rfl, q σ R fun _ _ => rfl⟩
    | cons _ _ => cases hg)⟩
theorem dgs_cons {is js : List Nat} {g : PyData → En → Option En} {r : List PyData → En → Option En} (h1 : DG X e is g) (h2 : DGs X es js r)
    (hs : (assignEach (e :: es) X.env).map (·.2) = assign e X.env :: (assignEach es X.env).map (·.2) := by rfl) : DGs X (e :: es) (is ++ js) (gCons g r) :=
  ⟨fun pins s σ H v u Q I rr ⟨H0, O0, O, env, d, env', R, hv, hg, q⟩ => (pgs_cons h1 h2 hs).run pins s σ H v u Q I rr (by
    cases d with
    | nil => cases hg
    | cons d ds =>
      cases hv with
      | @cons v vs _ _ hv1 hv2 =>
        have hg' : (g d env).bind (r ds) = some env' := hg
        cases he : g d env with
        | none => rw [he] at hg'; cases hg'
        | some env1 =>
          rw [he] at hg'
          refine ⟨v, vs, rfl, H0, O0, O, env, d, env1, R, hv1, he, fun σ1 R1 w1 => ⟨H0, O0, O, env1, ds, env', R1, hv2, hg', fun σ2 R2 w2 => q σ2 R2 fun vs h => ?_⟩⟩
          rw [w2 vs fun i hi => h i (List.mem_append_right _ hi), w1 vs fun i hi => h i (List.mem_append_left _ hi)])⟩
theorem gts_len {n : Nat} : True := trivial
theorem dg_tup {k : Nat} {is : List Nat} {r : List PyData → En → Option En} {n : Nat} (hc : X.calm = true) (h : DGs X es is r) (hl : ∀ ds env env', r ds env = some env' → ds.length = n)
    (hn : (assignEach es X.env).length = n := by rfl) (hst : (assignEach es X.env).findIdx? (·.1) = none := by rfl) : DG X (.Tuple es k pos) is (gT r) :=
  ⟨fun pins s σ H v u Q I rr ⟨H0, O0, O, env, d, env', R, hv, hg, q⟩ => (pg_tup hc h hn hst).run pins s σ H v u Q I rr (by
    cases hv with
    | @tup a xs ds h1 h2 =>
      have hg' : r ds env = some env' := hg
      exact ⟨a, xs, rfl, sqT_up h1, by rw [DqA.len h2]; exact hl ds env env' hg', H0, O0, O, env, ds, env', R, h2, hg', q⟩
    | _ => cases hg)⟩
theorem gl_nil : ∀ ds env env', gNil ds env = some env' → ds.length = 0 := by
  intro ds env env' h
  cases ds with
  | nil => rfl
  | cons _ _ => cases h
theorem gl_cons {g : PyData → En → Option En} {r : List PyData → En → Option En} {n : Nat} (h : ∀ ds env env', r ds env = some env' → ds.length = n) : ∀ ds env env', gCons g r ds env = some env' → ds.length = n + 1 := by
  intro ds env env' e
  cases ds with
  | nil => cases e
  | cons d ds =>
    have e' : (g d env).bind (r ds) = some env' := e
    cases hg : g d env with
    | none => rw [hg] at e'; cases e'
    | some env1 => rw [hg] at e'; simp [h ds env1 env' e']
end

/-! ### comprehensions -/
def lcPut : Option PyData → List PyData → List PyData
  | some x, rs => x :: rs
  | none, rs => rs
def lcGo (body : PyData → Option (Option PyData)) : List PyData → Option (List PyData)
  | [] => some []
  | d :: ds => (body d).bind fun r => (lcGo body ds).bind fun rs => some (lcPut r rs)
def lcB (gt : PyData → En → Option En) (ft : En → Option Bool) (fe : En → Option PyData) (env1 : En) (d : PyData) : Option (Option PyData) := (gt d env1).bind fun env2 => (ft env2).bind fun b => if b = true then (fe env2).bind fun x => some (some x) else some none
def sLc (fi : En → Option (List PyData)) (gt : PyData → En → Option En) (ft : En → Option Bool) (fe : En → Option PyData) (vs : List Nat) (env : En) : Option (List PyData) :=
  (fi env).bind fun ds => if ds.length ≤ sizeLine then lcGo (lcB gt ft fe (wipeE env vs)) ds else none
def sYes (_ : En) : Option Bool := some true
def DTs (X : Cx) (ifs : List Expr) (f : En → Option Bool) : Prop := PTs X ifs (tDT X.K f)
theorem dts_nil {X : Cx} : DTs X [] sYes := ⟨fun pins s σ H Q I ⟨H0, O0, O, env, b, R, hb, q⟩ => pts_nil.run pins s σ H Q I (by cases hb; exact q H (Ex.refl H))⟩
theorem dts_one {X : Cx} {c : Expr} {f : En → Option Bool} (h : DT X c f) : DTs X [c] f := pts_one h
theorem mn_ad {H : Hp} {D : Addr} {O : Ow} {o : HO} : mn (upd H D o) (ad D O) = mn H (ad D O) := by
  funext b
  unfold mn ad
  by_cases h : b = D
  · simp [h]
  · simp [h, upd_ne h]
theorem mn_to {H H' : Hp} {O O' : Ow} (e : Ed H H') (k : ∀ b o, mn H O b = some o → O' b = false) : Ed (mn H O) (mn H' O') :=
  ⟨fun b o h n => mn_of (e.keep b o (mn_some h).1 n) (k b o h), fun b ps h => let ⟨ps', q⟩ := e.tbl b ps (mn_some h).1; ⟨ps', mn_of q (k b _ h)⟩⟩
theorem mn_ad2 {H1 H2 : Hp} {D : Addr} {O : Ow} (e : Ed H1 H2) (hD : H1 D = none) : Ed (mn H1 O) (mn H2 (ad D O)) := by
  have k : ∀ b o, mn H1 O b = some o → ad D O b = false := fun b o h => by
    obtain ⟨q1, q2⟩ := mn_some h
    have hb : b ≠ D := ne_of_none q1 hD
    simp [ad, hb, q2]
  exact ⟨fun b o h n => mn_of (e.keep b o (mn_some h).1 n) (k b o h), fun b ps h => let ⟨ps', q⟩ := e.tbl b ps (mn_some h).1; ⟨ps', mn_of q (k b _ h)⟩⟩
theorem lc_read {K : PySem.W.Frag} {fi : En → Option (List PyData)} {is : List Nat} {gt : PyData → En → Option En} {ft : En → Option Bool} {fe : En → Option PyData} {vs : List Nat} (his : ∀ i ∈ is, i ∈ vs)
    {H0 H : Hp} {O0 O : Ow} {σ : L2.St} {env : En} (R : Rp K H0 O0 O H σ env) {rs : List PyData} (hf : sLc fi gt ft fe vs env = some rs) {Q : VK}
    (q : ∀ a ws H', Ex H H' → H a = none → H' a = some (.lst ws) → DqA K (mn H' (ad a O)) ws rs → Q (.ref a) H') : tLc (tDIc K fi) (tDG K is gt) (tDT K ft) (tED K fe) vs σ H Q := by
  unfold sLc at hf
  cases hi : fi env with
  | none => rw [hi] at hf; cases hf
  | some ds =>
    rw [hi, Option.bind_some] at hf
    by_cases hz : ds.length ≤ sizeLine
    · rw [if_pos hz] at hf
      refine ⟨H0, O0, O, env, ds, R, hi, fun J H1 e1 w D hD => ?_⟩
      have R1 := R.up e1
      have hDH : H D = none := fresh_back e1 hD
      let Pv : Nat → Hp → Prop := fun i H' => Ex H1 H' ∧ ∃ acc done rest, H' D = some (.lst acc) ∧ DqA K (mn H' (ad D O)) acc done ∧ lcGo (lcB gt ft fe (wipeE env vs)) (ds.drop i) = some rest ∧ rs = done ++ rest ∧ acc.length ≤ i
      refine lc_it (D := D) w Pv ⟨Ex.new hD, [], [], rs, upd_same, .nil, by simpa using hf, rfl, Nat.zero_le _⟩ (fun i H' _ p => p.1) (fun i x H2 H3 hlt p y => ?_) (fun H' p => ?_)
      · obtain ⟨e2, acc, done, rest, hacc, hdone, hrest, hrs, hlen⟩ := p
        obtain ⟨d, hd, e3, hx⟩ := y
        have hdrop : ds.drop i = d :: ds.drop (i + 1) := by
          obtain ⟨h1, h2⟩ := List.getElem?_eq_some_iff.mp hd
          rw [← h2]
          exact List.drop_eq_getElem_cons h1
        rw [hdrop] at hrest
        have e13 := e2.trans e3
        have hacc3 : H3 D = some (.lst acc) := e3 _ _ hacc
        have G : Rp K H0 O0 (ad D O) H3 σ env := R1.grow e13 hD hacc3
        have trH2 : ∀ a, (ad D O) a = true → Mu (H2 a) := (R1.grow e2 hD hacc).tr
        have F2 : Ed (mn H1 O) (mn H2 (ad D O)) := mn_ad2 e2.toEd hD
        have hxd := hx (ad D O) F2 trH2
        have hrest' : ((lcB gt ft fe (wipeE env vs)) d).bind (fun r => (lcGo (lcB gt ft fe (wipeE env vs)) (ds.drop (i + 1))).bind fun rs => some (lcPut r rs)) = some rest := hrest
        cases hb : lcB gt ft fe (wipeE env vs) d with
        | none => rw [hb] at hrest'; cases hrest'
        | some r =>
          cases hgo : lcGo (lcB gt ft fe (wipeE env vs)) (ds.drop (i + 1)) with
          | none => rw [hb, hgo] at hrest'; cases hrest'
          | some rest1 =>
            rw [hb, hgo] at hrest'
            have hrest2 : lcPut r rest1 = rest := Option.some.inj hrest'
            unfold lcB at hb
            cases hgt : gt d (wipeE env vs) with
            | none => rw [hgt] at hb; cases hb
            | some env2 =>
              rw [hgt, Option.bind_some] at hb
              cases hft : ft env2 with
              | none => rw [hft] at hb; cases hb
              | some b =>
                rw [hft, Option.bind_some] at hb
                refine ⟨H0, O0, ad D O, wipeE env vs, d, env2, G.wipe vs, hxd, hgt, fun σ2 R2 w2 => ⟨?_, ?_⟩⟩
                · rw [w2 vs his, wipe_sub fun _ h => h]
                · refine ⟨H0, O0, ad D O, env2, b, R2, hft, fun H4 e4 => ?_⟩
                  cases b with
                  | true =>
                    rw [if_pos rfl] at hb ⊢
                    cases hfe : fe env2 with
                    | none => rw [hfe] at hb; cases hb
                    | some z =>
                      rw [hfe] at hb
                      have hr : r = some z := (Option.some.inj hb).symm
                      subst hr
                      refine ⟨H0, O0, ad D O, env2, z, R2.up e4, hfe, fun y H5 e5 hy => ⟨acc, e5 _ _ (e4 _ _ hacc3), Nat.lt_of_le_of_lt hlen (Nat.lt_of_lt_of_le hlt hz), ?_⟩⟩
                      have e15 : Ex H1 H5 := (e13.trans e4).trans e5
                      refine ⟨ex_upd e15 hD (by rw [e5 _ _ (e4 _ _ hacc3)]; trivial), acc ++ [y], done ++ [z], rest1, upd_same, ?_, hgo, ?_, by simp; omega⟩
                      · rw [mn_ad]
                        exact DqA.app (dpa_up (mn_ex ((e3.trans e4).trans e5)) hdone) (.cons hy .nil)
                      · rw [hrs, ← hrest2]; simp [lcPut]
                  | false =>
                    rw [if_neg Bool.false_ne_true] at hb ⊢
                    have hr : r = none := (Option.some.inj hb).symm
                    subst hr
                    exact ⟨e13.trans e4, acc, done, rest1, e4 _ _ hacc3, dpa_up (mn_ex (e3.trans e4)) hdone, hgo, by rw [hrs, ← hrest2]; rfl, by omega⟩
      · obtain ⟨e2, acc, done, rest, hacc, hdone, hrest, hrs, hlen⟩ := p
        have hrest' : rest = [] := by
          rw [List.drop_length] at hrest
          exact (Option.some.inj hrest).symm
        rw [hrest', List.append_nil] at hrs
        subst hrs
        exact q D acc H' (e1.trans e2) hDH hacc hdone
    · rw [if_neg hz] at hf; cases hf
section
variable {X : Cx} {elt tg iter : Expr} {ifs : List Expr} {scope : Scope} {own : List (Str × Nat)} {pos : Pos} {fi : En → Option (List PyData)} {is : List Nat} {gt : PyData → En → Option En} {ft : En → Option Bool} {fe : En → Option PyData}
theorem en_lc (hc : X.calm = true) (hN : X.N.Nodup) (hi : DIc X tg iter fi) (ok : BlkOk X.N X.env.scope scope own)
    (hg : ∀ (s : Shared) (H : Hp) (C : Addr) (cl : List (Str × Addr)) (fp : List Addr), DG (X.blk s H scope (compEnvC scope cl C X.env) fp) tg is gt) (ht : ∀ (s : Shared) (H : Hp) (C : Addr) (cl : List (Str × Addr)) (fp : List Addr), DTs (X.blk s H scope (compEnvC scope cl C X.env) fp) ifs ft)
    (he : ∀ (s : Shared) (H : Hp) (C : Addr) (cl : List (Str × Addr)) (fp : List Addr), ED (X.blk s H scope (compEnvC scope cl C X.env) fp) elt fe) (his : (is.all fun i => decide (i ∈ own.map (·.2))) = true) (hs : ∀ x, foldedSetIterable iter X.env x = pure x := by intro _; rfl) :
    EN X (.ListComp elt [⟨tg, iter, ifs, 0⟩] scope pos) (sLc fi gt ft fe (own.map (·.2))) :=
  .of ⟨_, pe_lc (wi := tDIc X.K fi) (g := tDG X.K is gt) (tt := tDT X.K ft) (te := tED X.K fe) hc hN hi ok hg ht he hs, fun H0 O0 O H σ env R ds hd Q q => lc_read (fun i hi => of_decide_eq_true (List.all_eq_true.mp his i hi)) R hd q⟩
end
end Dz

/-! Dz7: statements over data. -/
namespace Dz
open PySem PySem.Spec PyProof.Rows L2 Evl

inductive Ou where
  | nx (env : En)
  | rt (d : PyData)
def OutOk (K : PySem.W.Frag) (H0 : Hp) (O0 O : Ow) (H : Hp) (D : Ends) : Ou → Prop
  | .nx env => ∀ (O' : Ow) H' σ', Rp K H0 O0 O' H' σ' env → Ed (mn H O) (mn H' O') → D.nx σ' H'
  | .rt d => ∀ v H', Ex H0 H' → Dq K (mn H' O0) v d → D.rt v H'
def tDS (K : PySem.W.Frag) (g : En → Option Ou) : TS := fun D σ H => ∃ (H0 : Hp) (O0 O : Ow) (env : En) (r : Ou), Rp K H0 O0 O H σ env ∧ g env = some r ∧ OutOk K H0 O0 O H D r
def DS (X : Cx) (st : Stmt) (g : En → Option Ou) : Prop := PS X st (tDS X.K g)
def DSs (X : Cx) (sts : List Stmt) (g : En → Option Ou) : Prop := PSs X sts (tDS X.K g)
theorem DS.of {X : Cx} {st : Stmt} {g : En → Option Ou} (h : ∃ t, PS X st t ∧ ∀ H0 O0 O H σ env, Rp X.K H0 O0 O H σ env → ∀ r, g env = some r → ∀ D, OutOk X.K H0 O0 O H D r → t D σ H) : DS X st g := by
  obtain ⟨t, h, p⟩ := h
  exact ⟨fun pins s σ H D I ⟨H0, O0, O, env, r, R, hd, q⟩ => h.run pins s σ H D I (p H0 O0 O H σ env R r hd D q)⟩
theorem DSs.of {X : Cx} {st : List Stmt} {g : En → Option Ou} (h : ∃ t, PSs X st t ∧ ∀ H0 O0 O H σ env, Rp X.K H0 O0 O H σ env → ∀ r, g env = some r → ∀ D, OutOk X.K H0 O0 O H D r → t D σ H) : DSs X st g := by
  obtain ⟨t, h, p⟩ := h
  exact ⟨fun pins s σ H D I ⟨H0, O0, O, env, r, R, hd, q⟩ => h.run pins s σ H D I (p H0 O0 O H σ env R r hd D q)⟩
def gNext (env : En) : Option Ou := some (.nx env)
def oK (k : En → Option Ou) : Ou → Option Ou
  | .nx env => k env
  | .rt d => some (.rt d)
def gSeq (g k : En → Option Ou) (env : En) : Option Ou := (g env).bind (oK k)
def gSet (i : Nat) (f : En → Option PyData) (env : En) : Option Ou := (f env).bind fun d => some (.nx (env.set i (.dat d)))
def gSetN (i : Nat) (f : En → Option (List PyData)) (env : En) : Option Ou := (f env).bind fun ds => some (.nx (env.set i (.own ds)))
def gAsg (f : En → Option PyData) (gt : PyData → En → Option En) (env : En) : Option Ou := (f env).bind fun d => (gt d env).bind fun env' => some (.nx env')
def gRet (f : En → Option PyData) (env : En) : Option Ou := (f env).bind fun d => some (.rt d)
def gIf (c : En → Option Bool) (g k : En → Option Ou) (env : En) : Option Ou := (c env).bind fun b => if b = true then g env else k env
def gApp (i : Nat) (f : En → Option PyData) (env : En) : Option Ou := match env[i]? with
  | some (.own ds) => (f env).bind fun d => if ds.length < sizeLine then some (.nx (env.set i (.own (ds ++ [d])))) else none
  | _ => none
def gExt (i : Nat) (f : En → Option (List PyData)) (env : En) : Option Ou := match env[i]? with
  | some (.own ds) => (f env).bind fun es => if ds.length + es.length ≤ sizeLine then some (.nx (env.set i (.own (ds ++ es)))) else none
  | _ => none
def gPut (i : Nat) (fi fe : En → Option PyData) (env : En) : Option Ou := match env[i]? with
  | some (.own ds) => (fe env).bind fun d => (fi env).bind fun x => (asI x).bind fun k => (ixN ds.length k).bind fun j => some (.nx (env.set i (.own (ds.set j d))))
  | _ => none
def fz (i : Nat) (env : En) : En := match env[i]? with
  | some (.own ds) => env.set i (.dat (.list ds))
  | some (.nst dss) => env.set i (.dat (.list (dss.map .list)))
  | some (.dct ks) => env.set i (.dat (dctD ks))
  | _ => env
def gFz (i : Nat) (k : En → Option Ou) (env : En) : Option Ou := k (fz i env)
def kl (ks : List Nat) (env : En) : En := wipeE env ks
def gKl (ks : List Nat) (k : En → Option Ou) (env : En) : Option Ou := k (kl ks env)
theorem Rp.kl {K : PySem.W.Frag} {H0 H : Hp} {O0 O : Ow} {σ : L2.St} {env : En} (R : Rp K H0 O0 O H σ env) : ∀ vs : List Nat, Rp K H0 O0 O H σ (kl vs env)
  | [] => R
  | v :: vs => (R.kl vs).forget v
theorem Rp.fz {K : PySem.W.Frag} {H0 H : Hp} {O0 O : Ow} {σ : L2.St} {env : En} (R : Rp K H0 O0 O H σ env) (i : Nat) (hn : ∀ ks, env[i]? ≠ some (.dct ks)) : ∃ O', Rp K H0 O0 O' H σ (fz i env) ∧ Ed (mn H O) (mn H O') := by
  unfold Dz.fz
  split
  · rename_i ds h
    exact R.freeze h
  · rename_i ds h
    exact R.freezeN h
  · rename_i ks h
    exact absurd h (hn ks)
  · exact ⟨O, R, Ed.refl _⟩
/-- a for's turns -/
def forGo (gt : PyData → En → Option En) (body : En → Option Ou) (ks : List Nat) : List PyData → En → Option Ou
  | [], env => some (.nx env)
  | d :: ds, env => (gt d env).bind fun env1 => (body env1).bind (oK fun env2 => forGo gt body ks ds (kl ks env2))
def gFor (fi : En → Option (List PyData)) (gt : PyData → En → Option En) (body : En → Option Ou) (ks : List Nat) (env : En) : Option Ou := (fi env).bind fun ds => forGo gt body ks ds (kl ks env)
/-- a while's turns, n at most -/
def whGo (c : En → Option Bool) (body : En → Option Ou) (ks : List Nat) : Nat → En → Option Ou
  | 0, _ => none
  | n + 1, env => (c env).bind fun b => if b = true then (body env).bind (oK fun env2 => whGo c body ks n (kl ks env2)) else some (.nx env)
def gWh (c : En → Option Bool) (body : En → Option Ou) (ks : List Nat) (most : Nat) (env : En) : Option Ou := whGo c body ks most (kl ks env)
section
variable {X : Cx} {st : Stmt} {rest sts sts2 : List Stmt} {g k : En → Option Ou} {e : Expr} {f : En → Option PyData} {fl : En → Option (List PyData)} {pos : Pos}
theorem OutOk.of_nx {K : PySem.W.Frag} {H0 H : Hp} {O0 O : Ow} {D : Ends} {env : En} (q : OutOk K H0 O0 O H D (.nx env)) {O' : Ow} {H' : Hp} {σ' : L2.St} (R : Rp K H0 O0 O' H' σ' env) (e : Ed (mn H O) (mn H' O')) : D.nx σ' H' := q O' H' σ' R e
theorem dss_nil : DSs X [] gNext := .of ⟨_, pss_nil, fun H0 O0 O H σ env R r hd D q => by cases hd; exact q O H σ R (Ed.refl _)⟩
theorem out_seq {K : PySem.W.Frag} {H0 H : Hp} {O0 O : Ow} {D : Ends} {r r1 : Ou} (hr : oK k r1 = some r) (q : OutOk K H0 O0 O H D r) : OutOk K H0 O0 O H { D with nx := tDS K k D } r1 := by
  cases r1 with
  | nx env1 =>
    intro O' H' σ' R' e'
    refine ⟨H0, O0, O', env1, r, R', hr, ?_⟩
    cases r with
    | nx env2 => exact fun O2 H2 σ2 R2 e2 => q O2 H2 σ2 R2 (e'.trans e2)
    | rt d => exact q
  | rt d =>
    cases hr
    exact q
theorem dss_cons (h : DS X st g) (h2 : DSs X rest k) : DSs X (st :: rest) (gSeq g k) := by
  refine .of ⟨_, pss_cons h h2, fun H0 O0 O H σ env R r hd D q => ?_⟩
  unfold gSeq at hd
  cases hg : g env with
  | none => rw [hg] at hd; cases hd
  | some r1 =>
    rw [hg] at hd
    exact ⟨H0, O0, O, env, r1, R, hg, out_seq hd q⟩
theorem dss_one (h : DS X st g) : DSs X [st] g := pss_one h
theorem dss_fz (i : Nat) (h : DSs X sts g) : DSs X sts (gFz i g) := ⟨fun pins s σ H D I ⟨H0, O0, O, env, r, R, hd, q⟩ => by
  by_cases hn : ∃ ks, env[i]? = some (.dct ks)
  · obtain ⟨ks, hk⟩ := hn
    obtain ⟨a, q1, q2, q3, q4⟩ := R.dct hk
    obtain ⟨od, I'⟩ := I.lock q4 trivial
    obtain ⟨O', R', e'⟩ := R.freezeD od hk q1
    refine h.run pins s σ _ D I' ⟨H0, O0, O', _, r, R', ?_, ?_⟩
    · have e : fz i env = env.set i (.dat (dctD ks)) := by unfold fz; rw [hk]
      have hd' : g (fz i env) = some r := hd
      rw [e] at hd'
      exact hd'
    · cases r with
      | nx env2 => exact fun O2 H2 σ2 R2 e2 => q O2 H2 σ2 R2 (e'.trans e2)
      | rt d => exact q
  · obtain ⟨O', R', e'⟩ := R.fz i fun ks hk => hn ⟨ks, hk⟩
    refine h.run pins s σ H D I ⟨H0, O0, O', _, r, R', hd, ?_⟩
    cases r with
    | nx env2 => exact fun O2 H2 σ2 R2 e2 => q O2 H2 σ2 R2 (e'.trans e2)
    | rt d => exact q⟩
theorem dss_kl (ks : List Nat) (h : DSs X sts g) : DSs X sts (gKl ks g) := .of ⟨_, h, fun H0 O0 O H σ env R r hd D q => ⟨H0, O0, O, _, r, R.kl ks, hd, q⟩⟩
theorem ds_set {i : Nat} (h : ED X e f) (hp : ∀ {te : TE}, PE X e te → PS X st (tAsg te (gName i))) : DS X st (gSet i f) := by
  obtain ⟨t, ht, r⟩ := h.ex
  refine .of ⟨_, hp ht, fun H0 O0 O H σ env R o hd D q => ?_⟩
  unfold gSet at hd
  cases hf : f env with
  | none => rw [hf] at hd; cases hd
  | some d =>
    rw [hf] at hd; cases hd
    exact r H0 O0 O H σ env R d hf _ fun v H' e1 hv => q O H' _ ((R.up e1).set i hv) (mn_ex e1)
theorem nw_ex {H H' : Hp} {O : Ow} {a : Addr} (e : Ex H H') (hn : H a = none) : Ed (mn H O) (mn H' (ad a O)) := mn_ad2 e.toEd hn
theorem ds_setN {i : Nat} (h : EN X e fl) (hp : ∀ {te : TE}, PE X e te → PS X st (tAsg te (gName i))) : DS X st (gSetN i fl) := by
  obtain ⟨t, ht, r⟩ := h.ex
  refine .of ⟨_, hp ht, fun H0 O0 O H σ env R o hd D q => ?_⟩
  unfold gSetN at hd
  cases hf : fl env with
  | none => rw [hf] at hd; cases hd
  | some d =>
    rw [hf] at hd; cases hd
    exact r H0 O0 O H σ env R d hf _ fun a vs H' e1 hn ha hv => q _ H' _ (R.setN i e1 hn ha hv) (nw_ex e1 hn)
/-- y = [..], y a local -/
theorem ds_setLc {i : Nat} {own : List (Str × Nat)} {fi : En → Option (List PyData)} {is : List Nat} {gt : PyData → En → Option En} {ft : En → Option Bool} {fe : En → Option PyData}
    (h : PS X st (tAsg (tLc (tDIc X.K fi) (tDG X.K is gt) (tDT X.K ft) (tED X.K fe) (own.map (·.2))) (gName i))) (his : (is.all fun i => decide (i ∈ own.map (·.2))) = true) : DS X st (gSetN i (sLc fi gt ft fe (own.map (·.2)))) := by
  refine .of ⟨_, h, fun H0 O0 O H σ env R o hd D q => ?_⟩
  unfold gSetN at hd
  cases hf : sLc fi gt ft fe (own.map (·.2)) env with
  | none => rw [hf] at hd; cases hd
  | some d =>
    rw [hf] at hd; cases hd
    exact lc_read (fun i hi => of_decide_eq_true (List.all_eq_true.mp his i hi)) R hf fun a vs H' e1 hn ha hv => q _ H' _ (R.setN i e1 hn ha hv) (nw_ex e1 hn)
theorem ds_asg {is : List Nat} {gt : PyData → En → Option En} {tg : Expr} (h : ED X e f) (hg : DG X tg is gt) (hp : ∀ {te : TE} {g : TG}, PE X e te → PG X tg g → PS X st (tAsg te g)) : DS X st (gAsg f gt) := by
  obtain ⟨t, ht, r⟩ := h.ex
  refine .of ⟨_, hp ht hg, fun H0 O0 O H σ env R o hd D q => ?_⟩
  unfold gAsg at hd
  cases hf : f env with
  | none => rw [hf] at hd; cases hd
  | some d =>
    rw [hf, Option.bind_some] at hd
    cases hgt : gt d env with
    | none => rw [hgt] at hd; cases hd
    | some env1 =>
      rw [hgt] at hd; cases hd
      exact r H0 O0 O H σ env R d hf _ fun v H' e1 hv => ⟨H0, O0, O, env, d, env1, R.up e1, hv, hgt, fun σ' R' _ => q O H' σ' R' (mn_ex e1)⟩
theorem ds_ret (h : ED X e f) : DS X (.Return (some e) pos) (gRet f) := by
  obtain ⟨t, ht, r⟩ := h.ex
  refine .of ⟨_, ps_ret ht, fun H0 O0 O H σ env R o hd D q => ?_⟩
  unfold gRet at hd
  cases hf : f env with
  | none => rw [hf] at hd; cases hd
  | some d =>
    rw [hf] at hd; cases hd
    exact r H0 O0 O H σ env R d hf _ fun v H' e1 hv => q v H' (R.ex.trans e1) (dp_up (mn_sub R.le) hv)
theorem ds_if {c : Expr} {fc : En → Option Bool} (hc : DT X c fc) (h1 : DSs X sts g) (h2 : DSs X sts2 k) : DS X (.If c sts sts2 pos) (gIf fc g k) := by
  obtain ⟨t, ht, r⟩ := hc.ex
  refine .of ⟨_, ps_if ht h1 h2, fun H0 O0 O H σ env R o hd D q => ?_⟩
  unfold gIf at hd
  cases hf : fc env with
  | none => rw [hf] at hd; cases hd
  | some b =>
    rw [hf, Option.bind_some] at hd
    refine r H0 O0 O H σ env R b hf _ fun H' e1 => ?_
    have q' : OutOk X.K H0 O0 O H' D o := by
      cases o with
      | nx env2 => exact fun O2 H2 σ2 R2 e2 => q O2 H2 σ2 R2 ((mn_ex e1).trans e2)
      | rt d => exact q
    cases b with
    | true =>
      simp only [if_true] at hd ⊢
      exact ⟨H0, O0, O, env, o, R.up e1, hd, q'⟩
    | false =>
      simp only [Bool.false_eq_true, if_false] at hd ⊢
      exact ⟨H0, O0, O, env, o, R.up e1, hd, q'⟩
/-- code that is never come to (a raise that does not happen) -/
def gNever (_ : En) : Option Ou := none
theorem ds_never : DS X st gNever := .of ⟨_, ps_never, fun _ _ _ _ _ _ _ _ hd => by cases hd⟩
theorem wk_core {P : Prop} (p : P) : P := p
/-- x.append(e) -/
theorem ds_app {i : Nat} (h : ED X e f) (hp : ∀ {te : TE}, PE X e te → PS X st (tDrop (tBM X.K "list" rAppend (tVar i) (tCons te tNil)))) : DS X st (gApp i f) := by
  obtain ⟨t, ht, r⟩ := h.ex
  refine .of ⟨_, hp ht, fun H0 O0 O H σ env R o hd D q => ?_⟩
  unfold gApp at hd
  split at hd
  · rename_i ds hi
    cases hf : f env with
    | none => rw [hf] at hd; cases hd
    | some d =>
      rw [hf, Option.bind_some] at hd
      obtain ⟨hz, rfl⟩ := iteS hd
      obtain ⟨a, vs, h1, h2, h3, h4, h5⟩ := R.own hi
      refine ⟨.ref a, h1, .inl ⟨rfl, vs, .inl (.inl h4)⟩, ?_⟩
      refine r H0 O0 O H σ env R d hf _ fun v H' e1 hv => ?_
      have R1 := R.up e1
      refine ⟨a, vs, v, rfl, rfl, e1 _ _ h4, by rw [DqA.len h5]; exact hz, ?_⟩
      obtain ⟨R2, e2⟩ := R1.write hi h1 (DqA.app (dpa_up (mn_ex e1) h5) (.cons hv .nil))
      exact q O _ σ R2 ((mn_ex e1).trans e2)
  · cases hd
/-- x.extend(e) -/
theorem ds_ext {i : Nat} (h : EL X e fl) (hp : ∀ {te : TE}, PE X e te → PS X st (tDrop (tBM X.K "list" rExtend (tVar i) (tCons te tNil)))) : DS X st (gExt i fl) := by
  obtain ⟨t, ht, r⟩ := h.ex
  refine .of ⟨_, hp ht, fun H0 O0 O H σ env R o hd D q => ?_⟩
  unfold gExt at hd
  split at hd
  · rename_i ds hi
    cases hf : fl env with
    | none => rw [hf] at hd; cases hd
    | some es =>
      rw [hf, Option.bind_some] at hd
      obtain ⟨hz, rfl⟩ := iteS hd
      obtain ⟨a, vs, h1, h2, h3, h4, h5⟩ := R.own hi
      refine ⟨.ref a, h1, .inl ⟨rfl, vs, .inl (.inl h4)⟩, ?_⟩
      refine r H0 O0 O H σ env R es hf _ fun b ws H' e1 hb hv => ?_
      have R1 := R.up e1
      refine ⟨a, b, vs, ws, rfl, rfl, e1 _ _ h4, hb, by rw [DqA.len h5, DqA.len hv]; exact hz, ?_⟩
      obtain ⟨R2, e2⟩ := R1.write hi h1 (DqA.app (dpa_up (mn_ex e1) h5) hv)
      exact q O _ σ R2 ((mn_ex e1).trans e2)
  · cases hd
/-- x[i] = e -/
theorem ds_put {i : Nat} {ix : Expr} {fi : En → Option PyData} (he : ED X e f) (hi : ED X ix fi) (hp : ∀ {te ti : TE}, PE X e te → PE X ix ti → PS X st (tAsg te (gSub (tVar i) ti rSetL))) : DS X st (gPut i fi f) := by
  obtain ⟨t, ht, r⟩ := he.ex
  obtain ⟨u, hu, ru⟩ := hi.ex
  refine .of ⟨_, hp ht hu, fun H0 O0 O H σ env R o hd D q => ?_⟩
  unfold gPut at hd
  split at hd
  · rename_i ds hs
    cases hf : f env with
    | none => rw [hf] at hd; cases hd
    | some d =>
      rw [hf, Option.bind_some] at hd
      cases hx : fi env with
      | none => rw [hx] at hd; cases hd
      | some x =>
        rw [hx, Option.bind_some] at hd
        cases x with
        | int m =>
          simp only [asI, Option.bind_some] at hd
          cases hj : ixN ds.length m with
          | none => rw [hj] at hd; cases hd
          | some j =>
            rw [hj] at hd; cases hd
            obtain ⟨a, vs, h1, h2, h3, h4, h5⟩ := R.own hs
            refine r H0 O0 O H σ env R d hf _ fun v H1 e1 hv => ?_
            refine ⟨.ref a, h1, ?_⟩
            have R1 := R.up e1
            refine ru H0 O0 O H1 σ env R1 _ hx _ fun y H2 e2 hy => ?_
            cases hy
            have R2 := R1.up e2
            refine ⟨a, vs, m, j, rfl, rfl, e2 _ _ (e1 _ _ h4), by rw [DqA.len h5]; exact hj, ?_⟩
            obtain ⟨R3, e3⟩ := R2.write hs h1 (DqA.set j (dpa_up (mn_ex (e1.trans e2)) h5) (dp_up (mn_ex e2) hv))
            exact q O _ σ R3 ((mn_ex (e1.trans e2)).trans e3)
        | _ => cases hd
  · cases hd
/-- for -/
theorem ds_for {tg iter : Expr} {is : List Nat} {gt : PyData → En → Option En} (ks : List Nat) (hp : PassesOwn (model X.prog X.w) X.A X.env X.xe) (hc : X.calm = true) (hi : DI X tg iter fl) (hg : DG X tg is gt) (hb : DSs X sts g)
    (hs : ∀ x, foldedSetIterable iter X.env x = pure x := by intro _; rfl) : DS X (.For tg iter sts [] pos) (gFor fl gt g ks) := by
  refine .of ⟨_, ps_for hp hc hi hg hb hs, fun H0 O0 O H σ env R o hd D q => ?_⟩
  unfold gFor at hd
  cases hf : fl env with
  | none => rw [hf] at hd; cases hd
  | some ds =>
    rw [hf, Option.bind_some] at hd
    refine ⟨H0, O0, O, env, ds, R, hf, fun J H1 e1 w => ?_⟩
    have R1 := R.up e1
    let Pv : Nat → L2.St → Hp → Prop := fun i σ' H' => ∃ O' env', Rp X.K H0 O0 O' H' σ' env' ∧ Ed (mn H1 O) (mn H' O') ∧ forGo gt g ks (ds.drop i) env' = some o
    refine for_it w Pv ⟨O, kl ks env, R1.kl ks, Ed.refl _, by simpa using hd⟩ (fun i σ' H' _ ⟨O', env', R', e', _⟩ => e'.trans mn_le) (fun i x σ2 H2 H3 hlt p y => ?_) (fun σ' H' p => ?_)
    · obtain ⟨O', env', R', e', hgo⟩ := p
      obtain ⟨d, hd', e3, hx⟩ := y
      have hdrop : ds.drop i = d :: ds.drop (i + 1) := by
        obtain ⟨h1, h2⟩ := List.getElem?_eq_some_iff.mp hd'
        rw [← h2]
        exact List.drop_eq_getElem_cons h1
      rw [hdrop] at hgo
      have hgo' : (gt d env').bind (fun env1 => (g env1).bind (oK fun env2 => forGo gt g ks (ds.drop (i + 1)) (kl ks env2))) = some o := hgo
      cases hgt : gt d env' with
      | none => rw [hgt] at hgo'; cases hgo'
      | some env1 =>
        rw [hgt, Option.bind_some] at hgo'
        cases hgb : g env1 with
        | none => rw [hgb] at hgo'; cases hgo'
        | some r1 =>
          rw [hgb, Option.bind_some] at hgo'
          refine ⟨H0, O0, O', env', d, env1, R'.up e3, hx O' e' R'.tr, hgt, fun σ4 R4 _ => ?_⟩
          refine ⟨H0, O0, O', env1, r1, R4, hgb, ?_⟩
          cases r1 with
          | nx env2 => exact fun O5 H5 σ5 R5 e5 => ⟨O5, kl ks env2, R5.kl ks, (e'.trans (mn_ex e3)).trans e5, hgo'⟩
          | rt dd =>
            have : o = .rt dd := (Option.some.inj hgo').symm
            subst this
            exact q
    · obtain ⟨O', env', R', e', hgo⟩ := p
      rw [List.drop_length] at hgo
      have : o = .nx env' := (Option.some.inj hgo).symm
      subst this
      exact q O' H' σ' R' ((mn_ex e1).trans e')
/-- while -/
theorem ds_while {c : Expr} {fc : En → Option Bool} (ks : List Nat) (most : Nat) (hp : PassesOwn (model X.prog X.w) X.A X.env X.xe) (hc : DT X c fc) (hb : DSs X sts g) : DS X (.While c sts [] pos) (gWh fc g ks most) := by
  obtain ⟨t, ht, r⟩ := hc.ex
  refine .of ⟨_, ps_while hp ht hb, fun H0 O0 O H σ env R o hd D q => ?_⟩
  refine ⟨fun n σ' H' => ∃ O' env', Rp X.K H0 O0 O' H' σ' env' ∧ Ed (mn H O) (mn H' O') ∧ whGo fc g ks n env' = some o, ⟨most, O, kl ks env, R.kl ks, Ed.refl _, hd⟩, fun n σ' H' p => ?_⟩
  obtain ⟨O', env', R', e', hgo⟩ := p
  cases n with
  | zero => cases hgo
  | succ n =>
    have hgo' : (fc env').bind (fun b => if b = true then (g env').bind (oK fun env2 => whGo fc g ks n (kl ks env2)) else some (.nx env')) = some o := hgo
    cases hf : fc env' with
    | none => rw [hf] at hgo'; cases hgo'
    | some b =>
      rw [hf, Option.bind_some] at hgo'
      refine r H0 O0 O' H' σ' env' R' b hf _ fun H2 e2 => ?_
      cases b with
      | true =>
        rw [if_pos rfl] at hgo' ⊢
        cases hg : g env' with
        | none => rw [hg] at hgo'; cases hgo'
        | some r1 =>
          rw [hg, Option.bind_some] at hgo'
          refine ⟨fun σ5 H5 => ∃ O5 env5, Rp X.K H0 O0 O5 H5 σ5 env5 ∧ Ed (mn H O) (mn H5 O5) ∧ whGo fc g ks n env5 = some o, fun σ5 H5 z => ⟨n, Nat.lt_succ_self n, z⟩, H0, O0, O', env', r1, R'.up e2, hg, ?_⟩
          cases r1 with
          | nx env2 => exact fun O5 H5 σ5 R5 e5 => ⟨O5, kl ks env2, R5.kl ks, (e'.trans (mn_ex e2)).trans e5, hgo'⟩
          | rt dd =>
            have : o = .rt dd := (Option.some.inj hgo').symm
            subst this
            exact q
      | false =>
        rw [if_neg Bool.false_ne_true] at hgo' ⊢
        have : o = .nx env' := (Option.some.inj hgo').symm
        subst this
        exact q O' H2 σ' (R'.up e2) (e'.trans (mn_ex e2))
end
/-! ### a def by its body -/
def runF (g : En → Option Ou) (n : Nat) (ds : List PyData) : Option PyData := (g (ds.map Sl.dat ++ List.replicate n Sl.un)).bind fun r => match r with
  | .rt d => some d
  | .nx _ => some .none
end Dz

/-! Dz8: built-ins, places, slices, the call of a def. -/
namespace Dz
open PySem PySem.Spec PyProof.Rows L2 Evl

section
variable {X : Cx} {e a b : Expr} {es : List Expr} {f fa fb : En → Option PyData} {fl : En → Option (List PyData)} {pos p : Pos}
/-- a built-in over one list, perhaps one that is still written to -/
def RLD (K : PySem.W.Frag) (r : List V → Hp → VK → Prop) (h : List PyData → Option PyData) : Prop := ∀ (H : Hp) (O : Ow) (a : Addr) (vs : List V) (ds : List PyData) (dz : PyData), (∀ a, O a = true → Mu (H a)) → H a = some (.lst vs) → DqA K (mn H O) vs ds → h ds = some dz →
  ∀ Q : VK, (∀ v H', Ex H H' → Dq K (mn H' O) v dz → Q v H') → r [.ref a] H Q
theorem ed_cbL {c : Expr} {r : List V → Hp → VK → Prop} {h : List PyData → Option PyData} (hp : ∀ {t}, PA X [e] t → PE X c (tCB r t)) (hr : RLD X.K r h) (he : EL X e fl) (hs : starEach [e] X.env = (false, eval e X.env) :: starEach [] X.env := by rfl) : ED X c (sAs h fl) := by
  obtain ⟨t, h1, r1⟩ := he.ex
  refine .of ⟨_, hp (pa_cons h1 pa_nil hs), fun H0 O0 O H σ env R d hd Q q => ?_⟩
  unfold sAs at hd
  cases hx : fl env with
  | none => rw [hx] at hd; cases hd
  | some ds =>
    rw [hx, Option.bind_some] at hd
    refine r1 H0 O0 O H σ env R ds hx _ fun p vs H1 e1 q1 q2 => ?_
    exact hr H1 O p vs ds d (R.up e1).tr q1 q2 hd Q fun v H' e2 q3 => q v H' (e1.trans e2) q3
/-! len -/
def lenD : List PyData → Option PyData
  | [.list ds] => some (.int ds.length)
  | [.tuple ds] => some (.int ds.length)
  | [.str x] => if x.length ≤ sizeLine then some (.int x.length) else none
  | [.dict kvs] => some (.int kvs.length)
  | _ => none
def rLenF : List V → Hp → VK → Prop := fun xs H Q => ∃ (p : Addr) (od : Obj) (kvs : List (List Key × V)), xs = [.ref p] ∧ H p = some (.frz od (.dT kvs)) ∧ Q (.int ((kvs.length : Nat) : Int)) H
theorem call_lenF {X : Cx} : CallR X (.builtin "len") rLenF := by
  intro pins s σ H xs us Q I r h
  obtain ⟨p, od, kvs, rfl, hp, q⟩ := h
  obtain ⟨u, rfl, rx⟩ := vals1 r
  obtain rfl : u = .ref p := rx
  obtain ⟨z, hd, ys, rel, dd⟩ := dt_rd I.hok (.inr ⟨od, hp⟩)
  have hl : kvs.length = ys.length := Paired.length rel
  refine call_len_dictH hd dd (by rw [← hl]; rw [sizeLine_eq] at z; omega) ?_
  rw [← hl]
  exact ⟨.int ((kvs.length : Nat) : Int), H, I.tok _, ⟨_, rfl⟩, q⟩
def rLenA (K : PySem.W.Frag) : List V → Hp → VK → Prop := fun xs H Q => (∃ x n, xs = [x] ∧ LenV K x H n ∧ Q (.int n) H) ∨ rLenF xs H Q
theorem call_lenA {X : Cx} : CallR X (.builtin "len") (rLenA X.K) := call_len.or call_lenF
theorem d_len {K : PySem.W.Frag} : RCD K (rLenA K) lenD := by
  intro H O vs ds dz tr hv hd Q q
  match ds, vs, hv, hd with
  | [.list ds], _, .cons (@Dq.lst _ _ a us _ h1 h2) .nil, hd => cases hd; exact .inl ⟨_, _, rfl, .inl ⟨us, .inl (.inl (mn_some h1).1), rfl⟩, by rw [DqA.len h2]; exact q _ _ (Ex.refl H) (.int _)⟩
  | [.tuple ds], _, .cons (@Dq.tup _ _ a us _ h1 h2) .nil, hd => cases hd; exact .inl ⟨_, _, rfl, .inr ⟨us, sqT_up h1, rfl⟩, by rw [DqA.len h2]; exact q _ _ (Ex.refl H) (.int _)⟩
  | [.str x], _, .cons (.str _) .nil, hd =>
    obtain ⟨hz, rfl⟩ := iteS hd
    exact .inl ⟨_, _, rfl, ⟨hz, rfl⟩, q _ _ (Ex.refl H) (.int _)⟩
  | [.dict kvs], _, .cons h0 .nil, hd =>
    cases hd
    cases h0 with
    | @scr a ns h1 =>
      refine .inl ⟨_, _, rfl, .inl ⟨_, ex_l mn_le h1, rfl⟩, ?_⟩
      rw [List.length_map] at q ⊢
      exact q _ _ (Ex.refl H) (.int _)
    | @dct a od ks h1 =>
      refine .inr ⟨a, od, _, rfl, (mn_some h1).1, ?_⟩
      rw [List.length_map] at q ⊢
      exact q _ _ (Ex.refl H) (.int _)
def lenL (ds : List PyData) : Option PyData := some (.int ds.length)
theorem d_lenL {K : PySem.W.Frag} : RLD K (rLenA K) lenL := by
  intro H O a vs ds dz tr h1 h2 hd Q q
  cases hd
  exact .inl ⟨_, _, rfl, .inl ⟨vs, .inl (.inl h1), rfl⟩, by rw [DqA.len h2]; exact q _ _ (Ex.refl H) (.int _)⟩
/-! tuple, list -/
def tupL (ds : List PyData) : Option PyData := some (.tuple ds)
theorem d_tupL {K : PySem.W.Frag} : RLD K (fun xs H Q => ∃ p ys, xs = [.ref p] ∧ ((SqL K H p ys ∧ ∀ l, H l = none → Q (.ref l) (upd H l (.tup ys))) ∨ (SqT K H p ys ∧ Q (.ref p) H))) tupL := by
  intro H O a vs ds dz tr h1 h2 hd Q q
  cases hd
  exact ⟨a, vs, rfl, .inl ⟨.inl (.inl h1), fun l hl => q _ _ (Ex.new hl) (nu_tup tr h2 hl)⟩⟩
def tupD : List PyData → Option PyData
  | [.list ds] => some (.tuple ds)
  | [.tuple ds] => some (.tuple ds)
  | _ => none
theorem d_tup {K : PySem.W.Frag} : RCD K (fun xs H Q => ∃ p ys, xs = [.ref p] ∧ ((SqL K H p ys ∧ ∀ l, H l = none → Q (.ref l) (upd H l (.tup ys))) ∨ (SqT K H p ys ∧ Q (.ref p) H))) tupD := by
  intro H O vs ds dz tr hv hd Q q
  match ds, vs, hv, hd with
  | [.list ds], _, .cons (@Dq.lst _ _ a us _ h1 h2) .nil, hd => cases hd; exact ⟨a, us, rfl, .inl ⟨.inl (.inl (mn_some h1).1), fun l hl => q _ _ (Ex.new hl) (nu_tup tr h2 hl)⟩⟩
  | [.tuple ds], _, .cons (@Dq.tup _ _ a us _ h1 h2) .nil, hd => cases hd; exact ⟨a, us, rfl, .inr ⟨sqT_up h1, q _ _ (Ex.refl H) (.tup h1 h2)⟩⟩
/-- list(x): new -/
def lisD (d : PyData) : Option (List PyData) := match d with
  | .list ds => some ds
  | .tuple ds => some ds
  | _ => none
def sNw (h : PyData → Option (List PyData)) (f : En → Option PyData) (env : En) : Option (List PyData) := (f env).bind h
theorem en_list {c : Expr} (hp : ∀ {t}, PA X [e] t → PE X c (tCB (fun xs H Q => ∃ p ys, xs = [.ref p] ∧ (SqL X.K H p ys ∨ SqT X.K H p ys) ∧ ∀ l, H l = none → Q (.ref l) (upd H l (.lst ys))) t)) (he : ED X e f) (hs : starEach [e] X.env = (false, eval e X.env) :: starEach [] X.env := by rfl) : EN X c (sNw lisD f) := by
  obtain ⟨t, h1, r1⟩ := he.ex
  refine .of ⟨_, hp (pa_cons h1 pa_nil hs), fun H0 O0 O H σ env R ds hd Q q => ?_⟩
  unfold sNw at hd
  cases hx : f env with
  | none => rw [hx] at hd; cases hd
  | some d =>
    rw [hx, Option.bind_some] at hd
    refine r1 H0 O0 O H σ env R d hx _ fun v H1 e1 q1 => ?_
    cases q1 with
    | @lst p vs es g1 g2 =>
      cases hd
      exact ⟨p, vs, rfl, .inl (.inl (.inl (mn_some g1).1)), fun l hl => q l vs _ (e1.trans (Ex.new hl)) (fresh_back e1 hl) upd_same (nu_its g2 hl)⟩
    | @tup p vs es g1 g2 =>
      cases hd
      exact ⟨p, vs, rfl, .inr (sqT_up g1), fun l hl => q l vs _ (e1.trans (Ex.new hl)) (fresh_back e1 hl) upd_same (nu_its g2 hl)⟩
    | _ => cases hd
/-! list + list, list * int: new -/
def sCat (fl gl : En → Option (List PyData)) (env : En) : Option (List PyData) := (fl env).bind fun xs => (gl env).bind fun ys => if xs.length + ys.length ≤ sizeLine then some (xs ++ ys) else none
def sRep (fl : En → Option (List PyData)) (fb : En → Option PyData) (env : En) : Option (List PyData) := (fl env).bind fun xs => (fb env).bind fun y => (asI y).bind fun k => if -(2 ^ 63) ≤ k ∧ k < 2 ^ 63 ∧ xs.length * k.toNat ≤ sizeLine then some (List.replicate k.toNat xs).flatten else none
theorem en_cat (ha : EL X a fl) {gl : En → Option (List PyData)} (hb : EL X b gl) : EN X (.BinOp a .Add b pos) (sCat fl gl) := by
  obtain ⟨ta, h1, r1⟩ := ha.ex
  obtain ⟨tb, h2, r2⟩ := hb.ex
  refine .of ⟨_, pe_op op_cat h1 h2, fun H0 O0 O H σ env R d hd Q q => ?_⟩
  unfold sCat at hd
  cases hx : fl env with
  | none => simp only [hx] at hd; cases hd
  | some xs =>
    cases hy : gl env with
    | none => simp only [hx, hy] at hd; cases hd
    | some ys =>
      simp only [hx, hy, Option.bind_some] at hd
      obtain ⟨hz, rfl⟩ := iteS hd
      refine r1 H0 O0 O H σ env R xs hx _ fun p vs H1 e1 p1 p2 => ?_
      refine r2 H0 O0 O H1 σ env (R.up e1) ys hy _ fun p' ws H2 e2 p3 p4 => ?_
      exact ⟨p, p', vs, ws, rfl, rfl, e2 _ _ p1, p3, by rw [DqA.len p2, DqA.len p4]; exact hz, fun l hl => q l _ _ ((e1.trans e2).trans (Ex.new hl)) (fresh_back (e1.trans e2) hl) upd_same (nu_its (DqA.app (dpa_up (mn_ex e2) p2) p4) hl)⟩
theorem en_rep (ha : EL X a fl) (hb : ED X b fb) : EN X (.BinOp a .Mult b pos) (sRep fl fb) := by
  obtain ⟨ta, h1, r1⟩ := ha.ex
  obtain ⟨tb, h2, r2⟩ := hb.ex
  refine .of ⟨_, pe_op op_rep h1 h2, fun H0 O0 O H σ env R d hd Q q => ?_⟩
  unfold sRep at hd
  cases hx : fl env with
  | none => simp only [hx] at hd; cases hd
  | some xs =>
    cases hy : fb env with
    | none => simp only [hx, hy] at hd; cases hd
    | some y =>
      simp only [hx, hy, Option.bind_some] at hd
      cases y with
      | int k =>
        simp only [asI, Option.bind_some] at hd
        obtain ⟨⟨c1, c2, c3⟩, rfl⟩ := iteS hd
        refine r1 H0 O0 O H σ env R xs hx _ fun p vs H1 e1 p1 p2 => ?_
        refine r2 H0 O0 O H1 σ env (R.up e1) _ hy _ fun v H2 e2 p3 => ?_
        cases p3
        exact ⟨p, k, vs, rfl, rfl, e2 _ _ p1, c1, c2, by rw [DqA.len p2]; exact c3, fun l hl => q l _ _ ((e1.trans e2).trans (Ex.new hl)) (fresh_back (e1.trans e2) hl) upd_same (nu_its (DqA.rep k.toNat (dpa_up (mn_ex e2) p2)) hl)⟩
      | _ => cases hd
/-! sum, all, any -/
def intL : List PyData → Option (List Int)
  | [] => some []
  | .int i :: ds => (intL ds).bind fun ns => some (i :: ns)
  | _ => none
def blL : List PyData → Option (List Bool)
  | [] => some []
  | .bool i :: ds => (blL ds).bind fun ns => some (i :: ns)
  | _ => none
theorem intL_v {K : PySem.W.Frag} {H : Hp} : ∀ {ds : List PyData} {vs : List V} {ns : List Int}, DqA K H vs ds → intL ds = some ns → vs = ns.map V.int
  | [], _, _, .nil, h => by cases h; rfl
  | .int i :: ds, _, ns, .cons (.int _) h2, h => by
    have h' : (intL ds).bind (fun ns => some (i :: ns)) = some ns := h
    cases hi : intL ds with
    | none => rw [hi] at h'; cases h'
    | some ms =>
      rw [hi] at h'
      cases h'
      rw [intL_v h2 hi]
      rfl
theorem blL_v {K : PySem.W.Frag} {H : Hp} : ∀ {ds : List PyData} {vs : List V} {ns : List Bool}, DqA K H vs ds → blL ds = some ns → vs = ns.map V.bl
  | [], _, _, .nil, h => by cases h; rfl
  | .bool i :: ds, _, ns, .cons (.bl _) h2, h => by
    have h' : (blL ds).bind (fun ns => some (i :: ns)) = some ns := h
    cases hi : blL ds with
    | none => rw [hi] at h'; cases h'
    | some ms =>
      rw [hi] at h'
      cases h'
      rw [blL_v h2 hi]
      rfl
def sumL (ds : List PyData) : Option PyData := (intL ds).bind fun ns => some (.int ns.sum)
def allL (ds : List PyData) : Option PyData := (blL ds).bind fun ns => some (.bool (ns.all id))
def anyL (ds : List PyData) : Option PyData := (blL ds).bind fun ns => some (.bool (ns.any id))
theorem d_sumL {K : PySem.W.Frag} : RLD K (rSum K) sumL := by
  intro H O a vs ds dz tr h1 h2 hd Q q
  unfold sumL at hd
  cases hi : intL ds with
  | none => rw [hi] at hd; cases hd
  | some ns =>
    rw [hi] at hd; cases hd
    exact ⟨a, ns, rfl, by rw [← intL_v h2 hi]; exact .inl (.inl h1), q _ _ (Ex.refl H) (.int _)⟩
theorem d_allL {K : PySem.W.Frag} : RLD K (rAll K) allL := by
  intro H O a vs ds dz tr h1 h2 hd Q q
  unfold allL at hd
  cases hi : blL ds with
  | none => rw [hi] at hd; cases hd
  | some ns =>
    rw [hi] at hd; cases hd
    exact ⟨a, ns, rfl, by rw [← blL_v h2 hi]; exact .inl (.inl h1), q _ _ (Ex.refl H) (.bl _)⟩
theorem d_anyL {K : PySem.W.Frag} : RLD K (rAny K) anyL := by
  intro H O a vs ds dz tr h1 h2 hd Q q
  unfold anyL at hd
  cases hi : blL ds with
  | none => rw [hi] at hd; cases hd
  | some ns =>
    rw [hi] at hd; cases hd
    exact ⟨a, ns, rfl, by rw [← blL_v h2 hi]; exact .inl (.inl h1), q _ _ (Ex.refl H) (.bl _)⟩
/-! int, str, min, max of two -/
def intD : List PyData → Option PyData
  | [.int i] => some (.int i)
  | [.bool b] => some (.int (if b then 1 else 0))
  | _ => none
theorem d_int {K : PySem.W.Frag} : RCD K (fun xs H Q => (∃ i, xs = [.int i] ∧ Q (.int i) H) ∨ ∃ k, xs = [.bl k] ∧ Q (.int (if k then 1 else 0)) H) intD := by
  intro H O vs ds dz tr hv hd Q q
  match ds, vs, hv, hd with
  | [.int i], _, .cons (.int _) .nil, hd => cases hd; exact .inl ⟨i, rfl, q _ _ (Ex.refl H) (.int _)⟩
  | [.bool b], _, .cons (.bl _) .nil, hd => cases hd; exact .inr ⟨b, rfl, q _ _ (Ex.refl H) (.int _)⟩
def strD : List PyData → Option PyData
  | [.int i] => if i.natAbs.log2 < 1920 then some (.str (Str.ofString (toString i))) else none
  | _ => none
theorem d_str {K : PySem.W.Frag} : RCD K (fun xs H Q => ∃ i, xs = [.int i] ∧ i.natAbs.log2 < 1920 ∧ Q (.str (toString i)) H) strD := by
  intro H O vs ds dz tr hv hd Q q
  match ds, vs, hv, hd with
  | [.int i], _, .cons (.int _) .nil, hd =>
    obtain ⟨hz, rfl⟩ := iteS hd
    exact ⟨i, rfl, hz, q _ _ (Ex.refl H) (.str _)⟩
def minD : List PyData → Option PyData
  | [.int i, .int j] => some (.int (if j < i then j else i))
  | _ => none
theorem d_min {K : PySem.W.Frag} : RCD K (fun xs H Q => ∃ i j, xs = [.int i, .int j] ∧ Q (.int (if j < i then j else i)) H) minD := by
  intro H O vs ds dz tr hv hd Q q
  match ds, vs, hv, hd with
  | [.int i, .int j], _, .cons (.int _) (.cons (.int _) .nil), hd => cases hd; exact ⟨i, j, rfl, q _ _ (Ex.refl H) (.int _)⟩
def maxD : List PyData → Option PyData
  | [.int i, .int j] => some (.int (if j > i then j else i))
  | _ => none
theorem d_max {K : PySem.W.Frag} : RCD K (fun xs H Q => ∃ i j, xs = [.int i, .int j] ∧ Q (.int (if j > i then j else i)) H) maxD := by
  intro H O vs ds dz tr hv hd Q q
  match ds, vs, hv, hd with
  | [.int i, .int j], _, .cons (.int _) (.cons (.int _) .nil), hd => cases hd; exact ⟨i, j, rfl, q _ _ (Ex.refl H) (.int _)⟩
/-! isinstance -/
def tyN : PyData → String
  | .none => "NoneType"
  | .bool _ => "bool"
  | .int _ => "int"
  | .str _ => "str"
  | .list _ => "list"
  | .tuple _ => "tuple"
  | .dict _ => "dict"
def isiB (a b : String) : Bool := a == b || (a == "bool" && b == "int")
def isiD (T : String) : PyData → Option PyData
  | .dict _ => none
  | d => some (.bool (isiB (tyN d) T))
def KitOk (T : String) : Prop := ∀ a ∈ ["NoneType", "bool", "int", "str", "list", "tuple"], kitB a T = some (isiB a T)
theorem kit_int : KitOk "int" := by
  intro a ha
  simp only [List.mem_cons, List.not_mem_nil, or_false] at ha
  rcases ha with rfl | rfl | rfl | rfl | rfl | rfl <;> decide +kernel
theorem kit_bool : KitOk "bool" := by
  intro a ha
  simp only [List.mem_cons, List.not_mem_nil, or_false] at ha
  rcases ha with rfl | rfl | rfl | rfl | rfl | rfl <;> decide +kernel
theorem kit_tuple : KitOk "tuple" := by
  intro a ha
  simp only [List.mem_cons, List.not_mem_nil, or_false] at ha
  rcases ha with rfl | rfl | rfl | rfl | rfl | rfl <;> decide +kernel
theorem kit_str : KitOk "str" := by
  intro a ha
  simp only [List.mem_cons, List.not_mem_nil, or_false] at ha
  rcases ha with rfl | rfl | rfl | rfl | rfl | rfl <;> decide +kernel
theorem dq_ty {K : PySem.W.Frag} {H : Hp} {O : Ow} {v : V} {d : PyData} (h : Dq K (mn H O) v d) (hn : ∀ kvs, d ≠ .dict kvs) : TyX K H v (.type (tyN d)) ∧ tyN d ∈ ["NoneType", "bool", "int", "str", "list", "tuple"] := by
  cases h with
  | non => exact ⟨.base .non, by simp [tyN]⟩
  | bl b => exact ⟨.base (.bl b), by simp [tyN]⟩
  | int i => exact ⟨.base (.int i), by simp [tyN]⟩
  | str x => exact ⟨.base (.str x), by simp [tyN]⟩
  | lst h1 _ => exact ⟨.base (.lst (mn_some h1).1), by simp [tyN]⟩
  | tup h1 _ =>
    refine ⟨?_, by simp [tyN]⟩
    rcases sqT_up h1 with h | ⟨o, its, n, hk, hc, _⟩
    · rcases h with h | ⟨o, h⟩
      · exact .base (.tup h)
      · exact .fTuple h
    · exact .kTuple hk hc
  | scr _ => exact absurd rfl (hn _)
  | dct _ => exact absurd rfl (hn _)
theorem ed_isi {c : Expr} {T : String} (hk : KitOk T) (hp : ∀ {t}, PA X [e, a] t → PE X c (tCB (rIsi X.K) t)) (he : ED X e f) (ha : PE X a (tC (.ty T))) (hs : starEach [e, a] X.env = (false, eval e X.env) :: starEach [a] X.env := by rfl) (hs2 : starEach [a] X.env = (false, eval a X.env) :: starEach [] X.env := by rfl) :
    ED X c (s1 (isiD T) f) := by
  obtain ⟨t, h1, r1⟩ := he.ex
  refine .of ⟨_, hp (pa_cons h1 (pa_cons ha pa_nil hs2) hs), fun H0 O0 O H σ env R ds hd Q q => ?_⟩
  unfold s1 at hd
  cases hx : f env with
  | none => rw [hx] at hd; cases hd
  | some d =>
    rw [hx, Option.bind_some] at hd
    have hn : ∀ kvs, d ≠ .dict kvs := fun kvs z => by rw [z] at hd; cases hd
    have hd' : some (PyData.bool (isiB (tyN d) T)) = some ds := by
      cases d with
      | dict kvs => exact absurd rfl (hn kvs)
      | _ => exact hd
    cases hd'
    refine r1 H0 O0 O H σ env R d hx _ fun v H1 e1 q1 => ?_
    obtain ⟨g1, g2⟩ := dq_ty q1 hn
    exact ⟨v, .ty T, _, _, _, rfl, .ty T, g1, kit_ty (hk _ g2), q _ _ e1 (.bl _)⟩
/-! ### places -/
theorem atI_d {K : PySem.W.Frag} {H : Hp} {vs : List V} {ds : List PyData} {i : Int} {d : PyData} (h : DqA K H vs ds) (hd : atI ds i = some d) : ∃ v, atI vs i = some v ∧ Dq K H v d := by
  unfold atI at hd ⊢
  rw [DqA.len h]
  cases hj : ixN ds.length i with
  | none => rw [hj] at hd; cases hd
  | some j =>
    rw [hj, Option.bind_some] at hd
    exact DqA.get h hd
def keyI : PyData → Option PyData
  | .int z => some (.int z)
  | _ => none
def ixD : PyData → PyData → Option PyData
  | .list ds, .int i => atI ds i
  | .tuple ds, .int i => atI ds i
  | .str z, .int i => if z.length ≤ sizeLine then (atI z.cps.toList i).bind fun c => some (.str ⟨#[c]⟩) else none
  | .dict kvs, .int i => (atI (kvs.map (·.1)) i).bind keyI
  | _, _ => none
theorem d_ix {K : PySem.W.Frag} : R2D K (rIx K) ixD := by
  intro H O x y dx dy dz tr hx hy hd Q q
  cases hy with
  | int i =>
    cases hx with
    | @lst a vs ds h1 h2 =>
      obtain ⟨v, g1, g2⟩ := atI_d h2 (show atI ds i = some dz from hd)
      exact .inl ⟨a, vs, i, v, rfl, rfl, .inl (.inl (mn_some h1).1), g1, q _ _ (Ex.refl H) g2⟩
    | @tup a vs ds h1 h2 =>
      obtain ⟨v, g1, g2⟩ := atI_d h2 (show atI ds i = some dz from hd)
      exact .inr (.inl ⟨a, vs, i, v, rfl, rfl, sqT_up h1, g1, q _ _ (Ex.refl H) g2⟩)
    | str z =>
      have hd' : (if z.length ≤ sizeLine then (atI z.cps.toList i).bind fun c => some (PyData.str ⟨#[c]⟩) else none) = some dz := hd
      by_cases hz : z.length ≤ sizeLine
      · rw [if_pos hz] at hd'
        cases hc : atI z.cps.toList i with
        | none => rw [hc] at hd'; cases hd'
        | some c =>
          rw [hc] at hd'; cases hd'
          exact .inr (.inr ⟨z, i, c, rfl, rfl, hz, hc, q _ _ (Ex.refl H) (.str _)⟩)
      · rw [if_neg hz] at hd'; cases hd'
    | @scr a ns h1 =>
      have hm : List.map (fun x : PyData × PyData => x.1) (ns.map fun n => (PyData.int n, PyData.none)) = ns.map PyData.int := by rw [List.map_map]; rfl
      have hd' : (atI (List.map (fun x : PyData × PyData => x.1) (ns.map fun n => (PyData.int n, PyData.none))) i).bind keyI = some dz := hd
      rw [hm] at hd'
      cases hat : atI (ns.map PyData.int) i with
      | none => rw [hat] at hd'; cases hd'
      | some d =>
        rw [hat, Option.bind_some] at hd'
        obtain ⟨v, g1, g2⟩ := atI_d (K := K) (H := mn H O) (dqa_ints ns) hat
        cases d with
        | int z =>
          cases hd'
          exact .inl ⟨a, _, i, v, rfl, rfl, ex_l mn_le h1, g1, q _ _ (Ex.refl H) g2⟩
        | _ => cases hd'
    | @dct a od ks h1 =>
      have hm : List.map (fun x : PyData × PyData => x.1) (ks.map fun k => (PyData.tuple (k.map PyData.int), PyData.bool true)) = ks.map fun k => PyData.tuple (k.map PyData.int) := by rw [List.map_map]; rfl
      have hd' : (atI (List.map (fun x : PyData × PyData => x.1) (ks.map fun k => (PyData.tuple (k.map PyData.int), PyData.bool true))) i).bind keyI = some dz := hd
      rw [hm] at hd'
      cases hat : atI (ks.map fun k => PyData.tuple (k.map PyData.int)) i with
      | none => rw [hat] at hd'; cases hd'
      | some d =>
        rw [hat, Option.bind_some] at hd'
        unfold atI at hat
        cases hj : ixN (ks.map fun k => PyData.tuple (k.map PyData.int)).length i with
        | none => rw [hj] at hat; cases hat
        | some j =>
          rw [hj, Option.bind_some] at hat
          obtain ⟨k, _, rfl⟩ := List.mem_map.mp (List.mem_of_getElem? hat)
          cases hd'
    | _ => cases hd
  | _ => cases hx <;> cases hd
theorem ed_ix (ha : ED X a fa) (hb : ED X b fb) (hs : PlainIx b) : ED X (.Subscript a b pos) (s2 ixD fa fb) := ed_2 (t := fun _ _ => tC .non) (fun h1 h2 => pe_ix ix_seq h1 h2 hs) d_ix ha hb
/-- xs[i] of a list that is still written to -/
def sIxL (fl : En → Option (List PyData)) (fb : En → Option PyData) (env : En) : Option PyData := (fl env).bind fun ds => (fb env).bind fun y => (asI y).bind fun i => atI ds i
theorem ed_ixL (ha : EL X a fl) (hb : ED X b fb) (hs : PlainIx b) : ED X (.Subscript a b pos) (sIxL fl fb) := by
  obtain ⟨ta, h1, r1⟩ := ha.ex
  obtain ⟨tb, h2, r2⟩ := hb.ex
  refine .of ⟨_, pe_ix ix_list h1 h2 hs, fun H0 O0 O H σ env R d hd Q q => ?_⟩
  unfold sIxL at hd
  cases hx : fl env with
  | none => rw [hx] at hd; cases hd
  | some ds =>
    cases hy : fb env with
    | none => rw [hx, hy] at hd; cases hd
    | some y =>
      rw [hx, hy, Option.bind_some, Option.bind_some] at hd
      cases y with
      | int i =>
        simp only [asI, Option.bind_some] at hd
        refine r1 H0 O0 O H σ env R ds hx _ fun p vs H1 e1 p1 p2 => ?_
        refine r2 H0 O0 O H1 σ env (R.up e1) _ hy _ fun v H2 e2 p3 => ?_
        cases p3
        obtain ⟨v, g1, g2⟩ := atI_d (dpa_up (mn_ex e2) p2) hd
        exact ⟨p, vs, i, v, rfl, rfl, .inl (.inl (e2 _ _ p1)), g1, q _ _ (e1.trans e2) g2⟩
      | _ => cases hd
/-! ### slices -/
structure DO (X : Cx) (lo : Option Expr) (f : En → Option (Option Int)) : Prop where
  ex : ∃ t, PO X lo t ∧ ∀ H0 O0 O H σ env, Rp X.K H0 O0 O H σ env → ∀ o, f env = some o → ∀ Q : Option Int → Hp → Prop, (∀ H', Ex H H' → Q o H') → t σ H Q
def sNo (_ : En) : Option (Option Int) := some none
def sSo (f : En → Option PyData) (env : En) : Option (Option Int) := (f env).bind fun d => (asI d).bind fun i => some (some i)
theorem do_none : DO X none sNo := ⟨_, po_none, fun H0 O0 O H σ env R o hd Q q => by cases hd; exact q H (Ex.refl H)⟩
theorem do_some (h : ED X e f) : DO X (some e) (sSo f) := by
  obtain ⟨t, h1, r1⟩ := h.ex
  refine ⟨_, po_some h1, fun H0 O0 O H σ env R o hd Q q => ?_⟩
  unfold sSo at hd
  cases hx : f env with
  | none => rw [hx] at hd; cases hd
  | some d =>
    rw [hx, Option.bind_some] at hd
    cases d with
    | int i =>
      cases hd
      refine r1 H0 O0 O H σ env R _ hx _ fun v H1 e1 q1 => ?_
      cases q1
      exact ⟨i, rfl, q H1 e1⟩
    | _ => cases hd
def cutL (xs : List PyData) (lo hi : Option Int) : List PyData := (xs.drop (HT.sIx xs.length 0 lo)).take (HT.sIx xs.length xs.length hi - HT.sIx xs.length 0 lo)
theorem cut_d {K : PySem.W.Frag} {H : Hp} {vs : List V} {ds : List PyData} (h : DqA K H vs ds) (lo hi : Option Int) : DqA K H (cutV vs lo hi) (cutL ds lo hi) := by
  unfold cutV cutL
  rw [DqA.len h]
  exact DqA.take _ (DqA.drop _ h)
def slD (d : PyData) (lo hi : Option Int) : Option PyData := match d with
  | .list ds => some (.list (cutL ds lo hi))
  | .tuple ds => some (.tuple (cutL ds lo hi))
  | .str z => if z.length ≤ sizeLine then some (.str (cutS z lo hi)) else none
  | _ => none
def sSl (f : En → Option PyData) (l h : En → Option (Option Int)) (env : En) : Option PyData := (f env).bind fun d => (l env).bind fun lo => (h env).bind fun hi => slD d lo hi
theorem ed_sl {lo hi : Option Expr} {l h : En → Option (Option Int)} {p2 : Pos} (he : ED X e f) (hl : DO X lo l) (hh : DO X hi h) : ED X (.Subscript e (.Slice lo hi none p2) pos) (sSl f l h) := by
  obtain ⟨t, h1, r1⟩ := he.ex
  obtain ⟨tl, h2, r2⟩ := hl.ex
  obtain ⟨th, h3, r3⟩ := hh.ex
  refine .of ⟨_, pe_slice ((sl_list.or sl_tupA).or sl_str) h1 h2 h3, fun H0 O0 O H σ env R d hd Q q => ?_⟩
  unfold sSl at hd
  cases hx : f env with
  | none => rw [hx] at hd; cases hd
  | some d0 =>
    cases hy : l env with
    | none => rw [hx, hy] at hd; cases hd
    | some lo' =>
      cases hz : h env with
      | none => rw [hx, hy, hz] at hd; cases hd
      | some hi' =>
        rw [hx, hy, hz, Option.bind_some, Option.bind_some, Option.bind_some] at hd
        refine r1 H0 O0 O H σ env R d0 hx _ fun v H1 e1 q1 => ?_
        have R1 := R.up e1
        refine r2 H0 O0 O H1 σ env R1 lo' hy _ fun H2 e2 => ?_
        have R2 := R1.up e2
        refine r3 H0 O0 O H2 σ env R2 hi' hz _ fun H3 e3 => ?_
        have R3 := R2.up e3
        have q3 := dp_up (mn_ex (e2.trans e3)) q1
        have e13 := (e1.trans e2).trans e3
        cases q3 with
        | @lst a vs ds g1 g2 =>
          cases hd
          exact .inl (.inl ⟨a, vs, rfl, .inl (.inl (mn_some g1).1), fun p hp => q _ _ (e13.trans (Ex.new hp)) (nu_lst R3.tr (cut_d g2 lo' hi') hp)⟩)
        | @tup a vs ds g1 g2 =>
          cases hd
          refine .inl (.inr ⟨a, vs, rfl, sqT_up g1, fun hw => ?_, fun _ p hp => q _ _ (e13.trans (Ex.new hp)) (nu_tup R3.tr (cut_d g2 lo' hi') hp)⟩)
          have : cutL ds lo' hi' = ds := by
            unfold cutL
            rw [← DqA.len g2, hw.1, hw.2, DqA.len g2]
            simp
          rw [this] at q
          exact q _ _ e13 (.tup g1 g2)
        | str z =>
          obtain ⟨hs, rfl⟩ := iteS hd
          exact .inr ⟨z, rfl, hs, q _ _ e13 (.str _)⟩
        | _ => cases hd
end
/-! ### a def -/
section
variable {P : Program} {w : World} {K : PySem.W.Frag} {mg : Str → Option Value} {base : Heap}
theorem dqa_cons_inv {H : Hp} {v : V} {vs : List V} {d : PyData} {ds : List PyData} (h : DqA K H (v :: vs) (d :: ds)) : Dq K H v d ∧ DqA K H vs ds := by
  cases h with
  | cons a b => exact ⟨a, b⟩
theorem rp_start {H : Hp} {O : Ow} {vs : List V} {ds : List PyData} {n : Nat} (tr : ∀ a, O a = true → Mu (H a)) (h : DqA K (mn H O) vs ds) : Rp K H O O H (vs.map some ++ List.replicate n none) (ds.map Sl.dat ++ List.replicate n Sl.un) := by
  have hl := DqA.len h
  refine ⟨fun a h => mut_ne (tr a h), Ex.refl H, fun _ h => h, tr, by simp [hl], fun i s e => ?_, fun i j s t c _ e1 _ w1 _ => ?_⟩
  · by_cases hi : i < ds.length
    · rw [List.getElem?_append_left (by simpa using hi), List.getElem?_map, List.getElem?_eq_getElem hi] at e
      cases e
      obtain ⟨v, g1, g2⟩ := DqA.get (d := ds[i]) h (List.getElem?_eq_getElem hi)
      exact ⟨v, by rw [List.getElem?_append_left (by simpa [hl] using hi), List.getElem?_map, g1]; rfl, g2⟩
    · rw [List.getElem?_append_right (by simpa using Nat.le_of_not_lt hi)] at e
      have := List.getElem?_eq_some_iff.mp e
      obtain ⟨_, e2⟩ := this
      simp at e2
      subst e2
      trivial
  · by_cases hi : i < ds.length
    · rw [List.getElem?_append_left (by simpa using hi), List.getElem?_map, List.getElem?_eq_getElem hi] at e1
      cases e1
      exact w1
    · rw [List.getElem?_append_right (by simpa using Nat.le_of_not_lt hi)] at e1
      obtain ⟨_, e2⟩ := List.getElem?_eq_some_iff.mp e1
      simp at e2
      subst e2
      exact w1
def rtD : Ou → PyData
  | .rt d => d
  | .nx _ => .none
/-- what a def's body gives -/
def runB (n : Nat) (g : En → Option Ou) (ds : List PyData) : Option PyData := (g (ds.map Sl.dat ++ List.replicate n Sl.un)).bind fun r => some (rtD r)
theorem fn_d {x : Str} {st : Stmt} {f : Addr} {fd : FuncData} {N ps : List Str} {k n : Nat} {g : En → Option Ou} (F : C8.Fun K x x st f fd) (S : FnScope N ps (C8.fnScope st)) (hn : N.length = ps.length + n)
    (hbody : ∀ (cdv : Value) (A : Around) (outer : List Env) (s : Shared) (H : Hp) (E : XK), Room k (A.deeper (envOfC x (C8.fnScope st) s.heap.objs.size f cdv)) → DSs (cxOf C8.CX0 P w K mg base N x (C8.fnScope st) f cdv A outer s H E).nox (C8.fnBody st) g) :
    FnOk P w K mg base C8.CX0 (k + 1) f fd ps (spD ps.length (runB n g) K) := by
  refine C8.fn0 F S (fun vs H Q E h => ?_) fun cdv A outer s H vs Q E hr hsp => ⟨_, hbody cdv A outer s H E hr, ?_⟩
  · obtain ⟨O, ds, d, tr, hl, hd, _⟩ := h
    rw [DqA.len hd, hl]
  · obtain ⟨O, ds, d, tr, hl, hd, hf, q⟩ := hsp
    unfold runB at hf
    cases hg : g (ds.map Sl.dat ++ List.replicate n Sl.un) with
    | none => rw [hg] at hf; cases hf
    | some r =>
      rw [hg] at hf
      have hlen : N.length - vs.length = n := by rw [DqA.len hd, hl, hn]; omega
      have R := rp_start (K := K) (n := n) tr hd
      refine ⟨H, O, O, _, r, by unfold L2.start; rw [hlen]; exact R, hg, ?_⟩
      cases r with
      | nx env =>
        cases hf
        exact fun O' H' σ' R' e' => q _ _ R'.ex .non
      | rt d' =>
        cases hf
        exact fun v H' e' hv => q v H' e' hv
end
end Dz

/-! Dz9: more of the same. -/
namespace Dz
open PySem PySem.Spec PyProof.Rows L2 Evl
section
variable {X : Cx} {e a b c : Expr} {es : List Expr} {f fa fb fc : En → Option PyData} {fl : En → Option (List PyData)} {pos p : Pos}
theorem dt_chain {op op' : CmpOp} {r r' : R2} {g g' : PyData → PyData → Option PyData} (ho : OpR X (compareOp op) r) (ho' : OpR X (compareOp op') r') (hr : R2D X.K r g) (hr' : R2D X.K r' g') (ha : ED X a fa) (hb : ED X b fb) (hc : ED X c fc)
    (hm : lastMarks [op, op'] [b, c] = false := by with_unfolding_all rfl) : DT X (.Compare a [op, op'] [b, c] pos) (sB (sChain g g' fa fb fc)) := by
  obtain ⟨ta, h1, r1⟩ := ha.ex
  obtain ⟨tb, h2, r2⟩ := hb.ex
  obtain ⟨tc, h3, r3⟩ := hc.ex
  refine .of ⟨_, pt_chain ho ho' h1 h2 h3 hm, fun H0 O0 O H σ env R d hd Q q => ?_⟩
  unfold sB sChain at hd
  cases hx : fa env with
  | none => rw [hx] at hd; cases hd
  | some dx =>
    cases hy : fb env with
    | none => rw [hx, hy] at hd; cases hd
    | some dy =>
      rw [hx, hy] at hd
      simp only [Option.bind_some] at hd
      cases hg : g dx dy with
      | none => rw [hg] at hd; cases hd
      | some dk =>
        rw [hg] at hd
        simp only [Option.bind_some] at hd
        cases dk with
        | bool k =>
          simp only [asB, Option.bind_some] at hd
          refine r1 H0 O0 O H σ env R dx hx _ fun x H1 e1 q1 => ?_
          have R1 := R.up e1
          refine r2 H0 O0 O H1 σ env R1 dy hy _ fun y H2 e2 q2 => ?_
          have R2 := R1.up e2
          refine hr H2 O x y dx dy _ R2.tr (dp_up (mn_ex e2) q1) q2 hg _ fun z H3 e3 q3 => ?_
          cases q3
          refine ⟨k, rfl, ?_⟩
          cases k with
          | false =>
            simp only [Bool.false_eq_true, if_false, Option.bind_some, asB] at hd ⊢
            cases hd
            exact ⟨_, rfl, q _ ((e1.trans e2).trans e3)⟩
          | true =>
            simp only [if_true] at hd ⊢
            cases hz : fc env with
            | none => rw [hz] at hd; cases hd
            | some dz =>
              rw [hz] at hd
              simp only [Option.bind_some] at hd
              cases hg2 : g' dy dz with
              | none => rw [hg2] at hd; cases hd
              | some dk2 =>
                rw [hg2] at hd
                cases dk2 with
                | bool k2 =>
                  cases hd
                  have R3 := R2.up e3
                  refine r3 H0 O0 O H3 σ env R3 dz hz _ fun w H4 e4 q4 => ?_
                  refine hr' H4 O y w dy dz _ (R3.up e4).tr (dp_up (mn_ex (e3.trans e4)) q2) q4 hg2 _ fun v H' e5 q5 => ?_
                  cases q5
                  exact ⟨_, rfl, q _ ((((e1.trans e2).trans e3).trans e4).trans e5)⟩
                | _ => cases hd
        | _ => cases hd
def negD : PyData → Option PyData
  | .int i => some (.int (-i))
  | _ => none
theorem ed_neg (h : ED X a fa) : ED X (.UnaryOp .USub a pos) (s1 negD fa) := by
  obtain ⟨t, h1, r1⟩ := h.ex
  refine .of ⟨_, pe_un un_neg h1, fun H0 O0 O H σ env R d hd Q q => ?_⟩
  unfold s1 at hd
  cases hx : fa env with
  | none => rw [hx] at hd; cases hd
  | some dx =>
    rw [hx, Option.bind_some] at hd
    cases dx with
    | int i =>
      cases hd
      refine r1 H0 O0 O H σ env R _ hx _ fun v H1 e1 q1 => ?_
      cases q1
      exact ⟨i, rfl, q _ _ e1 (.int _)⟩
    | _ => cases hd
/-- xs[::-1], xs a list -/
def revL : PyData → Option (List PyData)
  | .list ds => some ds.reverse
  | _ => none
theorem en_rev {k : Nat} {p1 p2 p3 : Pos} (h : ED X e f) : EN X (.Subscript e (.Slice none none (some (.UnaryOp .USub (.Constant (.int 1) k p1) p2)) p3) pos) (sNw revL f) := by
  obtain ⟨t, h1, r1⟩ := h.ex
  refine .of ⟨_, pe_revL h1, fun H0 O0 O H σ env R ds hd Q q => ?_⟩
  unfold sNw at hd
  cases hx : f env with
  | none => rw [hx] at hd; cases hd
  | some dx =>
    rw [hx, Option.bind_some] at hd
    cases dx with
    | list es =>
      cases hd
      refine r1 H0 O0 O H σ env R _ hx _ fun v H1 e1 q1 => ?_
      cases q1 with
      | @lst a vs _ g1 g2 =>
        exact ⟨a, vs, rfl, .inl (.inl (mn_some g1).1), fun l hl => q l _ _ (e1.trans (Ex.new hl)) (fresh_back e1 hl) upd_same (nu_its (DqA.rev g2) hl)⟩
    | _ => cases hd
/-- a module's constant -/
theorem ed_gi {x : Str} {i : Int} {t : Tok} (hg : Gl X x) (hm : X.mg x = some (.int i t)) (hd : (x == ("__debug__" : Str)) = false := by decide) : ED X (.Name x pos) (sC (.int i)) := ed_c (v := .int i) (pe_glob hg hm ⟨t, rfl⟩ hd) fun _ => .int i
theorem ed_gs {x z : Str} {t : Tok} (hg : Gl X x) (hm : X.mg x = some (.str z t)) (hd : (x == ("__debug__" : Str)) = false := by decide) : ED X (.Name x pos) (sC (.str z)) := ed_c (v := .str z) (pe_glob hg hm ⟨t, rfl⟩ hd) fun _ => .str z
/-- a, b = a list -/
def gL (r : List PyData → En → Option En) : PyData → En → Option En
  | .list ds, env => r ds env
  | _, _ => none
theorem dg_lst {k : Nat} {is : List Nat} {r : List PyData → En → Option En} {n : Nat} (hc : X.calm = true) (h : DGs X es is r) (hl : ∀ ds env env', r ds env = some env' → ds.length = n)
    (hn : (assignEach es X.env).length = n := by rfl) (hst : (assignEach es X.env).findIdx? (·.1) = none := by rfl) : DG X (.Tuple es k pos) is (gL r) :=
  ⟨fun pins s σ H v u Q I rr ⟨H0, O0, O, env, d, env', R, hv, hg, q⟩ => (pg_unl hc h hn hst).run pins s σ H v u Q I rr (by
    cases hv with
    | @lst a xs ds h1 h2 =>
      have hg' : r ds env = some env' := hg
      exact ⟨a, xs, rfl, .inl (.inl (mn_some h1).1), by rw [DqA.len h2]; exact hl ds env env' hg', H0, O0, O, env, ds, env', R, h2, hg', q⟩
    | _ => cases hg)⟩
/-- for i, x in enumerate(..) -/
theorem en_get {xs : List PyData} {i : Nat} : (enL xs)[i]? = (xs[i]?).map fun x => .tuple [.int (i : Nat), x] := by
  unfold enL
  rw [List.getElem?_map, List.getElem?_zipIdx]
  cases xs[i]? <;> simp
theorem wk_enu {K : PySem.W.Frag} {F F1 : Hp} {vs : List V} {ds : List PyData} {J : It} (w : Walk J vs.length (fun H2 => Ed F H2) (YPair (fun i => some (.int (i : Nat))) (fun i => vs[i]?))) (h : DqA K F1 vs ds) : Wk K F F1 (enL ds) J := by
  unfold Wk
  have hl : (enL ds).length = vs.length := by simp [enL, DqA.len h]
  rw [hl]
  refine Walk.mono w (fun _ e => e) fun i H2 x H3 hi e y => ?_
  obtain ⟨T, a, b, rfl, hT, rfl, ha, hb⟩ := y
  cases ha
  obtain ⟨d, g1, g2⟩ := DqA.getv h hb
  exact ⟨_, by rw [en_get, g1]; rfl, Ex.new hT, fun O2 e2 tr => pair_d tr hT (.int _) (dp_up e2 g2)⟩
theorem walk_enumT {K : PySem.W.Frag} {a : Addr} {xs : List V} : Walk (IteT K a) xs.length (fun H => SqT K H a xs) (YPair (fun i => some (.int (i : Nat))) (fun i => xs[i]?)) := by
  refine ⟨fun i _ hi q => ⟨xs, xs[i], q, by simp [hi]⟩, fun _ q => ⟨xs, q, rfl⟩, fun i H v H' _ q y => ?_⟩
  obtain ⟨T, x, h1, h2, h3, h4⟩ := y
  exact ⟨T, .int (i : Nat), x, h1, h2, h3, rfl, h4 xs q⟩
theorem di_enu {tpos : Pos} {elts : List Expr} {kk : Nat} (hg : Gl X "enumerate") (hm : X.mg "enumerate" = none) (ha : DA X [e] fl) (hs : starEach [e] X.env = [(false, eval e X.env)] := by rfl) : DI X (.Tuple elts kk tpos) (.Call (.Name "enumerate" p) [e] [] pos) (sArg enu fl) := by
  obtain ⟨t, ht, r⟩ := ha.ex
  refine .of ⟨_, pi_enA hg hm ht hs, fun H0 O0 O H σ env R ds hd Q q => ?_⟩
  unfold sArg at hd
  cases hf : fl env with
  | none => rw [hf] at hd; cases hd
  | some xs =>
    rw [hf] at hd
    refine r H0 O0 O H σ env R xs hf _ fun vs H' e hq => ?_
    match xs, vs, hq, hd with
    | [.list ds], _, .cons (@Dq.lst _ _ a us _ h1 h2) .nil, hd =>
      cases hd
      exact ⟨a, us, rfl, .inl ⟨.inl (.inl (mn_some h1).1), q _ H' e (wk_enu (Walk.mono walk_enum (fun H2 ee => ex_l ee (.inl (.inl h1))) fun _ _ _ _ _ _ y => y) h2)⟩⟩
    | [.tuple ds], _, .cons (@Dq.tup _ _ a us _ h1 h2) .nil, hd =>
      cases hd
      exact ⟨a, us, rfl, .inr ⟨sqT_up h1, q _ H' e (wk_enu (Walk.mono walk_enumT (fun H2 ee => ex_t ee h1) fun _ _ _ _ _ _ y => y) h2)⟩⟩
/-! how many arguments -/
theorem sl_nil : ∀ env ds, sNil env = some ds → ds.length = 0 := by
  intro env ds h
  cases h
  rfl
theorem sl_cons {n : Nat} (h : ∀ env ds, fl env = some ds → ds.length = n) : ∀ env ds, sCons fa fl env = some ds → ds.length = n + 1 := by
  intro env ds e
  unfold sCons at e
  cases hx : fa env with
  | none => rw [hx] at e; cases e
  | some x =>
    cases hy : fl env with
    | none => rw [hx, hy] at e; cases e
    | some xs =>
      rw [hx, hy] at e
      cases e
      simp [h env xs hy]
theorem room64 {k : Nat} {A : Around} (r : Room k A) : A.units + 64 < cLine := r.units
theorem room65 {k : Nat} {A : Around} (r : Room k A) : A.units + 65 < cLine := by
  have := r.un
  omega
end
/-- the law's end -/
theorem sp_end {K : PySem.W.Frag} {H : Hp} {a : Addr} {ns : List Int} {f : List PyData → Option PyData} {E : XK} (h : f [scrD ns] = some (.bool true)) (hS : SqL K H a (ns.map V.int)) : spD 1 f K [.ref a] H (fun v _ => v = .bl true) E := by
  have e : mn H (fun _ => false) = H := by
    funext b
    unfold mn
    simp
  refine ⟨fun _ => false, [scrD ns], .bool true, fun _ z => (by cases z), rfl, DqA.cons (.scr (by rw [e]; exact hS)) .nil, h, fun v H' _ hv => ?_⟩
  cases hv
  rfl
/-- the built-in names that the program leaves alone -/
structure Bl (mg : Str → Option Value) : Prop where
  len : mg "len" = none
  zip : mg "zip" = none
  range : mg "range" = none
  enumerate : mg "enumerate" = none
  tuple : mg "tuple" = none
  list : mg "list" = none
  sum : mg "sum" = none
  all : mg "all" = none
  any : mg "any" = none
  int : mg "int" = none
  str : mg "str" = none
  bool : mg "bool" = none
  min : mg "min" = none
  max : mg "max" = none
  sorted : mg "sorted" = none
  set : mg "set" = none
  isinstance : mg "isinstance" = none
  ValueError : mg "ValueError" = none
end Dz

/-! DzA: sorted of tuples of ints, range with a step. -/
namespace Dz
open PySem PySem.Spec PyProof.Rows L2 Evl
/-! ### sorting rows -/
def ins (r : List Int) : List (List Int) → List (List Int)
  | [] => [r]
  | x :: xs => if TS.code 64 r ≤ TS.code 64 x then r :: x :: xs else x :: ins r xs
def isrt : List (List Int) → List (List Int)
  | [] => []
  | x :: xs => ins x (isrt xs)
theorem ins_perm (r : List Int) : ∀ xs, (ins r xs).Perm (r :: xs)
  | [] => .refl _
  | x :: xs => by
    unfold ins
    split
    · exact .refl _
    · exact ((ins_perm r xs).cons x).trans (.swap r x xs)
theorem isrt_perm : ∀ xs, (isrt xs).Perm xs
  | [] => .refl _
  | x :: xs => (ins_perm x _).trans ((isrt_perm xs).cons x)
abbrev leC (r q : List Int) : Prop := TS.code 64 r ≤ TS.code 64 q
theorem ins_pw (r : List Int) : ∀ xs, xs.Pairwise leC → (ins r xs).Pairwise leC
  | [], _ => List.pairwise_singleton _ _
  | x :: xs, h => by
    unfold ins
    split
    · rename_i hc
      refine List.pairwise_cons.mpr ⟨fun y hy => ?_, h⟩
      rcases List.mem_cons.mp hy with rfl | hy
      · exact hc
      · exact Int.le_trans hc ((List.pairwise_cons.mp h).1 y hy)
    · rename_i hc
      refine List.pairwise_cons.mpr ⟨fun y hy => ?_, ins_pw r xs (List.pairwise_cons.mp h).2⟩
      rcases List.mem_cons.mp ((ins_perm r xs).mem_iff.mp hy) with rfl | hy
      · exact Int.le_of_lt (Int.not_le.mp hc)
      · exact (List.pairwise_cons.mp h).1 y hy
theorem isrt_pw : ∀ xs, (isrt xs).Pairwise leC
  | [] => .nil
  | x :: xs => ins_pw x _ (isrt_pw xs)
theorem code_inj {B : Int} : ∀ {r q : List Int}, r.length = q.length → TS.Bd B r → TS.Bd B q → TS.code B r = TS.code B q → r = q
  | [], [], _, _, _, _ => rfl
  | [], _ :: _, h, _, _, _ => by cases h
  | _ :: _, [], h, _, _, _ => by cases h
  | x :: r, y :: q, hl, hr, hq, h => by
    have hl' : r.length = q.length := by simpa using hl
    have h1 : x = y := by
      rcases Int.lt_trichotomy x y with z | z | z
      · have := TS.code_lt hl' hr.tail hq.tail z
        omega
      · exact z
      · have := TS.code_lt hl'.symm hq.tail hr.tail z
        omega
    subst h1
    have h2 : TS.code B r = TS.code B q := by
      have e : x * B ^ r.length + TS.code B r = x * B ^ q.length + TS.code B q := h
      rw [hl'] at e
      omega
    rw [code_inj hl' hr.tail hq.tail h2]
theorem pw_uniq {d : Nat} : ∀ {l m : List (List Int)}, l.Perm m → l.Pairwise leC → m.Pairwise leC → (∀ r ∈ l, r.length = d ∧ TS.Bd 64 r) → l = m
  | [], m, h, _, _, _ => (List.Perm.eq_nil h.symm).symm
  | x :: l, [], h, _, _, _ => absurd h.length_eq (by simp)
  | x :: l, y :: m, h, hl, hm, hd => by
    have hx : leC y x := by
      rcases List.mem_cons.mp (h.mem_iff.mp (List.mem_cons_self (a := x) (l := l))) with e | hx
      · rw [e]
        exact Int.le_refl _
      · exact (List.pairwise_cons.mp hm).1 x hx
    have my := h.mem_iff.mpr (List.mem_cons_self (a := y) (l := m))
    have hy : leC x y := by
      rcases List.mem_cons.mp my with e | hy
      · rw [e]
        exact Int.le_refl _
      · exact (List.pairwise_cons.mp hl).1 y hy
    have e : x = y := code_inj ((hd x List.mem_cons_self).1.trans (hd y my).1.symm) (hd x List.mem_cons_self).2 (hd y my).2 (Int.le_antisymm hy hx)
    subst e
    rw [pw_uniq h.cons_inv (List.pairwise_cons.mp hl).2 (List.pairwise_cons.mp hm).2 fun r hr => hd r (List.mem_cons_of_mem _ hr)]
def mkT (ns : List Int) : PyData := .tuple (ns.map PyData.int)
def rowsL : List PyData → Option (List (List Int))
  | [] => some []
  | .tuple es :: ds => (intL es).bind fun ns => (rowsL ds).bind fun rs => some (ns :: rs)
  | _ => none
def rowsOk (rs : List (List Int)) : Bool := decide (rs.length < 64) && rs.all fun r => decide (1 ≤ r.length) && decide (r.length = (rs.headD []).length) && r.all fun i => decide (0 ≤ i) && decide (i < 64)
def srtL (ds : List PyData) : Option (List PyData) := (rowsL ds).bind fun rs => if rowsOk rs = true then some ((isrt rs).map mkT) else none
def sSrt (fl : En → Option (List PyData)) (env : En) : Option (List PyData) := (fl env).bind srtL
theorem intL_d : ∀ {es : List PyData} {ns : List Int}, intL es = some ns → es = ns.map PyData.int
  | [], ns, h => by cases h; rfl
  | .int i :: es, ns, h => by
    have h' : (intL es).bind (fun ns => some (i :: ns)) = some ns := h
    cases hi : intL es with
    | none => rw [hi] at h'; cases h'
    | some ms =>
      rw [hi] at h'
      cases h'
      rw [intL_d hi]
      rfl
theorem rowsL_d : ∀ {ds : List PyData} {rs : List (List Int)}, rowsL ds = some rs → ds = rs.map mkT
  | [], rs, h => by cases h; rfl
  | .tuple es :: ds, rs, h => by
    have h' : (intL es).bind (fun ns => (rowsL ds).bind fun rs => some (ns :: rs)) = some rs := h
    cases hi : intL es with
    | none => rw [hi] at h'; cases h'
    | some ms =>
      rw [hi, Option.bind_some] at h'
      cases hj : rowsL ds with
      | none => rw [hj] at h'; cases h'
      | some qs =>
        rw [hj, Option.bind_some] at h'
        cases h'
        rw [intL_d hi, rowsL_d hj]
        rfl
section
variable {K : PySem.W.Frag} {H : Hp}
theorem dqa_perm {vs ys : List V} (p : ys.Perm vs) : ∀ {rs : List (List Int)}, DqA K H vs (rs.map mkT) → ∃ qs : List (List Int), qs.Perm rs ∧ DqA K H ys (qs.map mkT) := by
  induction p with
  | nil =>
    intro rs h
    cases rs with
    | nil => exact ⟨[], .refl _, .nil⟩
    | cons r rs => cases h
  | cons x p ih =>
    intro rs h
    cases rs with
    | nil => cases h
    | cons r rs =>
      cases h with
      | cons h1 h2 =>
        obtain ⟨qs, e1, e2⟩ := ih h2
        exact ⟨r :: qs, e1.cons r, .cons h1 e2⟩
  | swap x y l =>
    intro rs h
    cases rs with
    | nil => cases h
    | cons r rs =>
      cases h with
      | cons h1 h2 =>
        cases rs with
        | nil => cases h2
        | cons q rs =>
          cases h2 with
          | cons h2 h3 => exact ⟨q :: r :: rs, .swap r q rs, .cons h2 (.cons h1 h3)⟩
  | trans p1 p2 i1 i2 =>
    intro rs h
    obtain ⟨qs, e1, e2⟩ := i2 h
    obtain ⟨ps, e3, e4⟩ := i1 e2
    exact ⟨ps, e3.trans e1, e4⟩
theorem dq_row {O : Ow} {x : V} {r : List Int} (h : Dq K (mn H O) x (mkT r)) : TupI K H x r := by
  cases h with
  | @tup a xs _ h1 h2 =>
    have : xs = r.map V.int := by
      have := intL_v (ns := r) h2 (by
        clear h1 h2
        induction r with
        | nil => rfl
        | cons i r ih =>
          show (intL (r.map PyData.int)).bind _ = _
          rw [ih]
          rfl)
      exact this
    subst this
    exact ⟨a, rfl, sqT_up h1⟩
theorem dqa_pw {O : Ow} : ∀ {ys : List V} {qs : List (List Int)}, DqA K (mn H O) ys (qs.map mkT) → ys.Pairwise (fun x y => ∀ n m, TupI K H x n → TupI K H y m → TS.code 64 n ≤ TS.code 64 m) → qs.Pairwise leC
  | _, [], _, _ => .nil
  | _, q :: qs, h, hp => by
    cases h with
    | @cons v vs _ _ h1 h2 =>
      refine List.pairwise_cons.mpr ⟨fun r hr => ?_, dqa_pw h2 (List.pairwise_cons.mp hp).2⟩
      obtain ⟨i, hi⟩ := List.mem_iff_getElem?.mp hr
      obtain ⟨w, e1, e2⟩ := DqA.get (i := i) (d := mkT r) h2 (by rw [List.getElem?_map, hi]; rfl)
      exact (List.pairwise_cons.mp hp).1 w (List.mem_of_getElem? e1) q r (dq_row h1) (dq_row e2)
theorem dqa_mem {O : Ow} : ∀ {ys : List V} {qs : List (List Int)}, DqA K (mn H O) ys (qs.map mkT) → ∀ x ∈ ys, ∃ r ∈ qs, TupI K H x r
  | _, [], h, x, hx => by cases h; cases hx
  | _, q :: qs, h, x, hx => by
    cases h with
    | cons h1 h2 =>
      rcases List.mem_cons.mp hx with rfl | hx
      · exact ⟨q, List.mem_cons_self, dq_row h1⟩
      · obtain ⟨r, a, b⟩ := dqa_mem h2 x hx
        exact ⟨r, List.mem_cons_of_mem _ a, b⟩
end
section
variable {X : Cx} {e e2 e3 : Expr} {f : En → Option PyData} {fl : En → Option (List PyData)} {pos : Pos} {tg : Expr}
def rSortU2 (K : PySem.W.Frag) : List V → Hp → VK → Prop := fun vs H Q => ∃ d, 1 ≤ d ∧ rSortU K d 64 vs H Q
theorem cr_sortU2 : CallR X (.builtin "sorted") (rSortU2 X.K) := by
  intro pins s σ H vs us Q I r h
  obtain ⟨d, hd, h⟩ := h
  exact cr_sortT hd _ _ _ _ _ _ _ I r h
theorem en_srt {p : Pos} (hg : Gl X "sorted") (hm : X.mg "sorted" = none) (he : EL X e fl) (hs : starEach [e] X.env = (false, eval e X.env) :: starEach [] X.env := by rfl) : EN X (.Call (.Name "sorted" p) [e] [] pos) (sSrt fl) := by
  obtain ⟨t, h1, r1⟩ := he.ex
  refine .of ⟨_, pe_callB cr_sortU2 hg hm (by decide +kernel) (pa_cons h1 pa_nil hs) (he := hs), fun H0 O0 O H σ env R ds hd Q q => ?_⟩
  unfold sSrt at hd
  cases hx : fl env with
  | none => rw [hx] at hd; cases hd
  | some es =>
    rw [hx, Option.bind_some] at hd
    unfold srtL at hd
    cases hr : rowsL es with
    | none => rw [hr] at hd; cases hd
    | some rs =>
      rw [hr, Option.bind_some] at hd
      obtain ⟨hk, rfl⟩ := iteS hd
      have hes := rowsL_d hr
      subst hes
      simp only [rowsOk, Bool.and_eq_true, decide_eq_true_eq, List.all_eq_true] at hk
      refine r1 H0 O0 O H σ env R _ hx _ fun a vs H1 e1 p1 p2 => ?_
      have hb : ∀ r ∈ rs, r.length = (rs.headD []).length ∧ TS.Bd 64 r := fun r hr => ⟨((hk.2 r hr).1).2, fun i hi => (hk.2 r hr).2 i hi⟩
      refine ⟨max 1 (rs.headD []).length, by omega, a, vs, rfl, .inl (.inl p1), by rw [DqA.len p2, List.length_map]; exact hk.1, fun x hx => ?_, fun ys p hp hpw hn => ?_⟩
      · obtain ⟨r, hr, ht⟩ := dqa_mem p2 x hx
        have := (hk.2 r hr).1
        exact ⟨r, ht, by omega, (hb r hr).2⟩
      · obtain ⟨qs, e2, e3⟩ := dqa_perm hp p2
        have h4 := dqa_pw e3 hpw
        have h5 : qs = isrt rs := pw_uniq (e2.trans (isrt_perm rs).symm) h4 (isrt_pw rs) fun r hr => hb r (e2.mem_iff.mp hr)
        subst h5
        exact q p ys _ (e1.trans (Ex.new hn)) (fresh_back e1 hn) upd_same (nu_its e3 hn)
/-! ### range(a, b, c) -/
def rgC (i c : Int) (n : Nat) : List PyData := (List.range n).map fun k => .int (i + (k : Nat) * c)
def rg3 : List PyData → Option (List PyData)
  | [.int i, .int j, .int c] => if 0 < c ∧ c < 1073741824 ∧ Builtin.Range.small i j c = true then some (rgC i c (if i < j then (j - i - 1) / c + 1 else 0).toNat) else none
  | _ => none
theorem wk_rangeC {K : PySem.W.Frag} {F F1 : Hp} {lo c : Int} {n : Nat} : Wk K F F1 (rgC lo c n) (Itc lo c n) := by
  unfold Wk
  have hl : (rgC lo c n).length = n := by simp [rgC]
  rw [hl]
  refine Walk.mono walk_rangeC (fun _ _ => trivial) fun i H2 x H3 hi e y => ?_
  obtain ⟨rfl, rfl⟩ := y
  exact ⟨.int (lo + (i : Nat) * c), by simp [rgC, hi], Ex.refl _, fun O2 _ _ => .int _⟩
theorem di_rg3 {p : Pos} (hg : Gl X "range") (hm : X.mg "range" = none) (ha : DA X [e, e2, e3] fl) (hs : starEach [e, e2, e3] X.env = (false, eval e X.env) :: starEach [e2, e3] X.env := by rfl) (hpl : (backTo pos (starEach [e2, e3] X.env)).any (·.1) = false := by rfl) :
    DI X tg (.Call (.Name "range" p) [e, e2, e3] [] pos) (sArg rg3 fl) := by
  obtain ⟨t, ht, r⟩ := ha.ex
  refine .of ⟨_, pi_range3 hg hm ht hs hpl, fun H0 O0 O H σ env R ds hd Q q => ?_⟩
  unfold sArg at hd
  cases hf : fl env with
  | none => rw [hf] at hd; cases hd
  | some xs =>
    rw [hf] at hd
    refine r H0 O0 O H σ env R xs hf _ fun vs H' e hq => ?_
    match xs, hq, hd with
    | [.int i, .int j, .int c], .cons (.int _) (.cons (.int _) (.cons (.int _) .nil)), hd =>
      obtain ⟨⟨h1, h2, h3⟩, rfl⟩ := iteS hd
      refine ⟨i, j, c, _, rfl, ⟨by omega, by omega, h3, ?_⟩, q _ H' e wk_rangeC⟩
      unfold Builtin.Range.rangeSize
      rw [if_pos h1]
      split
      · have := Int.ediv_nonneg (a := j - i - 1) (b := c) (by omega) (by omega)
        omega
      · rfl
end
end Dz

/-! DzB: xs[::-1] of lists and tuples. -/
namespace Dz
open PySem PySem.Spec PyProof.Rows L2 Evl HT
section
variable {prog : Program} {w : World} {A : Around} {E : Value → Shared → Prop} {s : Shared}
theorem places_rev (n : Nat) : Builtin.Slice.slicePlaces ((n : Int) - 1) (-1) (-1) = n := by
  unfold Builtin.Slice.slicePlaces
  have h1 : ¬ ((-1 : Int) > 0) := by omega
  have h2 : (-(-1) : Int) = 1 := by omega
  simp only [h1, if_false, h2, Int.ediv_one]
  split <;> omega
theorem fm_map {α β : Type} {f : α → Option β} {g : α → β} : ∀ {l : List α}, (∀ k ∈ l, f k = some (g k)) → l.filterMap f = l.map g
  | [], _ => rfl
  | x :: l, h => by
    rw [List.filterMap_cons, h x List.mem_cons_self, List.map_cons, fm_map fun k hk => h k (List.mem_cons_of_mem _ hk)]
theorem pick_rev (xs : Array Value) : ((List.range xs.size).filterMap fun (k : Nat) => xs[(((xs.size : Int) - 1) + (k : Int) * (-1)).toNat]?).toArray = xs.toList.reverse.toArray := by
  congr 1
  have e : ∀ k ∈ List.range xs.size, xs[(((xs.size : Int) - 1) + (k : Int) * (-1)).toNat]? = some (xs.toList.reverse.getD k .none) := by
    intro k hk
    have hk := List.mem_range.mp hk
    have : (((xs.size : Int) - 1) + (k : Int) * (-1)).toNat = xs.size - 1 - k := by omega
    rw [this]
    rw [List.getD_eq_getElem?_getD, List.getElem?_reverse (by simpa using hk)]
    rw [Array.length_toList, Array.getElem?_toList, Array.getElem?_eq_getElem (by omega : xs.size - 1 - k < xs.size)]
    rfl
  rw [fm_map e]
  apply List.ext_getElem?
  intro k
  rw [List.getElem?_map]
  by_cases hk : k < xs.size
  · rw [List.getElem?_range hk]
    show some (xs.toList.reverse.getD k .none) = _
    rw [List.getD_eq_getElem?_getD, List.getElem?_eq_getElem (by simpa using hk)]
    rfl
  · rw [List.getElem?_eq_none (by simpa using hk), List.getElem?_eq_none (by simpa using hk)]
    rfl
theorem sliceApplied_rev {sl : Addr} {vl vu vk : Value} {n : Nat} {Q : Int × Int × Nat → Shared → Prop} (hs : s.heap.IsSliceOf sl vl vu vk) (pl : IsPart vl none) (pu : IsPart vu none) (pk : IsPart vk (some (-1)))
    (h : Q ((n : Int) - 1, -1, n) s) : wpAny (model prog w) A (Builtin.Slice.sliceApplied (.ref sl) (pure (n : Int))) Q E s := by
  obtain ⟨os, hos, hcs, hds⟩ := id hs
  unfold Builtin.Slice.sliceApplied Builtin.Slice.sliceFields
  refine wpAny_bind (wpAny_bind (wpAny_field hos hds (x := vl) rfl (wpAny_bind (wpAny_field hos hds (x := vu) rfl (wpAny_bind (wpAny_field hos hds (x := vk) rfl (wpAny_pure ?_)))))))
  refine wpAny_bind (slicePart_ pk ?_)
  show wpAny _ _ (if ((-1 : Int) == 0) = true then _ else _) _ _ s
  rw [if_neg (by decide)]
  refine wpAny_bind (slicePart_ pl (wpAny_bind (slicePart_ pu (wpAny_bind (wpAny_pure ?_)))))
  show wpAny _ _ (pure ((n : Int) - 1, (-1 : Int), Builtin.Slice.slicePlaces ((n : Int) - 1) (-1) (-1))) _ _ s
  rw [places_rev]
  exact wpAny_pure h
theorem getItem_tuple_rev {t sl : Addr} {items : Array Value} {vl vu vk : Value} {Q : Value → Shared → Prop} (ht : IsTup s.heap t items) (hs : s.heap.IsSliceOf sl vl vu vk) (pl : IsPart vl none) (pu : IsPart vu none) (pk : IsPart vk (some (-1)))
    (h : Q (.ref s.heap.objs.size) { s with heap := s.heap.push { cls := .type "tuple", data := .seq items.toList.reverse.toArray } })
    (hsz : items.size ≤ sizeLine) : wpAny (model prog w) A (getItem (.ref t) (.ref sl)) Q E s := by
  have htake : sizeOk (.seq items.toList.reverse.toArray) := by
    show items.toList.reverse.toArray.size ≤ sizeLine
    rw [List.size_toArray, List.length_reverse, Array.length_toList]
    exact hsz
  obtain ⟨os, hos, hcs, hds⟩ := id hs
  have hTs : s.TypeIs (.ref sl) "slice" := ⟨os, hos, hcs⟩
  unfold getItem
  try with_reducible refine wpAny_holding ?_
  first | refine wpAny_bind (wpAny_pure ?_) | skip
  refine wpAny_bind (wpAny_sequenceKey ht.typeIs (by decide) ?_)
  refine wpAny_bind (wpAny_callSpecial?_slot (name := Str.ofString "__getitem__") ht.typeIs PyProof.Rows.slot_tuple_getitem
    (wpAny_call_entry PyProof.Rows.slot_tuple_getitem ht.typeIs entry_tuple_getitem ?_ (args_tuple_getitem _ _)))
  show wpAny _ _ (Builtin.Tuple.tupleItemsOf (.ref t) >>= _) _ _ s
  refine wpAny_bind (tupleItemsOf_ ht ?_)
  refine wpAny_bind (wpAny_typeOf hTs ?_)
  rw [if_pos (by decide)]
  refine wpAny_bind (sliceApplied_rev hs pl pu pk ?_)
  have hno : ¬ ((((items.size : Int) - 1) == 0 && (-1 : Int) == 1 && items.size == items.size) = true) := by
    intro q
    rw [Bool.and_eq_true, Bool.and_eq_true] at q
    exact absurd q.1.2 (by decide)
  show wpAny _ _ (if (((items.size : Int) - 1) == 0 && (-1 : Int) == 1 && items.size == items.size) = true then _ else _) _ _ s
  rw [if_neg hno, pick_rev]
  first
    | exact wpAny_bind (m := Builtin.Tuple.tupleExact _) (wpAny_newObj_type (wpAny_pure ⟨_, rfl, wpAny_pure h⟩) htake)
    | exact wpAny_bind (m := Builtin.Tuple.tupleExact _) (wpAny_newObj_type (wpAny_bind (wpAny_pure (wpAny_pure ⟨_, rfl, wpAny_pure h⟩))) htake)
    | exact wpAny_bind (wpAny_bind (m := Builtin.Tuple.tupleExact _) (wpAny_newObj_type (wpAny_pure (wpAny_pure ⟨_, rfl, wpAny_pure h⟩)) htake))
    | exact wpAny_bind (wpAny_bind (m := Builtin.Tuple.tupleExact _) (wpAny_newObj_type (wpAny_pure ⟨_, rfl, wpAny_pure h⟩) htake))
end
section
variable {X : Cx} {e : Expr} {f : En → Option PyData} {pos : Pos}
def tRevA (K : PySem.W.Frag) (te : TE) : TE := fun σ H Q => te σ H fun x H1 => ∃ a xs, x = .ref a ∧ ((SqL K H1 a xs ∧ ∀ p, H1 p = none → Q (.ref p) (upd H1 p (.lst xs.reverse))) ∨ (SqT K H1 a xs ∧ ∀ p, H1 p = none → Q (.ref p) (upd H1 p (.tup xs.reverse))))
theorem pe_revA {te : TE} {k : Nat} {p1 p2 p3 : Pos} (he : PE X e te) : PE X (.Subscript e (.Slice none none (some (.UnaryOp .USub (.Constant (.int 1) k p1) p2)) p3) pos) (tRevA X.K te) := by
  refine ⟨fun pins s σ H Q I h => ?_⟩
  refine Subscript_ (thn (he.run pins s σ H _ I h) fun v s1 ⟨x, H1, I1, r1, q1⟩ => ?_)
  obtain ⟨a, xs, ex, q⟩ := q1
  subst ex
  cases r1
  have hst : PO X (some (.UnaryOp .USub (.Constant (.int 1) k p1) p2)) (tPart (tUn (rU fun i => .int (-i)) (tC (.int 1)))) := po_some (pe_un un_neg pe_int)
  refine wpAny_Slice (thn (po_none.run pins s1 σ H1 (fun o H2 => o = none ∧ H2 = H1) I1 ⟨rfl, rfl⟩) fun vl s2 ⟨l, H2, I2, pl, el, e2⟩ => ?_)
  subst el e2
  refine thn (po_none.run pins s2 σ H2 (fun o H3 => o = none ∧ H3 = H2) I2 ⟨rfl, rfl⟩) fun vu s3 ⟨u, H3, I3, pu, eu, e3⟩ => ?_
  subst eu e3
  refine thn (hst.run pins s3 σ H3 (fun o H4 => o = some (-1) ∧ H4 = H3) I3 ⟨1, rfl, -1, rfl, rfl, rfl⟩) fun vs s4 ⟨o, H4, I4, ps, eo, e4⟩ => ?_
  subst eo e4
  have I5 : Inv X pins σ H4 { s4 with heap := s4.heap.push { cls := .type "slice", data := .fields #[vl, vu, vs] } } := I4.kept (t' := s4.toks) fun b ob q => Heap.get?_push_of_some _ q
  show wpAny (model X.prog X.w) X.A (subscriptTail e (.Slice none none (some (.UnaryOp .USub (.Constant (.int 1) k p1) p2)) p3) (.ref a) (.ref s4.heap.objs.size)) (EP X pins σ Q) X.xe { s4 with heap := s4.heap.push { cls := .type "slice", data := .fields #[vl, vu, vs] } }
  rcases q with ⟨hx, q⟩ | ⟨hx, q⟩
  · obtain ⟨its, r, ht, hz⟩ := I5.list hx
    have hlen := r.length
    refine tail_any (ops := [.ref a, .ref s4.heap.objs.size]) ht.isList.typeIs (PySem.slot_list_getitem.lookup) ?_ (by with_unfolding_all rfl)
    refine wpAny_getItem_list_slice ht.isList (Heap.IsSliceOf.new _ vl vu vs) pl pu ps (by decide) ?_ (by rw [List.size_toArray]; omega)
    rw [PySem.W.krv_pick]
    refine ⟨.ref _, _, I5.laid (t' := s4.toks) (o := .lst xs.reverse) (fun b ob q => Heap.get?_push_of_some _ q) (Nat.le_refl _) ?_, rfl, q _ (I5.hok.fresh (Nat.le_refl _))⟩
    exact ⟨by rw [List.length_reverse]; exact hz, _, 0, r.reverse, Heap.get?_push_size _ rfl⟩
  · obtain ⟨its, r, ht, hz⟩ := I5.tuple hx
    have hlen := r.length
    refine tail_any (ops := [.ref a, .ref s4.heap.objs.size]) ht.typeIs (PyProof.Rows.slot_tuple_getitem.lookup) ?_ (by with_unfolding_all rfl)
    refine getItem_tuple_rev ht (Heap.IsSliceOf.new _ vl vu vs) pl pu ps ?_ (by rw [List.size_toArray]; omega)
    refine ⟨.ref _, _, I5.laid (t' := s4.toks) (o := .tup xs.reverse) (fun b ob q => Heap.get?_push_of_some _ q) (Nat.le_refl _) ?_, rfl, q _ (I5.hok.fresh (Nat.le_refl _))⟩
    exact ⟨by rw [List.length_reverse]; exact hz, _, r.reverse, IsTup.new _ _⟩
def revA : PyData → Option PyData
  | .list ds => some (.list ds.reverse)
  | .tuple ds => some (.tuple ds.reverse)
  | _ => none
theorem ed_rev {k : Nat} {p1 p2 p3 : Pos} (h : ED X e f) : ED X (.Subscript e (.Slice none none (some (.UnaryOp .USub (.Constant (.int 1) k p1) p2)) p3) pos) (s1 revA f) := by
  obtain ⟨t, h1, r1⟩ := h.ex
  refine .of ⟨_, pe_revA h1, fun H0 O0 O H σ env R d hd Q q => ?_⟩
  unfold s1 at hd
  cases hx : f env with
  | none => rw [hx] at hd; cases hd
  | some dx =>
    rw [hx, Option.bind_some] at hd
    cases dx with
    | list es =>
      cases hd
      refine r1 H0 O0 O H σ env R _ hx _ fun v H1 e1 q1 => ?_
      cases q1 with
      | @lst a vs _ g1 g2 =>
        exact ⟨a, vs, rfl, .inl ⟨.inl (.inl (mn_some g1).1), fun l hl => q _ _ (e1.trans (Ex.new hl)) (nu_lst (R.up e1).tr (DqA.rev g2) hl)⟩⟩
    | tuple es =>
      cases hd
      refine r1 H0 O0 O H σ env R _ hx _ fun v H1 e1 q1 => ?_
      cases q1 with
      | @tup a vs _ g1 g2 =>
        exact ⟨a, vs, rfl, .inr ⟨sqT_up g1, fun l hl => q _ _ (e1.trans (Ex.new hl)) (nu_tup (R.up e1).tr (DqA.rev g2) hl)⟩⟩
    | _ => cases hd
end
end Dz

/-! DzC: < and > of data that are alike (tables). -/
namespace Dz
open PySem PySem.Spec PyProof.Rows L2 Evl
/-- can be compared here -/
def cmpOk (d e : PyData) : Bool := SeqAt.shaped d && SeqAt.shaped e && PySem.W.alike d e && !isNoneD d
theorem cmpOk_ne {d e : PyData} (h : cmpOk d e = true) : SeqAt.shaped d = true ∧ SeqAt.shaped e = true ∧ PySem.W.alike d e = true ∧ d ≠ .none := by
  unfold cmpOk at h
  simp only [Bool.and_eq_true] at h
  exact ⟨h.1.1.1, h.1.1.2, h.1.2, fun z => by subst z; simp [isNoneD] at h⟩
def rCmpA (K : PySem.W.Frag) (f : PyData → PyData → Bool) : R2 := fun x y H Q => ∃ d e, Dp K H x d ∧ Dp K H y e ∧ cmpOk d e = true ∧ Q (.bl (f d e)) H
theorem op_ltA {X : Cx} (hu : X.A.units + 64 < cLine) : OpR X (compareOp .Lt) (rCmpA X.K PySem.W.dataLt) := by
  intro pins s σ H x y v u Q I rx ry h
  obtain ⟨d, e, hd, he, c, q⟩ := h
  obtain ⟨c1, c2, c3, c4⟩ := cmpOk_ne c
  obtain ⟨as, r1⟩ := Dp.reads I d x v hd rx
  obtain ⟨bs, r2⟩ := Dp.reads I e y u he ry
  exact PySem.W.lt_data r1 r2 c3 c4 (SeqAt.room_of_shaped c1 hu) ⟨.bl _, H, I, rfl, q⟩
def ltA (d e : PyData) : Option PyData := if cmpOk d e = true then some (.bool (PySem.W.dataLt d e)) else none
theorem d_ltA {K : PySem.W.Frag} : R2D K (rCmpA K PySem.W.dataLt) ltA := fun H O x y dx dy dz tr hx hy h Q q => by
  obtain ⟨c, rfl⟩ := iteS h
  have c' := cmpOk_ne c
  exact ⟨dx, dy, dq_full hx c'.1, dq_full hy c'.2.1, c, q _ H (Ex.refl H) (.bl _)⟩
end Dz

/-! DzD: zip of a list and a tuple; zip's next step over any two that can be walked. -/
namespace Dz
open PySem PySem.Spec PyProof.Rows L2 Evl RZ
abbrev nxo (a : Addr) : Sem Value := Builtin.SmallTypes.nextOf (.ref a)
abbrev StopX (h : Heap) (e : Addr) : Prop := ∃ o, h.get? e = some o ∧ o.cls = .type "StopIteration"
abbrev Kp (i l : Addr) (h h' : Heap) : Prop := ∀ c o, c = i ∨ c = l → h.get? c = some o → h'.get? c = some o
/-- what is walked stands at i, over what stands at l; u is what comes next -/
structure Nxt (prog : Program) (w : World) (i l : Addr) (P P' : Heap → Prop) (u : Option Value) : Prop where
  st : ∀ {h h'}, P h → Kp i l h h' → P h'
  st' : ∀ {h h'}, P' h → Kp i l h h' → P' h'
  lt : ∀ {h}, P h → i < h.objs.size
  lt' : ∀ {h}, P' h → i < h.objs.size
  item : ∀ {x : Value}, u = some x → ∀ {A : Around} {E : Value → Shared → Prop} {s : Shared} {Q : Value → Shared → Prop}, P s.heap → (∀ g, P' g → Heap.SameBut i s.heap g → Q x { s with heap := g }) → wpAny (model prog w) A (nxo i) Q E s
  stop : u = none → ∀ {A : Around} {E : Value → Shared → Prop} {s : Shared} {Q : Value → Shared → Prop}, A.handled = none → P s.heap → (∀ g e, Heap.ExtBut i s.heap g → StopX g e → E (.ref e) { s with heap := g }) → wpAny (model prog w) A (nxo i) Q E s
theorem nxt_list {prog : Program} {w : World} {i l : Addr} {xs : Array Value} {k : Nat} : Nxt prog w i l (fun h => h.IsListIter i l k ∧ h.IsList l xs) (fun h => h.IsListIter i l (k + 1)) xs[k]? where
  st := fun p q => ⟨p.1.at fun o e => q _ o (.inl rfl) e, p.2.at fun o e => q _ o (.inr rfl) e⟩
  st' := fun p q => p.at fun o e => q _ o (.inl rfl) e
  lt := fun ⟨⟨_, e, _⟩, _⟩ => Heap.lt_size e
  lt' := fun ⟨_, e, _⟩ => Heap.lt_size e
  item := fun hx _ _ _ _ p q => wpAny_nextOf_list_item p.1 p.2 hx q
  stop := fun hx _ _ _ _ hh p q => wpAny_nextOf_list_end hh p.1 p.2 hx q
theorem nxt_tup {prog : Program} {w : World} {i l : Addr} {xs : Array Value} {k : Nat} : Nxt prog w i l (fun h => h.IsTupleIter i l k ∧ h.IsTuple l xs) (fun h => h.IsTupleIter i l (k + 1)) xs[k]? where
  st := fun p q => ⟨p.1.at fun o e => q _ o (.inl rfl) e, let ⟨o, e, r⟩ := p.2; ⟨o, q _ o (.inr rfl) e, r⟩⟩
  st' := fun p q => p.at fun o e => q _ o (.inl rfl) e
  lt := fun ⟨⟨_, e, _⟩, _⟩ => Heap.lt_size e
  lt' := fun ⟨_, e, _⟩ => Heap.lt_size e
  item := fun hx _ _ _ _ p q => nextOf_tuple_item p.1 p.2 hx q
  stop := fun hx _ _ _ _ hh p q => nextOf_tuple_end hh p.1 p.2 hx q
section
variable {prog : Program} {w : World} {A : Around} {E : Value → Shared → Prop} {s : Shared}
theorem kp_but {i l b : Addr} {h h' : Heap} (e : Heap.SameBut b h h') (h1 : i ≠ b) (h2 : l ≠ b) : Kp i l h h' := fun c o hc x => by
  rcases hc with rfl | rfl
  · exact e.extBut _ _ h1 x
  · exact e.extBut _ _ h2 x
theorem zg_item {Z I0 O0 i1 i2 l1 l2 : Addr} {P1 P1' P2 P2' : Heap → Prop} {x y a b : Value} {Q : Value → Shared → Prop} (D : ZipApart Z I0 O0 i1 i2 l1 l2)
    (gz : IsZip s.heap Z I0 O0 .none) (gI : IsPair s.heap I0 (.ref i1) (.ref i2)) (gO : IsPair s.heap O0 a b) (N1 : Nxt prog w i1 l1 P1 P1' (some x)) (N2 : Nxt prog w i2 l2 P2 P2' (some y)) (p1 : P1 s.heap) (p2 : P2 s.heap)
    (gQ : ∀ g, IsZip g Z I0 O0 (rawInt s.heap.objs.size) → IsPair g O0 x y → P1' g → P2' g → IsPair g s.heap.objs.size x y → g.objs.size = s.heap.objs.size + 1 → (∀ c o, c ≠ Z → c ≠ O0 → c ≠ i1 → c ≠ i2 → s.heap.get? c = some o → g.get? c = some o) → Q (.ref s.heap.objs.size) { s with heap := g })
    (t1 : ∀ {g g' : Heap}, P1' g → (∀ o, g.get? i1 = some o → g'.get? i1 = some o) → P1' g') (t2 : ∀ {g g' : Heap}, P2' g → (∀ o, g.get? i2 = some o → g'.get? i2 = some o) → P2' g') :
    wpAny (model prog w) A (Builtin.«zip.__next__» ⟨[.ref Z], []⟩) (fun fin s' => ∃ v, fin = .done (.ret v) ∧ Q v s') E s := by
  show wpAny _ _ (field (.ref Z) 2 >>= _) _ _ _
  refine wpAny_bind (wpAny_field gz rfl (x := .bool false) rfl ?_)
  show wpAny _ _ (field (.ref Z) 3 >>= _) _ _ _
  refine wpAny_bind (wpAny_field gz rfl (x := .ref I0) rfl ?_)
  refine wpAny_bind (wpAny_seqItems gI rfl ?_)
  show wpAny _ _ (Builtin.SmallTypes.ownedTupleIsFree (.ref Z) >>= _) _ _ _
  refine wpAny_bind ?_
  unfold Builtin.SmallTypes.ownedTupleIsFree
  refine wpAny_bind (wpAny_field gz rfl (x := .none) rfl (wpAny_pure ?_))
  simp only [if_true]
  refine wpAny_bind (wpAny_rule ?_)
  refine wpAny_bind (wpAny_field gz rfl (x := .ref O0) rfl ?_)
  refine wpAny_bind (wpAny_setField_rec gz (by simp) fun H1 z1 e1 => ?_)
  replace z1 : IsZip H1 Z I0 O0 .ellipsis := z1
  refine wpAny_bind ?_
  simp only [List.zipIdx_cons, List.zipIdx_nil, List.forIn_cons, List.forIn_nil]
  refine wpAny_bind (wpAny_bind (wpAny_onRaise ?_)); show wpAny _ _ (nxo i1 >>= _) _ _ _
  refine wpAny_bind (N1.item rfl (N1.st p1 (kp_but e1 D.i1z D.l1z)) fun H2 q1 e2 => wpAny_pure ?_)
  have o2 : IsPair H2 O0 a b := e2.extBut _ _ D.TOi1 (e1.extBut _ _ D.TOz gO)
  refine wpAny_bind (wpAny_seqItems o2 rfl ?_)
  refine wpAny_bind (wpAny_updateSeq_pair o2 fun H3 o3 e3 => ?_)
  replace o3 : IsPair H3 O0 x b := o3
  refine wpAny_bind (wpAny_letGo (wpAny_pure ?_)); refine wpAny_bind (wpAny_bind (wpAny_onRaise ?_))
  show wpAny _ _ (nxo i2 >>= _) _ _ _
  refine wpAny_bind (N2.item rfl (N2.st (N2.st (N2.st p2 (kp_but e1 D.i2z D.l2z)) (kp_but e2 D.i12.symm D.l2i1)) (kp_but e3 D.TOi2.symm D.l2TO)) fun H4 q2 e4 => wpAny_pure ?_)
  have o4 : IsPair H4 O0 x b := e4.extBut _ _ D.TOi2 o3
  refine wpAny_bind (wpAny_seqItems o4 rfl ?_)
  refine wpAny_bind (wpAny_updateSeq_pair o4 fun H5 o5 e5 => ?_)
  replace o5 : IsPair H5 O0 x y := o5
  refine wpAny_bind (wpAny_letGo (wpAny_pure (wpAny_pure ?_))); refine wpAny_bind (wpAny_seqItems o5 rfl ?_)
  refine wpAny_bind (wpAny_newTuple ?_)
  have sz : H5.objs.size = s.heap.objs.size := by rw [e5.1, e4.1, e3.1, e2.1, e1.1]
  have z5 : IsZip H5 Z I0 O0 .ellipsis := e5.extBut _ _ D.TOz.symm (e4.extBut _ _ D.i2z.symm (e3.extBut _ _ D.TOz.symm (e2.extBut _ _ D.i1z.symm z1)))
  have k5 : ∀ c o, c ≠ Z → c ≠ O0 → c ≠ i1 → c ≠ i2 → s.heap.get? c = some o → H5.get? c = some o := fun c o c1 c2 c3 c4 e => e5.extBut _ _ c2 (e4.extBut _ _ c4 (e3.extBut _ _ c2 (e2.extBut _ _ c3 (e1.extBut _ _ c1 e))))
  have q15 : P1' H5 := t1 q1 fun o e => e5.extBut _ _ D.TOi1.symm (e4.extBut _ _ D.i12 (e3.extBut _ _ D.TOi1.symm e))
  have q25 : P2' H5 := t2 q2 fun o e => e5.extBut _ _ D.TOi2.symm e
  have zl : Z < H5.objs.size := Heap.lt_size z5
  show wpAny _ _ (Builtin.SmallTypes.ownedTupleHandOut (.ref Z) (.ref H5.objs.size) >>= _) _ _ _
  refine wpAny_bind ?_
  unfold Builtin.SmallTypes.ownedTupleHandOut
  have z6 : IsZip (H5.push { cls := .type "tuple", data := .seq #[x, y] }) Z I0 O0 .ellipsis := Heap.get?_push_of_some _ z5
  refine wpAny_bind (wpAny_setField_rec z6 (by simp) fun H7 z7 e7 => ?_)
  replace z7 : IsZip H7 Z I0 O0 (rawInt H5.objs.size) := z7
  refine wpAny_setField_rec z7 (by simp) fun H8 z8 e8 => ?_
  replace z8 : IsZip H8 Z I0 O0 (rawInt H5.objs.size) := z8
  have up : ∀ c o, c ≠ Z → H5.get? c = some o → H8.get? c = some o := fun c o c1 e => e8.extBut _ _ c1 (e7.extBut _ _ c1 (Heap.get?_push_of_some _ e))
  have t8 : IsPair H8 H5.objs.size x y := e8.extBut _ _ (Nat.ne_of_gt zl) (e7.extBut _ _ (Nat.ne_of_gt zl) (Heap.get?_push_size _ rfl))
  have n8 : H8.objs.size = H5.objs.size + 1 := by rw [e8.1, e7.1, Heap.size_push]
  rw [sz] at z8 t8 n8
  refine wpAny_pure ⟨_, rfl, ?_⟩
  show Q (.ref H5.objs.size) _
  rw [sz]
  exact gQ H8 z8 (up _ _ D.TOz o5) (t1 q15 fun o e => up _ o D.i1z e) (t2 q25 fun o e => up _ o D.i2z e) t8 n8 fun c o c1 c2 c3 c4 e => up c o c1 (k5 c o c1 c2 c3 c4 e)
theorem zg_end {Z I0 O0 i1 i2 l1 l2 : Addr} {P1 P1' P2 P2' : Heap → Prop} {a b : Value} {u v : Option Value} {Q : Fin → Shared → Prop} (hh : A.handled = none) (D : ZipApart Z I0 O0 i1 i2 l1 l2)
    (gz : IsZip s.heap Z I0 O0 .none) (gI : IsPair s.heap I0 (.ref i1) (.ref i2)) (gO : IsPair s.heap O0 a b) (N1 : Nxt prog w i1 l1 P1 P1' u) (N2 : Nxt prog w i2 l2 P2 P2' v) (p1 : P1 s.heap) (p2 : P2 s.heap) (ge : u = none ∨ v = none)
    (gE : ∀ g e, (∀ c o, c ≠ Z → c ≠ O0 → c ≠ i1 → c ≠ i2 → s.heap.get? c = some o → g.get? c = some o) → StopX g e → E (.ref e) { s with heap := g }) :
    wpAny (model prog w) A (Builtin.«zip.__next__» ⟨[.ref Z], []⟩) Q E s := by
  show wpAny _ _ (field (.ref Z) 2 >>= _) _ _ _
  refine wpAny_bind (wpAny_field gz rfl (x := .bool false) rfl ?_)
  show wpAny _ _ (field (.ref Z) 3 >>= _) _ _ _
  refine wpAny_bind (wpAny_field gz rfl (x := .ref I0) rfl ?_)
  refine wpAny_bind (wpAny_seqItems gI rfl ?_)
  show wpAny _ _ (Builtin.SmallTypes.ownedTupleIsFree (.ref Z) >>= _) _ _ _
  refine wpAny_bind ?_
  unfold Builtin.SmallTypes.ownedTupleIsFree
  refine wpAny_bind (wpAny_field gz rfl (x := .none) rfl (wpAny_pure ?_))
  simp only [if_true]
  refine wpAny_bind (wpAny_rule ?_)
  refine wpAny_bind (wpAny_field gz rfl (x := .ref O0) rfl ?_)
  refine wpAny_bind (wpAny_setField_rec gz (by simp) fun H1 z1 e1 => ?_)
  replace z1 : IsZip H1 Z I0 O0 .ellipsis := z1
  refine wpAny_bind ?_
  simp only [List.zipIdx_cons, List.zipIdx_nil, List.forIn_cons, List.forIn_nil]
  refine wpAny_bind (wpAny_bind (wpAny_onRaise ?_)); show wpAny _ _ (nxo i1 >>= _) _ _ _
  cases u with
  | none =>
    refine wpAny_bind (N1.stop rfl hh (N1.st p1 (kp_but e1 D.i1z D.l1z)) fun H2 e e2 he => ?_)
    obtain ⟨oe, ho, hc⟩ := he
    have z2 : IsZip H2 Z I0 O0 .ellipsis := e2 _ _ D.i1z.symm z1
    have ez : e ≠ Z := fun q => by subst q; rw [z2] at ho; cases ho; simp at hc
    refine wpAny_setField_rec z2 (by simp) fun H3 _ e3 => gE H3 e (fun c o c1 _ c3 _ q => e3.extBut _ _ c1 (e2 _ _ c3 (e1.extBut _ _ c1 q))) ⟨oe, e3.extBut _ _ ez ho, hc⟩
  | some x =>
    have hv : v = none := by rcases ge with q | q; cases q; exact q
    subst hv
    refine wpAny_bind (N1.item rfl (N1.st p1 (kp_but e1 D.i1z D.l1z)) fun H2 q1 e2 => wpAny_pure ?_)
    have o2 : IsPair H2 O0 a b := e2.extBut _ _ D.TOi1 (e1.extBut _ _ D.TOz gO)
    refine wpAny_bind (wpAny_seqItems o2 rfl ?_)
    refine wpAny_bind (wpAny_updateSeq_pair o2 fun H3 o3 e3 => ?_)
    refine wpAny_bind (wpAny_letGo (wpAny_pure ?_)); refine wpAny_bind (wpAny_bind (wpAny_onRaise ?_))
    show wpAny _ _ (nxo i2 >>= _) _ _ _
    refine wpAny_bind (N2.stop rfl hh (N2.st (N2.st (N2.st p2 (kp_but e1 D.i2z D.l2z)) (kp_but e2 D.i12.symm D.l2i1)) (kp_but e3 D.TOi2.symm D.l2TO)) fun H4 e e4 he => ?_)
    obtain ⟨oe, ho, hc⟩ := he
    have z4 : IsZip H4 Z I0 O0 .ellipsis := e4 _ _ D.i2z.symm (e3.extBut _ _ D.TOz.symm (e2.extBut _ _ D.i1z.symm z1))
    have ez : e ≠ Z := fun q => by subst q; rw [z4] at ho; cases ho; simp at hc
    refine wpAny_setField_rec z4 (by simp) fun H5 _ e5 => gE H5 e (fun c o c1 c2 c3 c4 q => e5.extBut _ _ c1 (e4 _ _ c4 (e3.extBut _ _ c2 (e2.extBut _ _ c3 (e1.extBut _ _ c1 q))))) ⟨oe, e5.extBut _ _ ez ho, hc⟩
theorem zg_pitem {Z I0 O0 i1 i2 l1 l2 : Addr} {P1 P1' P2 P2' : Heap → Prop} {x y a b : Value} {Q : Option Value → Shared → Prop} (D : ZipApart Z I0 O0 i1 i2 l1 l2)
    (gz : IsZip s.heap Z I0 O0 .none) (gI : IsPair s.heap I0 (.ref i1) (.ref i2)) (gO : IsPair s.heap O0 a b) (N1 : Nxt prog w i1 l1 P1 P1' (some x)) (N2 : Nxt prog w i2 l2 P2 P2' (some y)) (p1 : P1 s.heap) (p2 : P2 s.heap)
    (t1 : ∀ {g g' : Heap}, P1' g → (∀ o, g.get? i1 = some o → g'.get? i1 = some o) → P1' g') (t2 : ∀ {g g' : Heap}, P2' g → (∀ o, g.get? i2 = some o → g'.get? i2 = some o) → P2' g')
    (gQ : ∀ g, IsZip g Z I0 O0 (rawInt s.heap.objs.size) → IsPair g O0 x y → P1' g → P2' g → IsPair g s.heap.objs.size x y → g.objs.size = s.heap.objs.size + 1 → (∀ c o, c ≠ Z → c ≠ O0 → c ≠ i1 → c ≠ i2 → s.heap.get? c = some o → g.get? c = some o) → Q (some (.ref s.heap.objs.size)) { s with heap := g }) :
    wpAny (model prog w) A (pyNext (.ref Z)) Q E s := by
  have hT : s.TypeIs (.ref Z) "zip" := ⟨_, gz, rfl⟩
  unfold pyNext
  refine wpAny_bind (wpAny_attempt (wpAny_callSpecial?_slot (name := Str.ofString "__next__") hT F.slot_zip_next (wpAny_call_entry F.slot_zip_next hT F.entry_zip_next ?_ (F.args_zip_next_1 _))))
  exact zg_item D gz gI gO N1 N2 p1 p2 (fun g a1 a2 a3 a4 a5 a6 a7 => wpAny_pure (gQ g a1 a2 a3 a4 a5 a6 a7)) t1 t2
theorem zg_pend {Z I0 O0 i1 i2 l1 l2 : Addr} {P1 P1' P2 P2' : Heap → Prop} {a b : Value} {u v : Option Value} {Q : Option Value → Shared → Prop} (hh : A.handled = none) (D : ZipApart Z I0 O0 i1 i2 l1 l2)
    (gz : IsZip s.heap Z I0 O0 .none) (gI : IsPair s.heap I0 (.ref i1) (.ref i2)) (gO : IsPair s.heap O0 a b) (N1 : Nxt prog w i1 l1 P1 P1' u) (N2 : Nxt prog w i2 l2 P2 P2' v) (p1 : P1 s.heap) (p2 : P2 s.heap) (ge : u = none ∨ v = none)
    (gQ : ∀ g, (∀ c o, c ≠ Z → c ≠ O0 → c ≠ i1 → c ≠ i2 → s.heap.get? c = some o → g.get? c = some o) → Q none { s with heap := g }) : wpAny (model prog w) A (pyNext (.ref Z)) Q E s := by
  have hT : s.TypeIs (.ref Z) "zip" := ⟨_, gz, rfl⟩
  unfold pyNext
  refine wpAny_bind (wpAny_attempt (wpAny_callSpecial?_slot (name := Str.ofString "__next__") hT F.slot_zip_next (wpAny_call_entry F.slot_zip_next hT F.entry_zip_next (zg_end hh D gz gI gO N1 N2 p1 p2 ge fun g e hk he => ?_) (F.args_zip_next_1 _))))
  obtain ⟨o, ho, hc⟩ := he
  refine wpAny_bind (wpAny_isInstance (T := "StopIteration") (b := true) ⟨o, ho, hc⟩ isSubtype_stop ?_); exact wpAny_pure (gQ _ hk)
end
/-- the list at a and the tuple at b, the items in new pairs -/
def ItzM (K : PySem.W.Frag) (a b : Addr) : It where
  go := fun i H => ∃ (xs ys : List V) (x y : V), SqL K H a xs ∧ SqT K H b ys ∧ xs[i]? = some x ∧ ys[i]? = some y
  yld := fun i H v H' => ∃ T x y, v = .ref T ∧ H T = none ∧ H' = upd H T (.tup [x, y]) ∧ (∀ xs, SqL K H a xs → xs[i]? = some x) ∧ ∀ ys, SqT K H b ys → ys[i]? = some y
  stop := fun i H => ∃ xs ys : List V, SqL K H a xs ∧ SqT K H b ys ∧ (xs.length ≤ i ∨ ys.length ≤ i)
abbrev zgs (Z I0 O0 i1 i2 : Addr) : List Addr := [Z, I0, O0, i1, i2]
theorem zgs_mem {Z I0 O0 i1 i2 c : Addr} (h : c ∈ zgs Z I0 O0 i1 i2) : c = Z ∨ c = I0 ∨ c = O0 ∨ c = i1 ∨ c = i2 := by simpa using h
theorem zgs_no {Z I0 O0 i1 i2 c : Addr} (h : ¬ c ∈ zgs Z I0 O0 i1 i2) : c ≠ Z ∧ c ≠ O0 ∧ c ≠ i1 ∧ c ≠ i2 := by
  refine ⟨fun q => h (by simp [q]), fun q => h (by simp [q]), fun q => h (by simp [q]), fun q => h (by simp [q])⟩
theorem turn_zipM {P : Program} {w : World} {K : PySem.W.Frag} {elts : List Expr} {kk : Nat} {tpos : Pos} {a b Z I0 O0 i1 i2 : Addr} (D : ZipApart Z I0 O0 i1 i2 a b) :
    Turn P w K (.Tuple elts kk tpos) (ItzM K a b) (zgs Z I0 O0 i1 i2) Z (fun i h => IsZip h Z I0 O0 .none ∧ IsPair h I0 (.ref i1) (.ref i2) ∧ (∃ x y, IsPair h O0 x y) ∧ h.IsListIter i1 a i ∧ h.IsTupleIter i2 b i) where
  mem := List.mem_cons_self
  obj := fun i h st c hc => by
    obtain ⟨gz, gI, ⟨x, y, gO⟩, ⟨o1, e1, _, d1⟩, ⟨o2, e2, _, d2⟩⟩ := st
    rcases zgs_mem hc with rfl | rfl | rfl | rfl | rfl
    · exact ⟨_, gz, nofun⟩
    · exact ⟨_, gI, nofun⟩
    · exact ⟨_, gO, nofun⟩
    · exact ⟨o1, e1, fun v q => by rw [d1] at q; cases q⟩
    · exact ⟨o2, e2, fun v q => by rw [d2] at q; cases q⟩
  keep := fun i h h' st k => by
    obtain ⟨gz, gI, ⟨x, y, gO⟩, h1, h2⟩ := st
    exact ⟨k Z (by simp) _ gz, k I0 (by simp) _ gI, ⟨x, y, k O0 (by simp) _ gO⟩, h1.at fun o => k i1 (by simp) o, h2.at fun o => k i2 (by simp) o⟩
  item := by
    intro X hP hw hK hc i pins s σ H E I hf st hg; subst hP hw hK
    obtain ⟨gz, gI, ⟨x0, y0, gO⟩, h1, h2⟩ := st
    obtain ⟨xs, ys, x, y, hqx, hqy, hx, hy⟩ := hg
    obtain ⟨its, rv, pp, _⟩ := I.list hqx
    obtain ⟨jts, rw2, qq, _⟩ := I.tuple hqy
    obtain ⟨u, hu, ru⟩ := rv.get hx
    obtain ⟨v, hv, rvv⟩ := rw2.get hy
    have zl : Z < s.heap.objs.size := Heap.lt_size gz
    have N1 : Nxt X.prog X.w i1 a _ _ (some u) := (show its.toArray[i]? = some u by simpa using hu) ▸ nxt_list (prog := X.prog) (w := X.w) (i := i1) (l := a) (xs := its.toArray) (k := i)
    have N2 : Nxt X.prog X.w i2 b _ _ (some v) := (show jts.toArray[i]? = some v by simpa using hv) ▸ nxt_tup (prog := X.prog) (w := X.w) (i := i2) (l := b) (xs := jts.toArray) (k := i)
    refine zg_pitem D gz gI gO N1 N2 ⟨h1, pp.isList⟩ ⟨h2, qq⟩ (fun p q => p.at q) (fun p q => p.at q) fun g z' O' h1' h2' hT _ hk => ?_
    refine ⟨_, rfl, wpAny_letOwnedTupleGo_zip (s := { s with heap := g }) z' fun g2 z2 sb => ?_⟩
    have T2 : g2.get? s.heap.objs.size = some { cls := .type "tuple", data := .seq #[u, v] } := (sb.2 _ (Nat.ne_of_gt zl)).trans hT
    have new : ObjOk X.prog X.w (upd H s.heap.objs.size (.tup [x, y])) g2 s.heap.objs.size (.tup [x, y]) := ⟨by show 2 ≤ sizeLine; decide, [u, v], .cons ru (.cons rvv .nil), ⟨_, T2, rfl, _, rfl⟩⟩
    have I1 : Inv X pins σ (upd H s.heap.objs.size (.tup [x, y])) { s with heap := g2 } :=
      I.turnedNew (t' := s.toks) (ch := zgs Z I0 O0 i1 i2) (fun c o hb q => let ⟨n1, n2, n3, n4⟩ := zgs_no hb; (sb.2 c n1).trans (hk c o n1 n2 n3 n4 q)) hf (Nat.le_refl _) new
    refine ⟨.ref s.heap.objs.size, _, I1, rfl, ⟨_, x, y, rfl, I.hok.fresh (Nat.le_refl _), rfl, fun l hl => I.list_inj hl hqx ▸ hx, fun l hl => I.tuple_inj hl hqy ▸ hy⟩, ⟨z2, (sb.2 _ D.TIz).trans (hk _ _ D.TIz D.TITO D.TIi1 D.TIi2 gI), ⟨u, v, (sb.2 _ D.TOz).trans O'⟩, h1'.at fun o q => (sb.2 _ D.i1z).trans q, h2'.at fun o q => (sb.2 _ D.i2z).trans q⟩, fun c hcm => ?_⟩
    have hlt : c < s.heap.objs.size := by
      rcases zgs_mem hcm with rfl | rfl | rfl | rfl | rfl
      · exact zl
      · exact Heap.lt_size gI
      · exact Heap.lt_size gO
      · obtain ⟨_, e1, _⟩ := h1; exact Heap.lt_size e1
      · obtain ⟨_, e2, _⟩ := h2; exact Heap.lt_size e2
    rw [upd_ne (Nat.ne_of_lt hlt)]
    exact (hf c hcm).1
  done := by
    intro X hP hw hK hc i pins s σ H E I hf st hg; subst hP hw hK
    obtain ⟨gz, gI, ⟨x0, y0, gO⟩, h1, h2⟩ := st
    obtain ⟨xs, ys, hqx, hqy, hend⟩ := hg
    obtain ⟨its, rv, pp, _⟩ := I.list hqx
    obtain ⟨jts, rw2, qq, _⟩ := I.tuple hqy
    have l1 := rv.length
    have l2 := rw2.length
    have he : its.toArray[i]? = none ∨ jts.toArray[i]? = none := by
      rcases hend with q | q
      · left; simp; omega
      · right; simp; omega
    exact zg_pend (I.ok.hd hc) D gz gI gO nxt_list nxt_tup ⟨h1, pp.isList⟩ ⟨h2, qq⟩ he fun g hk => ⟨rfl, I.turnedL (t' := s.toks) (ch := zgs Z I0 O0 i1 i2) (fun c o hb q => let ⟨n1, n2, n3, n4⟩ := zgs_no hb; hk c o n1 n2 n3 n4 q) hf⟩
  self := fun A i s Q E st h => wpAny_pyIter_zip st.1 h
abbrev lI (l : Addr) : Obj := { cls := .type "list_iterator", data := .fields #[.ref l, .int 0 0] }
abbrev tI (l : Addr) : Obj := { cls := .type "tuple_iterator", data := .fields #[.ref l, .int 0 0] }
abbrev zm2 (h : Heap) (a b : Addr) : Heap := (h.push (lI a)).push (tI b)
abbrev zm3 (h : Heap) (a b : Addr) : Heap := (zm2 h a b).push { cls := .type "tuple", data := .seq #[.ref h.objs.size, .ref (h.push (lI a)).objs.size] }
abbrev zm4 (h : Heap) (a b : Addr) : Heap := (zm3 h a b).push { cls := .type "tuple", data := .seq #[.none, .none] }
abbrev zm5 (h : Heap) (a b : Addr) : Heap := (zm4 h a b).push { cls := .type "zip", data := .fields #[.none, .bool false, .bool false, .ref (zm2 h a b).objs.size, .ref (zm3 h a b).objs.size] }
theorem meets_zipM (a b : Addr) (xs ys : Array Value) :
    Meets (Builtin.«zip.__new__» ⟨[.type "zip", .ref a, .ref b], []⟩) (fun _ R s => s.heap.IsList a xs ∧ s.heap.IsTuple b ys ∧ R (.ok (.ret (.ref (zm4 s.heap a b).objs.size))) { s with heap := zm5 s.heap a b }) :=
  .of_wp fun prog w A R s h => by
    obtain ⟨hp, g, d, tk, os⟩ := s; obtain ⟨j1, j2, h⟩ := h
    have hsub := sub_zip
    have k1 : Heap.IsList (Shared.heap ⟨hp, g, d, tk, os⟩) a xs := j1
    have k2 : Heap.IsTuple (Shared.heap ⟨hp.push (lI a), g, d, tk, os⟩) b ys := Heap.IsTuple.push j2 _
    wp_walk using wpAny_pyIter_list k1, wpAny_pyIter_tuple k2
    exact ⟨_, rfl, h⟩
theorem call_zipM {prog : Program} {w : World} {A : Around} {E : Value → Shared → Prop} {s : Shared} {a b : Addr} {xs ys : Array Value} {Q : Value → Shared → Prop} (j1 : s.heap.IsList a xs) (j2 : s.heap.IsTuple b ys)
    (h : ∀ g, IsZip g (s.heap.objs.size + 4) (s.heap.objs.size + 2) (s.heap.objs.size + 3) .none → IsPair g (s.heap.objs.size + 2) (.ref s.heap.objs.size) (.ref (s.heap.objs.size + 1)) → IsPair g (s.heap.objs.size + 3) .none .none → g.IsListIter s.heap.objs.size a 0 → g.IsTupleIter (s.heap.objs.size + 1) b 0 →
      (∀ c o, s.heap.get? c = some o → g.get? c = some o) → Q (.ref (s.heap.objs.size + 4)) { s with heap := g }) :
    wpAny (model prog w) A (call (.type "zip") [.ref a, .ref b]) Q E s := by
  refine callType_new F.called_zip (by decide) (F.typeCall_zip_2 _ _) (F.newCall_zip_2 _ _) (fun obj => F.args_object_init_3 obj _ _) F.entry_zip_new (meets_zipM a b xs ys) ⟨j1, j2, ?_⟩
  have n1 : (s.heap.push (lI a)).objs.size = s.heap.objs.size + 1 := Heap.size_push ..
  have n2 : (zm2 s.heap a b).objs.size = s.heap.objs.size + 2 := by rw [Heap.size_push, n1]
  have n3 : (zm3 s.heap a b).objs.size = s.heap.objs.size + 3 := by rw [Heap.size_push, n2]
  have n4 : (zm4 s.heap a b).objs.size = s.heap.objs.size + 4 := by rw [Heap.size_push, n3]
  have f5 : (zm5 s.heap a b).get? (zm4 s.heap a b).objs.size = some _ := Heap.get?_push_size _ rfl
  have f4 : (zm5 s.heap a b).get? (zm3 s.heap a b).objs.size = some _ := Heap.get?_push_of_some _ (Heap.get?_push_size _ rfl)
  have f3 : (zm5 s.heap a b).get? (zm2 s.heap a b).objs.size = some _ := Heap.get?_push_of_some _ (Heap.get?_push_of_some _ (Heap.get?_push_size _ rfl))
  have f2 : (zm5 s.heap a b).get? (s.heap.push (lI a)).objs.size = some _ := Heap.get?_push_of_some _ (Heap.get?_push_of_some _ (Heap.get?_push_of_some _ (Heap.get?_push_size _ rfl)))
  have f1 : (zm5 s.heap a b).get? s.heap.objs.size = some _ := Heap.get?_push_of_some _ (Heap.get?_push_of_some _ (Heap.get?_push_of_some _ (Heap.get?_push_of_some _ (Heap.get?_push_size _ rfl))))
  show _ ∧ _
  rw [n2, n3, n4] at f5
  rw [n1, n2] at f3
  rw [n3] at f4
  rw [n1] at f2
  rw [n4]
  exact ⟨⟨_, f5, rfl⟩, h _ f5 f3 f4 ⟨_, f1, rfl, rfl⟩ ⟨_, f2, rfl, rfl⟩ fun c o x => Heap.get?_push_of_some _ (Heap.get?_push_of_some _ (Heap.get?_push_of_some _ (Heap.get?_push_of_some _ (Heap.get?_push_of_some _ x))))⟩
section
variable {X : Cx} {tg iter e e2 : Expr} {fl : En → Option (List PyData)}
def iZipM (K : PySem.W.Frag) (ta : TA) : TI := fun σ H R => ta σ H fun vs H1 => ∃ a b xs ys, vs = [.ref a, .ref b] ∧ SqL K H1 a xs ∧ SqT K H1 b ys ∧ R (ItzM K a b) H1
theorem pi_or {t u : TI} (h : PI X tg iter t) (h' : PI X tg iter u) : PI X tg iter fun σ H R => t σ H R ∨ u σ H R :=
  ⟨fun pins s σ H R I q => q.elim (h.run pins s σ H R I) (h'.run pins s σ H R I)⟩
theorem pi_zipM {ta : TA} {p pos tpos : Pos} {elts : List Expr} {kk : Nat} (hg : Gl X "zip") (hm : X.mg "zip" = none) (ha : PA X [e, e2] ta)
    (hs : starEach [e, e2] X.env = (false, eval e X.env) :: starEach [e2] X.env := by rfl) (hpl : (backTo pos (starEach [e2] X.env)).any (·.1) = false := by rfl) :
    PI X (.Tuple elts kk tpos) (.Call (.Name "zip" p) [e, e2] [] pos) (iZipM X.K ta) := by
  refine ⟨fun pins s σ H R I h => ?_⟩
  refine Call_ (ld_blt I hg hm PyProof.Rows.boot_zip (PyProof.Rows.callWith_type1 (thn (ha.run pos pins s σ H _ I h) fun us s1 ⟨vs, H1, I1, r1, q1⟩ => ?_) hs hpl))
  obtain ⟨a, b, xs, ys, rfl, hqx, hqy, q⟩ := q1
  cases r1 with
  | cons r rr =>
    cases rr with
    | cons r' rr =>
      cases rr
      cases r
      cases r'
      obtain ⟨its, rv, p1, _⟩ := I1.list hqx
      obtain ⟨jts, rw2, p2, _⟩ := I1.tuple hqy
      obtain ⟨o2, ho2, _⟩ := id p2
      refine call_zipM p1.isList (show s1.heap.IsTuple b jts.toArray from p2) fun g gz gI gO h1 h2 hk => wpAny_pyIter_zip gz ?_
      have I2 : Inv X pins σ H1 { s1 with heap := g } := I1.kept (t' := s1.toks) hk
      refine ⟨s1.heap.objs.size + 4, zgs (s1.heap.objs.size + 4) (s1.heap.objs.size + 2) (s1.heap.objs.size + 3) s1.heap.objs.size (s1.heap.objs.size + 1), _, _, H1, rfl, I2, turn_zipM (PySem.W.ktu_apart s1.heap.objs.size a b p1.lt (Heap.lt_size ho2)), ⟨gz, gI, ⟨_, _, gO⟩, h1, h2⟩, fun c hc => ?_, q⟩
      have hle : s1.heap.objs.size ≤ c := by
        rcases zgs_mem hc with rfl | rfl | rfl | rfl | rfl <;> omega
      exact I1.fpOk hle (I1.hok.fresh hle)
theorem walk_zipM {K : PySem.W.Frag} {a b : Addr} {xs ys : List V} : Walk (ItzM K a b) (min xs.length ys.length) (fun H => SqL K H a xs ∧ SqT K H b ys) (YPair (fun i => xs[i]?) (fun i => ys[i]?)) := by
  refine ⟨fun i H hi q => ?_, fun H q => ⟨xs, ys, q.1, q.2, by omega⟩, fun i H v H' _ q y => ?_⟩
  · have h1 : i < xs.length := by omega
    have h2 : i < ys.length := by omega
    exact ⟨xs, ys, xs[i], ys[i], q.1, q.2, by simp [h1], by simp [h2]⟩
  · obtain ⟨T, x, z, h1, h2, h3, h4, h5⟩ := y
    exact ⟨T, x, z, h1, h2, h3, h4 xs q.1, h5 ys q.2⟩
/-- zip's pairs, of a list and a tuple too -/
def zpA : List PyData → Option (List PyData)
  | [.list xs, .list ys] => some (zipL xs ys)
  | [.tuple xs, .tuple ys] => some (zipL xs ys)
  | [.list xs, .tuple ys] => some (zipL xs ys)
  | _ => none
theorem di_zipA {p pos tpos : Pos} {elts : List Expr} {kk : Nat} (hg : Gl X "zip") (hm : X.mg "zip" = none) (ha : DA X [e, e2] fl)
    (hs : starEach [e, e2] X.env = (false, eval e X.env) :: starEach [e2] X.env := by rfl) (hpl : (backTo pos (starEach [e2] X.env)).any (·.1) = false := by rfl) : DI X (.Tuple elts kk tpos) (.Call (.Name "zip" p) [e, e2] [] pos) (sArg zpA fl) := by
  obtain ⟨t, ht, r⟩ := ha.ex
  refine .of ⟨_, pi_or (pi_zipA hg hm ht hs hpl) (pi_zipM hg hm ht hs hpl), fun H0 O0 O H σ env R ds hd Q q => ?_⟩
  unfold sArg at hd
  cases hf : fl env with
  | none => rw [hf] at hd; cases hd
  | some xs =>
    rw [hf] at hd
    match xs, hd with
    | [.list ds, .tuple es], hd =>
      refine .inr (r H0 O0 O H σ env R _ hf _ fun vs H' e hq => ?_)
      match hq with
      | .cons (@Dq.lst _ _ a us _ h1 h2) (.cons (@Dq.tup _ _ b ws _ h3 h4) .nil) =>
        cases hd
        exact ⟨a, b, us, ws, rfl, .inl (.inl (mn_some h1).1), sqT_up h3, q _ H' e (wk_zipG (Walk.mono walk_zipM (fun H2 ee => ⟨ex_l ee (.inl (.inl h1)), ex_t ee h3⟩) fun _ _ _ _ _ _ y => y) h2 h4)⟩
    | [.list ds, .list es], hd =>
      refine .inl (r H0 O0 O H σ env R _ hf _ fun vs H' e hq => ?_)
      match hq with
      | .cons (@Dq.lst _ _ a us _ h1 h2) (.cons (@Dq.lst _ _ b ws _ h3 h4) .nil) =>
        cases hd
        exact ⟨a, b, us, ws, rfl, .inl ⟨.inl (.inl (mn_some h1).1), .inl (.inl (mn_some h3).1), q _ H' e (wk_zipG (Walk.mono (walk_zip rfl) (fun H2 ee => ⟨ex_l ee (.inl (.inl h1)), ex_l ee (.inl (.inl h3))⟩) fun _ _ _ _ _ _ y => y) h2 h4)⟩⟩
    | [.tuple ds, .tuple es], hd =>
      refine .inl (r H0 O0 O H σ env R _ hf _ fun vs H' e hq => ?_)
      match hq with
      | .cons (@Dq.tup _ _ a us _ h1 h2) (.cons (@Dq.tup _ _ b ws _ h3 h4) .nil) =>
        cases hd
        exact ⟨a, b, us, ws, rfl, .inr ⟨sqT_up h1, sqT_up h3, q _ H' e (wk_zipG (Walk.mono walk_zipT (fun H2 ee => ⟨ex_t ee h1, ex_t ee h3⟩) fun _ _ _ _ _ _ y => y) h2 h4)⟩⟩
end
end Dz

/-! DzE: lists of lists that are still written to. -/
namespace Dz
open PySem PySem.Spec PyProof.Rows L2 Evl

def lcNGo (body : PyData → Option (List PyData)) : List PyData → Option (List (List PyData))
  | [] => some []
  | d :: ds => (body d).bind fun r => (lcNGo body ds).bind fun rs => some (r :: rs)
def lcNB (gt : PyData → En → Option En) (fe : En → Option (List PyData)) (env1 : En) (d : PyData) : Option (List PyData) := (gt d env1).bind fe
def sLcN (fi : En → Option (List PyData)) (gt : PyData → En → Option En) (fe : En → Option (List PyData)) (vs : List Nat) (env : En) : Option (List (List PyData)) :=
  (fi env).bind fun ds => if ds.length ≤ sizeLine then lcNGo (lcNB gt fe (wipeE env vs)) ds else none
def adN (D : Addr) (bs : List Addr) (O : Ow) : Ow := fun b => O b || decide (b = D) || decide (b ∈ bs)
theorem adN_iff {D : Addr} {bs : List Addr} {O : Ow} {b : Addr} : adN D bs O b = true ↔ O b = true ∨ b = D ∨ b ∈ bs := by
  simp [adN, or_assoc]
theorem lc_readN {K : PySem.W.Frag} {fi : En → Option (List PyData)} {is : List Nat} {gt : PyData → En → Option En} {fe : En → Option (List PyData)} {vs : List Nat} (his : ∀ i ∈ is, i ∈ vs)
    {H0 H : Hp} {O0 O : Ow} {σ : L2.St} {env : En} (R : Rp K H0 O0 O H σ env) {rs : List (List PyData)} (hf : sLcN fi gt fe vs env = some rs) {Q : VK}
    (q : ∀ D bs H', Ex H H' → H D = none → (∀ b ∈ bs, H b = none) → D ∉ bs → bs.Nodup → bs.length = rs.length → H' D = some (.lst (bs.map V.ref)) →
      (∀ (k : Nat) b ds, bs[k]? = some b → rs[k]? = some ds → ∃ vs, H' b = some (.lst vs) ∧ DqA K (mn H' (adN D bs O)) vs ds) → Q (.ref D) H') : tLc (tDIc K fi) (tDG K is gt) (tDT K sYes) (tEN K fe) vs σ H Q := by
  unfold sLcN at hf
  cases hi : fi env with
  | none => rw [hi] at hf; cases hf
  | some ds =>
    rw [hi, Option.bind_some] at hf
    by_cases hz : ds.length ≤ sizeLine
    · rw [if_pos hz] at hf
      refine ⟨H0, O0, O, env, ds, R, hi, fun J H1 e1 w D hD => ?_⟩
      have R1 := R.up e1
      have hDH : H D = none := fresh_back e1 hD
      let Pv : Nat → Hp → Prop := fun i H' => Ex H1 H' ∧ ∃ (bs : List Addr) (done rest : List (List PyData)), H' D = some (.lst (bs.map V.ref)) ∧ (∀ b ∈ bs, H1 b = none) ∧ D ∉ bs ∧ bs.Nodup ∧ bs.length = done.length ∧
        (∀ (k : Nat) b es, bs[k]? = some b → done[k]? = some es → ∃ vs, H' b = some (.lst vs) ∧ DqA K (mn H' (adN D bs O)) vs es) ∧ lcNGo (lcNB gt fe (wipeE env vs)) (ds.drop i) = some rest ∧ rs = done ++ rest ∧ bs.length ≤ i
      refine lc_it (D := D) w Pv ⟨Ex.new hD, [], [], rs, upd_same, (fun _ h => by cases h), (by simp), List.nodup_nil, rfl, (fun k b es h => by simp at h), by simpa using hf, rfl, Nat.zero_le _⟩ (fun i H' _ p => p.1) (fun i x H2 H3 hlt p y => ?_) (fun H' p => ?_)
      · obtain ⟨e2, bs, done, rest, hacc, hfr, hDb, hnd, hlb, hrow, hrest, hrs, hlen⟩ := p
        obtain ⟨d, hd, e3, hx⟩ := y
        have hdrop : ds.drop i = d :: ds.drop (i + 1) := by
          obtain ⟨h1, h2⟩ := List.getElem?_eq_some_iff.mp hd
          rw [← h2]
          exact List.drop_eq_getElem_cons h1
        rw [hdrop] at hrest
        have e13 := e2.trans e3
        have hacc3 : H3 D = some (.lst (bs.map V.ref)) := e3 _ _ hacc
        have hrowt : ∀ b ∈ bs, Mu (H2 b) := fun b hb => by
          obtain ⟨k, hk, e⟩ := List.getElem_of_mem hb
          obtain ⟨ws, g, _⟩ := hrow k b done[k] (by rw [List.getElem?_eq_getElem hk, e]) (List.getElem?_eq_getElem (hlb ▸ hk))
          rw [g]; trivial
        have G2 : Rp K H0 O0 (adN D bs O) H2 σ env := R1.more e2 (fun b h => adN_iff.mpr (.inl h)) fun b h => by
          rcases adN_iff.mp h with h | rfl | h
          · exact .inl h
          · exact .inr ⟨hD, by rw [hacc]; trivial⟩
          · exact .inr ⟨hfr b h, hrowt b h⟩
        have F2 : Ed (mn H1 O) (mn H2 (adN D bs O)) := mn_to e2.toEd fun b o h => by
          obtain ⟨q1, q2⟩ := mn_some h
          cases z : adN D bs O b with
          | false => rfl
          | true =>
            rcases adN_iff.mp z with h | rfl | h
            · rw [h] at q2; cases q2
            · rw [hD] at q1; cases q1
            · rw [hfr b h] at q1; cases q1
        have hxd := hx (adN D bs O) F2 G2.tr
        have G : Rp K H0 O0 (adN D bs O) H3 σ env := G2.up e3
        have hrest' : ((lcNB gt fe (wipeE env vs)) d).bind (fun r => (lcNGo (lcNB gt fe (wipeE env vs)) (ds.drop (i + 1))).bind fun rs => some (r :: rs)) = some rest := hrest
        cases hb : lcNB gt fe (wipeE env vs) d with
        | none => rw [hb] at hrest'; cases hrest'
        | some r =>
          cases hgo : lcNGo (lcNB gt fe (wipeE env vs)) (ds.drop (i + 1)) with
          | none => rw [hb, hgo] at hrest'; cases hrest'
          | some rest1 =>
            rw [hb, hgo] at hrest'
            have hrest2 : r :: rest1 = rest := Option.some.inj hrest'
            unfold lcNB at hb
            cases hgt : gt d (wipeE env vs) with
            | none => rw [hgt] at hb; cases hb
            | some env2 =>
              rw [hgt, Option.bind_some] at hb
              refine ⟨H0, O0, adN D bs O, wipeE env vs, d, env2, G.wipe vs, hxd, hgt, fun σ2 R2 w2 => ⟨?_, ?_⟩⟩
              · rw [w2 vs his, wipe_sub fun _ h => h]
              · refine ⟨H0, O0, adN D bs O, env2, true, R2, rfl, fun H4 e4 => ?_⟩
                dsimp only; rw [if_pos rfl]
                refine ⟨H0, O0, adN D bs O, env2, r, R2.up e4, hb, fun a ws H5 e5 han ha hv => ⟨bs.map V.ref, e5 _ _ (e4 _ _ hacc3), Nat.lt_of_le_of_lt (by simpa using hlen) (Nat.lt_of_lt_of_le hlt hz), ?_⟩⟩
                have e15 : Ex H1 H5 := (e13.trans e4).trans e5
                have e25 : Ex H2 H5 := (e3.trans e4).trans e5
                have ha1 : H1 a = none := fresh_back (e13.trans e4) han
                have haD : a ≠ D := fun z => by rw [z, e4 _ _ hacc3] at han; cases han
                have hab : a ∉ bs := fun z => mut_ne (hrowt a z) (fresh_back (e3.trans e4) han)
                have N5 : Ed (mn H5 (ad a (adN D bs O))) (mn (upd H5 D (.lst ((bs ++ [a]).map V.ref))) (adN D (bs ++ [a]) O)) := .of fun b o h => by
                  obtain ⟨q1, q2⟩ := mn_some h
                  have hbD : b ≠ D := fun z => by
                    have : adN D bs O b = true := adN_iff.mpr (.inr (.inl z))
                    simp [ad, this] at q2
                  refine mn_of (by rw [upd_ne hbD]; exact q1) ?_
                  cases z : adN D (bs ++ [a]) O b with
                  | false => rfl
                  | true =>
                    have : ad a (adN D bs O) b = true := by
                      rcases adN_iff.mp z with h | h | h
                      · have := adN_iff.mpr (.inl h : O b = true ∨ b = D ∨ b ∈ bs); simp [ad, this]
                      · exact absurd h hbD
                      · rcases List.mem_append.mp h with h | h
                        · have := adN_iff.mpr (.inr (.inr h) : O b = true ∨ b = D ∨ b ∈ bs); simp [ad, this]
                        · have : b = a := by simpa using h
                          simp [ad, this]
                    rw [this] at q2; cases q2
                have N2 : Ed (mn H2 (adN D bs O)) (mn H5 (ad a (adN D bs O))) := mn_to e25.toEd fun b o h => by
                  obtain ⟨q1, q2⟩ := mn_some h
                  have hba : b ≠ a := ne_of_none q1 (fresh_back (e3.trans e4).toEd han)
                  simp [ad, hba, q2]
                refine ⟨ex_upd e15 hD (by rw [e5 _ _ (e4 _ _ hacc3)]; trivial), bs ++ [a], done ++ [r], rest1, by rw [List.map_append]; exact upd_same, ?_, ?_, ?_, by simp [hlb], ?_, hgo, ?_, by simp; omega⟩
                · intro b hb
                  rcases List.mem_append.mp hb with h | h
                  · exact hfr b h
                  · have : b = a := by simpa using h
                    rw [this]; exact ha1
                · intro h
                  rcases List.mem_append.mp h with h | h
                  · exact hDb h
                  · have : D = a := by simpa using h
                    exact haD this.symm
                · rw [List.nodup_append]
                  refine ⟨hnd, by simp, fun x hx y hy z => ?_⟩
                  have : y = a := by simpa using hy
                  rw [z, this] at hx
                  exact hab hx
                · intro k b es h1 h2
                  by_cases hk : k < bs.length
                  · rw [List.getElem?_append_left hk] at h1
                    rw [List.getElem?_append_left (hlb ▸ hk)] at h2
                    obtain ⟨us, g1, g2⟩ := hrow k b es h1 h2
                    have hbD : b ≠ D := fun z => hDb (z ▸ List.mem_of_getElem? h1)
                    refine ⟨us, by rw [← List.map_singleton, ← List.map_append, upd_ne hbD]; exact e25 _ _ g1, ?_⟩
                    rw [← List.map_singleton, ← List.map_append]
                    exact dpa_up (N2.trans N5) g2
                  · have hk' : bs.length ≤ k := Nat.le_of_not_lt hk
                    rw [List.getElem?_append_right hk'] at h1
                    rw [List.getElem?_append_right (hlb ▸ hk')] at h2
                    have hk0 : k - bs.length = 0 := by
                      have := (List.getElem?_eq_some_iff.mp h1).1
                      simp at this; omega
                    rw [hk0] at h1
                    rw [← hlb, hk0] at h2
                    have hba : a = b := by simpa using h1
                    have hre : r = es := by simpa using h2
                    subst hba; subst hre
                    refine ⟨ws, by rw [← List.map_singleton, ← List.map_append, upd_ne haD]; exact ha, ?_⟩
                    rw [← List.map_singleton, ← List.map_append]
                    exact dpa_up N5 hv
                · rw [hrs, ← hrest2]; simp
      · obtain ⟨e2, bs, done, rest, hacc, hfr, hDb, hnd, hlb, hrow, hrest, hrs, hlen⟩ := p
        have hrest' : rest = [] := by
          rw [List.drop_length] at hrest
          exact (Option.some.inj hrest).symm
        rw [hrest', List.append_nil] at hrs
        subst hrs
        exact q D bs H' (e1.trans e2) hDH (fun b hb => fresh_back e1 (hfr b hb)) hDb hnd hlb hacc hrow
    · rw [if_neg hz] at hf; cases hf
def gSetNN (i : Nat) (f : En → Option (List (List PyData))) (env : En) : Option Ou := (f env).bind fun dss => some (.nx (env.set i (.nst dss)))
/-- found[row], to be read at once -/
def sRow (i : Nat) (fa : En → Option PyData) (env : En) : Option (List PyData) := match env[i]? with
  | some (.nst dss) => (fa env).bind fun x => (asI x).bind fun k => (ixN dss.length k).bind fun j => dss[j]?
  | _ => none
def gPut2 (i : Nat) (fa fb fe : En → Option PyData) (env : En) : Option Ou := match env[i]? with
  | some (.nst dss) => (fe env).bind fun d => (fa env).bind fun x => (asI x).bind fun k => (ixN dss.length k).bind fun j => (dss[j]?).bind fun ds => (fb env).bind fun y => (asI y).bind fun m => (ixN ds.length m).bind fun c =>
    some (.nx (env.set i (.nst (dss.set j (ds.set c d)))))
  | _ => none
section
variable {X : Cx} {st : Stmt} {e a b : Expr} {f fa fb : En → Option PyData} {pos : Pos}
/-- y = [[..] ..], y a local -/
theorem ds_setLcN {i : Nat} {own : List (Str × Nat)} {fi : En → Option (List PyData)} {is : List Nat} {gt : PyData → En → Option En} {fe : En → Option (List PyData)}
    (h : PS X st (tAsg (tLc (tDIc X.K fi) (tDG X.K is gt) (tDT X.K sYes) (tEN X.K fe) (own.map (·.2))) (gName i))) (his : (is.all fun i => decide (i ∈ own.map (·.2))) = true) : DS X st (gSetNN i (sLcN fi gt fe (own.map (·.2)))) := by
  refine .of ⟨_, h, fun H0 O0 O H σ env R o hd D q => ?_⟩
  unfold gSetNN at hd
  cases hf : sLcN fi gt fe (own.map (·.2)) env with
  | none => rw [hf] at hd; cases hd
  | some d =>
    rw [hf] at hd; cases hd
    refine lc_readN (fun i hi => of_decide_eq_true (List.all_eq_true.mp his i hi)) R hf fun A bs H' e1 hn hnb hab hnd hl ha hv => q _ H' _ (R.setNN i (O1 := adN A bs O) e1 (fun b => adN_iff) hn hnb hab hnd hl ha hv) (mn_to e1.toEd fun b o h => ?_)
    obtain ⟨q1, q2⟩ := mn_some h
    cases z : adN A bs O b with
    | false => rfl
    | true =>
      rcases adN_iff.mp z with h | rfl | h
      · rw [h] at q2; cases q2
      · rw [hn] at q1; cases q1
      · rw [hnb b h] at q1; cases q1
/-- a row of the list of lists -/
theorem row_at {K : PySem.W.Frag} {H0 H : Hp} {O : Ow} {bs : List Addr} {dss : List (List PyData)} (h : Ins K H0 O H bs dss) {j : Nat} {ds : List PyData} (e : dss[j]? = some ds) : ∃ b vs, bs[j]? = some b ∧ H b = some (.lst vs) ∧ DqA K (mn H O) vs ds := by
  have hj : j < dss.length := (List.getElem?_eq_some_iff.mp e).1
  have hj' : j < bs.length := h.1 ▸ hj
  obtain ⟨_, _, vs, g1, g2⟩ := h.2.2 j bs[j] ds (List.getElem?_eq_getElem hj') e
  exact ⟨bs[j], vs, List.getElem?_eq_getElem hj', g1, g2⟩
theorem el_row {i : Nat} {x : Str} {pos' : Pos} (hv : PE X (.Name x pos') (tVar i)) (ha : ED X a fa) (hs : PlainIx a) : EL X (.Subscript (.Name x pos') a pos) (sRow i fa) := by
  obtain ⟨ta, h1, r1⟩ := ha.ex
  refine .of ⟨_, pe_ix ix_list hv h1 hs, fun H0 O0 O H σ env R d hd Q q => ?_⟩
  unfold sRow at hd
  split at hd
  · rename_i dss hi
    cases hx : fa env with
    | none => rw [hx] at hd; cases hd
    | some y =>
      rw [hx, Option.bind_some] at hd
      cases y with
      | int m =>
        simp only [asI, Option.bind_some] at hd
        cases hj : ixN dss.length m with
        | none => rw [hj] at hd; cases hd
        | some j =>
          rw [hj, Option.bind_some] at hd
          obtain ⟨A, bs, g1, g2, g3, g4, g5, g6⟩ := R.nst hi
          refine ⟨.ref A, g1, ?_⟩
          refine r1 H0 O0 O H σ env R _ hx _ fun v H2 e2 p3 => ?_
          cases p3
          obtain ⟨b, vs, k1, k2, k3⟩ := row_at (g6.up e2) hd
          exact ⟨A, bs.map V.ref, m, .ref b, rfl, rfl, .inl (.inl (e2 _ _ g4)), by
            unfold atI
            rw [List.length_map, g6.1, hj]
            simp [k1], q b vs H2 e2 k2 k3⟩
      | _ => cases hd
  · cases hd
/-- x[a][b] = e -/
theorem ds_put2 {i : Nat} (he : ED X e f) (ha : ED X a fa) (hb : ED X b fb) (hp : ∀ {te ta tb : TE}, PE X e te → PE X a ta → PE X b tb → PS X st (tAsg te (gSub (tOp (rIxL X.K) (tVar i) ta) tb rSetL))) : DS X st (gPut2 i fa fb f) := by
  obtain ⟨t, ht, r⟩ := he.ex
  obtain ⟨ta, hta, ra⟩ := ha.ex
  obtain ⟨tb, htb, rb⟩ := hb.ex
  refine .of ⟨_, hp ht hta htb, fun H0 O0 O H σ env R o hd D q => ?_⟩
  unfold gPut2 at hd
  split at hd
  · rename_i dss hs
    cases hf : f env with
    | none => rw [hf] at hd; cases hd
    | some d =>
      rw [hf, Option.bind_some] at hd
      cases hx : fa env with
      | none => rw [hx] at hd; cases hd
      | some x =>
        rw [hx, Option.bind_some] at hd
        cases x with
        | int k =>
          simp only [asI, Option.bind_some] at hd
          cases hj : ixN dss.length k with
          | none => rw [hj] at hd; cases hd
          | some j =>
            rw [hj, Option.bind_some] at hd
            cases hr : dss[j]? with
            | none => rw [hr] at hd; cases hd
            | some ds =>
              rw [hr, Option.bind_some] at hd
              cases hy : fb env with
              | none => rw [hy] at hd; cases hd
              | some y =>
                rw [hy, Option.bind_some] at hd
                cases y with
                | int m =>
                  simp only [asI, Option.bind_some] at hd
                  cases hc : ixN ds.length m with
                  | none => rw [hc] at hd; cases hd
                  | some c =>
                    rw [hc] at hd; cases hd
                    obtain ⟨A, bs, g1, g2, g3, g4, g5, g6⟩ := R.nst hs
                    refine r H0 O0 O H σ env R d hf _ fun v H1 e1 hv => ?_
                    have R1 := R.up e1
                    refine ⟨.ref A, g1, ?_⟩
                    refine ra H0 O0 O H1 σ env R1 _ hx _ fun x H2 e2 hx' => ?_
                    cases hx'
                    have R2 := R1.up e2
                    obtain ⟨b', vs, k1, k2, k3⟩ := row_at (g6.up (e1.trans e2)) hr
                    refine ⟨A, bs.map V.ref, k, .ref b', rfl, rfl, .inl (.inl (e2 _ _ (e1 _ _ g4))), by
                      unfold atI
                      rw [List.length_map, g6.1, hj]
                      simp [k1], ?_⟩
                    refine rb H0 O0 O H2 σ env R2 _ hy _ fun y H3 e3 hy' => ?_
                    cases hy'
                    have R3 := R2.up e3
                    refine ⟨b', vs, m, c, rfl, rfl, e3 _ _ k2, by rw [DqA.len k3]; exact hc, ?_⟩
                    obtain ⟨R4, e4⟩ := R3.writeN hs g1 (e3 _ _ (e2 _ _ (e1 _ _ g4))) k1 (DqA.set c (dpa_up (mn_ex e3) k3) (dp_up (mn_ex (e2.trans e3)) hv))
                    exact q O _ σ R4 ((mn_ex ((e1.trans e2).trans e3)).trans e4)
                | _ => cases hd
        | _ => cases hd
  · cases hd
end
end Dz

/-! DzF: dicts whose keys are tuples of ints, whose values are True. -/
namespace Dz
open PySem PySem.Spec PyProof.Rows L2 Evl

/-- {key: True}; the new dict stands empty while the key is made -/
def tDisp1 (tk : TE) : TE := fun σ H Q => ∀ p, H p = none → tk σ (upd H p (.dT [])) fun x H1 => H1 p = some (.dT []) ∧ ∃ (k : List Key) (b : Addr), x = .ref b ∧ H1 b = some (.tup (k.map kV)) ∧ Q (.ref p) (upd H1 p (.dT [(k, .bl true)]))
theorem pe_disp1 {X : Cx} {k : Expr} {tk : TE} {j : Nat} {pos' pos : Pos} (hu : X.A.units + 1 < cLine) (hk : PE X k tk) : PE X (.Dict [some k] [.Constant (.bool true) j pos'] pos) (tDisp1 tk) := ⟨fun pins s σ H Q I q => by
  have hn := I.hok.fresh (Nat.le_refl s.heap.objs.size)
  have I1 := I.laid (a := s.heap.objs.size) (o := .dT []) (h' := s.heap.push { cls := .type "dict", data := .dict #[] }) (t' := s.toks) (fun _ _ q => Heap.get?_push_of_some _ q) (Nat.le_refl _) (dt_empty s.heap I.big)
  rw [arm_eval_Dict, zip_pairTrees [some k] [.Constant (.bool true) j pos'] X.env pos rfl rfl, dictDisplay_pairs (pairTrees [some k] [.Constant (.bool true) j pos'] X.env pos) (by intro h; cases h) (show 1 < 17 by decide)]
  refine wpAny_bind (wpAny_standAt (wpAny_bind (wpAny_subDictH (knd := tupleKind (mixKind X.prog X.w)) (Q := fun d s' => wpAny (model X.prog X.w) X.A (pure (Value.ref d)) (EP X pins σ Q) X.xe s') (show X.A.units < cLine by omega) (show 1 ≤ 15 by decide) ?_)))
  refine pairTrees_cons_walk (thn (hk.run pins _ σ _ _ I1 (q _ hn)) fun u s1 ⟨x, H1, I2, rx, hp, kk, b, ex, hb, q2⟩ => ?_)
  subst ex
  obtain rfl : u = Value.ref b := rx
  refine thn ((pe_bl (X := X) (b := true) (j := j) (pos := pos')).run pins s1 σ H1 (fun v H2 => v = .bl true ∧ H2 = H1) I2 ⟨rfl, rfl⟩) fun vv s2 ⟨y, H2, I3, ry, ey, eH⟩ => ?_
  subst ey eH
  refine pairTrees_nil_walk ?_
  obtain ⟨z, hd, xs, rel, dd⟩ := dt_of I3.hok hp
  cases rel
  refine ⟨[(kk, b, vv)], ⟨rfl, rfl, key_of I3.hok hb, trivial⟩, dd, fun h' tk hm hs => wpAny_pure ?_⟩
  obtain ⟨o, es, ep, hq, h2, h3, h4, _, h5⟩ := hm
  have hbp : b ≠ s.heap.objs.size := fun e => by rw [e, hp] at hb; cases hb
  refine ⟨.ref s.heap.objs.size, _, d_write (ob := .dT [(kk, .bl true)]) I3 (by rw [hp]; trivial) hs ⟨o, hq⟩ ⟨by rw [sizeLine_eq]; exact (show 1 ≤ 16777216 by decide), hd, [(kk, b, vv)], .cons ⟨rfl, by rw [upd_ne hbp]; exact hb, ry⟩ .nil, o, es, ep, hq, h2, h3, h4, h5⟩, rfl, q2⟩⟩

/-! ### a new tuple of ints -/
def tET (K : PySem.W.Frag) (f : En → Option (List Int)) : TE := fun σ H Q => ∃ (H0 : Hp) (O0 O : Ow) (env : En) (ns : List Int), Rp K H0 O0 O H σ env ∧ f env = some ns ∧ ∀ a H', Ex H H' → H' a = some (.tup (ns.map V.int)) → Q (.ref a) H'
def ET (X : Cx) (e : Expr) (f : En → Option (List Int)) : Prop := PE X e (tET X.K f)
section
variable {X : Cx} {e a b c : Expr} {es : List Expr} {st : Stmt} {f : En → Option (List Int)} {fb : En → Option PyData} {fl : En → Option (List PyData)} {pos : Pos}
theorem ET.of (h : ∃ t, PE X e t ∧ ∀ H0 O0 O H σ env, Rp X.K H0 O0 O H σ env → ∀ ns, f env = some ns → ∀ Q : VK, (∀ a H', Ex H H' → H' a = some (.tup (ns.map V.int)) → Q (.ref a) H') → t σ H Q) : ET X e f := by
  obtain ⟨t, h, p⟩ := h
  exact ⟨fun pins s σ H Q I ⟨H0, O0, O, env, d, R, hd, q⟩ => h.run pins s σ H Q I (p H0 O0 O H σ env R d hd Q q)⟩
def sInts (fl : En → Option (List PyData)) (env : En) : Option (List Int) := (fl env).bind intL
theorem et_tup {r : List V → Hp → VK → Prop} (hp : ∀ {t}, PA X [e] t → PE X c (tCB (fun xs H Q => ∃ p ys, xs = [.ref p] ∧ ((SqL X.K H p ys ∧ ∀ l, H l = none → Q (.ref l) (upd H l (.tup ys))) ∨ (SqT X.K H p ys ∧ Q (.ref p) H))) t)) (he : EL X e fl) (hs : starEach [e] X.env = (false, eval e X.env) :: starEach [] X.env := by rfl) : ET X c (sInts fl) := by
  obtain ⟨t, h1, r1⟩ := he.ex
  refine .of ⟨_, hp (pa_cons h1 pa_nil hs), fun H0 O0 O H σ env R ns hd Q q => ?_⟩
  unfold sInts at hd
  cases hx : fl env with
  | none => rw [hx] at hd; cases hd
  | some ds =>
    rw [hx, Option.bind_some] at hd
    refine r1 H0 O0 O H σ env R ds hx _ fun p vs H1 e1 q1 q2 => ?_
    have hv := intL_v q2 hd
    subst hv
    exact ⟨p, _, rfl, .inl ⟨.inl (.inl q1), fun l hl => q _ _ (e1.trans (Ex.new hl)) upd_same⟩⟩
def sRepI (fl : En → Option (List PyData)) (fb : En → Option PyData) (env : En) : Option (List Int) := (fl env).bind fun ds => (intL ds).bind fun ns => (fb env).bind fun y => (asI y).bind fun k => if 0 < ns.length ∧ 1 ≤ k ∧ k ≤ 1000 ∧ ns.length ≤ 1000 then some (List.replicate k.toNat ns).flatten else none
theorem rep_ints (m : Nat) (ns : List Int) : (List.replicate m (ns.map V.int)).flatten = (List.replicate m ns).flatten.map V.int := by
  induction m with
  | zero => rfl
  | succ m ih => rw [List.replicate_succ, List.replicate_succ, List.flatten_cons, List.flatten_cons, List.map_append, ih]
theorem et_rep {x1 : Nat} {p2 : Pos} (ha : DA X es fl) (hb : ED X b fb) : ET X (.BinOp (.Tuple es x1 p2) .Mult b pos) (sRepI fl fb) := by
  obtain ⟨ta, h1, r1⟩ := ha.ex
  obtain ⟨tb, h2, r2⟩ := hb.ex
  refine .of ⟨_, pe_op op_mulA (pe_tup h1) h2, fun H0 O0 O H σ env R ns hd Q q => ?_⟩
  unfold sRepI at hd
  cases hx : fl env with
  | none => rw [hx] at hd; cases hd
  | some ds =>
    rw [hx, Option.bind_some] at hd
    cases hi : intL ds with
    | none => rw [hi] at hd; cases hd
    | some ms =>
      rw [hi, Option.bind_some] at hd
      cases hy : fb env with
      | none => rw [hy] at hd; cases hd
      | some y =>
        rw [hy, Option.bind_some] at hd
        cases y with
        | int k =>
          simp only [asI, Option.bind_some] at hd
          obtain ⟨hc, rfl⟩ := iteS hd
          obtain ⟨c1, c2, c3, c4⟩ := hc
          refine r1 H0 O0 O H σ env R ds hx _ fun xs H1 e1 q1 => ?_
          have hv := intL_v q1 hi
          subst hv
          refine ⟨by rw [List.length_map, sizeLine_eq]; omega, fun p hp => ?_⟩
          refine r2 H0 O0 O _ σ env ((R.up e1).up (Ex.new hp)) _ hy _ fun v H2 e2 hv => ?_
          cases hv
          have hpt : H2 p = some (.tup (ms.map V.int)) := e2 _ _ upd_same
          by_cases hk : k = 1
          · subst hk
            refine .inl (.inr (.inl ⟨p, _, rfl, rfl, .inl (.inl hpt), q p H2 ((e1.trans (Ex.new hp)).trans e2) ?_⟩))
            rw [hpt]
            simp
          · refine .inl (.inl (.inr ⟨p, k, _, rfl, rfl, .inl (.inl hpt), fun z => ?_, by omega, c3, by rw [List.length_map]; exact c4, fun p2 hp2 => q _ _ (((e1.trans (Ex.new hp)).trans e2).trans (Ex.new hp2)) ?_⟩))
            · have : ms = [] := List.map_eq_nil_iff.mp z
              rw [this] at c1
              exact absurd c1 (by decide)
            · rw [upd_same, rep_ints]
        | _ => cases hd

/-! ### statements -/
def putI (ks : List (List Int)) (k : List Int) : List (List Int) := if k ∈ ks then ks else ks ++ [k]
theorem map_inl_inj {k l : List Int} (h : k.map (Sum.inl (β := Str)) = l.map Sum.inl) : k = l := by
  induction k generalizing l with
  | nil => cases l with
    | nil => rfl
    | cons _ _ => cases h
  | cons a k ih => cases l with
    | nil => cases h
    | cons b l =>
      rw [List.map_cons, List.map_cons] at h
      injection h with h1 h2
      injection h1 with h1
      rw [h1, ih h2]
theorem putK_dct (ks : List (List Int)) (k : List Int) : putK (ks.map fun k => (k.map (Sum.inl (β := Str)), V.bl true)) (k.map Sum.inl) (.bl true) = (putI ks k).map fun k => (k.map (Sum.inl (β := Str)), V.bl true) := by
  unfold putK putI
  by_cases h : k ∈ ks
  · rw [if_pos h, if_pos (by rw [List.any_eq_true]; exact ⟨_, List.mem_map.mpr ⟨k, h, rfl⟩, by simp⟩), List.map_map]
    refine List.map_congr_left fun l _ => ?_
    show (if l.map Sum.inl = k.map Sum.inl then (l.map Sum.inl, V.bl true) else (l.map Sum.inl, V.bl true)) = _
    split <;> rfl
  · rw [if_neg h, if_neg, List.map_append]
    · rfl
    · intro z
      rw [List.any_eq_true] at z
      obtain ⟨x, hx, e⟩ := z
      obtain ⟨l, hl, rfl⟩ := List.mem_map.mp hx
      have := map_inl_inj (of_decide_eq_true e)
      exact h (this ▸ hl)
def gSetD0 (i : Nat) (env : En) : Option Ou := some (.nx (env.set i (.dct [])))
def gSetD1 (i : Nat) (f : En → Option (List Int)) (env : En) : Option Ou := (f env).bind fun k => some (.nx (env.set i (.dct [k])))
def gPutD (i : Nat) (f : En → Option (List Int)) (env : En) : Option Ou := match env[i]? with
  | some (.dct ks) => (f env).bind fun k => if ks.length < sizeLine then some (.nx (env.set i (.dct (putI ks k)))) else none
  | _ => none
theorem ds_setD0 {i : Nat} (hp : ∀ {te : TE}, PE X (.Dict [] [] pos) te → PS X st (tAsg te (gName i))) : DS X st (gSetD0 i) := by
  refine .of ⟨_, hp pe_dnewT, fun H0 O0 O H σ env R o hd D q => ?_⟩
  cases hd
  exact fun p hn => q _ _ _ (R.setD i (ks := []) (Ex.new hn) hn upd_same) (nw_ex (Ex.new hn) hn)
theorem ds_setD1 {i j : Nat} {p' : Pos} (hu : X.A.units + 64 < cLine) (h : ET X e f) (hp : ∀ {te : TE}, PE X (.Dict [some e] [.Constant (.bool true) j p'] pos) te → PS X st (tAsg te (gName i))) : DS X st (gSetD1 i f) := by
  refine .of ⟨_, hp (pe_disp1 (by omega) h), fun H0 O0 O H σ env R o hd D q => ?_⟩
  unfold gSetD1 at hd
  cases hf : f env with
  | none => rw [hf] at hd; cases hd
  | some k =>
    rw [hf] at hd; cases hd
    intro p hn
    have R1 : Rp X.K H0 O0 (ad p O) (upd H p (.dT [])) σ env := R.more (Ex.new hn) ad_sub fun b hb => by
      by_cases hz : b = p
      · right; rw [hz, upd_same]; exact ⟨hn, trivial⟩
      · left; simpa [ad, hz] using hb
    refine ⟨H0, O0, ad p O, env, k, R1, hf, fun a H1 e1 ha => ⟨e1 _ _ upd_same, k.map Sum.inl, a, rfl, ?_, ?_⟩⟩
    · rw [ha, List.map_map]; rfl
    · have R2 := R1.up e1
      have e2 : Ex H H1 := (Ex.new hn).trans e1
      have hfree : ∀ (j : Nat) t, env[j]? = some t → OwA H1 σ[j]? t p → False := fun j t hj w =>
        ((R.sl j t hj).owA (w.back (R.sl j t hj) fun _ _ _ q => e2 _ _ q)).2.2 hn
      obtain ⟨R3, F⟩ := R2.poke (O' := ad p O) (o := dctH [k]) ad_self (R.new0 hn) (fun _ h => h) (fun _ _ h => h) (fun _ => trivial) hfree
      have R4 := R3.put i (x := some (.ref p)) (s := .dct [k]) (fun _ => ⟨p, rfl, ad_self, R.new0 hn, upd_same⟩) fun j t c n hj w1 w2 => by
        have hc : p = c := by have w1 : some (some (V.ref p)) = some (some (.ref c)) := w1; simpa using w1
        subst hc
        refine hfree j t hj (w2.back (R2.sl j t hj) fun a2 bs q r => ?_)
        by_cases hz : a2 = p
        · subst hz; rw [e1 _ _ upd_same] at r; cases r
        · rw [upd_ne hz]; exact r
      exact q _ _ _ R4 ((nw_ex e2 hn).trans F)
theorem ds_putD {i j : Nat} {p' pos' : Pos} {x : Str} {px : Pos} (hu : X.A.units + 64 < cLine) (hx : PE X (.Name x px) (tVar i)) (h : ET X e f) (hs : swapsWith (.Constant (.bool true) j p') (some (.Subscript (.Name x px) e pos')) pos.line X.env = pure false := by rfl) :
    DS X (.Assign [.Subscript (.Name x px) e pos'] (.Constant (.bool true) j p') pos) (gPutD i f) := by
  refine .of ⟨_, ps_dput (by omega) hx h pe_bl hs, fun H0 O0 O H σ env R o hd D q => ?_⟩
  unfold gPutD at hd
  split at hd
  · rename_i ks hi
    cases hf : f env with
    | none => rw [hf] at hd; cases hd
    | some k =>
      rw [hf, Option.bind_some] at hd
      obtain ⟨hz, rfl⟩ := iteS hd
      obtain ⟨a, q1, q2, q3, q4⟩ := R.dct hi
      refine ⟨.ref a, q1, H0, O0, O, env, k, R, hf, fun b H1 e1 hb => ?_⟩
      have R1 := R.up e1
      obtain ⟨R2, F⟩ := R1.writeD (ks' := putI ks k) hi q1
      refine ⟨a, _, rfl, DPut.t (k := k.map Sum.inl) (e1 _ _ q4) (by rw [hb, List.map_map]; rfl) (by rw [List.length_map]; exact hz), ?_⟩
      rw [putK_dct]
      exact q _ _ _ R2 ((mn_ex e1).trans F)
  · cases hd
end
end Dz

/-! DzG: dict == dict, keys tuples, values True. -/
namespace Dz
open PySem PySem.Spec PyProof.Rows L2 Evl
def hasAll {K : Type} [DecidableEq K] (xs ys : List (K × Addr × Value)) : Bool := decide (xs.length = ys.length) && xs.all fun x => decide (x.1 ∈ ys.map (·.1))
theorem hasAll_iff {K : Type} [DecidableEq K] (xs ys : List (K × Addr × Value)) : hasAll xs ys = true ↔ xs.length = ys.length ∧ ∀ k ∈ xs.map (·.1), k ∈ ys.map (·.1) := by
  unfold hasAll
  rw [Bool.and_eq_true, decide_eq_true_iff, List.all_eq_true]
  refine and_congr_right fun _ => ⟨fun h k hk => ?_, fun h x hx => decide_eq_true (h _ (List.mem_map.mpr ⟨x, hx, rfl⟩))⟩
  obtain ⟨x, hx, rfl⟩ := List.mem_map.mp hk
  exact of_decide_eq_true (h x hx)
theorem eqBool_tt {prog : Program} {w : World} {A : Around} {E : Value → Shared → Prop} {s : Shared} {Q : Bool → Shared → Prop} (h : Q true s) : wpAny (model prog w) A (eqBool (.bool true) (.bool true)) Q E s := by
  unfold eqBool
  wp_walk
  exact h
theorem samePairsT {prog : Program} {w : World} {K : Type} [DecidableEq K] {knd : HeapKind prog w K} {A : Around} {E : Value → Shared → Prop} {s : Shared} {nm : String} {a b : Addr} {xs ys : List (K × Addr × Value)} {Q : Bool → Shared → Prop} (hu : knd.room A) (ha : (a == sysModules) = false) (hb : (b == sysModules) = false)
    (da : s.heap.DictOfH knd a xs) (db : s.heap.DictOfH knd b ys) (va : ∀ x ∈ xs, x.2.2 = .bool true) (vb : ∀ x ∈ ys, x.2.2 = .bool true) (h : Q (hasAll xs ys) s) :
    wpAny (model prog w) A (Builtin.Dict.samePairs nm a b) Q E s := by
  unfold hasAll at h
  obtain ⟨oa, es, ep, hoa, _, hda, hka, hia, hna⟩ := da
  obtain ⟨ob, es', ep', hob, _, hdb, hkb, hib, hnb⟩ := db
  have hla : es.size = xs.length := size_of_entries hka
  have hlb : es'.size = ys.length := size_of_entries hkb
  unfold Builtin.Dict.samePairs Builtin.Dict.showsAll
  rw [if_neg (show ¬ (a == sysModules) = true by rw [ha]; exact Bool.false_ne_true), if_neg (show ¬ (b == sysModules) = true by rw [hb]; exact Bool.false_ne_true)]
  refine wpAny_bind (wpAny_pure (wpAny_bind (wpAny_pure ?_)))
  refine wpAny_bind (wpAny_dictEntries hoa hda ?_)
  dsimp only
  refine wpAny_bind (wpAny_dictEntries hob hdb ?_)
  by_cases hsz : es.size = es'.size
  case neg =>
    rw [if_pos (by simpa using hsz)]
    rw [decide_eq_false (by rw [← hla, ← hlb]; exact hsz), Bool.false_and] at h
    exact wpAny_bind (wpAny_rule (wpAny_pure h))
  case pos =>
    rw [decide_eq_true (by rw [← hla, ← hlb]; exact hsz), Bool.true_and] at h
    rw [if_neg (by rw [hsz]; simp)]
    refine wpAny_bind (wpAny_dictEpoch hoa hda ?_)
    refine wpAny_bind ?_
    rw [Std.Legacy.Range.forIn_eq_forIn_range']
    simp only [Std.Legacy.Range.size, Nat.sub_zero, Nat.add_sub_cancel, Nat.div_one]
    refine wpAny_forIn_list _
      (fun rest q s' => s' = s ∧ q = (none, ()) ∧ ∃ i, rest = List.range' i (es.size - i) ∧ i ≤ es.size ∧ (xs.all fun x => decide (x.1 ∈ ys.map (·.1))) = ((xs.drop i).all fun x => decide (x.1 ∈ ys.map (·.1))))
      _ ?_ ?_ _ _ ⟨rfl, rfl, 0, by simp, Nat.zero_le _, rfl⟩
    · rintro x rest q s' ⟨rfl, rfl, i, hr, hi, hpre⟩
      have hlt : i < es.size := by
        rcases Nat.lt_or_ge i es.size with h | h
        · exact h
        · rw [Nat.sub_eq_zero_of_le h] at hr; simp at hr
      obtain ⟨rfl, hrest⟩ : x = i ∧ rest = List.range' (i + 1) (es.size - (i + 1)) := by
        have e : es.size - i = (es.size - (i + 1)) + 1 := by omega
        rw [e, List.range'_succ] at hr
        injection hr with h1 h2
        exact ⟨h1, h2⟩
      refine wpAny_bind (wpAny_dictEntries hoa hda ?_)
      have hlt' : x < xs.length := by rw [← hla]; exact hlt
      obtain ⟨k, p, v, hkv⟩ : ∃ k p v, xs[x] = (k, p, v) := ⟨_, _, _, rfl⟩
      have hx : xs[x]? = some (k, p, v) := by rw [List.getElem?_eq_getElem hlt', hkv]
      have hmem : (k, p, v) ∈ xs := List.mem_of_getElem? hx
      have hv : v = .bool true := va _ hmem
      have hdrop : xs.drop x = (k, p, v) :: xs.drop (x + 1) := by rw [← hkv]; exact List.drop_eq_getElem_cons hlt'
      rw [hdrop, List.all_cons] at hpre
      rw [entry_at hka x, hx]
      show wpAny _ _ (holding [Value.ref p, v] _ >>= _) _ _ _
      refine wpAny_bind (wpAny_holding (wpAny_bind (wpAny_dictFind_heap hu (hia _ hmem) hob hdb hkb hib hnb (fun hno => ?_) fun j q hj => ?_)))
      · have hn : decide (k ∈ ys.map (·.1)) = false := decide_eq_false (not_mem_keys_of_get hno)
        refine wpAny_pure ?_
        show wpAny _ _ (if (!false) = true then _ else _) _ _ _
        rw [if_pos (by decide)]
        have hn' : decide ((k, p, v).fst ∈ ys.map (·.1)) = false := hn
        rw [hn', Bool.false_and] at hpre
        rw [hpre] at h
        exact wpAny_pure (wpAny_pure h)
      · have hjm : (k, q) ∈ ys := List.mem_of_getElem? hj
        have hy : decide ((k, p, v).fst ∈ ys.map (·.1)) = true := decide_eq_true (List.mem_map.mpr ⟨_, hjm, rfl⟩)
        rw [hy, Bool.true_and] at hpre
        refine wpAny_bind (wpAny_dictEntries hob hdb ?_)
        rw [entry_at hkb j, hj]
        have hq : q.2 = .bool true := vb _ hjm
        show wpAny _ _ (holding [q.2] (eqBool v q.2)) _ _ _
        rw [hv, hq]
        refine wpAny_holding (eqBool_tt ?_)
        show wpAny _ _ (if (!true) = true then _ else _) _ _ _
        rw [if_neg (by decide)]
        refine wpAny_bind (wpAny_dictEpoch hoa hda ?_)
        rw [if_neg (by simp)]
        exact wpAny_pure ⟨rfl, rfl, x + 1, hrest, hlt, hpre⟩
    · rintro q s' ⟨rfl, rfl, i, hr, hi, hpre⟩
      have hin : i = es.size := by
        rcases Nat.lt_or_ge i es.size with h | h
        · have e : es.size - i = (es.size - (i + 1)) + 1 := by omega
          rw [e, List.range'_succ] at hr; exact nomatch hr
        · exact Nat.le_antisymm hi h
      refine wpAny_pure ?_
      rw [hin, hla, List.drop_length] at hpre
      rw [hpre] at h
      exact h
theorem kt_vals {H : Hp} : ∀ {ks : List (List Int)} {xs : List (List Key × Addr × Value)}, KT H (ks.map fun k => (k.map Sum.inl, V.bl true)) xs → (∀ x ∈ xs, x.2.2 = .bool true) ∧ xs.map (·.1) = ks.map fun k => k.map Sum.inl
  | [], xs, h => by cases h; exact ⟨(fun _ h => by cases h), rfl⟩
  | k :: ks, xs, h => by
    rw [List.map_cons] at h
    cases h with
    | @cons _ x _ xs h1 h2 =>
      obtain ⟨a, b⟩ := kt_vals h2
      refine ⟨fun y hy => ?_, ?_⟩
      · rcases List.mem_cons.mp hy with rfl | hy
        · exact h1.2.2
        · exact a y hy
      · rw [List.map_cons, List.map_cons, b, ← h1.1]
def eqKs (ks ls : List (List Int)) : Bool := decide (ks.length = ls.length) && ks.all fun k => decide (k ∈ ls)
def rEqT : R2 := fun x y H Q => ∃ a b od od' ks ls, x = .ref a ∧ y = .ref b ∧ H a = some (.frz od (dctH ks)) ∧ H b = some (.frz od' (dctH ls)) ∧ Q (.bl (eqKs ks ls)) H
theorem op_eqT {X : Cx} (hu : X.A.units + 64 < cLine) : OpR X (compareOp .Eq) rEqT := by
  intro pins s σ H x y v u Q I rx ry h
  obtain ⟨a, b, od, od', ks, ls, rfl, rfl, ha, hb, q⟩ := h
  obtain rfl : v = Value.ref a := rx
  obtain rfl : u = Value.ref b := ry
  obtain ⟨z1, y1, xs, rel1, d1⟩ := dt_rd I.hok (.inr ⟨od, ha⟩)
  obtain ⟨z2, y2, ys, rel2, d2⟩ := dt_rd I.hok (.inr ⟨od', hb⟩)
  obtain ⟨v1, k1⟩ := kt_vals rel1
  obtain ⟨v2, k2⟩ := kt_vals rel2
  have l1 : xs.length = ks.length := by have := congrArg List.length k1; simpa using this
  have l2 : ys.length = ls.length := by have := congrArg List.length k2; simpa using this
  have er : hasAll xs ys = eqKs ks ls := by
    rw [Bool.eq_iff_iff, hasAll_iff, l1, l2]
    unfold eqKs
    rw [Bool.and_eq_true, decide_eq_true_iff, List.all_eq_true]
    refine and_congr_right fun _ => ⟨fun h k hk => decide_eq_true ?_, fun h k hk => ?_⟩
    · have := h (k.map Sum.inl) (by rw [k1]; exact List.mem_map.mpr ⟨k, hk, rfl⟩)
      rw [k2] at this
      obtain ⟨l, hl, e⟩ := List.mem_map.mp this
      exact map_inl_inj e ▸ hl
    · rw [k1] at hk
      obtain ⟨l, hl, rfl⟩ := List.mem_map.mp hk
      rw [k2]
      exact List.mem_map.mpr ⟨l, of_decide_eq_true (h l hl), rfl⟩
  show wpAny _ _ (richCompare .Eq (.ref a) (.ref b)) _ _ s
  refine wpAny_richCompare_same_room (op := .Eq) d1.typeIs d2.typeIs PySem.F.slot_dict_eq (wpAny_call_entry PySem.F.slot_dict_eq d1.typeIs PySem.F.entry_dict_eq ?_ (PySem.F.args_dict_eq_2 _ _)) (by omega)
  show wpAny _ _ (Builtin.Dict.dictSlotArgs "__eq__" ⟨[.ref a, .ref b], []⟩ >>= _) _ _ s
  refine wpAny_bind ?_
  unfold Builtin.Dict.dictSlotArgs
  refine wpAny_bind (wpAny_notOrdered_dict d1.typeIs ?_)
  show wpAny _ _ (pure (Value.ref a, Value.ref b)) _ _ s
  refine wpAny_pure ?_
  refine wpAny_bind (wpAny_isInstance (T := "dict") d2.typeIs PySem.F.sub_dict_dict ?_)
  simp only [Bool.not_true, Bool.false_eq_true, if_false]
  refine wpAny_bind (wpAny_pure (wpAny_bind (wpAny_pure ?_)))
  refine wpAny_bind (samePairsT (tupleKind_room_in1 (by omega)) y1 y2 d1 d2 v1 v2 ?_)
  refine wpAny_pure ⟨_, rfl, ?_, ?_⟩
  · exact fun x => nomatch x
  · rw [er]
    refine ⟨.bl (eqKs ks ls), H, I, ?_, q⟩
    show Value.bool _ = Value.bool _
    cases eqKs ks ls <;> rfl
/-! as data -/
def dk1 : PyData × PyData → Option (List Int)
  | (.tuple ds, .bool true) => intL ds
  | _ => none
def dkAll : List (PyData × PyData) → Option (List (List Int))
  | [] => some []
  | x :: xs => (dk1 x).bind fun k => (dkAll xs).bind fun ks => some (k :: ks)
/-- the keys of a dict that is not empty -/
def dk : PyData → Option (List (List Int))
  | .dict (x :: xs) => dkAll (x :: xs)
  | _ => none
theorem intL_ints : ∀ k : List Int, intL (k.map PyData.int) = some k
  | [] => rfl
  | i :: k => by
    show (intL (k.map PyData.int)).bind (fun ns => some (i :: ns)) = _
    rw [intL_ints k]
    rfl
theorem dkAll_dct : ∀ ks : List (List Int), dkAll (ks.map fun k => (.tuple (k.map PyData.int), .bool true)) = some ks
  | [] => rfl
  | k :: ks => by
    show (intL (k.map PyData.int)).bind _ = _
    rw [intL_ints k, Option.bind_some, dkAll_dct ks]
    rfl
theorem dk_dct {k : List Int} {ks : List (List Int)} : dk (dctD (k :: ks)) = some (k :: ks) := dkAll_dct (k :: ks)
def eqTD (x y : PyData) : Option PyData := (dk x).bind fun ks => (dk y).bind fun ls => some (.bool (eqKs ks ls))
theorem dq_dk {K : PySem.W.Frag} {H : Hp} {v : V} {d : PyData} {ks : List (List Int)} (h : Dq K H v d) (e : dk d = some ks) : ∃ a od, v = .ref a ∧ H a = some (.frz od (dctH ks)) := by
  cases h with
  | @scr a ns h1 =>
    cases ns with
    | nil => cases e
    | cons n ns => cases e
  | @dct a od ks' h1 =>
    cases ks' with
    | nil => cases e
    | cons k ks' =>
      have e1 : dk (.dict ((k :: ks').map fun k => (.tuple (k.map PyData.int), .bool true))) = some (k :: ks') := dkAll_dct (k :: ks')
      rw [e1] at e
      cases e
      exact ⟨a, od, rfl, h1⟩
  | _ => cases e
theorem d_eqT {K : PySem.W.Frag} : R2D K rEqT eqTD := by
  intro H O x y dx dy dz tr hx hy hd Q q
  unfold eqTD at hd
  cases h1 : dk dx with
  | none => rw [h1] at hd; cases hd
  | some ks =>
    cases h2 : dk dy with
    | none => rw [h1, h2] at hd; cases hd
    | some ls =>
      rw [h1, h2] at hd
      cases hd
      obtain ⟨a, od, rfl, g1⟩ := dq_dk hx h1
      obtain ⟨b, od', rfl, g2⟩ := dq_dk hy h2
      exact ⟨a, b, od, od', ks, ls, rfl, rfl, (mn_some g1).1, (mn_some g2).1, q _ _ (Ex.refl H) (.bl _)⟩
/-! a list that may still be written to, compared -/
def sNeL (fl gl : En → Option (List PyData)) (env : En) : Option PyData := (fl env).bind fun ds => (gl env).bind fun es => neD (.list ds) (.list es)
theorem ed_neL {X : Cx} {a b : Expr} {fl gl : En → Option (List PyData)} {pos : Pos} (hu : X.A.units + 64 < cLine) (ha : EL X a fl) (hb : EL X b gl) (hm : behindInMarks .NotEq b = false) : ED X (.Compare a [.NotEq] [b] pos) (sNeL fl gl) := by
  obtain ⟨ta, h1, r1⟩ := ha.ex
  obtain ⟨tb, h2, r2⟩ := hb.ex
  refine ED.of ⟨_, pe_cmpR (op_neD hu) h1 h2 hm, fun H0 O0 O H σ env R d hd Q q => ?_⟩
  unfold sNeL at hd
  cases hx : fl env with
  | none => rw [hx] at hd; cases hd
  | some ds =>
    cases hy : gl env with
    | none => rw [hx, hy] at hd; cases hd
    | some es =>
      rw [hx, hy, Option.bind_some, Option.bind_some] at hd
      unfold neD at hd
      obtain ⟨hc, rfl⟩ := iteS hd
      obtain ⟨c1, c2⟩ := Bool.and_eq_true_iff.mp hc
      refine r1 H0 O0 O H σ env R ds hx _ fun p vs H1 e1 p1 p2 => ?_
      refine r2 H0 O0 O H1 σ env (R.up e1) es hy _ fun p' vs' H2 e2 q1 q2 => ?_
      have g1 : Dq X.K H2 (.ref p) (.list ds) := .lst (e2 _ _ p1) (dpa_up mn_le (dpa_up (mn_ex e2) p2))
      have g2 : Dq X.K H2 (.ref p') (.list es) := .lst q1 (dpa_up mn_le q2)
      exact ⟨.list ds, .list es, dq_dp g1 (SeqAt.canLay_of_shaped c1), dq_dp g2 (SeqAt.canLay_of_shaped c2), c1, c2, q _ _ (e1.trans e2) (.bl _)⟩
theorem dt_neL {X : Cx} {a b : Expr} {fl gl : En → Option (List PyData)} {pos : Pos} (hu : X.A.units + 64 < cLine) (ha : EL X a fl) (hb : EL X b gl) (hm : behindInMarks .NotEq b = false) : DT X (.Compare a [.NotEq] [b] pos) (sB (sNeL fl gl)) := by
  obtain ⟨ta, h1, r1⟩ := ha.ex
  obtain ⟨tb, h2, r2⟩ := hb.ex
  refine DT.of ⟨_, pt_cmpR (op_neD hu) h1 h2 hm, fun H0 O0 O H σ env R d hd Q q => ?_⟩
  unfold sB sNeL at hd
  cases hx : fl env with
  | none => rw [hx] at hd; cases hd
  | some ds =>
    cases hy : gl env with
    | none => rw [hx, hy] at hd; cases hd
    | some es =>
      rw [hx, hy, Option.bind_some, Option.bind_some] at hd
      unfold neD at hd
      by_cases hc : (SeqAt.shaped (.list ds) && SeqAt.shaped (.list es)) = true
      · rw [if_pos hc] at hd
        cases hd
        obtain ⟨c1, c2⟩ := Bool.and_eq_true_iff.mp hc
        refine r1 H0 O0 O H σ env R ds hx _ fun p vs H1 e1 p1 p2 => ?_
        refine r2 H0 O0 O H1 σ env (R.up e1) es hy _ fun p' vs' H2 e2 q1 q2 => ?_
        have g1 : Dq X.K H2 (.ref p) (.list ds) := .lst (e2 _ _ p1) (dpa_up mn_le (dpa_up (mn_ex e2) p2))
        have g2 : Dq X.K H2 (.ref p') (.list es) := .lst q1 (dpa_up mn_le q2)
        exact ⟨.list ds, .list es, dq_dp g1 (SeqAt.canLay_of_shaped c1), dq_dp g2 (SeqAt.canLay_of_shaped c2), c1, c2, _, rfl, q _ (e1.trans e2)⟩
      · rw [if_neg hc] at hd; cases hd
end Dz

/-! DzH: defs that refuse; a lambda handed to the def that tells how it ended. -/
namespace Dz
open PySem PySem.Spec PyProof.Rows L2 Evl LamX

/-! ### a lambda is made -/
section
variable {X : Cx} {pins : List (Addr × Obj)} {σ : L2.St} {H : Hp} {s : Shared}
/-- the table grows by a code object that bears the lambdas' name -/
theorem ex_grow {P k : Addr} {ps more : Array Value} (hP : H P = some (.tbl ps)) (hk : H k = none) (ht : TriplesOk ps.toList) (ha : ∀ (p : Pos) (u : Value), codeAmong p ps.toList = some u → ∃ d, u = .ref d ∧ H d = some (CodeO d lamQ))
    {a b : Value} {p0 : Pos} (hm : more = #[rawInt p0.line, rawInt p0.col, .ref k]) : Ex H (upd (upd H P (.tbl (ps ++ more))) k (CodeO k lamQ)) := by
  have nPk : P ≠ k := fun z => by rw [z, hk] at hP; cases hP
  have go : ∀ d o, H d = some o → d ≠ P → upd (upd H P (.tbl (ps ++ more))) k (CodeO k lamQ) d = some o := fun d o e n => by
    have nk : d ≠ k := ne_of_none e hk
    rw [upd_ne nk, upd_ne n]
    exact e
  have atP : upd (upd H P (.tbl (ps ++ more))) k (CodeO k lamQ) P = some (.tbl (ps ++ more)) := by rw [upd_ne nPk, upd_same]
  refine ⟨⟨fun d o e n => go d o e fun z => ?_, fun d qs e => ?_⟩, fun R t => ?_⟩
  · rw [z, hP] at e
    exact n ps (Option.some.inj e).symm
  · by_cases z : d = P
    · rw [z]; exact ⟨_, atP⟩
    · exact ⟨qs, go d _ e z⟩
  · obtain ⟨rs, r1, r2, r3⟩ := t
    have old : ∀ d, H d = some (CodeO d lamQ) → upd (upd H P (.tbl (ps ++ more))) k (CodeO k lamQ) d = some (CodeO d lamQ) := fun d e => go d _ e fun z => by
      rw [z, hP] at e
      exact codeO_ne ps (Option.some.inj e).symm
    by_cases z : R = P
    · subst z
      have el : (ps ++ more).toList = ps.toList ++ [rawInt p0.line, rawInt p0.col, .ref k] := by rw [hm]; simp
      refine ⟨_, atP, by rw [el]; exact PySem.TriplesOk_snoc _ _ _ _ ht, fun p u hu => ?_⟩
      rw [el] at hu
      rcases among_app _ ht hu with w | w
      · obtain ⟨d, w1, w2⟩ := ha p u w
        exact ⟨d, w1, old d w2⟩
      · exact ⟨k, w, upd_same⟩
    · refine ⟨rs, go R _ r1 z, r2, fun p u hu => ?_⟩
      obtain ⟨d, w1, w2⟩ := r3 p u hu
      exact ⟨d, w1, old d w2⟩
theorem not_frame (I : Inv X pins σ H s) {f : Addr} (h : s.heap.objs.size ≤ f) : f ∉ frs X.stack := fun z => by
  rcases List.mem_cons.mp (I.stkSub _ z) with e | e
  · have lt := I.lt
    rw [← e] at lt
    exact Nat.lt_irrefl _ (Nat.lt_of_lt_of_le lt h)
  · exact I.nofs h e
theorem lam_mk {c P : Addr} {prm : Arguments} {bd : Expr} {sc : Scope} {lp : Pos} {E : Value → Shared → Prop} {Q : Value → Shared → Prop} (I : Inv X pins σ H s) (B : TabB X.base X.mg c P) (hc : X.env.code = .ref c) (hq : X.env.qual ++ "<lambda>" = lamQ)
    (T : TabS H P lamQ) (hd : defaultsOf prm X.env = ([], [])) (hf : ∀ y ∈ sc.names, y.2 = .free → ∃ k, X.env.cells.lookup y.1 = some k)
    (go : ∀ (f k : Addr) (pm ct : Value) (H1 : Hp) (s1 : Shared), Inv X pins σ H1 s1 → Ex H H1 → s1.heap.get? f = some (PySem.W.kla_obj "<lambda>" lamQ prm bd sc (cloFrom X.env.cells sc.names []) pm k ct) → H1 f = none → f ∉ frs X.stack → H1 k = some (CodeO k lamQ) → Q (.ref f) s1) :
    wpAny (model X.prog X.w) X.A (eval (.Lambda prm bd sc lp) X.env) Q E s := by
  obtain ⟨ps, hP, ht, ha⟩ := T
  have hs := I.hok P _ hP
  have bB := B.bm.keeps I.bk
  have gB := I.mod.glob.keeps I.bk
  have cB := B.code.keeps I.bk
  refine PySem.W.kla_eval hd ?_
  rw [hq]
  cases hco : codeAmong lp ps.toList with
  | some u =>
    obtain ⟨k, hu, hk⟩ := ha lp u hco
    subst hu
    exact PySem.W.kla_makeFunctionHit (mg := X.mg) (c := c) (P := P) (ps := ps) (closure_ok hf) I.ok.glob gB hc cB hs ht hco bB fun ct h1 tk kp sz =>
      go h1.objs.size k ((X.mg "__name__").getD .none) ct H _ (I.kept fun d o e => Heap.get?_push_of_some _ (kp d o e)) (Ex.refl H) (Heap.get?_push_size _ rfl) (I.hok.fresh sz) (not_frame I sz) hk
  | none =>
    refine PySem.W.kla_makeFunction (mg := X.mg) (c := c) (P := P) (ps := ps) (closure_ok hf) I.ok.glob gB hc cB hs ht hco B.gP bB fun k ct h1 tk kp ge lt rec tb => ?_
    obtain ⟨k2, ok, vs, t, e2, g1, g2, g3⟩ := rec
    cases e2
    have sz : s.heap.objs.size ≤ h1.objs.size := by omega
    have nk : H k = none := I.hok.fresh ge
    refine go h1.objs.size k ((X.mg "__name__").getD .none) ct _ _ (inv_table (t' := tk) (more := #[rawInt lp.line, rawInt lp.col, .ref k]) I hP (fun d o n e => Heap.get?_push_of_some _ (kp d o n e)) (Heap.get?_push_of_some _ tb) ge ⟨ok, vs, t, Heap.get?_push_of_some _ g1, g2, g3⟩)
      (ex_grow (a := .none) (b := .none) hP nk ht ha rfl) (Heap.get?_push_size _ rfl) ?_ (not_frame I sz) upd_same
    rw [upd_ne (Nat.ne_of_gt lt), upd_ne (Nat.ne_of_gt (Nat.lt_of_lt_of_le (Heap.lt_size hs) sz))]
    exact I.hok.fresh sz
end
end Dz

/-! DzI: defs that refuse. -/
namespace Dz
open PySem PySem.Spec PyProof.Rows L2 Evl LamX
/-! ### defs that refuse -/
/-- a refusal, W of the heap it leaves -/
def WR (C : Addr) (W : Hp → Prop) : WX := fun cls d _ H => cls = .ref C ∧ d = none ∧ W H
def XOk (K : PySem.W.Frag) (H0 : Hp) (O0 O : Ow) (H : Hp) (W : Hp → Prop) (D : Ends) : Option Ou → Prop
  | some o => OutOk K H0 O0 O H D o
  | none => ∀ H', Ex H0 H' → W H'
def tDX (K : PySem.W.Frag) (W : Hp → Prop) (g : En → Option (Option Ou)) : TS := fun D σ H => ∃ (H0 : Hp) (O0 O : Ow) (env : En) (r : Option Ou), Rp K H0 O0 O H σ env ∧ g env = some r ∧ XOk K H0 O0 O H W D r
def DX (X : Cx) (W : Hp → Prop) (sts : List Stmt) (g : En → Option (Option Ou)) : Prop := PSs X sts (tDX X.K W g)
def xOk (g : En → Option Ou) (env : En) : Option (Option Ou) := (g env).bind fun o => some (some o)
def xSeqK (k : En → Option (Option Ou)) : Ou → Option (Option Ou)
  | .nx env => k env
  | .rt d => some (some (.rt d))
def xSeq (g : En → Option Ou) (k : En → Option (Option Ou)) (env : En) : Option (Option Ou) := (g env).bind (xSeqK k)
/-- if c: raise -/
def xIf (c : En → Option Bool) (k : En → Option (Option Ou)) (env : En) : Option (Option Ou) := (c env).bind fun b => if b = true then some none else k env
section
variable {X : Cx} {W : Hp → Prop} {st : Stmt} {sts rest : List Stmt} {g : En → Option Ou} {k : En → Option (Option Ou)} {pos : Pos}
theorem DX.of (h : ∃ t, PSs X sts t ∧ ∀ H0 O0 O H σ env, Rp X.K H0 O0 O H σ env → ∀ r, k env = some r → ∀ D, XOk X.K H0 O0 O H W D r → t D σ H) : DX X W sts k := by
  obtain ⟨t, h, p⟩ := h
  exact ⟨fun pins s σ H D I ⟨H0, O0, O, env, r, R, hd, q⟩ => h.run pins s σ H D I (p H0 O0 O H σ env R r hd D q)⟩
theorem dx_ok (h : DSs X sts g) : DX X W sts (xOk g) := .of ⟨_, h, fun H0 O0 O H σ env R r hd D q => by
  unfold xOk at hd
  cases e : g env with
  | none => rw [e] at hd; cases hd
  | some o =>
    rw [e] at hd
    cases hd
    exact ⟨H0, O0, O, env, o, R, e, q⟩⟩
theorem dx_cons (h : DS X st g) (h2 : DX X W rest k) : DX X W (st :: rest) (xSeq g k) := .of ⟨_, pss_cons h h2, fun H0 O0 O H σ env R r hd D q => by
  unfold xSeq at hd
  cases e : g env with
  | none => rw [e] at hd; cases hd
  | some o =>
    rw [e, Option.bind_some] at hd
    refine ⟨H0, O0, O, env, o, R, e, ?_⟩
    cases o with
    | rt d =>
      cases hd
      exact q
    | nx env1 =>
      refine fun O1 H1 σ1 R1 e1 => ⟨H0, O0, O1, env1, r, R1, hd, ?_⟩
      cases r with
      | none => exact q
      | some o =>
        cases o with
        | rt d => exact q
        | nx env2 => exact fun O2 H2 σ2 R2 e2 => q O2 H2 σ2 R2 (e1.trans e2)⟩
theorem dx_fz (i : Nat) {k : En → Option (Option Ou)} (h : DX X W sts k) : DX X W sts (fun env => k (fz i env)) := ⟨fun pins s σ H D I ⟨H0, O0, O, env, r, R, hd, q⟩ => by
  have up : ∀ {O1 H1}, Ed (mn H O) (mn H1 O1) → XOk X.K H0 O0 O1 H1 W D r := fun {O1 H1} e => by
    cases r with
    | none => exact q
    | some o =>
      cases o with
      | rt d => exact q
      | nx env2 => exact fun O2 H2 σ2 R2 e2 => q O2 H2 σ2 R2 (e.trans e2)
  by_cases hn : ∃ ks, env[i]? = some (.dct ks)
  · obtain ⟨ks, hk⟩ := hn
    obtain ⟨a, q1, q2, q3, q4⟩ := R.dct hk
    obtain ⟨od, I1⟩ := I.lock q4 trivial
    obtain ⟨O1, R1, e1⟩ := R.freezeD od hk q1
    refine h.run pins s σ _ D I1 ⟨H0, O0, O1, _, r, R1, ?_, up e1⟩
    have e : fz i env = env.set i (.dat (dctD ks)) := by unfold fz; rw [hk]
    rw [← e]
    exact hd
  · obtain ⟨O1, R1, e1⟩ := R.fz i fun ks hk => hn ⟨ks, hk⟩
    exact h.run pins s σ H D I ⟨H0, O0, O1, _, r, R1, hd, up e1⟩⟩
/-- what the text says of a class of refusals -/
structure Rfs (K : PySem.W.Frag) (mg : Str → Option Value) (x : Str) (C : Addr) : Prop where
  g : mg x = some (.ref C)
  ex : PySem.W.excIn K C HandSPX.veTail "ValueError.__new__" = true
  kp : PySem.W.keepIn K (.ref C) = true
  sb : PySem.W.subIn K (.ref C) (.type "BaseException") = some true
  ty : PySem.W.typeIn K (.ref C) = some (.type "type")
theorem dx_if {c : Expr} {fc : En → Option Bool} {x m : Str} {C : Addr} {j : Nat} {p1 p2 p3 p4 : Pos} (F : Rfs X.K X.mg x C) (hc : X.calm = true) (tk : Takes X (WR C W)) (hg : Gl X x) (h : DT X c fc) (h2 : DX X W rest k) (hdb : (x == ("__debug__" : Str)) = false := by decide) :
    DX X W (.If c [.Raise (some (.Call (.Name x p1) [.Constant (.str m) j p2] [] p3)) none p4] [] pos :: rest) (xIf fc k) := by
  obtain ⟨t, ht, r⟩ := h.ex
  refine .of ⟨_, pss_cons (ps_if ht (pss_one (ps_raise hc tk (pmk_own PySem.F.excBase_ValueError F.ex F.g F.kp (raises_own F.sb F.ty) hg hdb))) pss_nil) h2, fun H0 O0 O H σ env R o hd D q => ?_⟩
  unfold xIf at hd
  cases e : fc env with
  | none => rw [e] at hd; cases hd
  | some b =>
    rw [e, Option.bind_some] at hd
    refine r H0 O0 O H σ env R b e _ fun H1 e1 => ?_
    cases b with
    | true =>
      rw [if_pos rfl] at hd
      cases hd
      rw [if_pos rfl]
      exact ⟨rfl, rfl, q H1 (R.ex.trans e1)⟩
    | false =>
      rw [if_neg Bool.false_ne_true] at hd ⊢
      refine ⟨H0, O0, O, env, o, R.up e1, hd, ?_⟩
      cases o with
      | none => exact q
      | some u =>
        cases u with
        | rt d => exact q
        | nx env2 => exact fun O2 H2 σ2 R2 e2 => q O2 H2 σ2 R2 ((mn_ex e1).trans e2)
end
/-- .. a def's promise -/
def spX (n : Nat) (f : List PyData → Option (Option PyData)) (C : Addr) (K : PySem.W.Frag) : Sp := fun vs H Q E => ∃ (O : Ow) (ds : List PyData) (r : Option PyData), (∀ a, O a = true → Mu (H a)) ∧ ds.length = n ∧ DqA K (mn H O) vs ds ∧ f ds = some r ∧
  (∀ d, r = some d → ∀ v H', Ex H H' → Dq K (mn H' O) v d → Q v H') ∧ (r = none → ∀ H', Ex H H' → E (.ref C) none H')
def runX (n : Nat) (g : En → Option (Option Ou)) (ds : List PyData) : Option (Option PyData) := (g (ds.map Sl.dat ++ List.replicate n Sl.un)).bind fun r => some (r.map rtD)
section
variable {P : Program} {w : World} {K : PySem.W.Frag} {mg : Str → Option Value} {base : Heap}
theorem fn_x {x : Str} {st : Stmt} {f C : Addr} {fd : FuncData} {N ps : List Str} {k n : Nat} {g : En → Option (Option Ou)} (F : C8.Fun K x x st f fd) (S : FnScope N ps (C8.fnScope st)) (hn : N.length = ps.length + n)
    (hbody : ∀ (cdv : Value) (A : Around) (outer : List Env) (s : Shared) (H : Hp) (E : XK), Room k (A.deeper (envOfC x (C8.fnScope st) s.heap.objs.size f cdv)) → DX (cxOf (L2.CX P w) P w K mg base N x (C8.fnScope st) f cdv A outer s H E) (fun H' => E (.ref C) none H') (C8.fnBody st) g) :
    FnOk P w K mg base (L2.CX P w) (k + 1) f fd ps (spX ps.length (runX n g) C K) := by
  obtain ⟨oc, od, dV, kV, doc, pm, an, cdv, ct, osl, rfl, lk, hcd⟩ := F.ex
  refine fn_of lk hcd S (fun vs H Q E h => ?_) fun A outer s H vs Q E hr hsp => ⟨_, hbody cdv A outer s H E hr, ?_⟩
  · obtain ⟨O, ds, d, tr, hl, hd, _⟩ := h
    rw [DqA.len hd, hl]
  · obtain ⟨O, ds, r, tr, hl, hd, hf, q1, q2⟩ := hsp
    unfold runX at hf
    cases hg : g (ds.map Sl.dat ++ List.replicate n Sl.un) with
    | none => rw [hg] at hf; cases hf
    | some o =>
      rw [hg] at hf
      have hlen : N.length - vs.length = n := by rw [DqA.len hd, hl, hn]; omega
      have R := rp_start (K := K) (n := n) tr hd
      refine ⟨H, O, O, _, o, by unfold L2.start; rw [hlen]; exact R, hg, ?_⟩
      have hr : o.map rtD = r := Option.some.inj hf
      cases o with
      | none => exact fun H' e => q2 hr.symm H' e
      | some u =>
        cases u with
        | nx env => exact fun O' H' σ' R' e' => q1 _ hr.symm _ _ R'.ex .non
        | rt d => exact fun v H' e' hv => q1 _ hr.symm v H' e' hv
/-- a def that may refuse, called where it does not -/
theorem fn_x0 {f C : Addr} {fd : FuncData} {ps : List Str} {k n : Nat} {m : List PyData → Option (Option PyData)} (F : FnOk P w K mg base (L2.CX P w) k f fd ps (spX n m C K)) : FnOk P w K mg base C8.CX0 k f fd ps (spD n (fun ds => (m ds).bind id) K) := by
  have im : ∀ vs H Q E, spD n (fun ds => (m ds).bind id) K vs H Q E → spX n m C K vs H Q (fun _ _ _ => False) := fun vs H Q E h => by
    obtain ⟨O, ds, d, tr, hl, hd, hf, q⟩ := h
    have hf : (m ds).bind id = some d := hf
    cases e : m ds with
    | none => rw [e] at hf; cases hf
    | some r =>
      rw [e] at hf
      have hr : r = some d := hf
      subst hr
      exact ⟨O, ds, some d, tr, hl, hd, e, fun d' e' => by cases e'; exact q, fun z => by cases z⟩
  refine ⟨fun vs H Q E h => F.len vs H Q _ (im vs H Q E h), fun A outer s H args us vs Q E hr e0 hb r h => codeAny_mono (F.run A outer s H args us vs Q _ hr e0 hb r (im vs H Q E h)) fun res s' hq => ?_⟩
  cases res with
  | error e =>
    obtain ⟨_, _, _, _, _, _, _, _, _, _, _, _, z⟩ := (show L2.CX P w outer H s (fun _ _ _ => False) e s' from hq)
    exact z.elim
  | ok fl => cases fl <;> exact hq
end
end Dz

/-! DzJ: the def that tells how a deed ended. -/
namespace Dz
open PySem PySem.Spec PyProof.Rows L2 Evl LamX

/-! ### list.count of flat things -/
def rCntF (K : PySem.W.Frag) : V → List V → Hp → VK → Prop := fun x xs H Q => ∃ (p : Addr) (ys : List V) (y : V), x = .ref p ∧ xs = [y] ∧ SqL K H p ys ∧ flatV y = true ∧ ys.all flatV = true ∧ Q (.int ((ys.countP fun z => eqV z y : Nat) : Int)) H
theorem cnt_vals {y : V} : ∀ {ys : List V} {us : List Value}, Vals ys us → ys.all flatV = true → us.countP (eqU y) = ys.countP fun z => eqV z y
  | _, _, .nil, _ => rfl
  | z :: ys, u :: us, .cons r t, f => by
    rw [List.all_cons, Bool.and_eq_true] at f
    rw [List.countP_cons, List.countP_cons, cnt_vals t f.2, eqU_of r f.1]
theorem mt_countF {X : Cx} : MtR X "list.count" (rCntF X.K) := by
  intro pins s σ H x xs v us Q I rx rxs h
  obtain ⟨p, ys, y, rfl, rfl, hs, fy, fys, q⟩ := h
  cases rx
  cases rxs with
  | cons ry rt =>
    rename_i uy ut
    cases rt
    obtain ⟨its, rv, ⟨⟨cls, dd, data, sl⟩, n, ho, hc, hdn, hd⟩, hlen⟩ := I.list hs
    simp only at hc hd
    subst hc hd
    refine call_meets PySem.F.slot_list_count ⟨_, ho, rfl⟩ PySem.F.entry_list_count (PySem.F.args_list_count_2 _ _)
      (SeqAt.list_countAt p its.toArray n dd sl uy (eqU y)) ⟨ho, fun u hu => mem_eqAt ry fy rv fys u (by simpa using hu), ?_⟩
    refine ⟨.int ((ys.countP fun z => eqV z y : Nat) : Int), H, I.tok _, ⟨s.toks, ?_⟩, q⟩
    show Value.int ((its.toArray.toList.countP (eqU y) : Nat) : Int) s.toks = _
    rw [show its.toArray.toList = its from rfl, cnt_vals rv fys]

/-! ### the def that tells -/
def toldN : List Str := ["_law_deed", "_law_kind", "_law_found", "e", "_law_kinds", "_law_good"]
/-- the classes of refusals: C i, all of the one at T -/
structure Kds (K : PySem.W.Frag) (mg : Str → Option Value) (C : Nat → Addr) (T : Addr) : Prop where
  g0 : mg "NoUndo" = some (.ref (C 0))
  g1 : mg "NoPlace" = some (.ref (C 1))
  g2 : mg "NoText" = some (.ref (C 2))
  gT : mg "TableError" = some (.ref T)
  ex : ∀ i, i < 3 → ExcC K (C i)
  em : ∀ i, i < 3 → PySem.W.exmOne K (.ref (C i)) (.ref T) = some true
  ve : ∀ i, i < 3 → PySem.W.kitOne K (.ref (C i)) (.type "ValueError") = some true
  kk : ∀ i j, i < 3 → j < 3 → PySem.W.kitOne K (.ref (C i)) (.ref (C j)) = some (decide (i = j))
/-- the names of its scope -/
structure ToldS (sc : Scope) : Prop where
  fn : FnScope toldN ["_law_deed", "_law_kind"] sc
  lo : ∀ x ∈ toldN, sc.names.lookup x = some .local
  gl : ∀ x ∈ (["isinstance", "ValueError", "NoUndo", "NoPlace", "NoText", "TableError"] : List Str), sc.names.lookup x = some .globalImplicit
def bsK (i : Nat) : List V := [.bl (decide (i = 0)), .bl (decide (i = 1)), .bl (decide (i = 2))]
/-- what is left of a refusal of the class C i, asked for k -/
def RefQ (i : Nat) (k : Int) (Q : VK) (H : Hp) : Prop := ∀ p1 p2, H p1 = none → upd H p1 (.lst (bsK i)) p2 = none → Q (.ref p2) (upd (upd H p1 (.lst (bsK i))) p2 (.tup [.str "refused", .bl (decide ((i : Int) = k))]))
def ToldQ (Q : VK) : VK := fun v H => ([V.str "told", v] : List V).length ≤ sizeLine ∧ ∀ p, H p = none → ∃ u, (some (some (V.ref p)) : Option (Option V)) = some (some u) ∧ Q u (upd H p (.tup [.str "told", v]))
section
variable {X : Cx} {C : Nat → Addr} {T : Addr}
theorem bsk_count {i : Nat} (h : i < 3) : (((bsK i).countP fun z => eqV z (.bl true) : Nat) : Int) = 1 := by
  rcases (by omega : i = 0 ∨ i = 1 ∨ i = 2) with rfl | rfl | rfl <;> rfl
theorem told_in {sc : Scope} (S : ToldS sc) {x : Str} (h : x ∈ toldN) : Loc sc x := .inl (S.lo x h)
theorem told_see {sc : Scope} (S : ToldS sc) {x : Str} (h : x ∈ toldN) : Vis sc x := .inl (S.lo x h)
/-- isinstance(e, c) -/
def tIs (K : PySem.W.Frag) (D a : Addr) (v : V) : TE := tCB (rIsE K D a) (tCons (tVar 3) (tCons (tC v) tNil))
def tIsL (K : PySem.W.Frag) (C : Nat → Addr) (D a : Addr) : TE := tLst (tCons (tIs K D a (.ref (C 0))) (tCons (tIs K D a (.ref (C 1))) (tCons (tIs K D a (.ref (C 2))) tNil)))
def tGood (K : PySem.W.Frag) (D a : Addr) : TE := tAndV (tIs K D a (.ty "ValueError")) (tOp rEq (tBM K "list" (rCntF K) (tVar 4) (tCons (tC (.bl true)) tNil)) (tC (.int 1)))
def tRef (K : PySem.W.Frag) : TE := tTup (tCons (tC (.str "refused")) (tCons (tAndV (tVar 5) (tOp rEq (tBM K "list" (rIndex K) (tVar 4) (tCons (tC (.bl true)) tNil)) (tVar 1))) tNil))
def tSuite (K : PySem.W.Frag) (C : Nat → Addr) (D a : Addr) : TS := tSeq (tAsg (tIsL K C D a) (gName 4)) (tSeq (tAsg (tGood K D a) (gName 5)) (tAsg (tRef K) (gName 2)))
section
variable {a : Addr} {oe : Obj} {pn : List (Addr × Obj)}
theorem pe_isC {D : Addr} {x : Str} {v : V} {p1 p2 p3 p4 : Pos} (hN : X.N = toldN) (S : ToldS X.env.scope) (hi : X.mg "isinstance" = none) (E : ExcC X.K D) (hz : Zc (.ref D) none oe) (hf : ∃ vs, oe.data = .fields vs) (hv : PE (X.suite a ((a, oe) :: pn)) (.Name x p3) (tC v)) :
    PE (X.suite a ((a, oe) :: pn)) (.Call (.Name "isinstance" p1) [.Name "e" p2, .Name x p3] [] p4) (tIs X.K D a v) :=
  pe_callB (call_isE E hz hf) (S.gl "isinstance" (by decide)) hi (by decide +kernel) (pa_cons (pe_var (i := 3) (show X.N[3]? = _ by rw [hN]; rfl) (told_see S (by decide))) (pa_cons hv pa_nil))
theorem suite_ps {D : Addr} {j1 j2 j3 j4 : Nat} {p1 p2 p3 p4 p5 p6 p7 p8 p9 q1 q2 q3 q4 q5 q6 q7 q8 q9 r1 r2 r3 r4 r5 r6 r7 r8 r9 s1 s2 s3 s4 s5 s6 s7 s8 s9 t1 t2 t3 t4 : Pos} (hN : X.N = toldN) (S : ToldS X.env.scope) (M : Kds X.K X.mg C T) (hi : X.mg "isinstance" = none) (hve : X.mg "ValueError" = none) (E : ExcC X.K D) (hz : Zc (.ref D) none oe) (hf : ∃ vs, oe.data = .fields vs) (hl1 : (r4.endLine == r6.line) = true) (hl2 : (s6.endLine == s8.line) = true) :
    PSs (X.suite a ((a, oe) :: pn))
      [.Assign [.Name "_law_kinds" p1] (.List [.Call (.Name "isinstance" p2) [.Name "e" p3, .Name "NoUndo" p4] [] p5, .Call (.Name "isinstance" p6) [.Name "e" p7, .Name "NoPlace" p8] [] p9, .Call (.Name "isinstance" q1) [.Name "e" q2, .Name "NoText" q3] [] q4] q5) q6,
       .Assign [.Name "_law_good" q7] (.BoolOp .And [.Call (.Name "isinstance" q8) [.Name "e" q9, .Name "ValueError" r1] [] r2, .Compare (.Call (.Attribute (.Name "_law_kinds" r3) "count" r4) [.Constant (.bool true) j1 r5] [] r6) [.Eq] [.Constant (.int 1) j2 r7] r8] r9) s1,
       .Assign [.Name "_law_found" s2] (.Tuple [.Constant (.str "refused") j3 s3, .BoolOp .And [.Name "_law_good" s4, .Compare (.Call (.Attribute (.Name "_law_kinds" s5) "index" s6) [.Constant (.bool true) j4 s7] [] s8) [.Eq] [.Name "_law_kind" s9] t1] t2] 0 t3) t4]
      (tSuite X.K C D a) := by
  have nd : (X.suite a ((a, oe) :: pn)).N.Nodup := by show X.N.Nodup; rw [hN]; decide
  have lc : ∀ x ∈ toldN, (X.suite a ((a, oe) :: pn)).fn x = true ∨ (X.suite a ((a, oe) :: pn)).env.scope.names.lookup x = some .local := fun x hx => .inr (S.lo x hx)
  have gc : ∀ {x : Str} {c : Addr} {p : Pos}, x ∈ (["isinstance", "ValueError", "NoUndo", "NoPlace", "NoText", "TableError"] : List Str) → X.mg x = some (.ref c) → (x == ("__debug__" : Str)) = false → PE (X.suite a ((a, oe) :: pn)) (.Name x p) (tC (.ref c)) := fun hx hm hd =>
    pe_glob (S.gl _ hx) hm rfl hd
  have at_ : ∀ {i : Nat} {x : Str}, toldN[i]? = some x → (X.suite a ((a, oe) :: pn)).N[i]? = some x := fun {i x} h => by show X.N[i]? = _; rw [hN]; exact h
  have hcnt := pss_cons (ps_set (pos := q6) (pos' := p1) nd (at_ (i := 4) rfl) (told_in S (by decide)) (pe_lst (pos := q5) (pa_cons (pe_isC (p1 := p2) (p2 := p3) (p4 := p5) hN S hi E hz hf (gc (p := p4) (by decide) M.g0 (by decide))) (pa_cons (pe_isC (p1 := p6) (p2 := p7) (p4 := p9) hN S hi E hz hf (gc (p := p8) (by decide) M.g1 (by decide))) (pa_cons (pe_isC (p1 := q1) (p2 := q2) (p4 := q4) hN S hi E hz hf (gc (p := q3) (by decide) M.g2 (by decide))) pa_nil)))) (hf := lc _ (by decide)))
    (pss_cons (ps_set (pos := s1) (pos' := q7) nd (at_ (i := 5) rfl) (told_in S (by decide)) (pe_and (pos := r9) (pe_isC (p1 := q8) (p2 := q9) (p4 := r2) hN S hi E hz hf (pe_bltn (pos := r1) (v := .ty "ValueError") (S.gl "ValueError" (by decide)) hve (by decide +kernel) rfl))
        (pe_one (pe_cmpR (pos := r8) op_eq (pe_bm (cpos := r6) (apos := r4) PySem.F.plainAttrs_list PySem.F.slot_list_count PySem.F.type_list_count mt_countF (pe_var (pos := r3) (at_ (i := 4) rfl) (told_see S (by decide))) (pa_cons (pe_bl (b := true) (j := j1) (pos := r5)) pa_nil) (hline := hl1)) (pe_int (i := 1) (j := j2) (pos := r7)) (nomark _)))) (hf := lc _ (by decide)))
      (pss_one (ps_set (pos := t4) (pos' := s2) nd (at_ (i := 2) rfl) (told_in S (by decide)) (pe_tup (x1 := 0) (pos := t3) (pa_cons (pe_str (x := "refused") (j := j3) (pos := s3)) (pa_cons (pe_and (pos := t2) (pe_var (pos := s4) (at_ (i := 5) rfl) (told_see S (by decide)))
        (pe_one (pe_cmpR (pos := t1) op_eq (pe_bm (cpos := s8) (apos := s6) PySem.F.plainAttrs_list PySem.F.slot_list_index PySem.F.type_list_index mt_index (pe_var (pos := s5) (at_ (i := 4) rfl) (told_see S (by decide))) (pa_cons (pe_bl (b := true) (j := j4) (pos := s7)) pa_nil) (hline := hl2)) (pe_var (pos := s9) (at_ (i := 1) rfl) (told_see S (by decide))) (nomark _)))) pa_nil))) (hf := lc _ (by decide)))))
  exact hcnt
end
theorem is_ok {K : PySem.W.Frag} {D a : Addr} {v : V} {cv : Value} {b : Bool} {σ : L2.St} {H : Hp} {Q : VK} (h3 : σ[3]? = some (some (.ref a))) (hv : ∀ u, RelV v u → u = cv) (hk : PySem.W.kitOne K (.ref D) cv = some b) (q : Q (.bl b) H) : tIs K D a v σ H Q :=
  ⟨.ref a, h3, v, cv, b, rfl, hv, hk, q⟩
theorem suite_ok {K : PySem.W.Frag} {mg : Str → Option Value} {C : Nat → Addr} {T : Addr} (M : Kds K mg C T) {i : Nat} (hi : i < 3) {D : Ends} {f a : Addr} {k : Int} {z2 z4 z5 : Option V} {H : Hp}
    (q : ∀ p1 p2, H p1 = none → upd H p1 (.lst (bsK i)) p2 = none → D.nx [some (.ref f), some (.int k), some (.ref p2), some (.ref a), some (.ref p1), some (.bl true)] (upd (upd H p1 (.lst (bsK i))) p2 (.tup [.str "refused", .bl (decide ((i : Int) = k))]))) :
    tSuite K C (C i) a D [some (.ref f), some (.int k), z2, some (.ref a), z4, z5] H := by
  refine is_ok rfl (fun u r => r) (M.kk i 0 hi (by decide)) ?_
  refine is_ok rfl (fun u r => r) (M.kk i 1 hi (by decide)) ?_
  refine is_ok rfl (fun u r => r) (M.kk i 2 hi (by decide)) ?_
  refine ⟨by show 3 ≤ sizeLine; decide, fun p1 h1 => ?_⟩
  have hl : SqL K (upd H p1 (.lst (bsK i))) p1 (bsK i) := .inl (.inl upd_same)
  refine is_ok rfl (fun u r => r) (M.ve i hi) ?_
  refine ⟨true, rfl, ?_⟩
  rw [if_pos rfl]
  refine ⟨.ref p1, rfl, .inl ⟨rfl, _, hl⟩, p1, bsK i, .bl true, rfl, rfl, hl, rfl, rfl, ?_⟩
  rw [bsk_count hi]
  refine ⟨rfl, ?_⟩
  refine ⟨.bl (decide (V.int 1 = V.int 1)), rfl, true, by rw [decide_eq_true rfl], ?_⟩
  rw [if_pos rfl]
  refine ⟨.ref p1, rfl, .inl ⟨rfl, _, hl⟩, p1, bsK i, .bl true, i, .bl true, rfl, rfl, hl, rfl, rfl, ?_, rfl, ?_, ?_⟩
  · rcases (by omega : i = 0 ∨ i = 1 ∨ i = 2) with rfl | rfl | rfl <;> rfl
  · intro m z hm hz
    rcases (by omega : i = 0 ∨ i = 1 ∨ i = 2) with rfl | rfl | rfl
    · omega
    · have : m = 0 := by omega
      subst this
      cases hz
      rfl
    · rcases (by omega : m = 0 ∨ m = 1) with rfl | rfl <;> cases hz <;> rfl
  · refine ⟨.int k, rfl, rfl, ?_⟩
    refine ⟨by show 2 ≤ sizeLine; decide, fun p2 h2 => ?_⟩
    have e : decide (V.int (i : Int) = V.int k) = decide ((i : Int) = k) := decide_eq_decide.mpr ⟨fun z => V.int.inj z, fun z => by rw [z]⟩
    rw [e]
    exact q p1 p2 h1 h2
end
/-- the whole def: f is the deed, AA what its call asks of the heap, tl what it gives -/
theorem told_ps {Z : Cx} {C : Nat → Addr} {T f : Addr} {k : Int} {i : Nat} {AA : Hp → Prop} {tl : XK → Hp → VK → Prop} {j1 j2 j3 j4 j5 : Nat} {p1 p2 p3 p4 p5 p6 p7 p8 p9 q1 q2 q3 q4 q5 q6 q7 q8 q9 r1 r2 r3 r4 r5 r6 r7 r8 r9 s1 s2 s3 s4 s5 s6 s7 s8 s9 t1 t2 t3 t4 u1 u2 u3 u4 u5 u6 u7 u8 u9 v1 v2 : Pos}
    (hN : Z.N = toldN) (S : ToldS Z.env.scope) (M : Kds Z.K Z.mg C T) (hi : Z.mg "isinstance" = none) (hve : Z.mg "ValueError" = none) (hs : Z.stack = Z.env :: Z.outer) (hf : Z.env.frame = some Z.env.locals) (hl1 : (r4.endLine == r6.line) = true) (hl2 : (s6.endLine == s8.line) = true)
    (h3 : i < 3) (act : ∀ (W : WX) (pn : List (Addr × Obj)) (xe : Value → Shared → Prop) (p q : Pos), Takes (Z.tr pn xe) W → PE (Z.tr pn xe) (.Call (.Name "_law_deed" p) [] [] q) (fun σ H Q => σ[0]? = some (some (.ref f)) ∧ AA H ∧ ∃ E : XK, (∀ cls d H', E cls d H' → W cls d σ H') ∧ tl E H Q)) :
    PSs Z [.Try [.Assign [.Name "_law_found" u1] (.Tuple [.Constant (.str "told") j5 u2, .Call (.Name "_law_deed" u3) [] [] u4] 0 u5) u6]
      [.ExceptHandler (some (.Name "TableError" u7)) (some "e")
        [.Assign [.Name "_law_kinds" p1] (.List [.Call (.Name "isinstance" p2) [.Name "e" p3, .Name "NoUndo" p4] [] p5, .Call (.Name "isinstance" p6) [.Name "e" p7, .Name "NoPlace" p8] [] p9, .Call (.Name "isinstance" q1) [.Name "e" q2, .Name "NoText" q3] [] q4] q5) q6,
         .Assign [.Name "_law_good" q7] (.BoolOp .And [.Call (.Name "isinstance" q8) [.Name "e" q9, .Name "ValueError" r1] [] r2, .Compare (.Call (.Attribute (.Name "_law_kinds" r3) "count" r4) [.Constant (.bool true) j1 r5] [] r6) [.Eq] [.Constant (.int 1) j2 r7] r8] r9) s1,
         .Assign [.Name "_law_found" s2] (.Tuple [.Constant (.str "refused") j3 s3, .BoolOp .And [.Name "_law_good" s4, .Compare (.Call (.Attribute (.Name "_law_kinds" s5) "index" s6) [.Constant (.bool true) j4 s7] [] s8) [.Eq] [.Name "_law_kind" s9] t1] t2] 0 t3) t4] u8] [] [] u9,
      .Return (some (.Name "_law_found" v1)) v2]
      (fun D σ H => σ = [some (.ref f), some (.int k), none, none, none, none] ∧ AA H ∧ tl (fun cls d H' => cls = .ref (C i) ∧ d = none ∧ RefQ i k D.rt H') H (ToldQ D.rt)) := by
  have nd : Z.N.Nodup := by rw [hN]; decide
  have at_ : ∀ {i : Nat} {x : Str}, toldN[i]? = some x → Z.N[i]? = some x := fun {i x} h => by rw [hN]; exact h
  refine ⟨fun pins s σ H D I h => PSs.run (pss_cons (ps_try_as (pos := u9) (pos' := u8) (np := u7) (X := Z) (x := "TableError") (n := "e") (c := .ref T) (i := 3) (Wout := fun _ _ _ _ => False)
    (body := [.Assign [.Name "_law_found" u1] (.Tuple [.Constant (.str "told") j5 u2, .Call (.Name "_law_deed" u3) [] [] u4] 0 u5) u6])
    (tb := fun W D σ H => ∃ E : XK, (∀ cls d H', E cls d H' → W cls d σ H') ∧ σ[0]? = some (some (.ref f)) ∧ AA H ∧ tl E H fun v H1 => ([V.str "told", v] : List V).length ≤ sizeLine ∧ ∀ p, H1 p = none → D.nx (σ.set 2 (some (.ref p))) (upd H1 p (.tup [.str "told", v])))
    (ts := fun a cls d D σ H => cls = .ref (C i) ∧ d = none ∧ tSuite Z.K C (C i) a D σ H) hs hf nd (at_ rfl) (S.lo "e" (by decide)) ⟨S.gl "TableError" (by decide), by decide, .inl M.gT⟩ L2.takes0
    (fun W pn xe tk _ => ⟨fun pins s σ H D I h => by
      obtain ⟨E, hE, h1, h2, h3⟩ := h
      have hp := pss_one (ps_set (X := Z.tr pn xe) (pos := u6) (pos' := u1) (i := 2) nd (at_ rfl) (told_in S (by decide)) (pe_tup (x1 := 0) (pos := u5) (pa_cons (pe_str (x := "told") (j := j5) (pos := u2)) (pa_cons (act W pn xe u3 u4 tk) pa_nil))) (hf := .inr (S.lo "_law_found" (by decide))))
      exact hp.run pins s σ H D I ⟨h1, h2, E, hE, h3⟩⟩)
    (fun a oe cls d pn hz hfl => ⟨fun pins s σ H D I h => by
      obtain ⟨e1, e2, h⟩ := h
      subst e1 e2
      exact (suite_ps (X := Z) hN S M hi hve (M.ex i h3) hz hfl hl1 hl2).run pins s σ H D I h⟩))
    (pss_one (ps_ret (pos := v2) (pe_var (pos := v1) (i := 2) (at_ rfl) (told_see S (by decide)))))) pins s σ H D I ?_⟩
  obtain ⟨rfl, hA, ht⟩ := h
  refine ⟨fun cls d H' => cls = .ref (C i) ∧ d = none ∧ RefQ i k D.rt H', fun cls d H' h => ?_, rfl, hA, ?_⟩
  · obtain ⟨rfl, rfl, h⟩ := h
    refine ⟨true, M.em i h3, fun _ a _ => ⟨rfl, rfl, ?_⟩, fun z => by cases z⟩
    exact suite_ok M h3 fun p1 p2 n1 n2 => ⟨_, rfl, h p1 p2 n1 n2⟩
  · exact ht
end Dz

/-! DzK: _law_told(lambda: f(..), k). -/
namespace Dz
open PySem PySem.Spec PyProof.Rows L2 Evl LamX

section
variable {X : Cx} {pins : List (Addr × Obj)} {σ : L2.St} {H : Hp} {s : Shared}
/-- the lambda that a def holds in its slot i is called: Z is that def's context -/
theorem pe_deed {Z : Cx} {f c' : Addr} {pm ct : Value} {prm : Arguments} {bd : Expr} {sc : Scope} {k i : Nat} {x : Str} {tb : XK → TE} {p q : Pos} {W : WX}
    (I : Inv X pins σ H s) (L : LamS X.env.scope sc) (ho : s.heap.get? f = some (PySem.W.kla_obj "<lambda>" lamQ prm bd sc (cloFrom X.env.cells sc.names []) pm c' ct)) (hq : X.env.qual ++ "<lambda>" = lamQ) (hn : H f = none) (hfr : f ∉ frs X.stack)
    (hbn : bindArgs (PySem.W.kla_fn "<lambda>" lamQ prm bd sc (cloFrom X.env.cells sc.names []) pm (.ref c') ct) ⟨[], []⟩ = pure [])
    (zp : Z.prog = X.prog) (zw : Z.w = X.w) (zk : Z.K = X.K) (zm : Z.mg = X.mg) (zb : Z.base = X.base) (z0 : Z.s_0 = s) (zh : Z.H_0 = H) (zx : Z.ex = []) (zf : Z.fs = frs X.stack) (tk : Takes Z W) (hr : Room (k + 1) Z.A)
    (hbody : ∀ (E : XK) (A : Around) (out : List Env) (s1 : Shared) (H1 : Hp), Room k (A.deeper (lamEnv X sc s1.heap.objs.size f c')) → PE (lamCx X A out s1 H1 E sc f c') bd (tb E))
    (hN : Z.N[i]? = some x) (hv : Vis Z.env.scope x) (hd : (x == ("__debug__" : Str)) = false := by decide) (hcd : (x == ("__classdict__" : Str)) = false := by decide) :
    PE Z (.Call (.Name x p) [] [] q) (fun σ1 H1 Q => σ1[i]? = some (some (.ref f)) ∧ H1 c' = some (CodeO c' lamQ) ∧ ∃ E : XK, (∀ cls d H2, E cls d H2 → W cls d σ1 H2) ∧ tb E σ H1 Q) := by
  refine ⟨fun pz sz σz Hz Q Iz h => ?_⟩
  obtain ⟨hi, hco, E, hE, ht⟩ := h
  refine wpAny_Call_Name_kw (thn ((pe_var (pos := p) hN hv hd hcd).run pz sz σz Hz (fun v H1 => v = .ref f ∧ H1 = Hz) Iz ⟨_, hi, rfl, rfl⟩) fun u s1 ⟨v, H1, I1, r1, e1, e2⟩ => ?_)
  subst e1 e2
  obtain rfl : u = Value.ref f := r1
  have hof : s1.heap.get? f = some (PySem.W.kla_obj "<lambda>" lamQ prm bd sc (cloFrom X.env.cells sc.names []) pm c' ct) :=
    I1.base.keep f _ (by rw [z0]; exact ho) (by rw [zh]; exact hn) (by rw [zf]; exact hfr) (by rw [zx]; exact fun w => by cases w)
  have un := I1.base
  rw [zf, zx, zh, z0] at un
  have e0 := I1.env0
  rw [zp, zw, zk, zm, zb] at e0
  refine PySem.W.callWith_F0 ⟨_, _, _, _, hof⟩ ?_
  obtain ⟨⟨oc, vs, t, g1, g2, g3⟩, _, _⟩ := I1.hok c' _ hco
  have hq2 : X.env.qual ++ "<lambda>" ++ ".<locals>." = lamQ ++ ".<locals>." := by rw [hq]
  have run : codeAny (model X.prog X.w) Z.A (.call (.ref f) ⟨[], []⟩) (CR (L2.CX X.prog X.w) Z.stack X.prog X.w H1 s1 Q E) s1 := by
    refine PySem.W.kla_callFunE hr.depth hof rfl L.co L.gen rfl ⟨c', oc, vs, t, rfl, g1, g2, g3⟩ ?_
    rw [hbn]
    refine wpAny_pure (wpAny_newFunctionEnv (fun y hy => (L.own y hy).2) (fun y hy => by cases hy) (fun hp ns sb => ⟨I1.nolimit.fresh _ sb, ?_⟩) L.kind)
    have kp : ∀ b o, s1.heap.get? b = some o → hp.get? b = some o := fun b o e => sb.extBut b o (Nat.ne_of_lt (Heap.lt_size e)) (Heap.get?_push_of_some _ e)
    have J : Inv (lamCx X Z.A Z.stack s1 H1 E sc f c') [] σ H1 { s1 with heap := hp, toks := s1.toks + ([] : List (Str × Value)).length } := lam_start2 I L e0 hr.hd un ns kp
    show codeAny _ _ (.expr bd (PySem.W.envX lamQ sc s1.heap.objs.size f (.ref c') (cloFrom X.env.cells sc.names []))) _ _
    rw [← hq]
    refine PySem.W.kla_codeExpr (wpAny_mono ((hbody E _ _ s1 H1 (hr.deeper _)).run [] _ _ H1 Q J ht) (fun v s2 g => ?_) fun e s2 g => g)
    obtain ⟨w2, H2, J2, r2, q2⟩ := g
    exact ⟨w2, H2, J2.os, J2.bare, J2.base, J2.hok, r2, q2⟩
  rw [← zp, ← zw] at run
  refine wpAny_call (codeAny_mono run fun r s2 g => ?_)
  cases r with
  | error e => exact tk e s2 (XE.of_call I1 (fun cls d H2 h2 => hE cls d H2 h2) g)
  | ok fl =>
    cases fl with
    | ret u => exact I1.after g
    | next => exact False.elim g
    | brk => exact False.elim g
    | cont => exact False.elim g
end

/-- the text of the def that tells does so, whatever the context -/
def TellsBody (st : Stmt) : Prop := ∀ {Z : Cx} {C : Nat → Addr} {T f : Addr} {k : Int} {i : Nat} {AA : Hp → Prop} {tl : XK → Hp → VK → Prop}, Z.N = toldN → ToldS Z.env.scope → Kds Z.K Z.mg C T → Z.mg "isinstance" = none → Z.mg "ValueError" = none → Z.stack = Z.env :: Z.outer → Z.env.frame = some Z.env.locals → i < 3 →
  (∀ (W : WX) (pn : List (Addr × Obj)) (xe : Value → Shared → Prop) (p q : Pos), Takes (Z.tr pn xe) W → PE (Z.tr pn xe) (.Call (.Name "_law_deed" p) [] [] q) (fun σ H Q => σ[0]? = some (some (.ref f)) ∧ AA H ∧ ∃ E : XK, (∀ cls d H', E cls d H' → W cls d σ H') ∧ tl E H Q)) →
  PSs Z (C8.fnBody st) (fun D σ H => σ = [some (.ref f), some (.int k), none, none, none, none] ∧ AA H ∧ tl (fun cls d H' => cls = .ref (C i) ∧ d = none ∧ RefQ i k D.rt H') H (ToldQ D.rt))
/-- the def that tells, as it stands behind the top -/
structure Tells (K : PySem.W.Frag) (mg : Str → Option Value) (C : Nat → Addr) (T : Addr) : Prop where
  ex : ∃ (st : Stmt) (g : Addr) (fd : FuncData), C8.Def K mg "_law_told" st g fd ∧ Binds K fd ["_law_deed", "_law_kind"] [] ∧ ToldS (C8.fnScope st) ∧ TellsBody st
  M : Kds K mg C T
  hi : mg "isinstance" = none
  hv : mg "ValueError" = none
/-- the maker's code object and its table -/
structure Mkr (X : Cx) (P : Addr) : Prop where
  ex : ∃ c, X.env.code = .ref c ∧ TabB X.base X.mg c P
  hq : X.env.qual ++ "<lambda>" = lamQ
def tldD (i : Nat) (k : Int) : Option PyData → PyData
  | some d => .tuple [.str "told", d]
  | none => .tuple [.str "refused", .bool (decide ((i : Int) = k))]
/-- _law_told(lambda: f(..), k) -/
def sTold (P : Addr) (it i : Nat) (k : Int) (m : List PyData → Option (Option PyData)) (fl : En → Option (List PyData)) (env : En) : Option PyData := match env[it]? with
  | some (.tab P') => if P' = P then (fl env).bind fun ds => (m ds).bind fun r => some (tldD i k r) else none
  | _ => none
theorem tldD_told {K : PySem.W.Frag} {H1 : Hp} {O : Ow} {d : PyData} {v : V} {p : Addr} (tr : ∀ a, O a = true → Mu (H1 a)) (h : Dq K (mn H1 O) v d) (hp : H1 p = none) : Dq K (mn (upd H1 p (.tup [.str "told", v])) O) (.ref p) (.tuple [.str "told", d]) :=
  nu_tup tr (.cons (.str _) (.cons h .nil)) hp
section
variable {X : Cx} {P : Addr} {C : Nat → Addr} {T : Addr}
/-- the deed's body -/
def tDeed (K : PySem.W.Frag) (n : Nat) (m : List PyData → Option (Option PyData)) (D : Addr) (fl : En → Option (List PyData)) (E : XK) : TE := fun σ H Q => tDA K fl σ H fun vs H1 => spX n m D K vs H1 Q E
theorem pe_deedb {A : Around} {out : List Env} {s1 : Shared} {H1 : Hp} {E : XK} {sc : Scope} {f c' : Addr} {y : Str} {e : Expr} {es : List Expr} {fl : En → Option (List PyData)} {n k j : Nat} {m : List PyData → Option (Option PyData)} {D g : Addr} {fd : FuncData} {ps : List Str} {p pos : Pos}
    (F : FnOk X.prog X.w X.K X.mg X.base (L2.CX X.prog X.w) k g fd ps (spX n m D X.K)) (hr : Room j (A.deeper (lamEnv X sc s1.heap.objs.size f c'))) (hk : k ≤ j) (hg : Gl (lamCx X A out s1 H1 E sc f c') y) (hm : X.mg y = some (.ref g)) (kp : PySem.W.keepIn X.K (.ref g) = true) (b : Binds X.K fd ps [])
    (ha : DA (lamCx X A out s1 H1 E sc f c') (e :: es) fl) (hdb : (y == ("__debug__" : Str)) = false := by decide)
    (he : starEach (e :: es) (lamCx X A out s1 H1 E sc f c').env = (false, eval e (lamCx X A out s1 H1 E sc f c').env) :: starEach es (lamCx X A out s1 H1 E sc f c').env := by rfl) (hpl : (backTo pos (starEach es (lamCx X A out s1 H1 E sc f c').env)).any (·.1) = false := by rfl) :
    PE (lamCx X A out s1 H1 E sc f c') (.Call (.Name y p) (e :: es) [] pos) (tDeed X.K n m D fl E) := by
  have q := pe_call (X := lamCx X A out s1 H1 E sc f c') (p := p) (pos := pos) (E := E) (F.mono hk) hr hg hm kp b .nil (passes_call (W := fun cls d _ H => E cls d H) (takes_of (X := lamCx X A out s1 H1 E sc f c') (E := E) rfl rfl rfl rfl) fun _ _ _ _ h => h) ha hdb he hpl
  refine ⟨fun pins s σ H Q I h => q.run pins s σ H Q I ?_⟩
  obtain ⟨H0, O0, O, env, ds, R, hd, w⟩ := h
  exact ⟨H0, O0, O, env, ds, R, hd, fun vs H' e1 hv => by show spX n m D X.K (vs ++ []) H' Q E; rw [List.append_nil]; exact w vs H' e1 hv⟩
theorem ed_told {it i n k : Nat} {kk : Int} {m : List PyData → Option (Option PyData)} {fl : En → Option (List PyData)} {prm : Arguments} {bd : Expr} {sc : Scope} {j : Nat} {p lp kp pos : Pos} (TT : Tells X.K X.mg C T) (MM : Mkr X P) (hi3 : i < 3) (hr : Room (k + 2) X.A) (hg : Gl X "_law_told")
    (L : LamS X.env.scope sc) (hdef : defaultsOf prm X.env = ([], [])) (hbn : ∀ (q : Str) (cl : List (Str × Addr)) (pm cv ctv : Value), bindArgs (PySem.W.kla_fn "<lambda>" q prm bd sc cl pm cv ctv) ⟨[], []⟩ = pure [])
    (hbody : ∀ (E : XK) (A : Around) (out : List Env) (s1 : Shared) (H1 : Hp) (f c' : Addr), Room k (A.deeper (lamEnv X sc s1.heap.objs.size f c')) → PE (lamCx X A out s1 H1 E sc f c') bd (tDeed X.K n m (C i) fl E)) (hn : ∀ env ds, fl env = some ds → ds.length = n) :
    ED X (.Call (.Name "_law_told" p) [.Lambda prm bd sc lp, .Constant (.int kk) j kp] [] pos) (sTold P it i kk m fl) := by
  obtain ⟨st, g, fd, D, B, S, BD⟩ := TT.ex
  obtain ⟨c, hc, TB⟩ := MM.ex
  refine ⟨fun pins s σ H Q I ⟨H0, O0, O, env, d, R, hd, q⟩ => ?_⟩
  unfold sTold at hd
  split at hd
  case h_2 => cases hd
  rename_i P' hP
  split at hd
  case isFalse => cases hd
  rename_i hPP
  subst hPP
  cases e1 : fl env with
  | none => rw [e1] at hd; cases hd
  | some ds =>
    rw [e1, Option.bind_some] at hd
    cases e2 : m ds with
    | none => rw [e2] at hd; cases hd
    | some r =>
      rw [e2] at hd
      have hd' : tldD i kk r = d := Option.some.inj hd
      subst hd'
      have tb : TabS H P' lamQ := R.sl it _ hP
      refine wpAny_Call_Name_kw (ld_glob I hg D.mgf ?_ (by decide))
      refine PySem.W.callWith_K (h₀ := X.base) I.ok.mod.kin D.kp ?_ (by rfl) (by rfl)
      refine Calls.spliced_cons (lam_mk I TB hc MM.hq tb hdef (L.has I.ok) fun f c' pm ct H1 s1 I1 ex1 ho hfn hfr hco => ?_)
      show wpAny _ _ (spliced [(false, eval (.Constant (.int kk) j kp) X.env)]) _ _ s1
      refine Calls.spliced_cons (wpAny_Constant_int ?_)
      refine Calls.spliced_nil ⟨I1.kIn, ?_⟩
      have I2 := I1.tok (s1.toks + 1)
      obtain ⟨oc, od, dV, kV, doc, pmg, an, cdv, ctv, osl, efd, lk, hcd⟩ := D.fn.ex
      subst efd
      have Rn := R.up ex1
      have rc : codeAny (model X.prog X.w) X.A (.call (.ref g) ⟨[.ref f, .int kk s1.toks], []⟩) (CR C8.CX0 X.stack X.prog X.w H1 { s1 with toks := s1.toks + 1 } Q C8.E0) { s1 with toks := s1.toks + 1 } := by
        refine run_ofS (N := toldN) (ps := ["_law_deed", "_law_kind"]) (us := [.ref f, .int kk s1.toks]) (vs := [.ref f, .int kk]) lk hcd S.fn hr I2.env0 (B _ [.ref f, .int kk s1.toks] I2.kIn rfl) (.cons rfl (.cons ⟨_, rfl⟩ .nil)) rfl fun hr2 => ?_
        have hZ := BD (Z := (cxOf C8.CX0 X.prog X.w X.K X.mg X.base toldN "_law_told" (C8.fnScope st) g cdv X.A X.stack { s1 with toks := s1.toks + 1 } H1 C8.E0).nox) (C := C) (T := T) (f := f) (k := kk) (i := i) (AA := fun H => H c' = some (CodeO c' lamQ))
          (tl := fun E H Q => tDeed X.K n m (C i) fl E σ H Q) rfl S TT.M TT.hi TT.hv rfl rfl hi3 fun W pn xe p q tk =>
            pe_deed (i := 0) I2 L ho MM.hq hfn hfr (hbn _ _ _ _ _) rfl rfl rfl rfl rfl rfl rfl rfl rfl tk hr2 (fun E A out s1 H1 hr3 => hbody E A out s1 H1 f c' hr3) rfl (told_see S (by decide))
        refine ⟨_, hZ.nox, rfl, hco, H0, O0, O, env, ds, Rn, e1, fun vs H3 ex3 hv => ⟨O, ds, r, (Rn.up ex3).tr, hn env ds e1, hv, e2, fun d' er v H4 ex4 hd4 => ?_, fun er H4 ex4 => ⟨rfl, rfl, fun b1 b2 n1 n2 => ?_⟩⟩⟩
        · subst er
          refine ⟨by show 2 ≤ sizeLine; decide, fun b nb => ⟨_, rfl, q _ _ (((ex1.trans ex3).trans ex4).trans (Ex.new nb)) (tldD_told ((Rn.up ex3).up ex4).tr hd4 nb)⟩⟩
        · subst er
          have ex5 : Ex H (upd H4 b1 (.lst (bsK i))) := ((ex1.trans ex3).trans ex4).trans (Ex.new n1)
          exact q _ _ (ex5.trans (Ex.new n2)) (nu_tup (R.up ex5).tr (.cons (.str _) (.cons (.bl _) .nil)) n2)
      refine wpAny_call (codeAny_mono rc fun res s2 g => ?_)
      cases res with
      | error e => exact (show False from g).elim
      | ok fl =>
        cases fl with
        | ret u => exact I2.after g
        | next => exact False.elim g
        | brk => exact False.elim g
        | cont => exact False.elim g
end
end Dz

/-! DzL: the law that makes lambdas; defs that refuse, called. -/
namespace Dz
open PySem PySem.Spec PyProof.Rows L2 Evl LamX

/-- a def that may refuse, under its name -/
structure XCal (P : Program) (w : World) (K : PySem.W.Frag) (mg : Str → Option Value) (base : Heap) (k : Nat) (x : Str) (n : Nat) (m : List PyData → Option (Option PyData)) (C : Addr) : Prop where
  ex : ∃ (f : Addr) (fd : FuncData) (ps : List Str), FnOk P w K mg base (L2.CX P w) k f fd ps (spX n m C K) ∧ mg x = some (.ref f) ∧ PySem.W.keepIn K (.ref f) = true ∧ Binds K fd ps []
/-- what it gives where it does not refuse -/
def mOk (m : List PyData → Option (Option PyData)) (ds : List PyData) : Option PyData := (m ds).bind id
theorem XCal.cal {P : Program} {w : World} {K : PySem.W.Frag} {mg : Str → Option Value} {base : Heap} {k : Nat} {x : Str} {n : Nat} {m : List PyData → Option (Option PyData)} {C : Addr} (c : XCal P w K mg base k x n m C) : C8.Cal P w K mg base k x (spD n (mOk m) K) [] := by
  obtain ⟨f, fd, ps, F, hm, kp, b⟩ := c.ex
  exact ⟨f, fd, ps, [], fn_x0 F, hm, kp, b, .nil⟩
theorem takes_r {P : Program} {w : World} {K : PySem.W.Frag} {mg : Str → Option Value} {base : Heap} {N : List Str} {x : Str} {sc : Scope} {f C : Addr} {cd : Value} {A : Around} {out : List Env} {s : Shared} {H : Hp} {E : XK} :
    Takes (cxOf (L2.CX P w) P w K mg base N x sc f cd A out s H E) (WR C fun H' => E (.ref C) none H') := by
  refine (takes_of (X := cxOf (L2.CX P w) P w K mg base N x sc f cd A out s H E) (E := E) rfl rfl rfl rfl).imp fun cls d σ H' h => ?_
  obtain ⟨rfl, rfl, h⟩ := h
  exact h
section
variable {X : Cx} {C : Nat → Addr}
theorem pe_deedx {A : Around} {out : List Env} {s1 : Shared} {H1 : Hp} {E : XK} {sc : Scope} {f c' : Addr} {y : Str} {e : Expr} {es : List Expr} {fl : En → Option (List PyData)} {n k : Nat} {m : List PyData → Option (Option PyData)} {D : Addr} {p pos : Pos}
    (c : XCal X.prog X.w X.K X.mg X.base k y n m D) (hr : Room k (A.deeper (lamEnv X sc s1.heap.objs.size f c'))) (hg : Gl (lamCx X A out s1 H1 E sc f c') y)
    (ha : DA (lamCx X A out s1 H1 E sc f c') (e :: es) fl) (hdb : (y == ("__debug__" : Str)) = false := by decide)
    (he : starEach (e :: es) (lamCx X A out s1 H1 E sc f c').env = (false, eval e (lamCx X A out s1 H1 E sc f c').env) :: starEach es (lamCx X A out s1 H1 E sc f c').env := by rfl) (hpl : (backTo pos (starEach es (lamCx X A out s1 H1 E sc f c').env)).any (·.1) = false := by rfl) :
    PE (lamCx X A out s1 H1 E sc f c') (.Call (.Name y p) (e :: es) [] pos) (tDeed X.K n m D fl E) := by
  obtain ⟨g, fd, ps, F, hm, kp, b⟩ := c.ex
  exact pe_deedb F hr (Nat.le_refl _) hg hm kp b ha hdb he hpl
end
/-! ### the law -/
def spT (n : Nat) (f : List PyData → Option PyData) (T : Addr) (K : PySem.W.Frag) : Sp := fun vs H Q _ => ∃ (O : Ow) (ds : List PyData) (d : PyData), (∀ a, O a = true → Mu (H a)) ∧ ds.length = n ∧ DqA K (mn H O) vs ds ∧ f ds = some d ∧ TabS H T lamQ ∧ ∀ v H', Ex H H' → Dq K (mn H' O) v d → Q v H'
def runT (T : Addr) (n : Nat) (g : En → Option Ou) (ds : List PyData) : Option PyData := (g (ds.map Sl.dat ++ List.replicate n Sl.un ++ [.tab T])).bind fun r => some (rtD r)
section
variable {P : Program} {w : World} {K : PySem.W.Frag} {mg : Str → Option Value} {base : Heap}
theorem rp_tab {H : Hp} {O : Ow} {vs : List V} {ds : List PyData} {n : Nat} {T : Addr} (tr : ∀ a, O a = true → Mu (H a)) (h : DqA K (mn H O) vs ds) (t : TabS H T lamQ) : Rp K H O O H (vs.map some ++ List.replicate (n + 1) none) (ds.map Sl.dat ++ List.replicate n Sl.un ++ [.tab T]) := by
  have R := (rp_start (K := K) (n := n + 1) tr h).put (ds.length + n) (x := none) (s := .tab T) (fun _ => t) fun _ _ _ _ _ w _ => w
  have hl := DqA.len h
  have e1 : (vs.map some ++ List.replicate (n + 1) (none : Option V)).set (ds.length + n) none = vs.map some ++ List.replicate (n + 1) none := by
    rw [List.set_append_right _ _ (by rw [List.length_map]; omega), List.length_map, hl, Nat.add_sub_cancel_left]
    congr 1
    apply List.ext_getElem
    · simp
    · intro i h1 h2
      simp [List.getElem_set]
  have e2 : (ds.map Sl.dat ++ List.replicate (n + 1) Sl.un).set (ds.length + n) (.tab T) = ds.map Sl.dat ++ List.replicate n Sl.un ++ [.tab T] := by
    rw [List.set_append_right _ _ (by rw [List.length_map]; omega), List.length_map, Nat.add_sub_cancel_left, List.append_assoc]
    congr 1
    rw [List.replicate_succ', List.set_append_right _ _ (by simp)]
    simp
  rw [e1, e2] at R
  exact R
theorem fn_t {x : Str} {st : Stmt} {f c T : Addr} {fd : FuncData} {N ps : List Str} {k n : Nat} {g : En → Option Ou} (F : C8.Fun K x x st f fd) (hc : fd.code = .ref c) (S : FnScope N ps (C8.fnScope st)) (hn : N.length = ps.length + (n + 1))
    (hbody : ∀ (A : Around) (outer : List Env) (s : Shared) (H : Hp) (E : XK), Room k (A.deeper (envOfC x (C8.fnScope st) s.heap.objs.size f (.ref c))) → DSs (cxOf C8.CX0 P w K mg base N x (C8.fnScope st) f (.ref c) A outer s H E).nox (C8.fnBody st) g) :
    FnOk P w K mg base C8.CX0 (k + 1) f fd ps (spT ps.length (runT T n g) T K) := by
  obtain ⟨oc, od, dV, kV, doc, pm, an, cdv, ct, osl, rfl, lk, hcd⟩ := F.ex
  have e : cdv = .ref c := hc
  subst e
  refine fn_of lk hcd S (fun vs H Q E h => ?_) fun A outer s H vs Q E hr hsp => ⟨_, (hbody A outer s H E hr).nox, ?_⟩
  · obtain ⟨O, ds, d, tr, hl, hd, _⟩ := h
    rw [DqA.len hd, hl]
  · obtain ⟨O, ds, d, tr, hl, hd, hf, t, q⟩ := hsp
    unfold runT at hf
    cases hg : g (ds.map Sl.dat ++ List.replicate n Sl.un ++ [.tab T]) with
    | none => rw [hg] at hf; cases hf
    | some r =>
      rw [hg] at hf
      have hlen : N.length - vs.length = n + 1 := by rw [DqA.len hd, hl, hn]; omega
      refine ⟨H, O, O, _, r, by unfold L2.start; rw [hlen]; exact rp_tab (K := K) (n := n) tr hd t, hg, ?_⟩
      cases r with
      | nx env =>
        cases hf
        exact fun O' H' σ' R' e' => q _ _ R'.ex .non
      | rt d' =>
        cases hf
        exact fun v H' e' hv => q v H' e' hv
theorem sp_endT {H : Hp} {a T : Addr} {ns : List Int} {f : List PyData → Option PyData} {E : XK} (h : f [scrD ns] = some (.bool true)) (hS : SqL K H a (ns.map V.int)) (hT : H T = some (.tbl #[])) : spT 1 f T K [.ref a] H (fun v _ => v = .bl true) E := by
  obtain ⟨O, ds, d, h1, h2, h3, h4, h5⟩ := sp_end (E := E) h hS
  exact ⟨O, ds, d, h1, h2, h3, h4, .nil hT, h5⟩
end
def cls3 (a b c : Addr) : Nat → Addr
  | 0 => a
  | 1 => b
  | _ => c
theorem kds_of {K : PySem.W.Frag} {mg : Str → Option Value} {a b c T : Addr} (g0 : mg "NoUndo" = some (.ref a)) (g1 : mg "NoPlace" = some (.ref b)) (g2 : mg "NoText" = some (.ref c)) (gT : mg "TableError" = some (.ref T))
    (x0 : ExcC K a) (x1 : ExcC K b) (x2 : ExcC K c) (m0 : PySem.W.exmOne K (.ref a) (.ref T) = some true) (m1 : PySem.W.exmOne K (.ref b) (.ref T) = some true) (m2 : PySem.W.exmOne K (.ref c) (.ref T) = some true)
    (v0 : PySem.W.kitOne K (.ref a) (.type "ValueError") = some true) (v1 : PySem.W.kitOne K (.ref b) (.type "ValueError") = some true) (v2 : PySem.W.kitOne K (.ref c) (.type "ValueError") = some true)
    (k00 : PySem.W.kitOne K (.ref a) (.ref a) = some true) (k01 : PySem.W.kitOne K (.ref a) (.ref b) = some false) (k02 : PySem.W.kitOne K (.ref a) (.ref c) = some false)
    (k10 : PySem.W.kitOne K (.ref b) (.ref a) = some false) (k11 : PySem.W.kitOne K (.ref b) (.ref b) = some true) (k12 : PySem.W.kitOne K (.ref b) (.ref c) = some false)
    (k20 : PySem.W.kitOne K (.ref c) (.ref a) = some false) (k21 : PySem.W.kitOne K (.ref c) (.ref b) = some false) (k22 : PySem.W.kitOne K (.ref c) (.ref c) = some true) : Kds K mg (cls3 a b c) T := by
  refine ⟨g0, g1, g2, gT, fun i h => ?_, fun i h => ?_, fun i h => ?_, fun i j h h' => ?_⟩
  · match i, h with
    | 0, _ => exact x0
    | 1, _ => exact x1
    | 2, _ => exact x2
  · match i, h with
    | 0, _ => exact m0
    | 1, _ => exact m1
    | 2, _ => exact m2
  · match i, h with
    | 0, _ => exact v0
    | 1, _ => exact v1
    | 2, _ => exact v2
  · match i, j, h, h' with
    | 0, 0, _, _ => exact k00
    | 0, 1, _, _ => exact k01
    | 0, 2, _, _ => exact k02
    | 1, 0, _, _ => exact k10
    | 1, 1, _, _ => exact k11
    | 1, 2, _, _ => exact k12
    | 2, 0, _, _ => exact k20
    | 2, 1, _, _ => exact k21
    | 2, 2, _, _ => exact k22
end Dz

/-! DzM: texts: walked, joined, split, turned, read as numbers. -/
namespace Dz
open PySem PySem.Spec PyProof.Rows L2 Evl RZ HT

/-! ### walked -/
def asSig : PyData → Option (List PyData)
  | .str z => some (z.cps.toList.map fun c => .str ⟨#[c]⟩)
  | _ => none
def sSig (f : En → Option PyData) (env : En) : Option (List PyData) := (f env).bind asSig
theorem wk_str {K : PySem.W.Frag} {F F1 : Hp} {z : Str} : Wk K F F1 (z.cps.toList.map fun c => .str ⟨#[c]⟩) (Its z) := by
  unfold Wk
  rw [List.length_map, Array.length_toList]
  refine Walk.mono walk_str (fun _ _ => trivial) fun i H2 x H3 hi e y => ?_
  obtain ⟨rfl, c, hc, rfl⟩ := y
  exact ⟨.str ⟨#[c]⟩, by rw [List.getElem?_map, Array.getElem?_toList, hc]; rfl, Ex.refl _, fun _ _ _ => .str _⟩
section
variable {X : Cx} {tg e o : Expr} {f fa fb : En → Option PyData} {fl : En → Option (List PyData)} {pos apos cpos : Pos}
theorem di_str (h : ED X e f) : DI X tg e (sSig f) := by
  obtain ⟨t, ht, r⟩ := h.ex
  refine DI.of ⟨_, pi_str ht, fun H0 O0 O H σ env R ds hd Q q => ?_⟩
  unfold sSig at hd
  cases hf : f env with
  | none => rw [hf] at hd; cases hd
  | some d =>
    rw [hf, Option.bind_some] at hd
    refine r H0 O0 O H σ env R d hf _ fun v H' e1 q1 => ?_
    cases q1 with
    | str z =>
      cases hd
      exact ⟨z, rfl, q _ _ e1 wk_str⟩
    | _ => cases hd

/-! ### joined -/
def asS : PyData → Option Str
  | .str z => some z
  | _ => none
def strL : List PyData → Option (List Str)
  | [] => some []
  | d :: ds => (asS d).bind fun x => (strL ds).bind fun xs => some (x :: xs)
theorem strL_v {K : PySem.W.Frag} {H : Hp} : ∀ {ds : List PyData} {vs : List V} {ys : List Str}, DqA K H vs ds → strL ds = some ys → vs = ys.map V.str
  | [], _, _, h, e => by cases h; cases e; rfl
  | d :: ds, _, ys, h, e => by
    cases h with
    | @cons v vs _ _ h1 h2 =>
      unfold strL at e
      cases hx : asS d with
      | none => rw [hx] at e; cases e
      | some x =>
        rw [hx, Option.bind_some] at e
        cases hy : strL ds with
        | none => rw [hy] at e; cases e
        | some xs =>
          rw [hy, Option.bind_some] at e
          have e : x :: xs = ys := Option.some.inj e
          subst e
          cases h1 with
          | str z =>
            cases hx
            rw [strL_v h2 hy]
            rfl
          | _ => cases hx
def jnS (a : Str) (ys : List Str) : Option PyData := if (ys.map (·.length)).sum + ys.length * a.length ≤ 16777216 then some (.str (Txt.join a ys)) else none
def sJoin (fa : En → Option PyData) (fl : En → Option (List PyData)) (env : En) : Option PyData := (fa env).bind fun d => (asS d).bind fun a => (fl env).bind fun ds => (strL ds).bind fun ys => jnS a ys
theorem ed_join (ho : ED X o fa) (he : EL X e fl)
    (hbase : attributeBase o "join" X.env (eval o X.env) = eval o X.env := by rfl)
    (hfew : ((backTo cpos (starEach [e] X.env)).all (fun x => !x.1) && (backToKw cpos (keywordEach [] X.env)).all (fun x => x.1.isSome)
      && decide (([e] : List Expr).length + ([] : List Keyword).length + (if ([] : List Keyword).isEmpty then 0 else 1) < 30)) = true := by rfl)
    (hline : (apos.endLine == cpos.line) = true := by rfl) (hs : starEach [e] X.env = (false, eval e X.env) :: starEach [] X.env := by rfl) (hplain : (backTo cpos (starEach [] X.env)).any (·.1) = false := by rfl) :
    ED X (.Call (.Attribute o "join" apos) [e] [] cpos) (sJoin fa fl) := by
  obtain ⟨ta, h1, r1⟩ := ho.ex
  obtain ⟨te, h2, r2⟩ := he.ex
  refine ED.of ⟨_, pe_bm PySem.F.plainAttrs_str PySem.F.slot_str_join PySem.F.type_str_join mt_join h1 (pa_cons h2 pa_nil hs) hbase hfew hline hs hplain, fun H0 O0 O H σ env R d hd Q q => ?_⟩
  unfold sJoin at hd
  cases hx : fa env with
  | none => rw [hx] at hd; cases hd
  | some da =>
    rw [hx, Option.bind_some] at hd
    cases ha : asS da with
    | none => rw [ha] at hd; cases hd
    | some a =>
      rw [ha, Option.bind_some] at hd
      cases hy : fl env with
      | none => rw [hy] at hd; cases hd
      | some ds =>
        rw [hy, Option.bind_some] at hd
        cases hz : strL ds with
        | none => rw [hz] at hd; cases hd
        | some ys =>
          rw [hz, Option.bind_some] at hd
          obtain ⟨hl, rfl⟩ := iteS hd
          refine r1 H0 O0 O H σ env R da hx _ fun v H1 e1 q1 => ?_
          cases q1 with
          | str z =>
            cases ha
            refine ⟨rfl, r2 H0 O0 O H1 σ env (R.up e1) ds hy _ fun p vs H2 e2 hp hv => ?_⟩
            have ev := strL_v hv hz
            subst ev
            exact ⟨_, p, ys, rfl, rfl, .inl (.inl (.inl hp)), hl, q _ _ (e1.trans e2) (.str _)⟩
          | _ => cases ha

/-! ### split -/
def spS (a b : Str) : Option (List PyData) := if (b.length == 0) = false ∧ a.length + 2 ≤ sizeLine then some ((Txt.split a b).map .str) else none
def sSplit (fa fb : En → Option PyData) (env : En) : Option (List PyData) := (fa env).bind fun d => (asS d).bind fun a => (fb env).bind fun d => (asS d).bind fun b => spS a b
theorem dqa_strs {K : PySem.W.Frag} {H : Hp} : ∀ ys : List Str, DqA K H (ys.map V.str) (ys.map PyData.str)
  | [] => .nil
  | y :: ys => .cons (.str y) (dqa_strs ys)
theorem en_split (ho : ED X o fa) (he : ED X e fb)
    (hbase : attributeBase o "split" X.env (eval o X.env) = eval o X.env := by rfl)
    (hfew : ((backTo cpos (starEach [e] X.env)).all (fun x => !x.1) && (backToKw cpos (keywordEach [] X.env)).all (fun x => x.1.isSome)
      && decide (([e] : List Expr).length + ([] : List Keyword).length + (if ([] : List Keyword).isEmpty then 0 else 1) < 30)) = true := by rfl)
    (hline : (apos.endLine == cpos.line) = true := by rfl) (hs : starEach [e] X.env = (false, eval e X.env) :: starEach [] X.env := by rfl) (hplain : (backTo cpos (starEach [] X.env)).any (·.1) = false := by rfl) :
    EN X (.Call (.Attribute o "split" apos) [e] [] cpos) (sSplit fa fb) := by
  obtain ⟨ta, h1, r1⟩ := ho.ex
  obtain ⟨te, h2, r2⟩ := he.ex
  refine EN.of ⟨_, pe_bm PySem.F.plainAttrs_str PySem.F.slot_str_split PySem.F.type_str_split mt_split h1 (pa_cons h2 pa_nil hs) hbase hfew hline hs hplain, fun H0 O0 O H σ env R d hd Q q => ?_⟩
  unfold sSplit at hd
  cases hx : fa env with
  | none => rw [hx] at hd; cases hd
  | some da =>
    rw [hx, Option.bind_some] at hd
    cases ha : asS da with
    | none => rw [ha] at hd; cases hd
    | some a =>
      rw [ha, Option.bind_some] at hd
      cases hy : fb env with
      | none => rw [hy] at hd; cases hd
      | some db =>
        rw [hy, Option.bind_some] at hd
        cases hb : asS db with
        | none => rw [hb] at hd; cases hd
        | some b =>
          rw [hb, Option.bind_some] at hd
          unfold spS at hd
          obtain ⟨⟨hz, hl⟩, rfl⟩ := iteS hd
          refine r1 H0 O0 O H σ env R da hx _ fun v H1 e1 q1 => ?_
          cases q1 with
          | str za =>
            cases ha
            refine ⟨rfl, r2 H0 O0 O H1 σ env (R.up e1) db hy _ fun w H2 e2 q2 => ?_⟩
            cases q2 with
            | str zb =>
              cases hb
              exact ⟨_, _, rfl, rfl, hz, hl, fun p hp => q p _ _ ((e1.trans e2).trans (Ex.new hp)) (fresh_back (e1.trans e2).toEd hp) upd_same (dqa_strs _)⟩
            | _ => cases hb
          | _ => cases ha

/-! ### read as a number -/
def intS : List PyData → Option PyData
  | [.str a] => if a.length ≤ 640 then (intText? a).bind fun n => some (.int n) else none
  | _ => none
theorem d_intS {K : PySem.W.Frag} : RCD K (fun xs H Q => ∃ a n, xs = [.str a] ∧ intText? a = some n ∧ a.length ≤ 640 ∧ Q (.int n) H) intS := by
  intro H O vs ds dz tr hv hd Q q
  match ds, vs, hv, hd with
  | [.str a], _, .cons (.str _) .nil, hd =>
    obtain ⟨hl, hd⟩ : a.length ≤ 640 ∧ ((intText? a).bind fun n => some (PyData.int n)) = some dz := by
      have hd : (if a.length ≤ 640 then (intText? a).bind fun n => some (PyData.int n) else none) = some dz := hd
      by_cases h : a.length ≤ 640
      · rw [if_pos h] at hd; exact ⟨h, hd⟩
      · rw [if_neg h] at hd; cases hd
    cases hn : intText? a with
    | none => rw [hn] at hd; cases hd
    | some n =>
      rw [hn] at hd
      cases hd
      exact ⟨a, n, rfl, hn, hl, q _ _ (Ex.refl H) (.int _)⟩

/-! ### turned round -/
def bkS (z : Str) : Str := ⟨((Builtin.Str.strSliceIndices none none (-1) z.length).filterMap (z.cps[·]?)).toArray⟩
def tRevS (te : TE) : TE := fun σ H Q => te σ H fun x H1 => ∃ z, x = .str z ∧ (bkS z).length ≤ sizeLine ∧ Q (.str (bkS z)) H1
theorem pe_revS {te : TE} {k : Nat} {p1 p2 p3 : Pos} (he : PE X e te) : PE X (.Subscript e (.Slice none none (some (.UnaryOp .USub (.Constant (.int 1) k p1) p2)) p3) pos) (tRevS te) := by
  refine ⟨fun pins s σ H Q I h => ?_⟩
  refine Subscript_ (thn (he.run pins s σ H _ I h) fun v s1 ⟨x, H1, I1, r1, q1⟩ => ?_)
  obtain ⟨z, ex, hl, q⟩ := q1
  subst ex
  obtain ⟨t, rfl⟩ := r1
  have hst : PO X (some (.UnaryOp .USub (.Constant (.int 1) k p1) p2)) (tPart (tUn (rU fun i => .int (-i)) (tC (.int 1)))) := po_some (pe_un un_neg pe_int)
  refine wpAny_Slice (thn (po_none.run pins s1 σ H1 (fun o H2 => o = none ∧ H2 = H1) I1 ⟨rfl, rfl⟩) fun vl s2 ⟨l, H2, I2, pl, el, e2⟩ => ?_)
  subst el e2
  refine thn (po_none.run pins s2 σ H2 (fun o H3 => o = none ∧ H3 = H2) I2 ⟨rfl, rfl⟩) fun vu s3 ⟨u, H3, I3, pu, eu, e3⟩ => ?_
  subst eu e3
  refine thn (hst.run pins s3 σ H3 (fun o H4 => o = some (-1) ∧ H4 = H3) I3 ⟨1, rfl, -1, rfl, rfl, rfl⟩) fun vs s4 ⟨o, H4, I4, ps, eo, e4⟩ => ?_
  subst eo e4
  have I5 : Inv X pins σ H4 { s4 with heap := s4.heap.push { cls := .type "slice", data := .fields #[vl, vu, vs] } } := I4.kept (t' := s4.toks) fun b ob q => Heap.get?_push_of_some _ q
  obtain ⟨l, rfl, el⟩ := IsPart.raw pl
  obtain ⟨u, rfl, eu⟩ := IsPart.raw pu
  obtain ⟨w, rfl, ew⟩ := IsPart.raw ps
  obtain ⟨os, hos, hcs, hds⟩ := Heap.IsSliceOf.new s4.heap (partValue l) (partValue u) (partValue w)
  refine tail_any (ops := [.str z t, .ref s4.heap.objs.size]) (typeIs_str _ z t) PySem.F.slot_str_getitem.lookup (wpAny_getItem_str_slice (l := l) (u := u) (st := w) ⟨os, hos, hcs, hds⟩ (by rw [ew]; decide) ?_) (by with_unfolding_all rfl)
  have e1 : slicePicked z l u w = Builtin.Str.strSliceIndices none none (-1) z.length := by unfold slicePicked; rw [el, eu, ew]; rfl
  have e2 : sliceMade z t l u w = Made.str (bkS z) := by
    unfold sliceMade
    rw [e1, ew]
    exact if_neg (by simp)
  rw [e2]
  exact ⟨hl, .str (bkS z), H4, I5.tok _, ⟨_, rfl⟩, q⟩
def revS : PyData → Option PyData
  | .str z => if (bkS z).length ≤ sizeLine then some (.str (bkS z)) else none
  | _ => none
theorem ed_revS {k : Nat} {p1 p2 p3 : Pos} (h : ED X e f) : ED X (.Subscript e (.Slice none none (some (.UnaryOp .USub (.Constant (.int 1) k p1) p2)) p3) pos) (s1 revS f) := by
  obtain ⟨t, h1, r1⟩ := h.ex
  refine .of ⟨_, pe_revS h1, fun H0 O0 O H σ env R d hd Q q => ?_⟩
  unfold s1 at hd
  cases hx : f env with
  | none => rw [hx] at hd; cases hd
  | some dx =>
    rw [hx, Option.bind_some] at hd
    cases dx with
    | str z =>
      obtain ⟨hl, rfl⟩ := iteS hd
      refine r1 H0 O0 O H σ env R _ hx _ fun v H1 e1 q1 => ?_
      cases q1 with
      | str _ => exact ⟨z, rfl, hl, q _ _ e1 (.str _)⟩
    | _ => cases hd
end
end Dz

/-! Pl1: how the meanings are reckoned with. -/
namespace Dz
open PySem (PyData Str sizeLine)

/-! ### comprehensions -/
theorem lcGo_map {α : Type} {body : PyData → Option (Option PyData)} {h k : α → PyData} : ∀ {xs : List α}, (∀ x ∈ xs, body (h x) = some (some (k x))) → lcGo body (xs.map h) = some (xs.map k)
  | [], _ => rfl
  | x :: xs, hb => by
    show (body (h x)).bind (fun r => (lcGo body (xs.map h)).bind fun rs => some (lcPut r rs)) = _
    rw [hb x List.mem_cons_self, lcGo_map fun y hy => hb y (List.mem_cons_of_mem _ hy)]
    rfl
theorem lcGo_filter {α : Type} {body : PyData → Option (Option PyData)} {h k : α → PyData} {p : α → Bool} : ∀ {xs : List α}, (∀ x ∈ xs, body (h x) = some (if p x = true then some (k x) else none)) → lcGo body (xs.map h) = some ((xs.filter p).map k)
  | [], _ => rfl
  | x :: xs, hb => by
    show (body (h x)).bind (fun r => (lcGo body (xs.map h)).bind fun rs => some (lcPut r rs)) = _
    rw [hb x List.mem_cons_self, lcGo_filter fun y hy => hb y (List.mem_cons_of_mem _ hy)]
    cases hp : p x <;> simp [hp, lcPut]
theorem sLc_map {α : Type} {fi : En → Option (List PyData)} {gt : PyData → En → Option En} {ft : En → Option Bool} {fe : En → Option PyData} {vs : List Nat} {env : En} {xs : List α} {h k : α → PyData}
    (hi : fi env = some (xs.map h)) (hl : xs.length ≤ 16777216) (hb : ∀ x ∈ xs, lcB gt ft fe (wipeE env vs) (h x) = some (some (k x))) : sLc fi gt ft fe vs env = some (xs.map k) := by
  unfold sLc
  rw [hi, Option.bind_some, if_pos (by rw [List.length_map]; exact hl)]
  exact lcGo_map hb
theorem sLc_filter {α : Type} {fi : En → Option (List PyData)} {gt : PyData → En → Option En} {ft : En → Option Bool} {fe : En → Option PyData} {vs : List Nat} {env : En} {xs : List α} {h k : α → PyData} {p : α → Bool}
    (hi : fi env = some (xs.map h)) (hl : xs.length ≤ 16777216) (hb : ∀ x ∈ xs, lcB gt ft fe (wipeE env vs) (h x) = some (if p x = true then some (k x) else none)) : sLc fi gt ft fe vs env = some ((xs.filter p).map k) := by
  unfold sLc
  rw [hi, Option.bind_some, if_pos (by rw [List.length_map]; exact hl)]
  exact lcGo_filter hb

/-! ### loops -/
def turn (gt : PyData → En → Option En) (body : En → Option Ou) (ks : List Nat) (d : PyData) (env : En) : Option Ou := (gt d env).bind fun env1 => (body env1).bind (oK fun env2 => some (.nx (kl ks env2)))
theorem forGo_cons {gt : PyData → En → Option En} {body : En → Option Ou} {ks : List Nat} {d : PyData} {ds : List PyData} {env : En} : forGo gt body ks (d :: ds) env = (turn gt body ks d env).bind (oK (forGo gt body ks ds)) := by
  show (gt d env).bind (fun env1 => (body env1).bind (oK fun env2 => forGo gt body ks ds (kl ks env2))) = _
  unfold turn
  cases gt d env with
  | none => rfl
  | some env1 =>
    simp only [Option.bind_some]
    cases body env1 with
    | none => rfl
    | some r => cases r <;> rfl
theorem forGo_fold {α σ : Type} {gt : PyData → En → Option En} {body : En → Option Ou} {ks : List Nat} (mk : σ → En) (h : α → PyData) (step : σ → α → σ) : ∀ (xs : List α) (s : σ),
    (∀ s, ∀ x ∈ xs, turn gt body ks (h x) (mk s) = some (.nx (mk (step s x)))) → forGo gt body ks (xs.map h) (mk s) = some (.nx (mk (xs.foldl step s)))
  | [], _, _ => rfl
  | x :: xs, s, hs => by
    rw [List.map_cons, forGo_cons, hs s x List.mem_cons_self]
    exact forGo_fold mk h step xs (step s x) fun s y hy => hs s y (List.mem_cons_of_mem _ hy)
/-- .. with a word that holds between the turns -/
theorem forGo_inv {α σ : Type} {gt : PyData → En → Option En} {body : En → Option Ou} {ks : List Nat} (mk : σ → En) (h : α → PyData) (step : σ → α → σ) (P : σ → Prop) : ∀ (xs : List α) (s : σ), P s →
    (∀ s, P s → ∀ x ∈ xs, turn gt body ks (h x) (mk s) = some (.nx (mk (step s x))) ∧ P (step s x)) → forGo gt body ks (xs.map h) (mk s) = some (.nx (mk (xs.foldl step s))) ∧ P (xs.foldl step s)
  | [], _, p, _ => ⟨rfl, p⟩
  | x :: xs, s, p, hs => by
    rw [List.map_cons, forGo_cons, (hs s p x List.mem_cons_self).1]
    exact forGo_inv mk h step P xs (step s x) (hs s p x List.mem_cons_self).2 fun s q y hy => hs s q y (List.mem_cons_of_mem _ hy)
theorem gFor_fold {α σ : Type} {fi : En → Option (List PyData)} {gt : PyData → En → Option En} {body : En → Option Ou} {ks : List Nat} {env : En} (mk : σ → En) (h : α → PyData) (step : σ → α → σ) (xs : List α) (s : σ)
    (hi : fi env = some (xs.map h)) (h0 : kl ks env = mk s) (hs : ∀ s, ∀ x ∈ xs, turn gt body ks (h x) (mk s) = some (.nx (mk (step s x)))) : gFor fi gt body ks env = some (.nx (mk (xs.foldl step s))) := by
  unfold gFor
  rw [hi, Option.bind_some, h0]
  exact forGo_fold mk h step xs s hs
theorem gFor_inv {α σ : Type} {fi : En → Option (List PyData)} {gt : PyData → En → Option En} {body : En → Option Ou} {ks : List Nat} {env : En} (mk : σ → En) (h : α → PyData) (step : σ → α → σ) (P : σ → Prop) (xs : List α) (s : σ)
    (hi : fi env = some (xs.map h)) (h0 : kl ks env = mk s) (p : P s) (hs : ∀ s, P s → ∀ x ∈ xs, turn gt body ks (h x) (mk s) = some (.nx (mk (step s x))) ∧ P (step s x)) : gFor fi gt body ks env = some (.nx (mk (xs.foldl step s))) := by
  unfold gFor
  rw [hi, Option.bind_some, h0]
  exact (forGo_inv mk h step P xs s p hs).1
/-- the state told by what has been gone through -/
theorem forGo_pre {α : Type} {gt : PyData → En → Option En} {body : En → Option Ou} {ks : List Nat} (mk : List α → En) (h : α → PyData) : ∀ (post pre : List α),
    (∀ l x r, pre ++ post = l ++ x :: r → turn gt body ks (h x) (mk l) = some (.nx (mk (l ++ [x])))) → forGo gt body ks (post.map h) (mk pre) = some (.nx (mk (pre ++ post)))
  | [], pre, _ => by rw [List.append_nil]; rfl
  | x :: post, pre, hs => by
    rw [List.map_cons, forGo_cons, hs pre x post rfl]
    show forGo gt body ks (post.map h) (mk (pre ++ [x])) = _
    rw [forGo_pre mk h post (pre ++ [x]) fun l y r e => hs l y r (by rw [← e, List.append_assoc]; rfl), List.append_assoc]
    rfl
theorem gFor_pre {α : Type} {fi : En → Option (List PyData)} {gt : PyData → En → Option En} {body : En → Option Ou} {ks : List Nat} {env : En} (mk : List α → En) (h : α → PyData) (xs : List α)
    (hi : fi env = some (xs.map h)) (h0 : kl ks env = mk []) (hs : ∀ l x r, xs = l ++ x :: r → turn gt body ks (h x) (mk l) = some (.nx (mk (l ++ [x])))) : gFor fi gt body ks env = some (.nx (mk xs)) := by
  unfold gFor
  rw [hi, Option.bind_some, h0]
  exact forGo_pre mk h xs [] hs
theorem pre_len {α : Type} {xs l r : List α} {x : α} (e : xs = l ++ x :: r) : l.length < xs.length := by
  rw [e, List.length_append, List.length_cons]
  omega
theorem bd_ok {α β : Type} {x : Option α} {a : α} {f : α → Option β} (h : x = some a) : x.bind f = f a := by rw [h]; rfl
theorem as_ok {g : List PyData → Option PyData} {a : En → Option (List PyData)} {env : En} {x : List PyData} (h : a env = some x) : sAs g a env = g x := bd_ok h
theorem seq_ok {g k : En → Option Ou} {env env1 : En} (h : g env = some (.nx env1)) : gSeq g k env = k env1 := bd_ok h
theorem seq_rt {g k : En → Option Ou} {env : En} {d : PyData} (h : g env = some (.rt d)) : gSeq g k env = some (.rt d) := bd_ok h
theorem set_ok {i : Nat} {f : En → Option PyData} {env : En} {d : PyData} (h : f env = some d) : gSet i f env = some (.nx (env.set i (.dat d))) := bd_ok h
theorem setN_ok {i : Nat} {f : En → Option (List PyData)} {env : En} {d : List PyData} (h : f env = some d) : gSetN i f env = some (.nx (env.set i (.own d))) := bd_ok h
theorem ret_ok {f : En → Option PyData} {env : En} {d : PyData} (h : f env = some d) : gRet f env = some (.rt d) := bd_ok h
theorem if_t {c : En → Option Bool} {g k : En → Option Ou} {env : En} (h : c env = some true) : gIf c g k env = g env := bd_ok h
theorem if_f {c : En → Option Bool} {g k : En → Option Ou} {env : En} (h : c env = some false) : gIf c g k env = k env := bd_ok h
theorem s2_ok {f : PyData → PyData → Option PyData} {a b : En → Option PyData} {env : En} {x y : PyData} (ha : a env = some x) (hb : b env = some y) : s2 f a b env = f x y := by
  unfold s2
  rw [ha, hb]
  rfl
theorem var_ok {i : Nat} {env : En} {d : PyData} (h : env[i]? = some (.dat d)) : sVar i env = some d := by
  unfold sVar
  rw [h]
theorem own_ok {i : Nat} {env : En} {ds : List PyData} (h : env[i]? = some (.own ds)) : sOwn i env = some ds := by
  unfold sOwn
  rw [h]
theorem ownd_ok {i : Nat} {env : En} {ds : List PyData} (h : env[i]? = some (.dat (.list ds))) : sOwn i env = some ds := by
  unfold sOwn
  rw [h]
theorem c_ok {env : En} {d : PyData} : sC d env = some d := rfl
theorem nil_ok {env : En} : sNil env = some [] := rfl
theorem s2_to {f : PyData → PyData → Option PyData} {a b : En → Option PyData} {env : En} {x y z : PyData} (ha : a env = some x) (hb : b env = some y) (hf : f x y = some z) : s2 f a b env = some z := (s2_ok ha hb).trans hf
theorem s1_to {f : PyData → Option PyData} {a : En → Option PyData} {env : En} {x z : PyData} (ha : a env = some x) (hf : f x = some z) : s1 f a env = some z := (bd_ok ha).trans hf
theorem as_to {g : List PyData → Option PyData} {a : En → Option (List PyData)} {env : En} {x : List PyData} {z : PyData} (h : a env = some x) (hg : g x = some z) : sAs g a env = some z := (bd_ok h).trans hg
theorem ar_to {g : List PyData → Option (List PyData)} {a : En → Option (List PyData)} {env : En} {x z : List PyData} (h : a env = some x) (hg : g x = some z) : sArg g a env = some z := (bd_ok h).trans hg
theorem seq_to {g k : En → Option Ou} {env env1 : En} {o : Option Ou} (h : g env = some (.nx env1)) (hk : k env1 = o) : gSeq g k env = o := (seq_ok h).trans hk
theorem lst_ok {a : En → Option (List PyData)} {env : En} {ds : List PyData} (h : a env = some ds) : sLst a env = some (.list ds) := by
  unfold sLst
  rw [h]
  rfl
theorem nw_to {g : PyData → Option (List PyData)} {a : En → Option PyData} {env : En} {x : PyData} {z : List PyData} (h : a env = some x) (hg : g x = some z) : sNw g a env = some z := (bd_ok h).trans hg
theorem q_to {a : En → Option PyData} {env : En} {x : PyData} {z : List PyData} (h : a env = some x) (hg : asQ x = some z) : sQ a env = some z := (bd_ok h).trans hg
theorem l_to {a : En → Option PyData} {env : En} {z : List PyData} (h : a env = some (.list z)) : sL a env = some z := (bd_ok h).trans rfl
theorem asg_to {f : En → Option PyData} {gt : PyData → En → Option En} {env env1 : En} {d : PyData} (h : f env = some d) (hg : gt d env = some env1) : gAsg f gt env = some (.nx env1) := by
  unfold gAsg
  rw [h, Option.bind_some, hg]
  rfl
theorem cons_ok {a : En → Option PyData} {r : En → Option (List PyData)} {env : En} {x : PyData} {xs : List PyData} (ha : a env = some x) (hb : r env = some xs) : sCons a r env = some (x :: xs) := by
  unfold sCons
  rw [ha, hb]
  rfl
theorem lcB_ok {gt : PyData → En → Option En} {ft : En → Option Bool} {fe : En → Option PyData} {env1 env2 : En} {d x : PyData} (h1 : gt d env1 = some env2) (h2 : ft env2 = some true) (h3 : fe env2 = some x) : lcB gt ft fe env1 d = some (some x) := by
  unfold lcB
  rw [h1, Option.bind_some, h2, Option.bind_some, if_pos rfl, h3]
  rfl
theorem lcB_if {gt : PyData → En → Option En} {ft : En → Option Bool} {fe : En → Option PyData} {env1 env2 : En} {d x : PyData} {b : Bool} (h1 : gt d env1 = some env2) (h2 : ft env2 = some b) (h3 : b = true → fe env2 = some x) : lcB gt ft fe env1 d = some (if b = true then some x else none) := by
  unfold lcB
  rw [h1, Option.bind_some, h2, Option.bind_some]
  cases b with
  | true => rw [if_pos rfl, if_pos rfl, h3 rfl]; rfl
  | false => rfl
theorem and_ok {a b : En → Option Bool} {env : En} {x y : Bool} (ha : a env = some x) (hb : x = true → b env = some y) : sAnd a b env = some (x && y) := by
  refine (bd_ok ha).trans ?_
  cases x with
  | true => rw [if_pos rfl, hb rfl]; rfl
  | false => rfl
theorem or_ok {a b : En → Option Bool} {env : En} {x y : Bool} (ha : a env = some x) (hb : x = false → b env = some y) : sOr a b env = some (x || y) := by
  refine (bd_ok ha).trans ?_
  cases x with
  | false => rw [if_neg Bool.false_ne_true, hb rfl]; rfl
  | true => rfl
theorem not_ok {a : En → Option Bool} {env : En} {x : Bool} (ha : a env = some x) : sNot a env = some (!x) := bd_ok ha
theorem ifset_ok {c : En → Option Bool} {i : Nat} {f : En → Option PyData} {env : En} {b : Bool} {d0 d1 : PyData} (hc : c env = some b) (hf : b = true → f env = some d1) (h0 : env.set i (.dat d0) = env) : gIf c (gSet i f) gNext env = some (.nx (env.set i (.dat (if b = true then d1 else d0)))) := by
  cases b with
  | true => exact (if_t hc).trans (set_ok (hf rfl))
  | false =>
    refine (if_f hc).trans ?_
    rw [if_neg Bool.false_ne_true, h0]
    rfl
theorem turn_to {gt : PyData → En → Option En} {body : En → Option Ou} {ks : List Nat} {d : PyData} {env env1 env2 env3 : En} (h1 : gt d env = some env1) (h2 : body env1 = some (.nx env2)) (h3 : kl ks env2 = env3) : turn gt body ks d env = some (.nx env3) := by
  unfold turn
  rw [h1, Option.bind_some, h2, Option.bind_some, ← h3]
  rfl
theorem wh_t {c : En → Option Bool} {body : En → Option Ou} {ks : List Nat} {n : Nat} {env env1 : En} (hc : c env = some true) (hb : body env = some (.nx env1)) : whGo c body ks (n + 1) env = whGo c body ks n (kl ks env1) := by
  show (c env).bind (fun b => if b = true then (body env).bind (oK fun env2 => whGo c body ks n (kl ks env2)) else some (.nx env)) = _
  rw [hc, Option.bind_some, if_pos rfl, hb]
  rfl
theorem wh_f {c : En → Option Bool} {body : En → Option Ou} {ks : List Nat} {n : Nat} {env : En} (hc : c env = some false) : whGo c body ks (n + 1) env = some (.nx env) := by
  show (c env).bind (fun b => if b = true then (body env).bind (oK fun env2 => whGo c body ks n (kl ks env2)) else some (.nx env)) = _
  rw [hc]
  rfl
theorem sB_ok {a : En → Option PyData} {env : En} {b : Bool} (h : a env = some (.bool b)) : sB a env = some b := bd_ok h
theorem run_ok {n : Nat} {g : En → Option Ou} {ds : List PyData} {d : PyData} (h : g (ds.map Sl.dat ++ List.replicate n Sl.un) = some (.rt d)) : runB n g ds = some d := bd_ok h
/-- x.append(e), done -/
theorem app_ok {i : Nat} {f : En → Option PyData} {env : En} {ds : List PyData} {d : PyData} (h : env[i]? = some (.own ds)) (hf : f env = some d) (hl : ds.length < 16777216) : gApp i f env = some (.nx (env.set i (.own (ds ++ [d])))) := by
  unfold gApp
  rw [h]
  show (f env).bind _ = _
  rw [hf, Option.bind_some]
  exact if_pos hl
end Dz

/-! Pl2: rests by a prime, rows and tables of them, as data. -/
namespace Dz
open PySem (PyData Str sizeLine)

class Pr (p : Nat) : Prop where
  is : p = 2 ∨ p = 3 ∨ p = 5
instance : Pr 2 := ⟨.inl rfl⟩
instance : Pr 3 := ⟨.inr (.inl rfl)⟩
instance : Pr 5 := ⟨.inr (.inr rfl)⟩
instance prNZ {p : Nat} [h : Pr p] : NeZero p := ⟨by rcases h.is with h | h | h <;> omega⟩
theorem Pr.le {p : Nat} [h : Pr p] : 2 ≤ p ∧ p ≤ 5 := by rcases h.is with h | h | h <;> omega

/-- a whole number as data -/
abbrev eN (n : Nat) : PyData := .int (n : Int)
abbrev eI {p : Nat} (x : Fin p) : PyData := .int (x.val : Int)
abbrev fr (n : Nat) : List (Fin n) := List.finRange n
def eR {p n : Nat} (v : Fin n → Fin p) : PyData := .tuple ((fr n).map fun i => eI (v i))
abbrev Mt (p r c : Nat) : Type := Fin r → Fin c → Fin p
def eT {p r c : Nat} (A : Mt p r c) : PyData := .tuple ((fr r).map fun i => eR (A i))
/-- rows, as a list -/
def eRs {p n : Nat} (vs : List (Fin n → Fin p)) : List PyData := vs.map eR

theorem fr_len (n : Nat) : (fr n).length = n := List.length_finRange
theorem fr_get {n i : Nat} (h : i < n) : (fr n)[i]? = some ⟨i, h⟩ := by
  rw [List.getElem?_eq_getElem (by rw [fr_len]; exact h)]
  simp
theorem rg_fr (n : Nat) : rgL 0 n = (fr n).map fun i => .int (i.val : Int) := by
  unfold rgL
  apply List.ext_getElem?
  intro i
  rw [List.getElem?_map, List.getElem?_map]
  by_cases h : i < n
  · rw [fr_get h, List.getElem?_range h]
    simp
  · rw [List.getElem?_eq_none (by simpa using h), List.getElem?_eq_none (by rw [fr_len]; omega)]
    rfl
theorem zip_fr {α : Type} (xs : List α) (f g : α → PyData) : zipL (xs.map f) (xs.map g) = xs.map fun i => .tuple [f i, g i] := by
  induction xs with
  | nil => rfl
  | cons x xs ih =>
    show _ :: zipL (xs.map f) (xs.map g) = _
    rw [ih]
    rfl
theorem ixN_nat {n j : Nat} (h : j < n) : L2.ixN n ((j : Nat) : Int) = some j := by
  unfold L2.ixN
  rw [if_pos (by omega), if_pos (by omega)]
  simp
theorem at_fr {n : Nat} (f : Fin n → PyData) (i : Fin n) : L2.atI ((fr n).map f) ((i.val : Nat) : Int) = some (f i) := by
  unfold L2.atI
  rw [List.length_map, fr_len, ixN_nat i.isLt, Option.bind_some, List.getElem?_map, fr_get i.isLt]
  rfl
theorem at_map {α : Type} {xs : List α} {f : α → PyData} {j : Nat} {x : α} (h : xs[j]? = some x) : L2.atI (xs.map f) ((j : Nat) : Int) = some (f x) := by
  unfold L2.atI
  have hj : j < xs.length := (List.getElem?_eq_some_iff.mp h).1
  rw [List.length_map, ixN_nat hj, Option.bind_some, List.getElem?_map, h]
  rfl
theorem at_fr0 {n : Nat} (f : Fin (n + 1) → PyData) : L2.atI ((fr (n + 1)).map f) 0 = some (f 0) := at_fr f 0
theorem intL_map {α : Type} (xs : List α) (f : α → Int) : intL (xs.map fun i => .int (f i)) = some (xs.map f) := by
  induction xs with
  | nil => rfl
  | cons x xs ih =>
    show (intL (xs.map fun i => .int (f i))).bind (fun ns => some (f x :: ns)) = _
    rw [ih]
    rfl
theorem blL_map {α : Type} (xs : List α) (f : α → Bool) : blL (xs.map fun i => .bool (f i)) = some (xs.map f) := by
  induction xs with
  | nil => rfl
  | cons x xs ih =>
    show (blL (xs.map fun i => .bool (f i))).bind (fun ns => some (f x :: ns)) = _
    rw [ih]
    rfl

/-! ### sums -/
def sm {p : Nat} [Pr p] {n : Nat} (f : Fin n → Fin p) : Fin p := (fr n).foldr (fun i a => f i + a) 0
theorem val_add {p : Nat} [Pr p] (a b : Fin p) : ((a + b).val : Int) = ((a.val : Int) + (b.val : Int)) % (p : Int) := by
  rw [Fin.val_add, Int.natCast_emod, Int.natCast_add]
theorem val_mul {p : Nat} [Pr p] (a b : Fin p) : ((a * b).val : Int) = ((a.val : Int) * (b.val : Int)) % (p : Int) := by
  rw [Fin.val_mul, Int.natCast_emod, Int.natCast_mul]
theorem val_mod {p : Nat} (a : Fin p) : ((a.val : Int)) % (p : Int) = (a.val : Int) := by
  have := a.isLt
  rw [Int.emod_eq_of_lt (by omega) (by omega)]
theorem sum_val {p : Nat} [Pr p] {n : Nat} (f g : Fin n → Fin p) : (((fr n).map fun i => (((f i).val : Int) * ((g i).val : Int))).sum % (p : Int)) = ((sm fun i => f i * g i).val : Int) := by
  unfold sm
  generalize fr n = xs
  induction xs with
  | nil => simp
  | cons x xs ih =>
    rw [List.map_cons, List.sum_cons, List.foldr_cons, val_add, val_mul, ← ih, ← Int.add_emod]
/-- a number's rest -/
def rs (p : Nat) [Pr p] (n : Int) : Fin p := ⟨(n % (p : Int)).toNat, by
  have h := Pr.le (p := p)
  have := Int.emod_lt_of_pos n (show (0 : Int) < p by omega)
  have := Int.emod_nonneg n (show (p : Int) ≠ 0 by omega)
  omega⟩
theorem rs_val (p : Nat) [Pr p] (n : Int) : ((rs p n).val : Int) = n % (p : Int) := by
  have h := Pr.le (p := p)
  have := Int.emod_nonneg n (show (p : Int) ≠ 0 by omega)
  show (((n % (p : Int)).toNat : Nat) : Int) = _
  omega
/-! ### operations on such data -/
theorem mul_i {a b : Int} (h : (-(2 ^ 64) < a ∧ a < 2 ^ 64) ∨ (-(2 ^ 64) < b ∧ b < 2 ^ 64)) : mulD (.int a) (.int b) = some (.int (a * b)) := if_pos h
theorem small64 {a : Int} (h0 : 0 ≤ a) (h : a ≤ 100000) : -(2 ^ 64) < a ∧ a < 2 ^ 64 := by
  have e : (2 : Int) ^ 64 = 18446744073709551616 := by decide
  rw [e]
  omega
theorem mul_ok {p : Nat} [Pr p] (a : Fin p) (b : Int) : mulD (eI a) (.int b) = some (.int ((a.val : Int) * b)) := by
  have h := Pr.le (p := p)
  have := a.isLt
  exact mul_i (.inl (small64 (by omega) (by omega)))
theorem mod_ok {p : Nat} [Pr p] (a : Int) : modD (.int a) (eN p) = some (.int (a % (p : Int))) := by
  have h := Pr.le (p := p)
  exact if_pos (by omega)
theorem p62 : (2 : Int) ^ 62 = 4611686018427387904 := by decide
theorem rg1_ok {n : Nat} (h : n ≤ 1000000000) : rg1 [eN n] = some ((fr n).map fun i => .int (i.val : Int)) := by
  rw [← rg_fr]
  have e : rg1 [eN n] = if -(2 ^ 62) ≤ (n : Int) ∧ (n : Int) < 2 ^ 62 then some (rgL 0 (n : Int).toNat) else none := rfl
  rw [e, p62, if_pos (by omega), Int.toNat_natCast]
theorem ix_R {p n : Nat} (v : Fin n → Fin p) (j : Fin n) : ixD (eR v) (.int (j.val : Int)) = some (eI (v j)) := at_fr _ j
theorem ix_T {p r c : Nat} (A : Mt p r c) (i : Fin r) : ixD (eT A) (.int (i.val : Int)) = some (eR (A i)) := at_fr _ i
theorem ix_R0 {p n : Nat} (v : Fin (n + 1) → Fin p) : ixD (eR v) (.int 0) = some (eI (v 0)) := at_fr _ 0
theorem ix_T0 {p r c : Nat} (A : Mt p (r + 1) c) : ixD (eT A) (.int 0) = some (eR (A 0)) := at_fr _ 0
theorem len_R {p n : Nat} (v : Fin n → Fin p) : lenD [eR v] = some (eN n) := by
  show some (PyData.int (((fr n).map _).length : Nat)) = _
  rw [List.length_map, fr_len]
theorem len_T {p r c : Nat} (A : Mt p r c) : lenD [eT A] = some (eN r) := by
  show some (PyData.int (((fr r).map _).length : Nat)) = _
  rw [List.length_map, fr_len]
theorem add_v {p : Nat} [Pr p] (x y : Fin p) : modD (.int ((x.val : Int) + (y.val : Int))) (eN p) = some (eI (x + y)) := (mod_ok _).trans (by rw [← val_add])
theorem mul_v {p : Nat} [Pr p] (x y : Fin p) : modD (.int ((x.val : Int) * (y.val : Int))) (eN p) = some (eI (x * y)) := (mod_ok _).trans (by rw [← val_mul])
theorem sum_v {p n : Nat} [Pr p] (f g : Fin n → Fin p) : modD (.int ((fr n).map fun i => (((f i).val : Int) * ((g i).val : Int))).sum) (eN p) = some (eI (sm fun i => f i * g i)) := (mod_ok _).trans (by rw [sum_val])
theorem eq_int (i j : Int) : eqD (.int i) (.int j) = some (.bool (decide (i = j))) := by
  show some (PyData.bool (i == j)) = _
  rw [Bool.beq_eq_decide_eq]
theorem ne_int (i j : Int) : neD (.int i) (.int j) = some (.bool (!decide (i = j))) := by
  show some (PyData.bool (!(i == j))) = _
  rw [Bool.beq_eq_decide_eq]
theorem one_val {p : Nat} [Pr p] : (((1 : Fin p).val : Nat) : Int) = 1 := by
  rcases (‹Pr p›).is with e | e | e <;> subst e <;> rfl
theorem mod_pos (i : Int) {j : Int} (h : 0 < j) : modD (.int i) (.int j) = some (.int (i % j)) := if_pos h
theorem div_pos (i : Int) {j : Int} (h : 0 < j) (h2 : j < 1073741824) : divD (.int i) (.int j) = some (.int (i / j)) := if_pos ⟨h, h2⟩
theorem cN (n : Nat) {env : En} : sC (.int (@OfNat.ofNat Int n instOfNat)) env = some (eN (@OfNat.ofNat Nat n (instOfNatNat n))) := rfl
theorem addN (a b : Nat) : addD (eN a) (eN b) = some (eN (a + b)) := rfl
theorem p64 : (2 : Int) ^ 64 = 18446744073709551616 := by decide
theorem mulN (a b : Nat) (h : a < 18446744073709551616 ∨ b < 18446744073709551616) : mulD (eN a) (eN b) = some (eN (a * b)) := (mul_i (by rw [p64]; omega)).trans (by rw [← Int.natCast_mul])
theorem modN (a b : Nat) (h : 0 < b) : modD (eN a) (eN b) = some (eN (a % b)) := (mod_pos _ (by omega)).trans (by rw [← Int.natCast_emod])
theorem divN (a b : Nat) (h : 0 < b) (h2 : b < 1073741824) : divD (eN a) (eN b) = some (eN (a / b)) := (div_pos _ (by omega) (by omega)).trans (by rw [← Int.natCast_ediv])
theorem eqN (a b : Nat) : eqD (eN a) (eN b) = some (.bool (decide (a = b))) := (eq_int _ _).trans (by congr 2; exact decide_eq_decide.mpr (by omega))
theorem neN (a b : Nat) : neD (eN a) (eN b) = some (.bool (!decide (a = b))) := (ne_int _ _).trans (by congr 3; exact decide_eq_decide.mpr (by omega))
theorem ltN (a b : Nat) : ltD (eN a) (eN b) = some (.bool (decide (a < b))) := congrArg some (congrArg PyData.bool (decide_eq_decide.mpr (by omega)))
theorem leN (a b : Nat) : leD (eN a) (eN b) = some (.bool (decide (a ≤ b))) := congrArg some (congrArg PyData.bool (decide_eq_decide.mpr (by omega)))
theorem gtN (a b : Nat) : gtD (eN a) (eN b) = some (.bool (decide (b < a))) := congrArg some (congrArg PyData.bool (decide_eq_decide.mpr (by omega)))
theorem geN (a b : Nat) : geD (eN a) (eN b) = some (.bool (decide (b ≤ a))) := congrArg some (congrArg PyData.bool (decide_eq_decide.mpr (by omega)))
theorem add_i (i j : Int) : addD (.int i) (.int j) = some (.int (i + j)) := rfl
end Dz

/-! Ma1: sums and products of tables of rests. -/
namespace Dz
instance fnDec {n : Nat} {α : Type} [DecidableEq α] : DecidableEq (Fin n → α) := fun v w => decidable_of_iff (∀ i, v i = w i) ⟨funext, fun h i => by rw [h]⟩
/-! ### the rests are a field -/
def iv {p : Nat} (x : Fin p) : Fin p := if p = 5 then x * x * x else x
theorem mul_iv2 : ∀ x : Fin 2, x ≠ 0 → x * iv x = 1 := by decide
theorem mul_iv3 : ∀ x : Fin 3, x ≠ 0 → x * iv x = 1 := by decide
theorem mul_iv5 : ∀ x : Fin 5, x ≠ 0 → x * iv x = 1 := by decide
theorem z1_2 : (0 : Fin 2) ≠ 1 := by decide
theorem z1_3 : (0 : Fin 3) ≠ 1 := by decide
theorem z1_5 : (0 : Fin 5) ≠ 1 := by decide
section
variable {p : Nat} [Pr p]
theorem mul_iv (x : Fin p) (h : x ≠ 0) : x * iv x = 1 := by
  rcases (‹Pr p›).is with e | e | e
  · subst e; exact mul_iv2 x h
  · subst e; exact mul_iv3 x h
  · subst e; exact mul_iv5 x h
theorem z1 : (0 : Fin p) ≠ 1 := by
  rcases (‹Pr p›).is with e | e | e
  · subst e; exact z1_2
  · subst e; exact z1_3
  · subst e; exact z1_5
theorem mul_z {a b : Fin p} (h : a * b = 0) : a = 0 ∨ b = 0 := by
  by_cases ha : a = 0
  · exact .inl ha
  · right
    have e := mul_iv a ha
    grind
/-! ### sums over lists -/
def ls {α : Type} (xs : List α) (f : α → Fin p) : Fin p := xs.foldr (fun i a => f i + a) 0
theorem ls_nil {α : Type} {f : α → Fin p} : ls [] f = 0 := rfl
theorem ls_cons {α : Type} {x : α} {xs : List α} {f : α → Fin p} : ls (x :: xs) f = f x + ls xs f := rfl
theorem ls_add {α : Type} (xs : List α) (f g : α → Fin p) : (ls xs fun i => f i + g i) = ls xs f + ls xs g := by
  induction xs with
  | nil => simp only [ls_nil]; grind
  | cons x xs ih => simp only [ls_cons, ih]; grind
theorem ls_sub {α : Type} (xs : List α) (f g : α → Fin p) : (ls xs fun i => f i - g i) = ls xs f - ls xs g := by
  induction xs with
  | nil => simp only [ls_nil]; grind
  | cons x xs ih => simp only [ls_cons, ih]; grind
theorem ls_mul {α : Type} (xs : List α) (c : Fin p) (f : α → Fin p) : (ls xs fun i => c * f i) = c * ls xs f := by
  induction xs with
  | nil => simp only [ls_nil]; grind
  | cons x xs ih => simp only [ls_cons, ih]; grind
theorem ls_mulr {α : Type} (xs : List α) (c : Fin p) (f : α → Fin p) : (ls xs fun i => f i * c) = ls xs f * c := by
  induction xs with
  | nil => simp only [ls_nil]; grind
  | cons x xs ih => simp only [ls_cons, ih]; grind
theorem ls_zero {α : Type} (xs : List α) : (ls xs fun _ => (0 : Fin p)) = 0 := by
  induction xs with
  | nil => rfl
  | cons x xs ih => simp only [ls_cons, ih]; grind
theorem ls_congr {α : Type} {xs : List α} {f g : α → Fin p} (h : ∀ x ∈ xs, f x = g x) : ls xs f = ls xs g := by
  induction xs with
  | nil => rfl
  | cons x xs ih => rw [ls_cons, ls_cons, h x List.mem_cons_self, ih fun y hy => h y (List.mem_cons_of_mem _ hy)]
theorem ls_swap {α β : Type} (xs : List α) (ys : List β) (f : α → β → Fin p) : (ls xs fun x => ls ys fun y => f x y) = ls ys fun y => ls xs fun x => f x y := by
  induction xs with
  | nil => simp only [ls_nil]; rw [ls_zero]
  | cons x xs ih => simp only [ls_cons, ih]; rw [ls_add]
theorem ls_app {α : Type} (xs ys : List α) (f : α → Fin p) : ls (xs ++ ys) f = ls xs f + ls ys f := by
  induction xs with
  | nil => simp only [List.nil_append, ls_nil]; grind
  | cons x xs ih => simp only [List.cons_append, ls_cons, ih]; grind
theorem ls_map {α β : Type} (xs : List α) (h : α → β) (f : β → Fin p) : ls (xs.map h) f = ls xs fun x => f (h x) := by
  induction xs with
  | nil => rfl
  | cons x xs ih => simp only [List.map_cons, ls_cons, ih]
/-- one place alone -/
theorem ls_one {α : Type} [DecidableEq α] {xs : List α} (hn : xs.Nodup) {a : α} (ha : a ∈ xs) (f : α → Fin p) : (ls xs fun i => if i = a then f i else 0) = f a := by
  induction xs with
  | nil => cases ha
  | cons x xs ih =>
    rw [ls_cons]
    obtain ⟨h1, h2⟩ := List.nodup_cons.mp hn
    by_cases e : x = a
    · subst e
      rw [if_pos rfl, ls_congr (g := fun _ => 0) fun y hy => if_neg (fun z : y = x => h1 (by rw [← z]; exact hy)), ls_zero]
      grind
    · rw [if_neg e, ih h2 (by rcases List.mem_cons.mp ha with z | z; exact absurd z.symm e; exact z)]
      grind
theorem sm_ls {n : Nat} (f : Fin n → Fin p) : sm f = ls (fr n) f := rfl
theorem fr_nodup (n : Nat) : (fr n).Nodup := List.nodup_finRange n
theorem fr_mem {n : Nat} (i : Fin n) : i ∈ fr n := List.mem_finRange i
theorem sm_add {n : Nat} (f g : Fin n → Fin p) : (sm fun i => f i + g i) = sm f + sm g := ls_add _ _ _
theorem sm_sub {n : Nat} (f g : Fin n → Fin p) : (sm fun i => f i - g i) = sm f - sm g := ls_sub _ _ _
theorem sm_mul {n : Nat} (c : Fin p) (f : Fin n → Fin p) : (sm fun i => c * f i) = c * sm f := ls_mul _ _ _
theorem sm_mulr {n : Nat} (c : Fin p) (f : Fin n → Fin p) : (sm fun i => f i * c) = sm f * c := ls_mulr _ _ _
theorem sm_zero {n : Nat} : (sm fun _ : Fin n => (0 : Fin p)) = 0 := ls_zero _
theorem sm_swap {n m : Nat} (f : Fin n → Fin m → Fin p) : (sm fun i => sm fun j => f i j) = sm fun j => sm fun i => f i j := ls_swap _ _ _
theorem sm_congr {n : Nat} {f g : Fin n → Fin p} (h : ∀ i, f i = g i) : sm f = sm g := ls_congr fun i _ => h i
theorem sm_one {n : Nat} (a : Fin n) (f : Fin n → Fin p) : (sm fun i => if i = a then f i else 0) = f a := ls_one (fr_nodup n) (fr_mem a) f
theorem sm_one' {n : Nat} (a : Fin n) (f : Fin n → Fin p) : (sm fun i => if a = i then f i else 0) = f a := by
  rw [← sm_one a f]
  exact sm_congr fun i => by simp only [eq_comm]
theorem sm0 (f : Fin 0 → Fin p) : sm f = 0 := rfl
theorem sm1 (f : Fin 1 → Fin p) : sm f = f 0 := by
  show f 0 + 0 = f 0
  grind
theorem sm2 (f : Fin 2 → Fin p) : sm f = f 0 + f 1 := by
  show f 0 + (f 1 + 0) = _
  grind
theorem sm3 (f : Fin 3 → Fin p) : sm f = f 0 + f 1 + f 2 := by
  show f 0 + (f 1 + (f 2 + 0)) = _
  grind
/-! ### tables -/
def mm {r k c : Nat} (A : Mt p r k) (B : Mt p k c) : Mt p r c := fun i j => sm fun l => A i l * B l j
def ma {r c : Nat} (A B : Mt p r c) : Mt p r c := fun i j => A i j + B i j
def ms {r c : Nat} (x : Fin p) (A : Mt p r c) : Mt p r c := fun i j => x * A i j
def mt {r c : Nat} (A : Mt p r c) : Mt p c r := fun i j => A j i
def m1 {n : Nat} : Mt p n n := fun i j => if i = j then 1 else 0
instance mtDec {r c : Nat} : DecidableEq (Mt p r c) := fnDec
def m0 {r c : Nat} : Mt p r c := fun _ _ => 0
theorem mm_assoc {a b c d : Nat} (A : Mt p a b) (B : Mt p b c) (C : Mt p c d) : mm (mm A B) C = mm A (mm B C) := by
  funext i j
  show (sm fun l => (sm fun k => A i k * B k l) * C l j) = sm fun k => A i k * sm fun l => B k l * C l j
  have e1 : ∀ l, (sm fun k => A i k * B k l) * C l j = sm fun k => A i k * B k l * C l j := fun l => (sm_mulr _ _).symm
  have e2 : ∀ k, (A i k * sm fun l => B k l * C l j) = sm fun l => A i k * B k l * C l j := fun k => by
    rw [← sm_mul]
    exact sm_congr fun l => by grind
  rw [sm_congr e1, sm_congr e2]
  exact sm_swap _
theorem mm_1 {r c : Nat} (A : Mt p r c) : mm A m1 = A := by
  funext i j
  show (sm fun l => A i l * (if l = j then 1 else 0)) = _
  rw [← sm_one j fun l => A i l]
  exact sm_congr fun l => by split <;> grind
theorem m1_m {r c : Nat} (A : Mt p r c) : mm m1 A = A := by
  funext i j
  show (sm fun l => (if i = l then 1 else 0) * A l j) = _
  rw [← sm_one' i fun l => A l j]
  exact sm_congr fun l => by split <;> grind
theorem mm_addr {a b c : Nat} (A : Mt p a b) (B C : Mt p b c) : mm A (ma B C) = ma (mm A B) (mm A C) := by
  funext i j
  show (sm fun l => A i l * (B l j + C l j)) = (sm fun l => A i l * B l j) + sm fun l => A i l * C l j
  rw [← sm_add]
  exact sm_congr fun l => by grind
theorem mm_addl {a b c : Nat} (A B : Mt p a b) (C : Mt p b c) : mm (ma A B) C = ma (mm A C) (mm B C) := by
  funext i j
  show (sm fun l => (A i l + B i l) * C l j) = (sm fun l => A i l * C l j) + sm fun l => B i l * C l j
  rw [← sm_add]
  exact sm_congr fun l => by grind
theorem mm_sr {a b c : Nat} (x : Fin p) (A : Mt p a b) (B : Mt p b c) : mm A (ms x B) = ms x (mm A B) := by
  funext i j
  show (sm fun l => A i l * (x * B l j)) = x * sm fun l => A i l * B l j
  rw [← sm_mul]
  exact sm_congr fun l => by grind
theorem mm_sl {a b c : Nat} (x : Fin p) (A : Mt p a b) (B : Mt p b c) : mm (ms x A) B = ms x (mm A B) := by
  funext i j
  show (sm fun l => (x * A i l) * B l j) = x * sm fun l => A i l * B l j
  rw [← sm_mul]
  exact sm_congr fun l => by grind
theorem mt_mm {a b c : Nat} (A : Mt p a b) (B : Mt p b c) : mt (mm A B) = mm (mt B) (mt A) := by
  funext i j
  exact sm_congr fun l => by show A j l * B l i = B l i * A j l; grind
theorem mt_mt {r c : Nat} (A : Mt p r c) : mt (mt A) = A := rfl
theorem mt_1 {n : Nat} : mt (m1 : Mt p n n) = m1 := by
  funext i j
  show (if j = i then (1 : Fin p) else 0) = if i = j then 1 else 0
  simp only [eq_comm]
theorem del_i {n : Nat} (i j : Fin n) : intD [.bool (decide ((i.val : Int) = (j.val : Int)))] = some (eI ((m1 : Mt p n n) i j)) := by
  show some (PySem.PyData.int (if decide ((i.val : Int) = (j.val : Int)) = true then 1 else 0)) = some (PySem.PyData.int (((if i = j then (1 : Fin p) else 0).val : Nat) : Int))
  by_cases e : i = j
  · subst e
    simp only [decide_true, if_true]
    rw [one_val]
  · rw [if_neg e, decide_eq_false (fun z => e (Fin.ext (by omega)))]
    simp
/-- powers -/
def mp {n : Nat} (A : Mt p n n) : Nat → Mt p n n
  | 0 => m1
  | k + 1 => mm (mp A k) A
theorem mp_add {n : Nat} (A : Mt p n n) (i : Nat) : ∀ j, mp A (i + j) = mm (mp A i) (mp A j)
  | 0 => (mm_1 _).symm
  | j + 1 => by
    show mm (mp A (i + j)) A = mm (mp A i) (mm (mp A j) A)
    rw [mp_add A i j, mm_assoc]
theorem mp_1 {n : Nat} (A : Mt p n n) : mp A 1 = A := m1_m A
theorem mp_sq {n : Nat} (A : Mt p n n) : ∀ k, mp (mm A A) k = mp A (2 * k)
  | 0 => rfl
  | k + 1 => by
    show mm (mp (mm A A) k) (mm A A) = mp A (2 * k + 1 + 1)
    rw [mp_sq A k]
    show _ = mm (mm (mp A (2 * k)) A) A
    rw [mm_assoc]
theorem mp_comm {n : Nat} (A : Mt p n n) (k : Nat) : mm A (mp A k) = mm (mp A k) A := by
  have e := mp_add A 1 k
  rw [mp_1] at e
  rw [← e, Nat.add_comm]
  rfl
end
end Dz

/-! Pl3: == of tables and of other data. -/
namespace Dz
open PySem (PyData Str sizeLine)
theorem pre_idx {n : Nat} {l r : List (Fin n)} {i : Fin n} (e : fr n = l ++ i :: r) : i.val = l.length := by
  have hl : l.length < n := by
    have := pre_len e
    rw [fr_len] at this
    exact this
  have h1 := fr_get hl
  rw [e, List.getElem?_append_right (Nat.le_refl _), Nat.sub_self] at h1
  have h2 : i = ⟨l.length, hl⟩ := by simpa using h1
  rw [h2]
/-! ### data of small depth -/
def Sh (k : Nat) (d : PyData) : Prop := d.canLay0 = true ∧ d.depth ≤ k
theorem sh_ok {k : Nat} {d : PyData} (h : Sh k d) (hk : k ≤ 64) : PySem.SeqAt.shaped d = true := by
  unfold PySem.SeqAt.shaped
  rw [h.1, decide_eq_true (Nat.le_trans h.2 hk)]
  rfl
theorem sh_all {k : Nat} : ∀ {ds : List PyData}, (∀ d ∈ ds, Sh k d) → PyData.canLayAll0 ds = true ∧ PyData.depthAll ds ≤ k
  | [], _ => ⟨by simp [PyData.canLayAll0], by simp [PyData.depthAll]⟩
  | d :: ds, h => by
    have h1 := h d List.mem_cons_self
    have h2 := sh_all fun x hx => h x (List.mem_cons_of_mem _ hx)
    exact ⟨by simp [PyData.canLayAll0, h1.1, h2.1], by simp only [PyData.depthAll]; exact Nat.max_le.mpr ⟨h1.2, h2.2⟩⟩
theorem sh_tup {k : Nat} {ds : List PyData} (h : ∀ d ∈ ds, Sh k d) : Sh (k + 1) (.tuple ds) := by
  have := sh_all h
  exact ⟨by simp [PyData.canLay0, this.1], by simp only [PyData.depth]; omega⟩
theorem sh_lst {k : Nat} {ds : List PyData} (h : ∀ d ∈ ds, Sh k d) : Sh (k + 1) (.list ds) := by
  have := sh_all h
  exact ⟨by simp [PyData.canLay0, this.1], by simp only [PyData.depth]; omega⟩
theorem sh_int (i : Int) : Sh 0 (.int i) := ⟨by simp [PyData.canLay0], by simp [PyData.depth]⟩
theorem sh_bool (i : Bool) : Sh 0 (.bool i) := ⟨by simp [PyData.canLay0], by simp [PyData.depth]⟩
theorem sh_none : Sh 0 .none := ⟨by simp [PyData.canLay0], by simp [PyData.depth]⟩
theorem sh_mono {k j : Nat} {d : PyData} (h : Sh k d) (hk : k ≤ j) : Sh j d := ⟨h.1, Nat.le_trans h.2 hk⟩
theorem sh_map {α : Type} {k : Nat} {xs : List α} {f : α → PyData} (h : ∀ x, Sh k (f x)) : ∀ d ∈ xs.map f, Sh k d := fun d hd => by
  obtain ⟨x, _, rfl⟩ := List.mem_map.mp hd
  exact h x
theorem sh_R {p n : Nat} (v : Fin n → Fin p) : Sh 1 (eR v) := sh_tup (sh_map fun _ => sh_int _)
theorem sh_T {p r c : Nat} (A : Mt p r c) : Sh 2 (eT A) := sh_tup (sh_map fun _ => sh_R _)
/-! ### equal -/
theorem eqv_map {α : Type} (f g : α → PyData) : ∀ xs : List α, PyData.eqvAll (xs.map f) (xs.map g) = xs.all fun x => PyData.eqv (f x) (g x)
  | [] => by simp [PyData.eqvAll]
  | x :: xs => by simp [PyData.eqvAll, eqv_map f g xs]
theorem eqv_map2 {α β : Type} (f : α → PyData) (g : β → PyData) : ∀ (xs : List α) (ys : List β), PyData.eqvAll (xs.map f) (ys.map g) = (decide (xs.length = ys.length) && (xs.zip ys).all fun z => PyData.eqv (f z.1) (g z.2))
  | [], [] => by simp [PyData.eqvAll]
  | [], _ :: _ => by simp [PyData.eqvAll]
  | _ :: _, [] => by simp [PyData.eqvAll]
  | x :: xs, y :: ys => by
    simp only [List.map_cons, PyData.eqvAll, eqv_map2 f g xs ys, List.length_cons, List.zip_cons_cons, List.all_cons, Nat.add_right_cancel_iff]
    cases PyData.eqv (f x) (g y) <;> cases decide (xs.length = ys.length) <;> rfl
theorem eqv_int (i j : Int) : PyData.eqv (.int i) (.int j) = decide (i = j) := by
  simp only [PyData.eqv]
  exact Bool.beq_eq_decide_eq _ _
theorem eqv_I {p : Nat} (x y : Fin p) : PyData.eqv (eI x) (eI y) = decide (x = y) := by
  rw [eqv_int]
  exact decide_eq_decide.mpr ⟨fun h => Fin.ext (by omega), fun h => by rw [h]⟩
theorem all_fr {n : Nat} (f : Fin n → Bool) : (fr n).all f = decide (∀ i, f i = true) := by
  cases h : (fr n).all f with
  | true => exact (decide_eq_true fun i => List.all_eq_true.mp h i (fr_mem i)).symm
  | false =>
    refine (decide_eq_false fun z => ?_).symm
    have : (fr n).all f = true := List.all_eq_true.mpr fun i _ => z i
    rw [h] at this
    cases this
theorem eqv_R {p n : Nat} (v w : Fin n → Fin p) : PyData.eqv (eR v) (eR w) = decide (v = w) := by
  unfold eR
  simp only [PyData.eqv]
  rw [eqv_map, all_fr]
  exact decide_eq_decide.mpr ⟨fun h => funext fun i => of_decide_eq_true ((eqv_I _ _).symm.trans (h i)), fun h i => by rw [h, eqv_I]; exact decide_eq_true rfl⟩
theorem eqv_T {p r c : Nat} (A B : Mt p r c) : PyData.eqv (eT A) (eT B) = decide (A = B) := by
  unfold eT
  simp only [PyData.eqv]
  rw [eqv_map, all_fr]
  exact decide_eq_decide.mpr ⟨fun h => funext fun i => of_decide_eq_true ((eqv_R _ _).symm.trans (h i)), fun h i => by rw [h, eqv_R]; exact decide_eq_true rfl⟩
theorem eqD_of {d e : PyData} {k j : Nat} (h1 : Sh k d) (h2 : Sh j e) (hk : k ≤ 64) (hj : j ≤ 64) : eqD d e = some (.bool (PyData.eqv d e)) := by
  unfold eqD
  rw [sh_ok h1 hk, sh_ok h2 hj]
  rfl
theorem neD_of {d e : PyData} {k j : Nat} (h1 : Sh k d) (h2 : Sh j e) (hk : k ≤ 64) (hj : j ≤ 64) : neD d e = some (.bool (!PyData.eqv d e)) := by
  unfold neD
  rw [sh_ok h1 hk, sh_ok h2 hj]
  rfl
theorem eqT {p r c : Nat} (A B : Mt p r c) : eqD (eT A) (eT B) = some (.bool (decide (A = B))) := by
  rw [eqD_of (sh_T A) (sh_T B) (by decide) (by decide), eqv_T]
theorem neT {p r c : Nat} (A B : Mt p r c) : neD (eT A) (eT B) = some (.bool (!decide (A = B))) := by
  rw [neD_of (sh_T A) (sh_T B) (by decide) (by decide), eqv_T]
theorem eqT_self {p r c : Nat} (A : Mt p r c) : eqD (eT A) (eT A) = some (.bool true) := by
  rw [eqT, decide_eq_true rfl]
theorem neT_self {p r c : Nat} (A : Mt p r c) : neD (eT A) (eT A) = some (.bool false) := by
  rw [neT, decide_eq_true rfl]
  rfl
theorem neN_self (a : Nat) : neD (eN a) (eN a) = some (.bool false) := by
  rw [neN, decide_eq_true rfl]
  rfl
theorem ne_nil : neD (.list []) (.list []) = some (.bool false) := by
  rw [neD_of (k := 1) (j := 1) (sh_lst (by simp)) (sh_lst (by simp)) (by decide) (by decide)]
  simp [PyData.eqv, PyData.eqvAll]
theorem eq_nil : eqD (.list []) (.list []) = some (.bool true) := by
  rw [eqD_of (k := 1) (j := 1) (sh_lst (by simp)) (sh_lst (by simp)) (by decide) (by decide)]
  simp [PyData.eqv, PyData.eqvAll]
end Dz

/-! Pl4: what is a table, a sum of powers; loops that may return; more of how meanings are reckoned with. -/
namespace Dz
open PySem (PyData Str sizeLine)
/-! what is a rest, a table, a sum of powers -/
def isRest (p : Nat) : PyData → Bool
  | .int i => decide (0 ≤ i) && decide (i < (p : Int))
  | _ => false
def tups : PyData → List PyData
  | .tuple ds => ds
  | _ => []
def rowOk : PyData → Bool
  | .tuple ds => decide (1 ≤ ds.length) && decide (ds.length ≤ 3)
  | _ => false
def isTab (p : Nat) : PyData → Bool
  | .tuple ds => (decide (1 ≤ ds.length) && decide (ds.length ≤ 3)) && (ds.all rowOk && (ds.all (fun r => decide ((tups r).length = (tups (ds.headD .none)).length)) && ds.all fun r => (tups r).all (isRest p)))
  | _ => false
def last0 (ds : List PyData) : Bool := match ds.getLast? with
  | some (.int i) => decide (i = 0)
  | _ => false
def isPow (p : Nat) : PyData → Bool
  | .tuple ds => (decide (ds.length ≤ 7) && ds.all (isRest p)) && (ds.isEmpty || !last0 ds)
  | _ => false
theorem sh_kids {k : Nat} : ∀ {ds : List PyData}, PyData.canLayAll0 ds = true → PyData.depthAll ds ≤ k → ∀ d ∈ ds, Sh k d
  | [], _, _, d, h => nomatch h
  | x :: ds, h1, h2, d, h => by
    simp only [PyData.canLayAll0, Bool.and_eq_true] at h1
    simp only [PyData.depthAll] at h2
    rcases List.mem_cons.mp h with rfl | h
    · exact ⟨h1.1, by omega⟩
    · exact sh_kids h1.2 (by omega) d h
theorem sh_tups {k : Nat} {ds : List PyData} (h : Sh k (.tuple ds)) : ∀ d ∈ ds, Sh k d := by
  obtain ⟨h1, h2⟩ := h
  simp only [PyData.canLay0] at h1
  simp only [PyData.depth] at h2
  exact sh_kids h1 (by omega)
theorem sLc_mem {fi : En → Option (List PyData)} {gt : PyData → En → Option En} {ft : En → Option Bool} {fe : En → Option PyData} {vs : List Nat} {env : En} {ds : List PyData} {k : PyData → PyData}
    (hi : fi env = some ds) (hl : ds.length ≤ 16777216) (hb : ∀ x ∈ ds, lcB gt ft fe (wipeE env vs) x = some (some (k x))) : sLc fi gt ft fe vs env = some (ds.map k) :=
  sLc_map (h := fun x => x) (hi.trans (by rw [List.map_id'])) hl hb
theorem sLc_memf {fi : En → Option (List PyData)} {gt : PyData → En → Option En} {ft : En → Option Bool} {fe : En → Option PyData} {vs : List Nat} {env : En} {ds : List PyData} {p : PyData → Bool}
    (hi : fi env = some ds) (hl : ds.length ≤ 16777216) (hb : ∀ x ∈ ds, lcB gt ft fe (wipeE env vs) x = some (if p x = true then some x else none)) : sLc fi gt ft fe vs env = some (ds.filter p) :=
  (sLc_filter (h := fun x => x) (k := fun x => x) (hi.trans (by rw [List.map_id'])) hl hb).trans (by rw [List.map_id'])
theorem all_ok {f : En → Option (List PyData)} {env : En} {α : Type} {xs : List α} {g : α → Bool} (h : f env = some (xs.map fun x => .bool (g x))) : sAs allL f env = some (.bool (xs.all g)) := by
  refine as_to h ?_
  unfold allL
  rw [blL_map, Option.bind_some, List.all_map]
  rfl
theorem all_mem {f : En → Option (List PyData)} {env : En} {xs : List PyData} {g : PyData → Bool} (h : f env = some (xs.map fun x => .bool (g x))) : sAs allL f env = some (.bool (xs.all g)) := all_ok h
theorem sAndV_ok {a b : En → Option PyData} {env : En} {x y : Bool} (ha : a env = some (.bool x)) (hb : x = true → b env = some (.bool y)) : sAndV a b env = some (.bool (x && y)) := by
  unfold sAndV
  rw [ha]
  cases x with
  | true => exact hb rfl
  | false => rfl
theorem sOrV_ok {a b : En → Option PyData} {env : En} {x y : Bool} (ha : a env = some (.bool x)) (hb : x = false → b env = some (.bool y)) : sOrV a b env = some (.bool (x || y)) := by
  unfold sOrV
  rw [ha]
  cases x with
  | false => exact hb rfl
  | true => rfl
theorem sNotV_ok {a : En → Option PyData} {env : En} {x : Bool} (ha : a env = some (.bool x)) : sNotV a env = some (.bool (!x)) := by
  unfold sNotV
  rw [ha]
  rfl
theorem sChain_ok {g g' : PyData → PyData → Option PyData} {a b c : En → Option PyData} {env : En} {x y z : PyData} {k l : Bool} (ha : a env = some x) (hb : b env = some y) (hc : c env = some z) (h1 : g x y = some (.bool k)) (h2 : g' y z = some (.bool l)) : sChain g g' a b c env = some (.bool (k && l)) := by
  unfold sChain
  rw [ha, hb, Option.bind_some, Option.bind_some, h1, Option.bind_some]
  cases k with
  | true =>
    show (c env).bind _ = _
    rw [hc]
    exact h2
  | false => rfl
theorem le_i (i j : Int) : leD (.int i) (.int j) = some (.bool (decide (i ≤ j))) := rfl
theorem lt_i (i j : Int) : ltD (.int i) (.int j) = some (.bool (decide (i < j))) := rfl
theorem isInt (i : Int) : isiD "int" (.int i) = some (.bool true) := rfl
theorem isTup (ds : List PyData) : isiD "tuple" (.tuple ds) = some (.bool true) := rfl
def isT : PyData → Bool
  | .tuple _ => true
  | _ => false
def isI : PyData → Bool
  | .int _ => true
  | _ => false
theorem isi_tup {k : Nat} {d : PyData} (h : Sh k d) : isiD "tuple" d = some (.bool (isT d)) := by
  cases d <;> first | rfl | (obtain ⟨h1, _⟩ := h; simp [PyData.canLay0] at h1)
theorem isi_bool (b : Bool) : isiD "bool" (.bool b) = some (.bool true) := rfl
theorem rest_body {k : Nat} {d : PyData} (h : Sh k d) (p : Nat) : sAndV (s1 (isiD "int") (sVar 0)) (sAndV (sNotV (s1 (isiD "bool") (sVar 0))) (sChain leD ltD (sC (.int 0)) (sVar 0) (sVar 1))) [.dat d, .dat (eN p)] = some (.bool (isRest p d)) := by
  cases d with
  | int i =>
    refine (sAndV_ok (x := true) (y := decide (0 ≤ i) && decide (i < (p : Int))) rfl fun _ => ?_)
    refine (sAndV_ok (x := true) (y := decide (0 ≤ i) && decide (i < (p : Int))) rfl fun _ => ?_)
    exact sChain_ok rfl rfl rfl (le_i _ _) (lt_i _ _)
  | bool b => rfl
  | none => rfl
  | str x => rfl
  | list ds => rfl
  | tuple ds => rfl
  | dict kvs =>
    obtain ⟨h1, _⟩ := h
    simp [PyData.canLay0] at h1
theorem len_tup (ds : List PyData) : lenD [.tuple ds] = some (eN ds.length) := rfl
theorem tupOf {d : PyData} (h : isT d = true) : d = .tuple (tups d) := by
  cases d <;> first | rfl | cases h
theorem rowT {d : PyData} (h : rowOk d = true) : d = .tuple (tups d) ∧ 1 ≤ (tups d).length ∧ (tups d).length ≤ 3 := by
  cases d with
  | tuple ds =>
    simp only [rowOk, Bool.and_eq_true, decide_eq_true_eq] at h
    exact ⟨rfl, h⟩
  | _ => cases h
theorem rowOk_eq (d : PyData) : rowOk d = (isT d && (decide (1 ≤ (tups d).length) && decide ((tups d).length ≤ 3))) := by
  cases d <;> rfl
theorem chain13 {f : En → Option PyData} {env : En} {n : Nat} (h : f env = some (eN n)) : sChain leD leD (sC (.int 1)) f (sC (.int 3)) env = some (.bool (decide (1 ≤ n) && decide (n ≤ 3))) :=
  sChain_ok (cN 1) h (cN 3) (leN _ _) (leN _ _)
theorem chk_to {c : En → Option Bool} {f : En → Option PyData} {k : En → Option Ou} {env : En} {b : Bool} {d : PyData} {o : Option Ou} (hc : c env = some b) (hf : f env = some d) (ht : b = true → some (.rt d) = o) (hk : b = false → k env = o) : gSeq (gIf c (gRet f) gNext) k env = o := by
  cases b with
  | true => exact (seq_rt ((if_t hc).trans (ret_ok hf))).trans (ht rfl)
  | false => exact seq_to ((if_f hc).trans rfl) (hk rfl)
/-- a loop whose turns change nothing, or return -/
theorem forGo_chk {α : Type} {gt : PyData → En → Option En} {body : En → Option Ou} {ks : List Nat} {env : En} {h : α → PyData} {d : PyData} (ok : α → Bool) : ∀ xs : List α,
    (∀ x ∈ xs, turn gt body ks (h x) env = some (if ok x = true then .nx env else .rt d)) → forGo gt body ks (xs.map h) env = some (if xs.all ok = true then .nx env else .rt d)
  | [], _ => rfl
  | x :: xs, hs => by
    rw [List.map_cons, forGo_cons, hs x List.mem_cons_self, List.all_cons]
    cases hx : ok x with
    | true => exact forGo_chk ok xs fun y hy => hs y (List.mem_cons_of_mem _ hy)
    | false => rfl
theorem turn_ok {gt : PyData → En → Option En} {body : En → Option Ou} {ks : List Nat} {d : PyData} {env env1 env2 : En} {b : Bool} {r : PyData} (h1 : gt d env = some env1) (h2 : body env1 = some (if b = true then .nx env2 else .rt r)) (h3 : kl ks env2 = env) : turn gt body ks d env = some (if b = true then .nx env else .rt r) := by
  unfold turn
  rw [h1, Option.bind_some, h2, Option.bind_some]
  cases b with
  | true => exact congrArg some (congrArg Ou.nx h3)
  | false => rfl
theorem nt_to {i : Nat} {c : En → Option Bool} {f : En → Option PyData} {k : En → Option Ou} {env : En} {d r : PyData} {n : Nat} (h0 : env[i]? = some (.dat d)) (h : Sh n d) (ht : isT d = false) (hf : f env = some r) : gSeq (gIf (sOr (sNot (sB (s1 (isiD "tuple") (sVar i)))) c) (gRet f) gNext) k env = some (.rt r) := by
  have h1 : sOr (sNot (sB (s1 (isiD "tuple") (sVar i)))) c env = some true := by
    unfold sOr
    rw [not_ok (sB_ok (s1_to (var_ok h0) (isi_tup h))), ht]
    rfl
  exact seq_rt ((if_t h1).trans (ret_ok hf))
theorem tt_ok {i : Nat} {c : En → Option Bool} {env : En} {d : PyData} {b : Bool} (h0 : env[i]? = some (.dat d)) (ht : isT d = true) (hc : c env = some b) : sOr (sNot (sB (s1 (isiD "tuple") (sVar i)))) c env = some b := by
  unfold sOr
  have : isiD "tuple" d = some (.bool true) := by rw [tupOf ht]; rfl
  rw [not_ok (sB_ok (s1_to (var_ok h0) this))]
  exact hc
theorem nt_f {b : Bool} (h : (!b) = true) : b = false := by cases b <;> first | rfl | cases h
theorem nt_t {b : Bool} (h : (!b) = false) : b = true := by cases b <;> first | rfl | cases h
theorem two_ok {a : Nat} {xs : List PyData} {p : Nat} {c : En → Option Bool} {env : En} {i : Nat} (h0 : env[i]? = some (.dat (.tuple xs))) (hc : xs.length ≤ 7 → c env = some (!(xs.all (isRest p)))) : sOr (sNot (sB (s1 (isiD "tuple") (sVar i)))) (sOr (sB (s2 gtD (sAs lenD (sCons (sVar i) sNil)) (sC (.int 7)))) c) env = some (!(decide (xs.length ≤ 7) && xs.all (isRest p))) := by
  refine tt_ok h0 rfl ?_
  have h1 : sB (s2 gtD (sAs lenD (sCons (sVar i) sNil)) (sC (.int 7))) env = some (decide (7 < xs.length)) := sB_ok (s2_to (as_to (cons_ok (var_ok h0) rfl) (len_tup xs)) (cN 7) (gtN _ _))
  refine (or_ok (y := !(xs.all (isRest p))) h1 fun z => hc (by have := of_decide_eq_false z; omega)).trans ?_
  by_cases h7 : xs.length ≤ 7
  · rw [decide_eq_true h7, decide_eq_false (by omega)]
    rfl
  · rw [decide_eq_false h7, decide_eq_true (by omega)]
    rfl
theorem at_hd (d : PyData) (ds : List PyData) : ixD (.tuple (d :: ds)) (.int 0) = some d := by
  have := at_map (f := fun x : PyData => x) (xs := d :: ds) (j := 0) (x := d) rfl
  rw [List.map_id'] at this
  exact this
theorem gFor_of {fi : En → Option (List PyData)} {gt : PyData → En → Option En} {body : En → Option Ou} {ks : List Nat} {env env1 : En} {ds : List PyData} (hi : fi env = some ds) (h0 : kl ks env = env1) : gFor fi gt body ks env = forGo gt body ks ds env1 := by
  unfold gFor
  rw [hi, Option.bind_some, h0]
theorem dis_ok {a : En → Option (List PyData)} {env : En} {ds : List PyData} (h : a env = some ds) (hl : ds.length ≤ sizeLine) : sDis a env = some ds := by
  unfold sDis
  rw [h]
  exact if_pos hl
theorem tup_ok {a : En → Option (List PyData)} {env : En} {ds : List PyData} (h : a env = some ds) (hl : ds.length ≤ sizeLine) : sTup a env = some (.tuple ds) := by
  unfold sTup
  rw [h]
  exact if_pos hl
theorem cut_mem {ds : List PyData} {lo hi : Option Int} {d : PyData} (h : d ∈ cutL ds lo hi) : d ∈ ds := List.mem_of_mem_drop (List.mem_of_mem_take h)
theorem cut_len (ds : List PyData) (lo hi : Option Int) : (cutL ds lo hi).length ≤ ds.length := by
  unfold cutL
  rw [List.length_take, List.length_drop]
  omega
theorem sl_ok {f : En → Option PyData} {l h : En → Option (Option Int)} {env : En} {ds : List PyData} {lo hi : Option Int} (hf : f env = some (.tuple ds)) (hl : l env = some lo) (hh : h env = some hi) : sSl f l h env = some (.tuple (cutL ds lo hi)) := by
  unfold sSl
  rw [hf, Option.bind_some, hl, Option.bind_some, hh, Option.bind_some]
  rfl
theorem so_ok {f : En → Option PyData} {env : En} {i : Int} (h : f env = some (.int i)) : sSo f env = some (some i) := by
  unfold sSo
  rw [h]
  rfl
theorem add_tt {xs ys : List PyData} (h : xs.length + ys.length ≤ 16777216) : addD (.tuple xs) (.tuple ys) = some (.tuple (xs ++ ys)) := if_pos h
theorem pick {ds : List PyData} {j k : Nat} (hj : j < ds.length) (h : ∀ d ∈ ds, Sh k d) : ∃ d, ixD (.list ds) (eN j) = some d ∧ Sh k d := by
  refine ⟨ds[j], ?_, h _ (List.getElem_mem hj)⟩
  have := at_map (f := fun x : PyData => x) (List.getElem?_eq_getElem hj)
  rw [List.map_id'] at this
  exact this
theorem Sh.i (k : Nat) (i : Int) : Sh k (.int i) := sh_mono (sh_int i) (by omega)
theorem strOk_of (s : String) : PyData.strOk (Str.ofString s) = true := by
  unfold PyData.strOk
  rw [Str.ofString_eq_toList]
  rw [Array.all_eq_true]
  intro i hi
  rw [List.getElem_toArray, List.getElem_map]
  refine decide_eq_true ?_
  generalize s.toList[i]'_ = c
  have := c.valid
  show c.val.toNat < _
  rcases this with h | h
  · omega
  · omega
theorem sh_str (k : Nat) (s : String) : Sh k (.str (Str.ofString s)) := ⟨by simp only [PyData.canLay0]; exact strOk_of s, by simp [PyData.depth]⟩
theorem forGo_find {α : Type} {gt : PyData → En → Option En} {body : En → Option Ou} {ks : List Nat} {env : En} {h r : α → PyData} (c : α → Bool) : ∀ xs : List α,
    (∀ x ∈ xs, turn gt body ks (h x) env = some (if c x = true then .rt (r x) else .nx env)) → forGo gt body ks (xs.map h) env = some (match xs.find? c with | some x => .rt (r x) | none => .nx env)
  | [], _ => rfl
  | x :: xs, hs => by
    rw [List.map_cons, forGo_cons, hs x List.mem_cons_self, List.find?_cons]
    cases hx : c x with
    | true => rfl
    | false => exact forGo_find c xs fun y hy => hs y (List.mem_cons_of_mem _ hy)
theorem enL_fr {n : Nat} (f : Fin n → PyData) : enL ((fr n).map f) = (fr n).map fun i => .tuple [eN i.val, f i] := by
  apply List.ext_getElem?
  intro i
  rw [en_get, List.getElem?_map, List.getElem?_map]
  by_cases h : i < n
  · rw [fr_get h]
    rfl
  · rw [List.getElem?_eq_none (by rw [fr_len]; omega)]
    rfl
theorem zero_val {p : Nat} [Pr p] : ((0 : Fin p)).val = 0 := by
  rcases (‹Pr p›).is with e | e | e <;> subst e <;> rfl
theorem ne_0 {p : Nat} [Pr p] (x : Fin p) : neD (eI x) (.int 0) = some (.bool (!decide (x = 0))) := (ne_int _ _).trans (by
  congr 3
  exact decide_eq_decide.mpr ⟨fun h => Fin.ext (by rw [zero_val]; omega), fun h => by rw [h, zero_val]; rfl⟩)
theorem eq_0 {p : Nat} [Pr p] (x : Fin p) : eqD (eI x) (.int 0) = some (.bool (decide (x = 0))) := (eq_int _ _).trans (by
  congr 2
  exact decide_eq_decide.mpr ⟨fun h => Fin.ext (by rw [zero_val]; omega), fun h => by rw [h, zero_val]; rfl⟩)
theorem sub_v {p : Nat} [Pr p] (x y z : Fin p) : modD (.int ((x.val : Int) - (y.val : Int) * (z.val : Int))) (eN p) = some (eI (x - y * z)) := (mod_ok _).trans (by
  congr 2
  have hp := Pr.le (p := p)
  have h1 : ((x - y * z) + y * z).val = x.val := by congr 1; grind
  have h2 := val_add (x - y * z) (y * z)
  rw [h1, val_mul] at h2
  have h3 : ((x.val : Int) - (y.val : Int) * (z.val : Int)) % (p : Int) = ((((x - y * z).val : Int) + (y.val : Int) * (z.val : Int) % (p : Int)) % (p : Int) - (y.val : Int) * (z.val : Int)) % (p : Int) := by rw [← h2]
  rw [h3, Int.emod_sub_emod]
  have h4 : (((x - y * z).val : Int) + (y.val : Int) * (z.val : Int) % (p : Int) - (y.val : Int) * (z.val : Int)) = ((x - y * z).val : Int) - (p : Int) * ((y.val : Int) * (z.val : Int) / (p : Int)) := by
    have := Int.emod_add_mul_ediv ((y.val : Int) * (z.val : Int)) (p : Int)
    omega
  rw [h4, Int.sub_mul_emod_self_left, val_mod])
theorem put_ok {i : Nat} {fi fe : En → Option PyData} {env : En} {ds : List PyData} {d : PyData} {j : Nat} (h : env[i]? = some (.own ds)) (hf : fe env = some d) (hi : fi env = some (eN j)) (hj : j < ds.length) : gPut i fi fe env = some (.nx (env.set i (.own (ds.set j d)))) := by
  unfold gPut
  rw [h]
  show (fe env).bind _ = _
  rw [hf, Option.bind_some, hi]
  show (L2.ixN ds.length ((j : Nat) : Int)).bind _ = _
  rw [ixN_nat hj]
  rfl
theorem ext_ok {i : Nat} {f : En → Option (List PyData)} {env : En} {ds es : List PyData} (h : env[i]? = some (.own ds)) (hf : f env = some es) (hl : ds.length + es.length ≤ 16777216) : gExt i f env = some (.nx (env.set i (.own (ds ++ es)))) := by
  unfold gExt
  rw [h]
  show (f env).bind _ = _
  rw [hf]
  exact if_pos hl
theorem ixl_ok {fl : En → Option (List PyData)} {fb : En → Option PyData} {env : En} {ds : List PyData} {d : PyData} {j : Nat} (h : fl env = some ds) (hb : fb env = some (eN j)) (hj : ds[j]? = some d) : sIxL fl fb env = some d := by
  unfold sIxL
  rw [h, Option.bind_some, hb]
  have := at_map (f := fun x : PyData => x) hj
  rw [List.map_id'] at this
  exact this
theorem rep_of {fl : En → Option (List PyData)} {fb : En → Option PyData} {env : En} {xs : List PyData} {k : Int} (h : fl env = some xs) (hb : fb env = some (.int k)) (hc : -(2 ^ 63) ≤ k ∧ k < 2 ^ 63 ∧ xs.length * k.toNat ≤ sizeLine) : sRep fl fb env = some (List.replicate k.toNat xs).flatten := by
  unfold sRep
  rw [h, Option.bind_some, hb, Option.bind_some]
  exact if_pos hc
theorem p63 : (2 : Int) ^ 63 = 9223372036854775808 := by decide
theorem rep_flat (d : PyData) : ∀ k, (List.replicate k [d]).flatten = List.replicate k d
  | 0 => rfl
  | k + 1 => by rw [List.replicate_succ, List.flatten_cons, rep_flat d k]; rfl
theorem rep_ok {fl : En → Option (List PyData)} {fb : En → Option PyData} {env : En} {d : PyData} {k : Nat} (h : fl env = some [d]) (hb : fb env = some (eN k)) (hk : k ≤ 16777216) : sRep fl fb env = some (List.replicate k d) :=
  (rep_of h hb ⟨by rw [p63]; omega, by rw [p63]; omega, by rw [Int.toNat_natCast]; show 1 * k ≤ 16777216; omega⟩).trans (by rw [Int.toNat_natCast, rep_flat])
theorem rpt_of {ds : List PyData} {k : Int} (h : 0 < ds.length ∧ 0 ≤ k ∧ k ≤ 1000 ∧ ds.length ≤ 1000) : mulD (.tuple ds) (.int k) = some (.tuple (List.replicate k.toNat ds).flatten) := if_pos h
theorem rpt_ok0 {ds : List PyData} {k : Nat} (h0 : 0 < ds.length) (hk : k ≤ 1000) (hl : ds.length ≤ 1000) : mulD (.tuple ds) (eN k) = some (.tuple (List.replicate k ds).flatten) := (rpt_of ⟨h0, by omega, by omega, hl⟩).trans (by rw [Int.toNat_natCast])
theorem rpt_ok {ds : List PyData} {k : Nat} (h0 : 0 < ds.length) (h1 : 1 ≤ k) (hk : k ≤ 1000) (hl : ds.length ≤ 1000) : mulD (.tuple ds) (eN k) = some (.tuple (List.replicate k ds).flatten) := (rpt_of ⟨h0, by omega, by omega, hl⟩).trans (by rw [Int.toNat_natCast])
theorem last_at {ds : List PyData} {d : PyData} (h : ds.getLast? = some d) : L2.atI ds (-1) = some d ∧ L2.atI ds ((ds.length : Int) - 1) = some d := by
  have h0 : ds ≠ [] := by rintro rfl; cases h
  have hl : 1 ≤ ds.length := List.length_pos_iff.mpr h0
  rw [List.getLast?_eq_getElem?] at h
  have e1 : L2.ixN ds.length (-1) = some (ds.length - 1) := by
    unfold L2.ixN
    split
    · omega
    · split
      · congr 1; omega
      · omega
  have e2 : L2.ixN ds.length ((ds.length : Int) - 1) = some (ds.length - 1) := by
    unfold L2.ixN
    split
    · split
      · congr 1; omega
      · omega
    · omega
  exact ⟨by unfold L2.atI; rw [e1]; exact h, by unfold L2.atI; rw [e2]; exact h⟩
theorem cut_map {α : Type} (xs : List α) (f : α → PyData) (lo hi : Option Int) : ∃ l : List α, (∀ x ∈ l, x ∈ xs) ∧ cutL (xs.map f) lo hi = l.map f := by
  unfold cutL
  exact ⟨_, fun x hx => List.mem_of_mem_drop (List.mem_of_mem_take hx), by rw [← List.map_drop, ← List.map_take]⟩
theorem isnt_tt : isntD (.bool true) (.bool true) = some (.bool false) := rfl
/-- a loop whose turns change nothing -/
theorem gFor_nx {α : Type} {fi : En → Option (List PyData)} {gt : PyData → En → Option En} {body : En → Option Ou} {ks : List Nat} {env env1 : En} (h : α → PyData) (xs : List α) (hi : fi env = some (xs.map h)) (h0 : kl ks env = env1) (hs : ∀ x ∈ xs, turn gt body ks (h x) env1 = some (.nx env1)) : gFor fi gt body ks env = some (.nx env1) :=
  (gFor_fold (σ := Unit) (fun _ => env1) h (fun _ _ => ()) xs () hi h0 fun _ x hx => hs x hx).trans rfl
theorem sBf {a : En → Option PyData} {env : En} {b x : Bool} (h : a env = some (.bool b)) (hb : b = x) : sB a env = some x := (sB_ok h).trans (by rw [hb])
theorem no_to {c : En → Option Bool} {f : En → Option PyData} {k : En → Option Ou} {env : En} {o : Option Ou} (hc : c env = some false) (hk : k env = o) : gSeq (gIf c (gRet f) gNext) k env = o := seq_to ((if_f hc).trans rfl) hk
theorem no_nx {c : En → Option Bool} {f : En → Option PyData} {env : En} (hc : c env = some false) : gIf c (gRet f) gNext env = some (.nx env) := (if_f hc).trans rfl
theorem nor {a b : En → Option Bool} {env : En} (ha : a env = some false) (hb : b env = some false) : sOr a b env = some false := or_ok (x := false) (y := false) ha fun _ => hb
theorem min_N (a b : Nat) : minD [eN a, eN b] = some (eN (min a b)) := by
  show some (PyData.int (if (b : Int) < (a : Int) then (b : Int) else (a : Int))) = some (PyData.int ((min a b : Nat) : Int))
  congr 2
  split <;> omega
theorem sub_i (i j : Int) : subD (.int i) (.int j) = some (.int (i - j)) := rfl
theorem gt_i (i j : Int) : gtD (.int i) (.int j) = some (.bool (decide (j < i))) := rfl
theorem ge_i (i j : Int) : geD (.int i) (.int j) = some (.bool (decide (j ≤ i))) := rfl
theorem andV {a b : En → Option PyData} {env : En} (ha : a env = some (.bool true)) (hb : b env = some (.bool true)) : sAndV a b env = some (.bool true) := sAndV_ok (x := true) (y := true) ha fun _ => hb
theorem ret_t {f : En → Option PyData} {env : En} {b : Bool} (h : f env = some (.bool b)) (hb : b = true) : gRet f env = some (.rt (.bool true)) := ret_ok (h.trans (by rw [hb]))
theorem run_ok_ex {n : Nat} {g : En → Option Ou} {ds : List PyData} {α : Type} {f : α → PyData} {P : α → Prop} (h : ∃ o, g (ds.map Sl.dat ++ List.replicate n Sl.un) = some (.rt (f o)) ∧ P o) : ∃ o, runB n g ds = some (f o) ∧ P o := by
  obtain ⟨o, h1, h2⟩ := h
  exact ⟨o, run_ok h1, h2⟩
theorem ex_seq {g k : En → Option Ou} {env env1 : En} {α : Type} {f : α → PyData} {P : α → Prop} (h : g env = some (.nx env1)) (hk : ∃ o, k env1 = some (.rt (f o)) ∧ P o) : ∃ o, gSeq g k env = some (.rt (f o)) ∧ P o := by
  obtain ⟨o, h1, h2⟩ := hk
  exact ⟨o, seq_to h h1, h2⟩
theorem sl_ok' {f : En → Option PyData} {l h : En → Option (Option Int)} {env : En} {d : PyData} {lo hi : Option Int} (hf : f env = some d) (hl : l env = some lo) (hh : h env = some hi) : sSl f l h env = slD d lo hi := by
  unfold sSl
  rw [hf, Option.bind_some, hl, Option.bind_some, hh, Option.bind_some]
theorem forGo_skip {α : Type} {gt : PyData → En → Option En} {body : En → Option Ou} {ks : List Nat} {env : En} {h : α → PyData} {rest : List α} : ∀ pre : List α, (∀ x ∈ pre, turn gt body ks (h x) env = some (.nx env)) → forGo gt body ks ((pre ++ rest).map h) env = forGo gt body ks (rest.map h) env
  | [], _ => rfl
  | x :: pre, hs => by
    rw [List.cons_append, List.map_cons, forGo_cons, hs x List.mem_cons_self]
    exact forGo_skip pre fun y hy => hs y (List.mem_cons_of_mem _ hy)
theorem turn_rt {gt : PyData → En → Option En} {body : En → Option Ou} {ks : List Nat} {d r : PyData} {env env1 : En} (h1 : gt d env = some env1) (h2 : body env1 = some (.rt r)) : turn gt body ks d env = some (.rt r) := by
  unfold turn
  rw [h1, Option.bind_some, h2]
  rfl
theorem rg2_def {a b : Int} (h : -(2 ^ 62) ≤ a ∧ a < 2 ^ 62 ∧ -(2 ^ 62) ≤ b ∧ b < 2 ^ 62) : rg2 [.int a, .int b] = some (rgL a (b - a).toNat) := if_pos h
def fnd {α : Type} (r : α → PyData) (env : En) : Option α → Option Ou
  | some x => some (.rt (r x))
  | none => some (.nx env)
theorem forGo_fnd {α : Type} {gt : PyData → En → Option En} {body : En → Option Ou} {ks : List Nat} {env : En} {h r : α → PyData} (c : α → Bool) : ∀ xs : List α,
    (∀ x ∈ xs, turn gt body ks (h x) env = some (if c x = true then .rt (r x) else .nx env)) → forGo gt body ks (xs.map h) env = fnd r env (xs.find? c)
  | [], _ => rfl
  | x :: xs, hs => by
    rw [List.map_cons, forGo_cons, hs x List.mem_cons_self, List.find?_cons]
    cases hx : c x with
    | true => rfl
    | false => exact forGo_fnd c xs fun y hy => hs y (List.mem_cons_of_mem _ hy)
end Dz

/-! what the defs mean, printed by gen.py -/
namespace Dz
open PySem
def b_is_rest : En → Option Ou := (gRet (sAndV (s1 (isiD "int") (sVar 0)) (sAndV (sNotV (s1 (isiD "bool") (sVar 0))) (sChain leD ltD (sC (.int 0)) (sVar 0) (sVar 1)))))
def m_is_rest : List PyData → Option PyData := runB 0 b_is_rest
def is_table_c1 : En → Option (List PyData) := sLc (sQ (sVar 0)) (gN 2) sYes (sAndV (s1 (isiD "tuple") (sVar 2)) (sChain leD leD (sC (.int 1)) (sAs lenD (sCons (sVar 2) sNil)) (sC (.int 3)))) [2]
def is_table_c2 : En → Option (List PyData) := sLc (sQ (sVar 0)) (gN 2) sYes (s2 eqD (sAs lenD (sCons (sVar 2) sNil)) (sAs lenD (sCons (s2 ixD (sVar 0) (sC (.int 0))) sNil))) [2]
def is_table_c3 : En → Option (List PyData) := sLc (sQ (sVar 2)) (gN 3) sYes (sAs m_is_rest (sCons (sVar 3) (sCons (sVar 1) sNil))) [3]
def is_table_c4 : En → Option (List PyData) := sLc (sQ (sVar 0)) (gN 2) sYes (sAs allL is_table_c3) [2]
def b_is_table : En → Option Ou := (gSeq (gIf (sOr (sNot (sB (s1 (isiD "tuple") (sVar 0)))) (sNot (sB (sChain leD leD (sC (.int 1)) (sAs lenD (sCons (sVar 0) sNil)) (sC (.int 3)))))) (gRet (sC (.bool false))) gNext) (gSeq (gIf (sNot (sB (sAs allL is_table_c1))) (gRet (sC (.bool false))) gNext) (gSeq (gIf (sNot (sB (sAs allL is_table_c2))) (gRet (sC (.bool false))) gNext) (gRet (sAs allL is_table_c4)))))
def m_is_table : List PyData → Option PyData := runB 2 b_is_table
def plus_c1 : En → Option (List PyData) := sLc (sArg zp (sCons (sVar 4) (sCons (sVar 5) sNil))) (gT (gCons (gN 6) (gCons (gN 7) gNil))) sYes (s2 modD (s2 addD (sVar 6) (sVar 7)) (sVar 0)) [6, 7]
def plus_b2 : En → Option Ou := (gApp 3 (sAs tupL plus_c1))
def b_plus : En → Option Ou := (gSeq (gSetN 3 (sDis sNil)) (gSeq (gFor (sArg zp (sCons (sVar 1) (sCons (sVar 2) sNil))) (gT (gCons (gN 4) (gCons (gN 5) gNil))) plus_b2 [4, 5]) (gRet (sAs tupL (sOwn 3)))))
def m_plus : List PyData → Option PyData := runB 5 b_plus
def scaled_c1 : En → Option (List PyData) := sLc (sQ (sVar 3)) (gN 4) sYes (s2 modD (s2 mulD (sVar 1) (sVar 4)) (sVar 0)) [4]
def scaled_c2 : En → Option (List PyData) := sLc (sQ (sVar 2)) (gN 3) sYes (sAs tupL scaled_c1) [3]
def b_scaled : En → Option Ou := (gRet (sAs tupL scaled_c2))
def m_scaled : List PyData → Option PyData := runB 2 b_scaled
def turned_c1 : En → Option (List PyData) := sLc (sQ (sVar 0)) (gN 2) sYes (s2 ixD (sVar 2) (sVar 1)) [2]
def turned_c2 : En → Option (List PyData) := sLc (sArg rg1 (sCons (sAs lenD (sCons (s2 ixD (sVar 0) (sC (.int 0))) sNil)) sNil)) (gN 1) sYes (sAs tupL turned_c1) [1]
def b_turned : En → Option Ou := (gRet (sAs tupL turned_c2))
def m_turned : List PyData → Option PyData := runB 2 b_turned
def times_c1 : En → Option (List PyData) := sLc (sArg zp (sCons (sVar 5) (sCons (sVar 6) sNil))) (gT (gCons (gN 7) (gCons (gN 8) gNil))) sYes (s2 mulD (sVar 7) (sVar 8)) [7, 8]
def times_c2 : En → Option (List PyData) := sLc (sQ (sVar 3)) (gN 6) sYes (s2 modD (sAs sumL times_c1) (sVar 0)) [6]
def times_b3 : En → Option Ou := (gApp 4 (sAs tupL times_c2))
def b_times : En → Option Ou := (gSeq (gSet 3 (sAs m_turned (sCons (sVar 2) sNil))) (gSeq (gSetN 4 (sDis sNil)) (gSeq (gFor (sQ (sVar 1)) (gN 5) times_b3 [5]) (gRet (sAs tupL (sOwn 4))))))
def m_times : List PyData → Option PyData := runB 6 b_times
def unit_c1 : En → Option (List PyData) := sLc (sArg rg1 (sCons (sVar 0) sNil)) (gN 2) sYes (sAs intD (sCons (s2 eqD (sVar 1) (sVar 2)) sNil)) [2]
def unit_c2 : En → Option (List PyData) := sLc (sArg rg1 (sCons (sVar 0) sNil)) (gN 1) sYes (sAs tupL unit_c1) [1]
def b_unit : En → Option Ou := (gRet (sAs tupL unit_c2))
def m_unit : List PyData → Option PyData := runB 2 b_unit
def inverse_c1 : En → Option (List PyData) := sLc (sArg rg2 (sCons (sC (.int 1)) (sCons (sVar 0) sNil))) (gN 2) (sB (s2 eqD (s2 modD (s2 mulD (sVar 1) (sVar 2)) (sVar 0)) (sC (.int 1)))) (sVar 2) [2]
def b_inverse : En → Option Ou := (gRet (s2 ixD (sLst inverse_c1) (sC (.int 0))))
def m_inverse : List PyData → Option PyData := runB 1 b_inverse
def less_c1 : En → Option (List PyData) := sLc (sArg zp (sCons (sVar 1) (sCons (sVar 3) sNil))) (gT (gCons (gN 4) (gCons (gN 5) gNil))) sYes (s2 modD (s2 subD (sVar 4) (s2 mulD (sVar 2) (sVar 5))) (sVar 0)) [4, 5]
def b_less : En → Option Ou := (gRet (sAs tupL less_c1))
def m_less : List PyData → Option PyData := runB 2 b_less
def first_of_b1 : En → Option Ou := (gIf (sB (s2 neD (sVar 2) (sC (.int 0)))) (gRet (sVar 1)) gNext)
def b_first_of : En → Option Ou := (gSeq (gFor (sArg enu (sCons (sVar 0) sNil)) (gT (gCons (gN 1) (gCons (gN 2) gNil))) first_of_b1 [1, 2]) (gRet (sAs lenD (sCons (sVar 0) sNil))))
def m_first_of : List PyData → Option PyData := runB 2 b_first_of
def reduced_b1 : En → Option Ou := (gSet 3 (sAs m_less (sCons (sVar 0) (sCons (sVar 3) (sCons (s2 ixD (sVar 3) (sAs m_first_of (sCons (sVar 4) sNil))) (sCons (sVar 4) sNil))))))
def reduced_c2 : En → Option (List PyData) := sLc (sQ (sVar 3)) (gN 7) sYes (s2 modD (s2 mulD (sVar 6) (sVar 7)) (sVar 0)) [7]
def reduced_c3 : En → Option (List PyData) := sLc (sQ (sVar 2)) (gN 4) sYes (sAs m_less (sCons (sVar 0) (sCons (sVar 4) (sCons (s2 ixD (sVar 4) (sVar 5)) (sCons (sVar 3) sNil))))) [4]
def reduced_b4 : En → Option Ou := (gSeq (gFor (sQ (sVar 2)) (gN 4) reduced_b1 [4]) (gSeq (gSet 5 (sAs m_first_of (sCons (sVar 3) sNil))) (gIf (sB (s2 ltD (sVar 5) (sAs lenD (sCons (sVar 3) sNil)))) (gSeq (gSet 6 (sAs m_inverse (sCons (sVar 0) (sCons (s2 ixD (sVar 3) (sVar 5)) sNil)))) (gSeq (gSet 3 (sAs tupL reduced_c2)) (gSet 2 (sLst (sCat reduced_c3 (sDis (sCons (sVar 3) sNil))))))) gNext)))
def b_reduced : En → Option Ou := (gSeq (gSet 2 (sLst (sDis sNil))) (gSeq (gFor (sQ (sVar 1)) (gN 3) reduced_b4 [3, 4, 5, 6]) (gRet (s1 revA (sLst (sSrt (sOwn 2)))))))
def m_reduced : List PyData → Option PyData := runB 6 b_reduced
def b_rank : En → Option Ou := (gRet (sAs lenD (sCons (sAs m_reduced (sCons (sVar 0) (sCons (sVar 1) sNil))) sNil)))
def m_rank : List PyData → Option PyData := runB 0 b_rank
def undone_c1 : En → Option (List PyData) := sLc (sArg zp (sCons (sVar 1) (sCons (sAs m_unit (sCons (sVar 2) sNil)) sNil))) (gT (gCons (gN 4) (gCons (gN 5) gNil))) sYes (s2 addD (sVar 4) (sVar 5)) [4, 5]
def undone_c2 : En → Option (List PyData) := sLc (sQ (sVar 3)) (gN 4) sYes (sSl (sVar 4) (sSo (sVar 2)) sNo) [4]
def b_undone : En → Option (Option Ou) := (xSeq (gSet 2 (sAs lenD (sCons (sVar 1) sNil))) (xIf (sB (s2 ltD (sAs m_rank (sCons (sVar 0) (sCons (sVar 1) sNil))) (sVar 2))) (xOk (gSeq (gSet 3 (sAs m_reduced (sCons (sVar 0) (sCons (sLst undone_c1) sNil)))) (gRet (sAs tupL undone_c2))))))
def m_undone : List PyData → Option (Option PyData) := runX 4 b_undone
def b_without_place : En → Option Ou := (gRet (s2 addD (sSl (sVar 0) sNo (sSo (sVar 1))) (sSl (sVar 0) (sSo (s2 addD (sVar 1) (sC (.int 1)))) sNo)))
def m_without_place : List PyData → Option PyData := runB 0 b_without_place
def worth_c1 (r : List PyData → Option PyData) : En → Option (List PyData) := sLc (sQ (sSl (sVar 1) (sSo (sC (.int 1))) sNo)) (gN 6) sYes (sAs m_without_place (sCons (sVar 6) (sCons (sVar 3) sNil))) [6]
def worth_b2 (r : List PyData → Option PyData) : En → Option Ou := (gSeq (gSet 5 (sAs r (sCons (sVar 0) (sCons (sAs tupL (worth_c1 r)) sNil)))) (gSet 2 (s2 addD (sVar 2) (s2 mulD (s2 mulD (s2 subD (sC (.int 1)) (s2 mulD (s2 modD (sVar 3) (sC (.int 2))) (sC (.int 2)))) (sVar 4)) (sVar 5)))))
def b_worth (r : List PyData → Option PyData) : En → Option Ou := (gSeq (gIf (sB (s2 eqD (sAs lenD (sCons (sVar 1) sNil)) (sC (.int 1)))) (gRet (s2 modD (s2 ixD (s2 ixD (sVar 1) (sC (.int 0))) (sC (.int 0))) (sVar 0))) gNext) (gSeq (gSet 2 (sC (.int 0))) (gSeq (gFor (sArg enu (sCons (s2 ixD (sVar 1) (sC (.int 0))) sNil)) (gT (gCons (gN 3) (gCons (gN 4) gNil))) (worth_b2 r) [3, 4, 5]) (gRet (s2 modD (sVar 2) (sVar 0))))))
def m_worth : Nat → List PyData → Option PyData
  | 0 => fun _ => none
  | n + 1 => runB 5 (b_worth (m_worth n))
def as_row_b1 : En → Option Ou := (gSet 1 (s2 addD (sVar 1) (sVar 2)))
def b_as_row : En → Option Ou := (gSeq (gSet 1 (sTup sNil)) (gSeq (gFor (sQ (sVar 0)) (gN 2) as_row_b1 [2]) (gRet (sVar 1))))
def m_as_row : List PyData → Option PyData := runB 2 b_as_row
def as_table_c1 : En → Option (List PyData) := sLc (sArg rg3 (sCons (sC (.int 0)) (sCons (sAs lenD (sCons (sVar 0) sNil)) (sCons (sVar 1) sNil)))) (gN 2) sYes (sSl (sVar 0) (sSo (sVar 2)) (sSo (s2 addD (sVar 2) (sVar 1)))) [2]
def b_as_table : En → Option Ou := (gRet (sAs tupL as_table_c1))
def m_as_table : List PyData → Option PyData := runB 1 b_as_table
def noughts_c1 : En → Option (List PyData) := sLc (sQ (sVar 3)) (gN 9) sYes (sAs m_first_of (sCons (sVar 9) sNil)) [9]
def noughts_b2 : En → Option Ou := (gPut 7 (sVar 8) (s2 modD (s2 subD (sC (.int 0)) (s2 ixD (sVar 9) (sVar 6))) (sVar 0)))
def noughts_b3 : En → Option Ou := (gIf (sB (s2 niD (sVar 6) (sVar 4))) (gSeq (gSetN 7 (sRep (sDis (sCons (sC (.int 0)) sNil)) (sVar 2))) (gSeq (gPut 7 (sVar 6) (sC (.int 1))) (gSeq (gFor (sArg zp (sCons (sVar 4) (sCons (sVar 3) sNil))) (gT (gCons (gN 8) (gCons (gN 9) gNil))) noughts_b2 [8, 9]) (gApp 5 (sAs tupL (sOwn 7)))))) gNext)
def b_noughts : En → Option Ou := (gSeq (gSet 3 (sAs m_reduced (sCons (sVar 0) (sCons (sVar 1) sNil)))) (gSeq (gSetN 4 noughts_c1) (gFz 4 (gSeq (gSetN 5 (sDis sNil)) (gSeq (gFor (sArg rg1 (sCons (sVar 2) sNil)) (gN 6) noughts_b3 [6, 7, 8, 9]) (gFz 5 (gRet (sAs m_reduced (sCons (sVar 0) (sCons (sVar 5) sNil))))))))))
def m_noughts : List PyData → Option PyData := runB 7 b_noughts
def b_carries : En → Option Ou := (gSeq (gIf (sOr (sNot (sB (sAs m_is_table (sCons (sVar 3) (sCons (sVar 0) sNil))))) (sOr (sB (s2 neD (sAs lenD (sCons (sVar 3) sNil)) (sAs lenD (sCons (sVar 1) sNil)))) (sB (s2 neD (sAs lenD (sCons (s2 ixD (sVar 3) (sC (.int 0))) sNil)) (sAs lenD (sCons (sVar 2) sNil)))))) (gRet (sC (.bool false))) gNext) (gRet (s2 eqD (sAs m_times (sCons (sVar 0) (sCons (sVar 1) (sCons (sVar 3) sNil)))) (sAs m_times (sCons (sVar 0) (sCons (sVar 3) (sCons (sVar 2) sNil)))))))
def m_carries : List PyData → Option PyData := runB 0 b_carries
def demands_b1 : En → Option Ou := (gPut 5 (s2 addD (s2 mulD (sVar 6) (sAs lenD (sCons (sVar 1) sNil))) (sVar 4)) (s2 addD (sIxL (sOwn 5) (s2 addD (s2 mulD (sVar 6) (sAs lenD (sCons (sVar 1) sNil))) (sVar 4))) (s2 ixD (s2 ixD (sVar 0) (sVar 3)) (sVar 6))))
def demands_b2 : En → Option Ou := (gPut 5 (s2 addD (s2 mulD (sVar 3) (sAs lenD (sCons (sVar 1) sNil))) (sVar 6)) (s2 subD (sIxL (sOwn 5) (s2 addD (s2 mulD (sVar 3) (sAs lenD (sCons (sVar 1) sNil))) (sVar 6))) (s2 ixD (s2 ixD (sVar 1) (sVar 6)) (sVar 4))))
def demands_b3 : En → Option Ou := (gSeq (gSetN 5 (sRep (sDis (sCons (sC (.int 0)) sNil)) (s2 mulD (sAs lenD (sCons (sVar 0) sNil)) (sAs lenD (sCons (sVar 1) sNil))))) (gSeq (gFor (sArg rg1 (sCons (sAs lenD (sCons (sVar 0) sNil)) sNil)) (gN 6) demands_b1 [6]) (gSeq (gFor (sArg rg1 (sCons (sAs lenD (sCons (sVar 1) sNil)) sNil)) (gN 6) demands_b2 [6]) (gApp 2 (sAs tupL (sOwn 5))))))
def demands_b4 : En → Option Ou := (gFor (sArg rg1 (sCons (sAs lenD (sCons (sVar 1) sNil)) sNil)) (gN 4) demands_b3 [4, 5, 6])
def b_demands : En → Option Ou := (gSeq (gSetN 2 (sDis sNil)) (gSeq (gFor (sArg rg1 (sCons (sAs lenD (sCons (sVar 0) sNil)) sNil)) (gN 3) demands_b4 [3, 4, 5, 6]) (gFz 2 (gRet (sVar 2)))))
def m_demands : List PyData → Option PyData := runB 5 b_demands
def common_carriers_c1 : En → Option (List PyData) := sLc (sQ (sVar 6)) (gN 7) sYes (s2 modD (sVar 7) (sVar 0)) [7]
def common_carriers_c2 : En → Option (List PyData) := sLc (sQ (sAs m_demands (sCons (sVar 3) (sCons (sVar 4) sNil)))) (gN 6) sYes (sAs tupL common_carriers_c1) [6]
def common_carriers_b3 : En → Option Ou := (gExt 2 common_carriers_c2)
def common_carriers_c4 : En → Option (List PyData) := sLc (sQ (sAs m_noughts (sCons (sVar 0) (sCons (sVar 2) (sCons (s2 mulD (sAs lenD (sCons (s2 ixD (s2 ixD (sVar 1) (sC (.int 0))) (sC (.int 0))) sNil)) (sVar 5)) sNil))))) (gN 6) sYes (sAs m_as_table (sCons (sVar 6) (sCons (sVar 5) sNil))) [6]
def b_common_carriers : En → Option Ou := (gSeq (gSetN 2 (sDis sNil)) (gSeq (gFor (sQ (sVar 1)) (gT (gCons (gN 3) (gCons (gN 4) gNil))) common_carriers_b3 [3, 4]) (gSeq (gSet 5 (sAs lenD (sCons (s2 ixD (s2 ixD (sVar 1) (sC (.int 0))) (sC (.int 1))) sNil))) (gFz 2 (gRet (sAs tupL common_carriers_c4))))))
def m_common_carriers : List PyData → Option PyData := runB 6 b_common_carriers
def b_carriers : En → Option Ou := (gRet (sAs m_common_carriers (sCons (sVar 0) (sCons (sTup (sCons (sTup (sCons (sVar 1) (sCons (sVar 2) sNil))) sNil)) sNil))))
def m_carriers : List PyData → Option PyData := runB 0 b_carriers
def many_of_b1 : En → Option Ou := (gSet 2 (s2 mulD (sVar 2) (sVar 0)))
def b_many_of : En → Option Ou := (gSeq (gSet 2 (sC (.int 1))) (gSeq (gFor (sQ (sVar 1)) (gN 3) many_of_b1 [3]) (gRet (sVar 2))))
def m_many_of : List PyData → Option PyData := runB 2 b_many_of
def b_many_carriers : En → Option Ou := (gRet (sAs m_many_of (sCons (sVar 0) (sCons (sAs m_carriers (sCons (sVar 0) (sCons (sVar 1) (sCons (sVar 2) sNil)))) sNil))))
def m_many_carriers : List PyData → Option PyData := runB 0 b_many_carriers
def carrier_at_b1 : En → Option Ou := (gSeq (gSet 5 (sAs m_plus (sCons (sVar 0) (sCons (sVar 5) (sCons (sAs m_scaled (sCons (sVar 0) (sCons (s2 modD (sVar 3) (sVar 0)) (sCons (sVar 6) sNil)))) sNil))))) (gSet 3 (s2 divD (sVar 3) (sVar 0))))
def b_carrier_at : En → Option (Option Ou) := (xSeq (gSet 4 (sAs m_carriers (sCons (sVar 0) (sCons (sVar 1) (sCons (sVar 2) sNil))))) (xIf (sNot (sB (sChain leD ltD (sC (.int 0)) (sVar 3) (sAs m_many_of (sCons (sVar 0) (sCons (sVar 4) sNil)))))) (xOk (gSeq (gSet 5 (s2 mulD (sTup (sCons (s2 mulD (sTup (sCons (sC (.int 0)) sNil)) (sAs lenD (sCons (sVar 2) sNil))) sNil)) (sAs lenD (sCons (sVar 1) sNil)))) (gSeq (gFor (sQ (s1 revA (sVar 4))) (gN 6) carrier_at_b1 [6]) (gRet (sVar 5)))))))
def m_carrier_at : List PyData → Option (Option PyData) := runX 3 b_carrier_at
def place_of_b1 : En → Option Ou := (gSet 5 (s2 addD (s2 mulD (sVar 5) (sVar 0)) (s2 ixD (sVar 4) (sAs m_first_of (sCons (sAs m_as_row (sCons (sVar 6) sNil)) sNil)))))
def b_place_of : En → Option (Option Ou) := (xIf (sNot (sB (sAs m_carries (sCons (sVar 0) (sCons (sVar 1) (sCons (sVar 2) (sCons (sVar 3) sNil))))))) (xOk (gSeq (gSet 4 (sAs m_as_row (sCons (sVar 3) sNil))) (gSeq (gSet 5 (sC (.int 0))) (gSeq (gFor (sQ (sAs m_carriers (sCons (sVar 0) (sCons (sVar 1) (sCons (sVar 2) sNil))))) (gN 6) place_of_b1 [6]) (gRet (sVar 5)))))))
def m_place_of : List PyData → Option (Option PyData) := runX 3 b_place_of
def table_text_c1 : En → Option (List PyData) := sLc (sQ (sVar 1)) (gN 2) sYes (sAs strD (sCons (sVar 2) sNil)) [2]
def table_text_c2 : En → Option (List PyData) := sLc (sQ (sVar 0)) (gN 1) sYes (sJoin (sC (.str "")) table_text_c1) [1]
def b_table_text : En → Option Ou := (gRet (sJoin (sC (.str "/")) table_text_c2))
def m_table_text : List PyData → Option PyData := runB 2 b_table_text
def read_table_c1 : En → Option (List PyData) := sLc (sSig (sVar 0)) (gN 3) sYes (s2 inD (sVar 3) (s2 addD (sC (.str "01234")) (sC (.str "/")))) [3]
def read_table_c2 : En → Option (List PyData) := sLc (sSig (sVar 4)) (gN 3) sYes (sAs intS (sCons (sVar 3) sNil)) [3]
def read_table_c3 : En → Option (List PyData) := sLc (sQ (sLst (sSplit (sVar 0) (sC (.str "/"))))) (gN 4) sYes (sAs tupL read_table_c2) [4]
def b_read_table : En → Option (Option Ou) := (xIf (sOr (sNot (sB (s1 (isiD "str") (sVar 0)))) (sNot (sB (sAs allL read_table_c1)))) (xSeq (gSet 2 (sAs tupL read_table_c3)) (xIf (sNot (sB (sAs m_is_table (sCons (sVar 2) (sCons (sVar 1) sNil))))) (xOk (gRet (sVar 2))))))
def m_read_table : List PyData → Option (Option PyData) := runX 3 b_read_table
def b_law_cell_at : En → Option Ou := (gSeq (gIf (sB (s2 ltD (sVar 1) (sAs lenD (sCons (sVar 0) sNil)))) (gRet (s2 ixD (sVar 0) (sVar 1))) gNext) (gRet (sC (.int 0))))
def m_law_cell_at : List PyData → Option PyData := runB 0 b_law_cell_at
def b_law_mixed : En → Option Ou := (gSeq (gSet 2 (s2 modD (s2 mulD (s2 addD (s2 addD (sAs m_law_cell_at (sCons (sVar 0) (sCons (sVar 1) sNil))) (s2 mulD (sC (.int 7919)) (sVar 1))) (sC (.int 1))) (sC (.int 48271))) (sC (.int 2147483647)))) (gRet (s2 modD (s2 addD (s2 addD (s2 mulD (sVar 2) (sVar 2)) (s2 mulD (sC (.int 7)) (sVar 2))) (sVar 1)) (sC (.int 2147483629)))))
def m_law_mixed : List PyData → Option PyData := runB 1 b_law_mixed
def b_law_drawn : En → Option Ou := (gSeq (gSet 2 (s2 modD (s2 mulD (s2 addD (s2 addD (sVar 0) (s2 mulD (sC (.int 104729)) (sVar 1))) (sC (.int 17))) (sC (.int 69621))) (sC (.int 2147483647)))) (gRet (s2 modD (s2 addD (s2 addD (s2 mulD (sVar 2) (sVar 2)) (s2 mulD (sC (.int 3)) (sVar 2))) (sVar 1)) (sC (.int 2147483629)))))
def m_law_drawn : List PyData → Option PyData := runB 1 b_law_drawn
def law_table_b1 : En → Option Ou := (gSeq (gSet 9 (s2 divD (sAs m_law_drawn (sCons (sVar 0) (sCons (s2 addD (s2 mulD (sC (.int 5)) (sVar 6)) (sVar 8)) sNil))) (sC (.int 4)))) (gSeq (gSet 10 (s2 modD (sVar 9) (sVar 1))) (gSeq (gIf (sAnd (sB (s2 eqD (sVar 4) (sC (.int 1)))) (sB (s2 gtD (s2 modD (s2 divD (sVar 9) (sC (.int 8))) (sC (.int 3))) (sC (.int 0))))) (gSet 10 (sC (.int 0))) gNext) (gSeq (gIf (sAnd (sB (s2 eqD (sVar 4) (sC (.int 2)))) (sB (s2 gtD (sVar 6) (sVar 8)))) (gSet 10 (sC (.int 0))) gNext) (gSeq (gIf (sAnd (sB (s2 eqD (sVar 4) (sC (.int 3)))) (sB (s2 eqD (sVar 6) (sVar 8)))) (gSet 10 (s2 modD (s2 divD (sVar 0) (sC (.int 16))) (sVar 1))) gNext) (gApp 7 (sVar 10)))))))
def law_table_b2 : En → Option Ou := (gSeq (gSetN 7 (sDis sNil)) (gSeq (gFor (sArg rg1 (sCons (sVar 3) sNil)) (gN 8) law_table_b1 [8, 9, 10]) (gApp 5 (sAs tupL (sOwn 7)))))
def b_law_table : En → Option Ou := (gSeq (gSet 4 (s2 modD (sVar 0) (sC (.int 4)))) (gSeq (gSetN 5 (sDis sNil)) (gSeq (gFor (sArg rg1 (sCons (sVar 2) sNil)) (gN 6) law_table_b2 [6, 7, 8, 9, 10]) (gRet (sAs tupL (sOwn 5))))))
def m_law_table : List PyData → Option PyData := runB 7 b_law_table
def b_law_by : En → Option Ou := (gRet (s2 ixD (sTup (sCons (sC (.int 2)) (sCons (sC (.int 3)) (sCons (sC (.int 5)) sNil)))) (s2 modD (sVar 0) (sC (.int 3)))))
def m_law_by : List PyData → Option PyData := runB 0 b_law_by
def law_c1 (T : Addr) : En → Option (List PyData) := sLc (sArg rg1 (sCons (sC (.int 2)) sNil)) (gN 13) sYes (s2 addD (sC (.int 1)) (s2 modD (s2 divD (sVar 1) (s2 ixD (sTup (sCons (sC (.int 16)) (sCons (sC (.int 64)) sNil))) (sVar 13))) (sC (.int 3)))) [13]
def law_b2 (T : Addr) : En → Option Ou := (gSeq (gSet 9 (sTold T 14 1 1 m_carrier_at (sCons (sVar 2) (sCons (sVar 5) (sCons (sVar 6) (sCons (sVar 11) sNil)))))) (gSeq (gIf (sOr (sB (s2 neD (s2 eqD (s2 ixD (sVar 9) (sC (.int 0))) (sC (.str "told"))) (sChain leD ltD (sC (.int 0)) (sVar 11) (sVar 10)))) (sB (s2 eqD (sVar 9) (sTup (sCons (sC (.str "refused")) (sCons (sC (.bool false)) sNil)))))) (gRet (sC (.bool false))) gNext) (gIf (sAnd (sB (s2 eqD (s2 ixD (sVar 9) (sC (.int 0))) (sC (.str "told")))) (sB (s2 neD (sAs (mOk m_place_of) (sCons (sVar 2) (sCons (sVar 5) (sCons (sVar 6) (sCons (s2 ixD (sVar 9) (sC (.int 1))) sNil))))) (sVar 11)))) (gRet (sC (.bool false))) gNext)))
def law_b3 (T : Addr) : En → Option Ou := (gSeq (gSet 9 (sTold T 14 2 2 m_read_table (sCons (sVar 12) (sCons (sVar 2) sNil)))) (gSeq (gIf (sOr (sAnd (sB (s2 eqD (s2 ixD (sVar 9) (sC (.int 0))) (sC (.str "told")))) (sB (s2 neD (sAs m_table_text (sCons (s2 ixD (sVar 9) (sC (.int 1))) sNil)) (sVar 12)))) (sB (s2 eqD (sVar 9) (sTup (sCons (sC (.str "refused")) (sCons (sC (.bool false)) sNil)))))) (gRet (sC (.bool false))) gNext) (gIf (sB (s2 neD (s2 eqD (s2 ixD (sVar 9) (sC (.int 0))) (sC (.str "refused"))) (s2 neD (sVar 12) (sAs m_table_text (sCons (sVar 7) sNil))))) (gRet (sC (.bool false))) gNext)))
def law_b4 (T : Addr) : En → Option Ou := (gSeq (gSet 9 (sTold T 14 0 0 m_undone (sCons (sVar 2) (sCons (sVar 5) sNil)))) (gSeq (gIf (sOr (sB (s2 neD (s2 eqD (sVar 9) (sTup (sCons (sC (.str "refused")) (sCons (sC (.bool true)) sNil)))) (s2 ltD (sAs m_rank (sCons (sVar 2) (sCons (sVar 5) sNil))) (sVar 3)))) (sB (s2 neD (s2 ltD (sAs m_rank (sCons (sVar 2) (sCons (sVar 5) sNil))) (sVar 3)) (s2 eqD (sAs (m_worth 6) (sCons (sVar 2) (sCons (sVar 5) sNil))) (sC (.int 0)))))) (gRet (sC (.bool false))) gNext) (gSeq (gSet 10 (sAs m_many_carriers (sCons (sVar 2) (sCons (sVar 5) (sCons (sVar 6) sNil))))) (gSeq (gFor (sQ (sTup (sCons (sC (.int 0)) (sCons (s2 subD (sVar 10) (sC (.int 1))) (sCons (sVar 10) (sCons (s1 negD (sC (.int 1))) (sCons (s2 addD (sVar 10) (sC (.int 7))) sNil))))))) (gN 11) (law_b2 T) [9, 11]) (gSeq (gSet 9 (sTold T 14 1 1 m_place_of (sCons (sVar 2) (sCons (sVar 5) (sCons (sVar 6) (sCons (sVar 7) sNil)))))) (gSeq (gIf (sOr (sB (s2 neD (s2 eqD (sVar 9) (sTup (sCons (sC (.str "refused")) (sCons (sC (.bool true)) sNil)))) (sNotV (sAs m_carries (sCons (sVar 2) (sCons (sVar 5) (sCons (sVar 6) (sCons (sVar 7) sNil)))))))) (sB (s2 eqD (sVar 9) (sTup (sCons (sC (.str "refused")) (sCons (sC (.bool false)) sNil)))))) (gRet (sC (.bool false))) gNext) (gFor (sQ (sTup (sCons (sAs m_table_text (sCons (sVar 7) sNil)) (sCons (s2 addD (sAs m_table_text (sCons (sVar 7) sNil)) (sC (.str "/"))) (sCons (sC (.str "")) (sCons (sC (.str "9")) (sCons (sC (.str "0 1")) (sCons (s2 addD (s1 revS (sAs m_table_text (sCons (sVar 7) sNil))) (sC (.str "x"))) sNil)))))))) (gN 12) (law_b3 T) [9, 12])))))))
def b_law (T : Addr) : En → Option Ou := (gSeq (gSet 1 (sAs m_law_mixed (sCons (sVar 0) (sCons (sC (.int 0)) sNil)))) (gSeq (gSet 2 (sAs m_law_by (sCons (sVar 1) sNil))) (gSeq (gAsg (sLst (law_c1 T)) (gL (gCons (gN 3) (gCons (gN 4) gNil)))) (gSeq (gSet 5 (sAs m_law_table (sCons (sAs m_law_mixed (sCons (sVar 0) (sCons (sC (.int 1)) sNil))) (sCons (sVar 2) (sCons (sVar 3) (sCons (sVar 3) sNil)))))) (gSeq (gSet 6 (sAs m_law_table (sCons (sAs m_law_mixed (sCons (sVar 0) (sCons (sC (.int 2)) sNil))) (sCons (sVar 2) (sCons (sVar 4) (sCons (sVar 4) sNil)))))) (gSeq (gSet 7 (sAs m_law_table (sCons (sAs m_law_mixed (sCons (sVar 0) (sCons (sC (.int 3)) sNil))) (sCons (sVar 2) (sCons (sVar 3) (sCons (sVar 4) sNil)))))) (gSeq (gFor (sArg rg1 (sCons (sC (.int 2)) sNil)) (gN 8) (law_b4 T) [8, 9, 10, 11, 12]) (gRet (sC (.bool true))))))))))
def m_law (T : Addr) : List PyData → Option PyData := runT T 13 (b_law T)
end Dz

/-! La1: rows, what comes of them, their one form. -/
namespace Dz
abbrev Vc (p n : Nat) : Type := Fin n → Fin p
section
variable {p : Nat} [Pr p] {n : Nat}
def vz : Vc p n := fun _ => 0
/-- what comes of rows -/
def spn : List (Vc p n) → Vc p n → Prop
  | [], v => v = vz
  | o :: L, v => ∃ x : Fin p, spn L fun i => v i - x * o i
structure Sb (S : Vc p n → Prop) : Prop where
  z : S vz
  lc : ∀ (x : Fin p) (v w : Vc p n), S v → S w → S fun i => v i + x * w i
theorem Sb.sub {S : Vc p n → Prop} (h : Sb S) {v w : Vc p n} (hv : S v) (hw : S w) (x : Fin p) : S fun i => v i - x * w i := by
  have := h.lc (-x) v w hv hw
  have e : (fun i => v i + -x * w i) = fun i => v i - x * w i := by funext i; grind
  rwa [e] at this
theorem Sb.mul {S : Vc p n → Prop} (h : Sb S) {w : Vc p n} (hw : S w) (x : Fin p) : S fun i => x * w i := by
  have := h.lc x vz w h.z hw
  have e : (fun i => vz i + x * w i) = fun i => x * w i := by funext i; show 0 + x * w i = _; grind
  rwa [e] at this
theorem Sb.add {S : Vc p n → Prop} (h : Sb S) {v w : Vc p n} (hv : S v) (hw : S w) : S fun i => v i + w i := by
  have := h.lc 1 v w hv hw
  have e : (fun i => v i + 1 * w i) = fun i => v i + w i := by funext i; grind
  rwa [e] at this
theorem spn_sb : ∀ L : List (Vc p n), Sb (spn L)
  | [] => ⟨rfl, fun x v w hv hw => by
    have hv : v = vz := hv
    have hw : w = vz := hw
    subst hv hw
    show (fun i => vz i + x * vz i) = vz
    funext i
    show (0 : Fin p) + x * 0 = 0
    grind⟩
  | o :: L => by
    have ih := spn_sb L
    refine ⟨⟨0, ?_⟩, fun x v w ⟨a, ha⟩ ⟨b, hb⟩ => ⟨a + x * b, ?_⟩⟩
    · have e : (fun i => (vz : Vc p n) i - 0 * o i) = vz := by funext i; show (0 : Fin p) - 0 * o i = 0; grind
      rw [e]
      exact ih.z
    · have := ih.lc x _ _ ha hb
      have e : (fun i => (v i - a * o i) + x * (w i - b * o i)) = fun i => (v i + x * w i) - (a + x * b) * o i := by funext i; grind
      rwa [e] at this
theorem spn_up {L : List (Vc p n)} {o v : Vc p n} (h : spn L v) : spn (o :: L) v := ⟨0, by
  have e : (fun i => v i - 0 * o i) = v := by funext i; grind
  rw [e]
  exact h⟩
theorem spn_mem : ∀ {L : List (Vc p n)} {o : Vc p n}, o ∈ L → spn L o
  | a :: L, o, h => by
    rcases List.mem_cons.mp h with rfl | h
    · refine ⟨1, ?_⟩
      have e : (fun i => o i - 1 * o i) = vz := by funext i; show o i - 1 * o i = 0; grind
      rw [e]
      exact (spn_sb L).z
    · exact spn_up (spn_mem h)
theorem spn_le {S : Vc p n → Prop} (hS : Sb S) : ∀ {L : List (Vc p n)}, (∀ o ∈ L, S o) → ∀ {v}, spn L v → S v
  | [], _, v, h => by
    have h : v = vz := h
    rw [h]
    exact hS.z
  | o :: L, hL, v, ⟨x, h⟩ => by
    have h1 := spn_le hS (fun a ha => hL a (List.mem_cons_of_mem _ ha)) h
    have := hS.lc x _ _ h1 (hL o List.mem_cons_self)
    have e : (fun i => (v i - x * o i) + x * o i) = v := by funext i; grind
    rwa [e] at this
theorem spn_mono {L M : List (Vc p n)} (h : ∀ o ∈ L, spn M o) {v : Vc p n} (hv : spn L v) : spn M v := spn_le (spn_sb M) h hv
theorem spn_perm {L M : List (Vc p n)} (h : L.Perm M) {v : Vc p n} : spn L v ↔ spn M v :=
  ⟨spn_mono fun o ho => spn_mem (h.mem_iff.mp ho), spn_mono fun o ho => spn_mem (h.mem_iff.mpr ho)⟩
/-! ### the first number that is not 0 -/
def fo (v : Vc p n) : Nat := (fr n).findIdx fun i => !decide (v i = 0)
def at' (v : Vc p n) (k : Nat) : Fin p := if h : k < n then v ⟨k, h⟩ else 0
theorem at_v (v : Vc p n) (i : Fin n) : at' v i.val = v i := dif_pos i.isLt
theorem fo_of {v : Vc p n} {i : Fin n} (h : v i ≠ 0) (h' : ∀ j, j < i → v j = 0) : fo v = i.val := by
  unfold fo
  rw [List.findIdx_eq (by rw [fr_len]; exact i.isLt)]
  refine ⟨?_, fun j hj => ?_⟩
  · simpa using h
  · have := h' ⟨j, Nat.lt_trans hj i.isLt⟩ hj
    simpa using this
theorem fo_z {v : Vc p n} (h : ¬ fo v < n) : v = vz := by
  funext i
  show v i = 0
  unfold fo at h
  have h1 : ¬ (fr n).findIdx (fun i => !decide (v i = 0)) < (fr n).length := by rw [fr_len]; exact h
  rw [List.findIdx_lt_length] at h1
  exact Classical.byContradiction fun hz => h1 ⟨i, fr_mem i, by simpa using hz⟩
theorem fo_lt {v : Vc p n} (h : fo v < n) : ∃ i : Fin n, fo v = i.val ∧ v i ≠ 0 ∧ ∀ j, j < i → v j = 0 := by
  refine ⟨⟨fo v, h⟩, rfl, ?_, fun j hj => ?_⟩
  · have := List.findIdx_getElem (xs := fr n) (p := fun i => !decide (v i = 0)) (w := by rw [fr_len]; exact h)
    simpa [fo] using this
  · have := List.not_of_lt_findIdx (xs := fr n) (p := fun i => !decide (v i = 0)) (i := j.val) hj
    simpa using this
theorem fo_vz : ¬ fo (vz : Vc p n) < n := fun h => by
  obtain ⟨i, _, h1, _⟩ := fo_lt h
  exact h1 rfl
/-- a row that begins with 1 at a place -/
def Ld (v : Vc p n) (i : Fin n) : Prop := v i = 1 ∧ ∀ j, j < i → v j = 0
theorem Ld.fo {v : Vc p n} {i : Fin n} (h : Ld v i) : fo v = i.val := fo_of (by rw [h.1]; exact z1.symm) h.2
theorem Ld.eq {v : Vc p n} {i j : Fin n} (h : Ld v i) (g : Ld v j) : i = j := Fin.ext (h.fo.symm.trans g.fo)
/-- rows in the form, in any order -/
structure RF (L : List (Vc p n)) : Prop where
  ld : ∀ o ∈ L, ∃ i, Ld o i
  dj : L.Pairwise fun a b => ∀ i j, Ld a i → Ld b j → a j = 0 ∧ b i = 0
def lss (r : Vc p n) (x : Fin p) (o : Vc p n) : Vc p n := fun i => r i - x * o i
def rdc (found : List (Vc p n)) (row : Vc p n) : Vc p n := found.foldl (fun r o => lss r (at' r (fo o)) o) row
theorem rdc_keep {j : Fin n} : ∀ {L : List (Vc p n)} {r : Vc p n}, (∀ o ∈ L, o j = 0) → rdc L r j = r j
  | [], _, _ => rfl
  | o :: L, r, h => by
    show rdc L (lss r (at' r (fo o)) o) j = _
    rw [rdc_keep fun a ha => h a (List.mem_cons_of_mem _ ha)]
    show r j - _ * o j = _
    rw [h o List.mem_cons_self]
    grind
theorem rdc_z : ∀ {L : List (Vc p n)} {r : Vc p n}, RF L → ∀ o ∈ L, ∀ i, Ld o i → rdc L r i = 0
  | a :: L, r, h, o, ho, i, hi => by
    have hp := List.pairwise_cons.mp h.dj
    have hL : RF L := ⟨fun x hx => h.ld x (List.mem_cons_of_mem _ hx), hp.2⟩
    rcases List.mem_cons.mp ho with rfl | ho
    · show rdc L (lss r (at' r (fo o)) o) i = 0
      rw [rdc_keep fun b hb => by
        obtain ⟨j, hj⟩ := hL.ld b hb
        exact (hp.1 b hb i j hi hj).2]
      show r i - at' r (fo o) * o i = 0
      rw [hi.fo, at_v, hi.1]
      grind
    · exact rdc_z hL o ho i hi
theorem rdc_spn : ∀ {L : List (Vc p n)} {r : Vc p n}, spn L fun i => r i - rdc L r i
  | [], r => by
    show (fun i => r i - r i) = vz
    funext i
    show r i - r i = 0
    grind
  | o :: L, r => by
    have h := rdc_spn (L := L) (r := lss r (at' r (fo o)) o)
    refine ⟨at' r (fo o), ?_⟩
    have e : (fun i => lss r (at' r (fo o)) o i - rdc L (lss r (at' r (fo o)) o) i) = fun i => (r i - rdc (o :: L) r i) - at' r (fo o) * o i := by
      funext i
      show (r i - at' r (fo o) * o i) - rdc L (lss r (at' r (fo o)) o) i = (r i - rdc L (lss r (at' r (fo o)) o) i) - at' r (fo o) * o i
      grind
    rwa [e] at h
def step (found : List (Vc p n)) (row : Vc p n) : List (Vc p n) :=
  if fo (rdc found row) < n then (found.map fun o => lss o (at' o (fo (rdc found row))) fun i => iv (at' (rdc found row) (fo (rdc found row))) * rdc found row i) ++ [fun i => iv (at' (rdc found row) (fo (rdc found row))) * rdc found row i] else found
theorem ld_less {o r : Vc p n} {i k : Fin n} (ho : Ld o i) (hr : Ld r k) (h0 : r i = 0) : Ld (lss o (o k) r) i := by
  refine ⟨?_, fun j hj => ?_⟩
  · show o i - o k * r i = 1
    rw [h0, ho.1]
    grind
  · show o j - o k * r j = 0
    rw [ho.2 j hj]
    by_cases hk : k < i
    · rw [ho.2 k hk]
      grind
    · have hik : i ≠ k := fun e => by
        subst e
        rw [hr.1] at h0
        exact z1 h0.symm
      have : j < k := Nat.lt_of_lt_of_le hj (Nat.le_of_not_lt hk)
      rw [hr.2 j this]
      grind
theorem step_ok {found : List (Vc p n)} (h : RF found) (row : Vc p n) : RF (step found row) ∧ (∀ v, spn (step found row) v ↔ spn (row :: found) v) ∧ (step found row).length ≤ found.length + 1 := by
  have hsp := rdc_spn (L := found) (r := row)
  unfold step
  split
  · rename_i hf
    obtain ⟨k, hk, hk0, hk1⟩ := fo_lt hf
    generalize hr : rdc found row = r at *
    rw [hk, at_v]
    have hi := mul_iv (r k) hk0
    generalize iv (r k) = y at hi
    have hz : ∀ o ∈ found, ∀ i, Ld o i → r i = 0 := fun o ho i hi => by rw [← hr]; exact rdc_z h o ho i hi
    let r' : Vc p n := fun i => y * r i
    have hl : Ld r' k := ⟨by show y * r k = 1; grind, fun j hj => by show y * r j = 0; rw [hk1 j hj]; grind⟩
    have hr' : ∀ o ∈ found, ∀ i, Ld o i → r' i = 0 := fun o ho i hi => by show y * r i = 0; rw [hz o ho i hi]; grind
    have e : (found.map fun o => lss o (at' o k.val) fun i => y * r i) = found.map fun o => lss o (o k) r' := List.map_congr_left fun o _ => by rw [at_v]
    rw [e]
    refine ⟨⟨fun o ho => ?_, ?_⟩, fun v => ⟨spn_mono fun o ho => ?_, spn_mono fun o ho => ?_⟩, by simp⟩
    · rcases List.mem_append.mp ho with ho | ho
      · obtain ⟨a, ha, rfl⟩ := List.mem_map.mp ho
        obtain ⟨i, hi⟩ := h.ld a ha
        exact ⟨i, ld_less hi hl (hr' a ha i hi)⟩
      · rw [List.mem_singleton.mp ho]
        exact ⟨k, hl⟩
    · refine List.pairwise_append.mpr ⟨List.pairwise_map.mpr ?_, List.pairwise_singleton _ _, fun a ha b hb => ?_⟩
      · refine List.Pairwise.imp_of_mem (fun {a b} ha hb hab => ?_) h.dj
        intro i j hi hj
        obtain ⟨i', hi'⟩ := h.ld a ha
        obtain ⟨j', hj'⟩ := h.ld b hb
        have ei := hi.eq (ld_less hi' hl (hr' a ha i' hi'))
        have ej := hj.eq (ld_less hj' hl (hr' b hb j' hj'))
        subst ei ej
        have hab := hab _ _ hi' hj'
        constructor
        · show a j - a k * r' j = 0
          rw [hab.1, hr' b hb j hj']
          grind
        · show b i - b k * r' i = 0
          rw [hab.2, hr' a ha i hi']
          grind
      · obtain ⟨a0, ha0, rfl⟩ := List.mem_map.mp ha
        rw [List.mem_singleton.mp hb]
        obtain ⟨i', hi'⟩ := h.ld a0 ha0
        intro i j hi hj
        have ei := hi.eq (ld_less hi' hl (hr' a0 ha0 i' hi'))
        have ej := hj.eq hl
        subst ei ej
        constructor
        · show a0 j - a0 j * r' j = 0
          rw [hl.1]
          grind
        · exact hr' a0 ha0 i hi'
    · have hrow : spn (row :: found) row := spn_mem List.mem_cons_self
      have hrr : spn (row :: found) r := by
        have := (spn_sb (row :: found)).sub hrow (spn_up hsp) 1
        have e : (fun i => row i - 1 * (row i - r i)) = r := by funext i; grind
        rwa [e] at this
      have hr1 : spn (row :: found) r' := (spn_sb _).mul hrr y
      rcases List.mem_append.mp ho with ho | ho
      · obtain ⟨a, ha, rfl⟩ := List.mem_map.mp ho
        exact (spn_sb _).sub (spn_up (spn_mem ha)) hr1 _
      · rw [List.mem_singleton.mp ho]
        exact hr1
    · have hr1 : spn ((found.map fun o => lss o (o k) r') ++ [r']) r' := spn_mem (List.mem_append_right _ List.mem_cons_self)
      have hold : ∀ a ∈ found, spn ((found.map fun o => lss o (o k) r') ++ [r']) a := fun a ha => by
        have h1 := spn_mem (L := (found.map fun o => lss o (o k) r') ++ [r']) (List.mem_append_left _ (List.mem_map.mpr ⟨a, ha, rfl⟩))
        have := (spn_sb _).lc (a k) _ _ h1 hr1
        have e : (fun i => lss a (a k) r' i + a k * r' i) = a := by funext i; show (a i - a k * r' i) + a k * r' i = a i; grind
        rwa [e] at this
      rcases List.mem_cons.mp ho with rfl | ho
      · have h2 := spn_mono hold hsp
        have h3 := (spn_sb _).mul hr1 (r k)
        have := (spn_sb _).add h2 h3
        have e : (fun i => (o i - r i) + r k * r' i) = o := by
          funext i
          show (o i - r i) + r k * (y * r i) = o i
          have : r k * (y * r i) = r i := by grind
          rw [this]
          grind
        rwa [e] at this
      · exact hold o ho
  · rename_i hf
    have hz := fo_z hf
    refine ⟨h, fun v => ⟨spn_up, spn_mono fun o ho => ?_⟩, by omega⟩
    rcases List.mem_cons.mp ho with rfl | ho
    · rw [hz] at hsp
      have e : (fun i => o i - vz i) = o := by funext i; show o i - 0 = o i; grind
      rwa [e] at hsp
    · exact spn_mem ho
theorem fold_ok : ∀ (rows found : List (Vc p n)), RF found → RF (rows.foldl step found) ∧ (∀ v, spn (rows.foldl step found) v ↔ spn (rows ++ found) v) ∧ (rows.foldl step found).length ≤ found.length + rows.length
  | [], found, h => ⟨h, fun v => Iff.rfl, by simp⟩
  | row :: rows, found, h => by
    obtain ⟨h1, h2, h3⟩ := step_ok h row
    obtain ⟨g1, g2, g3⟩ := fold_ok rows (step found row) h1
    refine ⟨g1, fun v => (g2 v).trans ⟨spn_mono fun o ho => ?_, spn_mono fun o ho => ?_⟩, by rw [List.length_cons]; exact Nat.le_trans g3 (by omega)⟩
    · rcases List.mem_append.mp ho with ho | ho
      · exact spn_mem (List.mem_append_left _ (List.mem_cons_of_mem _ ho))
      · have := (h2 o).mp (spn_mem ho)
        refine spn_mono (fun a ha => spn_mem ?_) this
        rcases List.mem_cons.mp ha with rfl | ha
        · exact List.mem_append_left _ List.mem_cons_self
        · exact List.mem_append_right _ ha
    · have : ∀ a, a ∈ row :: found → spn (rows ++ step found row) a := fun a ha => spn_mono (fun b hb => spn_mem (List.mem_append_right _ hb)) ((h2 a).mpr (spn_mem ha))
      rcases List.mem_append.mp ho with ho | ho
      · rcases List.mem_cons.mp ho with rfl | ho
        · exact this _ List.mem_cons_self
        · exact spn_mem (List.mem_append_left _ ho)
      · exact this _ (List.mem_cons_of_mem _ ho)
/-! ### the order -/
def ti (v : Vc p n) : List Int := (fr n).map fun i => ((v i).val : Int)
def insV (r : Vc p n) : List (Vc p n) → List (Vc p n)
  | [] => [r]
  | x :: xs => if TS.code 64 (ti r) ≤ TS.code 64 (ti x) then r :: x :: xs else x :: insV r xs
def isrtV : List (Vc p n) → List (Vc p n)
  | [] => []
  | x :: xs => insV x (isrtV xs)
theorem ins_map (r : Vc p n) : ∀ xs : List (Vc p n), ins (ti r) (xs.map ti) = (insV r xs).map ti
  | [] => rfl
  | x :: xs => by
    simp only [List.map_cons, ins, insV]
    split
    · rfl
    · rw [ins_map r xs]
      rfl
theorem isrt_map : ∀ xs : List (Vc p n), isrt (xs.map ti) = (isrtV xs).map ti
  | [] => rfl
  | x :: xs => by
    simp only [List.map_cons, isrt, isrtV]
    rw [isrt_map xs, ins_map]
theorem insV_perm (r : Vc p n) : ∀ xs, (insV r xs).Perm (r :: xs)
  | [] => .refl _
  | x :: xs => by
    unfold insV
    split
    · exact .refl _
    · exact ((insV_perm r xs).cons x).trans (.swap r x xs)
theorem isrtV_perm : ∀ xs : List (Vc p n), (isrtV xs).Perm xs
  | [] => .refl _
  | x :: xs => (insV_perm x _).trans ((isrtV_perm xs).cons x)
def red (rows : List (Vc p n)) : List (Vc p n) := (isrtV (rows.foldl step [])).reverse
theorem red_perm (rows : List (Vc p n)) : (red rows).Perm (rows.foldl step []) := (List.reverse_perm _).trans (isrtV_perm _)
theorem ti_bd (v : Vc p n) : TS.Bd 64 (ti v) := fun m hm => by
  obtain ⟨i, _, rfl⟩ := List.mem_map.mp hm
  have := Pr.le (p := p)
  have := (v i).isLt
  omega
theorem ti_len (v : Vc p n) : (ti v).length = n := by unfold ti; rw [List.length_map, fr_len]
/-- rows in the form, in their order -/
structure RR (L : List (Vc p n)) : Prop where
  ld : ∀ o ∈ L, ∃ i, Ld o i
  up : L.Pairwise fun a b => ∀ i j, Ld a i → Ld b j → i < j ∧ a j = 0 ∧ b i = 0
theorem code_first {B : Int} : ∀ {r q : List Int} (k : Nat), r.length = q.length → TS.Bd B r → TS.Bd B q → r.take k = q.take k → (∃ x y, r[k]? = some x ∧ q[k]? = some y ∧ x < y) → TS.code B r < TS.code B q
  | [], q, k, _, _, _, _, ⟨x, y, h, _⟩ => by simp at h
  | a :: r, [], k, h, _, _, _, _ => by cases h
  | a :: r, b :: q, 0, hl, hr, hq, _, ⟨x, y, h1, h2, h⟩ => by
    simp only [List.getElem?_cons_zero, Option.some.injEq] at h1 h2
    subst h1 h2
    exact TS.code_lt (by simpa using hl) hr.tail hq.tail h
  | a :: r, b :: q, k + 1, hl, hr, hq, ht, ⟨x, y, h1, h2, h⟩ => by
    simp only [List.take_succ_cons, List.cons.injEq] at ht
    obtain ⟨rfl, ht⟩ := ht
    have hl' : r.length = q.length := by simpa using hl
    exact (TS.code_same hl').mpr (code_first k hl' hr.tail hq.tail ht ⟨x, y, by simpa using h1, by simpa using h2, h⟩)
theorem ld_code {a b : Vc p n} {i j : Fin n} (ha : Ld a i) (hb : Ld b j) (h : i < j) : TS.code 64 (ti b) < TS.code 64 (ti a) := by
  refine code_first i.val ((ti_len b).trans (ti_len a).symm) (ti_bd b) (ti_bd a) ?_ ⟨0, 1, ?_, ?_, by decide⟩
  · apply List.ext_getElem?
    intro k
    by_cases hk : k < i.val
    · rw [List.getElem?_take_of_lt hk, List.getElem?_take_of_lt hk]
      unfold ti
      have hkn : k < n := Nat.lt_trans hk i.isLt
      rw [List.getElem?_map, List.getElem?_map, fr_get hkn]
      have e1 := ha.2 ⟨k, hkn⟩ hk
      have e2 := hb.2 ⟨k, hkn⟩ (Nat.lt_trans hk h)
      simp [e1, e2]
    · rw [List.getElem?_take_eq_none (by omega), List.getElem?_take_eq_none (by omega)]
  · unfold ti
    rw [List.getElem?_map, fr_get i.isLt]
    have e2 := hb.2 i h
    simp [e2]
  · unfold ti
    rw [List.getElem?_map, fr_get i.isLt]
    simp only [Option.map_some, ha.1, one_val]
theorem insV_pw (r : Vc p n) : ∀ xs : List (Vc p n), xs.Pairwise (fun a b => TS.code 64 (ti a) ≤ TS.code 64 (ti b)) → (insV r xs).Pairwise fun a b => TS.code 64 (ti a) ≤ TS.code 64 (ti b)
  | [], _ => List.pairwise_singleton _ _
  | x :: xs, h => by
    unfold insV
    split
    · rename_i hc
      refine List.pairwise_cons.mpr ⟨fun y hy => ?_, h⟩
      rcases List.mem_cons.mp hy with rfl | hy
      · exact hc
      · exact Int.le_trans hc ((List.pairwise_cons.mp h).1 y hy)
    · rename_i hc
      refine List.pairwise_cons.mpr ⟨fun y hy => ?_, insV_pw r xs (List.pairwise_cons.mp h).2⟩
      rcases List.mem_cons.mp ((insV_perm r xs).mem_iff.mp hy) with rfl | hy
      · exact Int.le_of_lt (Int.not_le.mp hc)
      · exact (List.pairwise_cons.mp h).1 y hy
theorem isrtV_pw : ∀ xs : List (Vc p n), (isrtV xs).Pairwise fun a b => TS.code 64 (ti a) ≤ TS.code 64 (ti b)
  | [] => .nil
  | x :: xs => insV_pw x _ (isrtV_pw xs)
theorem RF.perm {L M : List (Vc p n)} (h : RF L) (hp : M.Perm L) : RF M := by
  refine ⟨fun o ho => h.ld o (hp.mem_iff.mp ho), (hp.pairwise_iff ?_).mpr h.dj⟩
  intro a b hab i j hi hj
  exact (hab j i hj hi).symm
theorem rr_of {L : List (Vc p n)} (h : RF L) (hs : L.Pairwise fun a b => TS.code 64 (ti b) ≤ TS.code 64 (ti a)) : RR L := by
  refine ⟨h.ld, (h.dj.and hs).imp fun {a b} ⟨h1, h2⟩ i j hi hj => ?_⟩
  have h3 := h1 i j hi hj
  refine ⟨?_, h3⟩
  rcases Nat.lt_trichotomy i.val j.val with z | z | z
  · exact z
  · have z : i = j := Fin.ext z
    subst z
    rw [hi.1] at h3
    exact absurd h3.1 (z1.symm)
  · have := ld_code hj hi z
    omega
theorem red_rr (rows : List (Vc p n)) : RR (red rows) := by
  refine rr_of ((fold_ok rows [] ⟨by simp, .nil⟩).1.perm (red_perm rows)) ?_
  unfold red
  rw [List.pairwise_reverse]
  exact isrtV_pw _
theorem red_spn (rows : List (Vc p n)) (v : Vc p n) : spn (red rows) v ↔ spn rows v := by
  rw [spn_perm (red_perm rows), (fold_ok rows [] ⟨by simp, .nil⟩).2.1 v, List.append_nil]
theorem red_len (rows : List (Vc p n)) : (red rows).length ≤ rows.length := by
  rw [(red_perm rows).length_eq]
  have := (fold_ok rows [] ⟨by simp, .nil⟩).2.2
  simpa using this
end
end Dz

/-! La2: there is one form; how long it is. -/
namespace Dz
section
variable {p : Nat} [Pr p] {n : Nat}
theorem pw_get {α : Type} {R : α → α → Prop} (hs : ∀ a b, R a b → R b a) : ∀ {l : List α}, l.Pairwise R → ∀ {a b}, a ∈ l → b ∈ l → a ≠ b → R a b
  | x :: l, h, a, b, ha, hb, hne => by
    have h' := List.pairwise_cons.mp h
    rcases List.mem_cons.mp ha with e | ha'
    · rcases List.mem_cons.mp hb with e' | hb'
      · exact absurd (e.trans e'.symm) hne
      · rw [e]
        exact h'.1 b hb'
    · rcases List.mem_cons.mp hb with e' | hb'
      · rw [e']
        exact hs _ _ (h'.1 a ha')
      · exact pw_get hs h'.2 ha' hb' hne
theorem RR.rf {L : List (Vc p n)} (h : RR L) : RF L := ⟨h.ld, h.up.imp fun h i j hi hj => (h i j hi hj).2⟩
/-- what comes of rows in the form, by its numbers at their first places -/
theorem RF.at_pv {L : List (Vc p n)} (h : RF L) : ∀ {v : Vc p n}, spn L v → ∀ k, v k = ls L fun o => at' v (fo o) * o k := by
  induction L with
  | nil =>
    intro v hv k
    have hv : v = vz := hv
    subst hv
    rfl
  | cons a L ih =>
    intro v ⟨x, hv⟩ k
    have hp := List.pairwise_cons.mp h.dj
    have hL : RF L := ⟨fun o ho => h.ld o (List.mem_cons_of_mem _ ho), hp.2⟩
    obtain ⟨i, hi⟩ := h.ld a List.mem_cons_self
    have h1 := ih hL hv k
    -- x = v i
    have hx : v i = x := by
      have h2 := ih hL hv i
      have h3 : (ls L fun o => at' (fun i => v i - x * a i) (fo o) * o i) = 0 := by
        rw [ls_congr (g := fun _ => (0 : Fin p)) fun o ho => ?_, ls_zero]
        obtain ⟨j, hj⟩ := hL.ld o ho
        rw [(hp.1 o ho i j hi hj).2]
        grind
      rw [h3, hi.1] at h2
      grind
    rw [ls_cons, hi.fo, at_v, hx]
    have h4 : (ls L fun o => at' v (fo o) * o k) = ls L fun o => at' (fun i => v i - x * a i) (fo o) * o k := ls_congr fun o ho => by
      obtain ⟨j, hj⟩ := hL.ld o ho
      rw [hj.fo, at_v, at_v]
      show v j * o k = (v j - x * a j) * o k
      rw [(hp.1 o ho i j hi hj).1]
      grind
    rw [h4, ← h1]
    grind
theorem RF.fo_nd {L : List (Vc p n)} (h : RF L) : (L.map fo).Nodup := by
  rw [List.nodup_iff_pairwise_ne, List.pairwise_map]
  refine List.Pairwise.imp_of_mem (fun {a b} ha hb hab e => ?_) h.dj
  obtain ⟨i, hi⟩ := h.ld a ha
  obtain ⟨j, hj⟩ := h.ld b hb
  have : i = j := Fin.ext (by rw [← hi.fo, ← hj.fo, e])
  subst this
  have := (hab i i hi hj).1
  rw [hi.1] at this
  exact z1 this.symm
theorem RF.nd {L : List (Vc p n)} (h : RF L) : L.Nodup := List.Pairwise.of_map fo (fun a b hab e => hab (by rw [e])) h.fo_nd
/-- the first places of what comes -/
theorem RF.fo_mem {L : List (Vc p n)} (h : RF L) {v : Vc p n} (hv : spn L v) (hf : fo v < n) : fo v ∈ L.map fo := by
  obtain ⟨m, hm, h0, h1⟩ := fo_lt hf
  refine Classical.byContradiction fun hn => h0 ?_
  rw [h.at_pv hv m, ls_congr (g := fun _ => (0 : Fin p)) fun o ho => ?_, ls_zero]
  obtain ⟨i, hi⟩ := h.ld o ho
  rw [hi.fo, at_v]
  rcases Nat.lt_trichotomy i.val m.val with z | z | z
  · rw [h1 i z]
    grind
  · exact absurd (List.mem_map.mpr ⟨o, ho, by rw [hi.fo, hm, z]⟩) hn
  · rw [hi.2 m z]
    grind
theorem RF.of_fo {L : List (Vc p n)} (h : RF L) {a b : Vc p n} (ha : a ∈ L) (hb : b ∈ L) (e : fo a = fo b) : a = b := by
  have := h.fo_nd
  rw [List.nodup_iff_pairwise_ne, List.pairwise_map] at this
  refine Classical.byContradiction fun hne => ?_
  exact pw_get (R := fun a b : Vc p n => fo a ≠ fo b) (fun a b h z => h z.symm) this ha hb hne e
theorem RF.uniq_mem {L M : List (Vc p n)} (hL : RF L) (hM : RF M) (h : ∀ v, spn L v ↔ spn M v) : ∀ o ∈ M, o ∈ L := by
  intro o ho
  obtain ⟨i, hi⟩ := hM.ld o ho
  have hsp : spn L o := (h o).mpr (spn_mem ho)
  have hf := hL.fo_mem hsp (by rw [hi.fo]; exact i.isLt)
  obtain ⟨a, ha, e⟩ := List.mem_map.mp hf
  have : o = a := by
    funext k
    rw [hL.at_pv hsp k]
    have e1 : (ls L fun b => at' o (fo b) * b k) = ls L fun b => if b = a then a k else 0 := ls_congr fun b hb => by
      by_cases hba : b = a
      · subst hba
        rw [if_pos rfl, e, hi.fo, at_v, hi.1]
        grind
      · rw [if_neg hba]
        obtain ⟨j, hj⟩ := hL.ld b hb
        have hbm : spn M b := (h b).mp (spn_mem hb)
        have := hM.fo_mem hbm (by rw [hj.fo]; exact j.isLt)
        obtain ⟨c, hc, e2⟩ := List.mem_map.mp this
        have hco : c ≠ o := fun z => hba (hL.of_fo hb ha (by rw [← e2, z, e]))
        obtain ⟨l, hl⟩ := hM.ld c hc
        have hjl : j = l := Fin.ext (by rw [← hj.fo, ← hl.fo, e2])
        subst hjl
        have h3 := pw_get (R := fun a b : Vc p n => ∀ i j, Ld a i → Ld b j → a j = 0 ∧ b i = 0) (fun a b h i j hi hj => (h j i hj hi).symm) hM.dj hc ho hco j i hl hi
        rw [hj.fo, at_v, h3.2]
        grind
    rw [e1]
    exact ls_one hL.nd ha fun _ => a k
  rw [this]
  exact ha
theorem RR.fo_up {L : List (Vc p n)} (h : RR L) : L.Pairwise fun a b => fo a < fo b :=
  List.Pairwise.imp_of_mem (fun {a b} ha hb hab => by
    obtain ⟨i, hi⟩ := h.ld a ha
    obtain ⟨j, hj⟩ := h.ld b hb
    rw [hi.fo, hj.fo]
    exact (hab i j hi hj).1) h.up
theorem pw_lt_uniq {α : Type} {f : α → Nat} : ∀ {l m : List α}, l.Pairwise (fun a b => f a < f b) → m.Pairwise (fun a b => f a < f b) → (∀ x, x ∈ l ↔ x ∈ m) → l = m
  | [], [], _, _, _ => rfl
  | [], b :: m, _, _, h => absurd ((h b).mpr List.mem_cons_self) (by simp)
  | a :: l, [], _, _, h => absurd ((h a).mp List.mem_cons_self) (by simp)
  | a :: l, b :: m, hl, hm, h => by
    have hl' := List.pairwise_cons.mp hl
    have hm' := List.pairwise_cons.mp hm
    have e : a = b := by
      rcases List.mem_cons.mp ((h a).mp List.mem_cons_self) with e | h1
      · exact e
      · rcases List.mem_cons.mp ((h b).mpr List.mem_cons_self) with e | h2
        · exact e.symm
        · have := hm'.1 a h1
          have := hl'.1 b h2
          omega
    subst e
    rw [pw_lt_uniq hl'.2 hm'.2 fun x => ⟨fun hx => ?_, fun hx => ?_⟩]
    · rcases List.mem_cons.mp ((h x).mp (List.mem_cons_of_mem _ hx)) with e | h1
      · subst e
        exact absurd (hl'.1 x hx) (by omega)
      · exact h1
    · rcases List.mem_cons.mp ((h x).mpr (List.mem_cons_of_mem _ hx)) with e | h1
      · subst e
        exact absurd (hm'.1 x hx) (by omega)
      · exact h1
theorem RR.uniq {L M : List (Vc p n)} (hL : RR L) (hM : RR M) (h : ∀ v, spn L v ↔ spn M v) : L = M :=
  pw_lt_uniq hL.fo_up hM.fo_up fun o => ⟨RF.uniq_mem hM.rf hL.rf (fun v => (h v).symm) o, RF.uniq_mem hL.rf hM.rf h o⟩
theorem red_eq {L M : List (Vc p n)} (h : ∀ v, spn L v ↔ spn M v) : red L = red M := (red_rr L).uniq (red_rr M) fun v => by rw [red_spn, red_spn]; exact h v
theorem red_red (L : List (Vc p n)) : red (red L) = red L := red_eq (red_spn L)
theorem red_of {L : List (Vc p n)} (h : RR L) : red L = L := (red_rr L).uniq h (red_spn L)
/-! ### how long -/
theorem nd_le {l : List Nat} : ∀ {m : List Nat}, l.Nodup → (∀ x ∈ l, x ∈ m) → l.length ≤ m.length := by
  induction l with
  | nil => intro m _ _; exact Nat.zero_le _
  | cons a l ih =>
    intro m hl h
    have ha := h a List.mem_cons_self
    have hn := List.nodup_cons.mp hl
    have := ih (m := m.erase a) hn.2 fun x hx => (List.mem_erase_of_ne (fun e => hn.1 (by rw [← e]; exact hx))).mpr (h x (List.mem_cons_of_mem _ hx))
    rw [List.length_erase_of_mem ha] at this
    have : 0 < m.length := List.length_pos_of_mem ha
    rw [List.length_cons]
    omega
theorem RF.le {L M : List (Vc p n)} (hL : RF L) (hM : RF M) (h : ∀ v, spn L v → spn M v) : L.length ≤ M.length := by
  have := nd_le hL.fo_nd (m := M.map fo) fun x hx => by
    obtain ⟨o, ho, rfl⟩ := List.mem_map.mp hx
    obtain ⟨i, hi⟩ := hL.ld o ho
    exact hM.fo_mem (h o (spn_mem ho)) (by rw [hi.fo]; exact i.isLt)
  simpa using this
/-- how many are left -/
def rk (L : List (Vc p n)) : Nat := (red L).length
theorem rk_mono {L M : List (Vc p n)} (h : ∀ v, spn L v → spn M v) : rk L ≤ rk M := (red_rr L).rf.le (red_rr M).rf fun v hv => (red_spn M v).mpr (h v ((red_spn L v).mp hv))
theorem rk_le (L : List (Vc p n)) : rk L ≤ L.length := red_len L
theorem rk_len {L M : List (Vc p n)} (h : ∀ v, spn L v → spn M v) : rk L ≤ M.length := Nat.le_trans (rk_mono h) (rk_le M)
theorem rk_eq {L M : List (Vc p n)} (h : ∀ v, spn L v ↔ spn M v) : rk L = rk M := by unfold rk; rw [red_eq h]
theorem rk_n (L : List (Vc p n)) : rk L ≤ n := by
  have h := (red_rr L).rf
  have := nd_le h.fo_nd (m := List.range n) fun x hx => by
    obtain ⟨o, ho, rfl⟩ := List.mem_map.mp hx
    obtain ⟨i, hi⟩ := h.ld o ho
    rw [hi.fo]
    exact List.mem_range.mpr i.isLt
  simpa [rk] using this
/-! ### rows of tables -/
def rws {r : Nat} (A : Mt p r n) : List (Vc p n) := (fr r).map A
/-- x times a table -/
def vm {r : Nat} (x : Vc p r) (A : Mt p r n) : Vc p n := fun j => sm fun i => x i * A i j
theorem spn_ls : ∀ {α : Type} {xs : List α} {f : α → Vc p n} {v : Vc p n}, (∃ c : α → Fin p, v = fun j => ls xs fun i => c i * f i j) → spn (xs.map f) v
  | α, [], f, v, ⟨c, h⟩ => h
  | α, x :: xs, f, v, ⟨c, h⟩ => by
    refine ⟨c x, spn_ls ⟨c, ?_⟩⟩
    subst h
    funext j
    show (ls (x :: xs) fun i => c i * f i j) - c x * f x j = _
    rw [ls_cons]
    grind
theorem ls_spn {α : Type} [DecidableEq α] : ∀ {xs : List α} {f : α → Vc p n} {v : Vc p n}, xs.Nodup → spn (xs.map f) v → ∃ c : α → Fin p, v = fun j => ls xs fun i => c i * f i j
  | [], f, v, _, h => ⟨fun _ => 0, h⟩
  | x :: xs, f, v, hn, ⟨a, h⟩ => by
    have hn' := List.nodup_cons.mp hn
    obtain ⟨c, hc⟩ := ls_spn hn'.2 h
    refine ⟨fun i => if i = x then a else c i, ?_⟩
    funext j
    have hj := congrFun hc j
    show v j = ls (x :: xs) fun i => (if i = x then a else c i) * f i j
    rw [ls_cons, if_pos rfl, ls_congr (g := fun i => c i * f i j) fun y hy => by rw [if_neg fun e => hn'.1 (by rw [← e]; exact hy)]]
    have hj : v j - a * f x j = ls xs fun i => c i * f i j := hj
    rw [← hj]
    grind
theorem spn_rws {r : Nat} {A : Mt p r n} {v : Vc p n} : spn (rws A) v ↔ ∃ x : Vc p r, v = vm x A := ⟨fun h => ls_spn (fr_nodup r) h, fun ⟨x, h⟩ => spn_ls ⟨x, h⟩⟩
end
end Dz

/-! La3: ranks of tables. -/
namespace Dz
section
variable {p : Nat} [Pr p]
/-- how many rows are left -/
def rkm {r n : Nat} (A : Mt p r n) : Nat := rk (rws A)
theorem rws_len {r c : Nat} (A : Mt p r c) : (rws A).length = r := by
  unfold rws
  rw [List.length_map, fr_len]
theorem rws_mem {r c : Nat} {A : Mt p r c} {v : Vc p c} : v ∈ rws A ↔ ∃ i, A i = v := by
  unfold rws
  rw [List.mem_map]
  exact ⟨fun ⟨i, _, h⟩ => ⟨i, h⟩, fun ⟨i, h⟩ => ⟨i, fr_mem i, h⟩⟩
/-- a list of rows as a table -/
def mtl {n : Nat} (L : List (Vc p n)) : Mt p L.length n := fun i => L[i]
theorem rws_mtl {n : Nat} (L : List (Vc p n)) : rws (mtl L) = L := by
  unfold rws mtl
  apply List.ext_getElem?
  intro i
  rw [List.getElem?_map]
  by_cases h : i < L.length
  · rw [fr_get h, List.getElem?_eq_getElem h]
    rfl
  · rw [List.getElem?_eq_none (by rw [fr_len]; omega), List.getElem?_eq_none (by omega)]
    rfl
theorem spn_mm {r k n : Nat} {A : Mt p r k} {B : Mt p k n} {v : Vc p n} (h : spn (rws (mm A B)) v) : spn (rws B) v :=
  spn_mono (fun o ho => by
    obtain ⟨i, rfl⟩ := rws_mem.mp ho
    exact spn_rws.mpr ⟨A i, rfl⟩) h
theorem rkm_mul_r {r k n : Nat} (A : Mt p r k) (B : Mt p k n) : rkm (mm A B) ≤ rkm B := rk_mono fun _ => spn_mm
/-- tables whose rows come of rows -/
theorem fac {r n k : Nat} {A : Mt p r n} {L : Mt p k n} (h : ∀ i, spn (rws L) (A i)) : ∃ C : Mt p r k, A = mm C L := by
  have h' := fun i => spn_rws.mp (h i)
  refine ⟨fun i => Classical.choose (h' i), ?_⟩
  funext i
  exact Classical.choose_spec (h' i)
theorem rkm_t_le {r n : Nat} (A : Mt p r n) : rkm (mt A) ≤ rkm A := by
  obtain ⟨C, hC⟩ := fac (A := A) (L := mtl (red (rws A))) fun i => by
    rw [rws_mtl, red_spn]
    exact spn_mem (rws_mem.mpr ⟨i, rfl⟩)
  have h1 : mt A = mm (mt (mtl (red (rws A)))) (mt C) := by rw [← mt_mm, ← hC]
  have h2 : rkm (mt A) ≤ rkm (mt C) := by
    rw [h1]
    exact rkm_mul_r _ _
  have h3 : rkm (mt C) ≤ (rws (mt C)).length := rk_le _
  rw [rws_len] at h3
  exact Nat.le_trans h2 h3
theorem rkm_t {r n : Nat} (A : Mt p r n) : rkm (mt A) = rkm A := Nat.le_antisymm (rkm_t_le A) (rkm_t_le (mt A))
theorem rkm_mul_l {r k n : Nat} (A : Mt p r k) (B : Mt p k n) : rkm (mm A B) ≤ rkm A := by
  rw [← rkm_t, mt_mm, ← rkm_t A]
  exact rkm_mul_r _ _
theorem rkm_r {r n : Nat} (A : Mt p r n) : rkm A ≤ r := by
  have := rk_le (rws A)
  rwa [rws_len] at this
theorem rkm_n {r n : Nat} (A : Mt p r n) : rkm A ≤ n := rk_n _
theorem rkm_add {r n : Nat} (A B : Mt p r n) : rkm (ma A B) ≤ rkm A + rkm B := by
  have : rkm (ma A B) ≤ (red (rws A) ++ red (rws B)).length := rk_len (fun _ => spn_mono fun o ho => by
    obtain ⟨i, rfl⟩ := rws_mem.mp ho
    have h1 : spn (red (rws A) ++ red (rws B)) (A i) := spn_mono (fun o ho => spn_mem (List.mem_append_left _ ho)) ((red_spn _ _).mpr (spn_mem (rws_mem.mpr ⟨i, rfl⟩)))
    have h2 : spn (red (rws A) ++ red (rws B)) (B i) := spn_mono (fun o ho => spn_mem (List.mem_append_right _ ho)) ((red_spn _ _).mpr (spn_mem (rws_mem.mpr ⟨i, rfl⟩)))
    exact (spn_sb _).add h1 h2)
  rwa [List.length_append] at this
theorem rkm_mem {r k n : Nat} {A : Mt p r n} {B : Mt p k n} (h : ∀ i, spn (rws B) (A i)) : rkm A ≤ rkm B := rk_mono fun v hv => spn_mono (fun o ho => by
  obtain ⟨i, rfl⟩ := rws_mem.mp ho
  exact h i) hv
theorem rkm_s_le {r n : Nat} (x : Fin p) (A : Mt p r n) : rkm (ms x A) ≤ rkm A := rkm_mem fun i => (spn_sb _).mul (spn_mem (rws_mem.mpr ⟨i, rfl⟩)) x
theorem ms_ms {r n : Nat} (x y : Fin p) (A : Mt p r n) : ms x (ms y A) = ms (x * y) A := by
  funext i j
  show x * (y * A i j) = x * y * A i j
  grind
theorem ms_1 {r n : Nat} (A : Mt p r n) : ms 1 A = A := by
  funext i j
  show 1 * A i j = A i j
  grind
theorem ms_0 {r n : Nat} (A : Mt p r n) : ms 0 A = m0 := by
  funext i j
  show 0 * A i j = 0
  grind
theorem rkm_s {r n : Nat} {x : Fin p} (h : x ≠ 0) (A : Mt p r n) : rkm (ms x A) = rkm A := by
  refine Nat.le_antisymm (rkm_s_le x A) ?_
  have := rkm_s_le (iv x) (ms x A)
  rwa [ms_ms, show iv x * x = 1 by have := mul_iv x h; grind, ms_1] at this
theorem rkm_0 {r n : Nat} : rkm (m0 : Mt p r n) = 0 := by
  have : rkm (m0 : Mt p r n) ≤ ([] : List (Vc p n)).length := rk_len (fun _ => spn_mono fun o ho => by
    obtain ⟨i, rfl⟩ := rws_mem.mp ho
    rfl)
  exact Nat.le_zero.mp this
/-! ### the unit -/
theorem ld_m1 {n : Nat} (i : Fin n) : Ld ((m1 : Mt p n n) i) i := ⟨if_pos rfl, fun j hj => if_neg fun e => by subst e; exact Nat.lt_irrefl _ hj⟩
theorem fr_lt (n : Nat) : (fr n).Pairwise fun i j => i < j := List.pairwise_lt_finRange n
theorem rr_m1 {n : Nat} : RR (rws (m1 : Mt p n n)) := by
  refine ⟨fun o ho => ?_, ?_⟩
  · obtain ⟨i, rfl⟩ := rws_mem.mp ho
    exact ⟨i, ld_m1 i⟩
  · unfold rws
    rw [List.pairwise_map]
    refine (fr_lt n).imp fun {a b} hab i j hi hj => ?_
    have e1 := hi.eq (ld_m1 a)
    have e2 := hj.eq (ld_m1 b)
    subst e1 e2
    exact ⟨hab, if_neg fun e => by subst e; exact Nat.lt_irrefl _ hab, if_neg fun e => by subst e; exact Nat.lt_irrefl _ hab⟩
theorem rkm_1 {n : Nat} : rkm (m1 : Mt p n n) = n := by
  show (red (rws (m1 : Mt p n n))).length = n
  rw [red_of rr_m1, rws_len]
theorem vm_1 {n : Nat} (v : Vc p n) : vm v m1 = v := congrFun (mm_1 (fun _ : Fin 1 => v)) 0
theorem spn_1 {n : Nat} (v : Vc p n) : spn (rws m1) v := spn_rws.mpr ⟨v, (vm_1 v).symm⟩
/-- rows in the form, with so many more all rows come of them -/
theorem compl {n : Nat} {L : List (Vc p n)} (h : RF L) : ∃ E : List (Vc p n), E.length + L.length ≤ n ∧ ∀ v, spn (L ++ E) v := by
  let fr' := (fr n).filter fun i => decide (¬ decide (i.val ∈ L.map fo) = true)
  refine ⟨fr'.map (m1 : Mt p n n), ?_, fun v => ?_⟩
  · rw [List.length_map]
    have h1 := nd_le h.fo_nd (m := ((fr n).filter fun i => decide (i.val ∈ L.map fo)).map fun i => i.val) fun x hx => by
      obtain ⟨o, ho, rfl⟩ := List.mem_map.mp hx
      obtain ⟨i, hi⟩ := h.ld o ho
      refine List.mem_map.mpr ⟨i, List.mem_filter.mpr ⟨fr_mem i, ?_⟩, hi.fo.symm⟩
      exact decide_eq_true (by rw [← hi.fo]; exact hx)
    rw [List.length_map, List.length_map] at h1
    have h2 : (fr n).length = ((fr n).filter fun i => decide (i.val ∈ L.map fo)).length + fr'.length := by
      rw [← List.countP_eq_length_filter, ← List.countP_eq_length_filter]
      exact List.length_eq_countP_add_countP _
    rw [fr_len] at h2
    omega
  · have h1 := rdc_spn (L := L) (r := v)
    have h0 : ∀ o ∈ L, ∀ i, Ld o i → rdc L v i = 0 := rdc_z h
    generalize rdc L v = r at h1 h0
    have h2 : spn (fr'.map (m1 : Mt p n n)) r := spn_ls ⟨r, by
      funext k
      by_cases hk : k ∈ fr'
      · have e : ls fr' (fun i => r i * (m1 : Mt p n n) i k) = ls fr' fun i => if i = k then r i else 0 := ls_congr fun i _ => by
          show r i * (if i = k then 1 else 0) = _
          split <;> grind
        rw [e, ls_one ((fr_nodup n).filter _) hk]
      · have e : ls fr' (fun i => r i * (m1 : Mt p n n) i k) = ls fr' fun _ => 0 := ls_congr fun i hi => by
          show r i * (if i = k then 1 else 0) = 0
          rw [if_neg fun e => hk (by rw [← e]; exact hi)]
          grind
        rw [e, ls_zero]
        have hk' : k.val ∈ L.map fo := Classical.byContradiction fun hn => hk (List.mem_filter.mpr ⟨fr_mem k, by simpa using hn⟩)
        obtain ⟨o, ho, e2⟩ := List.mem_map.mp hk'
        obtain ⟨i, hi⟩ := h.ld o ho
        have : i = k := Fin.ext (by rw [← hi.fo, e2])
        subst this
        exact h0 o ho i hi⟩
    have h3 : spn (L ++ fr'.map (m1 : Mt p n n)) r := spn_mono (fun o ho => spn_mem (List.mem_append_right _ ho)) h2
    have h4 : spn (L ++ fr'.map (m1 : Mt p n n)) fun i => v i - r i := spn_mono (fun o ho => spn_mem (List.mem_append_left _ ho)) h1
    have := (spn_sb _).add h4 h3
    have e : (fun i => (v i - r i) + r i) = v := by funext i; grind
    rwa [e] at this
/-- ranks of products -/
theorem rkm_syl {r k n : Nat} (A : Mt p r k) (B : Mt p k n) : rkm A + rkm B ≤ rkm (mm A B) + k := by
  have hR := red_rr (rws A)
  obtain ⟨E, hE, hall⟩ := compl hR.rf
  -- B's rows come of those of L B and E B
  obtain ⟨D, hD⟩ := fac (A := mtl (red (rws A))) (L := A) fun i => (red_spn _ _).mp (spn_mem (List.getElem_mem i.isLt))
  have h1 : rkm B ≤ (red (rws (mm (mtl (red (rws A))) B)) ++ E.map fun e => vm e B).length := rk_len fun v hv => by
    obtain ⟨x, rfl⟩ := spn_rws.mp hv
    have hx := hall x
    have hS : Sb fun x : Vc p k => spn (red (rws (mm (mtl (red (rws A))) B)) ++ E.map fun e => vm e B) (vm x B) := by
      refine ⟨?_, fun a v w hv hw => ?_⟩
      · have e : vm (vz : Vc p k) B = vz := by
          funext j
          show (sm fun i => 0 * B i j) = 0
          exact (sm_congr fun i => (by grind : 0 * B i j = (0 : Fin p))).trans sm_zero
        rw [e]
        exact (spn_sb _).z
      · have e : vm (fun i => v i + a * w i) B = fun j => vm v B j + a * vm w B j := by
          funext j
          show (sm fun i => (v i + a * w i) * B i j) = (sm fun i => v i * B i j) + a * sm fun i => w i * B i j
          rw [← sm_mul, ← sm_add]
          exact sm_congr fun i => by grind
        rw [e]
        exact (spn_sb _).lc a _ _ hv hw
    refine spn_le hS (fun o ho => ?_) hx
    rcases List.mem_append.mp ho with ho | ho
    · refine spn_mono (fun o ho => spn_mem (List.mem_append_left _ ho)) ((red_spn _ _).mpr (spn_mem ?_))
      obtain ⟨i, rfl⟩ := rws_mem.mp (by rw [rws_mtl]; exact ho : o ∈ rws (mtl (red (rws A))))
      exact rws_mem.mpr ⟨i, rfl⟩
    · exact spn_mem (List.mem_append_right _ (List.mem_map.mpr ⟨o, ho, rfl⟩))
  have h2 : rkm (mm (mtl (red (rws A))) B) ≤ rkm (mm A B) := by
    rw [hD, mm_assoc]
    exact rkm_mul_r _ _
  rw [List.length_append, List.length_map] at h1
  have h3 : rkm (mm (mtl (red (rws A))) B) = (red (rws (mm (mtl (red (rws A))) B))).length := rfl
  have h4 : rkm A = (red (rws A)).length := rfl
  omega
/-! ### tables that can be undone -/
def Un {n : Nat} (A : Mt p n n) : Prop := ∃ B, mm B A = m1 ∧ mm A B = m1
theorem un_l {n : Nat} {A : Mt p n n} (h : rkm A = n) : ∃ B, mm B A = m1 := by
  obtain ⟨E, hE, hall⟩ := compl (red_rr (rws A)).rf
  have h4 : rkm A = (red (rws A)).length := rfl
  have : E = [] := List.eq_nil_of_length_eq_zero (by omega)
  subst this
  obtain ⟨B, hB⟩ := fac (A := m1) (L := A) fun i => by
    have := hall (m1 i)
    rw [List.append_nil] at this
    exact (red_spn _ _).mp this
  exact ⟨B, hB.symm⟩
theorem rk_un {n : Nat} {A B : Mt p n n} (h : mm B A = m1) : rkm A = n := by
  refine Nat.le_antisymm (rkm_n A) ?_
  have := rkm_mul_r B A
  rwa [h, rkm_1] at this
theorem un_two {n : Nat} {A B : Mt p n n} (h : mm B A = m1) : mm A B = m1 := by
  have h1 : rkm B = n := by
    have := rkm_mul_l B A
    rw [h, rkm_1] at this
    exact Nat.le_antisymm (rkm_n B) this
  obtain ⟨C, hC⟩ := un_l h1
  have : C = A := by rw [← mm_1 C, ← h, ← mm_assoc, hC, m1_m]
  rw [← this]
  exact hC
theorem un_iff {n : Nat} {A : Mt p n n} : rkm A = n ↔ Un A := ⟨fun h => by
  obtain ⟨B, hB⟩ := un_l h
  exact ⟨B, hB, un_two hB⟩, fun ⟨B, hB, _⟩ => rk_un hB⟩
theorem un_eq {n : Nat} {A B C : Mt p n n} (h : mm B A = m1) (h' : mm C A = m1) : B = C := by
  rw [← mm_1 B, ← un_two h', ← mm_assoc, h, m1_m]
theorem rkm_unl {n c : Nat} {A : Mt p n n} (h : Un A) (B : Mt p n c) : rkm (mm A B) = rkm B := by
  obtain ⟨C, hC, _⟩ := h
  refine Nat.le_antisymm (rkm_mul_r A B) ?_
  have := rkm_mul_r C (mm A B)
  rwa [← mm_assoc, hC, m1_m] at this
theorem rkm_unr {n c : Nat} {A : Mt p n n} (h : Un A) (B : Mt p c n) : rkm (mm B A) = rkm B := by
  obtain ⟨C, _, hC⟩ := h
  refine Nat.le_antisymm (rkm_mul_l B A) ?_
  have := rkm_mul_l (mm B A) C
  rwa [mm_assoc, hC, mm_1] at this
end
end Dz

/-! La4: worths. -/
namespace Dz
open PySem (PyData Str sizeLine)
section
variable {p : Nat} [Pr p]
def minor {n : Nat} (A : Mt p (n + 1) (n + 1)) (j : Fin (n + 1)) : Mt p n n := fun i k => A i.succ (if k.val < j.val then k.castSucc else k.succ)
def sgn (j : Nat) : Fin p := if j % 2 = 0 then 1 else -1
/-- the worth -/
def dt : (n : Nat) → Mt p n n → Fin p
  | 0, _ => 1
  | 1, A => A 0 0
  | n + 2, A => sm fun j => sgn j.val * A 0 j * dt (n + 1) (minor A j)
theorem dt2 (A : Mt p 2 2) : dt 2 A = A 0 0 * A 1 1 - A 0 1 * A 1 0 := by
  show (sm fun j : Fin 2 => sgn j.val * A 0 j * dt 1 (minor A j)) = _
  rw [sm2]
  show 1 * A 0 0 * A 1 1 + -1 * A 0 1 * A 1 0 = _
  grind
theorem dt3 (A : Mt p 3 3) : dt 3 A = A 0 0 * (A 1 1 * A 2 2 - A 1 2 * A 2 1) - A 0 1 * (A 1 0 * A 2 2 - A 1 2 * A 2 0) + A 0 2 * (A 1 0 * A 2 1 - A 1 1 * A 2 0) := by
  show (sm fun j : Fin 3 => sgn j.val * A 0 j * dt 2 (minor A j)) = _
  rw [sm3, dt2, dt2, dt2]
  show 1 * A 0 0 * (A 1 1 * A 2 2 - A 1 2 * A 2 1) + -1 * A 0 1 * (A 1 0 * A 2 2 - A 1 2 * A 2 0) + 1 * A 0 2 * (A 1 0 * A 2 1 - A 1 1 * A 2 0) = _
  grind
theorem dt_1 {n : Nat} (h : n ≤ 3) : dt n (m1 : Mt p n n) = 1 := by
  match n, h with
  | 0, _ => rfl
  | 1, _ => rfl
  | 2, _ =>
    rw [dt2]
    show (1 : Fin p) * 1 - 0 * 0 = 1
    grind
  | 3, _ =>
    rw [dt3]
    show (1 : Fin p) * (1 * 1 - 0 * 0) - 0 * (0 * 1 - 0 * 0) + 0 * (0 * 0 - 1 * 0) = 1
    grind
theorem dt_mm {n : Nat} (h : n ≤ 3) (A B : Mt p n n) : dt n (mm A B) = dt n A * dt n B := by
  match n, h with
  | 0, _ => show (1 : Fin p) = 1 * 1; grind
  | 1, _ =>
    show (sm fun l => A 0 l * B l 0) = A 0 0 * B 0 0
    rw [sm1]
  | 2, _ =>
    rw [dt2, dt2, dt2]
    unfold mm
    simp only [sm2]
    grind
  | 3, _ =>
    rw [dt3, dt3, dt3]
    unfold mm
    simp only [sm3]
    grind
theorem dt_t {n : Nat} (h : n ≤ 3) (A : Mt p n n) : dt n (mt A) = dt n A := by
  match n, h with
  | 0, _ => rfl
  | 1, _ => rfl
  | 2, _ =>
    rw [dt2, dt2]
    unfold mt
    grind
  | 3, _ =>
    rw [dt3, dt3]
    unfold mt
    grind
/-- what is multiplied with a table to its worth -/
def adj : (n : Nat) → Mt p n n → Mt p n n
  | 2, A => fun i j => if i = 0 then (if j = 0 then A 1 1 else - A 0 1) else (if j = 0 then - A 1 0 else A 0 0)
  | 3, A => fun i j => if i = 0 then (if j = 0 then A 1 1 * A 2 2 - A 1 2 * A 2 1 else if j = 1 then A 0 2 * A 2 1 - A 0 1 * A 2 2 else A 0 1 * A 1 2 - A 0 2 * A 1 1)
      else if i = 1 then (if j = 0 then A 1 2 * A 2 0 - A 1 0 * A 2 2 else if j = 1 then A 0 0 * A 2 2 - A 0 2 * A 2 0 else A 0 2 * A 1 0 - A 0 0 * A 1 2)
      else (if j = 0 then A 1 0 * A 2 1 - A 1 1 * A 2 0 else if j = 1 then A 0 1 * A 2 0 - A 0 0 * A 2 1 else A 0 0 * A 1 1 - A 0 1 * A 1 0)
  | _, _ => m1
theorem fin2 {P : Fin 2 → Prop} (h0 : P 0) (h1 : P 1) : ∀ i, P i
  | ⟨0, _⟩ => h0
  | ⟨1, _⟩ => h1
theorem fin3 {P : Fin 3 → Prop} (h0 : P 0) (h1 : P 1) (h2 : P 2) : ∀ i, P i
  | ⟨0, _⟩ => h0
  | ⟨1, _⟩ => h1
  | ⟨2, _⟩ => h2
theorem ad_mm {n : Nat} (h1 : 1 ≤ n) (h : n ≤ 3) (A : Mt p n n) : mm (adj n A) A = ms (dt n A) m1 := by
  match n, h1, h with
  | 1, _, _ =>
    funext i j
    have ei : i = 0 := Fin.ext (by have := i.isLt; show i.val = 0; omega)
    have ej : j = 0 := Fin.ext (by have := j.isLt; show j.val = 0; omega)
    subst ei ej
    show (sm fun l => (m1 : Mt p 1 1) 0 l * A l 0) = A 0 0 * 1
    rw [sm1]
    show 1 * A 0 0 = _
    grind
  | 2, _, _ =>
    funext i j
    show (sm fun l => adj 2 A i l * A l j) = dt 2 A * (if i = j then 1 else 0)
    rw [sm2, dt2]
    revert i j
    refine fin2 (fin2 ?_ ?_) (fin2 ?_ ?_)
    · show A 1 1 * A 0 0 + - A 0 1 * A 1 0 = _ * 1; grind
    · show A 1 1 * A 0 1 + - A 0 1 * A 1 1 = _ * 0; grind
    · show - A 1 0 * A 0 0 + A 0 0 * A 1 0 = _ * 0; grind
    · show - A 1 0 * A 0 1 + A 0 0 * A 1 1 = _ * 1; grind
  | 3, _, _ =>
    funext i j
    show (sm fun l => adj 3 A i l * A l j) = dt 3 A * (if i = j then 1 else 0)
    rw [sm3, dt3]
    have e0 : ∀ j, adj 3 A 0 0 * A 0 j + adj 3 A 0 1 * A 1 j + adj 3 A 0 2 * A 2 j = (A 1 1 * A 2 2 - A 1 2 * A 2 1) * A 0 j + (A 0 2 * A 2 1 - A 0 1 * A 2 2) * A 1 j + (A 0 1 * A 1 2 - A 0 2 * A 1 1) * A 2 j := fun j => rfl
    have e1 : ∀ j, adj 3 A 1 0 * A 0 j + adj 3 A 1 1 * A 1 j + adj 3 A 1 2 * A 2 j = (A 1 2 * A 2 0 - A 1 0 * A 2 2) * A 0 j + (A 0 0 * A 2 2 - A 0 2 * A 2 0) * A 1 j + (A 0 2 * A 1 0 - A 0 0 * A 1 2) * A 2 j := fun j => rfl
    have e2 : ∀ j, adj 3 A 2 0 * A 0 j + adj 3 A 2 1 * A 1 j + adj 3 A 2 2 * A 2 j = (A 1 0 * A 2 1 - A 1 1 * A 2 0) * A 0 j + (A 0 1 * A 2 0 - A 0 0 * A 2 1) * A 1 j + (A 0 0 * A 1 1 - A 0 1 * A 1 0) * A 2 j := fun j => rfl
    revert i j
    refine fin3 (fin3 ?_ ?_ ?_) (fin3 ?_ ?_ ?_) (fin3 ?_ ?_ ?_)
    · rw [e0]; show _ = _ * 1; grind
    · rw [e0]; show _ = _ * 0; grind
    · rw [e0]; show _ = _ * 0; grind
    · rw [e1]; show _ = _ * 0; grind
    · rw [e1]; show _ = _ * 1; grind
    · rw [e1]; show _ = _ * 0; grind
    · rw [e2]; show _ = _ * 0; grind
    · rw [e2]; show _ = _ * 0; grind
    · rw [e2]; show _ = _ * 1; grind
theorem un_dt {n : Nat} (h1 : 1 ≤ n) (h : n ≤ 3) {A : Mt p n n} : Un A ↔ dt n A ≠ 0 := by
  constructor
  · intro ⟨B, hB, _⟩ hz
    have := dt_mm h B A
    rw [hB, dt_1 h, hz] at this
    exact z1 (p := p) (by grind)
  · intro hz
    have e : mm (ms (iv (dt n A)) (adj n A)) A = m1 := by
      rw [mm_sl, ad_mm h1 h, ms_ms, show iv (dt n A) * dt n A = 1 by have := mul_iv _ hz; grind, ms_1]
    exact ⟨_, e, un_two e⟩
theorem rk_dt {n : Nat} (h1 : 1 ≤ n) (h : n ≤ 3) {A : Mt p n n} : rkm A = n ↔ dt n A ≠ 0 := un_iff.trans (un_dt h1 h)
/-! ### rows behind rows -/
def hc {n m : Nat} (v : Vc p n) (w : Vc p m) : Vc p (n + m) := fun i => if h : i.val < n then v ⟨i.val, h⟩ else w ⟨i.val - n, by have := i.isLt; omega⟩
def mh {r n m : Nat} (A : Mt p r n) (B : Mt p r m) : Mt p r (n + m) := fun i => hc (A i) (B i)
def fl' {n m : Nat} (v : Vc p (n + m)) : Vc p n := fun i => v ⟨i.val, by have := i.isLt; omega⟩
def fr' {n m : Nat} (v : Vc p (n + m)) : Vc p m := fun i => v ⟨n + i.val, by have := i.isLt; omega⟩
theorem fr_hc {n m : Nat} (v : Vc p n) (w : Vc p m) : fr' (hc v w) = w := by
  funext i
  show (if h : n + i.val < n then v ⟨n + i.val, h⟩ else w ⟨n + i.val - n, _⟩) = w i
  rw [dif_neg (by omega)]
  congr 1
  exact Fin.ext (by show n + i.val - n = i.val; omega)
theorem fr_app {n m : Nat} (f : Fin (n + m) → PyData) : (fr (n + m)).map f = ((fr n).map fun i => f ⟨i.val, by have := i.isLt; omega⟩) ++ (fr m).map fun i => f ⟨n + i.val, by have := i.isLt; omega⟩ := by
  apply List.ext_getElem?
  intro i
  by_cases h : i < n
  · rw [List.getElem?_append_left (by rw [List.length_map, fr_len]; exact h), List.getElem?_map, List.getElem?_map, fr_get h, fr_get (by omega : i < n + m)]
    rfl
  · rw [List.getElem?_append_right (by rw [List.length_map, fr_len]; omega), List.getElem?_map, List.getElem?_map, List.length_map, fr_len]
    by_cases h2 : i < n + m
    · rw [fr_get h2, fr_get (by omega : i - n < m)]
      show some (f _) = some (f _)
      congr 2
      exact Fin.ext (by show i = n + (i - n); omega)
    · rw [List.getElem?_eq_none (by rw [fr_len]; omega), List.getElem?_eq_none (by rw [fr_len]; omega)]
      rfl
theorem eR_hc {n m : Nat} (v : Vc p n) (w : Vc p m) : eR (hc v w) = .tuple (((fr n).map fun i => eI (v i)) ++ (fr m).map fun i => eI (w i)) := by
  unfold eR
  rw [fr_app]
  congr 2
  · refine List.map_congr_left fun i _ => ?_
    show eI (if h : i.val < n then v ⟨i.val, h⟩ else _) = _
    rw [dif_pos i.isLt]
  · refine List.map_congr_left fun i _ => ?_
    show eI (fr' (hc v w) i) = _
    rw [fr_hc]
theorem mm_mh {r k n m : Nat} (C : Mt p r k) (A : Mt p k n) (B : Mt p k m) : mm C (mh A B) = mh (mm C A) (mm C B) := by
  funext i j
  show (sm fun l => C i l * hc (A l) (B l) j) = hc (mm C A i) (mm C B i) j
  unfold hc
  split
  · rfl
  · rfl
theorem rr_mh {n m : Nat} (B : Mt p n m) : RR (rws (mh (m1 : Mt p n n) B)) := by
  have hl : ∀ i : Fin n, Ld (mh (m1 : Mt p n n) B i) ⟨i.val, by have := i.isLt; omega⟩ := fun i => by
    have e : ∀ k : Fin (n + m), k.val < n → mh (m1 : Mt p n n) B i k = if i.val = k.val then 1 else 0 := fun k hk => by
      show (if h : k.val < n then (m1 : Mt p n n) i ⟨k.val, h⟩ else _) = _
      rw [dif_pos hk]
      show (if i = ⟨k.val, hk⟩ then (1 : Fin p) else 0) = _
      simp only [Fin.ext_iff]
    refine ⟨(e _ i.isLt).trans (if_pos rfl), fun j hj => ?_⟩
    have hj : j.val < i.val := hj
    rw [e j (by omega), if_neg (by omega)]
  have hz : ∀ a b : Fin n, a ≠ b → mh (m1 : Mt p n n) B a ⟨b.val, by have := b.isLt; omega⟩ = 0 := fun a b hab => by
    show (if h : b.val < n then (m1 : Mt p n n) a ⟨b.val, h⟩ else _) = _
    rw [dif_pos b.isLt]
    exact if_neg hab
  refine ⟨fun o ho => ?_, ?_⟩
  · obtain ⟨i, rfl⟩ := rws_mem.mp ho
    exact ⟨_, hl i⟩
  · unfold rws
    rw [List.pairwise_map]
    refine (fr_lt n).imp fun {a b} hab i j hi hj => ?_
    have e1 := hi.eq (hl a)
    have e2 := hj.eq (hl b)
    subst e1 e2
    have hne : a ≠ b := fun e => by subst e; exact Nat.lt_irrefl _ hab
    exact ⟨hab, hz a b hne, hz b a hne.symm⟩
/-- the form of a table with the unit behind it -/
theorem red_un {n : Nat} {A B : Mt p n n} (h : mm B A = m1) : red (rws (mh A m1)) = rws (mh m1 B) := by
  have e1 : mm B (mh A m1) = mh m1 B := by rw [mm_mh, h, mm_1]
  have e2 : mm A (mh m1 B) = mh A m1 := by rw [mm_mh, mm_1, un_two h]
  rw [← red_of (rr_mh B)]
  refine red_eq fun v => ⟨fun hv => ?_, fun hv => ?_⟩
  · rw [← e2] at hv
    exact spn_mm hv
  · rw [← e1] at hv
    exact spn_mm hv
end
/-! ### slices -/
theorem cut_to (xs : List PyData) (k : Nat) : cutL xs none (some ((k : Nat) : Int)) = xs.take k := by
  unfold cutL
  rw [HT.sIx_none, HT.sIx_nat, List.drop_zero, Nat.sub_zero]
  rw [List.take_eq_take_iff]
  omega
theorem cut_from (xs : List PyData) (k : Nat) : cutL xs (some ((k : Nat) : Int)) none = xs.drop k := by
  unfold cutL
  rw [HT.sIx_none, HT.sIx_nat]
  by_cases h : k ≤ xs.length
  · rw [Nat.min_eq_left h, List.take_of_length_le (by rw [List.length_drop]; omega)]
  · rw [Nat.min_eq_right (by omega), List.drop_length, List.take_nil, List.drop_eq_nil_of_le (by omega)]
theorem cut_mid (xs : List PyData) (a b : Nat) : cutL xs (some ((a : Nat) : Int)) (some ((b : Nat) : Int)) = (xs.drop a).take (b - a) := by
  unfold cutL
  rw [HT.sIx_nat, HT.sIx_nat]
  by_cases h : a ≤ xs.length
  · rw [Nat.min_eq_left h, List.take_eq_take_iff, List.length_drop]
    omega
  · rw [Nat.min_eq_right (by omega : xs.length ≤ a), List.drop_length, List.take_nil, List.drop_eq_nil_of_le (by omega), List.take_nil]
theorem fr_drop1 {n : Nat} (f : Fin (n + 1) → PyData) : ((fr (n + 1)).map f).drop 1 = (fr n).map fun i => f i.succ := by
  show (List.map f (List.finRange (n + 1))).drop 1 = _
  rw [List.finRange_succ, List.map_cons, List.drop_succ_cons, List.drop_zero, List.map_map]
  rfl
theorem fr_less {n : Nat} (f : Fin (n + 1) → PyData) (a : Nat) (ha : a ≤ n) : ((fr (n + 1)).map f).take a ++ ((fr (n + 1)).map f).drop (a + 1) = (fr n).map fun k => f (if k.val < a then k.castSucc else k.succ) := by
  apply List.ext_getElem?
  intro i
  by_cases h : i < a
  · rw [List.getElem?_append_left (by rw [List.length_take, List.length_map, fr_len]; omega), List.getElem?_take_of_lt h, List.getElem?_map, List.getElem?_map, fr_get (by omega : i < n + 1), fr_get (by omega : i < n)]
    show some (f _) = some (f _)
    rw [if_pos h]
    rfl
  · rw [List.getElem?_append_right (by rw [List.length_take, List.length_map, fr_len]; omega), List.length_take, List.length_map, fr_len, Nat.min_eq_left (by omega), List.getElem?_drop, List.getElem?_map, List.getElem?_map]
    by_cases h2 : i < n
    · rw [fr_get (by omega : a + 1 + (i - a) < n + 1), fr_get h2]
      show some (f _) = some (f _)
      rw [if_neg h]
      congr 2
      exact Fin.ext (by show a + 1 + (i - a) = i + 1; omega)
    · rw [List.getElem?_eq_none (by rw [fr_len]; omega), List.getElem?_eq_none (by rw [fr_len]; omega)]
      rfl
end Dz

/-! La5: tables as rows, rows as tables; == with itself. -/
namespace Dz
open PySem (PyData Str sizeLine)
section
variable {p : Nat} [Pr p]
theorem fr_rg {β : Type} {n : Nat} (G : Nat → β) : (fr n).map (fun i => G i.val) = (List.range n).map G := by
  apply List.ext_getElem?
  intro i
  rw [List.getElem?_map, List.getElem?_map]
  by_cases h : i < n
  · rw [fr_get h, List.getElem?_range h]
    rfl
  · rw [List.getElem?_eq_none (by rw [fr_len]; omega), List.getElem?_eq_none (by simpa using h)]
    rfl
theorem rg_flat {β : Type} (F : Nat → Nat → β) (c : Nat) : ∀ r, (List.range r).flatMap (fun i => (List.range c).map (F i)) = (List.range (r * c)).map fun k => F (k / c) (k % c)
  | 0 => by simp
  | r + 1 => by
    rw [List.range_succ, List.flatMap_append, rg_flat F c r, Nat.succ_mul, List.range_add, List.map_append, List.map_map]
    congr 1
    rw [List.flatMap_singleton]
    refine List.map_congr_left fun j hj => ?_
    have hj := List.mem_range.mp hj
    have h1 : (r * c + j) / c = r := by rw [Nat.mul_comm, Nat.mul_add_div (by omega), Nat.div_eq_of_lt hj, Nat.add_zero]
    have h2 : (r * c + j) % c = j := by rw [Nat.mul_comm, Nat.mul_add_mod, Nat.mod_eq_of_lt hj]
    show F r j = F ((r * c + j) / c) ((r * c + j) % c)
    rw [h1, h2]
theorem div_lt' {r c k : Nat} (h : k < r * c) : k / c < r := by
  have : 0 < c := Nat.pos_of_ne_zero fun e => by subst e; simp at h
  exact (Nat.div_lt_iff_lt_mul this).mpr h
theorem mod_lt' {r c k : Nat} (h : k < r * c) : k % c < c := Nat.mod_lt _ (Nat.pos_of_ne_zero fun e => by subst e; simp at h)
theorem at_lt {r c i j : Nat} (hi : i < r) (hj : j < c) : i * c + j < r * c := by
  have : (i + 1) * c ≤ r * c := Nat.mul_le_mul_right c hi
  rw [Nat.succ_mul] at this
  omega
/-- a table as one row -/
def flat {r c : Nat} (A : Mt p r c) : Vc p (r * c) := fun k => A ⟨k.val / c, div_lt' k.isLt⟩ ⟨k.val % c, mod_lt' k.isLt⟩
def unf {r c : Nat} (v : Vc p (r * c)) : Mt p r c := fun i j => v ⟨i.val * c + j.val, at_lt i.isLt j.isLt⟩
theorem unf_flat {r c : Nat} (A : Mt p r c) : unf (flat A) = A := by
  funext i j
  show A ⟨(i.val * c + j.val) / c, _⟩ ⟨(i.val * c + j.val) % c, _⟩ = A i j
  have hj := j.isLt
  congr 1
  · exact Fin.ext (by show (i.val * c + j.val) / c = i.val; rw [Nat.mul_comm, Nat.mul_add_div (by omega), Nat.div_eq_of_lt hj, Nat.add_zero])
  · exact Fin.ext (by show (i.val * c + j.val) % c = j.val; rw [Nat.mul_comm, Nat.mul_add_mod, Nat.mod_eq_of_lt hj])
theorem flat_unf {r c : Nat} (v : Vc p (r * c)) : flat (unf v) = v := by
  funext k
  show v ⟨k.val / c * c + k.val % c, _⟩ = v k
  congr 1
  exact Fin.ext (by show k.val / c * c + k.val % c = k.val; rw [Nat.mul_comm]; exact Nat.div_add_mod _ _)
theorem eR_flat {r c : Nat} (A : Mt p r c) : eR (flat A) = .tuple ((fr r).flatMap fun i => (fr c).map fun j => eI (A i j)) := by
  let F : Nat → Nat → PyData := fun i j => if h : i < r ∧ j < c then eI (A ⟨i, h.1⟩ ⟨j, h.2⟩) else .none
  have e1 : (fr r).flatMap (fun i => (fr c).map fun j => eI (A i j)) = (List.range r).flatMap fun i => (List.range c).map (F i) := by
    have : (fr r).flatMap (fun i => (fr c).map fun j => eI (A i j)) = (fr r).flatMap fun i => (List.range c).map (F i.val) := by
      rw [List.flatMap_def, List.flatMap_def]
      congr 1
      refine List.map_congr_left fun i _ => ?_
      rw [← fr_rg]
      refine List.map_congr_left fun j _ => ?_
      show _ = if h : i.val < r ∧ j.val < c then _ else _
      rw [dif_pos ⟨i.isLt, j.isLt⟩]
    rw [this, List.flatMap_def, List.flatMap_def]
    congr 1
    apply List.ext_getElem?
    intro i
    rw [List.getElem?_map, List.getElem?_map]
    by_cases h : i < r
    · rw [fr_get h, List.getElem?_range h]
      rfl
    · rw [List.getElem?_eq_none (by rw [fr_len]; omega), List.getElem?_eq_none (by simpa using h)]
      rfl
  rw [e1, rg_flat, ← fr_rg]
  unfold eR
  congr 1
  refine List.map_congr_left fun k _ => ?_
  show _ = if h : k.val / c < r ∧ k.val % c < c then _ else _
  rw [dif_pos ⟨div_lt' k.isLt, mod_lt' k.isLt⟩]
  rfl
theorem len_flat {α : Type} {c : Nat} (f : α → Fin c → PyData) : ∀ l : List α, (l.flatMap fun i => (fr c).map (f i)).length = l.length * c
  | [] => by simp
  | x :: l => by rw [List.flatMap_cons, List.length_append, len_flat f l, List.length_map, fr_len, List.length_cons, Nat.succ_mul, Nat.add_comm]
theorem row_cut {r c : Nat} (v : Vc p (r * c)) (i : Fin r) : ((((fr (r * c)).map fun k => eI (v k)).drop (i.val * c)).take c) = (fr c).map fun j => eI (unf v i j) := by
  have hb : ∀ k, k < c → i.val * c + k < r * c := fun k hk => at_lt i.isLt hk
  apply List.ext_getElem?
  intro k
  by_cases h : k < c
  · rw [List.getElem?_take_of_lt h, List.getElem?_drop, List.getElem?_map, List.getElem?_map, fr_get (hb k h), fr_get h]
    rfl
  · rw [List.getElem?_take_eq_none (by omega), List.getElem?_map, List.getElem?_eq_none (by rw [fr_len]; omega)]
    rfl
theorem rg3_def {i j c : Int} (h : 0 < c ∧ c < 1073741824 ∧ PySem.Builtin.Range.small i j c = true) : rg3 [.int i, .int j, .int c] = some (rgC i c (if i < j then (j - i - 1) / c + 1 else 0).toNat) := if_pos h
theorem rg3_ok {r c : Nat} (hc : 1 ≤ c) (h : r * c ≤ 10000) (hc2 : c ≤ 10000) : rg3 [.int 0, eN (r * c), eN c] = some ((fr r).map fun i => eN (i.val * c)) := by
  have p63 : (2 : Int) ^ 63 = 9223372036854775808 := by decide
  have hN : (if (0 : Int) < ((r * c : Nat) : Int) then (((r * c : Nat) : Int) - 0 - 1) / (c : Int) + 1 else 0) = (r : Int) := by
    by_cases hr : r = 0
    · subst hr
      rw [Nat.zero_mul]
      rfl
    · have hpos : 1 ≤ r * c := Nat.mul_pos (by omega) hc
      rw [if_pos (by omega)]
      have e1 : (((r * c : Nat) : Int) - 0 - 1) = (((r * c - 1 : Nat)) : Int) := by omega
      rw [e1, ← Int.natCast_ediv]
      have e2 : (r * c - 1) / c = r - 1 := by
        obtain ⟨s, rfl⟩ : ∃ s, r = s + 1 := ⟨r - 1, by omega⟩
        have e3 : (s + 1) * c - 1 = c * s + (c - 1) := by rw [Nat.succ_mul, Nat.mul_comm]; omega
        rw [e3, Nat.mul_add_div (by omega), Nat.div_eq_of_lt (by omega)]
        omega
      rw [e2]
      omega
  have hsz : PySem.Builtin.Range.rangeSize 0 ((r * c : Nat) : Int) (c : Int) = (r : Int) := by
    unfold PySem.Builtin.Range.rangeSize
    rw [if_pos (by omega)]
    exact hN
  have hrr : r ≤ r * c := Nat.le_mul_of_pos_right r hc
  have hs : PySem.Builtin.Range.small 0 ((r * c : Nat) : Int) (c : Int) = true := by
    unfold PySem.Builtin.Range.small
    rw [hsz, if_pos (by omega)]
    unfold PySem.Builtin.Range.rangeFitsLong
    simp only [p63, Bool.and_eq_true, Bool.or_eq_true, decide_eq_true_eq]
    omega
  rw [rg3_def ⟨by omega, by omega, hs⟩, hN]
  unfold rgC
  rw [Int.toNat_natCast, ← fr_rg]
  exact congrArg some (List.map_congr_left fun i _ => congrArg PyData.int (by rw [Int.natCast_mul, Int.zero_add]))
end
/-! ### == with itself -/
mutual
theorem eqv_self : ∀ d : PyData, d.canLay0 = true → PyData.eqv d d = true
  | .none, _ => by simp [PyData.eqv]
  | .bool _, _ => by simp [PyData.eqv]
  | .int _, _ => by simp [PyData.eqv]
  | .str _, _ => by simp [PyData.eqv]
  | .list xs, h => by
    simp only [PyData.eqv]
    exact eqvAll_self xs (by simpa [PyData.canLay0] using h)
  | .tuple xs, h => by
    simp only [PyData.eqv]
    exact eqvAll_self xs (by simpa [PyData.canLay0] using h)
  | .dict _, h => by simp [PyData.canLay0] at h
theorem eqvAll_self : ∀ xs : List PyData, PyData.canLayAll0 xs = true → PyData.eqvAll xs xs = true
  | [], _ => by simp [PyData.eqvAll]
  | x :: xs, h => by
    have h' : x.canLay0 = true ∧ PyData.canLayAll0 xs = true := by simpa [PyData.canLayAll0] using h
    simp only [PyData.eqvAll, eqv_self x h'.1, eqvAll_self xs h'.2, Bool.and_self]
end
theorem neD_self {d : PyData} {k : Nat} (h : Sh k d) (hk : k ≤ 64) : neD d d = some (.bool false) := by
  rw [neD_of h h hk hk, eqv_self d h.1]
  rfl
theorem eqD_self {d : PyData} {k : Nat} (h : Sh k d) (hk : k ≤ 64) : eqD d d = some (.bool true) := by
  rw [eqD_of h h hk hk, eqv_self d h.1]
end Dz

/-! La6: a power of a table that can be undone is the unit. -/
namespace Dz
open PySem (PyData Str sizeLine)
theorem nd_le' {α : Type} [DecidableEq α] {l : List α} : ∀ {m : List α}, l.Nodup → (∀ x ∈ l, x ∈ m) → l.length ≤ m.length := by
  induction l with
  | nil => intro m _ _; exact Nat.zero_le _
  | cons a l ih =>
    intro m hl h
    have ha := h a List.mem_cons_self
    have hn := List.nodup_cons.mp hl
    have := ih (m := m.erase a) hn.2 fun x hx => (List.mem_erase_of_ne (fun e => hn.1 (by rw [← e]; exact hx))).mpr (h x (List.mem_cons_of_mem _ hx))
    rw [List.length_erase_of_mem ha] at this
    have : 0 < m.length := List.length_pos_of_mem ha
    rw [List.length_cons]
    omega
/-- all functions into a list -/
def allF {α : Type} (xs : List α) : (n : Nat) → List (Fin n → α)
  | 0 => [fun i => i.elim0]
  | n + 1 => xs.flatMap fun x => (allF xs n).map fun f i => if h : i.val = 0 then x else f ⟨i.val - 1, by have := i.isLt; omega⟩
theorem allF_len {α : Type} (xs : List α) : ∀ n, (allF xs n).length = xs.length ^ n
  | 0 => rfl
  | n + 1 => by
    have h : ∀ ys : List α, (ys.flatMap fun x => (allF xs n).map fun f (i : Fin (n + 1)) => if h : i.val = 0 then x else f ⟨i.val - 1, by have := i.isLt; omega⟩).length = ys.length * xs.length ^ n := by
      intro ys
      induction ys with
      | nil => simp
      | cons y ys ih => rw [List.flatMap_cons, List.length_append, ih, List.length_map, allF_len xs n, List.length_cons, Nat.succ_mul, Nat.add_comm]
    show (xs.flatMap _).length = _
    rw [h, Nat.pow_succ, Nat.mul_comm]
theorem allF_mem {α : Type} {xs : List α} : ∀ {n : Nat} {f : Fin n → α}, (∀ i, f i ∈ xs) → f ∈ allF xs n
  | 0, f, _ => List.mem_singleton.mpr (funext fun i => i.elim0)
  | n + 1, f, h => by
    refine List.mem_flatMap.mpr ⟨f ⟨0, by omega⟩, h _, List.mem_map.mpr ⟨fun i => f ⟨i.val + 1, by have := i.isLt; omega⟩, allF_mem fun i => h _, ?_⟩⟩
    funext i
    by_cases e : i.val = 0
    · rw [dif_pos e]
      congr 1
      exact Fin.ext e.symm
    · rw [dif_neg e]
      have e2 : (⟨i.val - 1 + 1, by have := i.isLt; omega⟩ : Fin (n + 1)) = i := Fin.ext (by show i.val - 1 + 1 = i.val; omega)
      exact congrArg f e2
section
variable {p : Nat} [Pr p]
def allM (p r c : Nat) : List (Mt p r c) := allF (allF (fr p) c) r
theorem allM_mem {r c : Nat} (A : Mt p r c) : A ∈ allM p r c := allF_mem fun i => allF_mem fun j => fr_mem _
theorem allM_len {r c : Nat} : (allM p r c).length = (p ^ c) ^ r := by
  unfold allM
  rw [allF_len, allF_len, fr_len]
theorem not_nd {α : Type} [DecidableEq α] : ∀ {f : Nat → α} {N : Nat}, ¬ ((List.range N).map f).Nodup → ∃ i j, i < j ∧ j < N ∧ f i = f j := by
  intro f N h
  rw [List.nodup_iff_pairwise_ne, List.pairwise_map] at h
  refine Classical.byContradiction fun hn => h ?_
  refine List.Pairwise.imp_of_mem (fun {a b} ha hb hab e => hn ⟨a, b, hab, List.mem_range.mp hb, e⟩) List.pairwise_lt_range
theorem order {n : Nat} {T : Mt p n n} (h : Un T) : ∃ k, k < (p ^ n) ^ n ∧ mp T (k + 1) = m1 := by
  have hnd : ¬ ((List.range ((p ^ n) ^ n + 1)).map (mp T)).Nodup := fun hnd => by
    have := nd_le' hnd fun A _ => allM_mem A
    rw [List.length_map, List.length_range, allM_len] at this
    omega
  obtain ⟨i, j, hij, hj, e⟩ := not_nd hnd
  obtain ⟨S, hS, hS2⟩ := h
  have hu : ∀ i, mm (mp S i) (mp T i) = m1 := by
    intro i
    induction i with
    | zero => exact m1_m _
    | succ i ih =>
      show mm (mm (mp S i) S) (mm (mp T i) T) = m1
      rw [← mp_comm T i, mm_assoc, ← mm_assoc S, hS, m1_m, ih]
  refine ⟨j - i - 1, by omega, ?_⟩
  have e2 : mp T j = mm (mp T i) (mp T (j - i - 1 + 1)) := by
    rw [← mp_add]
    congr 1
    omega
  have := congrArg (mm (mp S i)) e
  rw [hu, e2, ← mm_assoc, hu, m1_m] at this
  exact this.symm
theorem pow_bd {n : Nat} (h : n ≤ 3) : (p ^ n) ^ n ≤ 1953125 := by
  have hp := Pr.le (p := p)
  have h1 : p ^ n ≤ 5 ^ n := Nat.pow_le_pow_left hp.2 n
  have h2 : 5 ^ n ≤ 5 ^ 3 := Nat.pow_le_pow_right (by decide) h
  have h3 : (p ^ n) ^ n ≤ (5 ^ 3) ^ n := Nat.pow_le_pow_left (Nat.le_trans h1 h2) n
  have h4 : (5 ^ 3) ^ n ≤ (5 ^ 3) ^ 3 := Nat.pow_le_pow_right (by decide) h
  exact Nat.le_trans (Nat.le_trans h3 h4) (by decide)
/-- the unit's rows moved on -/
def cyc (n : Nat) : Mt p (n + 1) (n + 1) := fun i => if h : i.val < n then m1 ⟨i.val + 1, by omega⟩ else m1 0
theorem cyc_un {n : Nat} (h : n ≤ 2) : Un (cyc n : Mt p (n + 1) (n + 1)) := by
  rw [un_dt (by omega) (by omega)]
  match n, h with
  | 0, _ => exact z1.symm
  | 1, _ =>
    rw [dt2]
    show (0 : Fin p) * 0 - 1 * 1 ≠ 0
    intro e
    exact z1 (p := p) (by grind)
  | 2, _ =>
    rw [dt3]
    show (0 : Fin p) * (0 * 0 - 1 * 0) - 1 * (0 * 0 - 1 * 1) + 0 * (0 * 0 - 0 * 1) ≠ 0
    intro e
    exact z1 (p := p) (by grind)
end
theorem rs_add {p : Nat} [Pr p] (a b : Int) : rs p (a + b) = rs p a + rs p b := Fin.ext (by
  have h1 := rs_val p (a + b)
  have h2 := val_add (rs p a) (rs p b)
  rw [rs_val, rs_val, ← Int.add_emod] at h2
  omega)
theorem rs_mul {p : Nat} [Pr p] (a b : Int) : rs p (a * b) = rs p a * rs p b := Fin.ext (by
  have h1 := rs_val p (a * b)
  have h2 := val_mul (rs p a) (rs p b)
  rw [rs_val, rs_val, ← Int.mul_emod] at h2
  omega)
theorem rs_v {p : Nat} [Pr p] (x : Fin p) : rs p (x.val : Int) = x := Fin.ext (by
  have h1 := rs_val p (x.val : Int)
  rw [val_mod] at h1
  omega)
theorem rs_0 {p : Nat} [Pr p] : rs p 0 = 0 := Fin.ext (by
  have h1 := rs_val p 0
  rw [Int.zero_emod] at h1
  rw [zero_val]
  omega)
theorem rs_1 {p : Nat} [Pr p] : rs p 1 = 1 := Fin.ext (by
  have h1 := rs_val p 1
  have h2 := one_val (p := p)
  have hp := Pr.le (p := p)
  rw [Int.emod_eq_of_lt (by omega) (by omega)] at h1
  omega)
theorem rs_neg {p : Nat} [Pr p] (a : Int) : rs p (-a) = - rs p a := by
  have h := rs_add (p := p) (-a) a
  rw [Int.add_left_neg, rs_0] at h
  grind
theorem rs_sub {p : Nat} [Pr p] (a b : Int) : rs p (a - b) = rs p a - rs p b := by
  have h := rs_add (p := p) (a - b) b
  rw [Int.sub_add_cancel] at h
  grind
theorem mod_rs {p : Nat} [Pr p] (a : Int) : modD (.int a) (eN p) = some (eI (rs p a)) := (mod_ok a).trans (congrArg some (congrArg PySem.PyData.int (rs_val p a).symm))
end Dz

/-! La7: what comes to 0 with all of some rows. -/
namespace Dz
section
variable {p : Nat} [Pr p] {n : Nat}
def dot (v w : Vc p n) : Fin p := sm fun i => v i * w i
theorem dot_lc (x : Fin p) (v w u : Vc p n) : dot (fun i => v i + x * w i) u = dot v u + x * dot w u := by
  unfold dot
  rw [← sm_mul, ← sm_add]
  exact sm_congr fun i => by grind
theorem dot_comm (v w : Vc p n) : dot v w = dot w v := sm_congr fun i => by grind
theorem dot_z (w : Vc p n) : dot vz w = 0 := (sm_congr fun i => (by show (0 : Fin p) * w i = 0; grind)).trans sm_zero
def nul (L : List (Vc p n)) (w : Vc p n) : Prop := ∀ o ∈ L, dot o w = 0
theorem sb_dot (w : Vc p n) : Sb fun v => dot v w = 0 := ⟨dot_z w, fun x v u hv hu => by
  show dot _ w = 0
  rw [dot_lc, hv, hu]
  grind⟩
theorem nul_spn {L : List (Vc p n)} {w : Vc p n} (h : nul L w) {v : Vc p n} (hv : spn L v) : dot v w = 0 := spn_le (sb_dot w) h hv
theorem nul_eq {L M : List (Vc p n)} (h : ∀ v, spn L v ↔ spn M v) (w : Vc p n) : nul L w ↔ nul M w :=
  ⟨fun hl o ho => nul_spn hl ((h o).mpr (spn_mem ho)), fun hm o ho => nul_spn hm ((h o).mp (spn_mem ho))⟩
theorem nul_sb (L : List (Vc p n)) : Sb (nul L) := ⟨fun o _ => by rw [dot_comm, dot_z], fun x v w hv hw o ho => by
  rw [dot_comm, dot_lc, dot_comm v, dot_comm w, hv o ho, hw o ho]
  grind⟩
/-- one that is 1 at a place -/
def fre (L : List (Vc p n)) (a : Fin n) : Vc p n := fun i => (if i = a then 1 else 0) - ls L fun o => o a * if i.val = fo o then 1 else 0
def hds (L : List (Vc p n)) : List Nat := L.map fo
def frs (L : List (Vc p n)) : List (Fin n) := (fr n).filter fun i => !decide (i.val ∈ hds L)
theorem frs_mem {L : List (Vc p n)} {i : Fin n} : i ∈ frs L ↔ ¬ i.val ∈ hds L := by
  unfold frs
  rw [List.mem_filter]
  simp [fr_mem]
theorem fre_free {L : List (Vc p n)} {a k : Fin n} (hk : k ∈ frs L) : fre L a k = if k = a then 1 else 0 := by
  unfold fre
  rw [ls_congr (g := fun _ => (0 : Fin p)) fun o ho => ?_, ls_zero]
  · grind
  · rw [if_neg fun e => frs_mem.mp hk (List.mem_map.mpr ⟨o, ho, e.symm⟩)]
    grind
theorem RF.dj' {L : List (Vc p n)} (h : RF L) {a b : Vc p n} (ha : a ∈ L) (hb : b ∈ L) (hab : a ≠ b) {i : Fin n} (hi : Ld b i) : a i = 0 := by
  obtain ⟨j, hj⟩ := h.ld a ha
  exact (pw_get (R := fun a b : Vc p n => ∀ i j, Ld a i → Ld b j → a j = 0 ∧ b i = 0) (fun a b h i j hi hj => (h j i hj hi).symm) h.dj ha hb hab j i hj hi).1
theorem fre_head {L : List (Vc p n)} (h : RF L) {a : Fin n} (ha : a ∈ frs L) {o : Vc p n} (ho : o ∈ L) {k : Fin n} (hk : Ld o k) : fre L a k = - o a := by
  unfold fre
  rw [if_neg fun e => frs_mem.mp ha (List.mem_map.mpr ⟨o, ho, by rw [hk.fo, e]⟩)]
  have e : (ls L fun b => b a * if k.val = fo b then 1 else 0) = ls L fun b => if b = o then o a else 0 := ls_congr fun b hb => by
    by_cases e : b = o
    · subst e
      rw [if_pos hk.fo.symm, if_pos rfl]
      grind
    · rw [if_neg e, if_neg fun z => e (h.of_fo hb ho (by rw [← z, hk.fo]))]
      grind
  rw [e, ls_one h.nd ho fun _ => o a]
  grind
/-- a sum over all places: the free ones and the heads -/
theorem dot_fre {L : List (Vc p n)} (h : RF L) {a : Fin n} (ha : a ∈ frs L) {o : Vc p n} (ho : o ∈ L) : dot o (fre L a) = 0 := by
  have e1 : dot o (fre L a) = (sm fun i => if i = a then o i else 0) - sm fun i => ls L fun b => o i * (b a * if i.val = fo b then 1 else 0) := by
    unfold dot
    rw [← sm_sub]
    refine sm_congr fun i => ?_
    show o i * ((if i = a then 1 else 0) - ls L fun b => b a * if i.val = fo b then 1 else 0) = _
    rw [ls_mul]
    split <;> grind
  have e2 : (sm fun i => ls L fun b => o i * (b a * if i.val = fo b then 1 else 0)) = ls L fun b => if b = o then o a else 0 := by
    show (ls (fr n) fun i => ls L fun b => o i * (b a * if i.val = fo b then 1 else 0)) = _
    rw [ls_swap]
    refine ls_congr fun b hb => ?_
    obtain ⟨k, hk⟩ := h.ld b hb
    have e3 : (ls (fr n) fun i => o i * (b a * if i.val = fo b then 1 else 0)) = ls (fr n) fun i => if i = k then o i * b a else 0 := ls_congr fun i _ => by
      by_cases e : i = k
      · rw [if_pos e, if_pos (by rw [hk.fo, e])]
        grind
      · rw [if_neg e, if_neg fun z => e (Fin.ext (by rw [z, hk.fo]))]
        grind
    rw [e3, ls_one (fr_nodup n) (fr_mem k) fun i => o i * b a]
    by_cases e : b = o
    · subst e
      rw [if_pos rfl, hk.1]
      grind
    · rw [if_neg e, h.dj' ho hb (Ne.symm e) hk]
      grind
  rw [e1, e2, ls_one h.nd ho fun _ => o a, sm_one]
  grind
/-- a row with which all come to 0, 0 at the free places -/
theorem nul_zero {L : List (Vc p n)} (h : RF L) {w : Vc p n} (hn : nul L w) (hf : ∀ k ∈ frs L, w k = 0) : w = vz := by
  funext k
  show w k = 0
  by_cases hk : k ∈ frs L
  · exact hf k hk
  · have hk' : k.val ∈ hds L := Classical.byContradiction fun z => hk (frs_mem.mpr z)
    obtain ⟨o, ho, e⟩ := List.mem_map.mp hk'
    obtain ⟨j, hj⟩ := h.ld o ho
    have hkj : j = k := Fin.ext (by rw [← hj.fo, e])
    subst hkj
    have h1 := hn o ho
    have e1 : dot o w = sm fun i => if i = j then o i * w i else 0 := sm_congr fun i => by
      by_cases e : i = j
      · rw [if_pos e]
      · rw [if_neg e]
        by_cases hi : i ∈ frs L
        · rw [hf i hi]
          grind
        · have hi' : i.val ∈ hds L := Classical.byContradiction fun z => hi (frs_mem.mpr z)
          obtain ⟨b, hb, e2⟩ := List.mem_map.mp hi'
          obtain ⟨l, hl⟩ := h.ld b hb
          have : l = i := Fin.ext (by rw [← hl.fo, e2])
          subst this
          have hbo : o ≠ b := fun z => by
            subst z
            exact e (hl.eq hj)
          rw [h.dj' ho hb hbo hl]
          grind
    rw [e1, sm_one, hj.1] at h1
    grind
theorem frs_nd (L : List (Vc p n)) : (frs L).Nodup := (fr_nodup n).filter _
theorem spn_fre {L : List (Vc p n)} (h : RF L) (w : Vc p n) : spn ((frs L).map (fre L)) w ↔ nul L w := by
  constructor
  · refine spn_le (nul_sb L) fun v hv => ?_
    obtain ⟨a, ha, rfl⟩ := List.mem_map.mp hv
    exact fun o ho => dot_fre h ha ho
  · intro hn
    let u : Vc p n := fun j => ls (frs L) fun a => w a * fre L a j
    have hu : spn ((frs L).map (fre L)) u := spn_ls ⟨w, rfl⟩
    have hun : nul L u := by
      have : ∀ {v}, spn ((frs L).map (fre L)) v → nul L v := fun hv => spn_le (nul_sb L) (fun v hv => by
        obtain ⟨a, ha, rfl⟩ := List.mem_map.mp hv
        exact fun o ho => dot_fre h ha ho) hv
      exact this hu
    have hd : nul L fun i => w i - 1 * u i := (nul_sb L).sub hn hun 1
    have hz := nul_zero h hd fun k hk => by
      have e : u k = ls (frs L) fun a => if a = k then w a else 0 := ls_congr fun a _ => by
        rw [fre_free hk]
        by_cases e : a = k
        · rw [if_pos e, if_pos e.symm]
          grind
        · rw [if_neg e, if_neg (Ne.symm e)]
          grind
      show w k - 1 * u k = 0
      rw [e, ls_one (frs_nd L) hk]
      grind
    have : w = u := by
      funext i
      have := congrFun hz i
      have : w i - 1 * u i = 0 := this
      grind
    rw [this]
    exact hu
theorem frs_len {L : List (Vc p n)} (h : RF L) : (frs L).length + L.length = n := by
  have h2 : (fr n).length = ((fr n).filter fun i => decide (i.val ∈ hds L)).length + ((fr n).filter fun i => decide (¬ decide (i.val ∈ hds L) = true)).length := by
    rw [← List.countP_eq_length_filter, ← List.countP_eq_length_filter]
    exact List.length_eq_countP_add_countP _
  have h3 : ((fr n).filter fun i => decide (¬ decide (i.val ∈ hds L) = true)) = frs L := by
    unfold frs
    congr 1
    funext i
    cases decide (i.val ∈ hds L) <;> rfl
  rw [h3, fr_len] at h2
  have h4 : ((fr n).filter fun i => decide (i.val ∈ hds L)).length = L.length := by
    have hl : (hds L).length = L.length := List.length_map _
    refine Nat.le_antisymm ?_ ?_
    · have hnd : (((fr n).filter fun i => decide (i.val ∈ hds L)).map fun i => i.val).Nodup := by
        rw [List.nodup_iff_pairwise_ne, List.pairwise_map]
        exact (List.Pairwise.filter _ (fr_lt n)).imp fun h => Nat.ne_of_lt h
      have := nd_le hnd (m := hds L) fun x hx => by
        obtain ⟨i, hi, rfl⟩ := List.mem_map.mp hx
        exact of_decide_eq_true (List.mem_filter.mp hi).2
      rw [List.length_map] at this
      omega
    · have := nd_le h.fo_nd (m := ((fr n).filter fun i => decide (i.val ∈ hds L)).map fun i => i.val) fun x hx => by
        obtain ⟨o, ho, rfl⟩ := List.mem_map.mp hx
        obtain ⟨i, hi⟩ := h.ld o ho
        exact List.mem_map.mpr ⟨i, List.mem_filter.mpr ⟨fr_mem i, decide_eq_true (by rw [← hi.fo]; exact hx)⟩, hi.fo.symm⟩
      rw [List.length_map, List.length_map] at this
      exact this
  omega
/-- the form of all rows with which each of some rows comes to 0 -/
def nu (rows : List (Vc p n)) : List (Vc p n) := red ((frs (red rows)).map (fre (red rows)))
theorem nu_rr (rows : List (Vc p n)) : RR (nu rows) := red_rr _
theorem spn_nu (rows : List (Vc p n)) (w : Vc p n) : spn (nu rows) w ↔ nul rows w := by
  unfold nu
  rw [red_spn, spn_fre (red_rr rows).rf, nul_eq (red_spn rows)]
theorem nu_len (rows : List (Vc p n)) : (nu rows).length + rk rows = n := by
  have e : (nu rows).length = rk ((frs (red rows)).map (fre (red rows))) := rfl
  have hrk : rk rows = (red rows).length := rfl
  have h := (red_rr rows).rf
  have hf := frs_len h
  rw [e, hrk]
  generalize red rows = L at h hf
  suffices rk ((frs L).map (fre L)) = (frs L).length by omega
  refine Nat.le_antisymm (by have := rk_le ((frs L).map (fre L)); rwa [List.length_map] at this) ?_
  let A : Mt p (frs L).length n := fun i => fre L (frs L)[i]
  let B : Mt p n (frs L).length := fun j l => if j = (frs L)[l] then 1 else 0
  have hAB : mm A B = m1 := by
    funext i l
    show (sm fun j => fre L (frs L)[i] j * if j = (frs L)[l] then 1 else 0) = if i = l then 1 else 0
    have e1 : (sm fun j => fre L (frs L)[i] j * if j = (frs L)[l] then 1 else 0) = sm fun j => if j = (frs L)[l] then fre L (frs L)[i] j else 0 := sm_congr fun j => by split <;> grind
    rw [e1, sm_one]
    refine (fre_free (a := (frs L)[i]) (k := (frs L)[l]) (List.getElem_mem l.isLt)).trans ?_
    by_cases e : i = l
    · subst e
      exact (if_pos rfl).trans (if_pos rfl).symm
    · exact (if_neg fun z => e (Fin.ext ((List.getElem_inj (frs_nd L)).mp z).symm)).trans (if_neg e).symm
  have h1 := rkm_mul_l A B
  rw [hAB, rkm_1] at h1
  have h2 : rws A = (frs L).map (fre L) := by
    unfold rws
    apply List.ext_getElem?
    intro i
    rw [List.getElem?_map, List.getElem?_map]
    by_cases hi : i < (frs L).length
    · rw [fr_get hi, List.getElem?_eq_getElem hi]
      rfl
    · rw [List.getElem?_eq_none (by rw [fr_len]; omega), List.getElem?_eq_none (by omega)]
      rfl
  unfold rkm at h1
  rwa [h2] at h1
end
end Dz

/-! La8: what carries. -/
namespace Dz
section
variable {p : Nat} [Pr p] {r c : Nat}
theorem ls_flat {α β : Type} (g : α → List β) (f : β → Fin p) : ∀ xs : List α, ls (xs.flatMap g) f = ls xs fun x => ls (g x) f
  | [] => rfl
  | x :: xs => by rw [List.flatMap_cons, ls_app, ls_flat g f xs, ls_cons]
theorem sm_flat (G : Fin r → Fin c → Fin p) : (sm fun q : Fin (r * c) => G ⟨q.val / c, div_lt' q.isLt⟩ ⟨q.val % c, mod_lt' q.isLt⟩) = sm fun i => sm fun j => G i j := by
  let F : Nat → Nat → Fin p := fun i j => if h : i < r ∧ j < c then G ⟨i, h.1⟩ ⟨j, h.2⟩ else 0
  have hF : ∀ (i : Fin r) (j : Fin c), F i.val j.val = G i j := fun i j => dif_pos ⟨i.isLt, j.isLt⟩
  have e1 : (sm fun q : Fin (r * c) => G ⟨q.val / c, div_lt' q.isLt⟩ ⟨q.val % c, mod_lt' q.isLt⟩) = ls (List.range (r * c)) fun k => F (k / c) (k % c) := by
    rw [← ls_map (List.range (r * c)) (fun k => F (k / c) (k % c)) (fun x => x), ← fr_rg (n := r * c), ls_map]
    exact sm_congr fun q => (hF ⟨q.val / c, div_lt' q.isLt⟩ ⟨q.val % c, mod_lt' q.isLt⟩).symm
  have e2 : (ls (List.range (r * c)) fun k => F (k / c) (k % c)) = ls (List.range r) fun i => ls (List.range c) fun j => F i j := by
    rw [← ls_map (List.range (r * c)) (fun k => F (k / c) (k % c)) (fun x => x), ← rg_flat F c r, ls_flat]
    exact ls_congr fun i _ => ls_map _ _ _
  have e3 : (ls (List.range r) fun i => ls (List.range c) fun j => F i j) = sm fun i => sm fun j => G i j := by
    have a : ∀ (m : Nat) (f : Nat → Fin p), ls (List.range m) f = sm fun i : Fin m => f i.val := fun m f => by
      rw [← ls_map (List.range m) f (fun x => x), ← fr_rg (n := m), ls_map]
      rfl
    rw [a]
    refine sm_congr fun i => ?_
    rw [a]
    exact sm_congr fun j => hF i j
  rw [e1, e2, e3]
/-- how often each number of a carrier goes into a place -/
def dm (A : Mt p r r) (B : Mt p c c) (i : Fin r) (j : Fin c) : Vc p (r * c) := fun q => (if q.val % c = j.val then A i ⟨q.val / c, div_lt' q.isLt⟩ else 0) - if q.val / c = i.val then B ⟨q.val % c, mod_lt' q.isLt⟩ j else 0
theorem dot_dm (A : Mt p r r) (B : Mt p c c) (i : Fin r) (j : Fin c) (X : Mt p r c) : dot (dm A B i j) (flat X) = mm A X i j - mm X B i j := by
  have e1 : dot (dm A B i j) (flat X) = sm fun q : Fin (r * c) => (fun (a : Fin r) (b : Fin c) => ((if b = j then A i a else 0) - if a = i then B b j else 0) * X a b) ⟨q.val / c, div_lt' q.isLt⟩ ⟨q.val % c, mod_lt' q.isLt⟩ := sm_congr fun q => by
    show ((if q.val % c = j.val then _ else _) - if q.val / c = i.val then _ else _) * X _ _ = ((if (⟨q.val % c, _⟩ : Fin c) = j then _ else _) - if (⟨q.val / c, _⟩ : Fin r) = i then _ else _) * X _ _
    simp only [Fin.ext_iff]
  refine e1.trans ((sm_flat fun (a : Fin r) (b : Fin c) => ((if b = j then A i a else 0) - if a = i then B b j else 0) * X a b).trans ?_)
  have e2 : ∀ a, (sm fun b => ((if b = j then A i a else 0) - if a = i then B b j else 0) * X a b) = A i a * X a j - if a = i then sm fun b => X a b * B b j else 0 := fun a => by
    have : (sm fun b => ((if b = j then A i a else 0) - if a = i then B b j else 0) * X a b) = (sm fun b => if b = j then A i a * X a b else 0) - sm fun b => if a = i then X a b * B b j else 0 := by
      rw [← sm_sub]
      exact sm_congr fun b => by split <;> split <;> grind
    rw [this, sm_one]
    congr 1
    split
    · rfl
    · exact sm_zero
  rw [sm_congr e2, sm_sub]
  congr 1
  have : (sm fun a => if a = i then sm fun b => X a b * B b j else 0) = sm fun b => X i b * B b j := sm_one i fun a => sm fun b => X a b * B b j
  rw [this]
  rfl
def dms (A : Mt p r r) (B : Mt p c c) : List (Vc p (r * c)) := (fr r).flatMap fun i => (fr c).map fun j => dm A B i j
theorem nul_dms (A : Mt p r r) (B : Mt p c c) (X : Mt p r c) : nul (dms A B) (flat X) ↔ mm A X = mm X B := by
  unfold nul dms
  constructor
  · intro h
    funext i j
    have := h (dm A B i j) (List.mem_flatMap.mpr ⟨i, fr_mem i, List.mem_map.mpr ⟨j, fr_mem j, rfl⟩⟩)
    rw [dot_dm] at this
    grind
  · intro h o ho
    obtain ⟨i, _, ho⟩ := List.mem_flatMap.mp ho
    obtain ⟨j, _, rfl⟩ := List.mem_map.mp ho
    rw [dot_dm, h]
    grind
theorem dms_len (A : Mt p r r) (B : Mt p c c) : (dms A B).length = r * c := by
  have h : ∀ xs : List (Fin r), (xs.flatMap fun i => (fr c).map fun j => dm A B i j).length = xs.length * c := by
    intro xs
    induction xs with
    | nil => simp
    | cons x xs ih => rw [List.flatMap_cons, List.length_append, ih, List.length_map, fr_len, List.length_cons, Nat.succ_mul, Nat.add_comm]
  unfold dms
  rw [h, fr_len]
/-- all that carry each of some pairs -/
def CC (ps : List (Mt p r r × Mt p c c)) : List (Vc p (r * c)) := nu (ps.flatMap fun P => dms P.1 P.2)
theorem cc_rr (ps : List (Mt p r r × Mt p c c)) : RR (CC ps) := nu_rr _
theorem cc_spn (ps : List (Mt p r r × Mt p c c)) (X : Mt p r c) : spn (CC ps) (flat X) ↔ ∀ P ∈ ps, mm P.1 X = mm X P.2 := by
  unfold CC
  rw [spn_nu]
  constructor
  · intro h P hP
    exact (nul_dms P.1 P.2 X).mp fun o ho => h o (List.mem_flatMap.mpr ⟨P, hP, ho⟩)
  · intro h o ho
    obtain ⟨P, hP, ho⟩ := List.mem_flatMap.mp ho
    exact (nul_dms P.1 P.2 X).mpr (h P hP) o ho
theorem cc_mem {ps : List (Mt p r r × Mt p c c)} {v : Vc p (r * c)} (h : v ∈ CC ps) {P : Mt p r r × Mt p c c} (hP : P ∈ ps) : mm P.1 (unf v) = mm (unf v) P.2 := by
  have := (cc_spn ps (unf v)).mp (by rw [flat_unf]; exact spn_mem h)
  exact this P hP
/-- what carries one into another -/
abbrev C1 (A : Mt p r r) (B : Mt p c c) : List (Vc p (r * c)) := CC [(A, B)]
theorem c1_spn (A : Mt p r r) (B : Mt p c c) (X : Mt p r c) : spn (C1 A B) (flat X) ↔ mm A X = mm X B := (cc_spn _ _).trans ⟨fun h => h _ List.mem_cons_self, fun h P hP => by rw [List.mem_singleton.mp hP]; exact h⟩
theorem cc_n (ps : List (Mt p r r × Mt p c c)) : (CC ps).length ≤ r * c := by
  have := nu_len (ps.flatMap fun P => dms P.1 P.2)
  unfold CC
  omega
/-- linear ways between such -/
theorem spn_lin {n m : Nat} {φ : Vc p n → Vc p m} (h : ∀ x v w, φ (fun i => v i + x * w i) = fun i => φ v i + x * φ w i) (h0 : φ vz = vz) {L : List (Vc p n)} {v : Vc p n} (hv : spn L v) : spn (L.map φ) (φ v) := by
  have hS : Sb fun v => spn (L.map φ) (φ v) := ⟨by
    show spn _ (φ vz)
    rw [h0]
    exact (spn_sb _).z, fun x v w hv hw => by
    show spn _ (φ _)
    rw [h]
    exact (spn_sb _).lc x _ _ hv hw⟩
  exact spn_le hS (fun o ho => spn_mem (List.mem_map.mpr ⟨o, ho, rfl⟩)) hv
theorem cc_le {r2 c2 : Nat} {ps : List (Mt p r r × Mt p c c)} {qs : List (Mt p r2 r2 × Mt p c2 c2)} (f : Mt p r c → Mt p r2 c2) (hf : ∀ x X Y, f (ma X (ms x Y)) = ma (f X) (ms x (f Y))) (hf0 : f m0 = m0)
    (h : ∀ Y, (∀ P ∈ qs, mm P.1 Y = mm Y P.2) → ∃ X, (∀ P ∈ ps, mm P.1 X = mm X P.2) ∧ f X = Y) : (CC qs).length ≤ (CC ps).length := by
  let φ : Vc p (r * c) → Vc p (r2 * c2) := fun v => flat (f (unf v))
  have hl : ∀ x v w, φ (fun i => v i + x * w i) = fun i => φ v i + x * φ w i := fun x v w => by
    show flat (f (ma (unf v) (ms x (unf w)))) = _
    rw [hf]
    rfl
  have h0 : φ vz = vz := by
    show flat (f m0) = _
    rw [hf0]
    rfl
  have e : (CC qs).length = rk (CC qs) := by unfold rk; rw [red_of (cc_rr qs)]
  rw [e]
  have := rk_len (L := CC qs) (M := (CC ps).map φ) fun v hv => by
    obtain ⟨X, hX, hXY⟩ := h (unf v) ((cc_spn qs (unf v)).mp (by rw [flat_unf]; exact hv))
    have h1 := spn_lin hl h0 ((cc_spn ps X).mpr hX)
    have h2 : φ (flat X) = v := by
      show flat (f (unf (flat X))) = v
      rw [unf_flat, hXY, flat_unf]
    rwa [h2] at h1
  rwa [List.length_map] at this
theorem cc_eq {ps qs : List (Mt p r r × Mt p c c)} (h : ∀ X, (∀ P ∈ ps, mm P.1 X = mm X P.2) ↔ ∀ P ∈ qs, mm P.1 X = mm X P.2) : CC ps = CC qs := (cc_rr ps).uniq (cc_rr qs) fun v => by
  rw [← flat_unf v, cc_spn, cc_spn]
  exact h _
theorem mt_ma {r c : Nat} (X Y : Mt p r c) (x : Fin p) : mt (ma X (ms x Y)) = ma (mt X) (ms x (mt Y)) := rfl
theorem c1_turn (A : Mt p r r) (B : Mt p c c) : (C1 (mt B) (mt A)).length = (C1 A B).length := by
  have one : ∀ {r c : Nat} {A : Mt p r r} {B : Mt p c c} {X : Mt p r c}, mm A X = mm X B → mm (mt B) (mt X) = mm (mt X) (mt A) := fun h => by rw [← mt_mm, ← mt_mm, h]
  refine Nat.le_antisymm (cc_le mt (fun _ _ _ => rfl) rfl fun Y hY => ⟨mt Y, fun P hP => ?_, rfl⟩) (cc_le mt (fun _ _ _ => rfl) rfl fun Y hY => ⟨mt Y, fun P hP => ?_, rfl⟩)
  · rw [List.mem_singleton.mp hP]
    exact one (hY _ List.mem_cons_self)
  · rw [List.mem_singleton.mp hP]
    exact one (hY _ List.mem_cons_self)
/-- as many into one alike -/
theorem c1_alike (A : Mt p r r) (B : Mt p c c) {P Q : Mt p c c} (h : mm Q P = m1) : (C1 A (mm (mm Q B) P)).length = (C1 A B).length := by
  have h2 := un_two h
  refine Nat.le_antisymm (cc_le (fun X => mm X P) (fun x X Y => by rw [mm_addl, mm_sl]) ?_ fun Y hY => ⟨mm Y Q, fun R hR => ?_, ?_⟩) (cc_le (fun X => mm X Q) (fun x X Y => by rw [mm_addl, mm_sl]) ?_ fun Y hY => ⟨mm Y P, fun R hR => ?_, ?_⟩)
  · funext i j
    exact (sm_congr fun l => (by show (0 : Fin p) * P l j = 0; grind)).trans sm_zero
  · rw [List.mem_singleton.mp hR]
    have := hY _ List.mem_cons_self
    show mm A (mm Y Q) = mm (mm Y Q) B
    rw [← mm_assoc, this]
    rw [mm_assoc Y, mm_assoc (mm Q B), h2, mm_1, mm_assoc]
  · show mm (mm Y Q) P = Y
    rw [mm_assoc, h, mm_1]
  · funext i j
    exact (sm_congr fun l => (by show (0 : Fin p) * Q l j = 0; grind)).trans sm_zero
  · rw [List.mem_singleton.mp hR]
    have := hY _ List.mem_cons_self
    show mm A (mm Y P) = mm (mm Y P) (mm (mm Q B) P)
    rw [← mm_assoc, this, mm_assoc Y P, mm_assoc Q B P, ← mm_assoc P Q, h2, m1_m, mm_assoc]
  · show mm (mm Y P) Q = Y
    rw [mm_assoc, h2, mm_1]
/-! as many the other way round -/
theorem rkm_sel {a b a2 b2 : Nat} {A : Mt p a b} {A' : Mt p a2 b2} (f : Fin a2 → Fin a) (g : Fin b2 → Fin b) (h : ∀ i j, A' i j = A (f i) (g j)) : rkm A' ≤ rkm A := by
  let T : Mt p b b2 := fun i j => if i = g j then 1 else 0
  have e : A' = fun i => (mm A T) (f i) := by
    funext i j
    rw [h]
    show A (f i) (g j) = sm fun l => A (f i) l * if l = g j then 1 else 0
    rw [← sm_one (g j) fun l => A (f i) l]
    exact sm_congr fun l => by split <;> grind
  rw [e]
  refine Nat.le_trans (rkm_mem (B := mm A T) fun i => spn_mem (rws_mem.mpr ⟨f i, rfl⟩)) (rkm_mul_l A T)
def dmm (A : Mt p r r) (B : Mt p c c) : Mt p (r * c) (r * c) := fun q => dm A B ⟨q.val / c, div_lt' q.isLt⟩ ⟨q.val % c, mod_lt' q.isLt⟩
theorem rws_dmm (A : Mt p r r) (B : Mt p c c) (v : Vc p (r * c)) : spn (rws (dmm A B)) v ↔ spn (dms A B) v := by
  constructor
  · refine spn_mono fun o ho => ?_
    obtain ⟨q, rfl⟩ := rws_mem.mp ho
    exact spn_mem (List.mem_flatMap.mpr ⟨_, fr_mem _, List.mem_map.mpr ⟨_, fr_mem _, rfl⟩⟩)
  · refine spn_mono fun o ho => ?_
    obtain ⟨i, _, ho⟩ := List.mem_flatMap.mp ho
    obtain ⟨j, _, rfl⟩ := List.mem_map.mp ho
    refine spn_mem (rws_mem.mpr ⟨⟨i.val * c + j.val, at_lt i.isLt j.isLt⟩, ?_⟩)
    show dm A B ⟨(i.val * c + j.val) / c, _⟩ ⟨(i.val * c + j.val) % c, _⟩ = dm A B i j
    have hj := j.isLt
    congr 1
    · exact Fin.ext (by show (i.val * c + j.val) / c = i.val; rw [Nat.mul_comm, Nat.mul_add_div (by omega), Nat.div_eq_of_lt hj, Nat.add_zero])
    · exact Fin.ext (by show (i.val * c + j.val) % c = j.val; rw [Nat.mul_comm, Nat.mul_add_mod, Nat.mod_eq_of_lt hj])
theorem c1_len (A : Mt p r r) (B : Mt p c c) : (C1 A B).length + rkm (dmm A B) = r * c := by
  have := nu_len ([(A, B)].flatMap fun P => dms P.1 P.2)
  have e : rk ([(A, B)].flatMap fun P => dms P.1 P.2) = rkm (dmm A B) := rk_eq fun v => by
    rw [rws_dmm]
    simp
  rw [e] at this
  exact this
def sw (q : Fin (c * r)) : Fin (r * c) := ⟨q.val % r * c + q.val / r, at_lt (mod_lt' q.isLt) (div_lt' q.isLt)⟩
theorem sw_div (q : Fin (c * r)) : (sw q).val / c = q.val % r := by
  have h : q.val / r < c := div_lt' q.isLt
  have hc : 0 < c := Nat.lt_of_le_of_lt (Nat.zero_le _) h
  show (q.val % r * c + q.val / r) / c = _
  rw [Nat.mul_comm, Nat.mul_add_div hc, Nat.div_eq_of_lt h, Nat.add_zero]
theorem sw_mod (q : Fin (c * r)) : (sw q).val % c = q.val / r := by
  have h : q.val / r < c := div_lt' q.isLt
  show (q.val % r * c + q.val / r) % c = _
  rw [Nat.mul_comm, Nat.mul_add_mod, Nat.mod_eq_of_lt h]
theorem rk_back (A : Mt p r r) (B : Mt p c c) : rkm (dmm B A) ≤ rkm (dmm A B) := by
  rw [← rkm_t (dmm A B), ← rkm_s (x := -1) (fun e => z1 (p := p) (by grind)) (mt (dmm A B))]
  refine rkm_sel sw sw fun i j => ?_
  show (if j.val % r = i.val % r then B ⟨i.val / r, _⟩ ⟨j.val / r, _⟩ else 0) - (if j.val / r = i.val / r then A ⟨j.val % r, _⟩ ⟨i.val % r, _⟩ else 0) =
    -1 * ((if (sw i).val % c = (sw j).val % c then A ⟨(sw j).val / c, _⟩ ⟨(sw i).val / c, _⟩ else 0) - if (sw i).val / c = (sw j).val / c then B ⟨(sw i).val % c, _⟩ ⟨(sw j).val % c, _⟩ else 0)
  simp only [sw_div, sw_mod]
  by_cases h1 : j.val % r = i.val % r <;> by_cases h2 : j.val / r = i.val / r <;> simp only [h1, h2, eq_comm, if_true, if_false] <;> grind
theorem c1_back (A : Mt p r r) (B : Mt p c c) : (C1 A B).length = (C1 B A).length := by
  have h1 := c1_len A B
  have h2 := c1_len B A
  have h3 := rk_back A B
  have h4 := rk_back B A
  have h2 := h2.trans (Nat.mul_comm c r)
  omega
end
end Dz

/-! La9: what comes of some X, what bars it. -/
namespace Dz
section
variable {p : Nat} [Pr p] {n : Nat}
theorem spn_of_len {L M : List (Vc p n)} (hL : RF L) (hM : RF M) (h : ∀ v, spn L v → spn M v) (hl : M.length ≤ L.length) : ∀ v, spn M v → spn L v := by
  have hs : ∀ x ∈ L.map fo, x ∈ M.map fo := fun x hx => by
    obtain ⟨o, ho, rfl⟩ := List.mem_map.mp hx
    obtain ⟨i, hi⟩ := hL.ld o ho
    exact hM.fo_mem (h o (spn_mem ho)) (by rw [hi.fo]; exact i.isLt)
  have hb : ∀ x ∈ M.map fo, x ∈ L.map fo := fun x hx => Classical.byContradiction fun hn => by
    have := nd_le (l := x :: L.map fo) (m := M.map fo) (List.nodup_cons.mpr ⟨hn, hL.fo_nd⟩) fun y hy => by
      rcases List.mem_cons.mp hy with rfl | hy
      · exact hx
      · exact hs y hy
    simp at this
    omega
  intro v hv
  have e1 : spn L fun i => v i - rdc L v i := rdc_spn
  have e2 : spn M (rdc L v) := by
    have := (spn_sb M).sub hv (h _ e1) 1
    have e : (fun i => v i - 1 * (v i - rdc L v i)) = rdc L v := by funext i; grind
    rwa [e] at this
  have hw : rdc L v = vz := fo_z fun hf => by
    obtain ⟨o, ho, e⟩ := List.mem_map.mp (hb _ (hM.fo_mem e2 hf))
    obtain ⟨i, hi⟩ := hL.ld o ho
    obtain ⟨k, hk, h1, _⟩ := fo_lt hf
    have : i = k := Fin.ext (by rw [← hi.fo, e, hk])
    subst this
    exact h1 (rdc_z hL o ho i hi)
  rw [hw] at e1
  have e : (fun i => v i - (vz : Vc p n) i) = v := by funext i; show v i - 0 = v i; grind
  rwa [e] at e1
/-- what is nought with all that is nought with some rows comes of these -/
theorem dbl {L : List (Vc p n)} {v : Vc p n} (h : ∀ w, nul L w → dot v w = 0) : spn L v := by
  have h1 := nu_len L
  have h2 := nu_len (nu L)
  have h3 : rk (nu L) = (nu L).length := by unfold rk; rw [red_of (nu_rr L)]
  have h4 : ∀ u ∈ nu L, nul L u := fun u hu => (spn_nu L u).mp (spn_mem hu)
  have := spn_of_len (L := red L) (M := nu (nu L)) (red_rr L).rf (nu_rr _).rf (fun x hx => (spn_nu _ x).mpr fun u hu => by
    rw [dot_comm]
    exact nul_spn (h4 u hu) ((red_spn L x).mp hx)) (by
      show (nu (nu L)).length ≤ rk L
      omega) v ((spn_nu _ v).mpr fun u hu => by rw [dot_comm]; exact h u (h4 u hu))
  exact (red_spn L v).mp this
end
section
variable {p : Nat} [Pr p] {r c : Nat}
def tr {n : Nat} (A : Mt p n n) : Fin p := sm fun i => A i i
def lf (A : Mt p r r) (B : Mt p c c) (X : Mt p r c) : Mt p r c := fun i j => mm A X i j - mm X B i j
theorem lf_0 (A : Mt p r r) (B : Mt p c c) (X : Mt p r c) : lf A B X = m0 ↔ mm A X = mm X B := by
  constructor
  · intro h
    funext i j
    have : mm A X i j - mm X B i j = 0 := congrFun (congrFun h i) j
    grind
  · intro h
    funext i j
    show mm A X i j - mm X B i j = 0
    rw [h]
    grind
theorem lf_add (A : Mt p r r) (B : Mt p c c) (x : Fin p) (X Y : Mt p r c) : lf A B (ma X (ms x Y)) = ma (lf A B X) (ms x (lf A B Y)) := by
  funext i j
  show mm A (ma X (ms x Y)) i j - mm (ma X (ms x Y)) B i j = (mm A X i j - mm X B i j) + x * (mm A Y i j - mm Y B i j)
  rw [mm_addr, mm_addl, mm_sr, mm_sl]
  show (mm A X i j + x * mm A Y i j) - (mm X B i j + x * mm Y B i j) = _
  grind
theorem tr_dot (Y : Mt p c r) (Z : Mt p r c) : dot (flat (mt Y)) (flat Z) = tr (mm Y Z) := by
  show (sm fun q : Fin (r * c) => Y ⟨q.val % c, _⟩ ⟨q.val / c, _⟩ * Z ⟨q.val / c, _⟩ ⟨q.val % c, _⟩) = sm fun j => sm fun i => Y j i * Z i j
  rw [sm_flat (fun i j => Y j i * Z i j), sm_swap]
theorem tr_comm (Y : Mt p c r) (Z : Mt p r c) : tr (mm Y Z) = tr (mm Z Y) := by
  show (sm fun j => sm fun i => Y j i * Z i j) = sm fun i => sm fun j => Z i j * Y j i
  rw [sm_swap]
  exact sm_congr fun i => sm_congr fun j => by grind
theorem tr_sub (A B : Mt p c c) : (tr fun i j => A i j - B i j) = tr A - tr B := sm_sub _ _
theorem mm_subr {a b d : Nat} (A : Mt p a b) (B C : Mt p b d) : (mm A fun i j => B i j - C i j) = fun i j => mm A B i j - mm A C i j := by
  funext i j
  show (sm fun l => A i l * (B l j - C l j)) = (sm fun l => A i l * B l j) - sm fun l => A i l * C l j
  rw [← sm_sub]
  exact sm_congr fun l => by grind
theorem mm_subl {a b d : Nat} (A B : Mt p a b) (C : Mt p b d) : mm (fun i j => A i j - B i j) C = fun i j => mm A C i j - mm B C i j := by
  funext i j
  show (sm fun l => (A i l - B i l) * C l j) = (sm fun l => A i l * C l j) - sm fun l => B i l * C l j
  rw [← sm_sub]
  exact sm_congr fun l => by grind
theorem tr_lf (A : Mt p r r) (B : Mt p c c) (X : Mt p r c) (Y : Mt p c r) : tr (mm Y (lf A B X)) = tr (mm (lf B A Y) X) * (-1) := by
  have e1 : mm Y (lf A B X) = fun i j => mm Y (mm A X) i j - mm Y (mm X B) i j := mm_subr _ _ _
  have e2 : mm (lf B A Y) X = fun i j => mm (mm B Y) X i j - mm (mm Y A) X i j := mm_subl _ _ _
  rw [e1, e2, tr_sub, tr_sub, ← mm_assoc Y A X, ← mm_assoc Y X B, tr_comm (mm Y X) B, mm_assoc B Y X]
  grind
/-- what comes of some x is not barred -/
theorem no_bar {A : Mt p r r} {B : Mt p c c} {X : Mt p r c} {Y : Mt p c r} (h : mm B Y = mm Y A) : tr (mm Y (lf A B X)) = 0 := by
  rw [tr_lf, (lf_0 B A Y).mpr h]
  have e : mm (m0 : Mt p c r) X = m0 := by
    funext i j
    exact (sm_congr fun l => (by show (0 : Fin p) * X l j = 0; grind)).trans sm_zero
  rw [e]
  have : tr (m0 : Mt p c c) = 0 := sm_zero
  rw [this]
  grind
theorem eu_dot {n : Nat} (k : Fin n) (v : Vc p n) : dot ((m1 : Mt p n n) k) v = v k := by
  show (sm fun i => (if k = i then 1 else 0) * v i) = v k
  rw [← sm_one' k v]
  exact sm_congr fun i => by split <;> grind
theorem vm_dmm (A : Mt p r r) (B : Mt p c c) (x : Vc p (r * c)) : vm x (mt (dmm A B)) = flat (lf A B (unf x)) := by
  funext q
  show (sm fun k => x k * dmm A B q k) = _
  have : (sm fun k => x k * dmm A B q k) = dot (dm A B ⟨q.val / c, div_lt' q.isLt⟩ ⟨q.val % c, mod_lt' q.isLt⟩) (flat (unf x)) := by
    rw [flat_unf, dot_comm]
    rfl
  rw [this, dot_dm]
  rfl
theorem spn_lf (A : Mt p r r) (B : Mt p c c) (C : Mt p r c) : spn (rws (mt (dmm A B))) (flat C) ↔ ∃ X, lf A B X = C := by
  rw [spn_rws]
  constructor
  · rintro ⟨x, h⟩
    rw [vm_dmm] at h
    exact ⟨unf x, by rw [← unf_flat C, h, unf_flat]⟩
  · rintro ⟨X, h⟩
    exact ⟨flat X, by rw [vm_dmm, unf_flat, h]⟩
/-- what no bar bars comes -/
theorem comes {A : Mt p r r} {B : Mt p c c} {C : Mt p r c} (h : ∀ Y, mm B Y = mm Y A → tr (mm Y C) = 0) : ∃ X, lf A B X = C := by
  refine (spn_lf A B C).mp (dbl fun w hw => ?_)
  let Y : Mt p c r := mt (unf w)
  have hY : flat (mt Y) = w := flat_unf w
  have hx : ∀ X, tr (mm Y (lf A B X)) = 0 := fun X => by
    rw [← tr_dot, hY, dot_comm]
    have := (spn_lf A B (lf A B X)).mpr ⟨X, rfl⟩
    exact nul_spn hw this
  have h0 : lf B A Y = m0 := by
    funext j i
    have h1 := hx fun i' j' => if i' = i then (if j' = j then 1 else 0) else 0
    rw [tr_lf] at h1
    have h2 : tr (mm (lf B A Y) fun i' j' => if i' = i then (if j' = j then (1 : Fin p) else 0) else 0) = lf B A Y j i := by
      show (sm fun a => sm fun b => lf B A Y a b * (if b = i then (if a = j then 1 else 0) else 0)) = _
      rw [← sm_one j fun a => lf B A Y a i]
      refine sm_congr fun a => ?_
      have : (sm fun b => lf B A Y a b * (if b = i then (if a = j then 1 else 0) else 0)) = sm fun b => if b = i then lf B A Y a b * (if a = j then 1 else 0) else 0 := sm_congr fun b => by split <;> grind
      rw [this, sm_one i fun b => lf B A Y a b * (if a = j then 1 else 0)]
      split <;> grind
    rw [h2] at h1
    show lf B A Y j i = 0
    grind
  have := h Y ((lf_0 B A Y).mp h0)
  rw [← tr_dot, hY, dot_comm] at this
  exact this
/-! rows with one more number -/
def sv1 (t : Fin p) : Vc p 1 := fun _ => t
def ags (A : Mt p r r) (B : Mt p c c) (C : Mt p r c) : List (Vc p (r * c + 1)) := (fr r).flatMap fun i => (fr c).map fun j => hc (dm A B i j) (sv1 (- C i j))
theorem sm_snoc {n : Nat} (f : Fin (n + 1) → Fin p) : sm f = (sm fun i : Fin n => f i.castSucc) + f (Fin.last n) := by
  unfold sm fr
  rw [List.finRange_succ_last, List.foldr_append, List.foldr_map]
  have : ∀ (xs : List (Fin n)) (a : Fin p), xs.foldr (fun i b => f i.castSucc + b) a = xs.foldr (fun i b => f i.castSucc + b) 0 + a := by
    intro xs a
    induction xs with
    | nil => simp only [List.foldr_nil]; grind
    | cons x xs ih => simp only [List.foldr_cons, ih]; grind
  rw [this]
  simp only [List.foldr_cons, List.foldr_nil]
  grind
theorem dot_hc {n : Nat} (v w : Vc p n) (s t : Fin p) : dot (hc v (sv1 s)) (hc w (sv1 t)) = dot v w + s * t := by
  unfold dot
  rw [sm_snoc]
  have e1 : ∀ i : Fin n, hc v (sv1 s) i.castSucc * hc w (sv1 t) i.castSucc = v i * w i := fun i => by
    unfold hc
    rw [dif_pos (show i.castSucc.val < n from i.isLt), dif_pos (show i.castSucc.val < n from i.isLt)]
    rfl
  have e2 : ∀ (u : Vc p n) (x : Fin p), hc u (sv1 x) (Fin.last n) = x := fun u x => by
    unfold hc
    rw [dif_neg (show ¬ (Fin.last n).val < n from Nat.lt_irrefl n)]
    rfl
  rw [sm_congr e1, e2, e2]
theorem hc_last {n : Nat} (u : Vc p n) (x : Fin p) : hc u (sv1 x) (Fin.last n) = x := by
  unfold hc
  rw [dif_neg (show ¬ (Fin.last n).val < n from Nat.lt_irrefl n)]
  rfl
theorem hc_split {n : Nat} (w : Vc p (n + 1)) : w = hc (fl' w) (sv1 (w (Fin.last n))) := by
  funext i
  unfold hc
  by_cases h : i.val < n
  · rw [dif_pos h]; rfl
  · rw [dif_neg h]
    have : i = Fin.last n := Fin.ext (by have := i.isLt; simp; omega)
    exact congrArg w this
theorem nul_ags (A : Mt p r r) (B : Mt p c c) (C X : Mt p r c) (t : Fin p) : nul (ags A B C) (hc (flat X) (sv1 t)) ↔ lf A B X = ms t C := by
  constructor
  · intro h
    funext i j
    have := h (hc (dm A B i j) (sv1 (- C i j))) (List.mem_flatMap.mpr ⟨i, fr_mem i, List.mem_map.mpr ⟨j, fr_mem j, rfl⟩⟩)
    rw [dot_hc, dot_dm] at this
    show mm A X i j - mm X B i j = t * C i j
    grind
  · intro h o ho
    obtain ⟨i, _, ho⟩ := List.mem_flatMap.mp ho
    obtain ⟨j, _, rfl⟩ := List.mem_map.mp ho
    rw [dot_hc, dot_dm]
    have : mm A X i j - mm X B i j = t * C i j := congrFun (congrFun h i) j
    rw [this]
    grind
theorem ags_none {A : Mt p r r} {B : Mt p c c} {C : Mt p r c} (h : ∀ w ∈ nu (ags A B C), w (Fin.last _) = 0) (X : Mt p r c) : lf A B X ≠ C := fun e => by
  have h1 := (nul_ags A B C X 1).mpr (by rw [ms_1]; exact e)
  have h2 := (spn_nu _ _).mpr h1
  have hS : Sb fun v : Vc p (r * c + 1) => v (Fin.last _) = 0 := ⟨rfl, fun x v w hv hw => by
    show v (Fin.last _) + x * w (Fin.last _) = 0
    rw [hv, hw]
    grind⟩
  have h3 := spn_le hS h h2
  rw [hc_last] at h3
  exact z1 h3.symm
theorem ags_some {A : Mt p r r} {B : Mt p c c} {C : Mt p r c} {w : Vc p (r * c + 1)} (h : w ∈ nu (ags A B C)) {x : Fin p} (hx : x * w (Fin.last _) = 1) : lf A B (ms x (unf (fl' w))) = C := by
  have h1 := (spn_nu _ _).mp (spn_mem h)
  rw [hc_split w, ← flat_unf (fl' w), nul_ags] at h1
  have e := lf_add A B x m0 (unf (fl' w))
  have e0 : ∀ Z : Mt p r c, ma m0 Z = Z := fun Z => by funext i j; show 0 + Z i j = Z i j; grind
  rw [e0, h1, (lf_0 A B m0).mpr (by
    have a1 : mm A (m0 : Mt p r c) = m0 := by funext i j; exact (sm_congr fun l => (by show A i l * (0 : Fin p) = 0; grind)).trans sm_zero
    have a2 : mm (m0 : Mt p r c) B = m0 := by funext i j; exact (sm_congr fun l => (by show (0 : Fin p) * B l j = 0; grind)).trans sm_zero
    rw [a1, a2]), e0, ms_ms, hx, ms_1] at e
  exact e
end
end Dz

/-! La10: places of what carries; the order of tables. -/
namespace Dz
/-- the place of one that carries -/
def dig {p n : Nat} [Pr p] (z : Vc p n) (L : List (Vc p n)) : Nat := L.foldl (fun s o => s * p + (at' z (fo o)).val) 0
theorem dig_app {p n : Nat} [Pr p] (z : Vc p n) (L : List (Vc p n)) (o : Vc p n) : dig z (L ++ [o]) = dig z L * p + (at' z (fo o)).val := by
  unfold dig
  rw [List.foldl_append]
  rfl
theorem rev_ind {α : Type} {P : List α → Prop} (h0 : P []) (h1 : ∀ L x, P L → P (L ++ [x])) (L : List α) : P L := by
  have : ∀ M : List α, P M.reverse := fun M => by
    induction M with
    | nil => exact h0
    | cons x M ih => rw [List.reverse_cons]; exact h1 _ _ ih
  have h := this L.reverse
  rwa [List.reverse_reverse] at h
theorem dig_lt {p n : Nat} [Pr p] (z : Vc p n) (L : List (Vc p n)) : dig z L < p ^ L.length := by
  refine rev_ind (P := fun L => dig z L < p ^ L.length) ?_ (fun L o ih => ?_) L
  · exact Nat.zero_lt_one
  · show dig z (L ++ [o]) < p ^ (L ++ [o]).length
    rw [dig_app, List.length_append]
    show _ < p ^ (L.length + 1)
    rw [Nat.pow_succ]
    have h1 := (at' z (fo o)).isLt
    have h2 : (dig z L + 1) * p ≤ p ^ L.length * p := Nat.mul_le_mul_right p ih
    rw [Nat.succ_mul] at h2
    omega
/-- read back -/
def und {p r c : Nat} [Pr p] (s : Mt p r c × Nat) (X : Mt p r c) : Mt p r c × Nat := (ma s.1 (ms (rs p (s.2 : Nat)) X), s.2 / p)
theorem und_dig {p r c : Nat} [Pr p] (z : Vc p (r * c)) (L : List (Vc p (r * c))) : ∀ f : Mt p r c, ((L.map unf).reverse.foldl und (f, dig z L)) = (ma f (unf fun k => ls L fun o => at' z (fo o) * o k), 0) := by
  have hp := Pr.le (p := p)
  refine rev_ind (P := fun L => ∀ f : Mt p r c, ((L.map unf).reverse.foldl und (f, dig z L)) = (ma f (unf fun k => ls L fun o => at' z (fo o) * o k), 0)) (fun f => ?_) (fun L o ih f => ?_) L
  · show (f, 0) = (ma f (unf fun k => 0), 0)
    congr 1
    funext i j
    show f i j = f i j + 0
    grind
  · rw [List.map_append, List.reverse_append, dig_app]
    show (L.map unf).reverse.foldl und (und (f, dig z L * p + (at' z (fo o)).val) (unf o)) = _
    have h1 : rs p ((dig z L * p + (at' z (fo o)).val : Nat) : Int) = at' z (fo o) := by
      have e : ((dig z L * p + (at' z (fo o)).val : Nat) : Int) = (dig z L : Int) * (p : Int) + ((at' z (fo o)).val : Int) := by rw [Int.natCast_add, Int.natCast_mul]
      have e1 : rs p ((p : Nat) : Int) = 0 := Fin.ext (by
        have := rs_val p ((p : Nat) : Int)
        rw [Int.emod_self] at this
        rw [zero_val]
        omega)
      rw [e, rs_add, rs_mul, e1, rs_v]
      grind
    have h2 : (dig z L * p + (at' z (fo o)).val) / p = dig z L := by
      rw [Nat.mul_comm, Nat.mul_add_div (by omega), Nat.div_eq_of_lt (at' z (fo o)).isLt, Nat.add_zero]
    have h3 : und (f, dig z L * p + (at' z (fo o)).val) (unf o) = (ma f (ms (at' z (fo o)) (unf o)), dig z L) := by
      show (ma f (ms (rs p ((dig z L * p + (at' z (fo o)).val : Nat) : Int)) (unf o)), (dig z L * p + (at' z (fo o)).val) / p) = _
      rw [h1, h2]
    rw [h3, ih]
    congr 1
    funext i j
    show (f i j + at' z (fo o) * unf o i j) + (ls L fun b => at' z (fo b) * b _) = f i j + ls (L ++ [o]) fun b => at' z (fo b) * b _
    rw [ls_app, ls_cons, ls_nil]
    show (f i j + at' z (fo o) * o _) + _ = _
    grind
theorem und_ok {p r c : Nat} [Pr p] {L : List (Vc p (r * c))} (h : RF L) {Z : Mt p r c} (hz : spn L (flat Z)) : ((L.map unf).reverse.foldl und (m0, dig (flat Z) L)) = (Z, 0) := by
  rw [und_dig]
  congr 1
  have e : (fun k => ls L fun o => at' (flat Z) (fo o) * o k) = flat Z := funext fun k => (h.at_pv hz k).symm
  rw [e, unf_flat]
  funext i j
  show 0 + Z i j = Z i j
  grind
section
variable {p n : Nat} [Pr p]
theorem RF.sub {L : List (Vc p n)} {o : Vc p n} (h : RF (L ++ [o])) : RF L := ⟨fun a ha => h.ld a (List.mem_append_left _ ha), (List.pairwise_append.mp h.dj).1⟩
theorem at_fo {o z : Vc p n} {i : Fin n} (h : Ld o i) : at' z (fo o) = z i := by rw [h.fo, at_v]
theorem dig_congr {L : List (Vc p n)} {z w : Vc p n} (h : ∀ o ∈ L, at' z (fo o) = at' w (fo o)) : dig z L = dig w L := by
  revert h
  refine rev_ind (P := fun L => (∀ o ∈ L, at' z (fo o) = at' w (fo o)) → dig z L = dig w L) (fun _ => rfl) (fun L o ih h => ?_) L
  rw [dig_app, dig_app, ih fun b hb => h b (List.mem_append_left _ hb), h o (by simp)]
/-- each place is one's -/
theorem dig_sur {L : List (Vc p n)} (h : RF L) (m : Nat) : ∃ z, spn L z ∧ dig z L = m % p ^ L.length := by
  have hp := Pr.le (p := p)
  revert h m
  refine rev_ind (P := fun L => RF L → ∀ m : Nat, ∃ z, spn L z ∧ dig z L = m % p ^ L.length) (fun _ m => ⟨vz, rfl, ?_⟩) (fun L o ih h m => ?_) L
  · show 0 = m % p ^ 0
    rw [Nat.pow_zero, Nat.mod_one]
  · obtain ⟨z, hz, e⟩ := ih h.sub (m / p)
    obtain ⟨i, hi⟩ := h.ld o (by simp)
    let c : Fin p := ⟨m % p, Nat.mod_lt _ (by omega)⟩
    have hoff : ∀ b ∈ L, ∀ j, Ld b j → o j = 0 ∧ b i = 0 := fun b hb j hj => ((List.pairwise_append.mp h.dj).2.2 b hb o (by simp) j i hj hi).symm
    refine ⟨fun k => z k + (c - z i) * o k, ?_, ?_⟩
    · have h1 : spn (L ++ [o]) z := spn_mono (fun b hb => spn_mem (List.mem_append_left _ hb)) hz
      exact (spn_sb _).lc _ _ _ h1 (spn_mem (by simp))
    · rw [dig_app, List.length_append]
      have e1 : dig (fun k => z k + (c - z i) * o k) L = dig z L := dig_congr fun b hb => by
        obtain ⟨j, hj⟩ := h.sub.ld b hb
        rw [at_fo hj, at_fo hj, (hoff b hb j hj).1]
        grind
      have e2 : at' (fun k => z k + (c - z i) * o k) (fo o) = c := by
        rw [at_fo hi, hi.1]
        grind
      rw [e1, e2, e]
      show m / p % p ^ L.length * p + m % p = m % p ^ (L.length + 1)
      rw [Nat.pow_succ, Nat.mul_comm (p ^ L.length) p, Nat.mod_mul, Nat.mul_comm p, Nat.add_comm]
/-- rows one less than another -/
def ltF (z w : Vc p n) : Prop := ∃ i : Fin n, z i < w i ∧ ∀ j, j < i → z j = w j
def dgo (a : Nat) (z : Vc p n) (L : List (Vc p n)) : Nat := L.foldl (fun s o => s * p + (at' z (fo o)).val) a
theorem dgo_lt (z w : Vc p n) : ∀ (L : List (Vc p n)) (a b : Nat), dgo a z L < dgo b w L → a < b ∨ (a = b ∧ ∃ l o r, L = l ++ o :: r ∧ at' z (fo o) < at' w (fo o) ∧ ∀ c ∈ l, at' z (fo c) = at' w (fo c))
  | [], a, b, h => .inl h
  | o :: L, a, b, h => by
    have hz := (at' z (fo o)).isLt
    have hw := (at' w (fo o)).isLt
    rcases dgo_lt z w L (a * p + (at' z (fo o)).val) (b * p + (at' w (fo o)).val) h with h1 | ⟨h1, l, c, r, rfl, h2, h3⟩
    · by_cases hab : a < b
      · exact .inl hab
      · have : a = b := by
          refine Classical.byContradiction fun hn => ?_
          have : b + 1 ≤ a := by omega
          have := Nat.mul_le_mul_right p this
          rw [Nat.succ_mul] at this
          omega
        subst this
        exact .inr ⟨rfl, [], o, L, rfl, by rw [Fin.lt_def]; omega, by simp⟩
    · by_cases hab : a < b
      · exact .inl hab
      · have : a = b := by
          refine Classical.byContradiction fun hn => ?_
          have : b + 1 ≤ a := by omega
          have := Nat.mul_le_mul_right p this
          rw [Nat.succ_mul] at this
          omega
        subst this
        exact .inr ⟨rfl, o :: l, c, r, rfl, h2, fun d hd => by
          rcases List.mem_cons.mp hd with rfl | hd
          · exact Fin.ext (by omega)
          · exact h3 d hd⟩
theorem dig_ltF {L : List (Vc p n)} (h : RR L) {z w : Vc p n} (hz : spn L z) (hw : spn L w) (hd : dig z L < dig w L) : ltF z w := by
  rcases dgo_lt z w L 0 0 hd with h1 | ⟨_, l, o, r, e, h2, h3⟩
  · exact absurd h1 (Nat.lt_irrefl 0)
  · obtain ⟨i, hi⟩ := h.ld o (by rw [e]; simp)
    rw [at_fo hi, at_fo hi] at h2
    refine ⟨i, h2, fun j hj => ?_⟩
    rw [h.rf.at_pv hz j, h.rf.at_pv hw j, e, ls_app, ls_app, ls_cons, ls_cons]
    have hu := h.up
    rw [e, List.pairwise_append] at hu
    have e1 : (ls l fun o => at' z (fo o) * o j) = ls l fun o => at' w (fo o) * o j := ls_congr fun c hc => by rw [h3 c hc]
    have e2 : o j = 0 := hi.2 j hj
    have e3 : ∀ v : Vc p n, (ls r fun o => at' v (fo o) * o j) = 0 := fun v => (ls_congr (g := fun _ => 0) fun c hc => by
      obtain ⟨k, hk⟩ := h.ld c (by rw [e]; exact List.mem_append_right _ (List.mem_cons_of_mem _ hc))
      have := ((List.pairwise_cons.mp hu.2.1).1 c hc i k hi hk).1
      rw [hk.2 j (Nat.lt_trans hj this)]
      grind).trans (ls_zero _)
    rw [e1, e2, e3, e3]
    grind
end
/-! the order of tables, as Python has it -/
theorem eqv_sh {d : PySem.PyData} {k : Nat} (h : Sh k d) : PySem.PyData.eqv d d = true := eqv_self d h.1
theorem rowLt_of {α : Type} {k : Nat} (f g : α → PySem.PyData) (hf : ∀ a, Sh k (f a)) (ha : ∀ a b, PySem.W.alike (f a) (g b) = true) : ∀ (l r : List α) (x : α), (∀ a ∈ l, f a = g a) → PySem.PyData.eqv (f x) (g x) = false → PySem.W.dataLt (f x) (g x) = true →
    PySem.W.rowLt ((l ++ x :: r).map f) ((l ++ x :: r).map g) = true
  | [], r, x, _, h1, h2 => by
    refine (PySem.W.dataLt_cons (ha x x) _ _).trans ?_
    rw [h1, if_neg (by simp), h2]
  | a :: l, r, x, h0, h1, h2 => by
    have e : PySem.PyData.eqv (f a) (g a) = true := by rw [← h0 a List.mem_cons_self]; exact eqv_sh (hf a)
    refine (PySem.W.dataLt_cons (ha a a) _ _).trans ?_
    rw [e, if_pos rfl]
    exact rowLt_of f g hf ha l r x (fun b hb => h0 b (List.mem_cons_of_mem _ hb)) h1 h2
theorem fr_split {n : Nat} (i : Fin n) : ∃ l r, fr n = l ++ i :: r ∧ ∀ j ∈ l, j < i := by
  obtain ⟨l, r, e⟩ := List.append_of_mem (fr_mem i)
  refine ⟨l, r, e, fun j hj => ?_⟩
  have := List.pairwise_lt_finRange n
  rw [show List.finRange n = l ++ i :: r from e, List.pairwise_append] at this
  exact this.2.2 j hj i List.mem_cons_self
section
variable {p : Nat} [Pr p]
theorem alike_R {n : Nat} (v w : Vc p n) : PySem.W.alike (eR v) (eR w) = true := by
  show PySem.W.alike (.tuple _) (.tuple _) = true
  rw [PySem.W.alike]
  generalize fr n = xs
  induction xs with
  | nil => simp [PySem.W.alikeAll]
  | cons x xs ih => rw [List.map_cons, List.map_cons, PySem.W.alikeAll, ih]; simp [PySem.W.alike]
theorem alike_T {r c : Nat} (A B : Mt p r c) : PySem.W.alike (eT A) (eT B) = true := by
  show PySem.W.alike (.tuple _) (.tuple _) = true
  rw [PySem.W.alike]
  generalize fr r = xs
  induction xs with
  | nil => simp [PySem.W.alikeAll]
  | cons x xs ih => rw [List.map_cons, List.map_cons, PySem.W.alikeAll, ih, alike_R]; rfl
theorem lt_R {n : Nat} {v w : Vc p n} (h : ltF v w) : PySem.W.dataLt (eR v) (eR w) = true := by
  obtain ⟨i, h1, h2⟩ := h
  obtain ⟨l, r, e, hl⟩ := fr_split i
  show PySem.W.dataLt (.tuple ((fr n).map fun i => eI (v i))) (.tuple ((fr n).map fun i => eI (w i))) = true
  rw [PySem.W.dataLt_tuple, e]
  refine rowLt_of (k := 0) _ _ (fun _ => sh_int _) (fun _ _ => by simp [PySem.W.alike]) l r i (fun a ha => by rw [h2 a (hl a ha)]) ?_ ?_
  · rw [eqv_I]
    exact decide_eq_false fun z => by rw [z] at h1; exact Nat.lt_irrefl _ h1
  · rw [PySem.W.dataLt_int]
    exact decide_eq_true (by have : (v i).val < (w i).val := h1; omega)
theorem lt_T {r c : Nat} {A B : Mt p r c} (h : ltF (flat A) (flat B)) : PySem.W.dataLt (eT A) (eT B) = true := by
  obtain ⟨q, h1, h2⟩ := h
  let i : Fin r := ⟨q.val / c, div_lt' q.isLt⟩
  let j : Fin c := ⟨q.val % c, mod_lt' q.isLt⟩
  have hq : ∀ (a : Fin r) (b : Fin c), a.val * c + b.val < q.val → A a b = B a b := fun a b hab => by
    have := h2 ⟨a.val * c + b.val, at_lt a.isLt b.isLt⟩ hab
    have e1 : unf (flat A) a b = unf (flat B) a b := this
    rwa [unf_flat, unf_flat] at e1
  have hqq : q.val = i.val * c + j.val := by
    show q.val = q.val / c * c + q.val % c
    exact (Nat.div_add_mod' q.val c).symm
  obtain ⟨l, s, e, hl⟩ := fr_split i
  show PySem.W.dataLt (.tuple ((fr r).map fun i => eR (A i))) (.tuple ((fr r).map fun i => eR (B i))) = true
  rw [PySem.W.dataLt_tuple, e]
  refine rowLt_of (k := 1) _ _ (fun _ => sh_R _) (fun _ _ => alike_R _ _) l s i (fun a ha => ?_) ?_ (lt_R ⟨j, h1, fun b hb => hq i b ?_⟩)
  · have : A a = B a := funext fun b => hq a b (by
      have h3 : a.val + 1 ≤ i.val := hl a ha
      have := Nat.mul_le_mul_right c h3
      rw [Nat.succ_mul] at this
      have := b.isLt
      omega)
    rw [this]
  · rw [eqv_R]
    refine decide_eq_false fun z => ?_
    have h3 : A i j < B i j := h1
    rw [z] at h3
    exact Nat.lt_irrefl _ h3
  · have : b.val < j.val := hb
    omega
theorem ltA_T {r c : Nat} {A B : Mt p r c} (h : ltF (flat A) (flat B)) : ltA (eT A) (eT B) = some (PySem.PyData.bool true) := by
  have h1 : cmpOk (eT A) (eT B) = true := by
    unfold cmpOk
    rw [sh_ok (sh_T A) (by decide), sh_ok (sh_T B) (by decide), alike_T]
    rfl
  unfold ltA
  rw [if_pos h1, lt_T h]
end
end Dz

/-! La11: sums of powers as lists of their numbers. -/
namespace Dz
section
variable {p : Nat} [Pr p]
abbrev Po (p : Nat) : Type := List (Fin p)
def co (l : Po p) (k : Nat) : Fin p := l.getD k 0
/-- the same sum, up to noughts at the end -/
def sam (l m : Po p) : Prop := ∀ k, co l k = co m k
theorem co_nil (k : Nat) : co ([] : Po p) k = 0 := by simp [co]
theorem co_z (c : Fin p) (l : Po p) : co (c :: l) 0 = c := by simp [co]
theorem co_s (c : Fin p) (l : Po p) (k : Nat) : co (c :: l) (k + 1) = co l k := by simp [co]
theorem co_ge {l : Po p} {k : Nat} (h : l.length ≤ k) : co l k = 0 := by simp [co, List.getD_eq_getElem?_getD, List.getElem?_eq_none h]
theorem sam.refl (l : Po p) : sam l l := fun _ => rfl
theorem sam.symm {l m : Po p} (h : sam l m) : sam m l := fun k => (h k).symm
theorem sam.trans {l m n : Po p} (h : sam l m) (g : sam m n) : sam l n := fun k => (h k).trans (g k)
theorem sam_cons {c d : Fin p} {l m : Po p} (h : c = d) (g : sam l m) : sam (c :: l) (d :: m) := fun k => by
  cases k with
  | zero => rw [co_z, co_z, h]
  | succ k => rw [co_s, co_s]; exact g k
theorem sam_inv {c d : Fin p} {l m : Po p} (h : sam (c :: l) (d :: m)) : c = d ∧ sam l m := ⟨by have := h 0; rwa [co_z, co_z] at this, fun k => by have := h (k + 1); rwa [co_s, co_s] at this⟩
/-! ### in the one form -/
/-- no nought at the end -/
def Nm (l : Po p) : Prop := ∀ x, l.getLast? = some x → x ≠ 0
def nm : Po p → Po p
  | [] => []
  | c :: l => if nm l = [] ∧ c = 0 then [] else c :: nm l
theorem nm_sam : ∀ l : Po p, sam (nm l) l
  | [] => sam.refl _
  | c :: l => by
    have ih := nm_sam l
    unfold nm
    split
    · rename_i h
      intro k
      rw [co_nil]
      cases k with
      | zero => rw [co_z, h.2]
      | succ k =>
        rw [co_s, ← ih k, h.1, co_nil]
    · exact sam_cons rfl ih
theorem nm_nm : ∀ l : Po p, Nm (nm l)
  | [] => fun x h => by cases h
  | c :: l => by
    have ih := nm_nm l
    unfold nm
    split
    · intro x h; cases h
    · rename_i h
      intro x hx
      cases hl : nm l with
      | nil =>
        rw [hl] at hx
        have : x = c := by simpa using hx.symm
        rw [this]
        exact fun z => h ⟨hl, z⟩
      | cons d m =>
        rw [hl] at hx
        refine ih x ?_
        rw [hl]
        simpa [List.getLast?_cons_cons] using hx
theorem Nm.last {l : Po p} (h : Nm l) (hl : l ≠ []) : co l (l.length - 1) ≠ 0 := by
  have e : l.getLast? = some (l.getLast hl) := List.getLast?_eq_some_getLast hl
  have : co l (l.length - 1) = l.getLast hl := by
    unfold co
    rw [List.getD_eq_getElem?_getD, ← List.getLast?_eq_getElem?, e]
    rfl
  rw [this]
  exact h _ e
theorem nm_len {l m : Po p} (hl : Nm l) (h : sam l m) : l.length ≤ m.length := by
  apply Classical.byContradiction
  intro hn
  have h0 : l ≠ [] := by rintro rfl; simp at hn
  have := hl.last h0
  rw [h (l.length - 1), co_ge (by omega)] at this
  exact this rfl
theorem nm_ext {l m : Po p} (hl : Nm l) (hm : Nm m) (h : sam l m) : l = m := by
  have e : l.length = m.length := Nat.le_antisymm (nm_len hl h) (nm_len hm h.symm)
  apply List.ext_getElem e
  intro i h1 h2
  have := h i
  unfold co at this
  rw [List.getD_eq_getElem?_getD, List.getD_eq_getElem?_getD, List.getElem?_eq_getElem h1, List.getElem?_eq_getElem h2] at this
  exact this
theorem nm_of {l m : Po p} (hm : Nm m) (h : sam l m) : nm l = m := nm_ext (nm_nm l) hm ((nm_sam l).trans h)
theorem nm_self {l : Po p} (h : Nm l) : nm l = l := nm_of h (sam.refl l)
theorem nm_eq {l m : Po p} (h : sam l m) : nm l = nm m := nm_of (nm_nm m) (h.trans (nm_sam m).symm)
theorem nm_le (l : Po p) : (nm l).length ≤ l.length := nm_len (nm_nm l) (nm_sam l)
theorem Nm.nil : Nm ([] : Po p) := fun x h => by cases h
theorem nm_zero {l : Po p} (h : ∀ k, co l k = 0) : nm l = [] := nm_of Nm.nil fun k => by rw [h, co_nil]
/-! ### sums and products -/
def pad : Po p → Po p → Po p
  | [], m => m
  | a :: l, [] => a :: l
  | a :: l, b :: m => (a + b) :: pad l m
def psm (c : Fin p) (l : Po p) : Po p := l.map (c * ·)
def pmu : Po p → Po p → Po p
  | [], _ => []
  | c :: l, m => pad (psm c m) (0 :: pmu l m)
theorem co_pad : ∀ (l m : Po p) (k : Nat), co (pad l m) k = co l k + co m k
  | [], m, k => by show co m k = _; rw [co_nil]; grind
  | a :: l, [], k => by show co (a :: l) k = _; rw [co_nil]; grind
  | a :: l, b :: m, k => by
    show co ((a + b) :: pad l m) k = _
    cases k with
    | zero => rw [co_z, co_z, co_z]
    | succ k => rw [co_s, co_s, co_s]; exact co_pad l m k
theorem co_psm (c : Fin p) : ∀ (l : Po p) (k : Nat), co (psm c l) k = c * co l k
  | [], k => by show co [] k = _; rw [co_nil]; grind
  | a :: l, k => by
    show co ((c * a) :: psm c l) k = _
    cases k with
    | zero => rw [co_z, co_z]
    | succ k => rw [co_s, co_s]; exact co_psm c l k
theorem co_pmu_z (c : Fin p) (l m : Po p) : co (pmu (c :: l) m) 0 = c * co m 0 := by
  show co (pad (psm c m) (0 :: pmu l m)) 0 = _
  rw [co_pad, co_psm, co_z]
  grind
theorem co_pmu_s (c : Fin p) (l m : Po p) (k : Nat) : co (pmu (c :: l) m) (k + 1) = c * co m (k + 1) + co (pmu l m) k := by
  show co (pad (psm c m) (0 :: pmu l m)) (k + 1) = _
  rw [co_pad, co_psm, co_s]
theorem pmu_r {m n : Po p} (h : sam m n) : ∀ l : Po p, sam (pmu l m) (pmu l n)
  | [] => sam.refl _
  | c :: l => fun k => by
    cases k with
    | zero => rw [co_pmu_z, co_pmu_z, h 0]
    | succ k => rw [co_pmu_s, co_pmu_s, h (k + 1), pmu_r h l k]
theorem pmu_nil : ∀ l : Po p, sam (pmu l []) []
  | [] => sam.refl _
  | c :: l => fun k => by
    cases k with
    | zero => rw [co_pmu_z, co_nil]; grind
    | succ k => rw [co_pmu_s, pmu_nil l k, co_nil, co_nil]; grind
theorem co_pmu_cz (l : Po p) (y : Fin p) (m : Po p) : co (pmu l (y :: m)) 0 = co l 0 * y := by
  cases l with
  | nil => show co [] 0 = _; rw [co_nil]; grind
  | cons c l => rw [co_pmu_z, co_z, co_z]
theorem co_pmu_cs : ∀ (l : Po p) (y : Fin p) (m : Po p) (k : Nat), co (pmu l (y :: m)) (k + 1) = y * co l (k + 1) + co (pmu l m) k
  | [], y, m, k => by show co [] (k + 1) = _ * co [] (k + 1) + co [] k; simp only [co_nil]; grind
  | c :: l, y, m, 0 => by rw [co_pmu_s, co_s, co_s, co_pmu_z, co_pmu_cz]; grind
  | c :: l, y, m, k + 1 => by rw [co_pmu_s, co_s, co_s, co_pmu_s, co_pmu_cs l y m k]; grind
theorem pmu_comm : ∀ l m : Po p, sam (pmu l m) (pmu m l)
  | [], m => (pmu_nil m).symm
  | c :: l, m => fun k => by
    cases k with
    | zero => rw [co_pmu_z, co_pmu_cz]; grind
    | succ k => rw [co_pmu_s, co_pmu_cs, pmu_comm l m k]
theorem pmu_l {l n : Po p} (h : sam l n) (m : Po p) : sam (pmu l m) (pmu n m) := ((pmu_comm l m).trans (pmu_r h m)).trans (pmu_comm m n)
theorem pmu_padl : ∀ l m n : Po p, sam (pmu (pad l m) n) (pad (pmu l n) (pmu m n))
  | [], m, n => fun k => by rw [co_pad]; show co (pmu m n) k = co [] k + _; rw [co_nil]; grind
  | a :: l, [], n => fun k => by rw [co_pad]; show co (pmu (a :: l) n) k = _ + co [] k; rw [co_nil]; grind
  | a :: l, b :: m, n => fun k => by
    show co (pmu ((a + b) :: pad l m) n) k = _
    rw [co_pad]
    cases k with
    | zero => rw [co_pmu_z, co_pmu_z, co_pmu_z]; grind
    | succ k => rw [co_pmu_s, co_pmu_s, co_pmu_s, pmu_padl l m n k, co_pad]; grind
theorem pmu_psml (c : Fin p) : ∀ l n : Po p, sam (pmu (psm c l) n) (psm c (pmu l n))
  | [], n => fun k => by rw [co_psm]; show co [] k = c * co [] k; rw [co_nil]; grind
  | a :: l, n => fun k => by
    show co (pmu ((c * a) :: psm c l) n) k = _
    rw [co_psm]
    cases k with
    | zero => rw [co_pmu_z, co_pmu_z]; grind
    | succ k => rw [co_pmu_s, co_pmu_s, pmu_psml c l n k, co_psm]; grind
theorem pmu_assoc : ∀ l m n : Po p, sam (pmu (pmu l m) n) (pmu l (pmu m n))
  | [], m, n => sam.refl _
  | c :: l, m, n => fun k => by
    show co (pmu (pad (psm c m) (0 :: pmu l m)) n) k = _
    rw [pmu_padl _ _ _ k, co_pad, pmu_psml _ _ _ k, co_psm]
    cases k with
    | zero => rw [co_pmu_z, co_pmu_z]; grind
    | succ k => rw [co_pmu_s, co_pmu_s, pmu_assoc l m n k]; grind
theorem pmu_one (l : Po p) : sam (pmu [1] l) l := fun k => by
  cases k with
  | zero => rw [co_pmu_z]; grind
  | succ k => rw [co_pmu_s]; show 1 * _ + co [] k = _; rw [co_nil]; grind
/-- moved on -/
def shf (s : Nat) (l : Po p) : Po p := List.replicate s 0 ++ l
theorem co_shf : ∀ (s : Nat) (l : Po p) (k : Nat), co (shf s l) k = if k < s then 0 else co l (k - s)
  | 0, l, k => by simp [shf]
  | s + 1, l, k => by
    have e : shf (s + 1) l = 0 :: shf s l := by simp [shf, List.replicate_succ]
    rw [e]
    cases k with
    | zero => rw [co_z, if_pos (by omega)]
    | succ k =>
      rw [co_s, co_shf s l k, show k + 1 - (s + 1) = k - s by omega]
      simp only [Nat.add_lt_add_iff_right]
theorem pad_len : ∀ l m : Po p, (pad l m).length = max l.length m.length
  | [], m => by simp [pad]
  | a :: l, [] => by simp [pad]
  | a :: l, b :: m => by simp only [pad, List.length_cons, pad_len l m]; omega
theorem psm_len (c : Fin p) (l : Po p) : (psm c l).length = l.length := List.length_map ..
/-- the last numbers of a product -/
theorem co_pmu_ge : ∀ (l m : Po p) (k : Nat), l.length + m.length ≤ k + 1 → co (pmu l m) k = 0
  | [], m, k, h => co_nil k
  | c :: l, m, 0, h => by
    simp at h
    have : m = [] := List.eq_nil_of_length_eq_zero (by omega)
    rw [co_pmu_z, this, co_nil]
    grind
  | c :: l, m, k + 1, h => by
    simp at h
    rw [co_pmu_s, co_ge (l := m) (by omega), co_pmu_ge l m k (by omega)]
    grind
theorem co_pmu_top : ∀ (l m : Po p), l ≠ [] → m ≠ [] → co (pmu l m) (l.length + m.length - 2) = co l (l.length - 1) * co m (m.length - 1)
  | [], m, h, _ => absurd rfl h
  | [c], m, _, h => by
    have : 0 < m.length := List.length_pos_iff.mpr h
    show co (pmu [c] m) (1 + m.length - 2) = co [c] 0 * _
    rw [co_z]
    cases hm : m.length - 1 with
    | zero =>
      rw [show 1 + m.length - 2 = 0 by omega, co_pmu_z]
    | succ k =>
      rw [show 1 + m.length - 2 = k + 1 by omega, co_pmu_s]
      show _ + co [] k = _
      rw [co_nil]
      grind
  | c :: d :: l, m, _, h => by
    have h0 : 0 < m.length := List.length_pos_iff.mpr h
    have ih := co_pmu_top (d :: l) m (by simp) h
    have e1 : (c :: d :: l).length + m.length - 2 = ((d :: l).length + m.length - 2) + 1 := by simp only [List.length_cons]; omega
    rw [e1, co_pmu_s, ih, co_ge (l := m) (by simp only [List.length_cons]; omega)]
    have e2 : (c :: d :: l).length - 1 = ((d :: l).length - 1) + 1 := by simp
    rw [e2, co_s]
    grind
theorem nm_pmu {l m : Po p} (hl : Nm l) (hm : Nm m) (h1 : l ≠ []) (h2 : m ≠ []) : (nm (pmu l m)).length = l.length + m.length - 1 := by
  have h0 : 0 < m.length := List.length_pos_iff.mpr h2
  have h0' : 0 < l.length := List.length_pos_iff.mpr h1
  have ht := co_pmu_top l m h1 h2
  have hne : co (pmu l m) (l.length + m.length - 2) ≠ 0 := by
    rw [ht]
    intro z
    rcases mul_z z with z | z
    · exact hl.last h1 z
    · exact hm.last h2 z
  apply Nat.le_antisymm
  · refine Nat.le_of_not_lt fun hlt => ?_
    have hn : nm (pmu l m) ≠ [] := by intro z; rw [z] at hlt; simp at hlt
    have := (nm_nm (pmu l m)).last hn
    rw [nm_sam _ _, co_pmu_ge l m _ (by omega)] at this
    exact this rfl
  · refine Nat.le_of_not_lt fun hlt => hne ?_
    rw [← nm_sam _ _]
    exact co_ge (by omega)
/-- there is one quotient and one rest -/
theorem div_uniq {a b r s q : Po p} (hq : Nm q) (hq0 : q ≠ []) (h : sam (pad (pmu a q) r) (pad (pmu b q) s)) (hr : r.length < q.length) (hs : s.length < q.length) : sam a b ∧ sam r s := by
  have hab : sam (nm (pad a (psm (-1) b))) [] := by
    apply Classical.byContradiction
    intro hn
    let d := nm (pad a (psm (-1) b))
    have hd0 : d ≠ [] := fun z => hn (by show sam d []; rw [z]; exact sam.refl _)
    have hd : Nm d := nm_nm _
    have e1 : ∀ k, co (pmu d q) k = co s k - co r k := fun k => by
      have g1 := pmu_l (nm_sam (pad a (psm (-1) b))) q k
      rw [pmu_padl _ _ _ k, co_pad, pmu_psml _ _ _ k, co_psm] at g1
      have g2 := h k
      rw [co_pad, co_pad] at g2
      have g3 : co (pmu d q) k = co (pmu a q) k + -1 * co (pmu b q) k := g1
      rw [g3]
      grind
    have ht := co_pmu_top d q hd0 hq0
    rw [e1] at ht
    have h0 : 0 < q.length := List.length_pos_iff.mpr hq0
    have h0' : 0 < d.length := List.length_pos_iff.mpr hd0
    rw [co_ge (l := s) (by omega), co_ge (l := r) (by omega)] at ht
    have hz : co d (d.length - 1) * co q (q.length - 1) = 0 := by rw [← ht]; grind
    rcases mul_z hz with z | z
    · exact hd.last hd0 z
    · exact hq.last hq0 z
  have hab' : sam a b := fun k => by
    have := (nm_sam (pad a (psm (-1) b))).symm.trans hab k
    rw [co_pad, co_psm, co_nil] at this
    grind
  refine ⟨hab', fun k => ?_⟩
  have := h k
  rw [co_pad, co_pad, pmu_l hab' q k] at this
  grind
end
end Dz

/-! La12: values of sums of powers; how often one has another. -/
namespace Dz
section
variable {p : Nat} [Pr p] {n : Nat}
theorem mm_m0 {a b c : Nat} (A : Mt p a b) : mm A (m0 : Mt p b c) = m0 := by
  funext i j
  exact (sm_congr fun l => (by show A i l * (0 : Fin p) = 0; grind)).trans sm_zero
theorem m0_mm {a b c : Nat} (A : Mt p b c) : mm (m0 : Mt p a b) A = m0 := by
  funext i j
  exact (sm_congr fun l => (by show (0 : Fin p) * A l j = 0; grind)).trans sm_zero
theorem ma_0 {a b : Nat} (A : Mt p a b) : ma A m0 = A := by funext i j; show A i j + 0 = A i j; grind
theorem m0_a {a b : Nat} (A : Mt p a b) : ma m0 A = A := by funext i j; show 0 + A i j = A i j; grind
theorem ma_assoc {a b : Nat} (A B C : Mt p a b) : ma (ma A B) C = ma A (ma B C) := by funext i j; show A i j + B i j + C i j = A i j + (B i j + C i j); grind
theorem ma_comm {a b : Nat} (A B : Mt p a b) : ma A B = ma B A := by funext i j; show A i j + B i j = B i j + A i j; grind
theorem ma_4 {a b : Nat} (A B C D : Mt p a b) : ma (ma A B) (ma C D) = ma (ma A C) (ma B D) := by funext i j; show A i j + B i j + (C i j + D i j) = A i j + C i j + (B i j + D i j); grind
theorem ms_add {a b : Nat} (x y : Fin p) (A : Mt p a b) : ms (x + y) A = ma (ms x A) (ms y A) := by funext i j; show (x + y) * A i j = x * A i j + y * A i j; grind
theorem ms_ma {a b : Nat} (x : Fin p) (A B : Mt p a b) : ms x (ma A B) = ma (ms x A) (ms x B) := by funext i j; show x * (A i j + B i j) = x * A i j + x * B i j; grind
theorem ms_m0 {a b : Nat} (x : Fin p) : ms x (m0 : Mt p a b) = m0 := by funext i j; show x * (0 : Fin p) = 0; grind
/-- the value of a sum of powers -/
def ev : Po p → Mt p n n → Mt p n n
  | [], _ => m0
  | c :: l, A => ma (ms c m1) (mm A (ev l A))
theorem ev_pad (A : Mt p n n) : ∀ l m : Po p, ev (pad l m) A = ma (ev l A) (ev m A)
  | [], m => (m0_a _).symm
  | a :: l, [] => (ma_0 _).symm
  | a :: l, b :: m => by
    show ma (ms (a + b) m1) (mm A (ev (pad l m) A)) = ma (ma (ms a m1) (mm A (ev l A))) (ma (ms b m1) (mm A (ev m A)))
    rw [ev_pad A l m, mm_addr, ms_add, ma_4]
theorem ev_psm (A : Mt p n n) (x : Fin p) : ∀ l : Po p, ev (psm x l) A = ms x (ev l A)
  | [] => (ms_m0 x).symm
  | a :: l => by
    show ma (ms (x * a) m1) (mm A (ev (psm x l) A)) = ms x (ma (ms a m1) (mm A (ev l A)))
    rw [ev_psm A x l, mm_sr, ms_ma, ms_ms]
theorem ev_z (A : Mt p n n) : ∀ l : Po p, (∀ k, co l k = 0) → ev l A = m0
  | [], _ => rfl
  | c :: l, h => by
    have h0 := h 0
    rw [co_z] at h0
    show ma (ms c m1) (mm A (ev l A)) = m0
    rw [h0, ms_0, m0_a, ev_z A l fun k => by have := h (k + 1); rwa [co_s] at this, mm_m0]
theorem ev_sam (A : Mt p n n) : ∀ {l m : Po p}, sam l m → ev l A = ev m A
  | [], m, h => (ev_z A m fun k => by rw [← h k, co_nil]).symm
  | c :: l, [], h => ev_z A (c :: l) fun k => by rw [h k, co_nil]
  | c :: l, d :: m, h => by
    obtain ⟨e, g⟩ := sam_inv h
    show ma (ms c m1) (mm A (ev l A)) = ma (ms d m1) (mm A (ev m A))
    rw [e, ev_sam A g]
theorem ev_nm (A : Mt p n n) (l : Po p) : ev (nm l) A = ev l A := ev_sam A (nm_sam l)
theorem ev_pmu (A : Mt p n n) : ∀ l m : Po p, ev (pmu l m) A = mm (ev l A) (ev m A)
  | [], m => (m0_mm _).symm
  | c :: l, m => by
    show ev (pad (psm c m) (0 :: pmu l m)) A = mm (ma (ms c m1) (mm A (ev l A))) (ev m A)
    rw [ev_pad, ev_psm]
    show ma (ms c (ev m A)) (ma (ms 0 m1) (mm A (ev (pmu l m) A))) = _
    rw [ev_pmu A l m, ms_0, m0_a, mm_addl, mm_sl, m1_m, mm_assoc]
theorem ev_comm2 (A : Mt p n n) (l m : Po p) : mm (ev l A) (ev m A) = mm (ev m A) (ev l A) := by rw [← ev_pmu, ← ev_pmu, ev_sam A (pmu_comm l m)]
theorem ev_y (A : Mt p n n) : ev [0, 1] A = A := by
  show ma (ms 0 m1) (mm A (ma (ms 1 m1) (mm A m0))) = A
  rw [mm_m0, ma_0, ms_0, m0_a, ms_1, mm_1]
theorem ev_comm (A : Mt p n n) (l : Po p) : mm A (ev l A) = mm (ev l A) A := by
  have := ev_comm2 A [0, 1] l
  rwa [ev_y] at this
theorem ev_one (A : Mt p n n) : ev [1] A = m1 := by
  show ma (ms 1 m1) (mm A m0) = m1
  rw [mm_m0, ma_0, ms_1]
theorem mp_comm' (A : Mt p n n) (k : Nat) : mm A (mp A k) = mp A (k + 1) := mp_comm A k
theorem ev_snoc (A : Mt p n n) (c : Fin p) : ∀ l : Po p, ev (l ++ [c]) A = ma (ev l A) (ms c (mp A l.length))
  | [] => by
    show ma (ms c m1) (mm A m0) = ma m0 (ms c m1)
    rw [mm_m0, ma_0, m0_a]
  | a :: l => by
    show ma (ms a m1) (mm A (ev (l ++ [c]) A)) = ma (ma (ms a m1) (mm A (ev l A))) (ms c (mp A (l.length + 1)))
    rw [ev_snoc A c l, mm_addr, mm_sr, mp_comm', ma_assoc]
theorem ev_carry {m : Nat} {A : Mt p n n} {B : Mt p m m} {X : Mt p n m} (h : mm A X = mm X B) : ∀ l : Po p, mm (ev l A) X = mm X (ev l B)
  | [] => by show mm m0 X = mm X m0; rw [m0_mm, mm_m0]
  | c :: l => by
    show mm (ma (ms c m1) (mm A (ev l A))) X = mm X (ma (ms c m1) (mm B (ev l B)))
    rw [mm_addl, mm_addr, mm_sl, mm_sr, m1_m, mm_1, mm_assoc, ev_carry h l, ← mm_assoc, h, mm_assoc]
theorem ev_conj {A P Q : Mt p n n} (h : mm Q P = m1) (l : Po p) : ev l (mm (mm Q A) P) = mm (mm Q (ev l A)) P := by
  have h2 := un_two h
  have hc : mm A P = mm P (mm (mm Q A) P) := by rw [← mm_assoc, ← mm_assoc, h2, m1_m]
  have h3 := ev_carry hc l
  generalize mm (mm Q A) P = B at h3
  rw [mm_assoc, h3, ← mm_assoc, h, m1_m]
theorem ev_t (A : Mt p n n) : ∀ l : Po p, ev l (mt A) = mt (ev l A)
  | [] => rfl
  | c :: l => by
    show ma (ms c m1) (mm (mt A) (ev l (mt A))) = mt (ma (ms c m1) (mm A (ev l A)))
    have e : mt (ma (ms c m1) (mm A (ev l A))) = ma (mt (ms c m1)) (mt (mm A (ev l A))) := rfl
    have e2 : mt (ms c (m1 : Mt p n n)) = ms c (mt m1) := rfl
    rw [ev_t A l, e, e2, mt_1, ← mt_mm, ev_comm]
/-! how often one has another -/
def lead (l : Po p) : Fin p := co l (l.length - 1)
def dvx (one q : Po p) : Fin p := lead one * iv (lead q)
def dvo (o one q : Po p) : Po p := nm (pad o (psm (dvx one q) (shf (one.length - q.length) [1])))
def dvr (one q : Po p) : Po p := nm (pad one (psm (- dvx one q) (shf (one.length - q.length) q)))
def dvgo : Nat → Po p → Po p → Po p → Po p × Po p
  | 0, o, one, _ => (o, one)
  | k + 1, o, one, q => if q.length ≤ one.length then dvgo k (dvo o one q) (dvr one q) q else (o, one)
theorem pmu_shf (q : Po p) : ∀ s : Nat, sam (pmu (shf s [1]) q) (shf s q)
  | 0 => pmu_one q
  | s + 1 => fun k => by
    have e : ∀ l : Po p, shf (s + 1) l = 0 :: shf s l := fun l => by simp [shf, List.replicate_succ]
    rw [e, e]
    cases k with
    | zero => rw [co_pmu_z, co_z]; grind
    | succ k => rw [co_pmu_s, co_s, pmu_shf q s k]; grind
theorem dvr_len {one q : Po p} (h1 : Nm one) (hq : Nm q) (hq0 : q ≠ []) (h : q.length ≤ one.length) : (dvr one q).length < one.length := by
  have h0 : 0 < q.length := List.length_pos_iff.mpr hq0
  refine Nat.lt_of_not_le fun hn => ?_
  have hne : dvr one q ≠ [] := fun z => by
    rw [z] at hn
    have : one.length ≤ 0 := hn
    omega
  have hl := (nm_nm (pad one (psm (- dvx one q) (shf (one.length - q.length) q)))).last hne
  have hle : (dvr one q).length ≤ one.length := by
    refine Nat.le_trans (nm_le _) ?_
    rw [pad_len, psm_len]
    simp [shf]
    omega
  have he : (dvr one q).length = one.length := Nat.le_antisymm hle hn
  have he' : (nm (pad one (psm (- dvx one q) (shf (one.length - q.length) q)))).length = one.length := he
  have e1 : ¬ one.length - 1 < one.length - q.length := by omega
  have e2 : one.length - 1 - (one.length - q.length) = q.length - 1 := by omega
  rw [nm_sam _ _, he', co_pad, co_psm, co_shf, if_neg e1, e2] at hl
  apply hl
  show lead one + - (lead one * iv (lead q)) * lead q = 0
  have := mul_iv (lead q) (hq.last hq0)
  grind
theorem dvgo_ok {q : Po p} (hq : Nm q) (hq0 : q ≠ []) : ∀ (k : Nat) (o one : Po p), Nm o → Nm one → one.length < k → Nm (dvgo k o one q).1 ∧ Nm (dvgo k o one q).2 ∧ (dvgo k o one q).2.length < q.length ∧ sam (pad (pmu o q) one) (pad (pmu (dvgo k o one q).1 q) (dvgo k o one q).2)
  | 0, o, one, _, _, h => absurd h (by omega)
  | k + 1, o, one, h1, h2, h => by
    unfold dvgo
    split
    · rename_i hc
      have hlen := dvr_len h2 hq hq0 hc
      have ih := dvgo_ok hq hq0 k (dvo o one q) (dvr one q) (nm_nm _) (nm_nm _) (by omega)
      refine ⟨ih.1, ih.2.1, ih.2.2.1, fun j => ?_⟩
      rw [← ih.2.2.2 j, co_pad, co_pad]
      have e1 : co (pmu (dvo o one q) q) j = co (pmu o q) j + dvx one q * co (shf (one.length - q.length) q) j := by
        show co (pmu (nm _) q) j = _
        rw [pmu_l (nm_sam _) q j, pmu_padl _ _ _ j, co_pad, pmu_psml _ _ _ j, co_psm, pmu_shf q _ j]
      have e2 : co (dvr one q) j = co one j + - dvx one q * co (shf (one.length - q.length) q) j := by
        show co (nm _) j = _
        rw [nm_sam _ j, co_pad, co_psm]
      rw [e1, e2]
      grind
    · rename_i hc
      exact ⟨h1, h2, by show one.length < q.length; omega, sam.refl _⟩
/-- the quotient and the rest -/
def dv (one q : Po p) : Po p × Po p := dvgo (one.length + 1) [] one q
theorem dv_ok {one q : Po p} (h1 : Nm one) (hq : Nm q) (hq0 : q ≠ []) : Nm (dv one q).1 ∧ Nm (dv one q).2 ∧ (dv one q).2.length < q.length ∧ sam one (pad (pmu (dv one q).1 q) (dv one q).2) := dvgo_ok hq hq0 _ [] one Nm.nil h1 (Nat.lt_succ_self _)
theorem dv_of {one q a r : Po p} (h1 : Nm one) (hq : Nm q) (hq0 : q ≠ []) (ha : Nm a) (hr : Nm r) (hl : r.length < q.length) (h : sam one (pad (pmu a q) r)) : dv one q = (a, r) := by
  obtain ⟨d1, d2, d3, d4⟩ := dv_ok h1 hq hq0
  obtain ⟨e1, e2⟩ := div_uniq hq hq0 (d4.symm.trans h) d3 hl
  exact Prod.ext (nm_ext d1 ha e1) (nm_ext d2 hr e2)
theorem dv_exact {a q : Po p} (hq : Nm q) (hq0 : q ≠ []) (ha : Nm a) : dv (nm (pmu a q)) q = (a, []) := dv_of (nm_nm _) hq hq0 ha Nm.nil (List.length_pos_iff.mpr hq0) fun k => by rw [nm_sam _ k, co_pad, co_nil]; grind
/-- a sum whose value is nought, divided -/
theorem ev_rest (A : Mt p n n) {one q : Po p} (h1 : Nm one) (hq : Nm q) (hq0 : q ≠ []) (h0 : ev q A = m0) : ev (dv one q).2 A = ev one A := by
  rw [ev_sam A (dv_ok h1 hq hq0).2.2.2, ev_pad, ev_pmu, h0, mm_m0, m0_a]
end
end Dz

/-! La13: sums of powers as data, loops over them. -/
namespace Dz
open PySem (PyData)
section
variable {p : Nat} [Pr p]
abbrev eP (l : Po p) : PyData := .tuple (l.map eI)
theorem sh_P (l : Po p) : Sh 1 (eP l) := sh_tup (sh_map fun _ => sh_int _)
theorem eqv_P : ∀ l m : Po p, PyData.eqvAll (l.map eI) (m.map eI) = decide (l = m)
  | [], [] => by simp [PyData.eqvAll]
  | [], b :: m => by simp [PyData.eqvAll]
  | a :: l, [] => by simp [PyData.eqvAll]
  | a :: l, b :: m => by
    rw [List.map_cons, List.map_cons, PyData.eqvAll, eqv_I, eqv_P l m]
    simp
theorem neP (l m : Po p) : neD (eP l) (eP m) = some (.bool (!decide (l = m))) := by
  rw [neD_of (sh_P l) (sh_P m) (by decide) (by decide)]
  refine congrArg (fun b => some (PyData.bool (!b))) ?_
  rw [← eqv_P]
  simp [PyData.eqv]
theorem eqP (l m : Po p) : eqD (eP l) (eP m) = some (.bool (decide (l = m))) := by
  rw [eqD_of (sh_P l) (sh_P m) (by decide) (by decide)]
  refine congrArg (fun b => some (PyData.bool b)) ?_
  rw [← eqv_P]
  simp [PyData.eqv]
theorem neP_self (l : Po p) : neD (eP l) (eP l) = some (.bool false) := by rw [neP, decide_eq_true rfl]; rfl
theorem eqP_self (l : Po p) : eqD (eP l) (eP l) = some (.bool true) := by rw [eqP, decide_eq_true rfl]
theorem len_P (l : Po p) : lenD [eP l] = some (eN l.length) := by
  show some (PyData.int ((l.map eI).length : Nat)) = _
  rw [List.length_map]
theorem ix_lead {l : Po p} (h : l ≠ []) : ixD (eP l) (.int (-1)) = some (eI (lead l)) := by
  refine (last_at ?_).1
  rw [List.getLast?_map, List.getLast?_eq_some_getLast h]
  unfold lead co
  rw [List.getD_eq_getElem?_getD, ← List.getLast?_eq_getElem?, List.getLast?_eq_some_getLast h]
  rfl
theorem enL_P (l : Po p) : enL (l.map eI) = l.zipIdx.map fun q => .tuple [eN q.2, eI q.1] := by
  unfold enL
  rw [List.zipIdx_map, List.map_map]
  rfl
theorem zipIdx_split {α : Type} {l : List α} {pre post : List (α × Nat)} {q : α × Nat} (h : l.zipIdx = pre ++ q :: post) : q.2 = pre.length := by
  have h1 : l.zipIdx[pre.length]? = some q := by rw [h]; simp
  rw [List.getElem?_zipIdx] at h1
  cases hl : l[pre.length]? with
  | none => rw [hl] at h1; cases h1
  | some a =>
    rw [hl] at h1
    simp at h1
    rw [← h1]
theorem zipIdx_fst {α : Type} : ∀ (l : List α) (k : Nat), (l.zipIdx k).map (·.1) = l
  | [], _ => rfl
  | a :: l, k => by rw [List.zipIdx_cons, List.map_cons, zipIdx_fst l (k + 1)]
/-- a number added at a place -/
def bump (F : Po p) (k : Nat) (x : Fin p) : Po p := F.set k (co F k + x)
theorem bump_len (F : Po p) (k : Nat) (x : Fin p) : (bump F k x).length = F.length := List.length_set ..
theorem co_bump {F : Po p} {k : Nat} (h : k < F.length) (x : Fin p) (j : Nat) : co (bump F k x) j = co F j + if j = k then x else 0 := by
  have e : co (bump F k x) j = if k = j then co F k + x else co F j := by
    unfold bump
    conv => lhs; unfold co
    rw [List.getD_eq_getElem?_getD, List.getElem?_set]
    by_cases hj : k = j
    · rw [if_pos hj, if_pos (by omega), if_pos hj]
      rfl
    · rw [if_neg hj, if_neg hj]
      unfold co
      rw [List.getD_eq_getElem?_getD]
  rw [e]
  by_cases hj : k = j
  · subst hj
    rw [if_pos rfl, if_pos rfl]
  · rw [if_neg hj, if_neg (fun z => hj z.symm)]
    grind
def bumps (a : Fin p) (at0 : Nat) (F : Po p) (l : List (Fin p × Nat)) : Po p := l.foldl (fun F q => bump F (at0 + q.2) (a * q.1)) F
theorem bumps_len (a : Fin p) (at0 : Nat) : ∀ (l : List (Fin p × Nat)) (F : Po p), (bumps a at0 F l).length = F.length
  | [], F => rfl
  | q :: l, F => by
    show (bumps a at0 (bump F (at0 + q.2) (a * q.1)) l).length = _
    rw [bumps_len a at0 l, bump_len]
theorem co_shf_c (s : Nat) (b : Fin p) (m : Po p) (k : Nat) : co (shf s (b :: m)) k = (if k = s then b else 0) + co (shf (s + 1) m) k := by
  rw [co_shf, co_shf]
  by_cases h1 : k < s
  · rw [if_pos h1, if_neg (by omega), if_pos (by omega)]
    grind
  · by_cases h2 : k = s
    · subst h2
      rw [if_neg h1, if_pos rfl, if_pos (by omega), Nat.sub_self, co_z]
      grind
    · rw [if_neg h1, if_neg h2, if_neg (by omega), show k - s = (k - (s + 1)) + 1 by omega, co_s]
      grind
theorem bumps_co (a : Fin p) (at0 : Nat) : ∀ (m : Po p) (s : Nat) (F : Po p), at0 + s + m.length ≤ F.length → ∀ k, co (bumps a at0 F (m.zipIdx s)) k = co F k + a * co (shf (at0 + s) m) k
  | [], s, F, _, k => by
    show co F k = _
    rw [co_shf, co_nil]
    split <;> grind
  | b :: m, s, F, h, k => by
    rw [List.zipIdx_cons]
    show co (bumps a at0 (bump F (at0 + s) (a * b)) (m.zipIdx (s + 1))) k = _
    simp only [List.length_cons] at h
    rw [bumps_co a at0 m (s + 1) _ (by rw [bump_len]; omega) k, co_bump (by omega), co_shf_c, Nat.add_assoc]
    split <;> grind
def joins (q : Po p) (F : Po p) (l : List (Fin p × Nat)) : Po p := l.foldl (fun F r => bumps r.1 r.2 F q.zipIdx) F
theorem joins_len (q : Po p) : ∀ (l : List (Fin p × Nat)) (F : Po p), (joins q F l).length = F.length
  | [], F => rfl
  | r :: l, F => by
    show (joins q (bumps r.1 r.2 F q.zipIdx) l).length = _
    rw [joins_len q l, bumps_len]
theorem joins_co (q : Po p) : ∀ (o : Po p) (t : Nat) (F : Po p), t + o.length + q.length ≤ F.length → ∀ k, co (joins q F (o.zipIdx t)) k = co F k + co (shf t (pmu o q)) k
  | [], t, F, _, k => by
    show co F k = _ + co (shf t []) k
    rw [co_shf, co_nil]
    split <;> grind
  | a :: o, t, F, h, k => by
    rw [List.zipIdx_cons]
    show co (joins q (bumps a t F q.zipIdx) (o.zipIdx (t + 1))) k = _
    simp only [List.length_cons] at h
    rw [joins_co q o (t + 1) _ (by rw [bumps_len]; omega) k, bumps_co a t q 0 F (by omega) k]
    have e : co (shf t (pmu (a :: o) q)) k = a * co (shf t q) k + co (shf (t + 1) (pmu o q)) k := by
      rw [co_shf, co_shf, co_shf]
      by_cases h1 : k < t
      · rw [if_pos h1, if_pos h1, if_pos (by omega)]
        grind
      · rw [if_neg h1, if_neg h1]
        by_cases h2 : k = t
        · subst h2
          rw [if_pos (by omega), Nat.sub_self, co_pmu_z]
          grind
        · rw [if_neg (by omega), show k - t = (k - (t + 1)) + 1 by omega, co_pmu_s]
    rw [e, Nat.add_zero]
    grind
theorem co_rep (n k : Nat) : co (List.replicate n (0 : Fin p)) k = 0 := by
  unfold co
  rw [List.getD_eq_getElem?_getD, List.getElem?_replicate]
  split <;> rfl
theorem joins_nm (o q : Po p) : nm (joins q (List.replicate (o.length + q.length) 0) o.zipIdx) = nm (pmu o q) := nm_eq fun k => by
  rw [joins_co q o 0 _ (by rw [List.length_replicate]; omega) k, co_rep]
  show _ + co (shf 0 (pmu o q)) k = _
  rw [co_shf, if_neg (by omega), Nat.sub_zero]
  grind
theorem co_app (l m : Po p) (k : Nat) : co (l ++ m) k = if k < l.length then co l k else co m (k - l.length) := by
  unfold co
  rw [List.getD_eq_getElem?_getD, List.getElem?_append, List.getD_eq_getElem?_getD, List.getD_eq_getElem?_getD]
  split <;> rfl
theorem added_nm (o q : Po p) (x : Fin p) (s : Nat) : nm (bumps x s (o ++ List.replicate (q.length + s) 0) q.zipIdx) = nm (pad o (psm x (shf s q))) := nm_eq fun k => by
  rw [bumps_co x s q 0 _ (by rw [List.length_append, List.length_replicate]; omega) k, co_app, co_rep, co_pad, co_psm, Nat.add_zero]
  split
  · rfl
  · rw [co_ge (l := o) (by omega)]
theorem nm_pmu_le (x w : Po p) : (nm (pmu x w)).length ≤ x.length + w.length := by
  refine Nat.le_of_not_lt fun hlt => ?_
  have hne : nm (pmu x w) ≠ [] := fun z => by
    rw [z] at hlt
    exact absurd hlt (Nat.not_lt_zero _)
  have := (nm_nm (pmu x w)).last hne
  rw [nm_sam _ _, co_pmu_ge _ _ _ (by omega)] at this
  exact this rfl
end
end Dz

/-! La14: the whole sum of a table; its value is nought. -/
namespace Dz
section
variable {p : Nat} [Pr p]
def c2 (A : Mt p 3 3) : Fin p := A 0 0 * A 1 1 - A 0 1 * A 1 0 + (A 0 0 * A 2 2 - A 0 2 * A 2 0) + (A 1 1 * A 2 2 - A 1 2 * A 2 1)
def chp : (n : Nat) → Mt p n n → Po p
  | 1, A => [- (A 0 0), 1]
  | 2, A => [dt 2 A, - (A 0 0 + A 1 1), 1]
  | 3, A => [- dt 3 A, c2 A, - (A 0 0 + A 1 1 + A 2 2), 1]
  | _, _ => [1]
theorem chp_nm : ∀ (n : Nat) (A : Mt p n n), Nm (chp n A)
  | 0, A => fun x h => by simp [chp] at h; rw [← h]; exact z1.symm
  | 1, A => fun x h => by simp [chp] at h; rw [← h]; exact z1.symm
  | 2, A => fun x h => by simp [chp] at h; rw [← h]; exact z1.symm
  | 3, A => fun x h => by simp [chp] at h; rw [← h]; exact z1.symm
  | n + 4, A => fun x h => by simp [chp] at h; rw [← h]; exact z1.symm
theorem chp_len {n : Nat} (h1 : 1 ≤ n) (h : n ≤ 3) (A : Mt p n n) : (chp n A).length = n + 1 := by
  match n, h1, h with
  | 1, _, _ => rfl
  | 2, _, _ => rfl
  | 3, _, _ => rfl
theorem chp_lead {n : Nat} (h1 : 1 ≤ n) (h : n ≤ 3) (A : Mt p n n) : lead (chp n A) = 1 := by
  match n, h1, h with
  | 1, _, _ => rfl
  | 2, _, _ => rfl
  | 3, _, _ => rfl
theorem m1_e {n : Nat} (i j : Fin n) : (m1 : Mt p n n) i j = if i = j then 1 else 0 := rfl
theorem ch1 (A : Mt p 1 1) : ev (chp 1 A) A = m0 := by
  have h : ∀ i j, ev (chp 1 A) A i j = 0 := by
    intro i j
    have hi : i = 0 := Fin.ext (by omega)
    have hj : j = 0 := Fin.ext (by omega)
    subst hi hj
    show - A 0 0 * 1 + (sm fun l => A 0 l * (1 * (m1 : Mt p 1 1) l 0 + sm fun k => A l k * 0)) = 0
    rw [sm1, sm1]
    show - A 0 0 * 1 + A 0 0 * (1 * 1 + A 0 0 * 0) = 0
    grind
  exact funext fun i => funext fun j => h i j
theorem mm2_e (A B : Mt p 2 2) (i j : Fin 2) : mm A B i j = A i 0 * B 0 j + A i 1 * B 1 j := sm2 _
theorem mm3_e (A B : Mt p 3 3) (i j : Fin 3) : mm A B i j = A i 0 * B 0 j + A i 1 * B 1 j + A i 2 * B 2 j := sm3 _
theorem ma_e {r c : Nat} (A B : Mt p r c) (i : Fin r) (j : Fin c) : ma A B i j = A i j + B i j := rfl
theorem ms_e {r c : Nat} (x : Fin p) (A : Mt p r c) (i : Fin r) (j : Fin c) : ms x A i j = x * A i j := rfl
theorem ev3_e {n : Nat} (a b c : Fin p) (A : Mt p n n) : ev [a, b, c] A = ma (ms a m1) (ma (ms b A) (ms c (mm A A))) := by
  show ma (ms a m1) (mm A (ma (ms b m1) (mm A (ma (ms c m1) (mm A m0))))) = _
  rw [mm_m0, ma_0, mm_addr, mm_sr, mm_1, mm_sr, mm_1, mm_sr]
theorem ev4_e {n : Nat} (a b c d : Fin p) (A : Mt p n n) : ev [a, b, c, d] A = ma (ms a m1) (ma (ms b A) (ma (ms c (mm A A)) (ms d (mm A (mm A A))))) := by
  show ma (ms a m1) (mm A (ma (ms b m1) (mm A (ma (ms c m1) (mm A (ma (ms d m1) (mm A m0))))))) = _
  simp only [mm_m0, ma_0, mm_addr, mm_sr, mm_1]
theorem ch2 (A : Mt p 2 2) : ev (chp 2 A) A = m0 := by
  show ev [dt 2 A, - (A 0 0 + A 1 1), 1] A = m0
  rw [ev3_e, dt2]
  funext i j
  simp only [ma_e, ms_e, mm2_e]
  show _ = (0 : Fin p)
  generalize hE : (m1 : Mt p 2 2) i j = e
  revert i j
  have a10 : (m1 : Mt p 2 2) 1 0 = 0 := if_neg (by decide)
  have a01 : (m1 : Mt p 2 2) 0 1 = 0 := if_neg (by decide)
  have a00 : (m1 : Mt p 2 2) 0 0 = 1 := if_pos rfl
  have a11 : (m1 : Mt p 2 2) 1 1 = 1 := if_pos rfl
  refine fin2 (fin2 ?_ ?_) (fin2 ?_ ?_) <;> intro hE
  · rw [a00] at hE; grind
  · rw [a01] at hE; grind
  · rw [a10] at hE; grind
  · rw [a11] at hE; grind
theorem ch3 (A : Mt p 3 3) : ev (chp 3 A) A = m0 := by
  show ev [- dt 3 A, c2 A, - (A 0 0 + A 1 1 + A 2 2), 1] A = m0
  rw [ev4_e, dt3]
  unfold c2
  funext i j
  simp only [ma_e, ms_e, mm3_e]
  show _ = (0 : Fin p)
  generalize hE : (m1 : Mt p 3 3) i j = e
  revert i j
  have a10 : (m1 : Mt p 3 3) 1 0 = 0 := if_neg (by decide)
  have a01 : (m1 : Mt p 3 3) 0 1 = 0 := if_neg (by decide)
  have a02 : (m1 : Mt p 3 3) 0 2 = 0 := if_neg (by decide)
  have a12 : (m1 : Mt p 3 3) 1 2 = 0 := if_neg (by decide)
  have a20 : (m1 : Mt p 3 3) 2 0 = 0 := if_neg (by decide)
  have a21 : (m1 : Mt p 3 3) 2 1 = 0 := if_neg (by decide)
  have a00 : (m1 : Mt p 3 3) 0 0 = 1 := if_pos rfl
  have a11 : (m1 : Mt p 3 3) 1 1 = 1 := if_pos rfl
  have a22 : (m1 : Mt p 3 3) 2 2 = 1 := if_pos rfl
  refine fin3 (fin3 ?_ ?_ ?_) (fin3 ?_ ?_ ?_) (fin3 ?_ ?_ ?_) <;> intro hE
  · rw [a00] at hE; grind
  · rw [a01] at hE; grind
  · rw [a02] at hE; grind
  · rw [a10] at hE; grind
  · rw [a11] at hE; grind
  · rw [a12] at hE; grind
  · rw [a20] at hE; grind
  · rw [a21] at hE; grind
  · rw [a22] at hE; grind
theorem cay {n : Nat} (h1 : 1 ≤ n) (h : n ≤ 3) (A : Mt p n n) : ev (chp n A) A = m0 := by
  match n, h1, h with
  | 1, _, _ => exact ch1 A
  | 2, _, _ => exact ch2 A
  | 3, _, _ => exact ch3 A
/-! turned, alike -/
theorem chp_t {n : Nat} (h1 : 1 ≤ n) (h : n ≤ 3) (A : Mt p n n) : chp n (mt A) = chp n A := by
  match n, h1, h with
  | 1, _, _ => rfl
  | 2, _, _ =>
    show [dt 2 (mt A), _, _] = [dt 2 A, _, _]
    rw [dt_t (by decide)]
    rfl
  | 3, _, _ =>
    show [- dt 3 (mt A), c2 (mt A), _, _] = [- dt 3 A, c2 A, _, _]
    have : c2 (mt A) = c2 A := by unfold c2; show A 0 0 * A 1 1 - A 1 0 * A 0 1 + (A 0 0 * A 2 2 - A 2 0 * A 0 2) + (A 1 1 * A 2 2 - A 2 1 * A 1 2) = _; grind
    rw [dt_t (by decide), this]
    rfl
theorem tr1_e (A : Mt p 1 1) : tr A = A 0 0 := sm1 _
theorem tr2_e (A : Mt p 2 2) : tr A = A 0 0 + A 1 1 := sm2 _
theorem tr3_e (A : Mt p 3 3) : tr A = A 0 0 + A 1 1 + A 2 2 := sm3 _
theorem dt_one (A : Mt p 3 3) : dt 3 (ma m1 A) = 1 + tr A + c2 A + dt 3 A := by
  have a10 : (m1 : Mt p 3 3) 1 0 = 0 := if_neg (by decide)
  have a01 : (m1 : Mt p 3 3) 0 1 = 0 := if_neg (by decide)
  have a02 : (m1 : Mt p 3 3) 0 2 = 0 := if_neg (by decide)
  have a12 : (m1 : Mt p 3 3) 1 2 = 0 := if_neg (by decide)
  have a20 : (m1 : Mt p 3 3) 2 0 = 0 := if_neg (by decide)
  have a21 : (m1 : Mt p 3 3) 2 1 = 0 := if_neg (by decide)
  have a00 : (m1 : Mt p 3 3) 0 0 = 1 := if_pos rfl
  have a11 : (m1 : Mt p 3 3) 1 1 = 1 := if_pos rfl
  have a22 : (m1 : Mt p 3 3) 2 2 = 1 := if_pos rfl
  rw [dt3, dt3, tr3_e]
  unfold c2
  simp only [ma_e, a10, a01, a02, a12, a20, a21, a00, a11, a22]
  grind
theorem tr_conj {n : Nat} {A P Q : Mt p n n} (h : mm Q P = m1) : tr (mm (mm Q A) P) = tr A := by
  rw [mm_assoc, tr_comm, mm_assoc, un_two h, mm_1]
theorem dt_conj {n : Nat} (hn : n ≤ 3) {A P Q : Mt p n n} (h : mm Q P = m1) : dt n (mm (mm Q A) P) = dt n A := by
  rw [dt_mm hn, dt_mm hn]
  have : dt n Q * dt n P = 1 := by rw [← dt_mm hn, h, dt_1 hn]
  grind
theorem chp_conj {n : Nat} (h1 : 1 ≤ n) (hn : n ≤ 3) {A P Q : Mt p n n} (h : mm Q P = m1) : chp n (mm (mm Q A) P) = chp n A := by
  have ht := tr_conj (A := A) h
  have hd := dt_conj (A := A) hn h
  match n, h1, hn with
  | 1, _, _ =>
    rw [tr1_e, tr1_e] at ht
    show [- mm (mm Q A) P 0 0, 1] = [- A 0 0, 1]
    rw [ht]
  | 2, _, _ =>
    rw [tr2_e, tr2_e] at ht
    show [dt 2 (mm (mm Q A) P), - (mm (mm Q A) P 0 0 + mm (mm Q A) P 1 1), 1] = [dt 2 A, - (A 0 0 + A 1 1), 1]
    rw [hd, ht]
  | 3, _, _ =>
    have hc : c2 (mm (mm Q A) P) = c2 A := by
      have e1 := dt_one (mm (mm Q A) P)
      have e2 : ma m1 (mm (mm Q A) P) = mm (mm Q (ma m1 A)) P := by rw [mm_addr, mm_addl, mm_1, h]
      rw [e2, dt_conj (by decide) h, dt_one, ht, hd] at e1
      grind
    rw [tr3_e, tr3_e] at ht
    show [- dt 3 (mm (mm Q A) P), c2 (mm (mm Q A) P), - (mm (mm Q A) P 0 0 + mm (mm Q A) P 1 1 + mm (mm Q A) P 2 2), 1] = [- dt 3 A, c2 A, - (A 0 0 + A 1 1 + A 2 2), 1]
    rw [hd, ht, hc]
theorem chp_tr {n : Nat} (h1 : 1 ≤ n) (hn : n ≤ 3) (A : Mt p n n) : co (chp n A) (n - 1) = - tr A := by
  match n, h1, hn with
  | 1, _, _ => rw [tr1_e]; rfl
  | 2, _, _ => rw [tr2_e]; rfl
  | 3, _, _ => rw [tr3_e]; rfl
theorem chp_0 {n : Nat} (h1 : 1 ≤ n) (hn : n ≤ 3) (A : Mt p n n) : co (chp n A) 0 * (if n % 2 = 1 then -1 else 1) = dt n A := by
  match n, h1, hn with
  | 1, _, _ => show - A 0 0 * (if 1 % 2 = 1 then -1 else 1) = A 0 0; rw [if_pos (by decide)]; grind
  | 2, _, _ => show dt 2 A * (if 2 % 2 = 1 then -1 else 1) = dt 2 A; rw [if_neg (by decide)]; grind
  | 3, _, _ => show - dt 3 A * (if 3 % 2 = 1 then -1 else 1) = dt 3 A; rw [if_pos (by decide)]; grind
end
end Dz

/-! La15: the least sum of powers that comes to nought. -/
namespace Dz
section
variable {p : Nat} [Pr p] {n : Nat}
structure Lst (A : Mt p n n) (l : Po p) : Prop where
  ne : l ≠ []
  mon : lead l = 1
  z : ev l A = m0
  le : ∀ m : Po p, Nm m → m ≠ [] → m.length < l.length → ev m A ≠ m0
theorem nm_mon {l : Po p} (h : lead l = 1) (h0 : l ≠ []) : Nm l := fun x hx => by
  have e : lead l = x := by
    unfold lead co
    rw [List.getD_eq_getElem?_getD, ← List.getLast?_eq_getElem?, hx]
    rfl
  rw [← e, h]
  exact z1.symm
theorem Lst.nm {A : Mt p n n} {l : Po p} (h : Lst A l) : Nm l := nm_mon h.mon h.ne
theorem Lst.pos {A : Mt p n n} {l : Po p} (h : Lst A l) : 0 < l.length := List.length_pos_iff.mpr h.ne
/-- sums of one length with the same last number: their difference is shorter -/
theorem dif_len {l m : Po p} (h0 : l ≠ []) (h : l.length = m.length) (he : lead l = lead m) : (nm (pad l (psm (-1) m))).length < l.length := by
  have hp : 0 < l.length := List.length_pos_iff.mpr h0
  refine Nat.lt_of_not_le fun hn => ?_
  have hle : (nm (pad l (psm (-1) m))).length ≤ l.length := Nat.le_trans (nm_le _) (by rw [pad_len, psm_len]; omega)
  have hq : (nm (pad l (psm (-1) m))).length = l.length := Nat.le_antisymm hle hn
  have hne : nm (pad l (psm (-1) m)) ≠ [] := fun z => by
    rw [z] at hq
    have : 0 = l.length := hq
    omega
  have := (nm_nm (pad l (psm (-1) m))).last hne
  rw [hq, nm_sam _ _, co_pad, co_psm] at this
  apply this
  have e1 : co l (l.length - 1) = lead m := he
  have e2 : co m (l.length - 1) = lead m := by rw [h]; rfl
  rw [e1, e2]
  grind
theorem lst_uniq {A B : Mt p n n} {l m : Po p} (hl : Lst A l) (hm : Lst B m) (h : ∀ f : Po p, ev f A = m0 ↔ ev f B = m0) : l = m := by
  have e : l.length = m.length := by
    apply Nat.le_antisymm
    · exact Nat.le_of_not_lt fun hlt => hl.le m hm.nm hm.ne hlt ((h m).mpr hm.z)
    · exact Nat.le_of_not_lt fun hlt => hm.le l hl.nm hl.ne hlt ((h l).mp hl.z)
  have hd := dif_len hl.ne e (hl.mon.trans hm.mon.symm)
  have hz : ev (nm (pad l (psm (-1) m))) A = m0 := by
    rw [ev_nm, ev_pad, ev_psm, hl.z, (h m).mpr hm.z, ms_m0, ma_0]
  have hn : nm (pad l (psm (-1) m)) = [] := Classical.byContradiction fun hn => hl.le _ (nm_nm _) hn hd hz
  refine nm_ext hl.nm hm.nm fun k => ?_
  have := nm_sam (pad l (psm (-1) m)) k
  rw [hn, co_nil, co_pad, co_psm] at this
  grind
theorem lead_psm (x : Fin p) (l : Po p) : lead (psm x l) = x * lead l := by
  unfold lead
  rw [psm_len, co_psm]
theorem lst_ex (A : Mt p n n) : ∀ (k : Nat) (l : Po p), l.length ≤ k → Nm l → l ≠ [] → ev l A = m0 → ∃ m, Lst A m
  | 0, l, h, _, h0, _ => absurd (List.eq_nil_of_length_eq_zero (by omega)) h0
  | k + 1, l, h, hn, h0, hz => by
    by_cases hs : ∃ m : Po p, Nm m ∧ m ≠ [] ∧ m.length < l.length ∧ ev m A = m0
    · obtain ⟨m, m1', m2, m3, m4⟩ := hs
      exact lst_ex A k m (by omega) m1' m2 m4
    · have hl : lead l ≠ 0 := hn.last h0
      have hi := mul_iv (lead l) hl
      refine ⟨psm (iv (lead l)) l, fun z => h0 (List.map_eq_nil_iff.mp z), by rw [lead_psm]; grind, by rw [ev_psm, hz, ms_m0], fun m a b c d => hs ⟨m, a, b, by rwa [psm_len] at c, d⟩⟩
theorem lst_any {n : Nat} (h1 : 1 ≤ n) (h : n ≤ 3) (A : Mt p n n) : ∃ m, Lst A m := lst_ex A _ (chp n A) (Nat.le_refl _) (chp_nm n A) (fun z => by have := chp_len h1 h A; rw [z] at this; cases this) (cay h1 h A)
open Classical in
/-- the least sum -/
noncomputable def mnp (A : Mt p n n) : Po p := if h : ∃ m, Lst A m then Classical.choose h else []
theorem mnp_lst {n : Nat} (h1 : 1 ≤ n) (h : n ≤ 3) (A : Mt p n n) : Lst A (mnp A) := by
  have hx := lst_any h1 h A
  unfold mnp
  rw [dif_pos hx]
  exact Classical.choose_spec hx
theorem mnp_len {n : Nat} (h1 : 1 ≤ n) (h : n ≤ 3) (A : Mt p n n) : 2 ≤ (mnp A).length ∧ (mnp A).length ≤ n + 1 := by
  have hL := mnp_lst h1 h A
  constructor
  · have hp := hL.pos
    refine Nat.lt_of_not_le fun hn => ?_
    have e : (mnp A).length = 1 := by omega
    obtain ⟨c, hc⟩ := List.length_eq_one_iff.mp e
    have hm := hL.mon
    have hz := hL.z
    rw [hc] at hm hz
    have hc1 : c = 1 := hm
    rw [hc1, ev_one] at hz
    have := congrFun (congrFun hz ⟨0, h1⟩) ⟨0, h1⟩
    rw [show (m1 : Mt p n n) ⟨0, h1⟩ ⟨0, h1⟩ = 1 from if_pos rfl] at this
    exact z1 this.symm
  · refine Nat.le_of_not_lt fun hn => ?_
    exact hL.le (chp n A) (chp_nm n A) (fun z => by have := chp_len h1 h A; rw [z] at this; cases this) (by rw [chp_len h1 h]; omega) (cay h1 h A)
theorem mnp_eq {n : Nat} (h1 : 1 ≤ n) (h : n ≤ 3) {A B : Mt p n n} (hf : ∀ f : Po p, ev f A = m0 ↔ ev f B = m0) : mnp A = mnp B := lst_uniq (mnp_lst h1 h A) (mnp_lst h1 h B) hf
theorem mnp_of {n : Nat} (h1 : 1 ≤ n) (h : n ≤ 3) {A : Mt p n n} {l : Po p} (hl : Lst A l) : mnp A = l := lst_uniq (mnp_lst h1 h A) hl fun _ => Iff.rfl
theorem conj_0 {n : Nat} {A P Q : Mt p n n} (h : mm Q P = m1) : mm (mm Q A) P = m0 ↔ A = m0 := by
  have h2 := un_two h
  constructor
  · intro hz
    have : mm (mm P (mm (mm Q A) P)) Q = A := by
      rw [← mm_assoc, ← mm_assoc, h2, m1_m, mm_assoc, h2, mm_1]
    rw [hz, mm_m0, m0_mm] at this
    exact this.symm
  · intro hz
    rw [hz, mm_m0, m0_mm]
theorem mnp_conj {n : Nat} (h1 : 1 ≤ n) (hn : n ≤ 3) {A P Q : Mt p n n} (h : mm Q P = m1) : mnp (mm (mm Q A) P) = mnp A := mnp_eq h1 hn fun f => by rw [ev_conj h]; exact conj_0 h
theorem mnp_t {n : Nat} (h1 : 1 ≤ n) (hn : n ≤ 3) (A : Mt p n n) : mnp (mt A) = mnp A := mnp_eq h1 hn fun f => by
  rw [ev_t]
  exact ⟨fun h => by rw [← mt_mt (ev f A), h]; rfl, fun h => by rw [h]; rfl⟩
/-- what comes to nought, the least divides -/
theorem mnp_div {n : Nat} (h1 : 1 ≤ n) (hn : n ≤ 3) (A : Mt p n n) {f : Po p} (hf : Nm f) (hz : ev f A = m0) : (dv f (mnp A)).2 = [] := by
  have hL := mnp_lst h1 hn A
  obtain ⟨d1, d2, d3, d4⟩ := dv_ok hf hL.nm hL.ne
  refine Classical.byContradiction fun hne => hL.le _ d2 hne d3 ?_
  rw [ev_rest A hf hL.nm hL.ne hL.z, hz]
/-! read off rows -/
def plv {k : Nat} (w : Vc p k) : Po p := (fr k).map w
theorem plv_len {k : Nat} (w : Vc p k) : (plv w).length = k := by unfold plv; rw [List.length_map, fr_len]
theorem plv_co {k : Nat} (w : Vc p k) (i : Fin k) : co (plv w) i.val = w i := by
  unfold plv co
  rw [List.getD_eq_getElem?_getD, List.getElem?_map, fr_get i.isLt]
  rfl
theorem ev_plv (A : Mt p n n) : ∀ {k : Nat} (w : Vc p k) (i j : Fin n), ev (plv w) A i j = sm fun t => w t * mp A t.val i j
  | 0, w, i, j => rfl
  | k + 1, w, i, j => by
    have e : plv w = plv (fun t : Fin k => w t.castSucc) ++ [w (Fin.last k)] := by
      unfold plv fr
      rw [List.finRange_succ_last, List.map_append, List.map_map]
      rfl
    rw [e, ev_snoc, sm_snoc, plv_len, ma_e, ev_plv A]
    rfl
/-- the columns -/
def cols (A : Mt p n n) (k : Nat) : List (Vc p k) := (fr (n * n)).map fun q t => flat (mp A t.val) q
theorem nul_cols (A : Mt p n n) {k : Nat} (w : Vc p k) : nul (cols A k) w ↔ ev (plv w) A = m0 := by
  constructor
  · intro h
    funext i j
    rw [ev_plv]
    have := h (fun t => flat (mp A t.val) ⟨i.val * n + j.val, at_lt i.isLt j.isLt⟩) (List.mem_map.mpr ⟨_, fr_mem _, rfl⟩)
    refine Eq.trans (sm_congr fun t => ?_) this
    have e : flat (mp A t.val) ⟨i.val * n + j.val, at_lt i.isLt j.isLt⟩ = unf (flat (mp A t.val)) i j := rfl
    show w t * mp A t.val i j = flat (mp A t.val) ⟨i.val * n + j.val, at_lt i.isLt j.isLt⟩ * w t
    rw [e, unf_flat]
    grind
  · intro h o ho
    obtain ⟨q, _, rfl⟩ := List.mem_map.mp ho
    have := congrFun (congrFun h ⟨q.val / n, div_lt' q.isLt⟩) ⟨q.val % n, mod_lt' q.isLt⟩
    rw [ev_plv] at this
    exact Eq.trans (sm_congr fun t => (by show flat (mp A t.val) q * w t = w t * flat (mp A t.val) q; grind)) this
theorem plv_z {k : Nat} {w : Vc p k} (h : nm (plv w) = []) : w = vz := by
  funext i
  have := nm_sam (plv w) i.val
  rw [h, co_nil, plv_co] at this
  exact this.symm
theorem cols_none {n : Nat} (h1 : 1 ≤ n) (h : n ≤ 3) (A : Mt p n n) {k : Nat} (hk : k < (mnp A).length) : nu (cols A k) = [] := by
  have hL := mnp_lst h1 h A
  cases hc : nu (cols A k) with
  | nil => rfl
  | cons w l =>
    have hm : w ∈ nu (cols A k) := by rw [hc]; exact List.mem_cons_self
    have hw := (nul_cols A w).mp ((spn_nu _ _).mp (spn_mem hm))
    have hz : nm (plv w) = [] := Classical.byContradiction fun hn => hL.le _ (nm_nm _) hn (Nat.lt_of_le_of_lt (nm_le _) (by rw [plv_len]; exact hk)) (by rw [ev_nm]; exact hw)
    obtain ⟨i, hi⟩ := (nu_rr _).ld w hm
    have := hi.1
    rw [plv_z hz] at this
    exact absurd this z1
theorem cols_some {n : Nat} (h1 : 1 ≤ n) (h : n ≤ 3) (A : Mt p n n) {k : Nat} (hk : k + 1 = (mnp A).length) : nu (cols A (k + 1)) ≠ [] ∧ ∀ w ∈ nu (cols A (k + 1)), w (Fin.last k) ≠ 0 ∧ (plv fun i => iv (w (Fin.last k)) * w i) = mnp A := by
  have hL := mnp_lst h1 h A
  constructor
  · intro hn
    let w : Vc p (k + 1) := fun i => co (mnp A) i.val
    have hw : plv w = mnp A := by
      apply List.ext_getElem (by rw [plv_len, hk])
      intro i a b
      have := plv_co w ⟨i, by rw [plv_len] at a; exact a⟩
      unfold co at this
      rw [List.getD_eq_getElem?_getD, List.getElem?_eq_getElem a] at this
      have e2 : w ⟨i, by rw [plv_len] at a; exact a⟩ = (mnp A)[i] := by
        show (mnp A).getD i 0 = _
        rw [List.getD_eq_getElem?_getD, List.getElem?_eq_getElem b]
        rfl
      rw [← e2, ← this]
      rfl
    have hs := (spn_nu (cols A (k + 1)) w).mpr ((nul_cols A w).mpr (by rw [hw]; exact hL.z))
    rw [hn] at hs
    have hs : w = vz := hs
    have := congrFun hs (Fin.last k)
    have e : w (Fin.last k) = lead (mnp A) := by
      show co (mnp A) k = co (mnp A) ((mnp A).length - 1)
      rw [← hk]
      rfl
    rw [e, hL.mon] at this
    exact z1 this.symm
  · intro w hm
    have hw := (nul_cols A w).mp ((spn_nu _ _).mp (spn_mem hm))
    have hl : w (Fin.last k) ≠ 0 := fun z0 => by
      have hlen : (nm (plv w)).length < (mnp A).length := by
        refine Nat.lt_of_not_le fun hn => ?_
        have hle : (nm (plv w)).length ≤ k + 1 := Nat.le_trans (nm_le _) (by rw [plv_len]; exact Nat.le_refl _)
        have hq : (nm (plv w)).length = k + 1 := by omega
        have := (nm_nm (plv w)).last (fun z => by rw [z] at hq; cases hq)
        rw [hq, nm_sam _ _] at this
        have e : co (plv w) (k + 1 - 1) = w (Fin.last k) := plv_co w (Fin.last k)
        rw [e] at this
        exact this z0
      have hz : nm (plv w) = [] := Classical.byContradiction fun hn => hL.le _ (nm_nm _) hn hlen (by rw [ev_nm]; exact hw)
      obtain ⟨i, hi⟩ := (nu_rr _).ld w hm
      have := hi.1
      rw [plv_z hz] at this
      exact absurd this z1
    refine ⟨hl, (mnp_of h1 h (l := plv fun i => iv (w (Fin.last k)) * w i) ?_).symm⟩
    have hlen : (plv fun i => iv (w (Fin.last k)) * w i).length = k + 1 := plv_len _
    have hlead : lead (plv fun i => iv (w (Fin.last k)) * w i) = 1 := by
      unfold lead
      rw [hlen]
      refine (plv_co (fun i => iv (w (Fin.last k)) * w i) (Fin.last k)).trans ?_
      have := mul_iv _ hl
      grind
    have hps : (plv fun i => iv (w (Fin.last k)) * w i) = psm (iv (w (Fin.last k))) (plv w) := by
      unfold plv psm
      rw [List.map_map]
      rfl
    exact ⟨fun z => (by rw [z] at hlen; cases hlen), hlead, (by rw [hps, ev_psm, hw, ms_m0]), fun m a b c => hL.le m a b (by rw [hlen] at c; omega)⟩
end
end Dz

/-! La16: one form of tables that are alike. -/
namespace Dz
section
variable {p : Nat} [Pr p]
theorem vm_mm {a b c : Nat} (v : Vc p a) (A : Mt p a b) (B : Mt p b c) : vm v (mm A B) = vm (vm v A) B := (congrFun (mm_assoc (fun _ : Fin 1 => v) A B) 0).symm
theorem vm_ma {a b : Nat} (v : Vc p a) (A B : Mt p a b) (j : Fin b) : vm v (ma A B) j = vm v A j + vm v B j := congrFun (congrFun (mm_addr (fun _ : Fin 1 => v) A B) 0) j
theorem vm_ms {a b : Nat} (v : Vc p a) (x : Fin p) (A : Mt p a b) (j : Fin b) : vm v (ms x A) j = x * vm v A j := congrFun (congrFun (mm_sr x (fun _ : Fin 1 => v) A) 0) j
theorem vm_m0 {a b : Nat} (v : Vc p a) (j : Fin b) : vm v (m0 : Mt p a b) j = 0 := congrFun (congrFun (mm_m0 (fun _ : Fin 1 => v)) 0) j
theorem vm2 {c : Nat} (v : Vc p 2) (A : Mt p 2 c) (j : Fin c) : vm v A j = v 0 * A 0 j + v 1 * A 1 j := sm2 _
theorem vm3 {c : Nat} (v : Vc p 3) (A : Mt p 3 c) (j : Fin c) : vm v A j = v 0 * A 0 j + v 1 * A 1 j + v 2 * A 2 j := sm3 _
theorem mm_row {a b c : Nat} (A : Mt p a b) (B : Mt p b c) (i : Fin a) : mm A B i = vm (A i) B := rfl
/-- rows put together -/
def mk2 (u v : Vc p 2) : Mt p 2 2 := fun i => if i = 0 then u else v
def mk3 (u v w : Vc p 3) : Mt p 3 3 := fun i => if i = 0 then u else if i = 1 then v else w
theorem mk2_0 (u v : Vc p 2) : mk2 u v 0 = u := rfl
theorem mk2_1 (u v : Vc p 2) : mk2 u v 1 = v := rfl
theorem mk3_0 (u v w : Vc p 3) : mk3 u v w 0 = u := rfl
theorem mk3_1 (u v w : Vc p 3) : mk3 u v w 1 = v := rfl
theorem mk3_2 (u v w : Vc p 3) : mk3 u v w 2 = w := rfl
def vc2 (a b : Fin p) : Vc p 2 := fun i => if i = 0 then a else b
def vc3 (a b c : Fin p) : Vc p 3 := fun i => if i = 0 then a else if i = 1 then b else c
theorem vc2_0 (a b : Fin p) : vc2 a b 0 = a := rfl
theorem vc2_1 (a b : Fin p) : vc2 a b 1 = b := rfl
theorem vc3_0 (a b c : Fin p) : vc3 a b c 0 = a := rfl
theorem vc3_1 (a b c : Fin p) : vc3 a b c 1 = b := rfl
theorem vc3_2 (a b c : Fin p) : vc3 a b c 2 = c := rfl
/-- the one form: of the least sum and the sum of the slant -/
def nf (n : Nat) (m : Po p) (t : Fin p) : Mt p n n := fun i j =>
  if m.length = 2 then (if i = j then - co m 0 else 0)
  else if m.length = n + 1 then (if i.val + 1 < n then (if j.val = i.val + 1 then 1 else 0) else - co m j.val)
  else if i.val = 0 then (if j.val = 1 then 1 else 0)
  else if i.val = 1 then (if j.val < 2 then - co m j.val else 0)
  else if j.val = 2 then t + co m 1 else 0
theorem len1 {l : Po p} (h : l.length = 2) (hm : lead l = 1) : ∃ a, l = [a, 1] := by
  obtain ⟨a, b, e⟩ : ∃ a b, l = [a, b] := by
    match l, h with
    | [a, b], _ => exact ⟨a, b, rfl⟩
  subst e
  have : b = 1 := hm
  exact ⟨a, by rw [this]⟩
theorem len2 {l : Po p} (h : l.length = 3) (hm : lead l = 1) : ∃ a b, l = [a, b, 1] := by
  obtain ⟨a, b, c, e⟩ : ∃ a b c, l = [a, b, c] := by
    match l, h with
    | [a, b, c], _ => exact ⟨a, b, c, rfl⟩
  subst e
  have : c = 1 := hm
  exact ⟨a, b, by rw [this]⟩
theorem len3 {l : Po p} (h : l.length = 4) (hm : lead l = 1) : ∃ a b c, l = [a, b, c, 1] := by
  obtain ⟨a, b, c, d, e⟩ : ∃ a b c d, l = [a, b, c, d] := by
    match l, h with
    | [a, b, c, d], _ => exact ⟨a, b, c, d, rfl⟩
  subst e
  have : d = 1 := hm
  exact ⟨a, b, c, by rw [this]⟩
theorem ev2_e {n : Nat} (a b : Fin p) (A : Mt p n n) : ev [a, b] A = ma (ms a m1) (ms b A) := by
  show ma (ms a m1) (mm A (ma (ms b m1) (mm A m0))) = _
  simp only [mm_m0, ma_0, mm_sr, mm_1]
/-- a table that is so many times the unit -/
theorem scal {n : Nat} {A : Mt p n n} {a : Fin p} (h : ev [a, 1] A = m0) : A = ms (- a) m1 := by
  rw [ev2_e, ms_1] at h
  funext i j
  have := congrFun (congrFun h i) j
  have : a * (m1 : Mt p n n) i j + A i j = 0 := this
  show A i j = - a * (m1 : Mt p n n) i j
  grind
theorem scal_ev {n : Nat} {A : Mt p n n} {a : Fin p} (h : A = ms a m1) : ev [- a, 1] A = m0 := by
  rw [ev2_e, ms_1, h]
  funext i j
  show - a * (m1 : Mt p n n) i j + a * (m1 : Mt p n n) i j = 0
  grind
theorem nf_scal {n : Nat} {m : Po p} {t : Fin p} (h : m.length = 2) : nf n m t = ms (- co m 0) m1 := by
  funext i j
  unfold nf
  rw [if_pos h]
  show _ = - co m 0 * (if i = j then 1 else 0)
  split <;> grind
theorem nm_lin (a : Fin p) : Nm [a, 1] := fun x hx => by
  have : x = 1 := by simpa using hx.symm
  rw [this]; exact z1.symm
theorem nm_quad (a b : Fin p) : Nm [a, b, 1] := fun x hx => by
  have : x = 1 := by simpa using hx.symm
  rw [this]; exact z1.symm
/-! size 2 -/
theorem cyc2 (A : Mt p 2 2) (h : ∀ a, ev [a, 1] A ≠ m0) : ∃ v, dt 2 (mk2 v (vm v A)) ≠ 0 := by
  refine Classical.byContradiction fun hn => ?_
  have h0 : ∀ v, dt 2 (mk2 v (vm v A)) = 0 := fun v => Classical.byContradiction fun z => hn ⟨v, z⟩
  have e1 := h0 (vc2 1 0)
  have e2 := h0 (vc2 0 1)
  have e3 := h0 (vc2 1 1)
  rw [dt2] at e1 e2 e3
  simp only [mk2_0, mk2_1, vm2, vc2_0, vc2_1] at e1 e2 e3
  refine h (- A 0 0) (scal_ev ?_)
  have a10 : (m1 : Mt p 2 2) 1 0 = 0 := if_neg (by decide)
  have a01 : (m1 : Mt p 2 2) 0 1 = 0 := if_neg (by decide)
  have a00 : (m1 : Mt p 2 2) 0 0 = 1 := if_pos rfl
  have a11 : (m1 : Mt p 2 2) 1 1 = 1 := if_pos rfl
  funext i j
  show A i j = A 0 0 * (m1 : Mt p 2 2) i j
  revert i j
  refine fin2 (fin2 ?_ ?_) (fin2 ?_ ?_)
  · rw [a00]; grind
  · rw [a01]; grind
  · rw [a10]; grind
  · rw [a11]; grind
theorem nf2 (A : Mt p 2 2) {a b : Fin p} (hm : ev [a, b, 1] A = m0) (t : Fin p) (v : Vc p 2) : mm (mk2 v (vm v A)) A = mm (nf 2 [a, b, 1] t) (mk2 v (vm v A)) := by
  rw [ev3_e, ms_1] at hm
  have h2 : ∀ j, a * v j + (b * vm v A j + vm (vm v A) A j) = 0 := fun j => by
    have := congrFun (congrArg (vm v) hm) j
    rw [vm_m0, vm_ma, vm_ma, vm_ms, vm_ms, vm_mm, vm_1] at this
    exact this
  have n00 : nf 2 [a, b, 1] t 0 0 = 0 := rfl
  have n01 : nf 2 [a, b, 1] t 0 1 = 1 := rfl
  have n10 : nf 2 [a, b, 1] t 1 0 = - a := rfl
  have n11 : nf 2 [a, b, 1] t 1 1 = - b := rfl
  funext i j
  rw [mm_row, mm_row, vm2 (nf 2 [a, b, 1] t i), mk2_0, mk2_1]
  revert i
  refine fin2 ?_ ?_
  · rw [mk2_0, n00, n01]; grind
  · rw [mk2_1, n10, n11]; have := h2 j; grind
/-! size 3 -/
theorem base3 (A : Mt p 3 3) (h : ∀ a, ev [a, 1] A ≠ m0) : ∃ v u, dt 3 (mk3 v (vm v A) u) ≠ 0 := by
  refine Classical.byContradiction fun hn => ?_
  have h0 : ∀ v u, dt 3 (mk3 v (vm v A) u) = 0 := fun v u => Classical.byContradiction fun z => hn ⟨v, u, z⟩
  have e1 := h0 (vc3 1 0 0) (vc3 0 1 0)
  have e2 := h0 (vc3 1 0 0) (vc3 0 0 1)
  have e3 := h0 (vc3 0 1 0) (vc3 1 0 0)
  have e4 := h0 (vc3 0 1 0) (vc3 0 0 1)
  have e5 := h0 (vc3 0 0 1) (vc3 1 0 0)
  have e6 := h0 (vc3 0 0 1) (vc3 0 1 0)
  have e7 := h0 (vc3 1 1 0) (vc3 0 0 1)
  have e8 := h0 (vc3 1 0 1) (vc3 0 1 0)
  rw [dt3] at e1 e2 e3 e4 e5 e6 e7 e8
  simp only [mk3_0, mk3_1, mk3_2, vm3, vc3_0, vc3_1, vc3_2] at e1 e2 e3 e4 e5 e6 e7 e8
  refine h (- A 0 0) (scal_ev ?_)
  have a10 : (m1 : Mt p 3 3) 1 0 = 0 := if_neg (by decide)
  have a01 : (m1 : Mt p 3 3) 0 1 = 0 := if_neg (by decide)
  have a02 : (m1 : Mt p 3 3) 0 2 = 0 := if_neg (by decide)
  have a12 : (m1 : Mt p 3 3) 1 2 = 0 := if_neg (by decide)
  have a20 : (m1 : Mt p 3 3) 2 0 = 0 := if_neg (by decide)
  have a21 : (m1 : Mt p 3 3) 2 1 = 0 := if_neg (by decide)
  have a00 : (m1 : Mt p 3 3) 0 0 = 1 := if_pos rfl
  have a11 : (m1 : Mt p 3 3) 1 1 = 1 := if_pos rfl
  have a22 : (m1 : Mt p 3 3) 2 2 = 1 := if_pos rfl
  have b02 : A 0 2 = 0 := by grind
  have b01 : A 0 1 = 0 := by grind
  have b12 : A 1 2 = 0 := by grind
  have b10 : A 1 0 = 0 := by grind
  have b21 : A 2 1 = 0 := by grind
  have b20 : A 2 0 = 0 := by grind
  have b11 : A 1 1 = A 0 0 := by grind
  have b22 : A 2 2 = A 0 0 := by grind
  funext i j
  show A i j = A 0 0 * (m1 : Mt p 3 3) i j
  revert i j
  refine fin3 (fin3 ?_ ?_ ?_) (fin3 ?_ ?_ ?_) (fin3 ?_ ?_ ?_)
  · rw [a00]; grind
  · rw [a01]; grind
  · rw [a02]; grind
  · rw [a10]; grind
  · rw [a11]; grind
  · rw [a12]; grind
  · rw [a20]; grind
  · rw [a21]; grind
  · rw [a22]; grind
def kr3 (v : Vc p 3) (A : Mt p 3 3) : Mt p 3 3 := mk3 v (vm v A) (vm (vm v A) A)
theorem nf3 (A : Mt p 3 3) {a b c : Fin p} (hm : ev [a, b, c, 1] A = m0) (t : Fin p) (v : Vc p 3) : mm (kr3 v A) A = mm (nf 3 [a, b, c, 1] t) (kr3 v A) := by
  rw [ev4_e, ms_1] at hm
  have h2 : ∀ j, a * v j + (b * vm v A j + (c * vm (vm v A) A j + vm (vm (vm v A) A) A j)) = 0 := fun j => by
    have := congrFun (congrArg (vm v) hm) j
    rw [vm_m0, vm_ma, vm_ma, vm_ma, vm_ms, vm_ms, vm_ms, vm_mm, vm_mm, vm_mm, vm_1] at this
    exact this
  have n00 : nf 3 [a, b, c, 1] t 0 0 = 0 := rfl
  have n01 : nf 3 [a, b, c, 1] t 0 1 = 1 := rfl
  have n02 : nf 3 [a, b, c, 1] t 0 2 = 0 := rfl
  have n10 : nf 3 [a, b, c, 1] t 1 0 = 0 := rfl
  have n11 : nf 3 [a, b, c, 1] t 1 1 = 0 := rfl
  have n12 : nf 3 [a, b, c, 1] t 1 2 = 1 := rfl
  have n20 : nf 3 [a, b, c, 1] t 2 0 = - a := rfl
  have n21 : nf 3 [a, b, c, 1] t 2 1 = - b := rfl
  have n22 : nf 3 [a, b, c, 1] t 2 2 = - c := rfl
  unfold kr3
  funext i j
  rw [mm_row, mm_row, vm3 (nf 3 [a, b, c, 1] t i), mk3_0, mk3_1, mk3_2]
  revert i
  refine fin3 ?_ ?_ ?_
  · rw [mk3_0, n00, n01, n02]; grind
  · rw [mk3_1, n10, n11, n12]; grind
  · rw [mk3_2, n20, n21, n22]; have := h2 j; grind
/-- the table with the first row (0, 1, 0) -/
def blk (a b d s1 s2 c : Fin p) : Mt p 3 3 := mk3 (vc3 0 1 0) (vc3 a b d) (vc3 s1 s2 c)
theorem blk_cyc0 (a b d s1 s2 c : Fin p) (h : d ≠ 0) : dt 3 (kr3 (vc3 1 0 0) (blk a b d s1 s2 c)) ≠ 0 := by
  rw [dt3]
  unfold kr3 blk
  simp only [mk3_0, mk3_1, mk3_2, vm3, vc3_0, vc3_1, vc3_2]
  intro z
  apply h
  grind
theorem two3 : (1 + 1 : Fin 3) ≠ 0 := by decide
theorem two5 : (1 + 1 : Fin 5) ≠ 0 := by decide
theorem neg2 : ∀ x y : Fin 2, x * y = - x * y := by decide
theorem two_ne (h : p ≠ 2) : (1 + 1 : Fin p) ≠ 0 := by
  rcases (‹Pr p›).is with e | e | e
  · exact absurd e h
  · subst e; exact two3
  · subst e; exact two5
theorem dec2 : ∀ a b s1 s2 c : Fin 2, (∀ x y : Fin 2, dt 3 (kr3 (vc3 x y 1) (blk a b 0 s1 s2 c)) = 0) → s1 = c * s2 ∧ c * c = b * c + a := by decide +kernel
/-- nothing is left but a sum of degree 2 -/
theorem blk_cyc (a b s1 s2 c : Fin p) (h : ∀ x y : Fin p, dt 3 (kr3 (vc3 x y 1) (blk a b 0 s1 s2 c)) = 0) : s1 = - c * s2 ∧ c * c = b * c + a := by
  by_cases hp : p = 2
  · subst hp
    have := dec2 a b s1 s2 c h
    exact ⟨this.1.trans (neg2 c s2), this.2⟩
  · have h2 := two_ne hp
    have e0 := h 0 0
    have e1 := h 1 0
    have e2 := h (-1) 0
    have e3 := h 0 1
    rw [dt3] at e0 e1 e2 e3
    unfold kr3 blk at e0 e1 e2 e3
    simp only [mk3_0, mk3_1, mk3_2, vm3, vc3_0, vc3_1, vc3_2] at e0 e1 e2 e3
    have hf : c * c = b * c + a := by
      have : (1 + 1) * (c * c - b * c - a) = 0 := by grind
      rcases mul_z this with z | z
      · exact absurd z h2
      · grind
    refine ⟨?_, hf⟩
    have hx : (s1 + c * s2) * (s1 + c * s2) = 0 := by grind
    rcases mul_z hx with z | z <;> grind
end
end Dz

/-! La17: tables are alike just if the ranks of all values are. -/
namespace Dz
section
variable {p : Nat} [Pr p]
theorem m3_00 : (m1 : Mt p 3 3) 0 0 = 1 := if_pos rfl
theorem m3_01 : (m1 : Mt p 3 3) 0 1 = 0 := if_neg (by decide)
theorem m3_02 : (m1 : Mt p 3 3) 0 2 = 0 := if_neg (by decide)
theorem m3_10 : (m1 : Mt p 3 3) 1 0 = 0 := if_neg (by decide)
theorem m3_11 : (m1 : Mt p 3 3) 1 1 = 1 := if_pos rfl
theorem m3_12 : (m1 : Mt p 3 3) 1 2 = 0 := if_neg (by decide)
theorem m3_20 : (m1 : Mt p 3 3) 2 0 = 0 := if_neg (by decide)
theorem m3_21 : (m1 : Mt p 3 3) 2 1 = 0 := if_neg (by decide)
theorem m3_22 : (m1 : Mt p 3 3) 2 2 = 1 := if_pos rfl
theorem ev_blk {a b s1 s2 c : Fin p} (h1 : s1 = - c * s2) (h2 : c * c = b * c + a) : ev [- a, - b, 1] (blk a b 0 s1 s2 c) = m0 := by
  rw [ev3_e, ms_1]
  funext i j
  simp only [ma_e, ms_e, mm3_e]
  show _ = (0 : Fin p)
  unfold blk
  revert i j
  refine fin3 (fin3 ?_ ?_ ?_) (fin3 ?_ ?_ ?_) (fin3 ?_ ?_ ?_) <;> simp only [mk3_0, mk3_1, mk3_2, vc3_0, vc3_1, vc3_2, m3_00, m3_01, m3_02, m3_10, m3_11, m3_12, m3_20, m3_21, m3_22] <;> grind
theorem blk_quad {a b d s1 s2 c m0' m1' : Fin p} (h : ev [m0', m1', 1] (blk a b d s1 s2 c) = m0) : a = - m0' ∧ b = - m1' ∧ d = 0 ∧ s1 = - c * s2 := by
  rw [ev3_e, ms_1] at h
  have e : ∀ i j, m0' * (m1 : Mt p 3 3) i j + (m1' * blk a b d s1 s2 c i j + mm (blk a b d s1 s2 c) (blk a b d s1 s2 c) i j) = 0 := fun i j => congrFun (congrFun h i) j
  have e00 := e 0 0
  have e01 := e 0 1
  have e02 := e 0 2
  have e21 := e 2 1
  unfold blk at e00 e01 e02 e21
  simp only [mm3_e, mk3_0, mk3_1, mk3_2, vc3_0, vc3_1, vc3_2, m3_00, m3_01, m3_02, m3_21] at e00 e01 e02 e21
  refine ⟨by grind, by grind, by grind, by grind⟩
theorem nf_blk {b c s2 m0' m1' : Fin p} (hb : b = - m1') (t : Fin p) (ht : t = b + c) : mm (mk3 (vc3 1 0 0) (vc3 0 1 0) (vc3 (- s2) 0 1)) (blk (- m0') b 0 (- c * s2) s2 c) = mm (nf 3 [m0', m1', 1] t) (mk3 (vc3 1 0 0) (vc3 0 1 0) (vc3 (- s2) 0 1)) := by
  have n00 : nf 3 [m0', m1', 1] t 0 0 = 0 := rfl
  have n01 : nf 3 [m0', m1', 1] t 0 1 = 1 := rfl
  have n02 : nf 3 [m0', m1', 1] t 0 2 = 0 := rfl
  have n10 : nf 3 [m0', m1', 1] t 1 0 = - m0' := rfl
  have n11 : nf 3 [m0', m1', 1] t 1 1 = - m1' := rfl
  have n12 : nf 3 [m0', m1', 1] t 1 2 = 0 := rfl
  have n20 : nf 3 [m0', m1', 1] t 2 0 = 0 := rfl
  have n21 : nf 3 [m0', m1', 1] t 2 1 = 0 := rfl
  have n22 : nf 3 [m0', m1', 1] t 2 2 = t + m1' := rfl
  unfold blk
  funext i j
  simp only [mm3_e]
  revert i j
  refine fin3 (fin3 ?_ ?_ ?_) (fin3 ?_ ?_ ?_) (fin3 ?_ ?_ ?_) <;> simp only [mk3_0, mk3_1, mk3_2, vc3_0, vc3_1, vc3_2, n00, n01, n02, n10, n11, n12, n20, n21, n22] <;> grind
theorem tr_blk (a b d s1 s2 c : Fin p) : tr (blk a b d s1 s2 c) = b + c := by
  rw [tr3_e]
  unfold blk
  simp only [mk3_0, mk3_1, mk3_2, vc3_0, vc3_1, vc3_2]
  grind
theorem blk_of {B : Mt p 3 3} (h0 : B 0 0 = 0) (h1 : B 0 1 = 1) (h2 : B 0 2 = 0) : B = blk (B 1 0) (B 1 1) (B 1 2) (B 2 0) (B 2 1) (B 2 2) := by
  funext i j
  unfold blk
  revert i j
  refine fin3 (fin3 ?_ ?_ ?_) (fin3 ?_ ?_ ?_) (fin3 ?_ ?_ ?_) <;> simp only [mk3_0, mk3_1, mk3_2, vc3_0, vc3_1, vc3_2] <;> first | assumption | rfl
theorem nf_of_blk {B : Mt p 3 3} (h0 : B 0 0 = 0) (h1 : B 0 1 = 1) (h2 : B 0 2 = 0) (hl : 3 ≤ (mnp B).length) : ∃ K, dt 3 K ≠ 0 ∧ mm K B = mm (nf 3 (mnp B) (tr B)) K := by
  have hL := mnp_lst (show 1 ≤ 3 by decide) (show 3 ≤ 3 by decide) B
  have hl2 := (mnp_len (show 1 ≤ 3 by decide) (show 3 ≤ 3 by decide) B).2
  have hB := blk_of h0 h1 h2
  by_cases h4 : (mnp B).length = 4
  · obtain ⟨m0', m1', m2', hm⟩ := len3 h4 hL.mon
    have hz := hL.z
    rw [hm] at hz
    obtain ⟨z, hz'⟩ : ∃ z, dt 3 (kr3 z B) ≠ 0 := by
      refine Classical.byContradiction fun hn => ?_
      have hall : ∀ z, dt 3 (kr3 z B) = 0 := fun z => Classical.byContradiction fun q => hn ⟨z, q⟩
      rw [hB] at hall
      have hd : B 1 2 = 0 := Classical.byContradiction fun q => blk_cyc0 _ _ _ _ _ _ q (hall _)
      rw [hd] at hall
      obtain ⟨r1, r2⟩ := blk_cyc _ _ _ _ _ fun x y => hall (vc3 x y 1)
      have he := ev_blk r1 r2
      have hB' : B = blk (B 1 0) (B 1 1) 0 (B 2 0) (B 2 1) (B 2 2) := by
        conv => lhs; rw [hB, hd]
      rw [← hB'] at he
      exact hL.le [- B 1 0, - B 1 1, 1] (nm_quad _ _) (by simp) (by rw [h4]; exact (show 3 < 4 by decide)) he
    refine ⟨kr3 z B, hz', ?_⟩
    rw [hm]
    exact nf3 B hz (tr B) z
  · have h3 : (mnp B).length = 3 := by omega
    obtain ⟨m0', m1', hm⟩ := len2 h3 hL.mon
    have hz := hL.z
    rw [hm, hB] at hz
    obtain ⟨r1, r2, r3, r4⟩ := blk_quad hz
    rw [hm]
    have ht : tr B = B 1 1 + B 2 2 := by
      have e : tr B = B 0 0 + B 1 1 + B 2 2 := tr3_e B
      rw [e, h0]
      grind
    refine ⟨mk3 (vc3 1 0 0) (vc3 0 1 0) (vc3 (- B 2 1) 0 1), ?_, ?_⟩
    · rw [dt3]
      simp only [mk3_0, mk3_1, mk3_2, vc3_0, vc3_1, vc3_2]
      intro z
      exact z1 (p := p) (by grind)
    · have := nf_blk (m0' := m0') (m1' := m1') (c := B 2 2) (s2 := B 2 1) r2 (tr B) ht
      have hB2 : B = blk (- m0') (B 1 1) 0 (- B 2 2 * B 2 1) (B 2 1) (B 2 2) := by
        conv => lhs; rw [hB]
        rw [r1, r3, r4]
      rw [← hB2] at this
      exact this
theorem nf_ex3 (A : Mt p 3 3) : ∃ K, dt 3 K ≠ 0 ∧ mm K A = mm (nf 3 (mnp A) (tr A)) K := by
  have hL := mnp_lst (show 1 ≤ 3 by decide) (show 3 ≤ 3 by decide) A
  have hl := mnp_len (show 1 ≤ 3 by decide) (show 3 ≤ 3 by decide) A
  by_cases h2 : (mnp A).length = 2
  · obtain ⟨a, ha⟩ := len1 h2 hL.mon
    have hz := hL.z
    rw [ha] at hz
    refine ⟨m1, by rw [dt_1 (by decide)]; exact z1.symm, ?_⟩
    rw [nf_scal h2, mm_1, m1_m]
    conv => lhs; rw [scal hz]
    rw [ha]
    rfl
  · have hns : ∀ a, ev [a, 1] A ≠ m0 := fun a => hL.le [a, 1] (nm_lin a) (by simp) (by show 2 < _; omega)
    obtain ⟨v, u, hd⟩ := base3 A hns
    generalize hK : mk3 v (vm v A) u = K0 at hd
    obtain ⟨L0, hL1, hL2⟩ := (un_dt (by decide) (by decide)).mpr hd
    have hB1 : mnp (mm (mm K0 A) L0) = mnp A := mnp_conj (by decide) (by decide) hL2
    have hB2 : tr (mm (mm K0 A) L0) = tr A := tr_conj hL2
    have hrow : mm (mm K0 A) L0 0 = (m1 : Mt p 3 3) 1 := by
      have e1 : mm (mm K0 A) L0 0 = vm (mm K0 A 0) L0 := rfl
      have e2 : mm K0 A 0 = K0 1 := by rw [← hK]; rfl
      rw [e1, e2, ← hL2]
      rfl
    have hBK : mm (mm (mm K0 A) L0) K0 = mm K0 A := by rw [mm_assoc, hL1, mm_1]
    generalize mm (mm K0 A) L0 = B at *
    obtain ⟨K1, hk, he⟩ := nf_of_blk (B := B) (by rw [hrow]; exact m3_10) (by rw [hrow]; exact m3_11) (by rw [hrow]; exact m3_12) (by rw [hB1]; omega)
    refine ⟨mm K1 K0, ?_, ?_⟩
    · rw [dt_mm (by decide)]
      intro z
      rcases mul_z z with z | z
      · exact hk z
      · exact hd z
    · rw [mm_assoc, ← hBK, ← mm_assoc, he, hB1, hB2, mm_assoc]
theorem nf_ex2 (A : Mt p 2 2) : ∃ K, dt 2 K ≠ 0 ∧ mm K A = mm (nf 2 (mnp A) (tr A)) K := by
  have hL := mnp_lst (show 1 ≤ 2 by decide) (show 2 ≤ 3 by decide) A
  have hl := mnp_len (show 1 ≤ 2 by decide) (show 2 ≤ 3 by decide) A
  by_cases h2 : (mnp A).length = 2
  · obtain ⟨a, ha⟩ := len1 h2 hL.mon
    have hz := hL.z
    rw [ha] at hz
    refine ⟨m1, by rw [dt_1 (by decide)]; exact z1.symm, ?_⟩
    rw [nf_scal h2, mm_1, m1_m]
    conv => lhs; rw [scal hz]
    rw [ha]
    rfl
  · have hns : ∀ a, ev [a, 1] A ≠ m0 := fun a => hL.le [a, 1] (nm_lin a) (by simp) (by show 2 < _; omega)
    obtain ⟨v, hv⟩ := cyc2 A hns
    obtain ⟨a, b, ha⟩ := len2 (show (mnp A).length = 3 by omega) hL.mon
    have hz := hL.z
    rw [ha] at hz
    exact ⟨_, hv, by rw [ha]; exact nf2 A hz (tr A) v⟩
theorem nf_ex1 (A : Mt p 1 1) : ∃ K, dt 1 K ≠ 0 ∧ mm K A = mm (nf 1 (mnp A) (tr A)) K := by
  have hL := mnp_lst (show 1 ≤ 1 by decide) (show 1 ≤ 3 by decide) A
  have hl := mnp_len (show 1 ≤ 1 by decide) (show 1 ≤ 3 by decide) A
  have h2 : (mnp A).length = 2 := by omega
  obtain ⟨a, ha⟩ := len1 h2 hL.mon
  have hz := hL.z
  rw [ha] at hz
  refine ⟨m1, by rw [dt_1 (by decide)]; exact z1.symm, ?_⟩
  rw [nf_scal h2, mm_1, m1_m]
  conv => lhs; rw [scal hz]
  rw [ha]
  rfl
theorem nf_ex {n : Nat} (h1 : 1 ≤ n) (h : n ≤ 3) (A : Mt p n n) : ∃ K, Un K ∧ mm K A = mm (nf n (mnp A) (tr A)) K := by
  have key : ∃ K, dt n K ≠ 0 ∧ mm K A = mm (nf n (mnp A) (tr A)) K := by
    match n, h1, h with
    | 1, _, _ => exact nf_ex1 A
    | 2, _, _ => exact nf_ex2 A
    | 3, _, _ => exact nf_ex3 A
  obtain ⟨K, hk, he⟩ := key
  exact ⟨K, (un_dt h1 h).mpr hk, he⟩
/-! alike -/
def Al {n : Nat} (A B : Mt p n n) : Prop := ∃ X, Un X ∧ mm A X = mm X B
theorem Al.refl {n : Nat} (A : Mt p n n) : Al A A := ⟨m1, ⟨m1, mm_1 _, mm_1 _⟩, by rw [mm_1, m1_m]⟩
theorem Al.symm {n : Nat} {A B : Mt p n n} (h : Al A B) : Al B A := by
  obtain ⟨X, ⟨Y, hY1, hY2⟩, hX⟩ := h
  refine ⟨Y, ⟨X, hY2, hY1⟩, ?_⟩
  have : mm (mm Y (mm A X)) Y = mm (mm Y (mm X B)) Y := by rw [hX]
  rw [← mm_assoc Y X B, hY1, m1_m, ← mm_assoc Y A X, mm_assoc (mm Y A) X Y, hY2, mm_1] at this
  exact this.symm
theorem un_mm {n : Nat} {X Y : Mt p n n} (h : Un X) (g : Un Y) : Un (mm X Y) := by
  obtain ⟨A, a1, a2⟩ := h
  obtain ⟨B, b1, b2⟩ := g
  refine ⟨mm B A, ?_, ?_⟩
  · rw [mm_assoc, ← mm_assoc A X Y, a1, m1_m, b1]
  · rw [mm_assoc, ← mm_assoc Y B A, b2, m1_m, a2]
theorem Al.trans {n : Nat} {A B C : Mt p n n} (h : Al A B) (g : Al B C) : Al A C := by
  obtain ⟨X, hX, h1⟩ := h
  obtain ⟨Y, hY, h2⟩ := g
  exact ⟨mm X Y, un_mm hX hY, by rw [← mm_assoc, h1, mm_assoc, h2, mm_assoc]⟩
theorem al_conj {n : Nat} {A P Q : Mt p n n} (h : mm Q P = m1) : Al A (mm (mm Q A) P) := by
  have h2 := un_two h
  exact ⟨P, ⟨Q, h, h2⟩, by rw [← mm_assoc, ← mm_assoc, h2, m1_m]⟩
theorem Al.conj {n : Nat} {A B : Mt p n n} (h : Al A B) : ∃ P Q, mm Q P = m1 ∧ B = mm (mm Q A) P := by
  obtain ⟨X, ⟨Y, h1, h2⟩, hX⟩ := h
  exact ⟨X, Y, h1, by rw [mm_assoc, hX, ← mm_assoc, h1, m1_m]⟩
theorem al_of {n : Nat} (h1 : 1 ≤ n) (h : n ≤ 3) {A B : Mt p n n} (hm : mnp A = mnp B) (ht : tr A = tr B) : Al A B := by
  obtain ⟨K, hK, e⟩ := nf_ex h1 h A
  obtain ⟨J, hJ, f⟩ := nf_ex h1 h B
  rw [hm, ht] at e
  generalize nf n (mnp B) (tr B) = N at e f
  exact Al.trans (B := N) (Al.symm ⟨K, hK, e.symm⟩) ⟨J, hJ, f.symm⟩
theorem Al.mnp {n : Nat} (h1 : 1 ≤ n) (h : n ≤ 3) {A B : Mt p n n} (hA : Al A B) : mnp A = mnp B := by
  obtain ⟨P, Q, hq, rfl⟩ := hA.conj
  exact (mnp_conj h1 h hq).symm
theorem Al.tr {n : Nat} {A B : Mt p n n} (hA : Al A B) : tr A = tr B := by
  obtain ⟨P, Q, hq, rfl⟩ := hA.conj
  exact (tr_conj hq).symm
theorem Al.chp {n : Nat} (h1 : 1 ≤ n) (h : n ≤ 3) {A B : Mt p n n} (hA : Al A B) : chp n A = chp n B := by
  obtain ⟨P, Q, hq, rfl⟩ := hA.conj
  exact (chp_conj h1 h hq).symm
theorem Al.ev {n : Nat} {A B : Mt p n n} (hA : Al A B) (l : Po p) : Al (ev l A) (ev l B) := by
  obtain ⟨X, hX, e⟩ := hA
  exact ⟨X, hX, ev_carry e l⟩
theorem Al.rk {n : Nat} {A B : Mt p n n} (hA : Al A B) : rkm A = rkm B := by
  obtain ⟨X, hX, e⟩ := hA
  rw [← rkm_unr hX A, e, rkm_unl hX]
theorem al_t {n : Nat} (h1 : 1 ≤ n) (h : n ≤ 3) (A : Mt p n n) : Al A (mt A) := al_of h1 h (mnp_t h1 h A).symm (by rfl)
theorem Al.tt {n : Nat} {A B : Mt p n n} (h : Al A B) : Al (mt A) (mt B) := by
  obtain ⟨P, Q, hq, rfl⟩ := h.conj
  refine Al.symm ⟨mt P, ⟨mt Q, ?_, ?_⟩, ?_⟩
  · rw [← mt_mm, un_two hq, mt_1]
  · rw [← mt_mm, hq, mt_1]
  · rw [mt_mm, mt_mm, mm_assoc, mm_assoc, ← mt_mm, un_two hq, mt_1, mm_1]
theorem rkm_zero {r n : Nat} {A : Mt p r n} (h : rkm A = 0) : A = m0 := by
  have hr : red (rws A) = [] := List.eq_nil_of_length_eq_zero h
  funext i
  have h1 : spn (rws A) (A i) := spn_mem (rws_mem.mpr ⟨i, rfl⟩)
  have h2 := (red_spn (rws A) (A i)).mpr h1
  rw [hr] at h2
  exact h2
/-- the ranks of all values up to the size -/
def Rks {n : Nat} (A B : Mt p n n) : Prop := ∀ f : Po p, lead f = 1 → 2 ≤ f.length → f.length ≤ n + 1 → rkm (ev f A) = rkm (ev f B)
theorem rks_mnp {n : Nat} (h1 : 1 ≤ n) (h : n ≤ 3) {A B : Mt p n n} (hr : Rks A B) : mnp A = mnp B := by
  have key : ∀ A B : Mt p n n, Rks A B → ev (mnp A) B = m0 := fun A B hr => by
    have hL := mnp_lst h1 h A
    have hl := mnp_len h1 h A
    have := hr (mnp A) hL.mon hl.1 hl.2
    rw [hL.z, rkm_0] at this
    exact rkm_zero this.symm
  have hA := mnp_lst h1 h A
  have hB := mnp_lst h1 h B
  have a1 := key A B hr
  have a2 := key B A fun f x y z => (hr f x y z).symm
  refine lst_uniq hA ⟨hB.ne, hB.mon, a2, fun m x y z => ?_⟩ fun f => Iff.rfl
  refine hA.le m x y (Nat.lt_of_lt_of_le z ?_)
  exact Nat.le_of_not_lt fun q => hB.le _ hA.nm hA.ne q a1
theorem mnp_chp {n : Nat} (h1 : 1 ≤ n) (h : n ≤ 3) {A : Mt p n n} (hl : (mnp A).length = n + 1) : mnp A = chp n A := mnp_of h1 h ⟨fun z => (by have := chp_len h1 h A; rw [z] at this; cases this), chp_lead h1 h A, cay h1 h A, fun m a b c => (mnp_lst h1 h A).le m a b (by rw [chp_len h1 h A] at c; omega)⟩
theorem rk_lo (a b c e : Fin p) (he : e ≠ 0) : 2 ≤ rkm (mk3 (vc3 a 1 0) (vc3 b c 0) (vc3 0 0 e)) := by
  have h1 : rkm (mk2 (vc2 1 0) (vc2 0 e)) ≤ rkm (mk3 (vc3 a 1 0) (vc3 b c 0) (vc3 0 0 e)) := by
    refine rkm_sel (fun i => if i = 0 then 0 else 2) (fun j => if j = 0 then 1 else 2) ?_
    refine fin2 (fin2 ?_ ?_) (fin2 ?_ ?_) <;> rfl
  have h2 : rkm (mk2 (vc2 1 0) (vc2 0 e)) = 2 := (rk_dt (by decide) (by decide)).mpr (by
    rw [dt2]
    simp only [mk2_0, mk2_1, vc2_0, vc2_1]
    intro z
    apply he
    grind)
  omega
theorem rk_hi (a c k : Fin p) : rkm (mk3 (vc3 a 1 0) (vc3 (k * a) k 0) (vc3 0 0 0)) ≤ 1 := by
  refine rk_len (M := [vc3 a 1 0]) fun v hv => spn_mono (fun o ho => ?_) hv
  obtain ⟨i, rfl⟩ := rws_mem.mp ho
  revert i
  have hs := spn_mem (p := p) (L := [vc3 a 1 0]) (o := vc3 a 1 0) (by simp)
  refine fin3 ?_ ?_ ?_
  · intro _; exact hs
  · intro _
    have := (spn_sb [vc3 a 1 0]).mul hs k
    have e : (fun i => k * vc3 a 1 0 i) = vc3 (k * a) k 0 := by
      funext j
      revert j
      refine fin3 ?_ ?_ ?_ <;> simp only [vc3_0, vc3_1, vc3_2] <;> grind
    rw [e] at this
    exact this
  · intro _
    have e : vc3 0 0 0 = (vz : Vc p 3) := by
      funext j
      revert j
      refine fin3 ?_ ?_ ?_ <;> rfl
    rw [mk3_2, e]
    exact (spn_sb _).z
theorem nf_less (a b t x : Fin p) : ev [- x, 1] (nf 3 [a, b, 1] t) = mk3 (vc3 (- x) 1 0) (vc3 (- a) (- b - x) 0) (vc3 0 0 (t + b - x)) := by
  have n00 : nf 3 [a, b, 1] t 0 0 = 0 := rfl
  have n01 : nf 3 [a, b, 1] t 0 1 = 1 := rfl
  have n02 : nf 3 [a, b, 1] t 0 2 = 0 := rfl
  have n10 : nf 3 [a, b, 1] t 1 0 = - a := rfl
  have n11 : nf 3 [a, b, 1] t 1 1 = - b := rfl
  have n12 : nf 3 [a, b, 1] t 1 2 = 0 := rfl
  have n20 : nf 3 [a, b, 1] t 2 0 = 0 := rfl
  have n21 : nf 3 [a, b, 1] t 2 1 = 0 := rfl
  have n22 : nf 3 [a, b, 1] t 2 2 = t + b := rfl
  rw [ev2_e, ms_1]
  funext i j
  simp only [ma_e, ms_e]
  revert i j
  refine fin3 (fin3 ?_ ?_ ?_) (fin3 ?_ ?_ ?_) (fin3 ?_ ?_ ?_) <;> simp only [mk3_0, mk3_1, mk3_2, vc3_0, vc3_1, vc3_2, n00, n01, n02, n10, n11, n12, n20, n21, n22, m3_00, m3_01, m3_02, m3_10, m3_11, m3_12, m3_20, m3_21, m3_22] <;> grind
theorem rks_tr {n : Nat} (h1 : 1 ≤ n) (h : n ≤ 3) {A B : Mt p n n} (hr : Rks A B) : tr A = tr B := by
  have hm := rks_mnp h1 h hr
  have hl := mnp_len h1 h A
  have hLA := mnp_lst h1 h A
  have hLB := mnp_lst h1 h B
  by_cases hc : (mnp A).length = n + 1
  · have e1 := mnp_chp h1 h hc
    have e2 := mnp_chp h1 h (A := B) (by rw [← hm]; exact hc)
    have a1 := chp_tr h1 h A
    have a2 := chp_tr h1 h B
    rw [← e1, hm, e2, a2] at a1
    grind
  · by_cases h2 : (mnp A).length = 2
    · obtain ⟨a, ha⟩ := len1 h2 hLA.mon
      have za := hLA.z
      have zb := hLB.z
      rw [← hm] at zb
      rw [ha] at za zb
      rw [scal za, scal zb]
    · have hn : n = 3 := by omega
      subst hn
      obtain ⟨a, b, hab⟩ := len2 (show (mnp A).length = 3 by omega) hLA.mon
      obtain ⟨K, hK, eK⟩ := nf_ex h1 h A
      obtain ⟨J, hJ, eJ⟩ := nf_ex h1 h B
      rw [← hm] at eJ
      rw [hab] at eK eJ
      refine Classical.byContradiction fun hne => ?_
      let x := tr A + b
      have hrx := hr [- x, 1] rfl (show 2 ≤ 2 by decide) (show 2 ≤ 4 by decide)
      have alA : Al (nf 3 [a, b, 1] (tr A)) A := ⟨K, hK, eK.symm⟩
      have alB : Al (nf 3 [a, b, 1] (tr B)) B := ⟨J, hJ, eJ.symm⟩
      rw [← (alA.ev [- x, 1]).rk, ← (alB.ev [- x, 1]).rk, nf_less, nf_less] at hrx
      have hroot : a + b * x + x * x = 0 := by
        have hz : ev [a, b, 1] (nf 3 [a, b, 1] (tr A)) = m0 := by
          have hz := hLA.z
          rw [hab] at hz
          obtain ⟨P, Q, hq, e⟩ := (alA.symm.ev [a, b, 1]).conj
          rw [e, hz, mm_m0, m0_mm]
        rw [ev3_e, ms_1] at hz
        have h22 : a * (m1 : Mt p 3 3) 2 2 + (b * nf 3 [a, b, 1] (tr A) 2 2 + mm (nf 3 [a, b, 1] (tr A)) (nf 3 [a, b, 1] (tr A)) 2 2) = 0 := congrFun (congrFun hz 2) 2
        have n02 : nf 3 [a, b, 1] (tr A) 0 2 = 0 := rfl
        have n12 : nf 3 [a, b, 1] (tr A) 1 2 = 0 := rfl
        have n22 : nf 3 [a, b, 1] (tr A) 2 2 = x := rfl
        rw [mm3_e, n02, n12, n22, m3_22] at h22
        grind
      have u1 := rk_hi (- x) 0 (- b - x)
      have e1 : (- b - x) * - x = - a := by grind
      have e2 : tr A + b - x = 0 := by show tr A + b - (tr A + b) = 0; grind
      rw [e1] at u1
      rw [e2] at hrx
      have u2 := rk_lo (- x) (- a) (- b - x) (tr B + b - x) (fun z => hne (by
        have : tr B + b - (tr A + b) = 0 := z
        grind))
      omega
theorem al_iff {n : Nat} (h1 : 1 ≤ n) (h : n ≤ 3) {A B : Mt p n n} : Al A B ↔ Rks A B := ⟨fun hA f _ _ _ => (hA.ev f).rk, fun hr => al_of h1 h (rks_mnp h1 h hr) (rks_tr h1 h hr)⟩
end
end Dz

/-! La18: all sums of a degree. -/
namespace Dz
section
variable {p : Nat} [Pr p]
theorem lead_cons (c : Fin p) {l : Po p} (h : l ≠ []) : lead (c :: l) = lead l := by
  unfold lead
  have : 0 < l.length := List.length_pos_iff.mpr h
  rw [show (c :: l).length - 1 = (l.length - 1) + 1 by simp; omega, co_s]
def apw (p : Nat) [Pr p] : Nat → List (Po p)
  | 0 => [[1]]
  | d + 1 => (apw p d).flatMap fun l => (fr p).map fun c => c :: l
theorem apw_mem : ∀ (d : Nat) (f : Po p), f ∈ apw p d ↔ f.length = d + 1 ∧ lead f = 1
  | 0, f => by
    show f ∈ [[1]] ↔ _
    rw [List.mem_singleton]
    constructor
    · rintro rfl
      exact ⟨rfl, rfl⟩
    · rintro ⟨h1, h2⟩
      obtain ⟨c, rfl⟩ := List.length_eq_one_iff.mp h1
      rw [show c = 1 from h2]
  | d + 1, f => by
    show f ∈ (apw p d).flatMap _ ↔ _
    rw [List.mem_flatMap]
    constructor
    · rintro ⟨l, hl, hf⟩
      obtain ⟨c, _, rfl⟩ := List.mem_map.mp hf
      obtain ⟨h1, h2⟩ := (apw_mem d l).mp hl
      have hne : l ≠ [] := fun z => by rw [z] at h1; cases h1
      exact ⟨by rw [List.length_cons, h1], by rw [lead_cons c hne, h2]⟩
    · rintro ⟨h1, h2⟩
      match f, h1 with
      | c :: l, h1 =>
        have h1' : l.length = d + 1 := by simpa using h1
        have hne : l ≠ [] := fun z => by rw [z] at h1'; cases h1'
        rw [lead_cons c hne] at h2
        exact ⟨l, (apw_mem d l).mpr ⟨h1', h2⟩, List.mem_map.mpr ⟨c, fr_mem c, rfl⟩⟩
theorem flatMap_len {α β : Type} {g : α → List β} {k : Nat} : ∀ {l : List α}, (∀ a ∈ l, (g a).length = k) → (l.flatMap g).length = l.length * k
  | [], _ => by simp
  | a :: l, h => by
    rw [List.flatMap_cons, List.length_append, h a List.mem_cons_self, flatMap_len fun b hb => h b (List.mem_cons_of_mem _ hb), List.length_cons, Nat.succ_mul, Nat.add_comm]
theorem apw_len : ∀ d : Nat, (apw p d).length = p ^ d
  | 0 => rfl
  | d + 1 => by
    show ((apw p d).flatMap fun l => (fr p).map fun c => c :: l).length = _
    rw [flatMap_len (k := p) fun l _ => by rw [List.length_map, fr_len], apw_len d, Nat.pow_succ]
noncomputable instance alDec {n : Nat} (A B : Mt p n n) : Decidable (Al A B) := Classical.propDecidable _
theorem isPow_P {f : Po p} (hl : f.length ≤ 7) (hf : Nm f) : isPow p (eP f) = true := by
  have h1 : (f.map eI).all (isRest p) = true := List.all_eq_true.mpr fun d hd => by
    obtain ⟨x, _, rfl⟩ := List.mem_map.mp hd
    show (decide ((0 : Int) ≤ ((x.val : Nat) : Int)) && decide (((x.val : Nat) : Int) < (p : Int))) = true
    have := x.isLt
    rw [decide_eq_true (by omega), decide_eq_true (by omega)]
    rfl
  show ((decide ((f.map eI).length ≤ 7) && (f.map eI).all (isRest p)) && ((f.map eI).isEmpty || !last0 (f.map eI))) = true
  rw [h1, List.length_map, decide_eq_true hl]
  cases hx : f.getLast? with
  | none =>
    have : f = [] := List.getLast?_eq_none_iff.mp hx
    rw [this]
    rfl
  | some x =>
    have hne := hf x hx
    have h2 : last0 (f.map eI) = false := by
      unfold last0
      rw [List.getLast?_map, hx]
      show decide (((x.val : Nat) : Int) = 0) = false
      refine decide_eq_false fun z => hne (Fin.ext ?_)
      rw [zero_val]
      omega
    rw [h2]
    simp
end
end Dz

/-! La19: the sum of powers that comes to a table. -/
namespace Dz
section
variable {p : Nat} [Pr p] {n : Nat}
/-- the columns of the powers and of a table -/
def colx (A X : Mt p n n) (d : Nat) : List (Vc p (d + 1)) := (fr (n * n)).map fun q t => if t.val < d then flat (mp A t.val) q else flat X q
theorem nul_colx (A X : Mt p n n) {d : Nat} (w : Vc p (d + 1)) : nul (colx A X d) w ↔ ma (ev (plv fun t : Fin d => w t.castSucc) A) (ms (w (Fin.last d)) X) = m0 := by
  have key : ∀ (i j : Fin n) (q : Fin (n * n)), (∀ Y : Mt p n n, flat Y q = Y i j) → (dot (fun t : Fin (d + 1) => if t.val < d then flat (mp A t.val) q else flat X q) w = 0 ↔ ma (ev (plv fun t : Fin d => w t.castSucc) A) (ms (w (Fin.last d)) X) i j = 0) := by
    intro i j q hq
    have g1 : ∀ t : Fin d, (if t.castSucc.val < d then flat (mp A t.castSucc.val) q else flat X q) = mp A t.val i j := fun t => (if_pos (show t.castSucc.val < d from t.isLt)).trans (hq _)
    have g2 : (if (Fin.last d).val < d then flat (mp A (Fin.last d).val) q else flat X q) = X i j := (if_neg (show ¬ (Fin.last d).val < d from Nat.lt_irrefl d)).trans (hq _)
    have e : dot (fun t : Fin (d + 1) => if t.val < d then flat (mp A t.val) q else flat X q) w = (sm fun t : Fin d => w t.castSucc * mp A t.val i j) + w (Fin.last d) * X i j := by
      unfold dot
      rw [sm_snoc]
      have e1 : (sm fun t : Fin d => (if t.castSucc.val < d then flat (mp A t.castSucc.val) q else flat X q) * w t.castSucc) = sm fun t : Fin d => w t.castSucc * mp A t.val i j := sm_congr fun t => by
        rw [g1]
        grind
      refine congr (congrArg _ e1) ?_
      show (if (Fin.last d).val < d then flat (mp A (Fin.last d).val) q else flat X q) * w (Fin.last d) = _
      rw [g2]
      grind
    rw [e, ma_e, ms_e, ev_plv]
  constructor
  · intro h
    funext i j
    refine (key i j ⟨i.val * n + j.val, at_lt i.isLt j.isLt⟩ fun Y => ?_).mp (h _ (List.mem_map.mpr ⟨_, fr_mem _, rfl⟩))
    have : flat Y ⟨i.val * n + j.val, at_lt i.isLt j.isLt⟩ = unf (flat Y) i j := rfl
    rw [this, unf_flat]
  · intro h o ho
    obtain ⟨q, _, rfl⟩ := List.mem_map.mp ho
    exact (key _ _ q fun Y => rfl).mpr (congrFun (congrFun h ⟨q.val / n, div_lt' q.isLt⟩) ⟨q.val % n, mod_lt' q.isLt⟩)
/-- what powers_for tells -/
structure Pf (A X : Mt p n n) (o : Option (Po p)) : Prop where
  so : ∀ f, o = some f → Nm f ∧ f.length < (mnp A).length ∧ ev f A = X
  no : o = none → ∀ f : Po p, ev f A ≠ X
theorem short_uniq {n : Nat} (h1 : 1 ≤ n) (h : n ≤ 3) {A : Mt p n n} {f g : Po p} (hf : Nm f) (hg : Nm g) (lf : f.length < (mnp A).length) (lg : g.length < (mnp A).length) (e : ev f A = ev g A) : f = g := by
  have hL := mnp_lst h1 h A
  have hz : ev (nm (pad f (psm (-1) g))) A = m0 := by
    rw [ev_nm, ev_pad, ev_psm, e]
    funext i j
    show ev g A i j + -1 * ev g A i j = 0
    grind
  have hn : nm (pad f (psm (-1) g)) = [] := Classical.byContradiction fun hn => hL.le _ (nm_nm _) hn (Nat.lt_of_le_of_lt (nm_le _) (by rw [pad_len, psm_len]; omega)) hz
  refine nm_ext hf hg fun k => ?_
  have := nm_sam (pad f (psm (-1) g)) k
  rw [hn, co_nil, co_pad, co_psm] at this
  grind
theorem pf_of {n : Nat} (h1 : 1 ≤ n) (h : n ≤ 3) {A X : Mt p n n} {o : Option (Po p)} (hp : Pf A X o) {f : Po p} (hf : Nm f) (lf : f.length < (mnp A).length) (e : ev f A = X) : o = some f := by
  cases o with
  | none => exact absurd e (hp.no rfl f)
  | some g =>
    obtain ⟨a, b, c⟩ := hp.so g rfl
    rw [short_uniq h1 h a hf b lf (c.trans e.symm)]
theorem pf_eq {n : Nat} (h1 : 1 ≤ n) (h : n ≤ 3) {A B X Y : Mt p n n} {o o' : Option (Po p)} (hp : Pf A X o) (hq : Pf B Y o') (hm : mnp A = mnp B) (hf : ∀ f : Po p, ev f A = X ↔ ev f B = Y) : o = o' := by
  cases o with
  | some f =>
    obtain ⟨a, b, c⟩ := hp.so f rfl
    exact (pf_of h1 h hq a (by rw [← hm]; exact b) ((hf f).mp c)).symm
  | none =>
    cases o' with
    | none => rfl
    | some g =>
      obtain ⟨a, b, c⟩ := hq.so g rfl
      exact absurd ((hf g).mpr c) (hp.no rfl g)
/-- a short one for each -/
theorem ev_short {n : Nat} (h1 : 1 ≤ n) (h : n ≤ 3) (A : Mt p n n) (f : Po p) : ∃ g : Po p, Nm g ∧ g.length < (mnp A).length ∧ ev g A = ev f A := by
  have hL := mnp_lst h1 h A
  obtain ⟨d1, d2, d3, d4⟩ := dv_ok (nm_nm f) hL.nm hL.ne
  exact ⟨_, d2, d3, by rw [ev_rest A (nm_nm f) hL.nm hL.ne hL.z, ev_nm]⟩
theorem plv_of {k : Nat} {f : Po p} (h : f.length ≤ k) : sam (plv fun t : Fin k => co f t.val) f := fun j => by
  by_cases hj : j < k
  · exact plv_co (fun t : Fin k => co f t.val) ⟨j, hj⟩
  · rw [co_ge (l := plv fun t : Fin k => co f t.val) (by rw [plv_len]; omega), co_ge (l := f) (by omega)]
theorem colx_none {n : Nat} (h1 : 1 ≤ n) (h : n ≤ 3) {A X : Mt p n n} {d : Nat} (hd : d + 1 = (mnp A).length) (hz : ∀ w ∈ nu (colx A X d), w (Fin.last d) = 0) (f : Po p) : ev f A ≠ X := fun e => by
  obtain ⟨g, _, g2, g3⟩ := ev_short h1 h A f
  let w : Vc p (d + 1) := fun t => if t.val < d then co g t.val else -1
  have hw1 : (fun t : Fin d => w t.castSucc) = fun t : Fin d => co g t.val := funext fun t => if_pos t.isLt
  have hw2 : w (Fin.last d) = -1 := if_neg (Nat.lt_irrefl d)
  have hn : nul (colx A X d) w := by
    rw [nul_colx, hw1, hw2, ev_sam A (plv_of (by omega)), g3, e]
    funext i j
    show X i j + -1 * X i j = 0
    grind
  have hS : Sb fun v : Vc p (d + 1) => v (Fin.last d) = 0 := ⟨rfl, fun x v w hv hw => by
    show v (Fin.last d) + x * w (Fin.last d) = 0
    rw [hv, hw]
    grind⟩
  have := spn_le hS hz ((spn_nu _ _).mpr hn)
  rw [hw2] at this
  exact z1 (p := p) (by grind)
theorem colx_some {A X : Mt p n n} {d : Nat} {w : Vc p (d + 1)} (hw : w ∈ nu (colx A X d)) {x : Fin p} (hx : x * w (Fin.last d) = -1) : ev (nm (plv fun t : Fin d => x * w t.castSucc)) A = X := by
  have h1 := (nul_colx A X w).mp ((spn_nu _ _).mp (spn_mem hw))
  have h2 : (plv fun t : Fin d => x * w t.castSucc) = psm x (plv fun t : Fin d => w t.castSucc) := by
    unfold plv psm
    rw [List.map_map]
    rfl
  rw [ev_nm, h2, ev_psm]
  funext i j
  have := congrFun (congrFun h1 i) j
  have : ev (plv fun t : Fin d => w t.castSucc) A i j + w (Fin.last d) * X i j = 0 := this
  show x * ev (plv fun t : Fin d => w t.castSucc) A i j = X i j
  have h3 : x * (ev (plv fun t : Fin d => w t.castSucc) A i j + w (Fin.last d) * X i j) = 0 := by rw [this]; grind
  grind
end
end Dz

/-! La20: what carries, and the whole sum's value. -/
namespace Dz
section
variable {p : Nat} [Pr p] {r c : Nat}
/-- the steps between f(A) C and C f(B) -/
def tel (A : Mt p r r) (B : Mt p c c) (C : Mt p r c) : Po p → Mt p r c
  | [] => m0
  | _ :: l => ma (mm A (tel A B C l)) (mm C (ev l B))
theorem tel_ok (A : Mt p r r) (B : Mt p c c) (C : Mt p r c) : ∀ l : Po p, ma (mm A (tel A B C l)) (mm C (ev l B)) = ma (mm (tel A B C l) B) (mm (ev l A) C)
  | [] => by
    show ma (mm A m0) (mm C m0) = ma (mm m0 B) (mm m0 C)
    rw [mm_m0, mm_m0, m0_mm, m0_mm]
  | a :: l => by
    have ih := tel_ok A B C l
    show ma (mm A (ma (mm A (tel A B C l)) (mm C (ev l B)))) (mm C (ma (ms a m1) (mm B (ev l B)))) = ma (mm (ma (mm A (tel A B C l)) (mm C (ev l B))) B) (mm (ma (ms a m1) (mm A (ev l A))) C)
    rw [ih]
    rw [mm_addr A, mm_addr C, mm_addl _ _ C, mm_sr, mm_sl, mm_1, m1_m]
    rw [← ih, mm_addl, ev_comm B l]
    simp only [mm_assoc]
    generalize mm A (mm (tel A B C l) B) = x
    generalize mm A (mm (ev l A) C) = y
    generalize mm C (mm (ev l B) B) = z
    generalize ms a C = w
    rw [ma_4, ma_4 x z w y, ma_comm y z]
/-- one column of the steps -/
def qj (z : Vc p c) (B : Mt p c c) (j : Fin c) : Po p → Po p
  | [] => []
  | _ :: l => vm z (ev l B) j :: qj z B j l
theorem qj_len (z : Vc p c) (B : Mt p c c) (j : Fin c) : ∀ l : Po p, (qj z B j l).length = l.length
  | [] => rfl
  | _ :: l => congrArg (· + 1) (qj_len z B j l)
theorem qj_top (z : Vc p c) (B : Mt p c c) (j : Fin c) : ∀ l : Po p, co (qj z B j l) (l.length - 1) = 0
  | [] => by simp [qj, co]
  | [a] => vm_m0 z j
  | a :: b :: l => (co_s _ _ _).trans (qj_top z B j (b :: l))
theorem qj_two (z : Vc p c) (B : Mt p c c) (j : Fin c) : ∀ (l : Po p), 2 ≤ l.length → lead l = 1 → co (qj z B j l) (l.length - 2) = z j
  | [], h, _ => by cases h
  | [a], h, _ => by simp at h
  | [a, b], _, h => by
    have hb : b = 1 := h
    subst hb
    show vm z (ev [1] B) j = z j
    rw [ev_one, vm_1]
  | a :: b :: d :: l, _, h => (co_s _ _ _).trans (qj_two z B j (b :: d :: l) (by simp) h)
def outer (k : Fin r) (z : Vc p c) : Mt p r c := fun i j => (m1 : Mt p r r) i k * z j
theorem mm_outer {d : Nat} (k : Fin r) (z : Vc p c) (B : Mt p c d) (i : Fin r) (j : Fin d) : mm (outer k z) B i j = (m1 : Mt p r r) i k * vm z B j := by
  show (sm fun t => (m1 : Mt p r r) i k * z t * B t j) = (m1 : Mt p r r) i k * sm fun t => z t * B t j
  rw [← sm_mul]
  exact sm_congr fun t => by grind
theorem tel_outer (A : Mt p r r) (B : Mt p c c) (k : Fin r) (z : Vc p c) (j : Fin c) : ∀ (l : Po p) (i : Fin r), tel A B (outer k z) l i j = ev (qj z B j l) A i k
  | [], i => rfl
  | a :: l, i => by
    show mm A (tel A B (outer k z) l) i j + mm (outer k z) (ev l B) i j = vm z (ev l B) j * (m1 : Mt p r r) i k + mm A (ev (qj z B j l) A) i k
    rw [mm_outer]
    have : mm A (tel A B (outer k z) l) i j = mm A (ev (qj z B j l) A) i k := by
      show (sm fun t => A i t * tel A B (outer k z) l t j) = sm fun t => A i t * ev (qj z B j l) A t k
      exact sm_congr fun t => by rw [tel_outer A B k z j l t]
    rw [this]
    grind
/-- where the least sum's value can not be undone, something carries -/
theorem carry_of {A : Mt p r r} {B : Mt p c c} {m : Po p} (hm : Lst A m) (h2 : 2 ≤ m.length) {z : Vc p c} (hz : z ≠ vz) (hv : vm z (ev m B) = vz) : ∃ X : Mt p r c, X ≠ m0 ∧ mm A X = mm X B := by
  apply Classical.byContradiction
  intro hno
  have hno' : ∀ X : Mt p r c, mm A X = mm X B → X = m0 := fun X hX => Classical.byContradiction fun h0 => hno ⟨X, h0, hX⟩
  have ht : ∀ k : Fin r, tel A B (outer k z) m = m0 := fun k => hno' _ (by
    have e := tel_ok A B (outer k z) m
    have e1 : mm (outer k z) (ev m B) = m0 := by
      funext i j
      rw [mm_outer, hv]
      show _ * (0 : Fin p) = 0
      grind
    rw [e1, hm.z, m0_mm, ma_0, ma_0] at e
    exact e)
  obtain ⟨j, hj⟩ : ∃ j, z j ≠ 0 := Classical.byContradiction fun h => hz (funext fun j => Classical.byContradiction fun g => h ⟨j, g⟩)
  have h0 : ev (qj z B j m) A = m0 := by
    funext i k
    rw [← tel_outer A B k z j m i, ht k]
    rfl
  have hne : nm (qj z B j m) ≠ [] := fun e => by
    have q := nm_sam (qj z B j m) (m.length - 2)
    rw [e, co_nil, qj_two z B j m h2 hm.mon] at q
    exact hj q.symm
  have hs : sam (nm (qj z B j m)) ((qj z B j m).take (m.length - 1)) := (nm_sam _).trans fun k => by
    by_cases hk : k < m.length - 1
    · unfold co
      rw [List.getD_eq_getElem?_getD, List.getD_eq_getElem?_getD, List.getElem?_take_of_lt hk]
    · rw [co_ge (l := (qj z B j m).take (m.length - 1)) (by rw [List.length_take]; omega)]
      by_cases hk2 : k = m.length - 1
      · rw [hk2]; exact qj_top z B j m
      · exact co_ge (by rw [qj_len]; omega)
  have hl := nm_len (nm_nm (qj z B j m)) hs
  rw [List.length_take, qj_len] at hl
  exact hm.le _ (nm_nm _) hne (by omega) (by rw [ev_nm]; exact h0)
theorem vm_zero_of {n : Nat} (h1 : 1 ≤ n) (h : n ≤ 3) {M : Mt p n n} (hM : dt n M = 0) : ∃ z : Vc p n, z ≠ vz ∧ vm z M = vz := by
  have hk : rkm (mt M) ≠ n := fun e => (rk_dt h1 h).mp e (by rw [dt_t h, hM])
  have hl := nu_len (rws (mt M))
  have hn := rkm_n (mt M)
  have hk' : rk (rws (mt M)) ≠ n := hk
  have hn' : rk (rws (mt M)) ≤ n := hn
  cases hv : nu (rws (mt M)) with
  | nil => rw [hv] at hl; simp at hl; omega
  | cons w ws =>
    have hmem : w ∈ nu (rws (mt M)) := by rw [hv]; exact List.mem_cons_self
    refine ⟨w, fun e => ?_, funext fun j => ?_⟩
    · obtain ⟨i, hi⟩ := (nu_rr (rws (mt M))).ld w hmem
      have h1 := hi.1
      rw [e] at h1
      exact z1 h1
    · have := (spn_nu (rws (mt M)) w).mp (spn_mem hmem) _ (rws_mem.mpr ⟨j, rfl⟩)
      rw [dot_comm] at this
      exact this
/-- .. can be undone: nothing carries -/
theorem no_carry {A : Mt p r r} {B : Mt p c c} {f : Po p} (hf : ev f A = m0) (hu : Un (ev f B)) {X : Mt p r c} (hX : mm A X = mm X B) : X = m0 := by
  obtain ⟨V, h1, h2⟩ := hu
  have e := ev_carry hX f
  rw [hf, m0_mm] at e
  have : mm (mm X (ev f B)) V = m0 := by rw [← e, m0_mm]
  rwa [mm_assoc, h2, mm_1] at this
theorem un_both {n : Nat} {A B : Mt p n n} (hA : Un A) (hB : Un B) : Un (mm A B) := un_mm hA hB
theorem un_left {n : Nat} (h1 : 1 ≤ n) (h : n ≤ 3) {A B : Mt p n n} (hu : Un (mm A B)) : Un A ∧ Un B := by
  have := (un_dt h1 h).mp hu
  rw [dt_mm h] at this
  refine ⟨(un_dt h1 h).mpr fun e => this ?_, (un_dt h1 h).mpr fun e => this ?_⟩
  · rw [e]; grind
  · rw [e]; grind
theorem chp_scal1 (a : Fin p) : sam (chp 1 (ms a m1)) [- a, 1] := by
  have e : ms a (m1 : Mt p 1 1) 0 0 = a := by show a * 1 = a; grind
  show sam [- (ms a (m1 : Mt p 1 1) 0 0), 1] _
  rw [e]
  exact sam.refl _
theorem chp_scal2 (a : Fin p) : chp 2 (ms a m1) = [a * a, - (a + a), 1] := by
  have e0 : ms a (m1 : Mt p 2 2) 0 0 = a := by show a * 1 = a; grind
  have e1 : ms a (m1 : Mt p 2 2) 1 1 = a := by show a * 1 = a; grind
  have e2 : ms a (m1 : Mt p 2 2) 0 1 = 0 := by show a * 0 = 0; grind
  have e3 : ms a (m1 : Mt p 2 2) 1 0 = 0 := by show a * 0 = 0; grind
  show [dt 2 _, - (_ + _), 1] = _
  rw [dt2, e0, e1, e2, e3]
  congr 1
  grind
theorem chp_scal3 (a : Fin p) : chp 3 (ms a m1) = [- (a * a * a), a * a + a * a + a * a, - (a + a + a), 1] := by
  have e0 : ms a (m1 : Mt p 3 3) 0 0 = a := by show a * 1 = a; grind
  have e1 : ms a (m1 : Mt p 3 3) 1 1 = a := by show a * 1 = a; grind
  have e2 : ms a (m1 : Mt p 3 3) 2 2 = a := by show a * 1 = a; grind
  have f1 : ms a (m1 : Mt p 3 3) 0 1 = 0 := by show a * 0 = 0; grind
  have f2 : ms a (m1 : Mt p 3 3) 0 2 = 0 := by show a * 0 = 0; grind
  have f3 : ms a (m1 : Mt p 3 3) 1 0 = 0 := by show a * 0 = 0; grind
  have f4 : ms a (m1 : Mt p 3 3) 1 2 = 0 := by show a * 0 = 0; grind
  have f5 : ms a (m1 : Mt p 3 3) 2 0 = 0 := by show a * 0 = 0; grind
  have f6 : ms a (m1 : Mt p 3 3) 2 1 = 0 := by show a * 0 = 0; grind
  show [- dt 3 _, c2 _, - (_ + _ + _), 1] = _
  unfold c2
  rw [dt3, e0, e1, e2, f1, f2, f3, f4, f5, f6]
  have g1 : - (a * (a * a - 0 * 0) - 0 * (0 * a - 0 * 0) + 0 * (0 * 0 - a * 0)) = - (a * a * a) := by grind
  have g2 : a * a - 0 * 0 + (a * a - 0 * 0) + (a * a - 0 * 0) = a * a + a * a + a * a := by grind
  rw [g1, g2]
theorem ev_scal {n : Nat} (h1 : 1 ≤ n) (h : n ≤ 3) (a : Fin p) {k : Nat} (B : Mt p k k) (hu : Un (ev [- a, 1] B)) : Un (ev (chp n (ms a m1)) B) := by
  match n, h1, h with
  | 1, _, _ => rw [ev_sam B (chp_scal1 a)]; exact hu
  | 2, _, _ =>
    have e : chp 2 (ms a m1) = pmu [- a, 1] [- a, 1] := by
      rw [chp_scal2]
      show _ = pad (psm (- a) [- a, 1]) (0 :: pad (psm 1 [- a, 1]) (0 :: []))
      show _ = [- a * - a + 0, - a * 1 + (1 * - a + 0), 1 * 1]
      have g1 : - a * - a + 0 = a * a := by grind
      have g2 : - a * 1 + (1 * - a + 0) = - (a + a) := by grind
      have g3 : (1 * 1 : Fin p) = 1 := by grind
      rw [g1, g2, g3]
    rw [e, ev_pmu]
    exact un_mm hu hu
  | 3, _, _ =>
    have e : chp 3 (ms a m1) = pmu [- a, 1] [a * a, - (a + a), 1] := by
      rw [chp_scal3]
      show _ = [- a * (a * a) + 0, - a * - (a + a) + (1 * (a * a) + 0), - a * 1 + 1 * - (a + a), 1 * 1]
      have g1 : - a * (a * a) + 0 = - (a * a * a) := by grind
      have g2 : - a * - (a + a) + (1 * (a * a) + 0) = a * a + a * a + a * a := by grind
      have g3 : - a * 1 + 1 * - (a + a) = - (a + a + a) := by grind
      have g4 : (1 * 1 : Fin p) = 1 := by grind
      rw [g1, g2, g3, g4]
    have e2 : [a * a, - (a + a), 1] = pmu [- a, 1] [- a, 1] := by
      show _ = [- a * - a + 0, - a * 1 + (1 * - a + 0), 1 * 1]
      have g1 : - a * - a + 0 = a * a := by grind
      have g2 : - a * 1 + (1 * - a + 0) = - (a + a) := by grind
      have g3 : (1 * 1 : Fin p) = 1 := by grind
      rw [g1, g2, g3]
    rw [e, ev_pmu, e2, ev_pmu]
    exact un_mm hu (un_mm hu hu)
theorem chp_nf3 (a b t : Fin p) : chp 3 (nf 3 [a, b, 1] t) = [- (a * (t + b)), a + - b * (t + b), - (t + b + - b), 1] := by
  have n00 : nf 3 [a, b, 1] t 0 0 = 0 := rfl
  have n01 : nf 3 [a, b, 1] t 0 1 = 1 := rfl
  have n02 : nf 3 [a, b, 1] t 0 2 = 0 := rfl
  have n10 : nf 3 [a, b, 1] t 1 0 = - a := rfl
  have n11 : nf 3 [a, b, 1] t 1 1 = - b := rfl
  have n12 : nf 3 [a, b, 1] t 1 2 = 0 := rfl
  have n20 : nf 3 [a, b, 1] t 2 0 = 0 := rfl
  have n21 : nf 3 [a, b, 1] t 2 1 = 0 := rfl
  have n22 : nf 3 [a, b, 1] t 2 2 = t + b := rfl
  show [- dt 3 _, c2 _, - (_ + _ + _), 1] = _
  unfold c2
  rw [dt3, n00, n01, n02, n10, n11, n12, n20, n21, n22]
  have g1 : - (0 * (- b * (t + b) - 0 * 0) - 1 * (- a * (t + b) - 0 * 0) + 0 * (- a * 0 - - b * 0)) = - (a * (t + b)) := by grind
  have g2 : 0 * - b - 1 * - a + (0 * (t + b) - 0 * 0) + (- b * (t + b) - 0 * 0) = a + - b * (t + b) := by grind
  have g3 : - (0 + - b + (t + b)) = - (t + b + - b) := by grind
  rw [g1, g2, g3]
/-- if the least sum's value at B can be undone, so can the whole sum's -/
theorem un_whole {n k : Nat} (h1 : 1 ≤ n) (h : n ≤ 3) (k1 : 1 ≤ k) (hk : k ≤ 3) (A : Mt p n n) (B : Mt p k k) (hu : Un (ev (mnp A) B)) : Un (ev (chp n A) B) := by
  have L := mnp_lst h1 h A
  have hl := mnp_len h1 h A
  by_cases hn : (mnp A).length = n + 1
  · rw [← mnp_chp h1 h hn]; exact hu
  · by_cases h2 : (mnp A).length = 2
    · obtain ⟨a, ha⟩ := len1 h2 L.mon
      have hz := L.z
      rw [ha] at hz hu
      have e : A = ms (- a) m1 := scal hz
      rw [e]
      exact ev_scal h1 h _ B (by rwa [show - - a = a by grind])
    · have hn3 : n = 3 := by omega
      subst hn3
      obtain ⟨a, b, ha⟩ := len2 (by omega) L.mon
      obtain ⟨K, hK, hc⟩ := nf_ex h1 h A
      have hz := L.z
      rw [ha] at hz hu hc
      have hal : Al A (nf 3 [a, b, 1] (tr A)) := Al.symm ⟨K, hK, hc.symm⟩
      have hz2 : ev [a, b, 1] (nf 3 [a, b, 1] (tr A)) = m0 := by
        have := (hal.ev [a, b, 1]).rk
        rw [hz, rkm_0] at this
        exact rkm_zero this.symm
      rw [hal.chp h1 h, chp_nf3]
      generalize tr A = t at hz2
      have hr : a + b * (t + b) + (t + b) * (t + b) = 0 := by
        have q := congrFun (congrFun hz2 2) 2
        rw [ev3_e] at q
        simp only [ma_e, ms_e, mm3_e, m3_22] at q
        have n02 : nf 3 [a, b, 1] t 0 2 = 0 := rfl
        have n12 : nf 3 [a, b, 1] t 1 2 = 0 := rfl
        have n22 : nf 3 [a, b, 1] t 2 2 = t + b := rfl
        rw [n02, n12, n22] at q
        have q' : a * 1 + (b * (t + b) + 1 * (nf 3 [a, b, 1] t 2 0 * 0 + nf 3 [a, b, 1] t 2 1 * 0 + (t + b) * (t + b))) = 0 := q
        grind
      generalize hs : t + b = s at hr
      have e1 : [a, b, 1] = pmu [- s, 1] [b + s, 1] := by
        show _ = [- s * (b + s) + 0, - s * 1 + (1 * (b + s) + 0), 1 * 1]
        have g1 : - s * (b + s) + 0 = a := by grind
        have g2 : - s * 1 + (1 * (b + s) + 0) = b := by grind
        have g3 : (1 * 1 : Fin p) = 1 := by grind
        rw [g1, g2, g3]
      have e2 : [- (a * s), a + - b * s, - (s + - b), 1] = pmu [- s, 1] [a, b, 1] := by
        show _ = [- s * a + 0, - s * b + (1 * a + 0), - s * 1 + 1 * b, 1 * 1]
        have g1 : - s * a + 0 = - (a * s) := by grind
        have g2 : - s * b + (1 * a + 0) = a + - b * s := by grind
        have g3 : - s * 1 + 1 * b = - (s + - b) := by grind
        have g4 : (1 * 1 : Fin p) = 1 := by grind
        rw [g1, g2, g3, g4]
      have hu2 := hu
      rw [e1, ev_pmu] at hu2
      rw [e2, ev_pmu]
      exact un_mm (un_left k1 hk hu2).1 hu
/-- nothing carries just if the whole sum's value can be undone -/
theorem c1_none {n k : Nat} (h1 : 1 ≤ n) (h : n ≤ 3) (k1 : 1 ≤ k) (hk : k ≤ 3) (A : Mt p n n) (B : Mt p k k) : C1 A B = [] ↔ Un (ev (chp n A) B) := by
  constructor
  · intro hc
    refine un_whole h1 h k1 hk A B ((un_dt k1 hk).mpr fun hd => ?_)
    obtain ⟨z, hz, hv⟩ := vm_zero_of k1 hk hd
    obtain ⟨X, hX, hX2⟩ := carry_of (mnp_lst h1 h A) (mnp_len h1 h A).1 hz hv
    have := (c1_spn A B X).mpr hX2
    rw [hc] at this
    have hf : flat X = vz := this
    exact hX (by rw [← unf_flat X, hf]; rfl)
  · intro hu
    cases hc : C1 A B with
    | nil => rfl
    | cons w ws =>
      have hm : w ∈ C1 A B := by rw [hc]; exact List.mem_cons_self
      have hX := cc_mem (ps := [(A, B)]) hm (P := (A, B)) List.mem_cons_self
      have h0 := no_carry (cay h1 h A) hu hX
      obtain ⟨i, hi⟩ := (cc_rr [(A, B)]).ld w hm
      have hw : w = flat (m0 : Mt p n k) := by rw [← h0, flat_unf]
      have h2 := hi.1
      rw [hw] at h2
      exact absurd h2 z1
end
end Dz

/-! La21: how many carry a table into itself. -/
namespace Dz
section
variable {p : Nat} [Pr p]
theorem rkm_ind {k m : Nat} (M : Mt p k m) (h : ∀ w : Vc p k, (∀ q, (sm fun t => w t * M t q) = 0) → w = vz) : rkm M = k := by
  have hl := nu_len (rws (mt M))
  have hr : rk (rws (mt M)) = rkm M := rkm_t M
  rw [hr] at hl
  cases hn : nu (rws (mt M)) with
  | nil => rw [hn] at hl; simpa using hl
  | cons w ws =>
    have hm : w ∈ nu (rws (mt M)) := by rw [hn]; exact List.mem_cons_self
    have h0 := (spn_nu (rws (mt M)) w).mp (spn_mem hm)
    have hw : w = vz := h w fun q => by
      have := h0 _ (rws_mem.mpr ⟨q, rfl⟩)
      rw [dot_comm] at this
      exact this
    obtain ⟨i, hi⟩ := (nu_rr (rws (mt M))).ld w hm
    have h1 := hi.1
    rw [hw] at h1
    exact absurd h1 z1
theorem c1_ge {r c k : Nat} {A : Mt p r r} {B : Mt p c c} (X : Fin k → Mt p r c) (hX : ∀ t, mm A (X t) = mm (X t) B) (hi : ∀ w : Vc p k, (∀ i j, (sm fun t => w t * X t i j) = 0) → w = vz) : k ≤ (C1 A B).length := by
  have hr : rkm (fun t => flat (X t)) = k := rkm_ind _ fun w hw => hi w fun i j => by
    have := hw ⟨i.val * c + j.val, at_lt i.isLt j.isLt⟩
    have e : ∀ t, flat (X t) ⟨i.val * c + j.val, at_lt i.isLt j.isLt⟩ = X t i j := fun t => congrFun (congrFun (unf_flat (X t)) i) j
    rw [show (fun t => w t * X t i j) = fun t => w t * flat (X t) ⟨i.val * c + j.val, at_lt i.isLt j.isLt⟩ from funext fun t => by rw [e]]
    exact this
  rw [← hr]
  refine rk_len (L := rws fun t => flat (X t)) fun v hv => spn_mono (fun o ho => ?_) hv
  obtain ⟨t, rfl⟩ := rws_mem.mp ho
  exact (c1_spn A B (X t)).mpr (hX t)
variable {n : Nat}
theorem mp_carry {A X : Mt p n n} (h : mm A X = mm X A) : ∀ k, mm (mp A k) X = mm X (mp A k)
  | 0 => by show mm m1 X = mm X m1; rw [m1_m, mm_1]
  | k + 1 => by
    show mm (mm (mp A k) A) X = mm X (mm (mp A k) A)
    rw [mm_assoc, h, ← mm_assoc, mp_carry h k, mm_assoc]
theorem vm_plv (A : Mt p n n) {k : Nat} (v : Vc p n) (w : Vc p k) (j : Fin n) : vm v (ev (plv w) A) j = sm fun t => w t * vm v (mp A t.val) j := by
  show (sm fun i => v i * ev (plv w) A i j) = sm fun t => w t * sm fun i => v i * mp A t.val i j
  have e1 : (sm fun i => v i * ev (plv w) A i j) = sm fun i => sm fun t => w t * (v i * mp A t.val i j) := sm_congr fun i => by
    rw [ev_plv, ← sm_mul]
    exact sm_congr fun t => by grind
  rw [e1, sm_swap]
  exact sm_congr fun t => by rw [← sm_mul]
/-- a table whose least sum is long: what carries it into itself is a sum of its powers -/
theorem cyc_comm (h1 : 1 ≤ n) (h : n ≤ 3) {A X : Mt p n n} (hl : (mnp A).length = n + 1) (hX : mm A X = mm X A) : ∃ w : Vc p n, ev (plv w) A = X := by
  obtain ⟨K, hK, hc⟩ := nf_ex h1 h A
  have hstep : ∀ (i : Nat) (hi : i + 1 < n), vm (K ⟨i, by omega⟩) A = K ⟨i + 1, hi⟩ := fun i hi => by
    have e := congrFun hc ⟨i, by omega⟩
    have e2 : nf n (mnp A) (tr A) ⟨i, by omega⟩ = (m1 : Mt p n n) ⟨i + 1, hi⟩ := by
      funext j
      unfold nf
      rw [if_neg (by omega), if_pos hl, if_pos hi]
      show (if j.val = i + 1 then (1 : Fin p) else 0) = if (⟨i + 1, hi⟩ : Fin n) = j then 1 else 0
      by_cases hj : j.val = i + 1
      · rw [if_pos hj, if_pos (Fin.ext hj.symm)]
      · rw [if_neg hj, if_neg fun z => hj (by rw [← z])]
    have e3 : mm K A ⟨i, by omega⟩ = vm (K ⟨i, by omega⟩) A := rfl
    have e4 : mm (nf n (mnp A) (tr A)) K ⟨i, by omega⟩ = vm (nf n (mnp A) (tr A) ⟨i, by omega⟩) K := rfl
    rw [e3, e4, e2] at e
    rw [e]
    exact congrFun (m1_m K) ⟨i + 1, hi⟩
  have hrow : ∀ (i : Nat) (hi : i < n), K ⟨i, hi⟩ = vm (K ⟨0, by omega⟩) (mp A i) := by
    intro i
    induction i with
    | zero => exact fun hi => (vm_1 _).symm
    | succ i ih =>
      intro hi
      rw [← hstep i hi, ih (by omega)]
      exact (vm_mm _ _ _).symm
  obtain ⟨V, g1, g2⟩ := hK
  let w : Vc p n := vm (vm (K ⟨0, by omega⟩) X) V
  have hw : vm w K = vm (K ⟨0, by omega⟩) X := by
    show vm (vm _ V) K = _
    rw [← vm_mm, g1, vm_1]
  have hF : vm (K ⟨0, by omega⟩) (ev (plv w) A) = vm (K ⟨0, by omega⟩) X := by
    rw [← hw]
    funext j
    rw [vm_plv]
    show _ = sm fun t => w t * K t j
    exact sm_congr fun t => by rw [← hrow t.val t.isLt]
  refine ⟨w, ?_⟩
  have hFA : mm A (ev (plv w) A) = mm (ev (plv w) A) A := ev_comm A _
  have hKK : mm K (ev (plv w) A) = mm K X := by
    funext i
    show vm (K i) (ev (plv w) A) = vm (K i) X
    have hi := hrow i.val i.isLt
    rw [show K i = K ⟨i.val, i.isLt⟩ from rfl, hi, ← vm_mm, ← vm_mm, mp_carry hFA, mp_carry hX, vm_mm, vm_mm, hF]
  have : mm V (mm K (ev (plv w) A)) = mm V (mm K X) := by rw [hKK]
  rwa [← mm_assoc, ← mm_assoc, g1, m1_m, m1_m] at this
theorem own_len_le (h1 : 1 ≤ n) (h : n ≤ 3) {A : Mt p n n} (hl : (mnp A).length = n + 1) : (C1 A A).length ≤ n := by
  let P : Mt p n (n * n) := fun t => flat (mp A t.val)
  refine Nat.le_trans ((cc_rr [(A, A)]).rf.le (red_rr (rws P)).rf fun v hv => (red_spn _ _).mpr ?_) (rkm_r P)
  have hX := (c1_spn A A (unf v)).mp (by rw [flat_unf]; exact hv)
  obtain ⟨w, hw⟩ := cyc_comm h1 h hl hX
  refine spn_rws.mpr ⟨w, funext fun q => ?_⟩
  have e : v q = ev (plv w) A ⟨q.val / n, div_lt' q.isLt⟩ ⟨q.val % n, mod_lt' q.isLt⟩ := by
    rw [hw]
    exact (congrFun (flat_unf v) q).symm
  rw [e, ev_plv]
  rfl
theorem own_alike (h1 : 1 ≤ n) (h : n ≤ 3) {A B : Mt p n n} (hA : Al A B) : (C1 A A).length = (C1 B B).length := by
  obtain ⟨P, Q, hQ, e⟩ := hA.conj
  have a1 := c1_alike A A hQ
  have a2 := c1_alike B A hQ
  rw [← e] at a1 a2
  have := c1_back A B
  omega
def e22 : Mt p 3 3 := fun i j => if i = 2 ∧ j = 2 then 1 else 0
theorem own3 (a b t : Fin p) : 3 ≤ (C1 (nf 3 [a, b, 1] t) (nf 3 [a, b, 1] t)).length := by
  let X : Fin 3 → Mt p 3 3 := fun k => if k = 0 then m1 else if k = 1 then nf 3 [a, b, 1] t else e22
  have hE : mm (nf 3 [a, b, 1] t) e22 = mm e22 (nf 3 [a, b, 1] t) := by
    have n02 : nf 3 [a, b, 1] t 0 2 = 0 := rfl
    have n12 : nf 3 [a, b, 1] t 1 2 = 0 := rfl
    have n20 : nf 3 [a, b, 1] t 2 0 = 0 := rfl
    have n21 : nf 3 [a, b, 1] t 2 1 = 0 := rfl
    have d00 : (e22 : Mt p 3 3) 0 0 = 0 := rfl
    have d01 : (e22 : Mt p 3 3) 0 1 = 0 := rfl
    have d02 : (e22 : Mt p 3 3) 0 2 = 0 := rfl
    have d10 : (e22 : Mt p 3 3) 1 0 = 0 := rfl
    have d11 : (e22 : Mt p 3 3) 1 1 = 0 := rfl
    have d12 : (e22 : Mt p 3 3) 1 2 = 0 := rfl
    have d20 : (e22 : Mt p 3 3) 2 0 = 0 := rfl
    have d21 : (e22 : Mt p 3 3) 2 1 = 0 := rfl
    have d22 : (e22 : Mt p 3 3) 2 2 = 1 := rfl
    have key : ∀ i j : Fin 3, mm (nf 3 [a, b, 1] t) e22 i j = mm e22 (nf 3 [a, b, 1] t) i j := by
      refine fin3 (fin3 ?_ ?_ ?_) (fin3 ?_ ?_ ?_) (fin3 ?_ ?_ ?_) <;> rw [mm3_e, mm3_e] <;> simp only [n02, n12, n20, n21, d00, d01, d02, d10, d11, d12, d20, d21, d22] <;> grind
    funext i j
    exact key i j
  refine c1_ge X (fin3 ?_ ?_ ?_) fun w hw => ?_
  · show mm _ m1 = mm m1 _
    rw [mm_1, m1_m]
  · rfl
  · exact hE
  · have q01 := hw 0 1
    have q00 := hw 0 0
    have q22 := hw 2 2
    rw [sm3] at q01 q00 q22
    have q01' : w 0 * (m1 : Mt p 3 3) 0 1 + w 1 * 1 + w 2 * 0 = 0 := q01
    have q00' : w 0 * (m1 : Mt p 3 3) 0 0 + w 1 * 0 + w 2 * 0 = 0 := q00
    have q22' : w 0 * (m1 : Mt p 3 3) 2 2 + w 1 * (nf 3 [a, b, 1] t 2 2) + w 2 * 1 = 0 := q22
    rw [m3_01] at q01'
    rw [m3_00] at q00'
    rw [m3_22] at q22'
    have w1 : w 1 = 0 := by grind
    have w0 : w 0 = 0 := by grind
    have w2 : w 2 = 0 := by rw [w1, w0] at q22'; grind
    have key : ∀ i : Fin 3, w i = 0 := fin3 w0 w1 w2
    exact funext key
theorem own_ge (h1 : 1 ≤ n) (h : n ≤ 3) (A : Mt p n n) : n ≤ (C1 A A).length := by
  have L := mnp_lst h1 h A
  have hl := mnp_len h1 h A
  by_cases hn : (mnp A).length = n + 1
  · refine c1_ge (fun t : Fin n => mp A t.val) (fun t => mp_comm A t.val) fun w hw => ?_
    have h0 : ev (plv w) A = m0 := by
      funext i j
      rw [ev_plv]
      exact hw i j
    refine plv_z (Classical.byContradiction fun hz => L.le _ (nm_nm _) hz ?_ (by rw [ev_nm]; exact h0))
    have := nm_le (plv w)
    rw [plv_len] at this
    omega
  · by_cases h2 : (mnp A).length = 2
    · obtain ⟨a, ha⟩ := len1 h2 L.mon
      have hz := L.z
      rw [ha] at hz
      have e : A = ms (- a) m1 := scal hz
      refine c1_ge (fun t : Fin n => fun i j => if i.val = 0 ∧ j = t then 1 else 0) (fun t => by rw [e, mm_sl, mm_sr, m1_m, mm_1]) fun w hw => ?_
      funext j
      have := hw ⟨0, h1⟩ j
      rw [show (sm fun t => w t * (if (⟨0, h1⟩ : Fin n).val = 0 ∧ j = t then (1 : Fin p) else 0)) = sm fun t => if t = j then w t else 0 from sm_congr fun t => by
        by_cases ht : t = j
        · rw [if_pos ht, if_pos ⟨rfl, ht.symm⟩]; grind
        · rw [if_neg ht, if_neg fun z => ht z.2.symm]; grind] at this
      rw [sm_one] at this
      exact this
    · have hn3 : n = 3 := by omega
      subst hn3
      obtain ⟨a, b, ha⟩ := len2 (by omega) L.mon
      obtain ⟨K, hK, hc⟩ := nf_ex h1 h A
      rw [ha] at hc
      have hal : Al A (nf 3 [a, b, 1] (tr A)) := Al.symm ⟨K, hK, hc.symm⟩
      rw [own_alike h1 h hal]
      exact own3 a b _
/-- as many as the degree just if the degree is the size -/
theorem own_iff (h1 : 1 ≤ n) (h : n ≤ 3) (A : Mt p n n) : (C1 A A).length = (mnp A).length - 1 ↔ (mnp A).length - 1 = n := by
  have hl := mnp_len h1 h A
  have hg := own_ge h1 h A
  constructor
  · intro e; omega
  · intro e
    have := own_len_le h1 h (A := A) (by omega)
    omega
end
end Dz

/-! La22: all rows that come of some. -/
namespace Dz
section
variable {p n : Nat} [Pr p]
theorem dig_eq {z w : Vc p n} : ∀ (L : List (Vc p n)), dig z L = dig w L → ∀ o ∈ L, at' z (fo o) = at' w (fo o) := by
  have hp := Pr.le (p := p)
  refine rev_ind (fun _ o h => by cases h) fun L o ih e b hb => ?_
  rw [dig_app, dig_app] at e
  have h1 := (at' z (fo o)).isLt
  have h2 := (at' w (fo o)).isLt
  have e1 : (at' z (fo o)).val = (at' w (fo o)).val := by
    have a1 : (dig z L * p + (at' z (fo o)).val) % p = (at' z (fo o)).val := by rw [Nat.mul_comm, Nat.mul_add_mod, Nat.mod_eq_of_lt h1]
    have a2 : (dig w L * p + (at' w (fo o)).val) % p = (at' w (fo o)).val := by rw [Nat.mul_comm, Nat.mul_add_mod, Nat.mod_eq_of_lt h2]
    rw [← a1, e, a2]
  have e2 : dig z L = dig w L := by
    have : dig z L * p = dig w L * p := by omega
    exact Nat.eq_of_mul_eq_mul_right (by omega) this
  rcases List.mem_append.mp hb with h | h
  · exact ih e2 b h
  · have : b = o := by simpa using h
    rw [this]
    exact Fin.ext e1
theorem dig_inj {L : List (Vc p n)} (h : RF L) {z w : Vc p n} (hz : spn L z) (hw : spn L w) (e : dig z L = dig w L) : z = w := by
  have he := dig_eq L e
  funext k
  rw [h.at_pv hz k, h.at_pv hw k]
  exact ls_congr fun o ho => by rw [he o ho]
/-- how many rows come of some -/
theorem spn_count {L rows : List (Vc p n)} (hn : L.Nodup) (hm : ∀ w, w ∈ L ↔ spn rows w) : L.length = p ^ rk rows := by
  have hR := (red_rr rows).rf
  have hS : ∀ w, w ∈ L ↔ spn (red rows) w := fun w => (hm w).trans (red_spn rows w).symm
  have hk : rk rows = (red rows).length := rfl
  rw [hk]
  have hd : (L.map fun w => dig w (red rows)).Nodup := by
    refine List.pairwise_map.mpr (List.Pairwise.imp_of_mem (fun {a b} ha hb hne e => ?_) hn)
    exact hne (dig_inj hR ((hS a).mp ha) ((hS b).mp hb) e)
  apply Nat.le_antisymm
  · have := nd_le' (m := List.range (p ^ (red rows).length)) hd fun x hx => by
      obtain ⟨w, _, rfl⟩ := List.mem_map.mp hx
      exact List.mem_range.mpr (dig_lt w _)
    rwa [List.length_map, List.length_range] at this
  · have := nd_le' (m := L.map fun w => dig w (red rows)) (List.nodup_range (n := p ^ (red rows).length)) fun x hx => by
      obtain ⟨z, hz, e⟩ := dig_sur hR x
      rw [Nat.mod_eq_of_lt (List.mem_range.mp hx)] at e
      exact List.mem_map.mpr ⟨z, (hS z).mpr hz, e⟩
    rwa [List.length_map, List.length_range] at this
theorem pow_inj {a b : Nat} (h : p ^ a = p ^ b) : a = b := by
  have hp := Pr.le (p := p)
  rcases Nat.lt_trichotomy a b with h1 | h1 | h1
  · exact absurd h (Nat.ne_of_lt (Nat.pow_lt_pow_right (by omega) h1))
  · exact h1
  · exact absurd h.symm (Nat.ne_of_lt (Nat.pow_lt_pow_right (by omega) h1))
/-! put one by one -/
open Classical in
noncomputable def putV (acc : List (Vc p n)) (w : Vc p n) : List (Vc p n) := if w ∈ acc then acc else acc ++ [w]
theorem putV_mem {acc : List (Vc p n)} {w x : Vc p n} : x ∈ putV acc w ↔ x ∈ acc ∨ x = w := by
  unfold putV
  split
  · rename_i h
    exact ⟨.inl, fun z => z.elim id fun e => e ▸ h⟩
  · rw [List.mem_append, List.mem_singleton]
theorem putV_nd {acc : List (Vc p n)} {w : Vc p n} (h : acc.Nodup) : (putV acc w).Nodup := by
  unfold putV
  split
  · exact h
  · rename_i hw
    rw [List.nodup_append]
    exact ⟨h, by simp, fun a ha b hb e => hw (by
      have : b = w := by simpa using hb
      rw [← this, ← e]; exact ha)⟩
noncomputable def putAll (acc ws : List (Vc p n)) : List (Vc p n) := ws.foldl putV acc
theorem putAll_mem : ∀ {ws acc : List (Vc p n)} {x : Vc p n}, x ∈ putAll acc ws ↔ x ∈ acc ∨ x ∈ ws
  | [], acc, x => by simp [putAll]
  | w :: ws, acc, x => by
    show x ∈ putAll (putV acc w) ws ↔ _
    rw [putAll_mem, putV_mem, List.mem_cons, or_assoc]
theorem putAll_nd : ∀ {ws acc : List (Vc p n)}, acc.Nodup → (putAll acc ws).Nodup
  | [], acc, h => h
  | w :: ws, acc, h => putAll_nd (ws := ws) (putV_nd h)
theorem putAll_app (acc xs ys : List (Vc p n)) : putAll acc (xs ++ ys) = putAll (putAll acc xs) ys := List.foldl_append
theorem nd_len {L : List (Vc p n)} (h : L.Nodup) : L.length ≤ p ^ n := by
  have : ∀ M : List (Vc p n), (∀ w ∈ L, w ∈ M) → L.length ≤ M.length := fun M hM => by
    classical
    exact nd_le' h hM
  have := this (allF (fr p) n) fun w _ => allF_mem fun i => fr_mem _
  rwa [allF_len, fr_len] at this
/-- one row more -/
def goV (o v : Vc p n) : List (Vc p n) := (fr p).map fun t => fun i => v i + t * o i
noncomputable def spnL (rows : List (Vc p n)) : List (Vc p n) := rows.foldl (fun L o => putAll [] (L.flatMap (goV o))) [vz]
theorem spnL_snoc (rows : List (Vc p n)) (o : Vc p n) : spnL (rows ++ [o]) = putAll [] ((spnL rows).flatMap (goV o)) := by
  unfold spnL
  rw [List.foldl_append]
  rfl
theorem spnL_nd (rows : List (Vc p n)) : (spnL rows).Nodup := by
  refine rev_ind (P := fun rows => (spnL rows).Nodup) ?_ (fun L x _ => ?_) rows
  · show [vz].Nodup
    simp
  · rw [spnL_snoc]
    exact putAll_nd List.nodup_nil
theorem spn_snoc {L : List (Vc p n)} {o w : Vc p n} : spn (L ++ [o]) w ↔ ∃ v t, spn L v ∧ w = fun i => v i + t * o i := by
  constructor
  · refine spn_le (S := fun w => ∃ v t, spn L v ∧ w = fun i => v i + t * o i) ⟨⟨vz, 0, (spn_sb L).z, funext fun i => (by show (0 : Fin p) = 0 + 0 * o i; grind)⟩, fun x a b ha hb => ?_⟩ fun b hb => ?_
    · obtain ⟨v, t, hv, rfl⟩ := ha
      obtain ⟨u, s, hu, rfl⟩ := hb
      exact ⟨fun i => v i + x * u i, t + x * s, (spn_sb L).lc x v u hv hu, funext fun i => by show (v i + t * o i) + x * (u i + s * o i) = (v i + x * u i) + (t + x * s) * o i; grind⟩
    · rcases List.mem_append.mp hb with h | h
      · exact ⟨b, 0, spn_mem h, funext fun i => by grind⟩
      · have : b = o := by simpa using h
        exact ⟨vz, 1, (spn_sb L).z, funext fun i => by rw [this]; show o i = 0 + 1 * o i; grind⟩
  · rintro ⟨v, t, hv, rfl⟩
    exact (spn_sb _).lc t v o (spn_mono (fun b hb => spn_mem (List.mem_append_left _ hb)) hv) (spn_mem (by simp))
theorem spnL_mem (rows : List (Vc p n)) : ∀ w, w ∈ spnL rows ↔ spn rows w := by
  refine rev_ind (P := fun rows => ∀ w, w ∈ spnL rows ↔ spn rows w) (fun w => ?_) (fun L o ih w => ?_) rows
  · show w ∈ [vz] ↔ w = vz
    simp
  · rw [spnL_snoc, putAll_mem, spn_snoc, List.mem_flatMap]
    constructor
    · rintro (h | ⟨v, hv, hw⟩)
      · cases h
      · obtain ⟨t, _, rfl⟩ := List.mem_map.mp hw
        exact ⟨v, t, (ih v).mp hv, rfl⟩
    · rintro ⟨v, t, hv, rfl⟩
      exact .inr ⟨v, (ih v).mpr hv, List.mem_map.mpr ⟨t, fr_mem t, rfl⟩⟩
theorem spnL_len (rows : List (Vc p n)) : (spnL rows).length = p ^ rk rows := spn_count (spnL_nd rows) (spnL_mem rows)
end
end Dz

/-! La23: texts of tables, cut and read. -/
namespace Dz
open PySem (PyData Str sizeLine)
open L2
abbrev sp (l : List Nat) : List (List Nat) := TL.spl [47] 0 [] l
theorem spl_cons (c : Nat) (r acc : List Nat) : TL.spl [47] 0 acc (c :: r) = if c = 47 then acc :: TL.spl [47] 0 [] r else TL.spl [47] 0 (acc ++ [c]) r := by
  by_cases h : c = 47
  · subst h
    rw [if_pos rfl]
    exact TL.spl_hit rfl
  · rw [if_neg h]
    refine TL.spl_miss ?_
    show ([c] == [47]) = false
    simp [h]
theorem spl_mem : ∀ (l acc part : List Nat), part ∈ TL.spl [47] 0 acc l → ∀ x ∈ part, x ∈ acc ∨ (x ∈ l ∧ x ≠ 47)
  | [], acc, part, h, x, hx => by
    rw [TL.spl_nil] at h
    rw [List.mem_singleton.mp h] at hx
    exact .inl hx
  | c :: r, acc, part, h, x, hx => by
    rw [spl_cons] at h
    by_cases hc : c = 47
    · rw [if_pos hc] at h
      rcases List.mem_cons.mp h with rfl | h
      · exact .inl hx
      · rcases spl_mem r [] part h x hx with w | w
        · cases w
        · exact .inr ⟨List.mem_cons_of_mem _ w.1, w.2⟩
    · rw [if_neg hc] at h
      rcases spl_mem r (acc ++ [c]) part h x hx with w | w
      · rcases List.mem_append.mp w with w | w
        · exact .inl w
        · rw [List.mem_singleton.mp w]; exact .inr ⟨List.mem_cons_self, hc⟩
      · exact .inr ⟨List.mem_cons_of_mem _ w.1, w.2⟩
theorem spl_len : ∀ (l acc : List Nat), (TL.spl [47] 0 acc l).length ≤ l.length + 1
  | [], acc => by rw [TL.spl_nil]; exact Nat.le_refl _
  | c :: r, acc => by
    rw [spl_cons]
    by_cases hc : c = 47
    · rw [if_pos hc, List.length_cons, List.length_cons]
      have := spl_len r []
      omega
    · rw [if_neg hc, List.length_cons]
      have := spl_len r (acc ++ [c])
      omega
theorem spl_part_len : ∀ (l acc part : List Nat), part ∈ TL.spl [47] 0 acc l → part.length ≤ acc.length + l.length
  | [], acc, part, h => by
    rw [TL.spl_nil] at h
    rw [List.mem_singleton.mp h]; omega
  | c :: r, acc, part, h => by
    rw [spl_cons] at h
    by_cases hc : c = 47
    · rw [if_pos hc] at h
      rcases List.mem_cons.mp h with rfl | h
      · rw [List.length_cons]; omega
      · have := spl_part_len r [] part h
        rw [List.length_nil] at this
        rw [List.length_cons]; omega
    · rw [if_neg hc] at h
      have := spl_part_len r (acc ++ [c]) part h
      rw [List.length_append, List.length_singleton] at this
      rw [List.length_cons]; omega
/-- figures and strokes alone -/
def figs : List Nat := [48, 49, 50, 51, 52, 47]
def okSig (l : List Nat) : Bool := l.all fun c => decide (c ∈ figs)
def fig (c : Nat) : PyData := .int ((c : Int) - 48)
def rdT (l : List Nat) : PyData := .tuple ((sp l).map fun row => .tuple (row.map fig))
/-- the table that a text writes -/
def rd (p : Nat) (l : List Nat) : Option PyData := if okSig l = true then (if isTab p (rdT l) = true then some (rdT l) else none) else none
theorem sh_rdT (l : List Nat) : Sh 2 (rdT l) := sh_tup (sh_map fun row => sh_tup (sh_map fun c => sh_int _))
theorem fig_txt : ∀ c, c ∈ figs → c ≠ 47 → PySem.intText? (⟨#[c]⟩ : Str) = some ((c : Int) - 48) := by
  intro c h h7
  have h2 : 48 ≤ c ∧ c ≤ 52 := by
    simp only [figs, List.mem_cons, List.not_mem_nil, or_false] at h
    omega
  have e := SX.int_S (a := [c]) (by simp; omega) (by simp) (by simp)
  refine e.trans ?_
  have : PySem.NumText.digitsVal [c] = c - 48 := by simp [PySem.NumText.digitsVal]
  rw [this]
  congr 1
  omega
/-! a table's text -/
def rowC {p n : Nat} (v : Fin n → Fin p) : List Nat := (fr n).map fun i => 48 + (v i).val
def tabC {p r c : Nat} (A : Mt p r c) : List Nat := TL.joinL [47] ((fr r).map fun i => rowC (A i))
theorem dig_txt : ∀ n : Nat, n < 5 → Str.ofString (toString ((n : Nat) : Int)) = SX.S [48 + n] := by
  intro n h
  rw [SX.num_S]
  rcases (by omega : n = 0 ∨ n = 1 ∨ n = 2 ∨ n = 3 ∨ n = 4) with rfl | rfl | rfl | rfl | rfl <;> decide
theorem joinL_nil : ∀ ls : List (List Nat), TL.joinL [] ls = ls.flatten
  | [] => rfl
  | [p] => by simp [TL.joinL]
  | p :: q :: r => by
    show p ++ ([] ++ TL.joinL [] (q :: r)) = _
    rw [joinL_nil (q :: r)]
    rfl
theorem joinL_ones (l : List Nat) : TL.joinL [] (l.map fun c => [c]) = l := by
  rw [joinL_nil]
  induction l with
  | nil => rfl
  | cons a l ih => rw [List.map_cons, List.flatten_cons, ih]; rfl
theorem sp_tab {p r c : Nat} [Pr p] (hr : 1 ≤ r) (A : Mt p r c) : sp (tabC A) = (fr r).map fun i => rowC (A i) := by
  refine TL.spl_join (s := 47) (S := []) (fun e => ?_) fun q hq hm => ?_
  · have := congrArg List.length e
    rw [List.length_map, fr_len, List.length_nil] at this
    omega
  · obtain ⟨i, _, rfl⟩ := List.mem_map.mp hq
    obtain ⟨j, _, e⟩ := List.mem_map.mp hm
    omega
theorem joinL_mem {S : List Nat} : ∀ {ls : List (List Nat)} {x : Nat}, x ∈ TL.joinL S ls → x ∈ S ∨ ∃ q ∈ ls, x ∈ q
  | [], _, h => by cases h
  | [p], x, h => .inr ⟨p, List.mem_cons_self, h⟩
  | p :: q :: r, x, h => by
    have h : x ∈ p ++ (S ++ TL.joinL S (q :: r)) := h
    rcases List.mem_append.mp h with h | h
    · exact .inr ⟨p, List.mem_cons_self, h⟩
    · rcases List.mem_append.mp h with h | h
      · exact .inl h
      · rcases joinL_mem h with w | ⟨z, hz, hx⟩
        · exact .inl w
        · exact .inr ⟨z, List.mem_cons_of_mem _ hz, hx⟩
theorem tab_ok {p r c : Nat} [Pr p] (A : Mt p r c) : okSig (tabC A) = true := by
  have lp := Pr.le (p := p)
  refine List.all_eq_true.mpr fun x hx => decide_eq_true ?_
  rcases joinL_mem hx with h | ⟨q, hq, h⟩
  · rw [List.mem_singleton.mp h]; decide
  · obtain ⟨i, _, rfl⟩ := List.mem_map.mp hq
    obtain ⟨j, _, rfl⟩ := List.mem_map.mp h
    have := (A i j).isLt
    simp only [figs, List.mem_cons, List.not_mem_nil, or_false]
    omega
theorem rdT_tab {p r c : Nat} [Pr p] (hr : 1 ≤ r) (A : Mt p r c) : rdT (tabC A) = eT A := by
  unfold rdT
  rw [sp_tab hr A, List.map_map]
  refine congrArg PySem.PyData.tuple (List.map_congr_left fun i _ => ?_)
  show PySem.PyData.tuple ((rowC (A i)).map fig) = eR (A i)
  unfold rowC eR
  rw [List.map_map]
  refine congrArg PySem.PyData.tuple (List.map_congr_left fun j _ => ?_)
  show PySem.PyData.int (((48 + (A i j).val : Nat) : Int) - 48) = PySem.PyData.int (((A i j).val : Nat) : Int)
  congr 1
  omega
theorem row_len {p n : Nat} (v : Fin n → Fin p) : (rowC v).length = n := by unfold rowC; rw [List.length_map, fr_len]
theorem joinL_len {k : Nat} : ∀ {ls : List (List Nat)}, (∀ q ∈ ls, q.length ≤ k) → (TL.joinL [47] ls).length ≤ ls.length * (k + 1)
  | [], _ => Nat.zero_le _
  | [p], h => by
    have := h p List.mem_cons_self
    show p.length ≤ 1 * (k + 1)
    omega
  | p :: q :: r, h => by
    have h1 := h p List.mem_cons_self
    have h2 := joinL_len (ls := q :: r) fun z hz => h z (List.mem_cons_of_mem _ hz)
    show (p ++ ([47] ++ TL.joinL [47] (q :: r))).length ≤ (r.length + 1 + 1) * (k + 1)
    rw [List.length_append, List.length_append, List.length_singleton]
    have h3 : (q :: r).length * (k + 1) = (r.length + 1) * (k + 1) := rfl
    rw [h3] at h2
    rw [Nat.succ_mul]
    omega
theorem tab_len {p r c : Nat} (A : Mt p r c) : (tabC A).length ≤ r * (c + 1) := by
  have := joinL_len (k := c) (ls := (fr r).map fun i => rowC (A i)) fun q hq => by
    obtain ⟨i, _, rfl⟩ := List.mem_map.mp hq
    rw [row_len]; exact Nat.le_refl _
  rw [List.length_map, fr_len] at this
  exact this
theorem tab_pos {p r c : Nat} (A : Mt p (r + 1) (c + 1)) : ∃ x rest, tabC A = x :: rest ∧ x = 48 + (A 0 0).val := by
  have e : (fr (r + 1)).map (fun i => rowC (A i)) = rowC (A 0) :: (fr r).map fun i => rowC (A i.succ) := by
    rw [show fr (r + 1) = 0 :: (fr r).map Fin.succ from List.finRange_succ, List.map_cons, List.map_map]; rfl
  have e2 : rowC (A 0) = (48 + (A 0 0).val) :: (fr c).map fun j => 48 + (A 0 j.succ).val := by
    unfold rowC
    rw [show fr (c + 1) = 0 :: (fr c).map Fin.succ from List.finRange_succ, List.map_cons, List.map_map]; rfl
  unfold tabC
  rw [e, e2]
  cases (fr r).map fun i => rowC (A i.succ) with
  | nil => exact ⟨_, _, rfl, rfl⟩
  | cons q l => exact ⟨_, _, rfl, rfl⟩
end Dz

/-! La24: when a text writes a table. -/
namespace Dz
open PySem (PyData Str sizeLine)
open L2
theorem spl_all : ∀ (l acc : List Nat) (c : Nat), c ∈ l ∨ c ∈ acc → c = 47 ∨ ∃ part ∈ TL.spl [47] 0 acc l, c ∈ part
  | [], acc, c, h => by
    rcases h with h | h
    · cases h
    · exact .inr ⟨acc, by rw [TL.spl_nil]; exact List.mem_singleton_self _, h⟩
  | d :: r, acc, c, h => by
    rw [spl_cons]
    by_cases hd : d = 47
    · rw [if_pos hd]
      rcases h with h | h
      · rcases List.mem_cons.mp h with rfl | h
        · exact .inl hd
        · rcases spl_all r [] c (.inl h) with w | ⟨q, hq, hc⟩
          · exact .inl w
          · exact .inr ⟨q, List.mem_cons_of_mem _ hq, hc⟩
      · exact .inr ⟨acc, List.mem_cons_self, h⟩
    · rw [if_neg hd]
      refine spl_all r (acc ++ [d]) c ?_
      rcases h with h | h
      · rcases List.mem_cons.mp h with rfl | h
        · exact .inr (by simp)
        · exact .inl h
      · exact .inr (List.mem_append_left _ h)
theorem sp_ne (l : List Nat) : ∃ h rest, sp l = h :: rest := by
  have : ∀ (l acc : List Nat), TL.spl [47] 0 acc l ≠ [] := by
    intro l
    induction l with
    | nil => intro acc; rw [TL.spl_nil]; simp
    | cons c r ih =>
      intro acc
      rw [spl_cons]
      by_cases hc : c = 47
      · rw [if_pos hc]; simp
      · rw [if_neg hc]; exact ih _
  cases e : sp l with
  | nil => exact absurd e (this l [])
  | cons h r => exact ⟨h, r, rfl⟩
/-- what the law asks, row by row -/
def dueA (ps : List (List Nat)) : Bool := decide (ps.length ≤ 3) && (decide (1 ≤ (ps.headD []).length) && decide ((ps.headD []).length ≤ 3))
def dueB (ps : List (List Nat)) : Bool := ps.all fun q => decide (q.length = (ps.headD []).length)
def dueC (p : Nat) (ps : List (List Nat)) : Bool := ps.flatten.all fun c => decide (c ∈ [48, 49, 50, 51, 52].take p)
theorem take_mem {p : Nat} [Pr p] (c : Nat) : c ∈ [48, 49, 50, 51, 52].take p ↔ 48 ≤ c ∧ c < 48 + p := by
  rcases (inferInstance : Pr p).is with rfl | rfl | rfl <;> simp <;> omega
theorem rest_fig {p : Nat} (c : Nat) : isRest p (fig c) = true ↔ 48 ≤ c ∧ c < 48 + p := by
  show (decide ((0 : Int) ≤ (c : Int) - 48) && decide ((c : Int) - 48 < (p : Int))) = true ↔ _
  rw [Bool.and_eq_true, decide_eq_true_iff, decide_eq_true_iff]
  omega
theorem rd_due {p : Nat} [Pr p] (l : List Nat) : rd p l = if (dueA (sp l) && (dueB (sp l) && dueC p (sp l))) = true then some (rdT l) else none := by
  have lp := Pr.le (p := p)
  have key : (okSig l = true ∧ isTab p (rdT l) = true) ↔ (dueA (sp l) && (dueB (sp l) && dueC p (sp l))) = true := by
    have hT : isTab p (rdT l) = true ↔ ((1 ≤ (sp l).length ∧ (sp l).length ≤ 3) ∧ (∀ q ∈ sp l, 1 ≤ q.length ∧ q.length ≤ 3) ∧ (∀ q ∈ sp l, q.length = ((sp l).headD []).length) ∧ ∀ q ∈ sp l, ∀ c ∈ q, 48 ≤ c ∧ c < 48 + p) := by
      obtain ⟨h, rest, e⟩ := sp_ne l
      have hh : tups (((sp l).map fun row => PyData.tuple (row.map fig)).headD .none) = h.map fig := by rw [e]; rfl
      show (decide (1 ≤ ((sp l).map fun row => PyData.tuple (row.map fig)).length) && decide (((sp l).map fun row => PyData.tuple (row.map fig)).length ≤ 3) && (((sp l).map fun row => PyData.tuple (row.map fig)).all rowOk && (((sp l).map fun row => PyData.tuple (row.map fig)).all (fun r => decide ((tups r).length = (tups (((sp l).map fun row => PyData.tuple (row.map fig)).headD .none)).length)) && ((sp l).map fun row => PyData.tuple (row.map fig)).all fun r => (tups r).all (isRest p)))) = true ↔ _
      rw [hh]
      simp only [Bool.and_eq_true, decide_eq_true_iff, List.all_eq_true, List.mem_map, forall_exists_index, and_imp, forall_apply_eq_imp_iff₂, List.length_map]
      refine and_congr Iff.rfl (and_congr (forall₂_congr fun q hq => ?_) (and_congr (forall₂_congr fun q hq => ?_) (forall₂_congr fun q hq => ?_)))
      · show (decide (1 ≤ (q.map fig).length) && decide ((q.map fig).length ≤ 3)) = true ↔ _
        rw [Bool.and_eq_true, decide_eq_true_iff, decide_eq_true_iff, List.length_map]
      · show (q.map fig).length = h.length ↔ _
        rw [List.length_map, e]
        rfl
      · show (∀ x ∈ q.map fig, isRest p x = true) ↔ _
        constructor
        · intro w c hc
          exact (rest_fig c).mp (w _ (List.mem_map.mpr ⟨c, hc, rfl⟩))
        · intro w x hx
          obtain ⟨c, hc, rfl⟩ := List.mem_map.mp hx
          exact (rest_fig c).mpr (w c hc)
    obtain ⟨h, rest, e⟩ := sp_ne l
    have h1 : 1 ≤ (sp l).length := by rw [e]; simp
    have hd : (sp l).headD [] ∈ sp l := by rw [e]; exact List.mem_cons_self
    rw [hT]
    unfold dueA dueB dueC
    simp only [Bool.and_eq_true, decide_eq_true_iff, List.all_eq_true, List.mem_flatten, forall_exists_index, and_imp, take_mem (p := p)]
    constructor
    · rintro ⟨_, ⟨_, a2⟩, a3, a4, a5⟩
      exact ⟨⟨a2, a3 _ hd⟩, a4, fun c q hq hc => a5 q hq c hc⟩
    · rintro ⟨⟨a1, a2, a3⟩, a4, a5⟩
      refine ⟨?_, ⟨h1, a1⟩, fun q hq => by rw [a4 q hq]; exact ⟨a2, a3⟩, a4, fun q hq c hc => a5 c q hq hc⟩
      refine List.all_eq_true.mpr fun c hc => decide_eq_true ?_
      rcases spl_all l [] c (.inl hc) with w | ⟨q, hq, w⟩
      · rw [w]; decide
      · have := a5 c q hq w
        simp only [figs, List.mem_cons, List.not_mem_nil, or_false]
        omega
  unfold rd
  by_cases h : (dueA (sp l) && (dueB (sp l) && dueC p (sp l))) = true
  · obtain ⟨a, b⟩ := key.mpr h
    rw [if_pos h, if_pos a, if_pos b]
  · rw [if_neg h]
    by_cases a : okSig l = true
    · rw [if_pos a]
      exact if_neg fun b => h (key.mp ⟨a, b⟩)
    · exact if_neg a
end Dz

namespace Dz
open PySem (PyData Str sizeLine)
theorem xseq_to {g : En → Option Ou} {k : En → Option (Option Ou)} {env env1 : En} {o : Option (Option Ou)} (h : g env = some (.nx env1)) (hk : k env1 = o) : xSeq g k env = o := (bd_ok h).trans hk
theorem xif_t {c : En → Option Bool} {k : En → Option (Option Ou)} {env : En} (h : c env = some true) : xIf c k env = some none := bd_ok h
theorem xif_f {c : En → Option Bool} {k : En → Option (Option Ou)} {env : En} {o : Option (Option Ou)} (h : c env = some false) (hk : k env = o) : xIf c k env = o := (bd_ok h).trans hk
theorem xok_to {g : En → Option Ou} {env : En} {o : Ou} (h : g env = some o) : xOk g env = some (some o) := bd_ok h
theorem runx_ok {n : Nat} {g : En → Option (Option Ou)} {ds : List PyData} {r : Option Ou} (h : g (ds.map Sl.dat ++ List.replicate n Sl.un) = some r) : runX n g ds = some (r.map rtD) := bd_ok h
theorem mOk_ok {m : List PyData → Option (Option PyData)} {ds : List PyData} {d : PyData} (h : m ds = some (some d)) : mOk m ds = some d := by unfold mOk; rw [h]; rfl
theorem told_to {T : PySem.Addr} {it i : Nat} {k : Int} {m : List PyData → Option (Option PyData)} {fl : En → Option (List PyData)} {env : En} {ds : List PyData} {r : Option PyData} (ht : env[it]? = some (.tab T)) (hf : fl env = some ds) (hm : m ds = some r) : sTold T it i k m fl env = some (tldD i k r) := by
  unfold sTold
  rw [ht]
  show (if T = T then _ else _) = _
  rw [if_pos rfl, hf, Option.bind_some, hm]
  rfl
theorem runT_ok {T : PySem.Addr} {n : Nat} {g : En → Option Ou} {ds : List PyData} {d : PyData} (h : g (ds.map Sl.dat ++ List.replicate n Sl.un ++ [.tab T]) = some (.rt d)) : runT T n g ds = some d := bd_ok h
/-- the cell of the script -/
def cel (ns : List Int) (k : Nat) : Int := (ns[k]?).getD 0
theorem e_cell (ns : List Int) (k : Nat) : m_law_cell_at [scrD ns, eN k] = some (.int (cel ns k)) := by
  have hl : lenD [scrD ns] = some (eN ns.length) := by
    show some (PyData.int (((ns.map fun n => (PyData.int n, PyData.none)).length : Nat) : Int)) = _
    rw [List.length_map]
  have ht : sB (s2 ltD (sVar 1) (sAs lenD (sCons (sVar 0) sNil))) [Sl.dat (scrD ns), .dat (eN k)] = some (decide (k < ns.length)) := sB_ok (s2_to rfl (as_to (cons_ok rfl rfl) hl) (ltN _ _))
  by_cases h : k < ns.length
  · rw [decide_eq_true h] at ht
    refine run_ok (seq_rt ((if_t ht).trans (ret_ok (s2_to rfl rfl ?_))))
    have e : ixD (scrD ns) (eN k) = (L2.atI ((ns.map fun n => (PyData.int n, PyData.none)).map (·.1)) (k : Int)).bind keyI := rfl
    rw [e, List.map_map]
    have hg : ns[k]? = some ns[k] := List.getElem?_eq_getElem h
    rw [at_map (f := (fun x : PyData × PyData => x.1) ∘ fun n => (PyData.int n, PyData.none)) hg]
    unfold cel
    rw [hg]
    rfl
  · rw [decide_eq_false h] at ht
    refine run_ok (seq_to (if_f ht) (ret_ok (f := sC (.int 0)) ?_))
    unfold cel
    rw [List.getElem?_eq_none (Nat.le_of_not_lt h)]
    rfl
def mxd (ns : List Int) (k : Nat) : Nat := ((cel ns k + 7919 * (k : Int) + 1) * 48271 % 2147483647).toNat
def mx (ns : List Int) (k : Nat) : Nat := (mxd ns k * mxd ns k + 7 * mxd ns k + k) % 2147483629
theorem mx_lt (ns : List Int) (k : Nat) : mx ns k < 2147483629 := Nat.mod_lt _ (by decide)
theorem e_mixed (ns : List Int) (k : Nat) (hk : k ≤ 1000) : m_law_mixed [scrD ns, eN k] = some (eN (mx ns k)) := by
  have h0 : (0 : Int) ≤ (cel ns k + 7919 * (k : Int) + 1) * 48271 % 2147483647 := Int.emod_nonneg _ (by decide)
  have h1 : (cel ns k + 7919 * (k : Int) + 1) * 48271 % 2147483647 < 2147483647 := Int.emod_lt_of_pos _ (by decide)
  have hd : mxd ns k < 2147483647 := by unfold mxd; omega
  have hv : ((mxd ns k : Nat) : Int) = (cel ns k + 7919 * (k : Int) + 1) * 48271 % 2147483647 := by unfold mxd; omega
  have hset : gSet 2 (s2 modD (s2 mulD (s2 addD (s2 addD (sAs m_law_cell_at (sCons (sVar 0) (sCons (sVar 1) sNil))) (s2 mulD (sC (.int 7919)) (sVar 1))) (sC (.int 1))) (sC (.int 48271))) (sC (.int 2147483647))) [Sl.dat (scrD ns), .dat (eN k), .un] = some (.nx [Sl.dat (scrD ns), .dat (eN k), .dat (eN (mxd ns k))]) := by
    refine set_ok (d := eN (mxd ns k)) (s2_to (s2_to (s2_to (s2_to (as_to (cons_ok rfl (cons_ok rfl rfl)) (e_cell ns k)) (s2_to rfl rfl (mul_i (.inl (by rw [p64]; omega)))) (add_i _ _)) rfl (add_i _ _)) rfl (mul_i (.inr (by rw [p64]; omega)))) rfl ((mod_pos _ (by decide)).trans ?_))
    show _ = some (PyData.int ((mxd ns k : Nat) : Int))
    rw [hv]
  apply run_ok
  apply seq_to hset
  unfold mx
  apply ret_ok
  (repeat' first | with_reducible exact cN _ | with_reducible exact c_ok | with_reducible exact nil_ok | ((with_reducible apply var_ok); exact rfl) | with_reducible exact addN _ _ | with_reducible exact mulN _ _ (by omega) | with_reducible exact modN _ _ (by omega) | with_reducible exact divN _ _ (by omega) (by omega) | with_reducible exact eqN _ _ | with_reducible exact neN _ _ | with_reducible exact ltN _ _ | with_reducible exact leN _ _ | with_reducible exact gtN _ _ | with_reducible exact geN _ _ | with_reducible apply s2_to | with_reducible apply cons_ok | with_reducible apply as_to | with_reducible apply sB_ok)
def drd (n k : Nat) : Nat := (n + 104729 * k + 17) * 69621 % 2147483647
def dr (n k : Nat) : Nat := (drd n k * drd n k + 3 * drd n k + k) % 2147483629
theorem dr_lt (n k : Nat) : dr n k < 2147483629 := Nat.mod_lt _ (by decide)
theorem e_drawn (n k : Nat) (hn : n ≤ 1000000000000) (hk : k ≤ 1000) : m_law_drawn [eN n, eN k] = some (eN (dr n k)) := by
  have hd : drd n k < 2147483647 := Nat.mod_lt _ (by decide)
  apply run_ok
  apply seq_to
  · apply set_ok (d := eN (drd n k))
    unfold drd
    (repeat' first | with_reducible exact cN _ | with_reducible exact c_ok | with_reducible exact nil_ok | ((with_reducible apply var_ok); exact rfl) | with_reducible exact addN _ _ | with_reducible exact mulN _ _ (by omega) | with_reducible exact modN _ _ (by omega) | with_reducible exact divN _ _ (by omega) (by omega) | with_reducible exact eqN _ _ | with_reducible exact neN _ _ | with_reducible exact ltN _ _ | with_reducible exact leN _ _ | with_reducible exact gtN _ _ | with_reducible exact geN _ _ | with_reducible apply s2_to | with_reducible apply cons_ok | with_reducible apply as_to | with_reducible apply sB_ok)
  · unfold dr
    apply ret_ok
    (repeat' first | with_reducible exact cN _ | with_reducible exact c_ok | with_reducible exact nil_ok | ((with_reducible apply var_ok); exact rfl) | with_reducible exact addN _ _ | with_reducible exact mulN _ _ (by omega) | with_reducible exact modN _ _ (by omega) | with_reducible exact divN _ _ (by omega) (by omega) | with_reducible exact eqN _ _ | with_reducible exact neN _ _ | with_reducible exact ltN _ _ | with_reducible exact leN _ _ | with_reducible exact gtN _ _ | with_reducible exact geN _ _ | with_reducible apply s2_to | with_reducible apply cons_ok | with_reducible apply as_to | with_reducible apply sB_ok)
def byN (n : Nat) : Nat := if n % 3 = 0 then 2 else if n % 3 = 1 then 3 else 5
instance byPr (n : Nat) : Pr (byN n) := ⟨by unfold byN; split; exact .inl rfl; split; exact .inr (.inl rfl); exact .inr (.inr rfl)⟩
theorem e_by (n : Nat) : m_law_by [eN n] = some (eN (byN n)) := by
  have hm : modD (eN n) (.int 3) = some (eN (n % 3)) := modN n 3 (by decide)
  have h3 : n % 3 = 0 ∨ n % 3 = 1 ∨ n % 3 = 2 := by omega
  refine run_ok (ret_ok (s2_to rfl (s2_to rfl rfl hm) ?_))
  unfold byN
  rcases h3 with e | e | e <;> rw [e] <;> rfl
def tfN (n p kind i j : Nat) : Nat :=
  if (decide (kind = 3) && decide (i = j)) = true then n / 16 % p else if (decide (kind = 2) && decide (j < i)) = true then 0 else if (decide (kind = 1) && decide (0 < dr n (5 * i + j) / 4 / 8 % 3)) = true then 0 else dr n (5 * i + j) / 4 % p
theorem tfN_lt (n p kind i j : Nat) (h : 0 < p) : tfN n p kind i j < p := by
  unfold tfN
  split
  · exact Nat.mod_lt _ h
  · split
    · exact h
    · split
      · exact h
      · exact Nat.mod_lt _ h
/-- the table that is drawn -/
def tab (p n r c : Nat) [Pr p] : Mt p r c := fun i j => ⟨tfN n p (n % 4) i.val j.val, tfN_lt _ _ _ _ _ (by have := Pr.le (p := p); omega)⟩
theorem tab_in {p : Nat} [Pr p] (n r c i j kind : Nat) (fd line : List PyData) (hn : n ≤ 1000000000000) (hi : i ≤ 100) (hj : j ≤ 100) (hl : line.length < 16777216) :
    law_table_b1 [.dat (eN n), .dat (eN p), .dat (eN r), .dat (eN c), .dat (eN kind), .own fd, .dat (eN i), .own line, .dat (eN j), .un, .un] = some (.nx [.dat (eN n), .dat (eN p), .dat (eN r), .dat (eN c), .dat (eN kind), .own fd, .dat (eN i), .own (line ++ [eN (tfN n p kind i j)]), .dat (eN j), .dat (eN (dr n (5 * i + j) / 4)), .dat (eN (tfN n p kind i j))]) := by
  have hp := Pr.le (p := p)
  have hd := dr_lt n (5 * i + j)
  apply seq_to
  · apply set_ok (d := eN (dr n (5 * i + j) / 4))
    (repeat' first | with_reducible exact cN _ | with_reducible exact c_ok | with_reducible exact nil_ok | ((with_reducible apply var_ok); exact rfl) | with_reducible exact addN _ _ | with_reducible exact mulN _ _ (by omega) | with_reducible exact modN _ _ (by omega) | with_reducible exact divN _ _ (by omega) (by omega) | with_reducible exact eqN _ _ | with_reducible exact neN _ _ | with_reducible exact ltN _ _ | with_reducible exact leN _ _ | with_reducible exact gtN _ _ | with_reducible exact geN _ _ | with_reducible exact e_drawn _ _ (by omega) (by omega) | with_reducible apply s2_to | with_reducible apply cons_ok | with_reducible apply as_to | with_reducible apply sB_ok)
  simp only [List.set_cons_succ, List.set_cons_zero, List.map_cons, List.map_nil, List.replicate, List.cons_append, List.nil_append]
  apply seq_to
  · apply set_ok (d := eN (dr n (5 * i + j) / 4 % p))
    (repeat' first | with_reducible exact cN _ | with_reducible exact c_ok | with_reducible exact nil_ok | ((with_reducible apply var_ok); exact rfl) | with_reducible exact addN _ _ | with_reducible exact mulN _ _ (by omega) | with_reducible exact modN _ _ (by omega) | with_reducible exact divN _ _ (by omega) (by omega) | with_reducible exact eqN _ _ | with_reducible exact neN _ _ | with_reducible exact ltN _ _ | with_reducible exact leN _ _ | with_reducible exact gtN _ _ | with_reducible exact geN _ _ | with_reducible apply s2_to | with_reducible apply cons_ok | with_reducible apply as_to | with_reducible apply sB_ok)
  simp only [List.set_cons_succ, List.set_cons_zero, List.map_cons, List.map_nil, List.replicate, List.cons_append, List.nil_append]
  apply seq_to
  · refine ifset_ok (d0 := eN (dr n (5 * i + j) / 4 % p)) (d1 := eN 0) (b := decide (kind = 1) && decide (0 < dr n (5 * i + j) / 4 / 8 % 3)) (and_ok ?_ fun _ => ?_) (fun _ => rfl) rfl
    · (repeat' first | with_reducible exact cN _ | with_reducible exact c_ok | with_reducible exact nil_ok | ((with_reducible apply var_ok); exact rfl) | with_reducible exact addN _ _ | with_reducible exact mulN _ _ (by omega) | with_reducible exact modN _ _ (by omega) | with_reducible exact divN _ _ (by omega) (by omega) | with_reducible exact eqN _ _ | with_reducible exact neN _ _ | with_reducible exact ltN _ _ | with_reducible exact leN _ _ | with_reducible exact gtN _ _ | with_reducible exact geN _ _ | with_reducible apply s2_to | with_reducible apply cons_ok | with_reducible apply as_to | with_reducible apply sB_ok)
    · (repeat' first | with_reducible exact cN _ | with_reducible exact c_ok | with_reducible exact nil_ok | ((with_reducible apply var_ok); exact rfl) | with_reducible exact addN _ _ | with_reducible exact mulN _ _ (by omega) | with_reducible exact modN _ _ (by omega) | with_reducible exact divN _ _ (by omega) (by omega) | with_reducible exact eqN _ _ | with_reducible exact neN _ _ | with_reducible exact ltN _ _ | with_reducible exact leN _ _ | with_reducible exact gtN _ _ | with_reducible exact geN _ _ | with_reducible apply s2_to | with_reducible apply cons_ok | with_reducible apply as_to | with_reducible apply sB_ok)
  simp only [List.set_cons_succ, List.set_cons_zero, List.map_cons, List.map_nil, List.replicate, List.cons_append, List.nil_append]
  apply seq_to
  · refine ifset_ok (d0 := _) (d1 := eN 0) (b := decide (kind = 2) && decide (j < i)) (and_ok ?_ fun _ => ?_) (fun _ => rfl) rfl
    · (repeat' first | with_reducible exact cN _ | with_reducible exact c_ok | with_reducible exact nil_ok | ((with_reducible apply var_ok); exact rfl) | with_reducible exact addN _ _ | with_reducible exact mulN _ _ (by omega) | with_reducible exact modN _ _ (by omega) | with_reducible exact divN _ _ (by omega) (by omega) | with_reducible exact eqN _ _ | with_reducible exact neN _ _ | with_reducible exact ltN _ _ | with_reducible exact leN _ _ | with_reducible exact gtN _ _ | with_reducible exact geN _ _ | with_reducible apply s2_to | with_reducible apply cons_ok | with_reducible apply as_to | with_reducible apply sB_ok)
    · (repeat' first | with_reducible exact cN _ | with_reducible exact c_ok | with_reducible exact nil_ok | ((with_reducible apply var_ok); exact rfl) | with_reducible exact addN _ _ | with_reducible exact mulN _ _ (by omega) | with_reducible exact modN _ _ (by omega) | with_reducible exact divN _ _ (by omega) (by omega) | with_reducible exact eqN _ _ | with_reducible exact neN _ _ | with_reducible exact ltN _ _ | with_reducible exact leN _ _ | with_reducible exact gtN _ _ | with_reducible exact geN _ _ | with_reducible apply s2_to | with_reducible apply cons_ok | with_reducible apply as_to | with_reducible apply sB_ok)
  simp only [List.set_cons_succ, List.set_cons_zero, List.map_cons, List.map_nil, List.replicate, List.cons_append, List.nil_append]
  apply seq_to
  · refine ifset_ok (d0 := _) (d1 := eN (n / 16 % p)) (b := decide (kind = 3) && decide (i = j)) (and_ok ?_ fun _ => ?_) (fun _ => ?_) rfl
    · (repeat' first | with_reducible exact cN _ | with_reducible exact c_ok | with_reducible exact nil_ok | ((with_reducible apply var_ok); exact rfl) | with_reducible exact addN _ _ | with_reducible exact mulN _ _ (by omega) | with_reducible exact modN _ _ (by omega) | with_reducible exact divN _ _ (by omega) (by omega) | with_reducible exact eqN _ _ | with_reducible exact neN _ _ | with_reducible exact ltN _ _ | with_reducible exact leN _ _ | with_reducible exact gtN _ _ | with_reducible exact geN _ _ | with_reducible apply s2_to | with_reducible apply cons_ok | with_reducible apply as_to | with_reducible apply sB_ok)
    · (repeat' first | with_reducible exact cN _ | with_reducible exact c_ok | with_reducible exact nil_ok | ((with_reducible apply var_ok); exact rfl) | with_reducible exact addN _ _ | with_reducible exact mulN _ _ (by omega) | with_reducible exact modN _ _ (by omega) | with_reducible exact divN _ _ (by omega) (by omega) | with_reducible exact eqN _ _ | with_reducible exact neN _ _ | with_reducible exact ltN _ _ | with_reducible exact leN _ _ | with_reducible exact gtN _ _ | with_reducible exact geN _ _ | with_reducible apply s2_to | with_reducible apply cons_ok | with_reducible apply as_to | with_reducible apply sB_ok)
    · (repeat' first | with_reducible exact cN _ | with_reducible exact c_ok | with_reducible exact nil_ok | ((with_reducible apply var_ok); exact rfl) | with_reducible exact addN _ _ | with_reducible exact mulN _ _ (by omega) | with_reducible exact modN _ _ (by omega) | with_reducible exact divN _ _ (by omega) (by omega) | with_reducible exact eqN _ _ | with_reducible exact neN _ _ | with_reducible exact ltN _ _ | with_reducible exact leN _ _ | with_reducible exact gtN _ _ | with_reducible exact geN _ _ | with_reducible apply s2_to | with_reducible apply cons_ok | with_reducible apply as_to | with_reducible apply sB_ok)
  simp only [List.set_cons_succ, List.set_cons_zero, List.map_cons, List.map_nil, List.replicate, List.cons_append, List.nil_append]
  have e : (if (decide (kind = 3) && decide (i = j)) = true then eN (n / 16 % p) else if (decide (kind = 2) && decide (j < i)) = true then eN 0 else if (decide (kind = 1) && decide (0 < dr n (5 * i + j) / 4 / 8 % 3)) = true then eN 0 else eN (dr n (5 * i + j) / 4 % p)) = eN (tfN n p kind i j) := by
    unfold tfN
    split
    · rfl
    · split
      · rfl
      · split <;> rfl
  rw [e]
  exact app_ok (i := 7) rfl rfl hl
theorem e_table {p : Nat} [Pr p] (n r c : Nat) (hn : n ≤ 1000000000000) (hr : r ≤ 100) (hc : c ≤ 100) : m_law_table [eN n, eN p, eN r, eN c] = some (eT (tab p n r c)) := by
  apply run_ok
  apply seq_to
  · apply set_ok (d := eN (n % 4))
    (repeat' first | with_reducible exact cN _ | with_reducible exact c_ok | with_reducible exact nil_ok | ((with_reducible apply var_ok); exact rfl) | with_reducible exact addN _ _ | with_reducible exact mulN _ _ (by omega) | with_reducible exact modN _ _ (by omega) | with_reducible exact divN _ _ (by omega) (by omega) | with_reducible exact eqN _ _ | with_reducible exact neN _ _ | with_reducible exact ltN _ _ | with_reducible exact leN _ _ | with_reducible exact gtN _ _ | with_reducible exact geN _ _ | with_reducible apply s2_to | with_reducible apply cons_ok | with_reducible apply as_to | with_reducible apply sB_ok)
  apply seq_to
  · exact rfl
  apply seq_to
  · refine gFor_pre (fun l => [.dat (eN n), .dat (eN p), .dat (eN r), .dat (eN c), .dat (eN (n % 4)), .own (l.map fun i => eR (tab p n r c i)), .un, .un, .un, .un, .un]) (fun i : Fin r => .int (i.val : Int)) (fr r) (ar_to (cons_ok rfl rfl) (rg1_ok (by omega))) rfl fun l i rr e => ?_
    have hl := pre_len e
    rw [fr_len] at hl
    have hb : law_table_b2 [.dat (eN n), .dat (eN p), .dat (eN r), .dat (eN c), .dat (eN (n % 4)), .own (l.map fun i => eR (tab p n r c i)), .dat (eN i.val), .un, .un, .un, .un] = some (.nx [.dat (eN n), .dat (eN p), .dat (eN r), .dat (eN c), .dat (eN (n % 4)), .own (l.map (fun i => eR (tab p n r c i)) ++ [eR (tab p n r c i)]), .dat (eN i.val), .own ((fr c).map fun j => eI (tab p n r c i j)), .un, .un, .un]) := by
      apply seq_to
      · exact rfl
      apply seq_to
      · refine gFor_pre (fun l' => [.dat (eN n), .dat (eN p), .dat (eN r), .dat (eN c), .dat (eN (n % 4)), .own (l.map fun i => eR (tab p n r c i)), .dat (eN i.val), .own (l'.map fun j => eI (tab p n r c i j)), .un, .un, .un]) (fun j : Fin c => .int (j.val : Int)) (fr c) (ar_to (cons_ok rfl rfl) (rg1_ok (by omega))) rfl fun l' j rr' e' => ?_
        have hl' := pre_len e'
        rw [fr_len] at hl'
        refine turn_to rfl (tab_in n r c i.val j.val (n % 4) (l.map fun i => eR (tab p n r c i)) (l'.map fun j => eI (tab p n r c i j)) hn (by omega) (by omega) (by rw [List.length_map]; omega)) ?_
        rw [List.map_append]
        rfl
      · exact app_ok (i := 5) rfl (as_to (own_ok rfl) rfl) (by rw [List.length_map]; omega)
    refine turn_to rfl hb ?_
    rw [List.map_append]
    rfl
  · rfl
theorem e_plus {p r c : Nat} [Pr p] (A B : Mt p r c) (hr : r ≤ 100) (hc : c ≤ 100) : m_plus [eN p, eT A, eT B] = some (eT (ma A B)) := by
  have hrow : ∀ (v w : Fin c → Fin p) (a b : PyData) (l : List PyData), plus_c1 [.dat (eN p), .dat a, .dat b, .own l, .dat (eR v), .dat (eR w), .un, .un] = some ((fr c).map fun j => eI (v j + w j)) := by
    intro v w a b l
    refine sLc_map (h := fun j => .tuple [eI (v j), eI (w j)]) (congrArg some (zip_fr _ _ _)) (by rw [fr_len]; omega) fun j _ => ?_
    exact lcB_ok rfl rfl (s2_to (s2_to rfl rfl (add_i _ _)) rfl (add_v _ _))
  refine run_ok ((seq_ok (gFor_pre (fun l => [.dat (eN p), .dat (eT A), .dat (eT B), .own (l.map fun i => eR fun j => A i j + B i j), .un, .un, .un, .un]) (fun i => .tuple [eR (A i), eR (B i)]) (fr r) (congrArg some (zip_fr _ _ _)) rfl fun l i rr e => ?_)).trans rfl)
  have hl := pre_len e
  rw [fr_len] at hl
  refine turn_to rfl (app_ok (i := 3) (d := eR fun j => A i j + B i j) rfl (as_to (hrow (A i) (B i) _ _ _) rfl) (by rw [List.length_map]; omega)) ?_
  rw [List.map_append]
  rfl
theorem e_scaled {p r c : Nat} [Pr p] (x : Fin p) (A : Mt p r c) (hr : r ≤ 100) (hc : c ≤ 100) : m_scaled [eN p, eI x, eT A] = some (eT (ms x A)) := by
  have hrow : ∀ (v : Fin c → Fin p) (a : PyData), scaled_c1 [.dat (eN p), .dat (eI x), .dat a, .dat (eR v), .un] = some ((fr c).map fun j => eI (x * v j)) := by
    intro v a
    refine sLc_map (h := fun j => eI (v j)) rfl (by rw [fr_len]; omega) fun j _ => ?_
    exact lcB_ok rfl rfl (s2_to (s2_to rfl rfl (mul_ok _ _)) rfl (mul_v _ _))
  refine run_ok (ret_ok (as_to (sLc_map (h := fun i => eR (A i)) (k := fun i => eR fun j => x * A i j) rfl (by rw [fr_len]; omega) fun i _ => ?_) rfl))
  exact lcB_ok rfl rfl (as_to (hrow (A i) _) rfl)
theorem e_turned {p r c : Nat} (A : Mt p (r + 1) c) (hr : r ≤ 100) (hc : c ≤ 100) : m_turned [eT A] = some (eT (mt A)) := by
  have hrow : ∀ (j : Fin c), turned_c1 [.dat (eT A), .dat (.int j.val), .un] = some ((fr (r + 1)).map fun i => eI (A i j)) := by
    intro j
    refine sLc_map (h := fun i => eR (A i)) rfl (by rw [fr_len]; omega) fun i _ => ?_
    exact lcB_ok rfl rfl (s2_to rfl rfl (ix_R _ j))
  refine run_ok (ret_ok (as_to (sLc_map (h := fun j : Fin c => .int (j.val : Int)) (k := fun j => eR fun i => A i j) (ar_to (cons_ok (as_to (cons_ok (s2_to rfl rfl (ix_T0 A)) rfl) (len_R _)) rfl) (rg1_ok (by omega))) (by rw [fr_len]; omega) fun j _ => ?_) rfl))
  exact lcB_ok rfl rfl (as_to (hrow j) rfl)
theorem e_times {p r k c : Nat} [Pr p] (A : Mt p r (k + 1)) (B : Mt p (k + 1) c) (hr : r ≤ 100) (hk : k ≤ 100) (hc : c ≤ 100) : m_times [eN p, eT A, eT B] = some (eT (mm A B)) := by
  have h1 : ∀ (v w : Fin (k + 1) → Fin p) (a b : PyData) (l : List PyData) (x : Sl), times_c1 [.dat (eN p), .dat a, .dat b, x, .own l, .dat (eR v), .dat (eR w), .un, .un] = some ((fr (k + 1)).map fun j => .int (((v j).val : Int) * ((w j).val : Int))) := by
    intro v w a b l x
    refine sLc_map (h := fun j => .tuple [eI (v j), eI (w j)]) (congrArg some (zip_fr _ _ _)) (by rw [fr_len]; omega) fun j _ => ?_
    exact lcB_ok rfl rfl (s2_to rfl rfl (mul_ok _ _))
  have h2 : ∀ (v : Fin (k + 1) → Fin p) (a b : PyData) (l : List PyData), times_c2 [.dat (eN p), .dat a, .dat b, .dat (eT fun i j => B j i), .own l, .dat (eR v), .un, .un, .un] = some ((fr c).map fun j => eI (sm fun l => v l * B l j)) := by
    intro v a b l
    refine sLc_map (h := fun j => eR fun l => B l j) rfl (by rw [fr_len]; omega) fun j _ => ?_
    exact lcB_ok rfl rfl (s2_to (as_to (h1 v (fun l => B l j) _ _ _ _) (bd_ok (intL_map _ _))) rfl (sum_v _ _))
  refine run_ok (seq_to (set_ok (as_to (cons_ok rfl rfl) (e_turned B (by omega) hc))) (seq_to rfl (seq_to (gFor_pre (fun l => [.dat (eN p), .dat (eT A), .dat (eT B), .dat (eT fun i j => B j i), .own (l.map fun i => eR fun j => sm fun l => A i l * B l j), .un, .un, .un, .un]) (fun i => eR (A i)) (fr r) rfl rfl fun l i rr e => ?_) rfl)))
  have hl := pre_len e
  rw [fr_len] at hl
  refine turn_to rfl (app_ok (i := 4) (d := eR fun j => sm fun l => A i l * B l j) rfl (as_to (h2 (A i) _ _ _) rfl) (by rw [List.length_map]; omega)) ?_
  rw [List.map_append]
  rfl
theorem e_unit {p n : Nat} [Pr p] (hn : n ≤ 100) : m_unit [eN n] = some (eT (m1 : Mt p n n)) := by
  have hrow : ∀ (i : Fin n), unit_c1 [.dat (eN n), .dat (.int i.val), .un] = some ((fr n).map fun j => eI ((m1 : Mt p n n) i j)) := by
    intro i
    refine sLc_map (h := fun j : Fin n => .int (j.val : Int)) (ar_to (cons_ok rfl rfl) (rg1_ok (by omega))) (by rw [fr_len]; omega) fun j _ => ?_
    exact lcB_ok rfl rfl (as_to (cons_ok (s2_to rfl rfl (eq_int _ _)) rfl) (del_i i j))
  refine run_ok (ret_ok (as_to (sLc_map (h := fun i : Fin n => .int (i.val : Int)) (k := fun i => eR ((m1 : Mt p n n) i)) (ar_to (cons_ok rfl rfl) (rg1_ok (by omega))) (by rw [fr_len]; omega) fun i _ => ?_) rfl))
  exact lcB_ok rfl rfl (as_to (hrow i) rfl)
theorem e_less {p n : Nat} [Pr p] (v w : Vc p n) (x : Fin p) (hn : n ≤ 10000) : m_less [eN p, eR v, eI x, eR w] = some (eR (lss v x w)) := by
  refine run_ok (ret_ok (as_to (sLc_map (h := fun j => .tuple [eI (v j), eI (w j)]) (k := fun j => eI (lss v x w j)) (congrArg some (zip_fr _ _ _)) (by rw [fr_len]; omega) fun j _ => ?_) rfl))
  exact lcB_ok rfl rfl (s2_to (s2_to rfl (s2_to rfl rfl (mul_ok x _)) rfl) rfl (sub_v _ _ _))
theorem fo_find {p n : Nat} [Pr p] (v : Vc p n) : fo v = match (fr n).find? fun i => !decide (v i = 0) with | some i => i.val | none => n := by
  cases h : (fr n).find? fun i => !decide (v i = 0) with
  | some i =>
    obtain ⟨h1, as, bs, h2, h3⟩ := List.find?_eq_some_iff_append.mp h
    have hi := pre_idx h2
    refine fo_of (by simpa using h1) fun j hj => ?_
    have hja : j ∈ as := by
      have e1 := fr_get j.isLt
      rw [h2, List.getElem?_append_left (by rw [← hi]; exact hj)] at e1
      exact List.mem_of_getElem? e1
    simpa using h3 j hja
  | none =>
    have h1 := List.find?_eq_none.mp h
    have h2 : ¬ fo v < n := fun hf => by
      obtain ⟨i, _, h3, _⟩ := fo_lt hf
      exact h1 i (fr_mem i) (by simpa using h3)
    have h4 : fo v ≤ n := by
      have := List.findIdx_le_length (xs := fr n) (p := fun i => !decide (v i = 0))
      rw [fr_len] at this
      exact this
    show fo v = n
    omega
theorem e_first_of {p n : Nat} [Pr p] (v : Vc p n) : m_first_of [eR v] = some (eN (fo v)) := by
  have ht : ∀ i ∈ fr n, turn (gT (gCons (gN 1) (gCons (gN 2) gNil))) first_of_b1 [1, 2] (.tuple [eN i.val, eI (v i)]) [.dat (eR v), .un, .un] = some (if (!decide (v i = 0)) = true then .rt (eN i.val) else .nx [.dat (eR v), .un, .un]) := by
    intro i _
    refine (bd_ok (a := ([.dat (eR v), .dat (eN i.val), .dat (eI (v i))] : En)) rfl).trans ?_
    have hc : sB (s2 neD (sVar 2) (sC (.int 0))) [.dat (eR v), .dat (eN i.val), .dat (eI (v i))] = some (!decide (v i = 0)) := sB_ok (s2_to rfl rfl (ne_0 _))
    cases hb : (!decide (v i = 0)) with
    | true => exact (bd_ok ((if_t (hc.trans (by rw [hb]))).trans (ret_ok (d := eN i.val) rfl))).trans rfl
    | false => exact (bd_ok ((if_f (hc.trans (by rw [hb]))).trans rfl)).trans rfl
  have hg := (gFor_of (fi := sArg enu (sCons (sVar 0) sNil)) (gt := gT (gCons (gN 1) (gCons (gN 2) gNil))) (body := first_of_b1) (ks := [1, 2]) (env := [.dat (eR v), .un, .un]) (env1 := [.dat (eR v), .un, .un]) (ds := (fr n).map fun i => .tuple [eN i.val, eI (v i)]) (congrArg some (enL_fr _)) rfl).trans (forGo_find (r := fun i : Fin n => eN i.val) (fun i => !decide (v i = 0)) (fr n) ht)
  apply run_ok
  rw [fo_find v]
  cases h : (fr n).find? fun i => !decide (v i = 0) with
  | some i =>
    rw [h] at hg
    exact seq_rt hg
  | none =>
    rw [h] at hg
    exact seq_to hg (ret_ok (as_to rfl (len_R v)))
def ivN (p x : Nat) : List Nat := ((List.range (p - 1)).map fun k => k + 1).filter fun y => x * y % p = 1
theorem ivN2 : ∀ x : Fin 2, x ≠ 0 → (ivN 2 x.val)[0]? = some (iv x).val := by decide
theorem ivN3 : ∀ x : Fin 3, x ≠ 0 → (ivN 3 x.val)[0]? = some (iv x).val := by decide
theorem ivN5 : ∀ x : Fin 5, x ≠ 0 → (ivN 5 x.val)[0]? = some (iv x).val := by decide
theorem ivN_ok {p : Nat} [Pr p] (x : Fin p) (h : x ≠ 0) : (ivN p x.val)[0]? = some (iv x).val := by
  rcases (‹Pr p›).is with e | e | e
  · subst e; exact ivN2 x h
  · subst e; exact ivN3 x h
  · subst e; exact ivN5 x h
theorem e_inverse {p : Nat} [Pr p] (x : Fin p) (h : x ≠ 0) : m_inverse [eN p, eI x] = some (eI (iv x)) := by
  have hp := Pr.le (p := p)
  have hx := x.isLt
  have hc : inverse_c1 [.dat (eN p), .dat (eI x), .un] = some ((ivN p x.val).map eN) := by
    refine sLc_filter (h := eN) (k := eN) (p := fun y => decide (x.val * y % p = 1)) (xs := (List.range (p - 1)).map fun k => k + 1) ?_ (by simp; omega) fun y hy => ?_
    · refine ar_to (cons_ok rfl (cons_ok rfl rfl)) ?_
      have e : rg2 [.int 1, eN p] = if -(2 ^ 62) ≤ (1 : Int) ∧ (1 : Int) < 2 ^ 62 ∧ -(2 ^ 62) ≤ (p : Int) ∧ (p : Int) < 2 ^ 62 then some (rgL 1 ((p : Int) - 1).toNat) else none := rfl
      rw [e, p62, if_pos (by omega)]
      have e2 : ((p : Int) - 1).toNat = p - 1 := by omega
      rw [e2]
      unfold rgL
      rw [List.map_map]
      exact congrArg some (List.map_congr_left fun k _ => congrArg PyData.int (by
        show (1 : Int) + (k : Int) = ((k + 1 : Nat) : Int)
        omega))
    · refine lcB_if rfl (sB_ok (s2_to (s2_to (s2_to rfl rfl (mulN _ _ (by omega))) rfl (modN _ _ (by omega))) (cN 1) (eqN _ _))) fun _ => rfl
  refine run_ok (ret_ok (s2_to (lst_ok hc) rfl ?_))
  exact at_map (j := 0) (ivN_ok x h)
theorem ix_at {p n : Nat} (v : Vc p n) {k : Nat} [Pr p] (h : k < n) : ixD (eR v) (eN k) = some (eI (at' v k)) := by
  have := ix_R v ⟨k, h⟩
  unfold at'
  rw [dif_pos h]
  exact this
theorem intL_R {p n : Nat} [Pr p] (v : Vc p n) : intL ((fr n).map fun i => eI (v i)) = some (ti v) := intL_map _ _
theorem rowsL_R {p n : Nat} [Pr p] : ∀ L : List (Vc p n), rowsL (L.map eR) = some (L.map ti)
  | [] => rfl
  | v :: L => by
    show (intL ((fr n).map fun i => eI (v i))).bind (fun ns => (rowsL (L.map eR)).bind fun rs => some (ns :: rs)) = _
    rw [intL_R, Option.bind_some, rowsL_R L]
    rfl
theorem mkT_ti {p n : Nat} [Pr p] (v : Vc p n) : mkT (ti v) = eR v := by
  unfold mkT ti eR
  rw [List.map_map]
  rfl
theorem srtL_R {p n : Nat} [Pr p] (hn : 1 ≤ n) (L : List (Vc p n)) (hl : L.length < 64) : srtL (L.map eR) = some ((isrtV L).map eR) := by
  unfold srtL
  rw [rowsL_R, Option.bind_some, if_pos, isrt_map, List.map_map]
  · congr 1
    exact List.map_congr_left fun v _ => mkT_ti v
  · simp only [rowsOk, Bool.and_eq_true, decide_eq_true_eq, List.all_eq_true]
    refine ⟨by rw [List.length_map]; exact hl, fun r hr => ?_⟩
    obtain ⟨v, hv, rfl⟩ := List.mem_map.mp hr
    refine ⟨⟨by rw [ti_len]; exact hn, ?_⟩, fun i hi => ti_bd v i hi⟩
    cases L with
    | nil => cases hv
    | cons w L =>
      show (ti v).length = (ti w).length
      rw [ti_len, ti_len]
theorem red_turn {p n : Nat} [Pr p] (hn : n ≤ 1000) (found : List (Vc p n)) (h : RF found) (hl : found.length ≤ 1000) (row : Vc p n) (rows : PyData) :
    turn (gN 3) reduced_b4 [3, 4, 5, 6] (eR row) [.dat (eN p), .dat rows, .dat (.list (found.map eR)), .un, .un, .un, .un, .un] = some (.nx [.dat (eN p), .dat rows, .dat (.list ((step found row).map eR)), .un, .un, .un, .un, .un]) := by
  have hp := Pr.le (p := p)
  -- less all
  have h1 : gFor (sQ (sVar 2)) (gN 4) reduced_b1 [4] [.dat (eN p), .dat rows, .dat (.list (found.map eR)), .dat (eR row), .un, .un, .un, .un] = some (.nx [.dat (eN p), .dat rows, .dat (.list (found.map eR)), .dat (eR (rdc found row)), .un, .un, .un, .un]) := by
    refine gFor_fold (σ := Vc p n) (fun r => [.dat (eN p), .dat rows, .dat (.list (found.map eR)), .dat (eR r), .un, .un, .un, .un]) eR (fun r o => lss r (at' r (fo o)) o) found row rfl rfl fun r o ho => ?_
    obtain ⟨i, hi⟩ := h.ld o ho
    have hf : fo o < n := by rw [hi.fo]; exact i.isLt
    exact turn_to rfl (set_ok (as_to (cons_ok rfl (cons_ok rfl (cons_ok (s2_to rfl (as_to rfl (e_first_of o)) (ix_at r hf)) rfl))) (e_less r o _ (by omega)))) rfl
  unfold step
  generalize rdc found row = r at h1
  by_cases hf : fo r < n
  · rw [if_pos hf]
    obtain ⟨k, hk, hk0, _⟩ := fo_lt hf
    have hz : at' r (fo r) ≠ 0 := by rw [hk, at_v]; exact hk0
    have hc : sB (s2 ltD (sVar 5) (sAs lenD (sCons (sVar 3) sNil))) [.dat (eN p), .dat rows, .dat (.list (found.map eR)), .dat (eR r), .un, .dat (eN (fo r)), .un, .un] = some true := (sB_ok (s2_to rfl (as_to rfl (len_R r)) (ltN _ _))).trans (by rw [decide_eq_true hf])
    let r' : Vc p n := fun i => iv (at' r (fo r)) * r i
    have hc2 : reduced_c2 [.dat (eN p), .dat rows, .dat (.list (found.map eR)), .dat (eR r), .un, .dat (eN (fo r)), .dat (eI (iv (at' r (fo r)))), .un] = some ((fr n).map fun i => eI (r' i)) := by
      refine sLc_map (h := fun i => eI (r i)) rfl (by rw [fr_len]; omega) fun i _ => ?_
      exact lcB_ok rfl rfl (s2_to (s2_to rfl rfl (mul_ok _ _)) rfl (mul_v _ _))
    have hc3 : reduced_c3 [.dat (eN p), .dat rows, .dat (.list (found.map eR)), .dat (eR r'), .un, .dat (eN (fo r)), .dat (eI (iv (at' r (fo r)))), .un] = some ((found.map fun o => lss o (at' o (fo r)) r').map eR) := by
      rw [List.map_map]
      refine sLc_map (h := eR) rfl (by omega) fun o ho => ?_
      exact lcB_ok rfl rfl (as_to (cons_ok rfl (cons_ok rfl (cons_ok (s2_to rfl rfl (ix_at o hf)) rfl))) (e_less o r' _ (by omega)))
    refine turn_to (env1 := [.dat (eN p), .dat rows, .dat (.list (found.map eR)), .dat (eR row), .un, .un, .un, .un]) (env2 := [.dat (eN p), .dat rows, .dat (.list (((found.map fun o => lss o (at' o (fo r)) r') ++ [r']).map eR)), .dat (eR r'), .un, .dat (eN (fo r)), .dat (eI (iv (at' r (fo r)))), .un]) rfl ?_ rfl
    apply seq_to h1
    apply seq_to
    · exact set_ok (as_to rfl (e_first_of r))
    simp only [List.set_cons_succ, List.set_cons_zero, List.map_cons, List.map_nil, List.replicate, List.cons_append, List.nil_append]
    refine (if_t hc).trans ?_
    apply seq_to
    · exact set_ok (as_to (cons_ok rfl (cons_ok (s2_to rfl rfl (ix_at r hf)) rfl)) (e_inverse _ hz))
    simp only [List.set_cons_succ, List.set_cons_zero, List.map_cons, List.map_nil, List.replicate, List.cons_append, List.nil_append]
    apply seq_to
    · exact set_ok (d := eR r') (as_to hc2 rfl)
    simp only [List.set_cons_succ, List.set_cons_zero, List.map_cons, List.map_nil, List.replicate, List.cons_append, List.nil_append]
    refine set_ok (lst_ok ?_)
    unfold sCat
    rw [hc3, Option.bind_some]
    refine (bd_ok (a := [eR r']) rfl).trans ?_
    rw [if_pos, List.map_append]
    · rfl
    · rw [List.length_map, List.length_map]
      show found.length + 1 ≤ 16777216
      omega
  · rw [if_neg hf]
    have hc : sB (s2 ltD (sVar 5) (sAs lenD (sCons (sVar 3) sNil))) [.dat (eN p), .dat rows, .dat (.list (found.map eR)), .dat (eR r), .un, .dat (eN (fo r)), .un, .un] = some false := (sB_ok (s2_to rfl (as_to rfl (len_R r)) (ltN _ _))).trans (by rw [decide_eq_false hf])
    refine turn_to (env1 := [.dat (eN p), .dat rows, .dat (.list (found.map eR)), .dat (eR row), .un, .un, .un, .un]) (env2 := [.dat (eN p), .dat rows, .dat (.list (found.map eR)), .dat (eR r), .un, .dat (eN (fo r)), .un, .un]) rfl ?_ rfl
    apply seq_to h1
    apply seq_to
    · exact set_ok (as_to rfl (e_first_of r))
    simp only [List.set_cons_succ, List.set_cons_zero, List.map_cons, List.map_nil, List.replicate, List.cons_append, List.nil_append]
    exact (if_f hc).trans rfl
theorem e_reduced {p n : Nat} [Pr p] (hn : 1 ≤ n) (hn2 : n ≤ 1000) (rows : List (Vc p n)) (hl : rows.length ≤ 63) (d : PyData) (hd : asQ d = some (rows.map eR)) : m_reduced [eN p, d] = some (.list ((red rows).map eR)) := by
  have hfin := fold_ok rows [] ⟨by simp, .nil⟩
  have hlen : (rows.foldl step []).length < 64 := by
    have := hfin.2.2
    simp only [List.length_nil] at this
    omega
  apply run_ok
  apply seq_to
  · exact set_ok (lst_ok rfl)
  simp only [List.set_cons_succ, List.set_cons_zero, List.map_cons, List.map_nil, List.replicate, List.cons_append, List.nil_append]
  apply seq_to
  · refine gFor_pre (fun l => [.dat (eN p), .dat d, .dat (.list ((l.foldl step []).map eR)), .un, .un, .un, .un, .un]) eR rows (q_to rfl hd) rfl fun l x r e => ?_
    have hl2 := pre_len e
    obtain ⟨h1, _, h3⟩ := fold_ok l [] ⟨by simp, .nil⟩
    simp only [List.length_nil] at h3
    refine (red_turn hn2 (l.foldl step []) h1 (by omega) x d).trans ?_
    rw [List.foldl_append]
    rfl
  have hs : sSrt (sOwn 2) [.dat (eN p), .dat d, .dat (.list ((rows.foldl step []).map eR)), .un, .un, .un, .un, .un] = some ((isrtV (rows.foldl step [])).map eR) := by
    unfold sSrt
    rw [ownd_ok (ds := (rows.foldl step []).map eR) rfl, Option.bind_some]
    exact srtL_R hn _ hlen
  refine ret_ok (s1_to (lst_ok hs) ?_)
  show some (PySem.PyData.list ((isrtV (rows.foldl step [])).map eR).reverse) = some (PySem.PyData.list ((isrtV (rows.foldl step [])).reverse.map eR))
  rw [List.map_reverse]
theorem asQ_T {p r c : Nat} [Pr p] (A : Mt p r c) : asQ (eT A) = some ((rws A).map eR) := by
  show some ((fr r).map fun i => eR (A i)) = some (((fr r).map A).map eR)
  rw [List.map_map]
  rfl
theorem e_rank {p r c : Nat} [Pr p] (A : Mt p r c) (hr : r ≤ 63) (hc : 1 ≤ c) (hc2 : c ≤ 1000) : m_rank [eN p, eT A] = some (eN (rkm A)) := by
  refine run_ok (ret_ok (as_to (cons_ok (as_to rfl (e_reduced hc hc2 (rws A) (by rw [rws_len]; exact hr) (eT A) (asQ_T A))) rfl) ?_))
  show some (PySem.PyData.int (((red (rws A)).map eR).length : Nat)) = _
  rw [List.length_map]
  rfl
theorem e_as_row {p r c : Nat} [Pr p] (A : Mt p r c) (h : r * c ≤ 10000) : m_as_row [eT A] = some (eR (flat A)) := by
  apply run_ok
  apply seq_to
  · exact set_ok (d := .tuple []) rfl
  simp only [List.set_cons_succ, List.set_cons_zero, List.map_cons, List.map_nil, List.replicate, List.cons_append, List.nil_append]
  apply seq_to
  · refine gFor_pre (fun l => [.dat (eT A), .dat (.tuple (l.flatMap fun i => (fr c).map fun j => eI (A i j))), .un]) (fun i => eR (A i)) (fr r) rfl rfl fun l i rr e => ?_
    have hl := pre_len e
    rw [fr_len] at hl
    refine turn_to (env1 := [.dat (eT A), .dat (.tuple (l.flatMap fun i => (fr c).map fun j => eI (A i j))), .dat (eR (A i))]) rfl (set_ok (d := .tuple ((l ++ [i]).flatMap fun i => (fr c).map fun j => eI (A i j))) (s2_to rfl rfl ((add_tt ?_).trans ?_))) rfl
    · rw [len_flat, List.length_map, fr_len]
      have : (l.length + 1) * c ≤ r * c := Nat.mul_le_mul_right c hl
      rw [Nat.succ_mul] at this
      omega
    · rw [List.flatMap_append, List.flatMap_singleton]
  · refine ret_ok (var_ok ?_)
    rw [eR_flat]
    rfl
theorem e_as_table {p r c : Nat} [Pr p] (v : Vc p (r * c)) (hc : 1 ≤ c) (h : r * c ≤ 10000) (hc2 : c ≤ 10000) : m_as_table [eR v, eN c] = some (eT (unf v)) := by
  have hr : r ≤ r * c := Nat.le_mul_of_pos_right r hc
  refine run_ok (ret_ok (as_to (sLc_map (h := fun i : Fin r => eN (i.val * c)) (k := fun i => eR (unf v i)) (ar_to (cons_ok rfl (cons_ok (as_to rfl (len_R v)) (cons_ok rfl rfl))) (rg3_ok hc h hc2)) (by rw [fr_len]; omega) fun i _ => ?_) rfl))
  refine lcB_ok rfl rfl ((sl_ok (ds := (fr (r * c)).map fun k => eI (v k)) (lo := some ((i.val * c : Nat) : Int)) (hi := some ((i.val * c + c : Nat) : Int)) rfl (so_ok rfl) (so_ok (s2_to rfl rfl (addN _ _)))).trans ?_)
  rw [cut_mid, Nat.add_sub_cancel_left, row_cut]
  rfl
theorem e_without_place {p n : Nat} [Pr p] (v : Vc p (n + 1)) (j : Nat) (hj : j ≤ n) (hn : n ≤ 1000) : m_without_place [eR v, eN j] = some (eR fun k : Fin n => v (if k.val < j then k.castSucc else k.succ)) := by
  have h1 : sSl (sVar 0) sNo (sSo (sVar 1)) [.dat (eR v), .dat (eN j)] = some (.tuple (((fr (n + 1)).map fun i => eI (v i)).take j)) := (sl_ok rfl rfl (so_ok rfl)).trans (by rw [cut_to])
  have h2 : sSl (sVar 0) (sSo (s2 addD (sVar 1) (sC (.int 1)))) sNo [.dat (eR v), .dat (eN j)] = some (.tuple (((fr (n + 1)).map fun i => eI (v i)).drop (j + 1))) := (sl_ok (lo := some ((j + 1 : Nat) : Int)) rfl (so_ok (s2_to rfl (cN 1) (addN _ _))) rfl).trans (by rw [cut_from])
  refine run_ok (ret_ok (s2_to h1 h2 ((add_tt ?_).trans ?_)))
  · rw [List.length_take, List.length_drop, List.length_map, fr_len]
    omega
  · rw [fr_less _ _ hj]
    rfl
def wsg (j : Nat) : Int := 1 - (j % 2 : Nat) * 2
theorem rs_wsg {p : Nat} [Pr p] (j : Nat) : rs p (wsg j) = sgn j := by
  unfold wsg sgn
  rcases Nat.mod_two_eq_zero_or_one j with e | e
  · rw [e, if_pos rfl]
    exact rs_1
  · rw [e, if_neg (by decide)]
    show rs p (-1) = -1
    rw [rs_neg, rs_1]
theorem wsg_sm (j : Nat) : -(2 ^ 64) < wsg j ∧ wsg j < 2 ^ 64 := by
  unfold wsg
  rw [p64]
  have := Nat.mod_two_eq_zero_or_one j
  omega
theorem e_worth {p : Nat} [Pr p] : ∀ (f n : Nat) (A : Mt p (n + 1) (n + 1)), n < f → n ≤ 100 → m_worth f [eN p, eT A] = some (eI (dt (n + 1) A))
  | 0, n, A, h, _ => absurd h (by omega)
  | f + 1, 0, A, _, _ => by
    have hp := Pr.le (p := p)
    refine run_ok (seq_rt ((if_t (sB_ok (s2_to (as_to rfl (len_T A)) (cN 1) ((eqN 1 1).trans (by rw [decide_eq_true rfl]))))).trans (ret_ok (s2_to (s2_to (s2_to rfl rfl (ix_T0 A)) rfl (ix_R0 (A 0))) rfl ((mod_ok _).trans ?_)))))
    rw [val_mod]
    rfl
  | f + 1, n + 1, A, h, hn => by
    have hp := Pr.le (p := p)
    apply run_ok
    apply seq_to
    · refine (if_f (sB_ok (s2_to (as_to rfl (len_T A)) (cN 1) ((eqN (n + 2) 1).trans (by rw [decide_eq_false (by omega)]))))).trans rfl
    apply seq_to
    · exact set_ok (d := .int 0) rfl
    simp only [List.set_cons_succ, List.set_cons_zero, List.map_cons, List.map_nil, List.replicate, List.cons_append, List.nil_append]
    have hfold := gFor_fold (σ := Int) (fi := sArg enu (sCons (s2 ixD (sVar 1) (sC (.int 0))) sNil)) (gt := gT (gCons (gN 3) (gCons (gN 4) gNil))) (body := worth_b2 (m_worth f)) (ks := [3, 4, 5]) (env := [.dat (eN p), .dat (eT A), .dat (.int 0), .un, .un, .un, .un])
      (fun s => [.dat (eN p), .dat (eT A), .dat (.int s), .un, .un, .un, .un]) (fun j : Fin (n + 2) => .tuple [eN j.val, eI (A 0 j)]) (fun s j => s + wsg j.val * ((A 0 j).val : Int) * ((dt (n + 1) (minor A j)).val : Int)) (fr (n + 2)) 0
      (ar_to (cons_ok (s2_to rfl rfl (ix_T0 A)) rfl) (congrArg some (enL_fr _))) rfl fun s j _ => by
        have hj := j.isLt
        have hrow : ∀ i : Fin (n + 1), m_without_place [eR (A i.succ), eN j.val] = some (eR (minor A j i)) := fun i => e_without_place (A i.succ) j.val (by omega) (by omega)
        have hc : worth_c1 (m_worth f) [.dat (eN p), .dat (eT A), .dat (.int s), .dat (eN j.val), .dat (eI (A 0 j)), .un, .un] = some ((fr (n + 1)).map fun i => eR (minor A j i)) := by
          refine sLc_map (h := fun i : Fin (n + 1) => eR (A i.succ)) (q_to (z := (fr (n + 1)).map fun i => eR (A i.succ)) ((sl_ok (lo := some ((1 : Nat) : Int)) rfl (so_ok rfl) rfl).trans (by rw [cut_from, fr_drop1])) rfl) (by rw [fr_len]; omega) fun i _ => ?_
          exact lcB_ok rfl rfl (as_to rfl (hrow i))
        refine turn_to (env1 := [.dat (eN p), .dat (eT A), .dat (.int s), .dat (eN j.val), .dat (eI (A 0 j)), .un, .un]) rfl (seq_to (set_ok (as_to (cons_ok rfl (cons_ok (as_to hc rfl) rfl)) (e_worth f n (minor A j) (by omega) (by omega)))) (set_ok (d := .int (s + wsg j.val * ((A 0 j).val : Int) * ((dt (n + 1) (minor A j)).val : Int))) ?_)) rfl
        refine s2_to rfl (s2_to (s2_to (s2_to (cN 1) (s2_to (s2_to rfl (cN 2) (modN _ _ (by decide))) (cN 2) (mulN _ _ (.inr (by decide)))) (z := .int (wsg j.val)) ?_) rfl (mul_i (.inl (wsg_sm _)))) rfl (mul_i (.inr (small64 (by omega) ?_)))) (add_i _ _)
        · show some (PySem.PyData.int ((1 : Nat) - ((j.val % 2 * 2 : Nat) : Int))) = _
          unfold wsg
          rw [Int.natCast_mul]
          rfl
        · have := (dt (n + 1) (minor A j)).isLt
          omega
    apply seq_to hfold
    refine ret_ok (s2_to rfl rfl ((mod_rs _).trans ?_))
    congr 2
    -- the sum, as a rest
    have hs : ∀ (xs : List (Fin (n + 2))) (s : Int), rs p (xs.foldl (fun s j => s + wsg j.val * ((A 0 j).val : Int) * ((dt (n + 1) (minor A j)).val : Int)) s) = rs p s + ls xs fun j => sgn j.val * A 0 j * dt (n + 1) (minor A j) := by
      intro xs
      induction xs with
      | nil => intro s; simp only [List.foldl_nil, ls_nil]; grind
      | cons x xs ih =>
        intro s
        rw [List.foldl_cons, ih, ls_cons, rs_add, rs_mul, rs_mul, rs_wsg, rs_v, rs_v]
        grind
    rw [hs, rs_0]
    show 0 + _ = sm _
    rw [sm_ls]
    grind
theorem add_RR {p n m : Nat} [Pr p] (v : Vc p n) (w : Vc p m) (h : n + m ≤ 10000) : addD (eR v) (eR w) = some (eR (hc v w)) := by
  rw [eR_hc]
  refine add_tt ?_
  rw [List.length_map, List.length_map, fr_len, fr_len]
  omega
theorem e_undone {p n : Nat} [Pr p] {A B : Mt p n n} (h1 : 1 ≤ n) (hn : n ≤ 60) (h : mm B A = m1) : m_undone [eN p, eT A] = some (some (eT B)) := by
  apply runx_ok (r := some (.rt (eT B)))
  apply xseq_to
  · exact set_ok (as_to rfl (len_T A))
  simp only [List.set_cons_succ, List.set_cons_zero, List.map_cons, List.map_nil, List.replicate, List.cons_append, List.nil_append]
  apply xif_f
  · exact sB_ok (s2_to (as_to rfl (e_rank A (by omega) h1 (by omega))) rfl ((ltN _ _).trans (by rw [rk_un h, decide_eq_false (by omega)])))
  apply xok_to
  apply seq_to
  · have hc1 : undone_c1 [.dat (eN p), .dat (eT A), .dat (eN n), .un, .un, .un] = some ((rws (mh A m1)).map eR) := by
      have e : (rws (mh A (m1 : Mt p n n))).map eR = (fr n).map fun i => eR (hc (A i) ((m1 : Mt p n n) i)) := by
        unfold rws
        rw [List.map_map]
        rfl
      rw [e]
      refine sLc_map (h := fun i : Fin n => .tuple [eR (A i), eR ((m1 : Mt p n n) i)]) (ar_to (cons_ok rfl (cons_ok (as_to rfl (e_unit (p := p) (n := n) (by omega))) rfl)) (congrArg some (zip_fr _ _ _))) (by rw [fr_len]; omega) fun i _ => ?_
      exact lcB_ok rfl rfl (s2_to rfl rfl (add_RR _ _ (by omega)))
    exact set_ok (as_to (cons_ok rfl (cons_ok (lst_ok hc1) rfl)) (e_reduced (by omega) (by omega) (rws (mh A m1)) (by rw [rws_len]; omega) _ rfl))
  simp only [List.set_cons_succ, List.set_cons_zero, List.map_cons, List.map_nil, List.replicate, List.cons_append, List.nil_append]
  rw [red_un h]
  have hc2 : undone_c2 [.dat (eN p), .dat (eT A), .dat (eN n), .dat (.list ((rws (mh (m1 : Mt p n n) B)).map eR)), .un, .un] = some ((fr n).map fun i => eR (B i)) := by
    refine sLc_map (h := fun i : Fin n => eR (hc ((m1 : Mt p n n) i) (B i))) (q_to rfl ?_) (by rw [fr_len]; omega) fun i _ => ?_
    · show some ((rws (mh (m1 : Mt p n n) B)).map eR) = _
      unfold rws
      rw [List.map_map]
      rfl
    · refine lcB_ok rfl rfl ((sl_ok (ds := ((fr n).map fun k => eI ((m1 : Mt p n n) i k)) ++ (fr n).map fun k => eI (B i k)) (lo := some ((n : Nat) : Int)) (var_ok (d := eR (hc ((m1 : Mt p n n) i) (B i))) rfl |>.trans (by rw [eR_hc])) (so_ok rfl) rfl).trans ?_)
      rw [cut_from, List.drop_left' (by rw [List.length_map, fr_len])]
      rfl
  exact ret_ok (as_to hc2 rfl)
theorem e_undone_no {p n : Nat} [Pr p] {A : Mt p n n} (h1 : 1 ≤ n) (hn : n ≤ 60) (h : rkm A ≠ n) : m_undone [eN p, eT A] = some none := by
  apply runx_ok (r := none)
  apply xseq_to
  · exact set_ok (as_to rfl (len_T A))
  simp only [List.set_cons_succ, List.set_cons_zero, List.map_cons, List.map_nil, List.replicate, List.cons_append, List.nil_append]
  have := rkm_r A
  exact xif_t (sB_ok (s2_to (as_to rfl (e_rank A (by omega) h1 (by omega))) rfl ((ltN _ _).trans (by rw [decide_eq_true (by omega)]))))
end Dz

namespace Dz
open PySem (PyData Str sizeLine)
def lwo (at' : Fin 3) : Fin 3 := if at' = 0 then 1 else 0
def lwt (at' : Fin 3) : Fin 3 := if at' = 2 then 1 else 2
def lws (at' : Fin 3) : Int := if at' = 1 then -1 else 1
theorem lw_filter : ∀ a : Fin 3, (fr 3).filter (fun k => !decide (k = a)) = [lwo a, lwt a] := by decide
theorem lws_b (a : Fin 3) : lws a = 1 ∨ lws a = -1 := by
  unfold lws
  split
  · exact .inr rfl
  · exact .inl rfl
theorem lw_ix : ∀ a : Fin 3, ixD (.tuple [.int 1, .int (-1), .int 1]) (.int (a.val : Int)) = some (.int (lws a)) := fin3 rfl rfl rfl
/-- a number put into a row -/
def stv {p n : Nat} (f : Vc p n) (k : Nat) (x : Fin p) : Vc p n := fun i => if i.val = k then x else f i
theorem set_fr {p n : Nat} [Pr p] (f : Vc p n) (k : Nat) (x : Fin p) : ((fr n).map fun i => eI (f i)).set k (eI x) = (fr n).map fun i => eI (stv f k x i) := by
  apply List.ext_getElem?
  intro i
  rw [List.getElem?_set, List.length_map, fr_len, List.getElem?_map, List.getElem?_map]
  by_cases h : i < n
  · rw [fr_get h]
    by_cases e : k = i
    · subst e
      rw [if_pos rfl, if_pos h]
      show _ = some (eI (if k = k then x else _))
      rw [if_pos rfl]
    · rw [if_neg e]
      show some (eI (f _)) = some (eI (if i = k then x else f _))
      rw [if_neg (Ne.symm e)]
  · rw [List.getElem?_eq_none (by rw [fr_len]; omega)]
    by_cases e : k = i
    · rw [if_pos e, if_neg (by omega)]
      rfl
    · rw [if_neg e]
      rfl
def frg {p n : Nat} [Pr p] (L : List (Vc p n)) (a : Fin n) : Vc p n := L.foldl (fun f o => stv f (fo o) (- o a)) (stv vz a.val 1)
theorem frg_out {p n : Nat} [Pr p] {a i : Fin n} : ∀ (L : List (Vc p n)) (f : Vc p n), (∀ o ∈ L, i.val ≠ fo o) → L.foldl (fun f o => stv f (fo o) (- o a)) f i = f i
  | [], f, _ => rfl
  | o :: L, f, h => by
    rw [List.foldl_cons, frg_out L _ fun b hb => h b (List.mem_cons_of_mem _ hb)]
    exact if_neg (h o List.mem_cons_self)
theorem frg_in {p n : Nat} [Pr p] {a i : Fin n} : ∀ (L : List (Vc p n)) (f : Vc p n), RF L → ∀ o ∈ L, i.val = fo o → L.foldl (fun f o => stv f (fo o) (- o a)) f i = - o a
  | b :: L, f, h, o, ho, e => by
    have hp := List.pairwise_cons.mp h.dj
    have hL : RF L := ⟨fun o ho => h.ld o (List.mem_cons_of_mem _ ho), hp.2⟩
    rw [List.foldl_cons]
    rcases List.mem_cons.mp ho with rfl | ho'
    · have hnd := h.fo_nd
      rw [List.map_cons, List.nodup_cons] at hnd
      rw [frg_out L _ fun b hb z => hnd.1 (List.mem_map.mpr ⟨b, hb, by rw [← z, e]⟩)]
      exact if_pos e
    · exact frg_in L _ hL o ho' e
theorem frg_eq {p n : Nat} [Pr p] {L : List (Vc p n)} (h : RF L) {a : Fin n} (ha : a ∈ frs L) : frg L a = fre L a := by
  funext i
  by_cases hi : i ∈ frs L
  · rw [fre_free hi]
    unfold frg
    rw [frg_out L _ fun o ho z => frs_mem.mp hi (List.mem_map.mpr ⟨o, ho, z.symm⟩)]
    show (if i.val = a.val then (1 : Fin p) else 0) = _
    simp only [Fin.ext_iff]
  · have hi' : i.val ∈ hds L := Classical.byContradiction fun z => hi (frs_mem.mpr z)
    obtain ⟨o, ho, e⟩ := List.mem_map.mp hi'
    obtain ⟨k, hk⟩ := h.ld o ho
    have : k = i := Fin.ext (by rw [← hk.fo, e])
    subst this
    rw [fre_head h ha ho hk]
    exact frg_in L _ h o ho e.symm
theorem neg_v {p : Nat} [Pr p] (x : Fin p) : modD (.int (0 - (x.val : Int))) (eN p) = some (eI (- x)) := (mod_rs _).trans (by
  rw [rs_sub, rs_v, rs_0]
  refine congrArg (fun x : Fin p => some (eI x)) ?_
  grind)
theorem zip_map2 {α : Type} (f : α → PyData) (g : α → PyData) (xs : List α) : zipL (xs.map f) (xs.map g) = xs.map fun x => .tuple [f x, g x] := zip_fr xs f g
theorem eqv_N (a b : Nat) : PyData.eqv (eN a) (eN b) = decide (a = b) := (eqv_int _ _).trans (decide_eq_decide.mpr (by omega))
theorem e_noughts {p n : Nat} [Pr p] (hn : 1 ≤ n) (hn2 : n ≤ 60) (rows : List (Vc p n)) (hl : rows.length ≤ 63) (d : PyData) (hd : asQ d = some (rows.map eR)) : m_noughts [eN p, d, eN n] = some (.list ((nu rows).map eR)) := by
  have hR := (red_rr rows).rf
  have hLn := red_len rows
  have hLn2 := rk_n rows
  unfold rk at hLn2
  unfold nu
  apply run_ok
  apply seq_to
  · exact set_ok (as_to rfl (e_reduced hn (by omega) rows hl d hd))
  simp only [List.set_cons_succ, List.set_cons_zero, List.map_cons, List.map_nil, List.replicate, List.cons_append, List.nil_append]
  generalize red rows = L at hR hLn hLn2
  apply seq_to
  · refine setN_ok (d := L.map fun o => eN (fo o)) (sLc_map (h := eR) (q_to rfl rfl) (by omega) fun o _ => ?_)
    exact lcB_ok rfl rfl (as_to rfl (e_first_of o))
  simp only [List.set_cons_succ, List.set_cons_zero, List.map_cons, List.map_nil, List.replicate, List.cons_append, List.nil_append]
  show gSeq _ _ [.dat (eN p), .dat d, .dat (eN n), .dat (.list (L.map eR)), .dat (.list (L.map fun o => eN (fo o))), .un, .un, .un, .un, .un] = _
  apply seq_to
  · exact setN_ok rfl
  simp only [List.set_cons_succ, List.set_cons_zero, List.map_cons, List.map_nil, List.replicate, List.cons_append, List.nil_append]
  apply seq_to
  · refine gFor_pre (fun l => [.dat (eN p), .dat d, .dat (eN n), .dat (.list (L.map eR)), .dat (.list (L.map fun o => eN (fo o))), .own (((l.filter fun i => !decide (i.val ∈ hds L)).map (fre L)).map eR), .un, .un, .un, .un]) (fun i : Fin n => .int (i.val : Int)) (fr n) (ar_to (cons_ok rfl rfl) (rg1_ok (by omega))) rfl fun l a rr e => ?_
    have hll := pre_len e
    rw [fr_len] at hll
    generalize hfound : ((l.filter fun i => !decide (i.val ∈ hds L)).map (fre L)).map eR = found
    have hfl : found.length ≤ n := by
      rw [← hfound, List.length_map, List.length_map]
      exact Nat.le_trans (List.length_filter_le _ _) (by omega)
    have hc : sB (s2 niD (sVar 6) (sVar 4)) [.dat (eN p), .dat d, .dat (eN n), .dat (.list (L.map eR)), .dat (.list (L.map fun o => eN (fo o))), .own found, .dat (.int (a.val : Int)), .un, .un, .un] = some (!decide (a.val ∈ hds L)) := by
      refine sB_ok (s2_to rfl rfl ?_)
      show (if (PySem.SeqAt.shaped (.int (a.val : Int)) && PySem.SeqAt.shaped (.list (L.map fun o => eN (fo o)))) = true then some (PySem.PyData.bool (!(L.map fun o => eN (fo o)).any fun z => PySem.PyData.eqv z (.int (a.val : Int)))) else none) = _
      rw [sh_ok (sh_int _) (by decide), sh_ok (sh_lst (k := 0) (sh_map fun _ => sh_int _)) (by decide), Bool.and_self, if_pos rfl, List.any_map]
      congr 3
      rw [Bool.eq_iff_iff, List.any_eq_true, decide_eq_true_iff]
      unfold hds
      rw [List.mem_map]
      refine ⟨fun ⟨o, ho, h⟩ => ⟨o, ho, ?_⟩, fun ⟨o, ho, h⟩ => ⟨o, ho, ?_⟩⟩
      · exact of_decide_eq_true ((eqv_N _ _).symm.trans h)
      · exact (eqv_N _ _).trans (decide_eq_true h)
    cases hb : decide (a.val ∈ hds L) with
    | true =>
      refine turn_to (env1 := [.dat (eN p), .dat d, .dat (eN n), .dat (.list (L.map eR)), .dat (.list (L.map fun o => eN (fo o))), .own found, .dat (.int (a.val : Int)), .un, .un, .un]) rfl ((if_f (hc.trans (by rw [hb]; rfl))).trans rfl) ?_
      rw [List.filter_append, List.filter_cons_of_neg (by rw [hb]; decide), List.filter_nil, List.append_nil, hfound]
      rfl
    | false =>
      have ha : a ∈ frs L := frs_mem.mpr (of_decide_eq_false hb)
      refine turn_to (env1 := [.dat (eN p), .dat d, .dat (eN n), .dat (.list (L.map eR)), .dat (.list (L.map fun o => eN (fo o))), .own found, .dat (.int (a.val : Int)), .un, .un, .un]) (env2 := [.dat (eN p), .dat d, .dat (eN n), .dat (.list (L.map eR)), .dat (.list (L.map fun o => eN (fo o))), .own (found ++ [eR (fre L a)]), .dat (.int (a.val : Int)), .own ((fr n).map fun i => eI (fre L a i)), .un, .un]) rfl ((if_t (hc.trans (by rw [hb]; rfl))).trans ?_) ?_
      · have e0 : List.replicate n (PySem.PyData.int 0) = (fr n).map fun i => eI ((vz : Vc p n) i) := by
          symm
          rw [List.eq_replicate_iff, List.length_map, fr_len]
          refine ⟨rfl, fun b hb => ?_⟩
          obtain ⟨i, _, rfl⟩ := List.mem_map.mp hb
          show PySem.PyData.int (((0 : Fin p).val : Nat) : Int) = _
          rw [zero_val]
          rfl
        have e1 : PySem.PyData.int 1 = eI (1 : Fin p) := congrArg PySem.PyData.int one_val.symm
        apply seq_to
        · exact setN_ok ((rep_ok rfl rfl (by omega)).trans (by rw [e0]))
        simp only [List.set_cons_succ, List.set_cons_zero, List.map_cons, List.map_nil, List.replicate, List.cons_append, List.nil_append]
        apply seq_to
        · refine (put_ok (i := 7) (j := a.val) (d := eI (1 : Fin p)) rfl (by rw [← e1]; rfl) rfl (by rw [List.length_map, fr_len]; exact a.isLt)).trans ?_
          rw [set_fr]
        simp only [List.set_cons_succ, List.set_cons_zero, List.map_cons, List.map_nil, List.replicate, List.cons_append, List.nil_append]
        apply seq_to (env1 := [.dat (eN p), .dat d, .dat (eN n), .dat (.list (L.map eR)), .dat (.list (L.map fun o => eN (fo o))), .own found, .dat (.int (a.val : Int)), .own ((fr n).map fun i => eI (frg L a i)), .un, .un])
        · refine gFor_fold (σ := Vc p n) (fun f => [.dat (eN p), .dat d, .dat (eN n), .dat (.list (L.map eR)), .dat (.list (L.map fun o => eN (fo o))), .own found, .dat (.int (a.val : Int)), .own ((fr n).map fun i => eI (f i)), .un, .un]) (fun o => .tuple [eN (fo o), eR o]) (fun f o => stv f (fo o) (- o a)) L (stv vz a.val 1) (congrArg some (zip_map2 _ _ _)) rfl fun f o ho => ?_
          obtain ⟨k, hk⟩ := hR.ld o ho
          refine turn_to (env1 := [.dat (eN p), .dat d, .dat (eN n), .dat (.list (L.map eR)), .dat (.list (L.map fun o => eN (fo o))), .own found, .dat (.int (a.val : Int)), .own ((fr n).map fun i => eI (f i)), .dat (eN (fo o)), .dat (eR o)]) rfl (put_ok (i := 7) (j := fo o) (d := eI (- o a)) rfl (s2_to (s2_to rfl (s2_to rfl rfl (ix_R o a)) rfl) rfl (neg_v _)) rfl (by rw [List.length_map, fr_len, hk.fo]; exact k.isLt)) ?_
          rw [set_fr]
          rfl
        rw [frg_eq hR ha]
        exact app_ok (i := 5) rfl (as_to (own_ok rfl) rfl) (by omega)
      · rw [List.filter_append, List.filter_cons_of_pos (by rw [hb]; rfl), List.filter_nil, List.map_append, List.map_append, hfound]
        rfl
  show gRet _ [.dat (eN p), .dat d, .dat (eN n), .dat (.list (L.map eR)), .dat (.list (L.map fun o => eN (fo o))), .dat (.list (((frs L).map (fre L)).map eR)), .un, .un, .un, .un] = _
  refine ret_ok (as_to rfl (e_reduced hn (by omega) ((frs L).map (fre L)) ?_ _ rfl))
  have := frs_len hR
  rw [List.length_map]
  omega
/-- the numbers of a demand, not yet rests -/
def dmI {p r c : Nat} [Pr p] (A : Mt p r r) (B : Mt p c c) (i : Fin r) (j : Fin c) : Fin (r * c) → Int := fun q => (if q.val % c = j.val then ((A i ⟨q.val / c, div_lt' q.isLt⟩).val : Int) else 0) - if q.val / c = i.val then ((B ⟨q.val % c, mod_lt' q.isLt⟩ j).val : Int) else 0
theorem rs_dmI {p r c : Nat} [Pr p] (A : Mt p r r) (B : Mt p c c) (i : Fin r) (j : Fin c) (q : Fin (r * c)) : rs p (dmI A B i j q) = dm A B i j q := by
  unfold dmI dm
  rw [rs_sub]
  congr 1
  · split
    · exact rs_v _
    · exact rs_0
  · split
    · exact rs_v _
    · exact rs_0
def eZ {n : Nat} (f : Fin n → Int) : PyData := .tuple ((fr n).map fun i => .int (f i))
theorem set_frI {n : Nat} (f : Fin n → Int) (k : Nat) (x : Int) : ((fr n).map fun i => PyData.int (f i)).set k (.int x) = (fr n).map fun i => PyData.int (if i.val = k then x else f i) := by
  apply List.ext_getElem?
  intro i
  rw [List.getElem?_set, List.length_map, fr_len, List.getElem?_map, List.getElem?_map]
  by_cases h : i < n
  · rw [fr_get h]
    by_cases e : k = i
    · subst e
      rw [if_pos rfl, if_pos h]
      show _ = some (PyData.int (if k = k then x else _))
      rw [if_pos rfl]
    · rw [if_neg e]
      show some (PyData.int (f _)) = some (PyData.int (if i = k then x else f _))
      rw [if_neg (Ne.symm e)]
  · rw [List.getElem?_eq_none (by rw [fr_len]; omega)]
    by_cases e : k = i
    · rw [if_pos e, if_neg (by omega)]
      rfl
    · rw [if_neg e]
      rfl
theorem get_frI {n k : Nat} (f : Fin n → Int) (h : k < n) : ((fr n).map fun i => PyData.int (f i))[k]? = some (.int (f ⟨k, h⟩)) := by
  rw [List.getElem?_map, fr_get h]
  rfl
theorem idx_iff {c q t j : Nat} (hj : j < c) : q = t * c + j ↔ q / c = t ∧ q % c = j := by
  have hc : 0 < c := by omega
  constructor
  · rintro rfl
    exact ⟨by rw [Nat.mul_comm, Nat.mul_add_div hc, Nat.div_eq_of_lt hj, Nat.add_zero], by rw [Nat.mul_comm, Nat.mul_add_mod, Nat.mod_eq_of_lt hj]⟩
  · rintro ⟨rfl, rfl⟩
    rw [Nat.mul_comm]
    exact (Nat.div_add_mod q c).symm
def o1 {p r c : Nat} [Pr p] (A : Mt p r r) (i : Fin r) (j : Fin c) (t : Nat) : Fin (r * c) → Int := fun q => if q.val % c = j.val ∧ q.val / c < t then ((A i ⟨q.val / c, div_lt' q.isLt⟩).val : Int) else 0
def o2 {p r c : Nat} [Pr p] (A : Mt p r r) (B : Mt p c c) (i : Fin r) (j : Fin c) (t : Nat) : Fin (r * c) → Int := fun q => o1 A i j r q - if q.val / c = i.val ∧ q.val % c < t then ((B ⟨q.val % c, mod_lt' q.isLt⟩ j).val : Int) else 0
theorem o1_step {p r c : Nat} [Pr p] (A : Mt p r r) (i : Fin r) (j : Fin c) (k : Fin r) : (fun q : Fin (r * c) => if q.val = k.val * c + j.val then o1 A i j k.val ⟨k.val * c + j.val, at_lt k.isLt j.isLt⟩ + ((A i k).val : Int) else o1 A i j k.val q) = o1 A i j (k.val + 1) := by
  funext q
  have hj := j.isLt
  have hi := idx_iff (q := q.val) (t := k.val) hj
  have hz : o1 A i j k.val ⟨k.val * c + j.val, at_lt k.isLt j.isLt⟩ = 0 := by
    unfold o1
    refine if_neg fun h => ?_
    have := ((idx_iff (t := k.val) hj).mp rfl).1
    have h2 := h.2
    rw [this] at h2
    exact Nat.lt_irrefl _ h2
  rw [hz]
  unfold o1
  by_cases h1 : q.val % c = j.val
  · by_cases h2 : q.val / c = k.val
    · rw [if_pos (hi.mpr ⟨h2, h1⟩), if_pos ⟨h1, by omega⟩, Int.zero_add]
      congr 3
      exact Fin.ext h2.symm
    · rw [if_neg fun e => h2 (hi.mp e).1]
      by_cases h3 : q.val / c < k.val
      · rw [if_pos ⟨h1, h3⟩, if_pos ⟨h1, by omega⟩]
      · rw [if_neg fun e => h3 e.2, if_neg fun e => by have := e.2; omega]
  · rw [if_neg fun e => h1 (hi.mp e).2, if_neg fun e => h1 e.1, if_neg fun e => h1 e.1]
theorem o2_step {p r c : Nat} [Pr p] (A : Mt p r r) (B : Mt p c c) (i : Fin r) (j k : Fin c) : (fun q : Fin (r * c) => if q.val = i.val * c + k.val then o2 A B i j k.val ⟨i.val * c + k.val, at_lt i.isLt k.isLt⟩ - ((B k j).val : Int) else o2 A B i j k.val q) = o2 A B i j (k.val + 1) := by
  funext q
  have hk := k.isLt
  have hi := idx_iff (q := q.val) (t := i.val) hk
  by_cases h : q.val = i.val * c + k.val
  · rw [if_pos h]
    have hq : (⟨i.val * c + k.val, at_lt i.isLt k.isLt⟩ : Fin (r * c)) = q := Fin.ext h.symm
    rw [hq]
    obtain ⟨h1, h2⟩ := hi.mp h
    unfold o2
    rw [if_neg fun e => by have := e.2; omega, if_pos ⟨h1, by omega⟩]
    have hkk : (⟨q.val % c, mod_lt' q.isLt⟩ : Fin c) = k := Fin.ext h2
    rw [hkk]
    omega
  · rw [if_neg h]
    unfold o2
    congr 1
    by_cases h1 : q.val / c = i.val
    · have h2 : q.val % c ≠ k.val := fun e => h (hi.mpr ⟨h1, e⟩)
      by_cases h3 : q.val % c < k.val
      · rw [if_pos ⟨h1, h3⟩, if_pos ⟨h1, by omega⟩]
      · rw [if_neg fun e => h3 e.2, if_neg fun e => by have := e.2; omega]
    · rw [if_neg fun e => h1 e.1, if_neg fun e => h1 e.1]
theorem o2_end {p r c : Nat} [Pr p] (A : Mt p r r) (B : Mt p c c) (i : Fin r) (j : Fin c) : o2 A B i j c = dmI A B i j := by
  funext q
  have h1 : q.val / c < r := div_lt' q.isLt
  have h2 : q.val % c < c := mod_lt' q.isLt
  unfold o2 o1 dmI
  simp only [h1, h2, and_true]
theorem e_demands {p r c : Nat} [Pr p] (A : Mt p r r) (B : Mt p c c) (hr : r ≤ 20) (hc : c ≤ 20) : m_demands [eT A, eT B] = some (.list ((fr r).flatMap fun i => (fr c).map fun j => eZ (dmI A B i j))) := by
  have hrc : r * c ≤ 400 := Nat.le_trans (Nat.mul_le_mul hr hc) (by decide)
  apply run_ok
  apply seq_to
  · exact setN_ok rfl
  simp only [List.set_cons_succ, List.set_cons_zero, List.map_cons, List.map_nil, List.replicate, List.cons_append, List.nil_append]
  have hin : ∀ (i : Fin r) (j : Fin c) (fd : List PyData), fd.length ≤ 400 → turn (gN 4) demands_b3 [4, 5, 6] (.int (j.val : Int)) [.dat (eT A), .dat (eT B), .own fd, .dat (.int (i.val : Int)), .un, .un, .un] = some (.nx [.dat (eT A), .dat (eT B), .own (fd ++ [eZ (dmI A B i j)]), .dat (.int (i.val : Int)), .un, .un, .un]) := by
    intro i j fd hfd
    have hj := j.isLt
    refine turn_to (env1 := [.dat (eT A), .dat (eT B), .own fd, .dat (.int (i.val : Int)), .dat (.int (j.val : Int)), .un, .un]) (env2 := [.dat (eT A), .dat (eT B), .own (fd ++ [eZ (dmI A B i j)]), .dat (.int (i.val : Int)), .dat (.int (j.val : Int)), .own ((fr (r * c)).map fun q => .int (dmI A B i j q)), .un]) rfl ?_ rfl
    apply seq_to
    · refine setN_ok (d := (fr (r * c)).map fun q => .int (o1 A i j 0 q)) ((rep_ok (d := .int 0) (k := r * c) rfl (s2_to (as_to rfl (len_T A)) (as_to rfl (len_T B)) (mulN _ _ (.inl (by omega)))) (by omega)).trans ?_)
      have : (fr (r * c)).map (fun q => PyData.int (o1 A i j 0 q)) = List.replicate (r * c) (.int 0) := by
        rw [List.eq_replicate_iff, List.length_map, fr_len]
        refine ⟨rfl, fun b hb => ?_⟩
        obtain ⟨q, _, rfl⟩ := List.mem_map.mp hb
        unfold o1
        rw [if_neg fun e => Nat.not_lt_zero _ e.2]
      rw [this]
    simp only [List.set_cons_succ, List.set_cons_zero, List.map_cons, List.map_nil, List.replicate, List.cons_append, List.nil_append]
    apply seq_to (env1 := [.dat (eT A), .dat (eT B), .own fd, .dat (.int (i.val : Int)), .dat (.int (j.val : Int)), .own ((fr (r * c)).map fun q => .int (o1 A i j r q)), .un])
    · have := gFor_pre (fi := sArg rg1 (sCons (sAs lenD (sCons (sVar 0) sNil)) sNil)) (gt := gN 6) (body := demands_b1) (ks := [6]) (env := [.dat (eT A), .dat (eT B), .own fd, .dat (.int (i.val : Int)), .dat (.int (j.val : Int)), .own ((fr (r * c)).map fun q => .int (o1 A i j 0 q)), .un]) (fun l => [.dat (eT A), .dat (eT B), .own fd, .dat (.int (i.val : Int)), .dat (.int (j.val : Int)), .own ((fr (r * c)).map fun q => .int (o1 A i j l.length q)), .un]) (fun k : Fin r => .int (k.val : Int)) (fr r) (ar_to (cons_ok (as_to rfl (len_T A)) rfl) (rg1_ok (by omega))) rfl fun l k rr e => by
        have hk := pre_idx e
        have hix : ∀ {e5 : Sl}, s2 addD (s2 mulD (sVar 6) (sAs lenD (sCons (sVar 1) sNil))) (sVar 4) [.dat (eT A), .dat (eT B), .own fd, .dat (.int (i.val : Int)), .dat (.int (j.val : Int)), e5, .dat (.int (k.val : Int))] = some (eN (k.val * c + j.val)) := s2_to (s2_to rfl (as_to rfl (len_T B)) (mulN _ _ (.inr (by omega)))) rfl (addN _ _)
        have hlt := at_lt k.isLt j.isLt
        refine turn_to (env1 := [.dat (eT A), .dat (eT B), .own fd, .dat (.int (i.val : Int)), .dat (.int (j.val : Int)), .own ((fr (r * c)).map fun q => .int (o1 A i j l.length q)), .dat (.int (k.val : Int))]) rfl (put_ok (i := 5) (j := k.val * c + j.val) rfl (s2_to (ixl_ok (own_ok rfl) hix (get_frI _ hlt)) (s2_to (s2_to rfl rfl (ix_T A i)) rfl (ix_R _ k)) (add_i _ _)) hix (by rw [List.length_map, fr_len]; exact hlt)) ?_
        have hs : ((fr (r * c)).map fun q : Fin (r * c) => PyData.int (if q.val = k.val * c + j.val then o1 A i j k.val ⟨k.val * c + j.val, hlt⟩ + ((A i k).val : Int) else o1 A i j k.val q)) = (fr (r * c)).map fun q => PyData.int (o1 A i j (k.val + 1) q) := List.map_congr_left fun q _ => congrArg PyData.int (congrFun (o1_step A i j k) q)
        rw [set_frI, ← hk, hs, hk, List.length_append]
        rfl
      rw [fr_len] at this
      exact this
    apply seq_to (env1 := [.dat (eT A), .dat (eT B), .own fd, .dat (.int (i.val : Int)), .dat (.int (j.val : Int)), .own ((fr (r * c)).map fun q => .int (dmI A B i j q)), .un])
    · have := gFor_pre (fi := sArg rg1 (sCons (sAs lenD (sCons (sVar 1) sNil)) sNil)) (gt := gN 6) (body := demands_b2) (ks := [6]) (env := [.dat (eT A), .dat (eT B), .own fd, .dat (.int (i.val : Int)), .dat (.int (j.val : Int)), .own ((fr (r * c)).map fun q => .int (o1 A i j r q)), .un]) (fun l => [.dat (eT A), .dat (eT B), .own fd, .dat (.int (i.val : Int)), .dat (.int (j.val : Int)), .own ((fr (r * c)).map fun q => .int (o2 A B i j l.length q)), .un]) (fun k : Fin c => .int (k.val : Int)) (fr c) (ar_to (cons_ok (as_to rfl (len_T B)) rfl) (rg1_ok (by omega))) (by
          have : o2 A B i j 0 = o1 A i j r := by
            funext q
            unfold o2
            rw [if_neg fun e => Nat.not_lt_zero _ e.2, Int.sub_zero]
          show _ = ([.dat (eT A), .dat (eT B), .own fd, .dat (.int (i.val : Int)), .dat (.int (j.val : Int)), .own ((fr (r * c)).map fun q => .int (o2 A B i j 0 q)), .un] : En)
          rw [this]
          rfl) fun l k rr e => by
        have hk := pre_idx e
        have hix : ∀ {e5 : Sl}, s2 addD (s2 mulD (sVar 3) (sAs lenD (sCons (sVar 1) sNil))) (sVar 6) [.dat (eT A), .dat (eT B), .own fd, .dat (.int (i.val : Int)), .dat (.int (j.val : Int)), e5, .dat (.int (k.val : Int))] = some (eN (i.val * c + k.val)) := s2_to (s2_to rfl (as_to rfl (len_T B)) (mulN _ _ (.inr (by omega)))) rfl (addN _ _)
        have hlt := at_lt i.isLt k.isLt
        refine turn_to (env1 := [.dat (eT A), .dat (eT B), .own fd, .dat (.int (i.val : Int)), .dat (.int (j.val : Int)), .own ((fr (r * c)).map fun q => .int (o2 A B i j l.length q)), .dat (.int (k.val : Int))]) rfl (put_ok (i := 5) (j := i.val * c + k.val) rfl (s2_to (ixl_ok (own_ok rfl) hix (get_frI _ hlt)) (s2_to (s2_to rfl rfl (ix_T B k)) rfl (ix_R _ j)) (sub_i _ _)) hix (by rw [List.length_map, fr_len]; exact hlt)) ?_
        have hs : ((fr (r * c)).map fun q : Fin (r * c) => PyData.int (if q.val = i.val * c + k.val then o2 A B i j k.val ⟨i.val * c + k.val, hlt⟩ - ((B k j).val : Int) else o2 A B i j k.val q)) = (fr (r * c)).map fun q => PyData.int (o2 A B i j (k.val + 1) q) := List.map_congr_left fun q _ => congrArg PyData.int (congrFun (o2_step A B i j k) q)
        rw [set_frI, ← hk, hs, hk, List.length_append]
        rfl
      rw [fr_len, o2_end] at this
      exact this
    exact app_ok (i := 2) rfl (as_to (own_ok rfl) rfl) (by omega)
  have hb : ∀ (i : Fin r) (fd : List PyData), fd.length + c ≤ 400 → turn (gN 3) demands_b4 [3, 4, 5, 6] (.int (i.val : Int)) [.dat (eT A), .dat (eT B), .own fd, .un, .un, .un, .un] = some (.nx [.dat (eT A), .dat (eT B), .own (fd ++ (fr c).map fun j => eZ (dmI A B i j)), .un, .un, .un, .un]) := by
    intro i fd hfd
    refine turn_to (env1 := [.dat (eT A), .dat (eT B), .own fd, .dat (.int (i.val : Int)), .un, .un, .un]) (env2 := [.dat (eT A), .dat (eT B), .own (fd ++ (fr c).map fun j => eZ (dmI A B i j)), .dat (.int (i.val : Int)), .un, .un, .un]) rfl ?_ rfl
    refine gFor_pre (fun l => [.dat (eT A), .dat (eT B), .own (fd ++ l.map fun j => eZ (dmI A B i j)), .dat (.int (i.val : Int)), .un, .un, .un]) (fun j : Fin c => .int (j.val : Int)) (fr c) (ar_to (cons_ok (as_to rfl (len_T B)) rfl) (rg1_ok (by omega))) (by rw [List.map_nil, List.append_nil]; rfl) fun l j rr e => ?_
    have hll := pre_len e
    rw [fr_len] at hll
    refine (hin i j _ (by rw [List.length_append, List.length_map]; omega)).trans ?_
    rw [List.map_append, List.append_assoc]
    rfl
  apply seq_to
  · refine gFor_pre (fun l => [.dat (eT A), .dat (eT B), .own (l.flatMap fun i => (fr c).map fun j => eZ (dmI A B i j)), .un, .un, .un, .un]) (fun i : Fin r => .int (i.val : Int)) (fr r) (ar_to (cons_ok (as_to rfl (len_T A)) rfl) (rg1_ok (by omega))) rfl fun l i rr e => ?_
    have hll := pre_len e
    rw [fr_len] at hll
    refine (hb i _ ?_).trans ?_
    · rw [len_flat]
      have : (l.length + 1) * c ≤ r * c := Nat.mul_le_mul_right c hll
      rw [Nat.succ_mul] at this
      omega
    · rw [List.flatMap_append, List.flatMap_singleton]
  rfl
def prD {p r c : Nat} (P : Mt p r r × Mt p c c) : PyData := .tuple [eT P.1, eT P.2]
/-- all that carry, as data -/
def ccD {p r c : Nat} [Pr p] (ps : List (Mt p r r × Mt p c c)) : PyData := .tuple ((CC ps).map fun v => eT (unf v))
theorem sh_cc {p r c : Nat} [Pr p] (ps : List (Mt p r r × Mt p c c)) : Sh 3 (ccD ps) := sh_tup (sh_map fun _ => sh_T _)
theorem e_common_carriers {p r c : Nat} [Pr p] (ps : List (Mt p (r + 1) (r + 1) × Mt p (c + 1) (c + 1))) (P : Mt p (r + 1) (r + 1) × Mt p (c + 1) (c + 1)) (hr : r ≤ 2) (hc : c ≤ 2) (hl : ps.length ≤ 6) (d : PyData) (hd : asQ d = some ((P :: ps).map prD)) (hx : ixD d (.int 0) = some (prD P)) : m_common_carriers [eN p, d] = some (ccD (P :: ps)) := by
  have hp := Pr.le (p := p)
  have hrc : (r + 1) * (c + 1) ≤ 9 := Nat.mul_le_mul (show r + 1 ≤ 3 by omega) (show c + 1 ≤ 3 by omega)
  have hrc1 : 1 ≤ (r + 1) * (c + 1) := Nat.mul_pos (by omega) (by omega)
  have hlen : ∀ l : List (Mt p (r + 1) (r + 1) × Mt p (c + 1) (c + 1)), (l.flatMap fun P => dms P.1 P.2).length = l.length * ((r + 1) * (c + 1)) := by
    intro l
    induction l with
    | nil => simp
    | cons x l ih => rw [List.flatMap_cons, List.length_append, ih, dms_len, List.length_cons, Nat.add_mul l.length 1 ((r + 1) * (c + 1)), Nat.one_mul, Nat.add_comm]
  have hmul : ∀ m, m ≤ 7 → m * ((r + 1) * (c + 1)) ≤ 63 := fun m hm => Nat.mul_le_mul hm hrc
  apply run_ok
  apply seq_to
  · exact setN_ok rfl
  simp only [List.set_cons_succ, List.set_cons_zero, List.map_cons, List.map_nil, List.replicate, List.cons_append, List.nil_append]
  apply seq_to
  · refine gFor_pre (fun l => [.dat (eN p), .dat d, .own ((l.flatMap fun P => dms P.1 P.2).map eR), .un, .un, .un, .un, .un]) prD (P :: ps) (q_to rfl hd) rfl fun l x rr e => ?_
    have hll := pre_len e
    rw [List.length_cons] at hll
    have hc2 : common_carriers_c2 [.dat (eN p), .dat d, .own ((l.flatMap fun P => dms P.1 P.2).map eR), .dat (eT x.1), .dat (eT x.2), .un, .un, .un] = some ((dms x.1 x.2).map eR) := by
      have hz : (fr (r + 1)).flatMap (fun i => (fr (c + 1)).map fun j => eZ (dmI x.1 x.2 i j)) = ((fr (r + 1)).flatMap fun i => (fr (c + 1)).map fun j => (i, j)).map fun q => eZ (dmI x.1 x.2 q.1 q.2) := by
        rw [List.map_flatMap]
        simp only [List.map_map]
        rfl
      have hz2 : (dms x.1 x.2).map eR = ((fr (r + 1)).flatMap fun i => (fr (c + 1)).map fun j => (i, j)).map fun q => eR (dm x.1 x.2 q.1 q.2) := by
        unfold dms
        rw [List.map_flatMap, List.map_flatMap]
        simp only [List.map_map]
        rfl
      have hd := e_demands x.1 x.2 (by omega) (by omega)
      rw [hz] at hd
      rw [hz2]
      refine sLc_map (h := fun q : Fin (r + 1) × Fin (c + 1) => eZ (dmI x.1 x.2 q.1 q.2)) (q_to (as_to rfl hd) rfl) ?_ fun q _ => ?_
      · have := congrArg List.length hz2
        rw [List.length_map, List.length_map, dms_len] at this
        omega
      · refine lcB_ok rfl rfl (as_to (sLc_map (h := fun i => .int (dmI x.1 x.2 q.1 q.2 i)) (k := fun i => eI (dm x.1 x.2 q.1 q.2 i)) (xs := fr _) (q_to rfl rfl) (by rw [fr_len]; omega) fun i _ => ?_) rfl)
        exact lcB_ok rfl rfl (s2_to rfl rfl ((mod_rs _).trans (by rw [rs_dmI])))
    generalize hM : (l.flatMap fun P => dms P.1 P.2).map eR = M at hc2
    have hlM : M.length + ((dms x.1 x.2).map (eR (p := p) (n := (r + 1) * (c + 1)))).length ≤ 16777216 := by
      have h1 := hmul l.length (by omega)
      rw [← hM, List.length_map, hlen, List.length_map, dms_len]
      omega
    have hb3 : common_carriers_b3 [.dat (eN p), .dat d, .own M, .dat (eT x.1), .dat (eT x.2), .un, .un, .un] = some (.nx [.dat (eN p), .dat d, .own (M ++ (dms x.1 x.2).map eR), .dat (eT x.1), .dat (eT x.2), .un, .un, .un]) := ext_ok (i := 2) rfl hc2 hlM
    have hfin : ((l ++ [x]).flatMap fun P => dms P.1 P.2).map eR = M ++ (dms x.1 x.2).map eR := by
      rw [List.flatMap_append, List.flatMap_singleton, List.map_append, hM]
    show _ = some (Ou.nx [.dat (eN p), .dat d, .own (((l ++ [x]).flatMap fun P => dms P.1 P.2).map eR), .un, .un, .un, .un, .un])
    rw [hfin]
    exact turn_to rfl hb3 rfl
  apply seq_to
  · exact set_ok (as_to (cons_ok (s2_to (s2_to rfl rfl hx) rfl (z := eT P.2) rfl) rfl) (len_T _))
  simp only [List.set_cons_succ, List.set_cons_zero, List.map_cons, List.map_nil, List.replicate, List.cons_append, List.nil_append]
  show gRet (sAs tupL common_carriers_c4) [.dat (eN p), .dat d, .dat (.list (((P :: ps).flatMap fun P => dms P.1 P.2).map eR)), .un, .un, .dat (eN (c + 1)), .un, .un] = _
  have hn := e_noughts (p := p) hrc1 (by omega) ((P :: ps).flatMap fun P => dms P.1 P.2) (by rw [hlen]; exact hmul _ (by rw [List.length_cons]; omega)) (.list (((P :: ps).flatMap fun P => dms P.1 P.2).map eR)) rfl
  have hcc := cc_n (P :: ps)
  generalize hM : ((P :: ps).flatMap fun P => dms P.1 P.2).map eR = M at hn
  have hn' : sAs m_noughts (sCons (sVar 0) (sCons (sVar 2) (sCons (s2 mulD (sAs lenD (sCons (s2 ixD (s2 ixD (sVar 1) (sC (.int 0))) (sC (.int 0))) sNil)) (sVar 5)) sNil))) [.dat (eN p), .dat d, .dat (.list M), .un, .un, .dat (eN (c + 1)), .un, .un] = some (.list ((CC (P :: ps)).map eR)) :=
    as_to (cons_ok rfl (cons_ok rfl (cons_ok (s2_to (as_to (cons_ok (s2_to (s2_to rfl rfl hx) rfl (z := eT P.1) rfl) rfl) (len_T _)) rfl (mulN _ _ (.inr (by omega)))) rfl))) hn
  have hc4 : common_carriers_c4 [.dat (eN p), .dat d, .dat (.list M), .un, .un, .dat (eN (c + 1)), .un, .un] = some ((CC (P :: ps)).map fun v => eT (unf v)) := by
    refine sLc_map (h := eR) (k := fun v => eT (unf v)) (xs := CC (P :: ps)) (q_to hn' rfl) (by omega) fun v _ => ?_
    exact lcB_ok rfl rfl (as_to rfl (e_as_table v (by omega) (by omega) (by omega)))
  exact ret_ok (as_to hc4 rfl)
theorem e_carriers {p r c : Nat} [Pr p] (A : Mt p (r + 1) (r + 1)) (B : Mt p (c + 1) (c + 1)) (hr : r ≤ 2) (hc : c ≤ 2) : m_carriers [eN p, eT A, eT B] = some (ccD [(A, B)]) :=
  run_ok (ret_ok (as_to (cons_ok rfl (cons_ok (tup_ok (ds := [prD (A, B)]) (cons_ok (tup_ok (ds := [eT A, eT B]) rfl (show 2 ≤ 16777216 by decide)) rfl) (show 1 ≤ 16777216 by decide)) rfl)) (e_common_carriers [] (A, B) hr hc (show 0 ≤ 6 by decide) _ rfl rfl)))
theorem e_many_of {p r c : Nat} [Pr p] (Xs : List (Mt p r c)) (hl : Xs.length ≤ 100) (d : PyData) (hd : asQ d = some (Xs.map eT)) : m_many_of [eN p, d] = some (eN (p ^ Xs.length)) := by
  have hp := Pr.le (p := p)
  apply run_ok
  apply seq_to
  · exact set_ok (d := eN (p ^ 0)) rfl
  simp only [List.set_cons_succ, List.set_cons_zero, List.map_cons, List.map_nil, List.replicate, List.cons_append, List.nil_append]
  apply seq_to
  · refine gFor_pre (fun l => [.dat (eN p), .dat d, .dat (eN (p ^ l.length)), .un]) eT Xs (q_to rfl hd) rfl fun l x rr e => ?_
    refine turn_to rfl (set_ok (s2_to rfl rfl (mulN _ _ (.inr (by omega))))) ?_
    rw [List.length_append]
    rfl
  rfl
theorem ccD_q {p r c : Nat} [Pr p] (ps : List (Mt p r r × Mt p c c)) : asQ (ccD ps) = some (((CC ps).map unf).map eT) := by
  rw [List.map_map]
  rfl
theorem e_many_carriers {p r c : Nat} [Pr p] (A : Mt p (r + 1) (r + 1)) (B : Mt p (c + 1) (c + 1)) (hr : r ≤ 2) (hc : c ≤ 2) : m_many_carriers [eN p, eT A, eT B] = some (eN (p ^ (C1 A B).length)) := by
  have hrc : (r + 1) * (c + 1) ≤ 9 := Nat.mul_le_mul (show r + 1 ≤ 3 by omega) (show c + 1 ≤ 3 by omega)
  have hcc := cc_n [(A, B)]
  have := e_many_of ((CC [(A, B)]).map unf) (by rw [List.length_map]; omega) (ccD [(A, B)]) (ccD_q _)
  rw [List.length_map] at this
  exact run_ok (ret_ok (as_to (cons_ok rfl (cons_ok (as_to rfl (e_carriers A B hr hc)) rfl)) this))
end Dz

namespace Dz
open PySem (PyData Str sizeLine)
theorem e_is_rest {k : Nat} {d : PyData} (h : Sh k d) (p : Nat) : m_is_rest [d, eN p] = some (.bool (isRest p d)) := run_ok (ret_ok (rest_body h p))
theorem rest_list {k : Nat} {env : En} {ds : List PyData} {p : Nat} {fi : En → Option (List PyData)} {gt : PyData → En → Option En} {fe : En → Option PyData} {vs : List Nat} (hs : ∀ d ∈ ds, Sh k d) (hi : fi env = some ds) (hl : ds.length ≤ 16777216)
    (hb : ∀ x ∈ ds, ∃ e2, gt x (wipeE env vs) = some e2 ∧ fe e2 = m_is_rest [x, eN p]) : sAs allL (sLc fi gt sYes fe vs) env = some (.bool (ds.all (isRest p))) := by
  refine all_mem (sLc_mem (k := fun x => .bool (isRest p x)) hi hl fun x hx => ?_)
  obtain ⟨e2, h1, h2⟩ := hb x hx
  exact lcB_ok h1 rfl (h2.trans (e_is_rest (hs x hx) p))
theorem e_is_table {k : Nat} {d : PyData} (h : Sh k d) (p : Nat) : m_is_table [d, eN p] = some (.bool (isTab p d)) := by
  apply run_ok
  cases ht : isT d with
  | false =>
    refine (nt_to (i := 0) (d := d) rfl h ht rfl).trans ?_
    cases d <;> first | rfl | cases ht
  | true =>
    have hd := tupOf ht
    generalize tups d = ds at hd
    subst hd
    have hk := sh_tups h
    have h1 : isTab p (.tuple ds) = ((decide (1 ≤ ds.length) && decide (ds.length ≤ 3)) && (ds.all rowOk && (ds.all (fun r => decide ((tups r).length = (tups (ds.headD .none)).length)) && ds.all fun r => (tups r).all (isRest p)))) := rfl
    rw [h1]
    refine chk_to (tt_ok (i := 0) rfl rfl (not_ok (sB_ok (chain13 (as_to rfl (len_tup ds)))))) rfl (fun z => ?_) (fun z => ?_)
    · rw [nt_f z]
      rfl
    have hl := nt_t z
    rw [hl]
    have hl' : 1 ≤ ds.length ∧ ds.length ≤ 3 := by simpa using hl
    refine chk_to (not_ok (sB_ok (all_mem (g := rowOk) (sLc_mem (k := fun x => .bool (rowOk x)) rfl (by omega) fun x hx => lcB_ok rfl rfl ?_)))) rfl (fun z => ?_) (fun z => ?_)
    · rw [rowOk_eq]
      refine sAndV_ok ((s1_to rfl (isi_tup (hk x hx)))) fun hx => ?_
      refine chain13 (as_to rfl ?_)
      rw [tupOf hx]
      rfl
    · rw [nt_f z]
      rfl
    have hr := nt_t z
    rw [hr]
    have hr' := List.all_eq_true.mp hr
    obtain ⟨d0, rest, rfl⟩ : ∃ d0 rest, ds = d0 :: rest := by
      cases ds with
      | nil => exact absurd hl'.1 (by simp)
      | cons a b => exact ⟨a, b, rfl⟩
    refine chk_to (not_ok (sB_ok (all_mem (g := fun r => decide ((tups r).length = (tups d0).length)) (sLc_mem (k := fun r => .bool (decide ((tups r).length = (tups d0).length))) rfl (by omega) fun x hx => lcB_ok rfl rfl ?_)))) rfl (fun z => ?_) (fun z => ?_)
    · have e1 := (rowT (hr' x hx)).1
      have e2 := (rowT (hr' d0 List.mem_cons_self)).1
      refine s2_to (x := eN (tups x).length) (y := eN (tups d0).length) (as_to rfl ?_) (as_to (cons_ok (s2_to rfl rfl (z := d0) (at_hd d0 rest)) rfl) ?_) (eqN _ _)
      · rw [e1]; rfl
      · rw [e2]; rfl
    · rw [show ((d0 :: rest).all (fun r => decide ((tups r).length = (tups ((d0 :: rest).headD .none)).length))) = false from nt_f z]
      rfl
    have hw : ((d0 :: rest).all (fun r => decide ((tups r).length = (tups ((d0 :: rest).headD .none)).length))) = true := nt_t z
    rw [hw]
    refine ret_ok (all_mem (g := fun r => (tups r).all (isRest p)) (sLc_mem (k := fun r => .bool ((tups r).all (isRest p))) rfl (by omega) fun x hx => lcB_ok rfl rfl ?_))
    have e1 := rowT (hr' x hx)
    have hs : ∀ d ∈ tups x, Sh k d := sh_tups (by have := hk x hx; rw [e1.1] at this; exact this)
    have hq : asQ x = some (tups x) := by
      generalize tups x = xs at e1
      rw [e1.1]
      rfl
    exact rest_list hs (q_to rfl hq) (by omega) fun y hy => ⟨_, rfl, rfl⟩
theorem eq_unit {k : Nat} {ds : List PyData} (h : Sh k (.tuple ds)) (hk : k ≤ 64) : eqD (.tuple ds) (.tuple []) = some (.bool ds.isEmpty) := by
  rw [eqD_of (k := k) (j := 1) h (sh_tup (by simp)) hk (by decide)]
  cases ds <;> simp [PyData.eqv, PyData.eqvAll]
theorem pow_last {k p : Nat} {ds : List PyData} {env : En} {f f' : En → Option PyData} (h : Sh k (.tuple ds)) (hk : k ≤ 64) (h0 : f env = some (.tuple ds)) (hi : ∀ d, ds.getLast? = some d → f' env = some d) (hr : ds.all (isRest p) = true) :
    sOrV (s2 eqD f (sTup sNil)) (s2 neD f' (sC (.int 0))) env = some (.bool (ds.isEmpty || !last0 ds)) := by
  refine sOrV_ok (s2_to h0 rfl (eq_unit h hk)) fun z => ?_
  obtain ⟨d, hd⟩ : ∃ d, ds.getLast? = some d := by
    cases ds with
    | nil => cases z
    | cons a b => exact ⟨_, List.getLast?_eq_some_getLast (by simp)⟩
  refine s2_to (hi d hd) rfl ?_
  have hm : d ∈ ds := List.mem_of_getLast? hd
  have := List.all_eq_true.mp hr d hm
  cases d with
  | int i =>
    rw [ne_int]
    unfold last0
    rw [hd]
  | _ => cases this
theorem tups_R {p n : Nat} (v : Fin n → Fin p) : tups (eR v) = (fr n).map fun i => eI (v i) := rfl
theorem isTab_T {p r c : Nat} [Pr p] {X : Mt p (r + 1) (c + 1)} (hr : r ≤ 2) (hc : c ≤ 2) : isTab p (eT X) = true := by
  have hl : ((fr (r + 1)).map fun i => eR (X i)).length = r + 1 := by rw [List.length_map, fr_len]
  have hrow : ∀ v : Vc p (c + 1), (tups (eR v)).length = c + 1 := fun v => by rw [tups_R, List.length_map, fr_len]
  show ((decide (1 ≤ ((fr (r + 1)).map fun i => eR (X i)).length) && decide (((fr (r + 1)).map fun i => eR (X i)).length ≤ 3)) && _) = true
  rw [hl, decide_eq_true (by omega), decide_eq_true (by omega)]
  simp only [Bool.true_and, Bool.and_eq_true, List.all_eq_true]
  refine ⟨fun d hd => ?_, fun d hd => ?_, fun d hd => ?_⟩
  · obtain ⟨i, _, rfl⟩ := List.mem_map.mp hd
    show (decide (1 ≤ (tups (eR (X i))).length) && decide ((tups (eR (X i))).length ≤ 3)) = true
    rw [hrow, decide_eq_true (by omega), decide_eq_true (by omega)]
    rfl
  · obtain ⟨i, _, rfl⟩ := List.mem_map.mp hd
    refine decide_eq_true ?_
    have : (((fr (r + 1)).map fun i => eR (X i)).headD PyData.none) = eR (X 0) := by
      show (List.map _ (List.finRange (r + 1))).headD PyData.none = _
      rw [List.finRange_succ]
      rfl
    rw [this, hrow, hrow]
  · obtain ⟨i, _, rfl⟩ := List.mem_map.mp hd
    rw [tups_R]
    intro d hd
    obtain ⟨j, _, rfl⟩ := List.mem_map.mp hd
    show (decide ((0 : Int) ≤ ((X i j).val : Int)) && decide (((X i j).val : Int) < (p : Int))) = true
    have := (X i j).isLt
    rw [decide_eq_true (by omega), decide_eq_true (by omega)]
    rfl
theorem e_carries {p r c : Nat} [Pr p] (A : Mt p (r + 1) (r + 1)) (B : Mt p (c + 1) (c + 1)) (X : Mt p (r + 1) (c + 1)) (hr : r ≤ 2) (hc : c ≤ 2) : m_carries [eN p, eT A, eT B, eT X] = some (.bool (decide (mm A X = mm X B))) := by
  have ht := isTab_T (X := X) hr hc
  refine run_ok (no_to (or_ok (x := false) (y := false) (not_ok (x := true) (sBf (as_to rfl (e_is_table (sh_T X) p)) ht)) fun _ => nor (sBf (s2_to (as_to rfl (len_T X)) (as_to rfl (len_T A)) (neN_self _)) rfl) (sBf (s2_to (as_to (cons_ok (s2_to rfl rfl (ix_T0 X)) rfl) (len_R _)) (as_to rfl (len_T B)) (neN_self _)) rfl)) (ret_ok (s2_to (as_to rfl (e_times A X (by omega) (by omega) (by omega))) (as_to rfl (e_times X B (by omega) (by omega) (by omega))) (eqT _ _))))
theorem rep_zero {p c : Nat} [Pr p] : List.replicate c (PyData.int 0) = (fr c).map fun j => eI ((0 : Fin p)) := by
  symm
  rw [List.eq_replicate_iff, List.length_map, fr_len]
  refine ⟨rfl, fun b hb => ?_⟩
  obtain ⟨i, _, rfl⟩ := List.mem_map.mp hb
  show PyData.int (((0 : Fin p).val : Nat) : Int) = _
  rw [zero_val]
  rfl
/-- ((0,) * c,) * r -/
theorem zero_ok {p r c : Nat} [Pr p] {f g : En → Option PyData} {env : En} (hr : 1 ≤ r) (hr2 : r ≤ 100) (hc : 1 ≤ c) (hc2 : c ≤ 100) (hf : f env = some (eN c)) (hg : g env = some (eN r)) : s2 mulD (sTup (sCons (s2 mulD (sTup (sCons (sC (.int 0)) sNil)) f) sNil)) g env = some (eT (m0 : Mt p r c)) := by
  refine s2_to (tup_ok (ds := [eR ((m0 : Mt p r c) ⟨0, hr⟩)]) (cons_ok (s2_to (tup_ok (ds := [.int 0]) rfl (show 1 ≤ 16777216 by decide)) hf ((rpt_ok (by decide) hc (by omega) (by decide)).trans ?_)) rfl) (show 1 ≤ 16777216 by decide)) hg ((rpt_ok (ds := [eR ((m0 : Mt p r c) ⟨0, hr⟩)]) (show 0 < 1 by decide) hr (by omega) (show 1 ≤ 1000 by decide)).trans ?_)
  · rw [rep_flat, rep_zero (p := p)]
    rfl
  · rw [rep_flat]
    have : List.replicate r (eR ((m0 : Mt p r c) ⟨0, hr⟩)) = (fr r).map fun i => eR ((m0 : Mt p r c) i) := by
      symm
      rw [List.eq_replicate_iff, List.length_map, fr_len]
      refine ⟨rfl, fun b hb => ?_⟩
      obtain ⟨i, _, rfl⟩ := List.mem_map.mp hb
      rfl
    rw [this]
    rfl
theorem e_carrier_at {p r c : Nat} [Pr p] (A : Mt p (r + 1) (r + 1)) (B : Mt p (c + 1) (c + 1)) (m : Nat) (hr : r ≤ 2) (hc : c ≤ 2) (hm : m < p ^ (C1 A B).length) : m_carrier_at [eN p, eT A, eT B, eN m] = some (some (eT (((C1 A B).map unf).reverse.foldl und (m0, m)).1)) := by
  have hp := Pr.le (p := p)
  have hrc : (r + 1) * (c + 1) ≤ 9 := Nat.mul_le_mul (show r + 1 ≤ 3 by omega) (show c + 1 ≤ 3 by omega)
  have hcc := cc_n [(A, B)]
  have hmany := e_many_of ((CC [(A, B)]).map unf) (by rw [List.length_map]; omega) (ccD [(A, B)]) (ccD_q _)
  rw [List.length_map] at hmany
  apply runx_ok (r := some (.rt (eT (((C1 A B).map unf).reverse.foldl und (m0, m)).1)))
  apply xseq_to
  · exact set_ok (as_to rfl (e_carriers A B hr hc))
  simp only [List.set_cons_succ, List.set_cons_zero, List.map_cons, List.map_nil, List.replicate, List.cons_append, List.nil_append]
  apply xif_f
  · refine not_ok (x := true) (sBf (sChain_ok (cN 0) rfl (as_to rfl hmany) (leN _ _) (ltN _ _)) ?_)
    rw [decide_eq_true (Nat.zero_le _), decide_eq_true hm]
    rfl
  apply xok_to
  apply seq_to
  · exact set_ok (zero_ok (p := p) (r := r + 1) (c := c + 1) (by omega) (by omega) (by omega) (by omega) (as_to rfl (len_T B)) (as_to rfl (len_T A)))
  simp only [List.set_cons_succ, List.set_cons_zero, List.map_cons, List.map_nil, List.replicate, List.cons_append, List.nil_append]
  apply seq_to (env1 := [.dat (eN p), .dat (eT A), .dat (eT B), .dat (eN (((C1 A B).map unf).reverse.foldl und (m0, m)).2), .dat (ccD [(A, B)]), .dat (eT (((C1 A B).map unf).reverse.foldl und (m0, m)).1), .un])
  · refine gFor_fold (σ := Mt p (r + 1) (c + 1) × Nat) (fun s => [.dat (eN p), .dat (eT A), .dat (eT B), .dat (eN s.2), .dat (ccD [(A, B)]), .dat (eT s.1), .un]) eT und ((C1 A B).map unf).reverse (m0, m) (q_to (s1_to rfl rfl) ?_) rfl fun s X _ => ?_
    · show some ((CC [(A, B)]).map fun v => eT (unf v)).reverse = _
      rw [List.map_reverse, List.map_map]
      rfl
    · refine turn_to (env1 := [.dat (eN p), .dat (eT A), .dat (eT B), .dat (eN s.2), .dat (ccD [(A, B)]), .dat (eT s.1), .dat (eT X)]) rfl (seq_to (set_ok (as_to (cons_ok rfl (cons_ok rfl (cons_ok (as_to (cons_ok rfl (cons_ok (s2_to rfl rfl (mod_rs _)) (cons_ok rfl rfl))) (e_scaled (rs p (s.2 : Nat)) X (by omega) (by omega))) rfl))) (e_plus s.1 _ (by omega) (by omega)))) (set_ok (s2_to rfl rfl (divN _ _ (by omega) (by omega))))) rfl
  rfl
theorem e_carrier_no {p r c : Nat} [Pr p] (A : Mt p (r + 1) (r + 1)) (B : Mt p (c + 1) (c + 1)) (i : Int) (hr : r ≤ 2) (hc : c ≤ 2) (hm : ¬ ((0 : Int) ≤ i ∧ i < ((p ^ (C1 A B).length : Nat) : Int))) : m_carrier_at [eN p, eT A, eT B, .int i] = some none := by
  have hp := Pr.le (p := p)
  have hrc : (r + 1) * (c + 1) ≤ 9 := Nat.mul_le_mul (show r + 1 ≤ 3 by omega) (show c + 1 ≤ 3 by omega)
  have hcc := cc_n [(A, B)]
  have hmany := e_many_of ((CC [(A, B)]).map unf) (by rw [List.length_map]; omega) (ccD [(A, B)]) (ccD_q _)
  rw [List.length_map] at hmany
  apply runx_ok (r := none)
  apply xseq_to
  · exact set_ok (as_to rfl (e_carriers A B hr hc))
  simp only [List.set_cons_succ, List.set_cons_zero, List.map_cons, List.map_nil, List.replicate, List.cons_append, List.nil_append]
  apply xif_t
  refine not_ok (x := false) (sBf (sChain_ok (k := decide ((0 : Int) ≤ i)) (l := decide (i < ((p ^ (C1 A B).length : Nat) : Int))) (cN 0) rfl (as_to rfl hmany) rfl rfl) ?_)
  rw [← Bool.decide_and]
  exact decide_eq_false hm
theorem e_place_of {p r c : Nat} [Pr p] (A : Mt p (r + 1) (r + 1)) (B : Mt p (c + 1) (c + 1)) (X : Mt p (r + 1) (c + 1)) (hr : r ≤ 2) (hc : c ≤ 2) (hX : mm A X = mm X B) : m_place_of [eN p, eT A, eT B, eT X] = some (some (eN (dig (flat X) (C1 A B)))) := by
  have hp := Pr.le (p := p)
  have hrc : (r + 1) * (c + 1) ≤ 9 := Nat.mul_le_mul (show r + 1 ≤ 3 by omega) (show c + 1 ≤ 3 by omega)
  apply runx_ok (r := some (.rt (eN (dig (flat X) (C1 A B)))))
  apply xif_f (not_ok (x := true) (sBf (as_to rfl (e_carries A B X hr hc)) (decide_eq_true hX)))
  apply xok_to
  apply seq_to
  · exact set_ok (as_to rfl (e_as_row X (by omega)))
  simp only [List.set_cons_succ, List.set_cons_zero, List.map_cons, List.map_nil, List.replicate, List.cons_append, List.nil_append]
  apply seq_to
  · exact set_ok (d := eN 0) rfl
  simp only [List.set_cons_succ, List.set_cons_zero, List.map_cons, List.map_nil, List.replicate, List.cons_append, List.nil_append]
  apply seq_to (env1 := [.dat (eN p), .dat (eT A), .dat (eT B), .dat (eT X), .dat (eR (flat X)), .dat (eN (dig (flat X) (C1 A B))), .un])
  · refine gFor_fold (σ := Nat) (fun s => [.dat (eN p), .dat (eT A), .dat (eT B), .dat (eT X), .dat (eR (flat X)), .dat (eN s), .un]) (fun v => eT (unf v)) (fun s o => s * p + (at' (flat X) (fo o)).val) (C1 A B) 0 (q_to (as_to rfl (e_carriers A B hr hc)) rfl) rfl fun s o ho => ?_
    obtain ⟨i, hi⟩ := (cc_rr [(A, B)]).ld o ho
    have hf : fo o < (r + 1) * (c + 1) := by rw [hi.fo]; exact i.isLt
    have har := e_as_row (unf o) (by omega : (r + 1) * (c + 1) ≤ 10000)
    rw [flat_unf] at har
    exact turn_to rfl (set_ok (s2_to (s2_to rfl rfl (mulN _ _ (.inr (by omega)))) (s2_to rfl (as_to (cons_ok (as_to rfl har) rfl) (e_first_of o)) (ix_at (flat X) hf)) (addN _ _))) rfl
  rfl
theorem e_place_no {p r c : Nat} [Pr p] (A : Mt p (r + 1) (r + 1)) (B : Mt p (c + 1) (c + 1)) (X : Mt p (r + 1) (c + 1)) (hr : r ≤ 2) (hc : c ≤ 2) (hX : mm A X ≠ mm X B) : m_place_of [eN p, eT A, eT B, eT X] = some none := by
  apply runx_ok (r := none)
  exact xif_t (not_ok (x := false) (sBf (as_to rfl (e_carries A B X hr hc)) (decide_eq_false hX)))
/-- the form of some tables -/
def fmT {p r c : Nat} [Pr p] (Ts : List (Mt p r c)) : PyData := .tuple ((red (Ts.map flat)).map fun v => eT (unf v))
theorem sh_fm {p r c : Nat} [Pr p] (Ts : List (Mt p r c)) : Sh 3 (fmT Ts) := sh_tup (sh_map fun _ => sh_T _)
theorem fm_eq {p r c : Nat} [Pr p] {Ts Us : List (Mt p r c)} (h : ∀ v, spn (Ts.map flat) v ↔ spn (Us.map flat) v) : fmT Ts = fmT Us := by
  unfold fmT
  rw [red_eq h]
/-- a table, or None -/
def oT {p r c : Nat} : Option (Mt p r c) → PyData
  | none => .none
  | some X => eT X
theorem isD_o {p r c : Nat} (o : Option (Mt p r c)) : isD (oT o) .none = some (.bool o.isNone) := by cases o <;> rfl
theorem isntD_o {p r c : Nat} (o : Option (Mt p r c)) : isntD (oT o) .none = some (.bool (!o.isNone)) := by cases o <;> rfl
theorem ne_bb (a b : Bool) : neD (.bool a) (.bool b) = some (.bool (!decide (a = b))) := by cases a <;> cases b <;> rfl
theorem cut_last {α : Type} (xs : List α) (f : α → PyData) : cutL (xs.map f) none (some (-1)) = (xs.dropLast).map f := by
  have h : HT.sIx (xs.map f).length (xs.map f).length (some (-1)) = (xs.map f).length - 1 := by
    show (if (-1 : Int) < 0 then ((-1 : Int) + ((xs.map f).length : Int)).toNat else min (-1 : Int).toNat (xs.map f).length) = _
    rw [if_pos (by decide)]
    omega
  unfold cutL
  rw [HT.sIx_none, h, List.drop_zero, Nat.sub_zero, List.map_dropLast, List.dropLast_eq_take]
theorem ix_last {p n : Nat} (w : Vc p (n + 1)) : ixD (eR w) (.int (-1)) = some (eI (w (Fin.last n))) := (last_at (by
  rw [List.getLast?_map, List.getLast?_eq_getElem?, fr_len]
  show Option.map _ ((fr (n + 1))[n]?) = _
  rw [fr_get (Nat.lt_succ_self n)]
  rfl)).1
theorem fr_dropLast {n : Nat} (f : Fin (n + 1) → PyData) : ((fr (n + 1)).dropLast).map f = (fr n).map fun i => f i.castSucc := by
  show ((List.finRange (n + 1)).dropLast).map f = _
  rw [List.finRange_succ_last, List.dropLast_concat, List.map_map]
  rfl
theorem cut_row {p n : Nat} (w : Vc p (n + 1)) : slD (eR w) none (some (-1)) = some (eR (fl' w)) := by
  show some (PyData.tuple (cutL ((fr (n + 1)).map fun i => eI (w i)) none (some (-1)))) = _
  rw [cut_last, fr_dropLast]
  rfl
theorem eq_1 {p : Nat} [Pr p] (x : Fin p) : eqD (eI x) (.int 1) = some (.bool (decide (x = 1))) := (eq_int _ _).trans (by
  have h := one_val (p := p)
  congr 2
  exact decide_eq_decide.mpr ⟨fun e => Fin.ext (by omega), fun e => by rw [e]; exact h⟩)
theorem sub_z {p : Nat} [Pr p] (x : Fin p) : modD (.int (0 - (x.val : Int))) (eN p) = some (eI (- x)) := (mod_rs _).trans (by
  rw [rs_sub, rs_v, rs_0]
  refine congrArg (fun x : Fin p => some (eI x)) ?_
  grind)
theorem rs_p {p : Nat} [Pr p] : rs p ((p : Nat) : Int) = 0 := Fin.ext (by
  have := rs_val p ((p : Nat) : Int)
  rw [Int.emod_self] at this
  rw [zero_val]
  omega)
theorem sub_p1 {p : Nat} [Pr p] : subD (eN p) (.int 1) = some (eI (-1 : Fin p)) := by
  have lp := Pr.le (p := p)
  have h := rs_val p ((p : Int) - 1)
  rw [Int.emod_eq_of_lt (by omega) (by omega)] at h
  have e : rs p ((p : Int) - 1) = -1 := by
    rw [rs_sub, rs_p, rs_1]
    grind
  rw [e] at h
  exact congrArg (fun x => some (PySem.PyData.int x)) h.symm
end Dz

namespace Dz
open PySem (PyData Str sizeLine)
theorem cat_ok {f g : En → Option (List PyData)} {env : En} {xs ys : List PyData} (hf : f env = some xs) (hg : g env = some ys) (hl : xs.length + ys.length ≤ 16777216) : sCat f g env = some (xs ++ ys) := by
  unfold sCat
  rw [hf, Option.bind_some, hg, Option.bind_some]
  exact if_pos hl
theorem fin_snoc {α : Type} {l : List α} (h : l ≠ []) : ∃ m x, l = m ++ [x] := ⟨l.dropLast, l.getLast h, (List.dropLast_concat_getLast h).symm⟩
theorem co_last {p : Nat} [Pr p] (l : Po p) (x : Fin p) : lead (l ++ [x]) = x := by
  unfold lead
  rw [co_app, List.length_append, if_neg (by simp)]
  simp [co]
theorem nm_one {p : Nat} [Pr p] (x : Fin p) (l : Po p) (h : x ≠ 0) : Nm (l ++ [x]) := fun y hy => by simp at hy; rw [← hy]; exact h
theorem set_P {p : Nat} [Pr p] (F : Po p) (k : Nat) (x : Fin p) : (F.map eI).set k (eI x) = (F.set k x).map eI := List.map_set.symm
theorem get_P {p : Nat} [Pr p] {F : Po p} {k : Nat} (h : k < F.length) : (F.map eI)[k]? = some (eI (co F k)) := by
  rw [List.getElem?_map, List.getElem?_eq_getElem h]
  unfold co
  rw [List.getD_eq_getElem?_getD, List.getElem?_eq_getElem h]
  rfl
theorem rep_P {p : Nat} [Pr p] (n : Nat) : List.replicate n (PyData.int 0) = (List.replicate n (0 : Fin p)).map eI := by
  rw [List.map_replicate]
  have : eI (0 : Fin p) = PyData.int 0 := by
    show PyData.int (((0 : Fin p).val : Nat) : Int) = _
    rw [zero_val]
    rfl
  rw [this]
theorem add_mul_v {p : Nat} [Pr p] (x y z : Fin p) : modD (.int ((x.val : Int) + (y.val : Int) * (z.val : Int))) (eN p) = some (eI (x + y * z)) := (mod_rs _).trans (by rw [rs_add, rs_mul, rs_v, rs_v, rs_v])
theorem zi_lt {α : Type} {l pre post : List α} : True := trivial
theorem subN (a b : Nat) (h : b ≤ a) : subD (eN a) (eN b) = some (eN (a - b)) := congrArg (fun i => some (PyData.int i)) (show (a : Int) - (b : Int) = ((a - b : Nat) : Int) by omega)
theorem rs_pN {p : Nat} [Pr p] : rs p ((p : Nat) : Int) = 0 := Fin.ext (by
  have := rs_val p ((p : Nat) : Int)
  rw [Int.emod_self] at this
  rw [zero_val]
  omega)
theorem rs_pv {p : Nat} [Pr p] (x : Fin p) : rs p ((p : Int) - (x.val : Int)) = - x := by
  rw [rs_sub, rs_pN, rs_v]
  grind
theorem lead_ne {p : Nat} [Pr p] {q : Po p} (h : Nm q) (h0 : q ≠ []) : lead q ≠ 0 := h.last h0
/-- rows of sums of powers -/
def eM {p : Nat} (M : List (List (Po p))) : PyData := .list (M.map fun r => .list (r.map eP))
def lessR {α : Type} (r : List α) (k : Nat) : List α := r.take k ++ r.drop (k + 1)
def wosL {p : Nat} [Pr p] : Nat → List (List (Po p)) → Po p
  | 0, _ => []
  | _ + 1, [] => []
  | f + 1, r :: rs => if rs = [] then r.headD [] else r.zipIdx.foldl (fun acc q => nm (pad acc (psm (sgn q.2) (shf 0 (nm (pmu q.1 (wosL f (rs.map fun r => lessR r q.2)))))))) []
theorem enL_mapf {α : Type} (f : α → PyData) (l : List α) : enL (l.map f) = l.zipIdx.map fun q => .tuple [eN q.2, f q.1] := by
  unfold enL
  rw [List.zipIdx_map, List.map_map]
  rfl
theorem add_ll {xs ys : List PyData} (h : xs.length + ys.length ≤ 16777216) : addD (.list xs) (.list ys) = some (.list (xs ++ ys)) := if_pos h
theorem sl_L {f : En → Option PyData} {l h : En → Option (Option Int)} {env : En} {ds : List PyData} {lo hi : Option Int} (hf : f env = some (.list ds)) (hl : l env = some lo) (hh : h env = some hi) : sSl f l h env = some (.list (cutL ds lo hi)) := (sl_ok' hf hl hh).trans rfl
theorem sgn_ok {p : Nat} [Pr p] (k : Nat) : rs p (1 + ((k % 2 : Nat) : Int) * ((p : Int) - 2)) = sgn k := by
  unfold sgn
  have h2 : rs p 2 = 1 + 1 := by
    have : (2 : Int) = 1 + 1 := rfl
    rw [this, rs_add, rs_1]
  rcases Nat.mod_two_eq_zero_or_one k with h | h
  · rw [h, if_pos rfl, rs_add, rs_mul]
    rw [show ((0 : Nat) : Int) = 0 from rfl, rs_0, rs_1]
    grind
  · rw [h, if_neg (by decide), rs_add, rs_mul, rs_sub]
    rw [show ((1 : Nat) : Int) = 1 from rfl, rs_1, rs_pN, h2]
    grind
/-- what is long enough -/
def Sq {p : Nat} (n : Nat) (M : List (List (Po p))) : Prop := M.length = n ∧ ∀ r ∈ M, r.length = n ∧ ∀ x ∈ r, x.length ≤ 2
theorem lessR_len {α : Type} {r : List α} {k : Nat} (h : k < r.length) : (lessR r k).length = r.length - 1 := by
  unfold lessR
  rw [List.length_append, List.length_take, List.length_drop]
  omega
theorem lessR_mem {α : Type} {r : List α} {k : Nat} {x : α} (h : x ∈ lessR r k) : x ∈ r := by
  unfold lessR at h
  rcases List.mem_append.mp h with h | h
  · exact List.mem_of_mem_take h
  · exact List.mem_of_mem_drop h
theorem wosL_len {p : Nat} [Pr p] : ∀ (f n : Nat) (M : List (List (Po p))), n ≤ 3 → Sq n M → (wosL f M).length ≤ n * 2
  | 0, n, M, _, _ => Nat.zero_le _
  | f + 1, n, [], _, _ => Nat.zero_le _
  | f + 1, n, r :: rs, hn, h => by
    obtain ⟨h1, h2⟩ := h
    obtain ⟨hr1, hr2⟩ := h2 r List.mem_cons_self
    unfold wosL
    split
    · cases r with
      | nil => exact Nat.zero_le _
      | cons x r =>
        have := hr2 x List.mem_cons_self
        simp at h1 hr1
        show x.length ≤ n * 2
        omega
    · rename_i hrs
      have hn2 : 1 ≤ rs.length := List.length_pos_iff.mpr hrs
      simp at h1
      have key : ∀ (l : List (Po p × Nat)) (acc : Po p), (∀ q ∈ l, q.1.length ≤ 2 ∧ q.2 < n) → acc.length ≤ n * 2 → (l.foldl (fun acc q => nm (pad acc (psm (sgn q.2) (shf 0 (nm (pmu q.1 (wosL f (rs.map fun r => lessR r q.2)))))))) acc).length ≤ n * 2 := by
        intro l
        induction l with
        | nil => intro acc _ h; exact h
        | cons q l ih =>
          intro acc hq hacc
          refine ih _ (fun q' hq' => hq q' (List.mem_cons_of_mem _ hq')) ?_
          obtain ⟨hq1, hq2⟩ := hq q List.mem_cons_self
          have hsq : Sq (n - 1) (rs.map fun r => lessR r q.2) := ⟨by rw [List.length_map]; omega, fun r' hr' => by
            obtain ⟨s, hs, rfl⟩ := List.mem_map.mp hr'
            obtain ⟨a, b⟩ := h2 s (List.mem_cons_of_mem _ hs)
            exact ⟨by rw [lessR_len (by omega)]; omega, fun x hx => b x (lessR_mem hx)⟩⟩
          have hw := wosL_len f (n - 1) _ (by omega) hsq
          show (nm (pad acc (psm (sgn q.2) (shf 0 (nm (pmu q.1 (wosL f (rs.map fun r => lessR r q.2)))))))).length ≤ n * 2
          generalize wosL f (rs.map fun r => lessR r q.2) = w at hw
          refine Nat.le_trans (nm_le _) ?_
          rw [pad_len, psm_len]
          show max acc.length (nm (pmu q.1 w)).length ≤ n * 2
          have h3 : (nm (pmu q.1 w)).length ≤ q.1.length + w.length := by
            refine Nat.le_of_not_lt fun hlt => ?_
            have hne : nm (pmu q.1 w) ≠ [] := fun z => by rw [z] at hlt; simp at hlt
            have := (nm_nm (pmu q.1 w)).last hne
            rw [nm_sam _ _, co_pmu_ge _ _ _ (by omega)] at this
            exact this rfl
          have : n - 1 + 1 = n := by omega
          have : (n - 1) * 2 + 2 = n * 2 := by omega
          omega
      refine key _ _ (fun q hq => ?_) (Nat.zero_le _)
      obtain ⟨a, i⟩ := q
      have hm := List.mem_zipIdx hq
      exact ⟨hr2 a (hm.2.2 ▸ List.getElem_mem _), by show i < n; omega⟩
/-- a number of the table of sums -/
def ent {p n : Nat} [Pr p] (A : Mt p n n) (i j : Fin n) : Po p := nm [- A i j, (m1 : Mt p n n) i j]
def entM {p n : Nat} [Pr p] (A : Mt p n n) : List (List (Po p)) := (fr n).map fun i => (fr n).map fun j => ent A i j
theorem ent_sq {p n : Nat} [Pr p] (A : Mt p n n) : Sq n (entM A) := ⟨by unfold entM; rw [List.length_map, fr_len], fun r hr => by
  obtain ⟨i, _, rfl⟩ := List.mem_map.mp hr
  refine ⟨by rw [List.length_map, fr_len], fun x hx => ?_⟩
  obtain ⟨j, _, rfl⟩ := List.mem_map.mp hx
  exact nm_le _⟩
theorem zip_TM {p r c d : Nat} (A : Mt p r c) (B : Mt p r d) : zp [eT A, eT B] = some ((fr r).map fun i => .tuple [eR (A i), eR (B i)]) := congrArg some (zip_fr _ _ _)
theorem sgn_0 {p : Nat} [Pr p] : (sgn 0 : Fin p) = 1 := if_pos rfl
theorem sgn_1 {p : Nat} [Pr p] : (sgn 1 : Fin p) = -1 := if_neg (by decide)
theorem sgn_2 {p : Nat} [Pr p] : (sgn 2 : Fin p) = 1 := if_pos rfl
theorem shf_0 {p : Nat} [Pr p] (l : Po p) : shf 0 l = l := rfl
theorem pmu_22 {p : Nat} [Pr p] (a b c d : Fin p) : sam (pmu [a, b] [c, d]) [a * c, a * d + b * c, b * d] := by
  show sam [a * c + 0, a * d + (b * c + 0), b * d] _
  exact sam_cons (by grind) (sam_cons (by grind) (sam_cons (by grind) (sam.refl _)))
theorem pmu_23 {p : Nat} [Pr p] (a b c d e : Fin p) : sam (pmu [a, b] [c, d, e]) [a * c, a * d + b * c, a * e + b * d, b * e] := by
  show sam [a * c + 0, a * d + (b * c + 0), a * e + b * d, b * e] _
  exact sam_cons (by grind) (sam_cons (by grind) (sam_cons (by grind) (sam_cons (by grind) (sam.refl _))))
theorem sam_pmu {p : Nat} [Pr p] {a b c d : Po p} (h : sam a b) (g : sam c d) : sam (pmu a c) (pmu b d) := (pmu_l h c).trans (pmu_r g b)
theorem wos2 {p : Nat} [Pr p] (f : Nat) {w x y z : Po p} {w0 w1 x0 x1 y0 y1 z0 z1 : Fin p} (hw : sam w [w0, w1]) (hx : sam x [x0, x1]) (hy : sam y [y0, y1]) (hz : sam z [z0, z1]) : sam (wosL (f + 2) [[w, x], [y, z]]) [w0 * z0 - x0 * y0, w0 * z1 + w1 * z0 - (x0 * y1 + x1 * y0), w1 * z1 - x1 * y1] := by
  intro k
  have e : wosL (f + 2) [[w, x], [y, z]] = nm (pad (nm (pad [] (psm (sgn 0) (shf 0 (nm (pmu w z)))))) (psm (sgn 1) (shf 0 (nm (pmu x y))))) := rfl
  have h1 := ((sam_pmu hw hz).trans (pmu_22 w0 w1 z0 z1)) k
  have h2 := ((sam_pmu hx hy).trans (pmu_22 x0 x1 y0 y1)) k
  rw [e, nm_sam _ k, co_pad, nm_sam _ k, co_pad, co_nil, co_psm, co_psm, sgn_0, sgn_1, shf_0, shf_0, nm_sam _ k, nm_sam _ k, h1, h2]
  match k with
  | 0 => simp only [co_z]; grind
  | 1 => simp only [co_z, co_s]; grind
  | 2 => simp only [co_z, co_s]; grind
  | k + 3 => simp only [co_s, co_nil]; grind
theorem ent_sam {p n : Nat} [Pr p] (A : Mt p n n) (i j : Fin n) : sam (ent A i j) [- A i j, (m1 : Mt p n n) i j] := nm_sam _
theorem wos_chp {p n : Nat} [Pr p] (hn : n ≤ 2) (A : Mt p (n + 1) (n + 1)) : wosL 6 (entM A) = chp (n + 1) A := by
  match n, hn with
  | 0, _ =>
    show ent A 0 0 = [- A 0 0, 1]
    exact nm_of (chp_nm 1 A) (sam.refl _)
  | 1, _ =>
    have a10 : (m1 : Mt p 2 2) 1 0 = 0 := if_neg (by decide)
    have a01 : (m1 : Mt p 2 2) 0 1 = 0 := if_neg (by decide)
    have a00 : (m1 : Mt p 2 2) 0 0 = 1 := if_pos rfl
    have a11 : (m1 : Mt p 2 2) 1 1 = 1 := if_pos rfl
    have e : wosL 6 (entM A) = wosL (4 + 2) [[ent A 0 0, ent A 0 1], [ent A 1 0, ent A 1 1]] := rfl
    have hs := wos2 4 (ent_sam A 0 0) (ent_sam A 0 1) (ent_sam A 1 0) (ent_sam A 1 1)
    have hN : Nm (wosL 6 (entM A)) := by rw [e]; exact nm_nm _
    refine nm_ext hN (chp_nm 2 A) ((show sam (wosL 6 (entM A)) _ from e ▸ hs).trans ?_)
    show sam _ [dt 2 A, - (A 0 0 + A 1 1), 1]
    rw [a10, a01, a00, a11, dt2]
    exact sam_cons (by grind) (sam_cons (by grind) (sam_cons (by grind) (sam.refl _)))
  | 2, _ =>
    have a10 : (m1 : Mt p 3 3) 1 0 = 0 := if_neg (by decide)
    have a01 : (m1 : Mt p 3 3) 0 1 = 0 := if_neg (by decide)
    have a02 : (m1 : Mt p 3 3) 0 2 = 0 := if_neg (by decide)
    have a12 : (m1 : Mt p 3 3) 1 2 = 0 := if_neg (by decide)
    have a20 : (m1 : Mt p 3 3) 2 0 = 0 := if_neg (by decide)
    have a21 : (m1 : Mt p 3 3) 2 1 = 0 := if_neg (by decide)
    have a00 : (m1 : Mt p 3 3) 0 0 = 1 := if_pos rfl
    have a11 : (m1 : Mt p 3 3) 1 1 = 1 := if_pos rfl
    have a22 : (m1 : Mt p 3 3) 2 2 = 1 := if_pos rfl
    have e : wosL 6 (entM A) = nm (pad (nm (pad (nm (pad [] (psm (sgn 0) (shf 0 (nm (pmu (ent A 0 0) (wosL (3 + 2) [[ent A 1 1, ent A 1 2], [ent A 2 1, ent A 2 2]]))))))) (psm (sgn 1) (shf 0 (nm (pmu (ent A 0 1) (wosL (3 + 2) [[ent A 1 0, ent A 1 2], [ent A 2 0, ent A 2 2]]))))))) (psm (sgn 2) (shf 0 (nm (pmu (ent A 0 2) (wosL (3 + 2) [[ent A 1 0, ent A 1 1], [ent A 2 0, ent A 2 1]])))))) := rfl
    rw [e]
    refine nm_of (chp_nm 3 A) fun k => ?_
    have h0 := ((sam_pmu (ent_sam A 0 0) (wos2 3 (ent_sam A 1 1) (ent_sam A 1 2) (ent_sam A 2 1) (ent_sam A 2 2))).trans (pmu_23 _ _ _ _ _)) k
    have h1 := ((sam_pmu (ent_sam A 0 1) (wos2 3 (ent_sam A 1 0) (ent_sam A 1 2) (ent_sam A 2 0) (ent_sam A 2 2))).trans (pmu_23 _ _ _ _ _)) k
    have h2 := ((sam_pmu (ent_sam A 0 2) (wos2 3 (ent_sam A 1 0) (ent_sam A 1 1) (ent_sam A 2 0) (ent_sam A 2 1))).trans (pmu_23 _ _ _ _ _)) k
    rw [a00] at h0
    rw [a01] at h1
    rw [a02] at h2
    rw [a11, a12, a21, a22] at h0
    rw [a10, a12, a20, a22] at h1
    rw [a10, a11, a20, a21] at h2
    rw [co_pad, nm_sam _ k, co_pad, nm_sam _ k, co_pad, co_nil, co_psm, co_psm, co_psm, sgn_0, sgn_1, sgn_2, shf_0, shf_0, shf_0, nm_sam _ k, nm_sam _ k, nm_sam _ k, h0, h1, h2]
    show _ = co [- dt 3 A, c2 A, - (A 0 0 + A 1 1 + A 2 2), 1] k
    rw [dt3]
    unfold c2
    match k with
    | 0 => simp only [co_z]; grind
    | 1 => simp only [co_z, co_s]; grind
    | 2 => simp only [co_z, co_s]; grind
    | 3 => simp only [co_z, co_s]; grind
    | k + 4 => simp only [co_s, co_nil]; grind
theorem cut_toN (xs : List PyData) (k : Nat) : cutL xs none (some ((k : Nat) : Int)) = xs.take k := cut_to xs k
section
variable {p n : Nat} [Pr p] (A : Mt p (n + 1) (n + 1))
def pwR : PyData := .list ((List.range (n + 2)).map fun k => eR (flat (mp A k)))
end
end Dz

namespace Dz
open PySem (PyData Str sizeLine)
/-- a sum, or None -/
def oP {p : Nat} : Option (Po p) → PyData
  | none => .none
  | some f => eP f
theorem isD_P {p : Nat} (o : Option (Po p)) : isD (oP o) .none = some (.bool o.isNone) := by cases o <;> rfl
theorem isntD_P {p : Nat} (o : Option (Po p)) : isntD (oP o) .none = some (.bool (!o.isNone)) := by cases o <;> rfl
theorem isd_bb (a b : Bool) : isD (.bool a) (.bool b) = some (.bool (decide (a = b))) := rfl
theorem isnt_bb (a b : Bool) : isntD (.bool a) (.bool b) = some (.bool (!decide (a = b))) := rfl
section
variable {p n : Nat} [Pr p] (A B : Mt p (n + 1) (n + 1))
/-- what why_unlike tells -/
structure Wu (o : Option (Po p)) : Prop where
  so : ∀ f, o = some f → lead f = 1 ∧ 2 ≤ f.length ∧ f.length ≤ n + 2 ∧ rkm (ev f A) ≠ rkm (ev f B)
  no : o = none → Al A B
theorem Wu.al {A B : Mt p (n + 1) (n + 1)} {o : Option (Po p)} (hn : n ≤ 2) (h : Wu A B o) : o.isNone = decide (Al A B) := by
  cases o with
  | none => rw [decide_eq_true (h.no rfl)]; rfl
  | some f =>
    have := h.so f rfl
    rw [decide_eq_false fun hA => this.2.2.2 (hA.ev f).rk]
    rfl
end
theorem eqI {p : Nat} [Pr p] (a b : Fin p) : eqD (eI a) (eI b) = some (.bool (decide (a = b))) := (eq_int _ _).trans (by
  congr 2
  exact decide_eq_decide.mpr ⟨fun e => Fin.ext (by omega), fun e => by rw [e]⟩)
theorem len_cc {p r c : Nat} [Pr p] (ps : List (Mt p r r × Mt p c c)) : lenD [ccD ps] = some (eN (CC ps).length) := by
  show some (PyData.int (((CC ps).map fun v => eT (unf v)).length : Nat)) = _
  rw [List.length_map]
section
variable {p n : Nat} [Pr p] (A X : Mt p (n + 1) (n + 1))
theorem rows_x (d : Nat) : ((fr d).map fun k : Fin d => eR (flat (mp A k.val))) ++ [eR (flat X)] = (fr (d + 1)).map fun t : Fin (d + 1) => eR fun q => if t.val < d then flat (mp A t.val) q else flat X q := by
  unfold fr
  rw [List.finRange_succ_last, List.map_append, List.map_map, List.map_cons, List.map_nil]
  refine congr (congrArg _ (List.map_congr_left fun t _ => ?_)) ?_
  · show eR (flat (mp A t.val)) = eR fun q => if t.val < d then flat (mp A t.val) q else flat X q
    refine congrArg eR (funext fun q => ?_)
    rw [if_pos t.isLt]
  · refine congrArg (fun v => [eR v]) (funext fun q => ?_)
    exact (if_neg (Nat.lt_irrefl d)).symm
end
theorem lf_eq {p r c : Nat} [Pr p] (A : Mt p r r) (B : Mt p c c) (X : Mt p r c) : ma (mm A X) (ms (-1) (mm X B)) = lf A B X := by
  funext i j
  show mm A X i j + (-1) * mm X B i j = mm A X i j - mm X B i j
  grind
def prs (r c : Nat) : List (Fin r × Fin c) := (fr r).flatMap fun i => (fr c).map fun j => (i, j)
theorem map_prs {r c : Nat} {β : Type} (f : Fin r → Fin c → β) : ((fr r).flatMap fun i => (fr c).map fun j => f i j) = (prs r c).map fun q => f q.1 q.2 := by
  unfold prs
  rw [List.map_flatMap]
  simp only [List.map_map]
  rfl
theorem prs_len (r c : Nat) : (prs r c).length = r * c := by
  have := len_flat (c := c) (fun (_ : Fin r) (_ : Fin c) => PyData.none) (fr r)
  rw [map_prs, List.length_map, fr_len] at this
  exact this
theorem sum_v1 {p n : Nat} [Pr p] (f : Fin n → Fin p) : modD (.int ((fr n).map fun i => ((f i).val : Int)).sum) (eN p) = some (eI (sm f)) := (mod_ok _).trans (by
  refine congrArg some (congrArg PySem.PyData.int ?_)
  unfold sm
  generalize fr n = xs
  induction xs with
  | nil => rw [List.foldr_nil, zero_val]; simp
  | cons x xs ih => rw [List.map_cons, List.sum_cons, List.foldr_cons, val_add, ← ih, Int.add_emod_emod])
/-- what bars -/
def Br {p r c : Nat} [Pr p] (A : Mt p r r) (B : Mt p c c) (C : Mt p r c) (Y : Mt p c r) : Prop := mm B Y = mm Y A ∧ tr (mm Y C) ≠ 0
instance {p r c : Nat} [Pr p] (A : Mt p r r) (B : Mt p c c) (C : Mt p r c) (Y : Mt p c r) : Decidable (Br A B C Y) := by unfold Br; exact inferInstance
theorem bar_comes {p r c : Nat} [Pr p] {A : Mt p r r} {B : Mt p c c} {C : Mt p r c} : (∃ X, lf A B X = C) ↔ ∀ Y, ¬ Br A B C Y :=
  ⟨fun ⟨X, hX⟩ Y hY => hY.2 (by rw [← hX]; exact no_bar hY.1), fun h => comes fun Y hY => Classical.byContradiction fun hn => h Y ⟨hY, hn⟩⟩
theorem e_carries_nt {p r c k : Nat} [Pr p] (A : Mt p r r) (B : Mt p c c) {d : PyData} (h : Sh k d) (ht : isTab p d = false) : m_carries [eN p, eT A, eT B, d] = some (.bool false) :=
  run_ok (seq_rt ((if_t (or_ok (x := true) (y := true) (not_ok (x := false) (sBf (as_to rfl (e_is_table h p)) ht)) fun z => by cases z)).trans (ret_ok rfl)))
theorem e_carries_len {p r c k : Nat} [Pr p] (A : Mt p r r) (B : Mt p c c) {ds : List PyData} (h : Sh k (.tuple ds)) (hl : ds.length ≠ r) : m_carries [eN p, eT A, eT B, .tuple ds] = some (.bool false) := by
  cases ht : isTab p (.tuple ds) with
  | false => exact e_carries_nt A B h ht
  | true =>
    refine run_ok (seq_rt ((if_t (or_ok (x := false) (y := true) (not_ok (x := true) (sBf (as_to rfl (e_is_table h p)) ht)) fun _ => or_ok (x := true) (y := true) (sBf (s2_to (as_to rfl (len_tup ds)) (as_to rfl (len_T A)) (neN _ _)) ?_) fun z => by cases z)).trans (ret_ok rfl)))
    rw [decide_eq_false hl]
    rfl
theorem isTab_nt (p : Nat) {d : PyData} (h : isT d = false) : isTab p d = false := by cases d <;> first | rfl | cases h
theorem isTab_row (p : Nat) {ds : List PyData} {d : PyData} (hd : d ∈ ds) (h : rowOk d = false) : isTab p (.tuple ds) = false := by
  have : ds.all rowOk = false := by
    rw [List.all_eq_false]
    exact ⟨d, hd, by rw [h]; simp⟩
  show ((decide (1 ≤ ds.length) && decide (ds.length ≤ 3)) && (ds.all rowOk && _)) = false
  rw [this]
  simp
theorem isTab_part (p : Nat) {ds : List PyData} {d x : PyData} (hd : d ∈ ds) (hx : x ∈ tups d) (h : isRest p x = false) : isTab p (.tuple ds) = false := by
  have h1 : (tups d).all (isRest p) = false := by
    rw [List.all_eq_false]
    exact ⟨x, hx, by rw [h]; simp⟩
  have : (ds.all fun r => (tups r).all (isRest p)) = false := by
    rw [List.all_eq_false]
    exact ⟨d, hd, by rw [h1]; simp⟩
  show ((decide (1 ≤ ds.length) && decide (ds.length ≤ 3)) && (ds.all rowOk && (_ && ds.all fun r => (tups r).all (isRest p)))) = false
  rw [this]
  simp
end Dz

namespace Dz
open PySem (PyData Str sizeLine)
theorem neBB (a b : Bool) : neD (.bool a) (.bool b) = some (.bool (a != b)) := by cases a <;> cases b <;> rfl
theorem eqS (a b : String) : eqD (.str (Str.ofString a)) (.str (Str.ofString b)) = some (.bool (decide (Str.ofString a = Str.ofString b))) := by
  rw [eqD_of (sh_str 0 a) (sh_str 0 b) (by decide) (by decide)]
  show some (PySem.PyData.bool (PyData.eqv _ _)) = _
  simp only [PyData.eqv]
  congr 2
theorem ix2_0 (a b : PyData) : ixD (.tuple [a, b]) (.int 0) = some a := rfl
theorem ix2_1 (a b : PyData) : ixD (.tuple [a, b]) (.int 1) = some b := rfl
/-- what was told, as data -/
theorem told_is (d : PyData) (i : Nat) (k : Int) : tldD i k (some d) = .tuple [.str (Str.ofString "told"), d] := rfl
theorem ref_is (i : Nat) : tldD i ((i : Nat) : Int) none = .tuple [.str (Str.ofString "refused"), .bool true] := by
  unfold tldD
  rw [decide_eq_true rfl]
theorem eqS_tt : eqD (.str (Str.ofString "told")) (.str (Str.ofString "told")) = some (.bool true) := (eqS _ _).trans rfl
theorem eqS_rt : eqD (.str (Str.ofString "refused")) (.str (Str.ofString "told")) = some (.bool false) := (eqS _ _).trans (by congr 2)
theorem eqS_tr : eqD (.str (Str.ofString "told")) (.str (Str.ofString "refused")) = some (.bool false) := (eqS _ _).trans (by congr 2)
theorem eqS_rr : eqD (.str (Str.ofString "refused")) (.str (Str.ofString "refused")) = some (.bool true) := (eqS _ _).trans rfl
theorem sh_ref (b : Bool) : Sh 1 (.tuple [.str (Str.ofString "refused"), .bool b]) := sh_tup fun d hd => by
  simp only [List.mem_cons, List.not_mem_nil, or_false] at hd
  rcases hd with rfl | rfl
  · exact sh_str 0 _
  · exact sh_bool _
theorem sh_told {k : Nat} {d : PyData} (h : Sh k d) : Sh (k + 1) (.tuple [.str (Str.ofString "told"), d]) := sh_tup fun e he => by
  simp only [List.mem_cons, List.not_mem_nil, or_false] at he
  rcases he with rfl | rfl
  · exact sh_str k _
  · exact h
theorem ne_ref : neD (.tuple [.str (Str.ofString "refused"), .bool true]) (.tuple [.str (Str.ofString "refused"), .bool true]) = some (.bool false) := neD_self (sh_ref true) (by decide)
theorem sh_S (l : List Nat) (h : ∀ c ∈ l, c < 1000) : Sh 0 (.str (SX.S l)) := by
  refine ⟨?_, by simp [PyData.depth]⟩
  simp only [PyData.canLay0]
  unfold PyData.strOk
  rw [Array.all_eq_true]
  intro i hi
  have := h _ (List.getElem_mem (by simpa using hi : i < l.length))
  refine decide_eq_true ?_
  show l.toArray[i] < _
  rw [List.getElem_toArray]
  omega
theorem strL_map : ∀ ys : List Str, strL (ys.map PyData.str) = some ys
  | [] => rfl
  | y :: ys => by
    show (some y).bind (fun x => (strL (ys.map PyData.str)).bind fun xs => some (x :: xs)) = _
    rw [strL_map ys]
    rfl
theorem sum_le {k : Nat} : ∀ {ys : List Str}, (∀ y ∈ ys, y.length ≤ k) → (ys.map (·.length)).sum ≤ ys.length * k
  | [], _ => Nat.zero_le _
  | y :: ys, h => by
    have h1 := h y List.mem_cons_self
    have h2 := sum_le (k := k) (ys := ys) fun z hz => h z (List.mem_cons_of_mem _ hz)
    rw [List.map_cons, List.sum_cons, List.length_cons, Nat.succ_mul]
    omega
theorem join_ok {fa : En → Option PyData} {fl : En → Option (List PyData)} {env : En} {a : List Nat} {ls : List (List Nat)} {k : Nat} (ha : fa env = some (.str (SX.S a))) (hl : fl env = some (ls.map fun l => .str (SX.S l))) (hk : ∀ l ∈ ls, l.length ≤ k) (hz : ls.length * k + ls.length * a.length ≤ 16777216) : sJoin fa fl env = some (.str (SX.S (TL.joinL a ls))) := by
  unfold sJoin
  rw [ha, Option.bind_some]
  show (some (SX.S a)).bind (fun a => (fl env).bind fun ds => (strL ds).bind fun ys => jnS a ys) = _
  rw [Option.bind_some, hl, Option.bind_some]
  have e : (ls.map fun l => PyData.str (SX.S l)) = (ls.map SX.S).map PyData.str := by rw [List.map_map]; rfl
  rw [e, strL_map, Option.bind_some]
  have h1 : ((ls.map SX.S).map (·.length)).sum ≤ ls.length * k := by
    have := sum_le (k := k) (ys := ls.map SX.S) fun y hy => by
      obtain ⟨l, hl, rfl⟩ := List.mem_map.mp hy
      rw [SX.S_len]; exact hk l hl
    rw [List.length_map] at this
    exact this
  unfold jnS
  rw [if_pos (by rw [List.length_map, SX.S_len]; omega), SX.join_S]
theorem str_fig {p : Nat} [Pr p] (x : Fin p) : strD [eI x] = some (.str (SX.S [48 + x.val])) := by
  have lp := Pr.le (p := p)
  have hx := x.isLt
  have h : (((x.val : Nat) : Int)).natAbs.log2 < 1920 := by
    rw [Int.natAbs_natCast]
    rcases (by omega : x.val = 0 ∨ x.val = 1 ∨ x.val = 2 ∨ x.val = 3 ∨ x.val = 4) with e | e | e | e | e <;> rw [e] <;> decide
  show (if (((x.val : Nat) : Int)).natAbs.log2 < 1920 then some (PyData.str (Str.ofString (toString ((x.val : Nat) : Int)))) else none) = _
  rw [if_pos h, dig_txt x.val (by omega)]
theorem row_text {p n : Nat} [Pr p] {fl : En → Option (List PyData)} {fa : En → Option PyData} {env : En} (v : Fin n → Fin p) (hn : n ≤ 100) (ha : fa env = some (.str (SX.S []))) (hl : fl env = some ((fr n).map fun j => .str (SX.S [48 + (v j).val]))) : sJoin fa fl env = some (.str (SX.S (rowC v))) := by
  have e : ((fr n).map fun j => PyData.str (SX.S [48 + (v j).val])) = ((rowC v).map fun c => [c]).map fun l => PyData.str (SX.S l) := by
    unfold rowC
    rw [List.map_map, List.map_map]
    rfl
  have h := join_ok (k := 1) ha (hl.trans (by rw [e])) (fun l hl => by
    obtain ⟨c, _, rfl⟩ := List.mem_map.mp hl
    exact Nat.le_refl _) (by rw [List.length_map, row_len, List.length_nil]; omega)
  rw [joinL_ones] at h
  exact h
theorem e_table_text {p r c : Nat} [Pr p] (A : Mt p r c) (hr : r ≤ 100) (hc : c ≤ 100) : m_table_text [eT A] = some (.str (SX.S (tabC A))) := by
  have h2 : table_text_c2 [.dat (eT A), .un, .un] = some (((fr r).map fun i => rowC (A i)).map fun l => .str (SX.S l)) := by
    rw [List.map_map]
    refine sLc_map (h := fun i => eR (A i)) (q_to rfl rfl) (by rw [fr_len]; omega) fun i _ => ?_
    refine lcB_ok (env2 := [.dat (eT A), .dat (eR (A i)), .un]) rfl rfl (row_text (A i) hc rfl ?_)
    refine sLc_map (h := fun j => eI (A i j)) (q_to rfl rfl) (by rw [fr_len]; omega) fun j _ => ?_
    exact lcB_ok rfl rfl (as_to rfl (str_fig _))
  have hlen : ∀ l ∈ (fr r).map (fun i => rowC (A i)), l.length ≤ 100 := fun l hl => by
    obtain ⟨i, _, rfl⟩ := List.mem_map.mp hl
    rw [row_len]; exact hc
  refine run_ok (ret_ok (join_ok (a := [47]) (k := 100) rfl h2 hlen ?_))
  rw [List.length_map, fr_len]
  show r * 100 + r * 1 ≤ _
  omega
theorem int_fig (c : Nat) (g1 : c ∈ figs) (g2 : c ≠ 47) : intS [.str ⟨#[c]⟩] = some (fig c) := by
  show (if (⟨#[c]⟩ : Str).length ≤ 640 then (PySem.intText? (⟨#[c]⟩ : Str)).bind fun n => some (PyData.int n) else none) = _
  refine (if_pos (show 1 ≤ 640 by decide)).trans ?_
  rw [fig_txt c g1 g2]
  rfl
theorem e_read_table {p : Nat} [Pr p] (l : List Nat) (hl : l.length ≤ 600) : m_read_table [.str (SX.S l), eN p] = some (rd p l) := by
  have hfig : ∀ env : En, s2 addD (sC (.str "01234")) (sC (.str "/")) env = some (.str (SX.S figs)) := fun _ => rfl
  have h1 : ∀ x2 x3 x4 : Sl, read_table_c1 [.dat (.str (SX.S l)), .dat (eN p), x2, x3, x4] = some (l.map fun c => .bool (decide (c ∈ figs))) := fun x2 x3 x4 => by
    refine sLc_map (h := fun c => .str ⟨#[c]⟩) (bd_ok rfl) (by omega) fun c _ => ?_
    exact lcB_ok rfl rfl (s2_to rfl (hfig _) rfl)
  have hstr : ∀ x2 x3 x4 : Sl, sNot (sB (s1 (isiD "str") (sVar 0))) [.dat (.str (SX.S l)), .dat (eN p), x2, x3, x4] = some false := fun _ _ _ => rfl
  refine (runx_ok (n := 3) (r := (rd p l).map .rt) ?_).trans (by cases rd p l <;> rfl)
  show xIf _ _ [.dat (.str (SX.S l)), .dat (eN p), .un, .un, .un] = _
  have hall := all_ok (h1 .un .un .un)
  cases hok : okSig l with
  | false =>
    have : rd p l = none := by unfold rd; rw [hok]; rfl
    rw [this]
    exact xif_t (or_ok (x := false) (y := true) (hstr _ _ _) fun _ => not_ok (sBf hall hok))
  | true =>
    refine xif_f (nor (hstr _ _ _) (not_ok (x := true) (sBf hall hok))) ?_
    have hin : ∀ part ∈ sp l, ∀ c ∈ part, c ∈ figs ∧ c ≠ 47 := fun part hp c hc => by
      rcases spl_mem l [] part hp c hc with w | w
      · cases w
      · exact ⟨of_decide_eq_true (List.all_eq_true.mp hok c w.1), w.2⟩
    have hlen : (sp l).length ≤ l.length + 1 := spl_len l []
    have h2 : ∀ row ∈ sp l, read_table_c2 [.dat (.str (SX.S l)), .dat (eN p), .un, .un, .dat (.str (SX.S row))] = some (row.map fig) := fun row hrow => by
      have := spl_part_len l [] row hrow
      rw [List.length_nil] at this
      refine sLc_map (h := fun c => .str ⟨#[c]⟩) (bd_ok rfl) (by omega) fun c hc => ?_
      refine lcB_ok (env2 := [.dat (.str (SX.S l)), .dat (eN p), .un, .dat (.str ⟨#[c]⟩), .dat (.str (SX.S row))]) rfl rfl (as_to rfl ?_)
      obtain ⟨g1, g2⟩ := hin row hrow c hc
      exact int_fig c g1 g2
    have h3 : read_table_c3 [.dat (.str (SX.S l)), .dat (eN p), .un, .un, .un] = some ((sp l).map fun row => .tuple (row.map fig)) := by
      have hsp : sQ (sLst (sSplit (sVar 0) (sC (.str "/")))) [.dat (.str (SX.S l)), .dat (eN p), .un, .un, .un] = some ((sp l).map fun row => .str (SX.S row)) := by
        refine q_to (lst_ok (ds := (sp l).map fun row => .str (SX.S row)) ?_) rfl
        show spS (SX.S l) (SX.S [47]) = _
        unfold spS
        rw [if_pos ⟨rfl, by rw [SX.S_len]; exact (show l.length + 2 ≤ 16777216 by omega)⟩, SX.split_S (by simp) (by decide), List.map_map]
        rfl
      refine sLc_map (h := fun row => .str (SX.S row)) hsp (by omega) fun row hrow => ?_
      exact lcB_ok rfl rfl (as_to (h2 row hrow) rfl)
    refine xseq_to (env1 := [.dat (.str (SX.S l)), .dat (eN p), .dat (rdT l), .un, .un]) (set_ok (as_to h3 rfl)) ?_
    have ht := e_is_table (sh_rdT l) p
    cases hi : isTab p (rdT l) with
    | false =>
      have : rd p l = none := by unfold rd; rw [hok, hi]; rfl
      rw [this]
      exact xif_t (not_ok (x := false) (sBf (as_to rfl ht) hi))
    | true =>
      have : rd p l = some (rdT l) := by unfold rd; rw [hok, hi]; rfl
      rw [this]
      refine xif_f (not_ok (x := true) (sBf (as_to rfl ht) hi)) ?_
      exact xok_to (ret_ok rfl)
theorem len_S (l : List Nat) (h : l.length ≤ 16777216) : lenD [.str (SX.S l)] = some (eN l.length) := by
  show (if (SX.S l).length ≤ sizeLine then some (PyData.int (((SX.S l).length : Nat) : Int)) else none) = _
  rw [if_pos (by rw [SX.S_len]; exact h), SX.S_len]
theorem ne_flt (ds : List PyData) (h : ∀ x ∈ ds, Sh 0 x) : neD (.list ds) (.list []) = some (.bool (!ds.isEmpty)) := by
  rw [neD_of (k := 1) (j := 1) (sh_lst h) (sh_lst (k := 0) fun x hx => by cases hx) (by decide) (by decide)]
  cases ds <;> rfl
theorem flt_emp {α : Type} (f : α → PyData) (b : α → Bool) (xs : List α) : (!((xs.filter b).map f).isEmpty) = !(xs.all fun x => !b x) := by
  congr 1
  rw [Bool.eq_iff_iff, List.isEmpty_iff, List.map_eq_nil_iff, List.filter_eq_nil_iff, List.all_eq_true]
  exact forall₂_congr fun x _ => by cases b x <;> simp
theorem tk_S {p : Nat} [Pr p] {f : En → Option PyData} {env : En} (hf : f env = some (eN p)) : sSl (sC (.str "01234")) sNo (sSo f) env = some (.str (SX.S ([48, 49, 50, 51, 52].take p))) := by
  refine (sl_ok' (d := .str (SX.S [48, 49, 50, 51, 52])) (lo := none) (hi := some ((p : Nat) : Int)) rfl rfl (so_ok hf)).trans ?_
  show (if (SX.S [48, 49, 50, 51, 52]).length ≤ sizeLine then some (PyData.str (L2.cutS (SX.S [48, 49, 50, 51, 52]) none (some ((p : Nat) : Int)))) else none) = _
  refine (if_pos (show 5 ≤ 16777216 by decide)).trans ?_
  rw [C8.cutS_slice, SX.slice_to (by omega), Int.toNat_natCast]
/-- small signs -/
def Sm (l : List Nat) : Prop := ∀ c ∈ l, c < 1000
theorem sl_S (l : List Nat) (hl : l.length ≤ 10000) (lo hi : Option Int) : ∃ q : List Nat, slD (.str (SX.S l)) lo hi = some (.str (SX.S q)) ∧ q.length ≤ l.length ∧ ∀ c ∈ q, c ∈ l := by
  refine ⟨(l.drop (HT.sIx (SX.S l).length 0 lo)).take (HT.sIx (SX.S l).length (SX.S l).length hi - HT.sIx (SX.S l).length 0 lo), ?_, ?_, fun c hc => List.mem_of_mem_drop (List.mem_of_mem_take hc)⟩
  · show (if (SX.S l).length ≤ sizeLine then some (PyData.str (L2.cutS (SX.S l) lo hi)) else none) = _
    rw [if_pos (by rw [SX.S_len]; exact (show l.length ≤ 16777216 by omega))]
    rfl
  · rw [List.length_take, List.length_drop]; omega
theorem rev_S (l : List Nat) (hl : l.length ≤ 10000) : ∃ q : List Nat, revS (.str (SX.S l)) = some (.str (SX.S q)) ∧ q.length ≤ l.length ∧ ∀ c ∈ q, c ∈ l := by
  have hb : (bkS (SX.S l)).length ≤ l.length := by
    show (((PySem.Builtin.Str.strSliceIndices none none (-1) (SX.S l).length).filterMap ((SX.S l).cps[·]?)).toArray).size ≤ _
    rw [List.size_toArray]
    refine Nat.le_trans (List.length_filterMap_le _ _) (Nat.le_trans (PySem.sliceIndicesBy_le none none (-1) (by decide) _) ?_)
    rw [SX.S_len]
    exact Nat.le_refl _
  refine ⟨(PySem.Builtin.Str.strSliceIndices none none (-1) (SX.S l).length).filterMap ((SX.S l).cps[·]?), ?_, ?_, fun c hc => ?_⟩
  · show (if (bkS (SX.S l)).length ≤ sizeLine then some (PyData.str (bkS (SX.S l))) else none) = _
    exact (if_pos (show (bkS (SX.S l)).length ≤ 16777216 by omega)).trans rfl
  · have e : (bkS (SX.S l)).length = ((PySem.Builtin.Str.strSliceIndices none none (-1) (SX.S l).length).filterMap ((SX.S l).cps[·]?)).length := by
      show (((PySem.Builtin.Str.strSliceIndices none none (-1) (SX.S l).length).filterMap ((SX.S l).cps[·]?)).toArray).size = _
      rw [List.size_toArray]
    omega
  · obtain ⟨i, _, hi⟩ := List.mem_filterMap.mp hc
    have : (SX.S l).cps[i]? = some c := hi
    rw [show (SX.S l).cps = l.toArray from rfl, List.getElem?_toArray] at this
    exact List.mem_of_getElem? this
theorem add_S (a b : List Nat) (h : a.length + b.length ≤ 100000) : addD (.str (SX.S a)) (.str (SX.S b)) = some (.str (SX.S (a ++ b))) := by
  show (if (SX.S a).length + (SX.S b).length ≤ sizeLine then some (PyData.str (SX.S a ++ SX.S b)) else none) = _
  rw [if_pos (by rw [SX.S_len, SX.S_len]; exact (show a.length + b.length ≤ 16777216 by omega)), SX.S_cat]
def sgn14 : List Nat := [48, 49, 50, 51, 52, 53, 54, 55, 56, 57, 47, 32, 97, 45]
theorem sgn_at (k : Nat) (h : k < 14) : ∃ c, c < 1000 ∧ ixD (.str "0123456789/ a-") (eN k) = some (.str (SX.S [c])) := by
  have hs : sgn14.length = 14 := rfl
  have hg : sgn14[k]? = some (sgn14[k]'(by omega)) := List.getElem?_eq_getElem (by omega)
  refine ⟨sgn14[k]'(by omega), ?_, ?_⟩
  · have : ∀ c ∈ sgn14, c < 1000 := by decide
    exact this _ (List.getElem_mem _)
  · show (if (SX.S sgn14).length ≤ sizeLine then (L2.atI sgn14 ((k : Nat) : Int)).bind fun c => some (PyData.str ⟨#[c]⟩) else none) = _
    refine (if_pos (show 14 ≤ 16777216 by decide)).trans ?_
    have : L2.atI sgn14 ((k : Nat) : Int) = some (sgn14[k]'(by omega)) := by
      show (L2.ixN 14 ((k : Nat) : Int)).bind (fun j => sgn14[j]?) = _
      rw [ixN_nat h, Option.bind_some]
      exact hg
    rw [this]
    rfl
end Dz

namespace Dz
open PySem (PyData Str sizeLine)
theorem told_ne {d : PyData} {k : Nat} (h : Sh k d) (hk : k ≤ 60) (b : Bool) : eqD (.tuple [.str (Str.ofString "told"), d]) (.tuple [.str (Str.ofString "refused"), .bool b]) = some (.bool false) := by
  rw [eqD_of (sh_told h) (sh_ref b) (by omega) (by decide)]
  have : (PyData.eqv (.str (Str.ofString "told")) (.str (Str.ofString "refused"))) = false := by
    simp only [PyData.eqv]
    decide
  show some (PyData.bool (PyData.eqv (.str (Str.ofString "told")) (.str (Str.ofString "refused")) && (PyData.eqv d (.bool b) && true))) = _
  rw [this]
  rfl
theorem ref_tf : eqD (.tuple [.str (Str.ofString "refused"), .bool true]) (.tuple [.str (Str.ofString "refused"), .bool false]) = some (.bool false) := by
  rw [eqD_of (sh_ref true) (sh_ref false) (by decide) (by decide)]
  show some (PyData.bool (PyData.eqv (.str (Str.ofString "refused")) (.str (Str.ofString "refused")) && (PyData.eqv (.bool true) (.bool false) && true))) = _
  rw [show PyData.eqv (.bool true) (.bool false) = false from rfl, Bool.false_and, Bool.and_false]
theorem ref_tt : eqD (.tuple [.str (Str.ofString "refused"), .bool true]) (.tuple [.str (Str.ofString "refused"), .bool true]) = some (.bool true) := eqD_self (sh_ref true) (by decide)
theorem neS (a b : List Nat) (ha : ∀ c ∈ a, c < 1000) (hb : ∀ c ∈ b, c < 1000) (h : a ≠ b) : neD (.str (SX.S a)) (.str (SX.S b)) = some (.bool true) := by
  rw [neD_of (sh_S a ha) (sh_S b hb) (by decide) (by decide)]
  simp only [PyData.eqv]
  refine congrArg (fun x => some (PyData.bool (!x))) (beq_eq_false_iff_ne.mpr fun e => h ?_)
  have e2 : (SX.S a).cps = (SX.S b).cps := congrArg Str.cps e
  exact congrArg Array.toList e2
theorem spl_end : ∀ l acc : List Nat, TL.spl [47] 0 acc (l ++ [47]) = TL.spl [47] 0 acc l ++ [[]]
  | [], acc => by rw [List.nil_append, spl_cons, if_pos rfl, TL.spl_nil, TL.spl_nil]; rfl
  | c :: r, acc => by
    rw [List.cons_append, spl_cons, spl_cons]
    by_cases h : c = 47
    · rw [if_pos h, if_pos h, spl_end r []]; rfl
    · rw [if_neg h, if_neg h, spl_end r _]
theorem rd_bad {p : Nat} {l : List Nat} (h : okSig l = false) : rd p l = none := by unfold rd; rw [h]; rfl
theorem bad_mem {l : List Nat} (c : Nat) (h : c ∈ l) (hc : c ∉ figs) : okSig l = false := by
  refine Bool.eq_false_iff.mpr fun e => hc ?_
  exact of_decide_eq_true (List.all_eq_true.mp e c h)
theorem rd_nil {p : Nat} [Pr p] : rd p [] = none := by
  rw [rd_due]
  exact if_neg (by rw [show dueA (sp []) = false from rfl]; simp)
theorem rd_end {p r c : Nat} [Pr p] (X : Mt p (r + 1) (c + 1)) : rd p (tabC X ++ [47]) = none := by
  rw [rd_due]
  refine if_neg fun h => ?_
  have hb := (Bool.and_eq_true_iff.mp (Bool.and_eq_true_iff.mp h).2).1
  have hs : sp (tabC X ++ [47]) = (fr (r + 1)).map (fun i => rowC (X i)) ++ [[]] := (spl_end _ _).trans (by rw [show TL.spl [47] 0 [] (tabC X) = _ from sp_tab (by omega) X])
  have h0 := of_decide_eq_true (List.all_eq_true.mp hb [] (by rw [hs]; simp))
  have e : (fr (r + 1)).map (fun i => rowC (X i)) = rowC (X 0) :: (fr r).map fun i => rowC (X i.succ) := by
    rw [show fr (r + 1) = 0 :: (fr r).map Fin.succ from List.finRange_succ, List.map_cons, List.map_map]; rfl
  rw [hs, e] at h0
  have : (rowC (X 0)).length = c + 1 := row_len _
  have h1 : ([] : List Nat).length = (rowC (X 0)).length := h0
  rw [this] at h1
  cases h1
theorem text_turn {p r c : Nat} [Pr p] (T : PySem.Addr) (hr : r ≤ 2) (hc : c ≤ 2) (d0 d1 d3 d4 d5 d6 d8 d10 : PyData) (X : Mt p (r + 1) (c + 1)) (l : List Nat) (hl : l.length ≤ 600) (hs : Sm l) (hx : l = tabC X ∨ rd p l = none) :
    turn (gN 12) (law_b3 T) [9, 12] (.str (SX.S l)) [.dat (d0), .dat (d1), .dat (eN p), .dat (d3), .dat (d4), .dat (d5), .dat (d6), .dat (eT X), .dat (d8), .un, .dat (d10), .un, .un, .un, .tab T] = some (.nx [.dat (d0), .dat (d1), .dat (eN p), .dat (d3), .dat (d4), .dat (d5), .dat (d6), .dat (eT X), .dat (d8), .un, .dat (d10), .un, .un, .un, .tab T]) := by
  have hsm : Sm (tabC X) := fun c hc => by
    have := of_decide_eq_true (List.all_eq_true.mp (tab_ok X) c hc)
    simp only [figs, List.mem_cons, List.not_mem_nil, or_false] at this
    omega
  have htx := e_table_text X (show r + 1 ≤ 100 by omega) (show c + 1 ≤ 100 by omega)
  have hrd : rd p (tabC X) = some (eT X) := by
    have h2 : isTab p (eT X) = true := isTab_T (X := X) hr hc
    unfold rd
    rw [tab_ok X, rdT_tab (by omega) X, h2]
    rfl
  by_cases h : l = tabC X
  · subst h
    refine turn_to (env1 := [.dat (d0), .dat (d1), .dat (eN p), .dat (d3), .dat (d4), .dat (d5), .dat (d6), .dat (eT X), .dat (d8), .un, .dat (d10), .un, .dat (.str (SX.S (tabC X))), .un, .tab T]) (env2 := [.dat (d0), .dat (d1), .dat (eN p), .dat (d3), .dat (d4), .dat (d5), .dat (d6), .dat (eT X), .dat (d8), .dat (.tuple [.str (Str.ofString "told"), eT X]), .dat (d10), .un, .dat (.str (SX.S (tabC X))), .un, .tab T]) rfl ?_ rfl
    refine seq_to (set_ok ((told_to rfl (cons_ok rfl (cons_ok rfl nil_ok)) (e_read_table (tabC X) hl)).trans (by rw [hrd]))) ?_
    refine no_to (nor ((and_ok (x := true) (y := false) (sB_ok (s2_to (s2_to rfl rfl (ix2_0 _ _)) rfl eqS_tt)) fun _ => sBf (s2_to (as_to (cons_ok (s2_to rfl rfl (ix2_1 _ _)) nil_ok) htx) rfl (neD_self (sh_S _ hsm) (by decide))) rfl).trans rfl) (sBf (s2_to rfl (tup_ok (cons_ok rfl (cons_ok rfl nil_ok)) (show 2 ≤ 16777216 by decide)) (told_ne (sh_T X) (by decide) false)) rfl)) ?_
    exact no_nx (sBf (s2_to (s2_to (s2_to rfl rfl (ix2_0 _ _)) rfl eqS_tr) (s2_to rfl (as_to rfl htx) (neD_self (sh_S _ hsm) (by decide))) (neBB _ _)) rfl)
  · have hx : rd p l = none := hx.resolve_left h
    refine turn_to (env1 := [.dat (d0), .dat (d1), .dat (eN p), .dat (d3), .dat (d4), .dat (d5), .dat (d6), .dat (eT X), .dat (d8), .un, .dat (d10), .un, .dat (.str (SX.S l)), .un, .tab T]) (env2 := [.dat (d0), .dat (d1), .dat (eN p), .dat (d3), .dat (d4), .dat (d5), .dat (d6), .dat (eT X), .dat (d8), .dat (.tuple [.str (Str.ofString "refused"), .bool true]), .dat (d10), .un, .dat (.str (SX.S l)), .un, .tab T]) rfl ?_ rfl
    refine seq_to (set_ok ((told_to rfl (cons_ok rfl (cons_ok rfl nil_ok)) (e_read_table l hl)).trans ((by rw [hx] : some (tldD 2 ((2 : Nat) : Int) (rd p l)) = some (tldD 2 ((2 : Nat) : Int) none)).trans (congrArg some (ref_is 2))))) ?_
    refine no_to (nor ((and_ok (x := false) (y := false) (sB_ok (s2_to (s2_to rfl rfl (ix2_0 _ _)) rfl eqS_rt)) fun e => by cases e).trans rfl) (sBf (s2_to rfl (tup_ok (cons_ok rfl (cons_ok rfl nil_ok)) (show 2 ≤ 16777216 by decide)) ref_tf) rfl)) ?_
    exact no_nx (sBf (s2_to (s2_to (s2_to rfl rfl (ix2_0 _ _)) rfl eqS_rr) (s2_to rfl (as_to rfl htx) (neS _ _ hs hsm h)) (neBB _ _)) rfl)
theorem place_turn {p r c : Nat} [Pr p] (T : PySem.Addr) (hr : r ≤ 2) (hc : c ≤ 2) (d0 d1 d3 d4 d7 d8 : PyData) (A : Mt p (r + 1) (r + 1)) (B : Mt p (c + 1) (c + 1)) (i : Int) :
    turn (gN 11) (law_b2 T) [9, 11] (.int i) [.dat (d0), .dat (d1), .dat (eN p), .dat (d3), .dat (d4), .dat (eT A), .dat (eT B), .dat (d7), .dat (d8), .un, .dat (eN (p ^ (C1 A B).length)), .un, .un, .un, .tab T] = some (.nx [.dat (d0), .dat (d1), .dat (eN p), .dat (d3), .dat (d4), .dat (eT A), .dat (eT B), .dat (d7), .dat (d8), .un, .dat (eN (p ^ (C1 A B).length)), .un, .un, .un, .tab T]) := by
  have hch : ∀ env : En, sVar 11 env = some (.int i) → sVar 10 env = some (eN (p ^ (C1 A B).length)) → sChain leD ltD (sC (.int 0)) (sVar 11) (sVar 10) env = some (.bool (decide ((0 : Int) ≤ i ∧ i < ((p ^ (C1 A B).length : Nat) : Int)))) := fun env h1 h2 => (sChain_ok (k := decide ((0 : Int) ≤ i)) (l := decide (i < ((p ^ (C1 A B).length : Nat) : Int))) (cN 0) h1 h2 rfl rfl).trans (by rw [Bool.decide_and])
  by_cases h : (0 : Int) ≤ i ∧ i < ((p ^ (C1 A B).length : Nat) : Int)
  · obtain ⟨m, rfl⟩ := Int.eq_ofNat_of_zero_le h.1
    have hm : m < p ^ (C1 A B).length := by have := h.2; omega
    obtain ⟨z, hz, hd⟩ := dig_sur (cc_rr [(A, B)]).rf m
    rw [Nat.mod_eq_of_lt hm] at hd
    rw [← flat_unf z] at hz hd
    generalize unf z = Z at hz hd
    have hat : m_carrier_at [eN p, eT A, eT B, eN m] = some (some (eT Z)) := (e_carrier_at A B m hr hc hm).trans (by
      have := und_ok (cc_rr [(A, B)]).rf hz
      rw [hd] at this
      rw [this])
    have hZ : mm A Z = mm Z B := (c1_spn A B Z).mp hz
    have hpl := e_place_of A B Z hr hc hZ
    rw [hd] at hpl
    refine turn_to (env1 := [.dat (d0), .dat (d1), .dat (eN p), .dat (d3), .dat (d4), .dat (eT A), .dat (eT B), .dat (d7), .dat (d8), .un, .dat (eN (p ^ (C1 A B).length)), .dat (eN m), .un, .un, .tab T]) (env2 := [.dat (d0), .dat (d1), .dat (eN p), .dat (d3), .dat (d4), .dat (eT A), .dat (eT B), .dat (d7), .dat (d8), .dat (.tuple [.str (Str.ofString "told"), eT Z]), .dat (eN (p ^ (C1 A B).length)), .dat (eN m), .un, .un, .tab T]) rfl ?_ rfl
    refine seq_to (set_ok (told_to rfl (cons_ok rfl (cons_ok rfl (cons_ok rfl (cons_ok rfl nil_ok)))) hat)) ?_
    refine no_to (nor (sBf (s2_to (s2_to (s2_to rfl rfl (ix2_0 _ _)) rfl eqS_tt) (hch _ rfl rfl) (neBB _ _)) (by rw [decide_eq_true h]; rfl)) (sBf (s2_to rfl (tup_ok (cons_ok rfl (cons_ok rfl nil_ok)) (show 2 ≤ 16777216 by decide)) (told_ne (sh_T Z) (by decide) false)) rfl)) ?_
    exact no_nx ((and_ok (x := true) (y := false) (sB_ok (s2_to (s2_to rfl rfl (ix2_0 _ _)) rfl eqS_tt)) fun _ => sBf (s2_to (as_to (cons_ok rfl (cons_ok rfl (cons_ok rfl (cons_ok (s2_to rfl rfl (ix2_1 _ _)) nil_ok)))) (mOk_ok hpl)) rfl (neN_self _)) rfl).trans rfl)
  · refine turn_to (env1 := [.dat (d0), .dat (d1), .dat (eN p), .dat (d3), .dat (d4), .dat (eT A), .dat (eT B), .dat (d7), .dat (d8), .un, .dat (eN (p ^ (C1 A B).length)), .dat (.int i), .un, .un, .tab T]) (env2 := [.dat (d0), .dat (d1), .dat (eN p), .dat (d3), .dat (d4), .dat (eT A), .dat (eT B), .dat (d7), .dat (d8), .dat (.tuple [.str (Str.ofString "refused"), .bool true]), .dat (eN (p ^ (C1 A B).length)), .dat (.int i), .un, .un, .tab T]) rfl ?_ rfl
    refine seq_to (set_ok ((told_to rfl (cons_ok rfl (cons_ok rfl (cons_ok rfl (cons_ok rfl nil_ok)))) (e_carrier_no A B i hr hc h)).trans (congrArg some (ref_is 1)))) ?_
    refine no_to (nor (sBf (s2_to (s2_to (s2_to rfl rfl (ix2_0 _ _)) rfl eqS_rt) (hch _ rfl rfl) (neBB _ _)) (by rw [decide_eq_false h]; rfl)) (sBf (s2_to rfl (tup_ok (cons_ok rfl (cons_ok rfl nil_ok)) (show 2 ≤ 16777216 by decide)) ref_tf) rfl)) ?_
    exact no_nx ((and_ok (x := false) (y := false) (sB_ok (s2_to (s2_to rfl rfl (ix2_0 _ _)) rfl eqS_rt)) fun e => by cases e).trans rfl)
theorem whole_turn {p s t : Nat} [Pr p] (T : PySem.Addr) (hs : s ≤ 2) (ht : t ≤ 2) (d0 d1 d4 : PyData) (A : Mt p (s + 1) (s + 1)) (B : Mt p (t + 1) (t + 1)) (X : Mt p (s + 1) (t + 1)) (d8 : PyData) :
    turn (gN 8) (law_b4 T) [8, 9, 10, 11, 12] d8 [.dat (d0), .dat (d1), .dat (eN p), .dat (eN (s + 1)), .dat (d4), .dat (eT A), .dat (eT B), .dat (eT X), .un, .un, .un, .un, .un, .un, .tab T] = some (.nx [.dat (d0), .dat (d1), .dat (eN p), .dat (eN (s + 1)), .dat (d4), .dat (eT A), .dat (eT B), .dat (eT X), .un, .un, .un, .un, .un, .un, .tab T]) := by
  have lp := Pr.le (p := p)
  have hst : (s + 1) * (t + 1) ≤ 9 := Nat.mul_le_mul (show s + 1 ≤ 3 by omega) (show t + 1 ≤ 3 by omega)
  have hcn : (C1 A B).length ≤ (s + 1) * (t + 1) := cc_n [(A, B)]
  have hpw : p ^ (C1 A B).length ≤ 5 ^ 9 := Nat.le_trans (Nat.pow_le_pow_left (by omega) _) (Nat.pow_le_pow_right (by decide) (by omega))
  have hp1 : 1 ≤ p ^ (C1 A B).length := Nat.pos_of_ne_zero (by have : 0 < p ^ (C1 A B).length := Nat.pow_pos (by omega); omega)
  have hw : m_worth 6 [eN p, eT A] = some (eI (dt (s + 1) A)) := e_worth 6 s A (by omega) (by omega)
  have hrk : m_rank [eN p, eT A] = some (eN (rkm A)) := e_rank A (by omega) (by omega) (by omega)
  have hd := rk_dt (p := p) (A := A) (show 1 ≤ s + 1 by omega) (show s + 1 ≤ 3 by omega)
  have hle := rkm_r A
  have hsm : Sm (tabC X) := fun c hc => by
    have := of_decide_eq_true (List.all_eq_true.mp (tab_ok X) c hc)
    simp only [figs, List.mem_cons, List.not_mem_nil, or_false] at this
    omega
  have hlen : (tabC X).length ≤ 12 := Nat.le_trans (tab_len X) (Nat.mul_le_mul (show s + 1 ≤ 3 by omega) (show t + 1 + 1 ≤ 4 by omega))
  have htx := e_table_text X (show s + 1 ≤ 100 by omega) (show t + 1 ≤ 100 by omega)
  refine turn_to (env1 := [.dat (d0), .dat (d1), .dat (eN p), .dat (eN (s + 1)), .dat (d4), .dat (eT A), .dat (eT B), .dat (eT X), .dat (d8), .un, .un, .un, .un, .un, .tab T]) (env2 := [.dat (d0), .dat (d1), .dat (eN p), .dat (eN (s + 1)), .dat (d4), .dat (eT A), .dat (eT B), .dat (eT X), .dat (d8), .un, .dat (eN (p ^ (C1 A B).length)), .un, .un, .un, .tab T]) rfl ?_ rfl
  obtain ⟨g, hg, hge⟩ : ∃ g, m_undone [eN p, eT A] = some g ∧ eqD (tldD 0 0 g) (.tuple [.str (Str.ofString "refused"), .bool true]) = some (.bool (decide (rkm A < s + 1))) := by
    by_cases h : rkm A = s + 1
    · obtain ⟨M, h1, h2⟩ := un_iff.mp h
      exact ⟨_, e_undone (by omega) (by omega) h1, (told_ne (sh_T M) (by decide) true).trans (by rw [decide_eq_false (by omega)])⟩
    · refine ⟨none, e_undone_no (by omega) (by omega) h, ?_⟩
      rw [decide_eq_true (show rkm A < s + 1 by omega)]
      exact (congrArg (fun d => eqD d _) (ref_is 0)).trans ref_tt
  refine seq_to (env1 := [.dat (d0), .dat (d1), .dat (eN p), .dat (eN (s + 1)), .dat (d4), .dat (eT A), .dat (eT B), .dat (eT X), .dat (d8), .dat (tldD 0 0 g), .un, .un, .un, .un, .tab T]) (set_ok (told_to rfl (cons_ok rfl (cons_ok rfl nil_ok)) hg)) ?_
  refine no_to (nor (sBf (s2_to (s2_to rfl (tup_ok (cons_ok rfl (cons_ok rfl nil_ok)) (show 2 ≤ 16777216 by decide)) hge) (s2_to (as_to rfl hrk) rfl (ltN _ _)) (neBB _ _)) (by cases decide (rkm A < s + 1) <;> rfl)) (sBf (s2_to (s2_to (as_to rfl hrk) rfl (ltN _ _)) (s2_to (as_to rfl hw) rfl (eq_0 _)) (neBB _ _)) ?_)) ?_
  · by_cases h : rkm A = s + 1
    · rw [decide_eq_false (by omega), decide_eq_false (hd.mp h)]; rfl
    · rw [decide_eq_true (by omega), decide_eq_true (Decidable.byContradiction fun z => h (hd.mpr z))]; rfl
  refine seq_to (env1 := [.dat (d0), .dat (d1), .dat (eN p), .dat (eN (s + 1)), .dat (d4), .dat (eT A), .dat (eT B), .dat (eT X), .dat (d8), .dat (tldD 0 0 g), .dat (eN (p ^ (C1 A B).length)), .un, .un, .un, .tab T]) (set_ok (as_to rfl (e_many_carriers A B hs ht))) ?_
  generalize hM : p ^ (C1 A B).length = M at *
  refine seq_to (env1 := [.dat (d0), .dat (d1), .dat (eN p), .dat (eN (s + 1)), .dat (d4), .dat (eT A), .dat (eT B), .dat (eT X), .dat (d8), .un, .dat (eN M), .un, .un, .un, .tab T]) (gFor_nx (fun i : Int => .int i) [0, ((M - 1 : Nat) : Int), (M : Int), -1, ((M + 7 : Nat) : Int)] (q_to (tup_ok (cons_ok rfl (cons_ok (s2_to rfl (cN 1) (subN _ _ hp1)) (cons_ok rfl (cons_ok rfl (cons_ok (s2_to rfl (cN 7) (addN _ _)) nil_ok))))) (show 5 ≤ 16777216 by decide)) rfl) rfl fun i _ => by
    subst hM
    exact place_turn T hs ht _ _ _ _ _ _ A B i) ?_
  obtain ⟨q, hq, hq1, hq2⟩ : ∃ q, m_place_of [eN p, eT A, eT B, eT X] = some q ∧ eqD (tldD 1 1 q) (.tuple [.str (Str.ofString "refused"), .bool true]) = some (.bool (!decide (mm A X = mm X B))) ∧ eqD (tldD 1 1 q) (.tuple [.str (Str.ofString "refused"), .bool false]) = some (.bool false) := by
    by_cases h : mm A X = mm X B
    · refine ⟨_, e_place_of A B X hs ht h, ?_, told_ne (sh_int _ : Sh 0 _) (by decide) false⟩
      rw [decide_eq_true h]
      exact told_ne (sh_int _ : Sh 0 _) (by decide) true
    · refine ⟨none, e_place_no A B X hs ht h, ?_, (congrArg (fun d => eqD d _) (ref_is 1)).trans ref_tf⟩
      rw [decide_eq_false h]
      exact (congrArg (fun d => eqD d _) (ref_is 1)).trans ref_tt
  refine seq_to (env1 := [.dat (d0), .dat (d1), .dat (eN p), .dat (eN (s + 1)), .dat (d4), .dat (eT A), .dat (eT B), .dat (eT X), .dat (d8), .dat (tldD 1 1 q), .dat (eN M), .un, .un, .un, .tab T]) (set_ok (told_to rfl (cons_ok rfl (cons_ok rfl (cons_ok rfl (cons_ok rfl nil_ok)))) hq)) ?_
  refine no_to (nor (sBf (s2_to (s2_to rfl (tup_ok (cons_ok rfl (cons_ok rfl nil_ok)) (show 2 ≤ 16777216 by decide)) hq1) (sNotV_ok (as_to rfl (e_carries A B X hs ht))) (neBB _ _)) (by cases decide (mm A X = mm X B) <;> rfl)) (sBf (s2_to rfl (tup_ok (cons_ok rfl (cons_ok rfl nil_ok)) (show 2 ≤ 16777216 by decide)) hq2) rfl)) ?_
  obtain ⟨v, hv, hv1, hv2⟩ := rev_S (tabC X) (by omega)
  have ht0 : ∀ env : En, sVar 7 env = some (eT X) → sAs m_table_text (sCons (sVar 7) sNil) env = some (.str (SX.S (tabC X))) := fun env h => as_to (cons_ok h nil_ok) htx
  refine gFor_nx (fun l : List Nat => .str (SX.S l)) [tabC X, tabC X ++ [47], [], [57], [48, 32, 49], v ++ [120]] (q_to (tup_ok (cons_ok (ht0 _ rfl) (cons_ok (s2_to (ht0 _ rfl) rfl (add_S (tabC X) [47] (by simp; omega))) (cons_ok rfl (cons_ok rfl (cons_ok rfl (cons_ok (s2_to (s1_to (ht0 _ rfl) hv) rfl (add_S v [120] (by simp; omega))) nil_ok)))))) (show 6 ≤ 16777216 by decide)) rfl) rfl fun l hl => ?_
  have hb : (l.length ≤ 600 ∧ Sm l) ∧ (l = tabC X ∨ rd p l = none) := by
    simp only [List.mem_cons, List.not_mem_nil, or_false] at hl
    rcases hl with rfl | rfl | rfl | rfl | rfl | rfl
    · exact ⟨⟨by omega, hsm⟩, .inl rfl⟩
    · refine ⟨⟨by simp; omega, fun c hc => ?_⟩, .inr (rd_end X)⟩
      rcases List.mem_append.mp hc with w | w
      · exact hsm c w
      · rw [List.mem_singleton.mp w]; decide
    · exact ⟨⟨by decide, fun c hc => by cases hc⟩, .inr rd_nil⟩
    · exact ⟨⟨by decide, (by decide : ∀ c ∈ [57], c < 1000)⟩, .inr (rd_bad (bad_mem 57 (by decide) (by decide)))⟩
    · exact ⟨⟨by decide, (by decide : ∀ c ∈ [48, 32, 49], c < 1000)⟩, .inr (rd_bad (bad_mem 32 (by decide) (by decide)))⟩
    · refine ⟨⟨by simp; omega, fun c hc => ?_⟩, .inr (rd_bad (bad_mem 120 (by simp) (by decide)))⟩
      rcases List.mem_append.mp hc with w | w
      · exact hsm c (hv2 c w)
      · rw [List.mem_singleton.mp w]; decide
  exact text_turn T hs ht _ _ _ _ _ _ _ _ X l hb.1.1 hb.1.2 hb.2
theorem law_c1_ok (T : PySem.Addr) (n : Nat) {e0 e2 e3 e4 e5 e6 e7 e8 e9 e10 e11 e12 e13 e14 : Sl} : law_c1 T [e0, .dat (eN n), e2, e3, e4, e5, e6, e7, e8, e9, e10, e11, e12, e13, e14] = some [eN (n / 16 % 3 + 1), eN (n / 64 % 3 + 1)] := by
  let g : Fin 2 → Nat := fun k => if k = 0 then 16 else 64
  refine (sLc_map (h := fun k : Fin 2 => .int (k.val : Int)) (k := fun k => eN (n / g k % 3 + 1)) (xs := fr 2) (ar_to (cons_ok (cN 2) rfl) (rg1_ok (n := 2) (by decide))) (by rw [fr_len]; omega) fun k _ => ?_).trans rfl
  refine lcB_ok rfl rfl (s2_to (cN 1) (s2_to (s2_to rfl (s2_to rfl rfl (z := eN (g k)) ?_) (divN _ _ ?_ ?_)) (cN 3) (modN _ _ (by decide))) ((addN _ _).trans ?_))
  · match k with
    | ⟨0, _⟩ => rfl
    | ⟨1, _⟩ => rfl
  · match k with
    | ⟨0, _⟩ => exact (by decide : (0 : Nat) < 16)
    | ⟨1, _⟩ => exact (by decide : (0 : Nat) < 64)
  · match k with
    | ⟨0, _⟩ => exact (by decide : (16 : Nat) < 1073741824)
    | ⟨1, _⟩ => exact (by decide : (64 : Nat) < 1073741824)
  · rw [Nat.add_comm]
theorem law_true : ∀ (T : PySem.Addr) (ns : List Int), ns.length ≤ 63 → m_law T [scrD ns] = some (.bool true) := by
  intro T ns _
  have hm := mx_lt ns
  generalize hn : mx ns 0 = n
  generalize hs : n / 16 % 3 = s
  generalize ht : n / 64 % 3 = t
  have ls : s ≤ 2 := by omega
  have lt' : t ≤ 2 := by omega
  have hp : Pr (byN n) := inferInstance
  have hby := e_by n
  generalize byN n = p at hp hby
  have lp := Pr.le (p := p)
  have h1 := hm 1
  have h2 := hm 2
  have h3 := hm 3
  generalize hA : tab p (mx ns 1) (s + 1) (s + 1) = A
  generalize hB : tab p (mx ns 2) (t + 1) (t + 1) = B
  generalize hX : tab p (mx ns 3) (s + 1) (t + 1) = X
  apply runT_ok
  apply seq_to
  · exact set_ok (as_to (cons_ok rfl (cons_ok (cN 0) rfl)) ((e_mixed ns 0 (by decide)).trans (by rw [hn])))
  simp only [List.set_cons_succ, List.set_cons_zero, List.map_cons, List.map_nil, List.replicate, List.cons_append, List.nil_append]
  apply seq_to
  · exact set_ok (as_to (cons_ok rfl rfl) hby)
  simp only [List.set_cons_succ, List.set_cons_zero, List.map_cons, List.map_nil, List.replicate, List.cons_append, List.nil_append]
  apply seq_to
  · exact asg_to (lst_ok ((law_c1_ok T n).trans (by rw [hs, ht]))) rfl
  simp only [List.set_cons_succ, List.set_cons_zero, List.map_cons, List.map_nil, List.replicate, List.cons_append, List.nil_append]
  apply seq_to
  · exact set_ok (d := eT A) (as_to (cons_ok (as_to (cons_ok rfl (cons_ok (cN 1) rfl)) (e_mixed ns 1 (by decide))) (cons_ok rfl (cons_ok rfl (cons_ok rfl rfl)))) ((e_table (p := p) (mx ns 1) (s + 1) (s + 1) (by omega) (by omega) (by omega)).trans (by rw [hA])))
  simp only [List.set_cons_succ, List.set_cons_zero, List.map_cons, List.map_nil, List.replicate, List.cons_append, List.nil_append]
  apply seq_to
  · exact set_ok (d := eT B) (as_to (cons_ok (as_to (cons_ok rfl (cons_ok (cN 2) rfl)) (e_mixed ns 2 (by decide))) (cons_ok rfl (cons_ok rfl (cons_ok rfl rfl)))) ((e_table (p := p) (mx ns 2) (t + 1) (t + 1) (by omega) (by omega) (by omega)).trans (by rw [hB])))
  simp only [List.set_cons_succ, List.set_cons_zero, List.map_cons, List.map_nil, List.replicate, List.cons_append, List.nil_append]
  apply seq_to
  · exact set_ok (d := eT X) (as_to (cons_ok (as_to (cons_ok rfl (cons_ok (cN 3) rfl)) (e_mixed ns 3 (by decide))) (cons_ok rfl (cons_ok rfl (cons_ok rfl rfl)))) ((e_table (p := p) (mx ns 3) (s + 1) (t + 1) (by omega) (by omega) (by omega)).trans (by rw [hX])))
  simp only [List.set_cons_succ, List.set_cons_zero, List.map_cons, List.map_nil, List.replicate, List.cons_append, List.nil_append]
  refine seq_to (gFor_nx (env1 := [.dat (scrD ns), .dat (eN n), .dat (eN p), .dat (eN (s + 1)), .dat (eN (t + 1)), .dat (eT A), .dat (eT B), .dat (eT X), .un, .un, .un, .un, .un, .un, .tab T]) (fun k : Fin 2 => .int (k.val : Int)) (fr 2) (ar_to (cons_ok (cN 2) rfl) (rg1_ok (n := 2) (by decide))) rfl fun k _ => whole_turn T ls lt' _ _ _ A B X _) ?_
  exact ret_ok rfl
end Dz

/-! the walks, printed by gen.py -/
namespace Dz
open PySem PySem.Spec PyProof.Rows L2 Evl RZ
def topS (i : Nat) : Stmt := PySem.Challenge.pw_carrytables_k90_whole_refusals.main.body.getD i (.Pass ⟨0, 0, 0, 0⟩)
section
variable {P : Program} {w : World} {K : PySem.W.Frag} {mg : Str → Option Value} {base : Heap}
theorem sc_is_rest : FnScope ["thing", "by"] ["thing", "by"] (C8.fnScope (topS 7)) := C8.fnScope_by (by decide +kernel)
theorem w_is_rest {f : Addr} {fd : FuncData} (F : C8.Def K mg "is_rest" (topS 7) f fd) (b : Binds K fd ["thing", "by"] []) (Z : Bl mg) : FnOk P w K mg base C8.CX0 1 f fd ["thing", "by"] (spD 2 m_is_rest K) := by
  refine fn_d (g := b_is_rest) (n := 0) F.fn sc_is_rest rfl (fun cdv A outer s H E hr => by
    have nd := sc_is_rest.nd
    exact (dss_one (ds_ret (ed_and (ed_isi kit_int (fun h => pe_callB call_isi (by rfl) Z.isinstance (by decide +kernel) h) (ed_var (pv 0)) (pe_bltn (v := .ty "int") (by rfl) Z.int (by decide +kernel) rfl)) (ed_and (ed_not (ed_isi kit_bool (fun h => pe_callB call_isi (by rfl) Z.isinstance (by decide +kernel) h) (ed_var (pv 0)) (pe_bltn (v := .ty "bool") (by rfl) Z.bool (by decide +kernel) rfl))) (ed_one (ed_chain op_le op_lt d_cmp d_cmp ed_int (ed_var (pv 0)) (ed_var (pv 1)))))))))
theorem sc_is_table : FnScope ["thing", "by", "row", "part"] ["thing", "by"] (C8.fnScope (topS 8)) := C8.fnScope_by (by decide +kernel)
theorem w_is_table {f : Addr} {fd : FuncData} (F : C8.Def K mg "is_table" (topS 8) f fd) (b : Binds K fd ["thing", "by"] []) (Z : Bl mg) {tk_MOST_SIZE : Tok} (c_MOST_SIZE : mg "MOST_SIZE" = some (.int 3 tk_MOST_SIZE)) (c_is_rest : C8.Cal P w K mg base 1 "is_rest" (spD 2 m_is_rest K) []) : FnOk P w K mg base C8.CX0 2 f fd ["thing", "by"] (spD 2 m_is_table K) := by
  refine fn_d (g := b_is_table) (n := 2) F.fn sc_is_table rfl (fun cdv A outer s H E hr => by
    have nd := sc_is_table.nd
    exact (dss_cons (ds_if ((dw_or (dt_not (dt_e (ed_isi kit_tuple (fun h => pe_callB call_isi (by rfl) Z.isinstance (by decide +kernel) h) (ed_var (pv 0)) (pe_bltn (v := .ty "tuple") (by rfl) Z.tuple (by decide +kernel) rfl)))) (dw_or1 (dt_not (dt_chain op_le op_le d_cmp d_cmp ed_int (ed_cb (fun h => pe_callB call_lenA (by rfl) Z.len PySem.boot_len h) d_len (da_cons (ed_var (pv 0)) da_nil)) (ed_gi (by rfl) c_MOST_SIZE)))))).dt (dss_one (ds_ret ed_bl)) dss_nil) (dss_cons (ds_if (dt_not (dt_e (ed_cbL (fun h => pe_callB (cr_all rfl) (by rfl) Z.all (by decide +kernel) h) d_allL ((en_lc (own := [("row", 2)]) rfl nd (di_seq (ed_var (pv 0))).c (blkOk_by (by kernel_rfl)) (fun _ _ _ _ _ => (dg_name (pg_name nd (by rfl) (by first | exact Or.inl rfl | exact Or.inr rfl)))) (fun _ _ _ _ _ => dts_nil) (fun _ _ _ _ _ => (ed_and (ed_isi kit_tuple (fun h => pe_callB call_isi (by rfl) Z.isinstance (by decide +kernel) h) (ed_var (pv 2)) (pe_bltn (v := .ty "tuple") (by rfl) Z.tuple (by decide +kernel) rfl)) (ed_one (ed_chain op_le op_le d_cmp d_cmp ed_int (ed_cb (fun h => pe_callB call_lenA (by rfl) Z.len PySem.boot_len h) d_len (da_cons (ed_var (pv 2)) da_nil)) (ed_gi (by rfl) c_MOST_SIZE))))) (by decide))).el))) (dss_one (ds_ret ed_bl)) dss_nil) (dss_cons (ds_if (dt_not (dt_e (ed_cbL (fun h => pe_callB (cr_all rfl) (by rfl) Z.all (by decide +kernel) h) d_allL ((en_lc (own := [("row", 2)]) rfl nd (di_seq (ed_var (pv 0))).c (blkOk_by (by kernel_rfl)) (fun _ _ _ _ _ => (dg_name (pg_name nd (by rfl) (by first | exact Or.inl rfl | exact Or.inr rfl)))) (fun _ _ _ _ _ => dts_nil) (fun _ _ _ _ _ => (ed_cmp (op_eqD (room64 hr)) d_eq (ed_cb (fun h => pe_callB call_lenA (by rfl) Z.len PySem.boot_len h) d_len (da_cons (ed_var (pv 2)) da_nil)) (ed_cb (fun h => pe_callB call_lenA (by rfl) Z.len PySem.boot_len h) d_len (da_cons (ed_ix (ed_var (pv 0)) ed_int (fun _ _ => rfl)) da_nil)) (nomark _))) (by decide))).el))) (dss_one (ds_ret ed_bl)) dss_nil) (dss_one (ds_ret (ed_cbL (fun h => pe_callB (cr_all rfl) (by rfl) Z.all (by decide +kernel) h) d_allL ((en_lc (own := [("row", 2)]) rfl nd (di_seq (ed_var (pv 0))).c (blkOk_by (by kernel_rfl)) (fun _ _ _ _ _ => (dg_name (pg_name nd (by rfl) (by first | exact Or.inl rfl | exact Or.inr rfl)))) (fun _ _ _ _ _ => dts_nil) (fun _ _ _ _ _ => (ed_cbL (fun h => pe_callB (cr_all rfl) (by rfl) Z.all (by decide +kernel) h) d_allL ((en_lc (own := [("part", 3)]) rfl nd (di_seq (ed_var (pv 2))).c (blkOk_by (by kernel_rfl)) (fun _ _ _ _ _ => (dg_name (pg_name nd (by rfl) (by first | exact Or.inl rfl | exact Or.inr rfl)))) (fun _ _ _ _ _ => dts_nil) (fun _ _ _ _ _ => (ed_call c_is_rest hr (by decide) (by rfl) (da_cons (ed_var (pv 3)) (da_cons (ed_var (pv 1)) da_nil)) (sl_cons (sl_cons sl_nil)))) (by decide))).el)) (by decide))).el)))))))
theorem sc_plus : FnScope ["by", "one", "other", "found", "row", "its", "here", "there"] ["by", "one", "other"] (C8.fnScope (topS 9)) := C8.fnScope_by (by decide +kernel)
theorem w_plus {f : Addr} {fd : FuncData} (F : C8.Def K mg "plus" (topS 9) f fd) (b : Binds K fd ["by", "one", "other"] []) (Z : Bl mg) : FnOk P w K mg base C8.CX0 1 f fd ["by", "one", "other"] (spD 3 m_plus K) := by
  refine fn_d (g := b_plus) (n := 5) F.fn sc_plus rfl (fun cdv A outer s H E hr => by
    have nd := sc_plus.nd
    exact (dss_cons (ds_setN (en_lst da_nil) (fun h => ps_set (i := 3) nd (by rfl) (by first | exact Or.inl rfl | exact Or.inr rfl) h)) (dss_cons (ds_for [4, 5] PassesOwn.never rfl (di_zip (by rfl) Z.zip (da_cons (ed_var (pv 1)) (da_cons (ed_var (pv 2)) da_nil))) (dg_tup rfl (dgs_cons (dg_name (pg_name nd (by rfl) (by first | exact Or.inl rfl | exact Or.inr rfl))) (dgs_cons (dg_name (pg_name nd (by rfl) (by first | exact Or.inl rfl | exact Or.inr rfl))) dgs_nil)) (gl_cons (gl_cons gl_nil))) (dss_one (ds_app (ed_cbL (fun h => pe_callTy call_tuple_of (by rfl) Z.tuple PyProof.Rows.boot_tuple h) d_tupL ((en_lc (own := [("here", 6), ("there", 7)]) rfl nd (di_zip (by rfl) Z.zip (da_cons (ed_var (pv 4)) (da_cons (ed_var (pv 5)) da_nil))).c (blkOk_by (by kernel_rfl)) (fun _ _ _ _ _ => (dg_tup rfl (dgs_cons (dg_name (pg_name nd (by rfl) (by first | exact Or.inl rfl | exact Or.inr rfl))) (dgs_cons (dg_name (pg_name nd (by rfl) (by first | exact Or.inl rfl | exact Or.inr rfl))) dgs_nil)) (gl_cons (gl_cons gl_nil)))) (fun _ _ _ _ _ => dts_nil) (fun _ _ _ _ _ => (ed_op op_mod d_mod (ed_op op_addA d_add (ed_var (pv 6)) (ed_var (pv 7))) (ed_var (pv 0)))) (by decide))).el) (fun h => ps_expr (pe_bm PySem.F.plainAttrs_list PySem.F.slot_list_append PySem.F.type_list_append mt_append (pv 3) (pa_cons h pa_nil)))))) (dss_one (ds_ret (ed_cbL (fun h => pe_callTy call_tuple_of (by rfl) Z.tuple PyProof.Rows.boot_tuple h) d_tupL (el_var (pv 3))))))))
theorem sc_scaled : FnScope ["by", "number", "table", "row", "part"] ["by", "number", "table"] (C8.fnScope (topS 10)) := C8.fnScope_by (by decide +kernel)
theorem w_scaled {f : Addr} {fd : FuncData} (F : C8.Def K mg "scaled" (topS 10) f fd) (b : Binds K fd ["by", "number", "table"] []) (Z : Bl mg) : FnOk P w K mg base C8.CX0 1 f fd ["by", "number", "table"] (spD 3 m_scaled K) := by
  refine fn_d (g := b_scaled) (n := 2) F.fn sc_scaled rfl (fun cdv A outer s H E hr => by
    have nd := sc_scaled.nd
    exact (dss_one (ds_ret (ed_cbL (fun h => pe_callTy call_tuple_of (by rfl) Z.tuple PyProof.Rows.boot_tuple h) d_tupL ((en_lc (own := [("row", 3)]) rfl nd (di_seq (ed_var (pv 2))).c (blkOk_by (by kernel_rfl)) (fun _ _ _ _ _ => (dg_name (pg_name nd (by rfl) (by first | exact Or.inl rfl | exact Or.inr rfl)))) (fun _ _ _ _ _ => dts_nil) (fun _ _ _ _ _ => (ed_cbL (fun h => pe_callTy call_tuple_of (by rfl) Z.tuple PyProof.Rows.boot_tuple h) d_tupL ((en_lc (own := [("part", 4)]) rfl nd (di_seq (ed_var (pv 3))).c (blkOk_by (by kernel_rfl)) (fun _ _ _ _ _ => (dg_name (pg_name nd (by rfl) (by first | exact Or.inl rfl | exact Or.inr rfl)))) (fun _ _ _ _ _ => dts_nil) (fun _ _ _ _ _ => (ed_op op_mod d_mod (ed_op op_mulA d_mul (ed_var (pv 1)) (ed_var (pv 4))) (ed_var (pv 0)))) (by decide))).el)) (by decide))).el))))
theorem sc_turned : FnScope ["table", "at", "row"] ["table"] (C8.fnScope (topS 11)) := C8.fnScope_by (by decide +kernel)
theorem w_turned {f : Addr} {fd : FuncData} (F : C8.Def K mg "turned" (topS 11) f fd) (b : Binds K fd ["table"] []) (Z : Bl mg) : FnOk P w K mg base C8.CX0 1 f fd ["table"] (spD 1 m_turned K) := by
  refine fn_d (g := b_turned) (n := 2) F.fn sc_turned rfl (fun cdv A outer s H E hr => by
    have nd := sc_turned.nd
    exact (dss_one (ds_ret (ed_cbL (fun h => pe_callTy call_tuple_of (by rfl) Z.tuple PyProof.Rows.boot_tuple h) d_tupL ((en_lc (own := [("at", 1)]) rfl nd (di_rg1 (by rfl) Z.range (da_cons (ed_cb (fun h => pe_callB call_lenA (by rfl) Z.len PySem.boot_len h) d_len (da_cons (ed_ix (ed_var (pv 0)) ed_int (fun _ _ => rfl)) da_nil)) da_nil)).c (blkOk_by (by kernel_rfl)) (fun _ _ _ _ _ => (dg_name (pg_name nd (by rfl) (by first | exact Or.inl rfl | exact Or.inr rfl)))) (fun _ _ _ _ _ => dts_nil) (fun _ _ _ _ _ => (ed_cbL (fun h => pe_callTy call_tuple_of (by rfl) Z.tuple PyProof.Rows.boot_tuple h) d_tupL ((en_lc (own := [("row", 2)]) rfl nd (di_seq (ed_var (pv 0))).c (blkOk_by (by kernel_rfl)) (fun _ _ _ _ _ => (dg_name (pg_name nd (by rfl) (by first | exact Or.inl rfl | exact Or.inr rfl)))) (fun _ _ _ _ _ => dts_nil) (fun _ _ _ _ _ => (ed_ix (ed_var (pv 2)) (ed_var (pv 1)) (fun _ _ => rfl))) (by decide))).el)) (by decide))).el))))
theorem sc_times : FnScope ["by", "one", "other", "columns", "found", "row", "column", "here", "there"] ["by", "one", "other"] (C8.fnScope (topS 12)) := C8.fnScope_by (by decide +kernel)
theorem w_times {f : Addr} {fd : FuncData} (F : C8.Def K mg "times" (topS 12) f fd) (b : Binds K fd ["by", "one", "other"] []) (Z : Bl mg) (c_turned : C8.Cal P w K mg base 1 "turned" (spD 1 m_turned K) []) : FnOk P w K mg base C8.CX0 2 f fd ["by", "one", "other"] (spD 3 m_times K) := by
  refine fn_d (g := b_times) (n := 6) F.fn sc_times rfl (fun cdv A outer s H E hr => by
    have nd := sc_times.nd
    exact (dss_cons (ds_set (ed_call c_turned hr (by decide) (by rfl) (da_cons (ed_var (pv 2)) da_nil) (sl_cons sl_nil)) (fun h => ps_set (i := 3) nd (by rfl) (by first | exact Or.inl rfl | exact Or.inr rfl) h)) (dss_cons (ds_setN (en_lst da_nil) (fun h => ps_set (i := 4) nd (by rfl) (by first | exact Or.inl rfl | exact Or.inr rfl) h)) (dss_cons (ds_for [5] PassesOwn.never rfl (di_seq (ed_var (pv 1))) (dg_name (pg_name nd (by rfl) (by first | exact Or.inl rfl | exact Or.inr rfl))) (dss_one (ds_app (ed_cbL (fun h => pe_callTy call_tuple_of (by rfl) Z.tuple PyProof.Rows.boot_tuple h) d_tupL ((en_lc (own := [("column", 6)]) rfl nd (di_seq (ed_var (pv 3))).c (blkOk_by (by kernel_rfl)) (fun _ _ _ _ _ => (dg_name (pg_name nd (by rfl) (by first | exact Or.inl rfl | exact Or.inr rfl)))) (fun _ _ _ _ _ => dts_nil) (fun _ _ _ _ _ => (ed_op op_mod d_mod (ed_cbL (fun h => pe_callB (cr_sum rfl) (by rfl) Z.sum PyProof.Rows.boot_sum h) d_sumL ((en_lc (own := [("here", 7), ("there", 8)]) rfl nd (di_zip (by rfl) Z.zip (da_cons (ed_var (pv 5)) (da_cons (ed_var (pv 6)) da_nil))).c (blkOk_by (by kernel_rfl)) (fun _ _ _ _ _ => (dg_tup rfl (dgs_cons (dg_name (pg_name nd (by rfl) (by first | exact Or.inl rfl | exact Or.inr rfl))) (dgs_cons (dg_name (pg_name nd (by rfl) (by first | exact Or.inl rfl | exact Or.inr rfl))) dgs_nil)) (gl_cons (gl_cons gl_nil)))) (fun _ _ _ _ _ => dts_nil) (fun _ _ _ _ _ => (ed_op op_mulA d_mul (ed_var (pv 7)) (ed_var (pv 8)))) (by decide))).el) (ed_var (pv 0)))) (by decide))).el) (fun h => ps_expr (pe_bm PySem.F.plainAttrs_list PySem.F.slot_list_append PySem.F.type_list_append mt_append (pv 4) (pa_cons h pa_nil)))))) (dss_one (ds_ret (ed_cbL (fun h => pe_callTy call_tuple_of (by rfl) Z.tuple PyProof.Rows.boot_tuple h) d_tupL (el_var (pv 4)))))))))
theorem sc_unit : FnScope ["size", "row", "at"] ["size"] (C8.fnScope (topS 13)) := C8.fnScope_by (by decide +kernel)
theorem w_unit {f : Addr} {fd : FuncData} (F : C8.Def K mg "unit" (topS 13) f fd) (b : Binds K fd ["size"] []) (Z : Bl mg) : FnOk P w K mg base C8.CX0 1 f fd ["size"] (spD 1 m_unit K) := by
  refine fn_d (g := b_unit) (n := 2) F.fn sc_unit rfl (fun cdv A outer s H E hr => by
    have nd := sc_unit.nd
    exact (dss_one (ds_ret (ed_cbL (fun h => pe_callTy call_tuple_of (by rfl) Z.tuple PyProof.Rows.boot_tuple h) d_tupL ((en_lc (own := [("row", 1)]) rfl nd (di_rg1 (by rfl) Z.range (da_cons (ed_var (pv 0)) da_nil)).c (blkOk_by (by kernel_rfl)) (fun _ _ _ _ _ => (dg_name (pg_name nd (by rfl) (by first | exact Or.inl rfl | exact Or.inr rfl)))) (fun _ _ _ _ _ => dts_nil) (fun _ _ _ _ _ => (ed_cbL (fun h => pe_callTy call_tuple_of (by rfl) Z.tuple PyProof.Rows.boot_tuple h) d_tupL ((en_lc (own := [("at", 2)]) rfl nd (di_rg1 (by rfl) Z.range (da_cons (ed_var (pv 0)) da_nil)).c (blkOk_by (by kernel_rfl)) (fun _ _ _ _ _ => (dg_name (pg_name nd (by rfl) (by first | exact Or.inl rfl | exact Or.inr rfl)))) (fun _ _ _ _ _ => dts_nil) (fun _ _ _ _ _ => (ed_cb (fun h => pe_callTy call_int1 (by rfl) Z.int (by decide +kernel) h) d_int (da_cons (ed_cmp (op_eqD (room64 hr)) d_eq (ed_var (pv 1)) (ed_var (pv 2)) (nomark _)) da_nil))) (by decide))).el)) (by decide))).el))))
theorem sc_inverse : FnScope ["by", "number", "other"] ["by", "number"] (C8.fnScope (topS 15)) := C8.fnScope_by (by decide +kernel)
theorem w_inverse {f : Addr} {fd : FuncData} (F : C8.Def K mg "inverse" (topS 15) f fd) (b : Binds K fd ["by", "number"] []) (Z : Bl mg) : FnOk P w K mg base C8.CX0 1 f fd ["by", "number"] (spD 2 m_inverse K) := by
  refine fn_d (g := b_inverse) (n := 1) F.fn sc_inverse rfl (fun cdv A outer s H E hr => by
    have nd := sc_inverse.nd
    exact (dss_one (ds_ret (ed_ix ((en_lc (own := [("other", 2)]) rfl nd (di_rg2 (by rfl) Z.range (da_cons ed_int (da_cons (ed_var (pv 0)) da_nil))).c (blkOk_by (by kernel_rfl)) (fun _ _ _ _ _ => (dg_name (pg_name nd (by rfl) (by first | exact Or.inl rfl | exact Or.inr rfl)))) (fun _ _ _ _ _ => (dts_one (dt_cmp (op_eqD (room64 hr)) d_eq (ed_op op_mod d_mod (ed_op op_mulA d_mul (ed_var (pv 1)) (ed_var (pv 2))) (ed_var (pv 0))) ed_int (nomark _)))) (fun _ _ _ _ _ => (ed_var (pv 2))) (by decide))).ed ed_int (fun _ _ => rfl)))))
theorem sc_less : FnScope ["by", "row", "often", "other", "here", "there"] ["by", "row", "often", "other"] (C8.fnScope (topS 16)) := C8.fnScope_by (by decide +kernel)
theorem w_less {f : Addr} {fd : FuncData} (F : C8.Def K mg "less" (topS 16) f fd) (b : Binds K fd ["by", "row", "often", "other"] []) (Z : Bl mg) : FnOk P w K mg base C8.CX0 1 f fd ["by", "row", "often", "other"] (spD 4 m_less K) := by
  refine fn_d (g := b_less) (n := 2) F.fn sc_less rfl (fun cdv A outer s H E hr => by
    have nd := sc_less.nd
    exact (dss_one (ds_ret (ed_cbL (fun h => pe_callTy call_tuple_of (by rfl) Z.tuple PyProof.Rows.boot_tuple h) d_tupL ((en_lc (own := [("here", 4), ("there", 5)]) rfl nd (di_zip (by rfl) Z.zip (da_cons (ed_var (pv 1)) (da_cons (ed_var (pv 3)) da_nil))).c (blkOk_by (by kernel_rfl)) (fun _ _ _ _ _ => (dg_tup rfl (dgs_cons (dg_name (pg_name nd (by rfl) (by first | exact Or.inl rfl | exact Or.inr rfl))) (dgs_cons (dg_name (pg_name nd (by rfl) (by first | exact Or.inl rfl | exact Or.inr rfl))) dgs_nil)) (gl_cons (gl_cons gl_nil)))) (fun _ _ _ _ _ => dts_nil) (fun _ _ _ _ _ => (ed_op op_mod d_mod (ed_op op_sub d_sub (ed_var (pv 4)) (ed_op op_mulA d_mul (ed_var (pv 2)) (ed_var (pv 5)))) (ed_var (pv 0)))) (by decide))).el))))
theorem sc_first_of : FnScope ["row", "at", "part"] ["row"] (C8.fnScope (topS 17)) := C8.fnScope_by (by decide +kernel)
theorem w_first_of {f : Addr} {fd : FuncData} (F : C8.Def K mg "first_of" (topS 17) f fd) (b : Binds K fd ["row"] []) (Z : Bl mg) : FnOk P w K mg base C8.CX0 1 f fd ["row"] (spD 1 m_first_of K) := by
  refine fn_d (g := b_first_of) (n := 2) F.fn sc_first_of rfl (fun cdv A outer s H E hr => by
    have nd := sc_first_of.nd
    exact (dss_cons (ds_for [1, 2] PassesOwn.never rfl (di_enu (by rfl) Z.enumerate (da_cons (ed_var (pv 0)) da_nil)) (dg_tup rfl (dgs_cons (dg_name (pg_name nd (by rfl) (by first | exact Or.inl rfl | exact Or.inr rfl))) (dgs_cons (dg_name (pg_name nd (by rfl) (by first | exact Or.inl rfl | exact Or.inr rfl))) dgs_nil)) (gl_cons (gl_cons gl_nil))) (dss_one (ds_if (dt_cmp (op_neD (room64 hr)) d_ne (ed_var (pv 2)) ed_int (nomark _)) (dss_one (ds_ret (ed_var (pv 1)))) dss_nil))) (dss_one (ds_ret (ed_cb (fun h => pe_callB call_lenA (by rfl) Z.len PySem.boot_len h) d_len (da_cons (ed_var (pv 0)) da_nil))))))
theorem sc_reduced : FnScope ["by", "rows", "found", "row", "other", "at", "often", "part"] ["by", "rows"] (C8.fnScope (topS 18)) := C8.fnScope_by (by decide +kernel)
theorem w_reduced {f : Addr} {fd : FuncData} (F : C8.Def K mg "reduced" (topS 18) f fd) (b : Binds K fd ["by", "rows"] []) (Z : Bl mg) (c_first_of : C8.Cal P w K mg base 1 "first_of" (spD 1 m_first_of K) []) (c_less : C8.Cal P w K mg base 1 "less" (spD 4 m_less K) []) (c_inverse : C8.Cal P w K mg base 1 "inverse" (spD 2 m_inverse K) []) : FnOk P w K mg base C8.CX0 2 f fd ["by", "rows"] (spD 2 m_reduced K) := by
  refine fn_d (g := b_reduced) (n := 6) F.fn sc_reduced rfl (fun cdv A outer s H E hr => by
    have nd := sc_reduced.nd
    exact (dss_cons (ds_set ((en_lst da_nil)).ed (fun h => ps_set (i := 2) nd (by rfl) (by first | exact Or.inl rfl | exact Or.inr rfl) h)) (dss_cons (ds_for [3, 4, 5, 6] PassesOwn.never rfl (di_seq (ed_var (pv 1))) (dg_name (pg_name nd (by rfl) (by first | exact Or.inl rfl | exact Or.inr rfl))) (dss_cons (ds_for [4] PassesOwn.never rfl (di_seq (ed_var (pv 2))) (dg_name (pg_name nd (by rfl) (by first | exact Or.inl rfl | exact Or.inr rfl))) (dss_one (ds_set (ed_call c_less hr (by decide) (by rfl) (da_cons (ed_var (pv 0)) (da_cons (ed_var (pv 3)) (da_cons (ed_ix (ed_var (pv 3)) (ed_call c_first_of hr (by decide) (by rfl) (da_cons (ed_var (pv 4)) da_nil) (sl_cons sl_nil)) (fun _ _ => rfl)) (da_cons (ed_var (pv 4)) da_nil)))) (sl_cons (sl_cons (sl_cons (sl_cons sl_nil))))) (fun h => ps_set (i := 3) nd (by rfl) (by first | exact Or.inl rfl | exact Or.inr rfl) h)))) (dss_cons (ds_set (ed_call c_first_of hr (by decide) (by rfl) (da_cons (ed_var (pv 3)) da_nil) (sl_cons sl_nil)) (fun h => ps_set (i := 5) nd (by rfl) (by first | exact Or.inl rfl | exact Or.inr rfl) h)) (dss_one (ds_if (dt_cmp op_lt d_cmp (ed_var (pv 5)) (ed_cb (fun h => pe_callB call_lenA (by rfl) Z.len PySem.boot_len h) d_len (da_cons (ed_var (pv 3)) da_nil)) (nomark _)) (dss_cons (ds_set (ed_call c_inverse hr (by decide) (by rfl) (da_cons (ed_var (pv 0)) (da_cons (ed_ix (ed_var (pv 3)) (ed_var (pv 5)) (fun _ _ => rfl)) da_nil)) (sl_cons (sl_cons sl_nil))) (fun h => ps_set (i := 6) nd (by rfl) (by first | exact Or.inl rfl | exact Or.inr rfl) h)) (dss_cons (ds_set (ed_cbL (fun h => pe_callTy call_tuple_of (by rfl) Z.tuple PyProof.Rows.boot_tuple h) d_tupL ((en_lc (own := [("part", 7)]) rfl nd (di_seq (ed_var (pv 3))).c (blkOk_by (by kernel_rfl)) (fun _ _ _ _ _ => (dg_name (pg_name nd (by rfl) (by first | exact Or.inl rfl | exact Or.inr rfl)))) (fun _ _ _ _ _ => dts_nil) (fun _ _ _ _ _ => (ed_op op_mod d_mod (ed_op op_mulA d_mul (ed_var (pv 6)) (ed_var (pv 7))) (ed_var (pv 0)))) (by decide))).el) (fun h => ps_set (i := 3) nd (by rfl) (by first | exact Or.inl rfl | exact Or.inr rfl) h)) (dss_one (ds_set ((en_cat ((en_lc (own := [("other", 4)]) rfl nd (di_seq (ed_var (pv 2))).c (blkOk_by (by kernel_rfl)) (fun _ _ _ _ _ => (dg_name (pg_name nd (by rfl) (by first | exact Or.inl rfl | exact Or.inr rfl)))) (fun _ _ _ _ _ => dts_nil) (fun _ _ _ _ _ => (ed_call c_less hr (by decide) (by rfl) (da_cons (ed_var (pv 0)) (da_cons (ed_var (pv 4)) (da_cons (ed_ix (ed_var (pv 4)) (ed_var (pv 5)) (fun _ _ => rfl)) (da_cons (ed_var (pv 3)) da_nil)))) (sl_cons (sl_cons (sl_cons (sl_cons sl_nil)))))) (by decide))).el ((en_lst (da_cons (ed_var (pv 3)) da_nil))).el)).ed (fun h => ps_set (i := 2) nd (by rfl) (by first | exact Or.inl rfl | exact Or.inr rfl) h))))) dss_nil))))) (dss_one (ds_ret (ed_rev ((en_srt (by rfl) Z.sorted (el_var (pv 2)))).ed))))))
theorem sc_rank : FnScope ["by", "table"] ["by", "table"] (C8.fnScope (topS 19)) := C8.fnScope_by (by decide +kernel)
theorem w_rank {f : Addr} {fd : FuncData} (F : C8.Def K mg "rank" (topS 19) f fd) (b : Binds K fd ["by", "table"] []) (Z : Bl mg) (c_reduced : C8.Cal P w K mg base 2 "reduced" (spD 2 m_reduced K) []) : FnOk P w K mg base C8.CX0 3 f fd ["by", "table"] (spD 2 m_rank K) := by
  refine fn_d (g := b_rank) (n := 0) F.fn sc_rank rfl (fun cdv A outer s H E hr => by
    have nd := sc_rank.nd
    exact (dss_one (ds_ret (ed_cb (fun h => pe_callB call_lenA (by rfl) Z.len PySem.boot_len h) d_len (da_cons (ed_call c_reduced hr (by decide) (by rfl) (da_cons (ed_var (pv 0)) (da_cons (ed_var (pv 1)) da_nil)) (sl_cons (sl_cons sl_nil))) da_nil)))))
theorem sc_undone : FnScope ["by", "table", "size", "rows", "row", "its"] ["by", "table"] (C8.fnScope (topS 20)) := C8.fnScope_by (by decide +kernel)
theorem w_undone {f : Addr} {fd : FuncData} {C : Addr} (F : C8.Def K mg "undone" (topS 20) f fd) (b : Binds K fd ["by", "table"] []) (Z : Bl mg) (RF : Rfs K mg "NoUndo" C) (c_rank : C8.Cal P w K mg base 3 "rank" (spD 2 m_rank K) []) (c_unit : C8.Cal P w K mg base 1 "unit" (spD 1 m_unit K) []) (c_reduced : C8.Cal P w K mg base 2 "reduced" (spD 2 m_reduced K) []) : FnOk P w K mg base (L2.CX P w) 4 f fd ["by", "table"] (spX 2 m_undone C K) := by
  refine fn_x (g := b_undone) (n := 4) F.fn sc_undone rfl (fun cdv A outer s H E hr => by
    have nd := sc_undone.nd
    exact (dx_cons (ds_set (ed_cb (fun h => pe_callB call_lenA (by rfl) Z.len PySem.boot_len h) d_len (da_cons (ed_var (pv 1)) da_nil)) (fun h => ps_set (i := 2) nd (by rfl) (by first | exact Or.inl rfl | exact Or.inr rfl) h)) (dx_if RF rfl takes_r (by rfl) (dt_cmp op_lt d_cmp (ed_call c_rank hr (by decide) (by rfl) (da_cons (ed_var (pv 0)) (da_cons (ed_var (pv 1)) da_nil)) (sl_cons (sl_cons sl_nil))) (ed_var (pv 2)) (nomark _)) (dx_ok (dss_cons (ds_set (ed_call c_reduced hr (by decide) (by rfl) (da_cons (ed_var (pv 0)) (da_cons ((en_lc (own := [("row", 4), ("its", 5)]) rfl nd (di_zip (by rfl) Z.zip (da_cons (ed_var (pv 1)) (da_cons (ed_call c_unit hr (by decide) (by rfl) (da_cons (ed_var (pv 2)) da_nil) (sl_cons sl_nil)) da_nil))).c (blkOk_by (by kernel_rfl)) (fun _ _ _ _ _ => (dg_tup rfl (dgs_cons (dg_name (pg_name nd (by rfl) (by first | exact Or.inl rfl | exact Or.inr rfl))) (dgs_cons (dg_name (pg_name nd (by rfl) (by first | exact Or.inl rfl | exact Or.inr rfl))) dgs_nil)) (gl_cons (gl_cons gl_nil)))) (fun _ _ _ _ _ => dts_nil) (fun _ _ _ _ _ => (ed_op op_addA d_add (ed_var (pv 4)) (ed_var (pv 5)))) (by decide))).ed da_nil)) (sl_cons (sl_cons sl_nil))) (fun h => ps_set (i := 3) nd (by rfl) (by first | exact Or.inl rfl | exact Or.inr rfl) h)) (dss_one (ds_ret (ed_cbL (fun h => pe_callTy call_tuple_of (by rfl) Z.tuple PyProof.Rows.boot_tuple h) d_tupL ((en_lc (own := [("row", 4)]) rfl nd (di_seq (ed_var (pv 3))).c (blkOk_by (by kernel_rfl)) (fun _ _ _ _ _ => (dg_name (pg_name nd (by rfl) (by first | exact Or.inl rfl | exact Or.inr rfl)))) (fun _ _ _ _ _ => dts_nil) (fun _ _ _ _ _ => (ed_sl (ed_var (pv 4)) (do_some (ed_var (pv 2))) do_none)) (by decide))).el))))))))
theorem sc_without_place : FnScope ["row", "at"] ["row", "at"] (C8.fnScope (topS 21)) := C8.fnScope_by (by decide +kernel)
theorem w_without_place {f : Addr} {fd : FuncData} (F : C8.Def K mg "without_place" (topS 21) f fd) (b : Binds K fd ["row", "at"] []) (Z : Bl mg) : FnOk P w K mg base C8.CX0 1 f fd ["row", "at"] (spD 2 m_without_place K) := by
  refine fn_d (g := b_without_place) (n := 0) F.fn sc_without_place rfl (fun cdv A outer s H E hr => by
    have nd := sc_without_place.nd
    exact (dss_one (ds_ret (ed_op op_addA d_add (ed_sl (ed_var (pv 0)) do_none (do_some (ed_var (pv 1)))) (ed_sl (ed_var (pv 0)) (do_some (ed_op op_addA d_add (ed_var (pv 1)) ed_int)) do_none)))))
theorem sc_worth : FnScope ["by", "table", "found", "at", "part", "rest", "row"] ["by", "table"] (C8.fnScope (topS 22)) := C8.fnScope_by (by decide +kernel)
theorem w_worth {f : Addr} {fd : FuncData} (F : C8.Def K mg "worth" (topS 22) f fd) (b : Binds K fd ["by", "table"] []) (Z : Bl mg) (c_without_place : C8.Cal P w K mg base 1 "without_place" (spD 2 m_without_place K) []) : ∀ n : Nat, FnOk P w K mg base C8.CX0 (1 + n) f fd ["by", "table"] (spD 2 (m_worth n) K)
  | 0 => ⟨fun vs H Q E h => let ⟨_, _, _, _, _, _, z, _⟩ := h; (nomatch z), fun A outer s H args us vs Q E _ _ _ _ h => let ⟨_, _, _, _, _, _, z, _⟩ := h; (nomatch z)⟩
  | n + 1 => by
    have c_worth : C8.Cal P w K mg base (1 + n) "worth" (spD 2 (m_worth n) K) [] := ⟨f, fd, _, [], w_worth F b Z c_without_place n, F.mgf, F.kp, b, .nil⟩
    show FnOk P w K mg base C8.CX0 ((1 + n) + 1) f fd ["by", "table"] (spD 2 (m_worth (n + 1)) K)
    refine fn_d (g := b_worth (m_worth n)) (n := 5) F.fn sc_worth rfl (fun cdv A outer s H E hr => by
      have nd := sc_worth.nd
      exact (dss_cons (ds_if (dt_cmp (op_eqD (room64 hr)) d_eq (ed_cb (fun h => pe_callB call_lenA (by rfl) Z.len PySem.boot_len h) d_len (da_cons (ed_var (pv 1)) da_nil)) ed_int (nomark _)) (dss_one (ds_ret (ed_op op_mod d_mod (ed_ix (ed_ix (ed_var (pv 1)) ed_int (fun _ _ => rfl)) ed_int (fun _ _ => rfl)) (ed_var (pv 0))))) dss_nil) (dss_cons (ds_set ed_int (fun h => ps_set (i := 2) nd (by rfl) (by first | exact Or.inl rfl | exact Or.inr rfl) h)) (dss_cons (ds_for [3, 4, 5] PassesOwn.never rfl (di_enu (by rfl) Z.enumerate (da_cons (ed_ix (ed_var (pv 1)) ed_int (fun _ _ => rfl)) da_nil)) (dg_tup rfl (dgs_cons (dg_name (pg_name nd (by rfl) (by first | exact Or.inl rfl | exact Or.inr rfl))) (dgs_cons (dg_name (pg_name nd (by rfl) (by first | exact Or.inl rfl | exact Or.inr rfl))) dgs_nil)) (gl_cons (gl_cons gl_nil))) (dss_cons (ds_set (ed_call c_worth hr (by omega) (by rfl) (da_cons (ed_var (pv 0)) (da_cons (ed_cbL (fun h => pe_callTy call_tuple_of (by rfl) Z.tuple PyProof.Rows.boot_tuple h) d_tupL ((en_lc (own := [("row", 6)]) rfl nd (di_seq (ed_sl (ed_var (pv 1)) (do_some ed_int) do_none)).c (blkOk_by (by kernel_rfl)) (fun _ _ _ _ _ => (dg_name (pg_name nd (by rfl) (by first | exact Or.inl rfl | exact Or.inr rfl)))) (fun _ _ _ _ _ => dts_nil) (fun _ _ _ _ _ => (ed_call c_without_place hr (by omega) (by rfl) (da_cons (ed_var (pv 6)) (da_cons (ed_var (pv 3)) da_nil)) (sl_cons (sl_cons sl_nil)))) (by decide))).el) da_nil)) (sl_cons (sl_cons sl_nil))) (fun h => ps_set (i := 5) nd (by rfl) (by first | exact Or.inl rfl | exact Or.inr rfl) h)) (dss_one (ds_set (ed_op op_addA d_add (ed_var (pv 2)) (ed_op op_mulA d_mul (ed_op op_mulA d_mul (ed_op op_sub d_sub ed_int (ed_op op_mulA d_mul (ed_op op_mod d_mod (ed_var (pv 3)) ed_int) ed_int)) (ed_var (pv 4))) (ed_var (pv 5)))) (fun h => ps_set (i := 2) nd (by rfl) (by first | exact Or.inl rfl | exact Or.inr rfl) h))))) (dss_one (ds_ret (ed_op op_mod d_mod (ed_var (pv 2)) (ed_var (pv 0)))))))))
theorem sc_as_row : FnScope ["table", "found", "row"] ["table"] (C8.fnScope (topS 23)) := C8.fnScope_by (by decide +kernel)
theorem w_as_row {f : Addr} {fd : FuncData} (F : C8.Def K mg "as_row" (topS 23) f fd) (b : Binds K fd ["table"] []) (Z : Bl mg) : FnOk P w K mg base C8.CX0 1 f fd ["table"] (spD 1 m_as_row K) := by
  refine fn_d (g := b_as_row) (n := 2) F.fn sc_as_row rfl (fun cdv A outer s H E hr => by
    have nd := sc_as_row.nd
    exact (dss_cons (ds_set (ed_tup da_nil) (fun h => ps_set (i := 1) nd (by rfl) (by first | exact Or.inl rfl | exact Or.inr rfl) h)) (dss_cons (ds_for [2] PassesOwn.never rfl (di_seq (ed_var (pv 0))) (dg_name (pg_name nd (by rfl) (by first | exact Or.inl rfl | exact Or.inr rfl))) (dss_one (ds_set (ed_op op_addA d_add (ed_var (pv 1)) (ed_var (pv 2))) (fun h => ps_set (i := 1) nd (by rfl) (by first | exact Or.inl rfl | exact Or.inr rfl) h)))) (dss_one (ds_ret (ed_var (pv 1)))))))
theorem sc_as_table : FnScope ["row", "long", "at"] ["row", "long"] (C8.fnScope (topS 24)) := C8.fnScope_by (by decide +kernel)
theorem w_as_table {f : Addr} {fd : FuncData} (F : C8.Def K mg "as_table" (topS 24) f fd) (b : Binds K fd ["row", "long"] []) (Z : Bl mg) : FnOk P w K mg base C8.CX0 1 f fd ["row", "long"] (spD 2 m_as_table K) := by
  refine fn_d (g := b_as_table) (n := 1) F.fn sc_as_table rfl (fun cdv A outer s H E hr => by
    have nd := sc_as_table.nd
    exact (dss_one (ds_ret (ed_cbL (fun h => pe_callTy call_tuple_of (by rfl) Z.tuple PyProof.Rows.boot_tuple h) d_tupL ((en_lc (own := [("at", 2)]) rfl nd (di_rg3 (by rfl) Z.range (da_cons ed_int (da_cons (ed_cb (fun h => pe_callB call_lenA (by rfl) Z.len PySem.boot_len h) d_len (da_cons (ed_var (pv 0)) da_nil)) (da_cons (ed_var (pv 1)) da_nil)))).c (blkOk_by (by kernel_rfl)) (fun _ _ _ _ _ => (dg_name (pg_name nd (by rfl) (by first | exact Or.inl rfl | exact Or.inr rfl)))) (fun _ _ _ _ _ => dts_nil) (fun _ _ _ _ _ => (ed_sl (ed_var (pv 0)) (do_some (ed_var (pv 2))) (do_some (ed_op op_addA d_add (ed_var (pv 2)) (ed_var (pv 1)))))) (by decide))).el))))
theorem sc_noughts : FnScope ["by", "rows", "long", "some", "heads", "found", "at", "free", "head", "row"] ["by", "rows", "long"] (C8.fnScope (topS 25)) := C8.fnScope_by (by decide +kernel)
theorem w_noughts {f : Addr} {fd : FuncData} (F : C8.Def K mg "noughts" (topS 25) f fd) (b : Binds K fd ["by", "rows", "long"] []) (Z : Bl mg) (c_reduced : C8.Cal P w K mg base 2 "reduced" (spD 2 m_reduced K) []) (c_first_of : C8.Cal P w K mg base 1 "first_of" (spD 1 m_first_of K) []) : FnOk P w K mg base C8.CX0 3 f fd ["by", "rows", "long"] (spD 3 m_noughts K) := by
  refine fn_d (g := b_noughts) (n := 7) F.fn sc_noughts rfl (fun cdv A outer s H E hr => by
    have nd := sc_noughts.nd
    exact (dss_cons (ds_set (ed_call c_reduced hr (by decide) (by rfl) (da_cons (ed_var (pv 0)) (da_cons (ed_var (pv 1)) da_nil)) (sl_cons (sl_cons sl_nil))) (fun h => ps_set (i := 3) nd (by rfl) (by first | exact Or.inl rfl | exact Or.inr rfl) h)) (dss_cons (ds_setLc (own := [("row", 9)]) (ps_setLc rfl nd (by rfl) rfl (sw_true rfl rfl rfl (by kernel_rfl)) (di_seq (ed_var (pv 3))).c (blkOk_by (by kernel_rfl)) (fun _ _ _ _ _ => (dg_name (pg_name nd (by rfl) (by first | exact Or.inl rfl | exact Or.inr rfl)))) (fun _ _ _ _ _ => dts_nil) (fun _ _ _ _ _ => (ed_call c_first_of hr (by decide) (by rfl) (da_cons (ed_var (pv 9)) da_nil) (sl_cons sl_nil)))) (by decide)) (dss_fz 4 (dss_cons (ds_setN (en_lst da_nil) (fun h => ps_set (i := 5) nd (by rfl) (by first | exact Or.inl rfl | exact Or.inr rfl) h)) (dss_cons (ds_for [6, 7, 8, 9] PassesOwn.never rfl (di_rg1 (by rfl) Z.range (da_cons (ed_var (pv 2)) da_nil)) (dg_name (pg_name nd (by rfl) (by first | exact Or.inl rfl | exact Or.inr rfl))) (dss_one (ds_if (dt_cmp (op_niA (room65 hr)) d_ni (ed_var (pv 6)) (ed_var (pv 4)) rfl) (dss_cons (ds_setN (en_rep ((en_lst (da_cons ed_int da_nil))).el (ed_var (pv 2))) (fun h => ps_set (i := 7) nd (by rfl) (by first | exact Or.inl rfl | exact Or.inr rfl) h)) (dss_cons (ds_put ed_int (ed_var (pv 6)) (fun h h2 => ps_asg h (pg_sub (pv 7) h2 set_list))) (dss_cons (ds_for [8, 9] PassesOwn.never rfl (di_zip (by rfl) Z.zip (da_cons (ed_var (pv 4)) (da_cons (ed_var (pv 3)) da_nil))) (dg_tup rfl (dgs_cons (dg_name (pg_name nd (by rfl) (by first | exact Or.inl rfl | exact Or.inr rfl))) (dgs_cons (dg_name (pg_name nd (by rfl) (by first | exact Or.inl rfl | exact Or.inr rfl))) dgs_nil)) (gl_cons (gl_cons gl_nil))) (dss_one (ds_put (ed_op op_mod d_mod (ed_op op_sub d_sub ed_int (ed_ix (ed_var (pv 9)) (ed_var (pv 6)) (fun _ _ => rfl))) (ed_var (pv 0))) (ed_var (pv 8)) (fun h h2 => ps_asg h (pg_sub (pv 7) h2 set_list))))) (dss_one (ds_app (ed_cbL (fun h => pe_callTy call_tuple_of (by rfl) Z.tuple PyProof.Rows.boot_tuple h) d_tupL (el_var (pv 7))) (fun h => ps_expr (pe_bm PySem.F.plainAttrs_list PySem.F.slot_list_append PySem.F.type_list_append mt_append (pv 5) (pa_cons h pa_nil)))))))) dss_nil))) (dss_fz 5 (dss_one (ds_ret (ed_call c_reduced hr (by decide) (by rfl) (da_cons (ed_var (pv 0)) (da_cons (ed_var (pv 5)) da_nil)) (sl_cons (sl_cons sl_nil))))))))))))
theorem sc_carries : FnScope ["by", "a", "b", "x"] ["by", "a", "b", "x"] (C8.fnScope (topS 27)) := C8.fnScope_by (by decide +kernel)
theorem w_carries {f : Addr} {fd : FuncData} (F : C8.Def K mg "carries" (topS 27) f fd) (b : Binds K fd ["by", "a", "b", "x"] []) (Z : Bl mg) (c_is_table : C8.Cal P w K mg base 2 "is_table" (spD 2 m_is_table K) []) (c_times : C8.Cal P w K mg base 2 "times" (spD 3 m_times K) []) : FnOk P w K mg base C8.CX0 3 f fd ["by", "a", "b", "x"] (spD 4 m_carries K) := by
  refine fn_d (g := b_carries) (n := 0) F.fn sc_carries rfl (fun cdv A outer s H E hr => by
    have nd := sc_carries.nd
    exact (dss_cons (ds_if ((dw_or (dt_not (dt_e (ed_call c_is_table hr (by decide) (by rfl) (da_cons (ed_var (pv 3)) (da_cons (ed_var (pv 0)) da_nil)) (sl_cons (sl_cons sl_nil))))) (dw_or (dt_cmp (op_neD (room64 hr)) d_ne (ed_cb (fun h => pe_callB call_lenA (by rfl) Z.len PySem.boot_len h) d_len (da_cons (ed_var (pv 3)) da_nil)) (ed_cb (fun h => pe_callB call_lenA (by rfl) Z.len PySem.boot_len h) d_len (da_cons (ed_var (pv 1)) da_nil)) (nomark _)) (dw_or1 (dt_cmp (op_neD (room64 hr)) d_ne (ed_cb (fun h => pe_callB call_lenA (by rfl) Z.len PySem.boot_len h) d_len (da_cons (ed_ix (ed_var (pv 3)) ed_int (fun _ _ => rfl)) da_nil)) (ed_cb (fun h => pe_callB call_lenA (by rfl) Z.len PySem.boot_len h) d_len (da_cons (ed_var (pv 2)) da_nil)) (nomark _)))))).dt (dss_one (ds_ret ed_bl)) dss_nil) (dss_one (ds_ret (ed_cmp (op_eqD (room64 hr)) d_eq (ed_call c_times hr (by decide) (by rfl) (da_cons (ed_var (pv 0)) (da_cons (ed_var (pv 1)) (da_cons (ed_var (pv 3)) da_nil))) (sl_cons (sl_cons (sl_cons sl_nil)))) (ed_call c_times hr (by decide) (by rfl) (da_cons (ed_var (pv 0)) (da_cons (ed_var (pv 3)) (da_cons (ed_var (pv 2)) da_nil))) (sl_cons (sl_cons (sl_cons sl_nil)))) (nomark _))))))
theorem sc_demands : FnScope ["a", "b", "found", "row", "at", "often", "k"] ["a", "b"] (C8.fnScope (topS 28)) := C8.fnScope_by (by decide +kernel)
theorem w_demands {f : Addr} {fd : FuncData} (F : C8.Def K mg "demands" (topS 28) f fd) (b : Binds K fd ["a", "b"] []) (Z : Bl mg) : FnOk P w K mg base C8.CX0 1 f fd ["a", "b"] (spD 2 m_demands K) := by
  refine fn_d (g := b_demands) (n := 5) F.fn sc_demands rfl (fun cdv A outer s H E hr => by
    have nd := sc_demands.nd
    exact (dss_cons (ds_setN (en_lst da_nil) (fun h => ps_set (i := 2) nd (by rfl) (by first | exact Or.inl rfl | exact Or.inr rfl) h)) (dss_cons (ds_for [3, 4, 5, 6] PassesOwn.never rfl (di_rg1 (by rfl) Z.range (da_cons (ed_cb (fun h => pe_callB call_lenA (by rfl) Z.len PySem.boot_len h) d_len (da_cons (ed_var (pv 0)) da_nil)) da_nil)) (dg_name (pg_name nd (by rfl) (by first | exact Or.inl rfl | exact Or.inr rfl))) (dss_one (ds_for [4, 5, 6] PassesOwn.never rfl (di_rg1 (by rfl) Z.range (da_cons (ed_cb (fun h => pe_callB call_lenA (by rfl) Z.len PySem.boot_len h) d_len (da_cons (ed_var (pv 1)) da_nil)) da_nil)) (dg_name (pg_name nd (by rfl) (by first | exact Or.inl rfl | exact Or.inr rfl))) (dss_cons (ds_setN (en_rep ((en_lst (da_cons ed_int da_nil))).el (ed_op op_mulA d_mul (ed_cb (fun h => pe_callB call_lenA (by rfl) Z.len PySem.boot_len h) d_len (da_cons (ed_var (pv 0)) da_nil)) (ed_cb (fun h => pe_callB call_lenA (by rfl) Z.len PySem.boot_len h) d_len (da_cons (ed_var (pv 1)) da_nil)))) (fun h => ps_set (i := 5) nd (by rfl) (by first | exact Or.inl rfl | exact Or.inr rfl) h)) (dss_cons (ds_for [6] PassesOwn.never rfl (di_rg1 (by rfl) Z.range (da_cons (ed_cb (fun h => pe_callB call_lenA (by rfl) Z.len PySem.boot_len h) d_len (da_cons (ed_var (pv 0)) da_nil)) da_nil)) (dg_name (pg_name nd (by rfl) (by first | exact Or.inl rfl | exact Or.inr rfl))) (dss_one (ds_put (ed_op op_addA d_add (ed_ixL (el_var (pv 5)) (ed_op op_addA d_add (ed_op op_mulA d_mul (ed_var (pv 6)) (ed_cb (fun h => pe_callB call_lenA (by rfl) Z.len PySem.boot_len h) d_len (da_cons (ed_var (pv 1)) da_nil))) (ed_var (pv 4))) (fun _ _ => rfl)) (ed_ix (ed_ix (ed_var (pv 0)) (ed_var (pv 3)) (fun _ _ => rfl)) (ed_var (pv 6)) (fun _ _ => rfl))) (ed_op op_addA d_add (ed_op op_mulA d_mul (ed_var (pv 6)) (ed_cb (fun h => pe_callB call_lenA (by rfl) Z.len PySem.boot_len h) d_len (da_cons (ed_var (pv 1)) da_nil))) (ed_var (pv 4))) (fun h h2 => ps_asg h (pg_sub (pv 5) h2 set_list))))) (dss_cons (ds_for [6] PassesOwn.never rfl (di_rg1 (by rfl) Z.range (da_cons (ed_cb (fun h => pe_callB call_lenA (by rfl) Z.len PySem.boot_len h) d_len (da_cons (ed_var (pv 1)) da_nil)) da_nil)) (dg_name (pg_name nd (by rfl) (by first | exact Or.inl rfl | exact Or.inr rfl))) (dss_one (ds_put (ed_op op_sub d_sub (ed_ixL (el_var (pv 5)) (ed_op op_addA d_add (ed_op op_mulA d_mul (ed_var (pv 3)) (ed_cb (fun h => pe_callB call_lenA (by rfl) Z.len PySem.boot_len h) d_len (da_cons (ed_var (pv 1)) da_nil))) (ed_var (pv 6))) (fun _ _ => rfl)) (ed_ix (ed_ix (ed_var (pv 1)) (ed_var (pv 6)) (fun _ _ => rfl)) (ed_var (pv 4)) (fun _ _ => rfl))) (ed_op op_addA d_add (ed_op op_mulA d_mul (ed_var (pv 3)) (ed_cb (fun h => pe_callB call_lenA (by rfl) Z.len PySem.boot_len h) d_len (da_cons (ed_var (pv 1)) da_nil))) (ed_var (pv 6))) (fun h h2 => ps_asg h (pg_sub (pv 5) h2 set_list))))) (dss_one (ds_app (ed_cbL (fun h => pe_callTy call_tuple_of (by rfl) Z.tuple PyProof.Rows.boot_tuple h) d_tupL (el_var (pv 5))) (fun h => ps_expr (pe_bm PySem.F.plainAttrs_list PySem.F.slot_list_append PySem.F.type_list_append mt_append (pv 2) (pa_cons h pa_nil))))))))))) (dss_fz 2 (dss_one (ds_ret (ed_var (pv 2))))))))
theorem sc_common_carriers : FnScope ["by", "pairs", "rows", "a", "b", "long", "row", "part"] ["by", "pairs"] (C8.fnScope (topS 29)) := C8.fnScope_by (by decide +kernel)
theorem w_common_carriers {f : Addr} {fd : FuncData} (F : C8.Def K mg "common_carriers" (topS 29) f fd) (b : Binds K fd ["by", "pairs"] []) (Z : Bl mg) (c_demands : C8.Cal P w K mg base 1 "demands" (spD 2 m_demands K) []) (c_noughts : C8.Cal P w K mg base 3 "noughts" (spD 3 m_noughts K) []) (c_as_table : C8.Cal P w K mg base 1 "as_table" (spD 2 m_as_table K) []) : FnOk P w K mg base C8.CX0 4 f fd ["by", "pairs"] (spD 2 m_common_carriers K) := by
  refine fn_d (g := b_common_carriers) (n := 6) F.fn sc_common_carriers rfl (fun cdv A outer s H E hr => by
    have nd := sc_common_carriers.nd
    exact (dss_cons (ds_setN (en_lst da_nil) (fun h => ps_set (i := 2) nd (by rfl) (by first | exact Or.inl rfl | exact Or.inr rfl) h)) (dss_cons (ds_for [3, 4] PassesOwn.never rfl (di_seq (ed_var (pv 1))) (dg_tup rfl (dgs_cons (dg_name (pg_name nd (by rfl) (by first | exact Or.inl rfl | exact Or.inr rfl))) (dgs_cons (dg_name (pg_name nd (by rfl) (by first | exact Or.inl rfl | exact Or.inr rfl))) dgs_nil)) (gl_cons (gl_cons gl_nil))) (dss_one (ds_ext ((en_lc (own := [("row", 6)]) rfl nd (di_seq (ed_call c_demands hr (by decide) (by rfl) (da_cons (ed_var (pv 3)) (da_cons (ed_var (pv 4)) da_nil)) (sl_cons (sl_cons sl_nil)))).c (blkOk_by (by kernel_rfl)) (fun _ _ _ _ _ => (dg_name (pg_name nd (by rfl) (by first | exact Or.inl rfl | exact Or.inr rfl)))) (fun _ _ _ _ _ => dts_nil) (fun _ _ _ _ _ => (ed_cbL (fun h => pe_callTy call_tuple_of (by rfl) Z.tuple PyProof.Rows.boot_tuple h) d_tupL ((en_lc (own := [("part", 7)]) rfl nd (di_seq (ed_var (pv 6))).c (blkOk_by (by kernel_rfl)) (fun _ _ _ _ _ => (dg_name (pg_name nd (by rfl) (by first | exact Or.inl rfl | exact Or.inr rfl)))) (fun _ _ _ _ _ => dts_nil) (fun _ _ _ _ _ => (ed_op op_mod d_mod (ed_var (pv 7)) (ed_var (pv 0)))) (by decide))).el)) (by decide))).el (fun h => ps_expr (pe_bm PySem.F.plainAttrs_list PySem.F.slot_list_extend PySem.F.type_list_extend mt_extend (pv 2) (pa_cons h pa_nil)))))) (dss_cons (ds_set (ed_cb (fun h => pe_callB call_lenA (by rfl) Z.len PySem.boot_len h) d_len (da_cons (ed_ix (ed_ix (ed_var (pv 1)) ed_int (fun _ _ => rfl)) ed_int (fun _ _ => rfl)) da_nil)) (fun h => ps_set (i := 5) nd (by rfl) (by first | exact Or.inl rfl | exact Or.inr rfl) h)) (dss_fz 2 (dss_one (ds_ret (ed_cbL (fun h => pe_callTy call_tuple_of (by rfl) Z.tuple PyProof.Rows.boot_tuple h) d_tupL ((en_lc (own := [("row", 6)]) rfl nd (di_seq (ed_call c_noughts hr (by decide) (by rfl) (da_cons (ed_var (pv 0)) (da_cons (ed_var (pv 2)) (da_cons (ed_op op_mulA d_mul (ed_cb (fun h => pe_callB call_lenA (by rfl) Z.len PySem.boot_len h) d_len (da_cons (ed_ix (ed_ix (ed_var (pv 1)) ed_int (fun _ _ => rfl)) ed_int (fun _ _ => rfl)) da_nil)) (ed_var (pv 5))) da_nil))) (sl_cons (sl_cons (sl_cons sl_nil))))).c (blkOk_by (by kernel_rfl)) (fun _ _ _ _ _ => (dg_name (pg_name nd (by rfl) (by first | exact Or.inl rfl | exact Or.inr rfl)))) (fun _ _ _ _ _ => dts_nil) (fun _ _ _ _ _ => (ed_call c_as_table hr (by decide) (by rfl) (da_cons (ed_var (pv 6)) (da_cons (ed_var (pv 5)) da_nil)) (sl_cons (sl_cons sl_nil)))) (by decide))).el))))))))
theorem sc_carriers : FnScope ["by", "a", "b"] ["by", "a", "b"] (C8.fnScope (topS 30)) := C8.fnScope_by (by decide +kernel)
theorem w_carriers {f : Addr} {fd : FuncData} (F : C8.Def K mg "carriers" (topS 30) f fd) (b : Binds K fd ["by", "a", "b"] []) (Z : Bl mg) (c_common_carriers : C8.Cal P w K mg base 4 "common_carriers" (spD 2 m_common_carriers K) []) : FnOk P w K mg base C8.CX0 5 f fd ["by", "a", "b"] (spD 3 m_carriers K) := by
  refine fn_d (g := b_carriers) (n := 0) F.fn sc_carriers rfl (fun cdv A outer s H E hr => by
    have nd := sc_carriers.nd
    exact (dss_one (ds_ret (ed_call c_common_carriers hr (by decide) (by rfl) (da_cons (ed_var (pv 0)) (da_cons (ed_tup (da_cons (ed_tup (da_cons (ed_var (pv 1)) (da_cons (ed_var (pv 2)) da_nil))) da_nil)) da_nil)) (sl_cons (sl_cons sl_nil))))))
theorem sc_many_of : FnScope ["by", "some", "found", "part"] ["by", "some"] (C8.fnScope (topS 31)) := C8.fnScope_by (by decide +kernel)
theorem w_many_of {f : Addr} {fd : FuncData} (F : C8.Def K mg "many_of" (topS 31) f fd) (b : Binds K fd ["by", "some"] []) (Z : Bl mg) : FnOk P w K mg base C8.CX0 1 f fd ["by", "some"] (spD 2 m_many_of K) := by
  refine fn_d (g := b_many_of) (n := 2) F.fn sc_many_of rfl (fun cdv A outer s H E hr => by
    have nd := sc_many_of.nd
    exact (dss_cons (ds_set ed_int (fun h => ps_set (i := 2) nd (by rfl) (by first | exact Or.inl rfl | exact Or.inr rfl) h)) (dss_cons (ds_for [3] PassesOwn.never rfl (di_seq (ed_var (pv 1))) (dg_name (pg_name nd (by rfl) (by first | exact Or.inl rfl | exact Or.inr rfl))) (dss_one (ds_set (ed_op op_mulA d_mul (ed_var (pv 2)) (ed_var (pv 0))) (fun h => ps_set (i := 2) nd (by rfl) (by first | exact Or.inl rfl | exact Or.inr rfl) h)))) (dss_one (ds_ret (ed_var (pv 2)))))))
theorem sc_many_carriers : FnScope ["by", "a", "b"] ["by", "a", "b"] (C8.fnScope (topS 32)) := C8.fnScope_by (by decide +kernel)
theorem w_many_carriers {f : Addr} {fd : FuncData} (F : C8.Def K mg "many_carriers" (topS 32) f fd) (b : Binds K fd ["by", "a", "b"] []) (Z : Bl mg) (c_carriers : C8.Cal P w K mg base 5 "carriers" (spD 3 m_carriers K) []) (c_many_of : C8.Cal P w K mg base 1 "many_of" (spD 2 m_many_of K) []) : FnOk P w K mg base C8.CX0 6 f fd ["by", "a", "b"] (spD 3 m_many_carriers K) := by
  refine fn_d (g := b_many_carriers) (n := 0) F.fn sc_many_carriers rfl (fun cdv A outer s H E hr => by
    have nd := sc_many_carriers.nd
    exact (dss_one (ds_ret (ed_call c_many_of hr (by decide) (by rfl) (da_cons (ed_var (pv 0)) (da_cons (ed_call c_carriers hr (by decide) (by rfl) (da_cons (ed_var (pv 0)) (da_cons (ed_var (pv 1)) (da_cons (ed_var (pv 2)) da_nil))) (sl_cons (sl_cons (sl_cons sl_nil)))) da_nil)) (sl_cons (sl_cons sl_nil))))))
theorem sc_carrier_at : FnScope ["by", "a", "b", "place", "some", "found", "table"] ["by", "a", "b", "place"] (C8.fnScope (topS 33)) := C8.fnScope_by (by decide +kernel)
theorem w_carrier_at {f : Addr} {fd : FuncData} {C : Addr} (F : C8.Def K mg "carrier_at" (topS 33) f fd) (b : Binds K fd ["by", "a", "b", "place"] []) (Z : Bl mg) (RF : Rfs K mg "NoPlace" C) (c_carriers : C8.Cal P w K mg base 5 "carriers" (spD 3 m_carriers K) []) (c_many_of : C8.Cal P w K mg base 1 "many_of" (spD 2 m_many_of K) []) (c_scaled : C8.Cal P w K mg base 1 "scaled" (spD 3 m_scaled K) []) (c_plus : C8.Cal P w K mg base 1 "plus" (spD 3 m_plus K) []) : FnOk P w K mg base (L2.CX P w) 6 f fd ["by", "a", "b", "place"] (spX 4 m_carrier_at C K) := by
  refine fn_x (g := b_carrier_at) (n := 3) F.fn sc_carrier_at rfl (fun cdv A outer s H E hr => by
    have nd := sc_carrier_at.nd
    exact (dx_cons (ds_set (ed_call c_carriers hr (by decide) (by rfl) (da_cons (ed_var (pv 0)) (da_cons (ed_var (pv 1)) (da_cons (ed_var (pv 2)) da_nil))) (sl_cons (sl_cons (sl_cons sl_nil)))) (fun h => ps_set (i := 4) nd (by rfl) (by first | exact Or.inl rfl | exact Or.inr rfl) h)) (dx_if RF rfl takes_r (by rfl) (dt_not (dt_chain op_le op_lt d_cmp d_cmp ed_int (ed_var (pv 3)) (ed_call c_many_of hr (by decide) (by rfl) (da_cons (ed_var (pv 0)) (da_cons (ed_var (pv 4)) da_nil)) (sl_cons (sl_cons sl_nil))))) (dx_ok (dss_cons (ds_set (ed_op op_mulA d_mul (ed_tup (da_cons (ed_op op_mulA d_mul (ed_tup (da_cons ed_int da_nil)) (ed_cb (fun h => pe_callB call_lenA (by rfl) Z.len PySem.boot_len h) d_len (da_cons (ed_var (pv 2)) da_nil))) da_nil)) (ed_cb (fun h => pe_callB call_lenA (by rfl) Z.len PySem.boot_len h) d_len (da_cons (ed_var (pv 1)) da_nil))) (fun h => ps_set (i := 5) nd (by rfl) (by first | exact Or.inl rfl | exact Or.inr rfl) h)) (dss_cons (ds_for [6] (passes_of rfl) rfl (di_seq (ed_rev (ed_var (pv 4)))) (dg_name (pg_name nd (by rfl) (by first | exact Or.inl rfl | exact Or.inr rfl))) (dss_cons (ds_set (ed_call c_plus hr (by decide) (by rfl) (da_cons (ed_var (pv 0)) (da_cons (ed_var (pv 5)) (da_cons (ed_call c_scaled hr (by decide) (by rfl) (da_cons (ed_var (pv 0)) (da_cons (ed_op op_mod d_mod (ed_var (pv 3)) (ed_var (pv 0))) (da_cons (ed_var (pv 6)) da_nil))) (sl_cons (sl_cons (sl_cons sl_nil)))) da_nil))) (sl_cons (sl_cons (sl_cons sl_nil)))) (fun h => ps_set (i := 5) nd (by rfl) (by first | exact Or.inl rfl | exact Or.inr rfl) h)) (dss_one (ds_set (ed_op op_fdiv d_div (ed_var (pv 3)) (ed_var (pv 0))) (fun h => ps_set (i := 3) nd (by rfl) (by first | exact Or.inl rfl | exact Or.inr rfl) h))))) (dss_one (ds_ret (ed_var (pv 5))))))))))
theorem sc_place_of : FnScope ["by", "a", "b", "x", "row", "found", "table"] ["by", "a", "b", "x"] (C8.fnScope (topS 34)) := C8.fnScope_by (by decide +kernel)
theorem w_place_of {f : Addr} {fd : FuncData} {C : Addr} (F : C8.Def K mg "place_of" (topS 34) f fd) (b : Binds K fd ["by", "a", "b", "x"] []) (Z : Bl mg) (RF : Rfs K mg "NoPlace" C) (c_carries : C8.Cal P w K mg base 3 "carries" (spD 4 m_carries K) []) (c_as_row : C8.Cal P w K mg base 1 "as_row" (spD 1 m_as_row K) []) (c_carriers : C8.Cal P w K mg base 5 "carriers" (spD 3 m_carriers K) []) (c_first_of : C8.Cal P w K mg base 1 "first_of" (spD 1 m_first_of K) []) : FnOk P w K mg base (L2.CX P w) 6 f fd ["by", "a", "b", "x"] (spX 4 m_place_of C K) := by
  refine fn_x (g := b_place_of) (n := 3) F.fn sc_place_of rfl (fun cdv A outer s H E hr => by
    have nd := sc_place_of.nd
    exact (dx_if RF rfl takes_r (by rfl) (dt_not (dt_e (ed_call c_carries hr (by decide) (by rfl) (da_cons (ed_var (pv 0)) (da_cons (ed_var (pv 1)) (da_cons (ed_var (pv 2)) (da_cons (ed_var (pv 3)) da_nil)))) (sl_cons (sl_cons (sl_cons (sl_cons sl_nil))))))) (dx_ok (dss_cons (ds_set (ed_call c_as_row hr (by decide) (by rfl) (da_cons (ed_var (pv 3)) da_nil) (sl_cons sl_nil)) (fun h => ps_set (i := 4) nd (by rfl) (by first | exact Or.inl rfl | exact Or.inr rfl) h)) (dss_cons (ds_set ed_int (fun h => ps_set (i := 5) nd (by rfl) (by first | exact Or.inl rfl | exact Or.inr rfl) h)) (dss_cons (ds_for [6] (passes_of rfl) rfl (di_seq (ed_call c_carriers hr (by decide) (by rfl) (da_cons (ed_var (pv 0)) (da_cons (ed_var (pv 1)) (da_cons (ed_var (pv 2)) da_nil))) (sl_cons (sl_cons (sl_cons sl_nil))))) (dg_name (pg_name nd (by rfl) (by first | exact Or.inl rfl | exact Or.inr rfl))) (dss_one (ds_set (ed_op op_addA d_add (ed_op op_mulA d_mul (ed_var (pv 5)) (ed_var (pv 0))) (ed_ix (ed_var (pv 4)) (ed_call c_first_of hr (by decide) (by rfl) (da_cons (ed_call c_as_row hr (by decide) (by rfl) (da_cons (ed_var (pv 6)) da_nil) (sl_cons sl_nil)) da_nil) (sl_cons sl_nil)) (fun _ _ => rfl))) (fun h => ps_set (i := 5) nd (by rfl) (by first | exact Or.inl rfl | exact Or.inr rfl) h)))) (dss_one (ds_ret (ed_var (pv 5))))))))))
theorem sc_table_text : FnScope ["table", "row", "part"] ["table"] (C8.fnScope (topS 38)) := C8.fnScope_by (by decide +kernel)
theorem w_table_text {f : Addr} {fd : FuncData} (F : C8.Def K mg "table_text" (topS 38) f fd) (b : Binds K fd ["table"] []) (Z : Bl mg) {tk_SLASH : Tok} (c_SLASH : mg "SLASH" = some (.str "/" tk_SLASH)) : FnOk P w K mg base C8.CX0 1 f fd ["table"] (spD 1 m_table_text K) := by
  refine fn_d (g := b_table_text) (n := 2) F.fn sc_table_text rfl (fun cdv A outer s H E hr => by
    have nd := sc_table_text.nd
    exact (dss_one (ds_ret (ed_join (ed_gs (by rfl) c_SLASH) ((en_lc (own := [("row", 1)]) rfl nd (di_seq (ed_var (pv 0))).c (blkOk_by (by kernel_rfl)) (fun _ _ _ _ _ => (dg_name (pg_name nd (by rfl) (by first | exact Or.inl rfl | exact Or.inr rfl)))) (fun _ _ _ _ _ => dts_nil) (fun _ _ _ _ _ => (ed_join ed_str ((en_lc (own := [("part", 2)]) rfl nd (di_seq (ed_var (pv 1))).c (blkOk_by (by kernel_rfl)) (fun _ _ _ _ _ => (dg_name (pg_name nd (by rfl) (by first | exact Or.inl rfl | exact Or.inr rfl)))) (fun _ _ _ _ _ => dts_nil) (fun _ _ _ _ _ => (ed_cb (fun h => pe_callTy call_str_int (by rfl) Z.str (by decide +kernel) h) d_str (da_cons (ed_var (pv 2)) da_nil))) (by decide))).el)) (by decide))).el))))
theorem sc_read_table : FnScope ["text", "by", "found", "sign", "row"] ["text", "by"] (C8.fnScope (topS 39)) := C8.fnScope_by (by decide +kernel)
theorem w_read_table {f : Addr} {fd : FuncData} {C : Addr} (F : C8.Def K mg "read_table" (topS 39) f fd) (b : Binds K fd ["text", "by"] []) (Z : Bl mg) (RF : Rfs K mg "NoText" C) {tk_FIGURES : Tok} (c_FIGURES : mg "FIGURES" = some (.str "01234" tk_FIGURES)) {tk_SLASH : Tok} (c_SLASH : mg "SLASH" = some (.str "/" tk_SLASH)) (c_is_table : C8.Cal P w K mg base 2 "is_table" (spD 2 m_is_table K) []) : FnOk P w K mg base (L2.CX P w) 3 f fd ["text", "by"] (spX 2 m_read_table C K) := by
  refine fn_x (g := b_read_table) (n := 3) F.fn sc_read_table rfl (fun cdv A outer s H E hr => by
    have nd := sc_read_table.nd
    exact (dx_if RF rfl takes_r (by rfl) ((dw_or (dt_not (dt_e (ed_isi kit_str (fun h => pe_callB call_isi (by rfl) Z.isinstance (by decide +kernel) h) (ed_var (pv 0)) (pe_bltn (v := .ty "str") (by rfl) Z.str (by decide +kernel) rfl)))) (dw_or1 (dt_not (dt_e (ed_cbL (fun h => pe_callB (cr_all rfl) (by rfl) Z.all (by decide +kernel) h) d_allL ((en_lc (own := [("sign", 3)]) rfl nd (di_str (ed_var (pv 0))).c (blkOk_by (by kernel_rfl)) (fun _ _ _ _ _ => (dg_name (pg_name nd (by rfl) (by first | exact Or.inl rfl | exact Or.inr rfl)))) (fun _ _ _ _ _ => dts_nil) (fun _ _ _ _ _ => (ed_cmp (op_inA (room65 hr)) d_in (ed_var (pv 3)) (ed_op op_addA d_add (ed_gs (by rfl) c_FIGURES) (ed_gs (by rfl) c_SLASH)) rfl)) (by decide))).el)))))).dt (dx_cons (ds_set (ed_cbL (fun h => pe_callTy call_tuple_of (by rfl) Z.tuple PyProof.Rows.boot_tuple h) d_tupL ((en_lc (own := [("row", 4)]) rfl nd (di_seq ((en_split (ed_var (pv 0)) (ed_gs (by rfl) c_SLASH))).ed).c (blkOk_by (by kernel_rfl)) (fun _ _ _ _ _ => (dg_name (pg_name nd (by rfl) (by first | exact Or.inl rfl | exact Or.inr rfl)))) (fun _ _ _ _ _ => dts_nil) (fun _ _ _ _ _ => (ed_cbL (fun h => pe_callTy call_tuple_of (by rfl) Z.tuple PyProof.Rows.boot_tuple h) d_tupL ((en_lc (own := [("sign", 3)]) rfl nd (di_str (ed_var (pv 4))).c (blkOk_by (by kernel_rfl)) (fun _ _ _ _ _ => (dg_name (pg_name nd (by rfl) (by first | exact Or.inl rfl | exact Or.inr rfl)))) (fun _ _ _ _ _ => dts_nil) (fun _ _ _ _ _ => (ed_cb (fun h => pe_callTy call_int_str (by rfl) Z.int (by decide +kernel) h) d_intS (da_cons (ed_var (pv 3)) da_nil))) (by decide))).el)) (by decide))).el) (fun h => ps_set (i := 2) nd (by rfl) (by first | exact Or.inl rfl | exact Or.inr rfl) h)) (dx_if RF rfl takes_r (by rfl) (dt_not (dt_e (ed_call c_is_table hr (by decide) (by rfl) (da_cons (ed_var (pv 2)) (da_cons (ed_var (pv 1)) da_nil)) (sl_cons (sl_cons sl_nil))))) (dx_ok (dss_one (ds_ret (ed_var (pv 2)))))))))
theorem sc_law_cell_at : FnScope ["_law_script", "_law_k"] ["_law_script", "_law_k"] (C8.fnScope (topS 41)) := C8.fnScope_by (by decide +kernel)
theorem w_law_cell_at {f : Addr} {fd : FuncData} (F : C8.Def K mg "_law_cell_at" (topS 41) f fd) (b : Binds K fd ["_law_script", "_law_k"] []) (Z : Bl mg) : FnOk P w K mg base C8.CX0 1 f fd ["_law_script", "_law_k"] (spD 2 m_law_cell_at K) := by
  refine fn_d (g := b_law_cell_at) (n := 0) F.fn sc_law_cell_at rfl (fun cdv A outer s H E hr => by
    have nd := sc_law_cell_at.nd
    exact (dss_cons (ds_if (dt_cmp op_lt d_cmp (ed_var (pv 1)) (ed_cb (fun h => pe_callB call_lenA (by rfl) Z.len PySem.boot_len h) d_len (da_cons (ed_var (pv 0)) da_nil)) (nomark _)) (dss_one (ds_ret (ed_ix (ed_var (pv 0)) (ed_var (pv 1)) (fun _ _ => rfl)))) dss_nil) (dss_one (ds_ret ed_int))))
theorem sc_law_mixed : FnScope ["_law_script", "_law_k", "_law_drawn_here"] ["_law_script", "_law_k"] (C8.fnScope (topS 42)) := C8.fnScope_by (by decide +kernel)
theorem w_law_mixed {f : Addr} {fd : FuncData} (F : C8.Def K mg "_law_mixed" (topS 42) f fd) (b : Binds K fd ["_law_script", "_law_k"] []) (Z : Bl mg) (c__law_cell_at : C8.Cal P w K mg base 1 "_law_cell_at" (spD 2 m_law_cell_at K) []) : FnOk P w K mg base C8.CX0 2 f fd ["_law_script", "_law_k"] (spD 2 m_law_mixed K) := by
  refine fn_d (g := b_law_mixed) (n := 1) F.fn sc_law_mixed rfl (fun cdv A outer s H E hr => by
    have nd := sc_law_mixed.nd
    exact (dss_cons (ds_set (ed_op op_mod d_mod (ed_op op_mulA d_mul (ed_op op_addA d_add (ed_op op_addA d_add (ed_call c__law_cell_at hr (by decide) (by rfl) (da_cons (ed_var (pv 0)) (da_cons (ed_var (pv 1)) da_nil)) (sl_cons (sl_cons sl_nil))) (ed_op op_mulA d_mul ed_int (ed_var (pv 1)))) ed_int) ed_int) ed_int) (fun h => ps_set (i := 2) nd (by rfl) (by first | exact Or.inl rfl | exact Or.inr rfl) h)) (dss_one (ds_ret (ed_op op_mod d_mod (ed_op op_addA d_add (ed_op op_addA d_add (ed_op op_mulA d_mul (ed_var (pv 2)) (ed_var (pv 2))) (ed_op op_mulA d_mul ed_int (ed_var (pv 2)))) (ed_var (pv 1))) ed_int)))))
theorem sc_law_drawn : FnScope ["_law_number", "_law_k", "_law_drawn_here"] ["_law_number", "_law_k"] (C8.fnScope (topS 43)) := C8.fnScope_by (by decide +kernel)
theorem w_law_drawn {f : Addr} {fd : FuncData} (F : C8.Def K mg "_law_drawn" (topS 43) f fd) (b : Binds K fd ["_law_number", "_law_k"] []) (Z : Bl mg) : FnOk P w K mg base C8.CX0 1 f fd ["_law_number", "_law_k"] (spD 2 m_law_drawn K) := by
  refine fn_d (g := b_law_drawn) (n := 1) F.fn sc_law_drawn rfl (fun cdv A outer s H E hr => by
    have nd := sc_law_drawn.nd
    exact (dss_cons (ds_set (ed_op op_mod d_mod (ed_op op_mulA d_mul (ed_op op_addA d_add (ed_op op_addA d_add (ed_var (pv 0)) (ed_op op_mulA d_mul ed_int (ed_var (pv 1)))) ed_int) ed_int) ed_int) (fun h => ps_set (i := 2) nd (by rfl) (by first | exact Or.inl rfl | exact Or.inr rfl) h)) (dss_one (ds_ret (ed_op op_mod d_mod (ed_op op_addA d_add (ed_op op_addA d_add (ed_op op_mulA d_mul (ed_var (pv 2)) (ed_var (pv 2))) (ed_op op_mulA d_mul ed_int (ed_var (pv 2)))) (ed_var (pv 1))) ed_int)))))
theorem sc_law_table : FnScope ["_law_number", "_law_by_here", "_law_rows", "_law_columns", "_law_kind", "_law_found", "_law_row", "_law_line", "_law_at", "_law_drawn_here", "_law_part"] ["_law_number", "_law_by_here", "_law_rows", "_law_columns"] (C8.fnScope (topS 44)) := C8.fnScope_by (by decide +kernel)
theorem w_law_table {f : Addr} {fd : FuncData} (F : C8.Def K mg "_law_table" (topS 44) f fd) (b : Binds K fd ["_law_number", "_law_by_here", "_law_rows", "_law_columns"] []) (Z : Bl mg) (c__law_drawn : C8.Cal P w K mg base 1 "_law_drawn" (spD 2 m_law_drawn K) []) : FnOk P w K mg base C8.CX0 2 f fd ["_law_number", "_law_by_here", "_law_rows", "_law_columns"] (spD 4 m_law_table K) := by
  refine fn_d (g := b_law_table) (n := 7) F.fn sc_law_table rfl (fun cdv A outer s H E hr => by
    have nd := sc_law_table.nd
    exact (dss_cons (ds_set (ed_op op_mod d_mod (ed_var (pv 0)) ed_int) (fun h => ps_set (i := 4) nd (by rfl) (by first | exact Or.inl rfl | exact Or.inr rfl) h)) (dss_cons (ds_setN (en_lst da_nil) (fun h => ps_set (i := 5) nd (by rfl) (by first | exact Or.inl rfl | exact Or.inr rfl) h)) (dss_cons (ds_for [6, 7, 8, 9, 10] PassesOwn.never rfl (di_rg1 (by rfl) Z.range (da_cons (ed_var (pv 2)) da_nil)) (dg_name (pg_name nd (by rfl) (by first | exact Or.inl rfl | exact Or.inr rfl))) (dss_cons (ds_setN (en_lst da_nil) (fun h => ps_set (i := 7) nd (by rfl) (by first | exact Or.inl rfl | exact Or.inr rfl) h)) (dss_cons (ds_for [8, 9, 10] PassesOwn.never rfl (di_rg1 (by rfl) Z.range (da_cons (ed_var (pv 3)) da_nil)) (dg_name (pg_name nd (by rfl) (by first | exact Or.inl rfl | exact Or.inr rfl))) (dss_cons (ds_set (ed_op op_fdiv d_div (ed_call c__law_drawn hr (by decide) (by rfl) (da_cons (ed_var (pv 0)) (da_cons (ed_op op_addA d_add (ed_op op_mulA d_mul ed_int (ed_var (pv 6))) (ed_var (pv 8))) da_nil)) (sl_cons (sl_cons sl_nil))) ed_int) (fun h => ps_set (i := 9) nd (by rfl) (by first | exact Or.inl rfl | exact Or.inr rfl) h)) (dss_cons (ds_set (ed_op op_mod d_mod (ed_var (pv 9)) (ed_var (pv 1))) (fun h => ps_set (i := 10) nd (by rfl) (by first | exact Or.inl rfl | exact Or.inr rfl) h)) (dss_cons (ds_if ((dw_and (dt_cmp (op_eqD (room64 hr)) d_eq (ed_var (pv 4)) ed_int (nomark _)) (dw_and1 (dt_cmp op_gt d_cmp (ed_op op_mod d_mod (ed_op op_fdiv d_div (ed_var (pv 9)) ed_int) ed_int) ed_int (nomark _))))).dt (dss_one (ds_set ed_int (fun h => ps_set (i := 10) nd (by rfl) (by first | exact Or.inl rfl | exact Or.inr rfl) h))) dss_nil) (dss_cons (ds_if ((dw_and (dt_cmp (op_eqD (room64 hr)) d_eq (ed_var (pv 4)) ed_int (nomark _)) (dw_and1 (dt_cmp op_gt d_cmp (ed_var (pv 6)) (ed_var (pv 8)) (nomark _))))).dt (dss_one (ds_set ed_int (fun h => ps_set (i := 10) nd (by rfl) (by first | exact Or.inl rfl | exact Or.inr rfl) h))) dss_nil) (dss_cons (ds_if ((dw_and (dt_cmp (op_eqD (room64 hr)) d_eq (ed_var (pv 4)) ed_int (nomark _)) (dw_and1 (dt_cmp (op_eqD (room64 hr)) d_eq (ed_var (pv 6)) (ed_var (pv 8)) (nomark _))))).dt (dss_one (ds_set (ed_op op_mod d_mod (ed_op op_fdiv d_div (ed_var (pv 0)) ed_int) (ed_var (pv 1))) (fun h => ps_set (i := 10) nd (by rfl) (by first | exact Or.inl rfl | exact Or.inr rfl) h))) dss_nil) (dss_one (ds_app (ed_var (pv 10)) (fun h => ps_expr (pe_bm PySem.F.plainAttrs_list PySem.F.slot_list_append PySem.F.type_list_append mt_append (pv 7) (pa_cons h pa_nil))))))))))) (dss_one (ds_app (ed_cbL (fun h => pe_callTy call_tuple_of (by rfl) Z.tuple PyProof.Rows.boot_tuple h) d_tupL (el_var (pv 7))) (fun h => ps_expr (pe_bm PySem.F.plainAttrs_list PySem.F.slot_list_append PySem.F.type_list_append mt_append (pv 5) (pa_cons h pa_nil)))))))) (dss_one (ds_ret (ed_cbL (fun h => pe_callTy call_tuple_of (by rfl) Z.tuple PyProof.Rows.boot_tuple h) d_tupL (el_var (pv 5)))))))))
theorem sc_law_by : FnScope ["_law_number"] ["_law_number"] (C8.fnScope (topS 48)) := C8.fnScope_by (by decide +kernel)
theorem w_law_by {f : Addr} {fd : FuncData} (F : C8.Def K mg "_law_by" (topS 48) f fd) (b : Binds K fd ["_law_number"] []) (Z : Bl mg) : FnOk P w K mg base C8.CX0 1 f fd ["_law_number"] (spD 1 m_law_by K) := by
  refine fn_d (g := b_law_by) (n := 0) F.fn sc_law_by rfl (fun cdv A outer s H E hr => by
    have nd := sc_law_by.nd
    exact (dss_one (ds_ret (ed_ix (ed_tup (da_cons ed_int (da_cons ed_int (da_cons ed_int da_nil)))) (ed_op op_mod d_mod (ed_var (pv 0)) ed_int) (fun _ _ => rfl)))))
theorem sc_law : FnScope ["_law_script", "_law_number", "_law_by_here", "_law_rows", "_law_columns", "_law_a", "_law_b", "_law_x", "_law_turn", "_law_got", "_law_many", "_law_place", "_law_text", "_law_k", "#tab"] ["_law_script"] (C8.fnScope (topS 51)) := C8.fnScope_by (by decide +kernel)
theorem w_law {f cL T CT : Addr} {fd : FuncData} {CC : Nat → Addr} (F : C8.Def K mg "law" (topS 51) f fd) (hc : fd.code = .ref cL) (TB : LamX.TabB base mg cL T) (TT : Tells K mg CC CT) (b : Binds K fd ["_law_script"] []) (Z : Bl mg) (c__law_mixed : C8.Cal P w K mg base 2 "_law_mixed" (spD 2 m_law_mixed K) []) (c__law_by : C8.Cal P w K mg base 1 "_law_by" (spD 1 m_law_by K) []) (c__law_table : C8.Cal P w K mg base 2 "_law_table" (spD 4 m_law_table K) []) (c_rank : C8.Cal P w K mg base 3 "rank" (spD 2 m_rank K) []) (c_worth : C8.Cal P w K mg base 7 "worth" (spD 2 (m_worth 6) K) []) (c_many_carriers : C8.Cal P w K mg base 6 "many_carriers" (spD 3 m_many_carriers K) []) (c_place_of : C8.Cal P w K mg base 6 "place_of" (spD 4 (mOk m_place_of) K) []) (c_carries : C8.Cal P w K mg base 3 "carries" (spD 4 m_carries K) []) (c_table_text : C8.Cal P w K mg base 1 "table_text" (spD 1 m_table_text K) []) (x_undone : XCal P w K mg base 4 "undone" 2 m_undone (CC 0)) (x_carrier_at : XCal P w K mg base 6 "carrier_at" 4 m_carrier_at (CC 1)) (x_place_of : XCal P w K mg base 6 "place_of" 4 m_place_of (CC 1)) (x_read_table : XCal P w K mg base 3 "read_table" 2 m_read_table (CC 2)) : FnOk P w K mg base C8.CX0 9 f fd ["_law_script"] (spT 1 (m_law T) T K) := by
  refine fn_t (g := b_law T) (n := 13) F.fn hc sc_law rfl (fun A outer s H E hr => by
    have nd := sc_law.nd
    have MM : Mkr (cxOf C8.CX0 P w K mg base ["_law_script", "_law_number", "_law_by_here", "_law_rows", "_law_columns", "_law_a", "_law_b", "_law_x", "_law_turn", "_law_got", "_law_many", "_law_place", "_law_text", "_law_k", "#tab"] "law" (C8.fnScope (topS 51)) f (.ref cL) A outer s H E).nox T := ⟨⟨cL, rfl, TB⟩, rfl⟩
    exact (dss_cons (ds_set (ed_call c__law_mixed hr (by decide) (by rfl) (da_cons (ed_var (pv 0)) (da_cons ed_int da_nil)) (sl_cons (sl_cons sl_nil))) (fun h => ps_set (i := 1) nd (by rfl) (by first | exact Or.inl rfl | exact Or.inr rfl) h)) (dss_cons (ds_set (ed_call c__law_by hr (by decide) (by rfl) (da_cons (ed_var (pv 1)) da_nil) (sl_cons sl_nil)) (fun h => ps_set (i := 2) nd (by rfl) (by first | exact Or.inl rfl | exact Or.inr rfl) h)) (dss_cons (ds_asg ((en_lc (own := [("_law_k", 13)]) rfl nd (di_rg1 (by rfl) Z.range (da_cons ed_int da_nil)).c (blkOk_by (by kernel_rfl)) (fun _ _ _ _ _ => (dg_name (pg_name nd (by rfl) (by first | exact Or.inl rfl | exact Or.inr rfl)))) (fun _ _ _ _ _ => dts_nil) (fun _ _ _ _ _ => (ed_op op_addA d_add ed_int (ed_op op_mod d_mod (ed_op op_fdiv d_div (ed_var (pv 1)) (ed_ix (ed_tup (da_cons ed_int (da_cons ed_int da_nil))) (ed_var (pv 13)) (fun _ _ => rfl))) ed_int))) (by decide))).ed (dg_lst rfl (dgs_cons (dg_name (pg_name nd (by rfl) (by first | exact Or.inl rfl | exact Or.inr rfl))) (dgs_cons (dg_name (pg_name nd (by rfl) (by first | exact Or.inl rfl | exact Or.inr rfl))) dgs_nil)) (gl_cons (gl_cons gl_nil))) (fun h h2 => ps_asg h h2)) (dss_cons (ds_set (ed_call c__law_table hr (by decide) (by rfl) (da_cons (ed_call c__law_mixed hr (by decide) (by rfl) (da_cons (ed_var (pv 0)) (da_cons ed_int da_nil)) (sl_cons (sl_cons sl_nil))) (da_cons (ed_var (pv 2)) (da_cons (ed_var (pv 3)) (da_cons (ed_var (pv 3)) da_nil)))) (sl_cons (sl_cons (sl_cons (sl_cons sl_nil))))) (fun h => ps_set (i := 5) nd (by rfl) (by first | exact Or.inl rfl | exact Or.inr rfl) h)) (dss_cons (ds_set (ed_call c__law_table hr (by decide) (by rfl) (da_cons (ed_call c__law_mixed hr (by decide) (by rfl) (da_cons (ed_var (pv 0)) (da_cons ed_int da_nil)) (sl_cons (sl_cons sl_nil))) (da_cons (ed_var (pv 2)) (da_cons (ed_var (pv 4)) (da_cons (ed_var (pv 4)) da_nil)))) (sl_cons (sl_cons (sl_cons (sl_cons sl_nil))))) (fun h => ps_set (i := 6) nd (by rfl) (by first | exact Or.inl rfl | exact Or.inr rfl) h)) (dss_cons (ds_set (ed_call c__law_table hr (by decide) (by rfl) (da_cons (ed_call c__law_mixed hr (by decide) (by rfl) (da_cons (ed_var (pv 0)) (da_cons ed_int da_nil)) (sl_cons (sl_cons sl_nil))) (da_cons (ed_var (pv 2)) (da_cons (ed_var (pv 3)) (da_cons (ed_var (pv 4)) da_nil)))) (sl_cons (sl_cons (sl_cons (sl_cons sl_nil))))) (fun h => ps_set (i := 7) nd (by rfl) (by first | exact Or.inl rfl | exact Or.inr rfl) h)) (dss_cons (ds_for [8, 9, 10, 11, 12] PassesOwn.never rfl (di_rg1 (by rfl) Z.range (da_cons ed_int da_nil)) (dg_name (pg_name nd (by rfl) (by first | exact Or.inl rfl | exact Or.inr rfl))) (dss_cons (ds_set (ed_told (it := 14) (k := 4) TT MM (by decide) (hr.mono (by decide)) (by rfl) (LamX.lamS_by (by kernel_rfl)) rfl (fun _ _ _ _ _ => rfl) (fun E A out s1 H1 f c hr => pe_deedx x_undone hr (by rfl) (da_cons (ed_var (pv 2)) (da_cons (ed_var (pv 5)) da_nil))) (sl_cons (sl_cons sl_nil))) (fun h => ps_set (i := 9) nd (by rfl) (by first | exact Or.inl rfl | exact Or.inr rfl) h)) (dss_cons (ds_if ((dw_or (dt_cmp (op_neD (room64 hr)) d_ne (ed_cmp (op_eqD (room64 hr)) d_eq (ed_var (pv 9)) (ed_tup (da_cons ed_str (da_cons ed_bl da_nil))) (nomark _)) (ed_cmp op_lt d_cmp (ed_call c_rank hr (by decide) (by rfl) (da_cons (ed_var (pv 2)) (da_cons (ed_var (pv 5)) da_nil)) (sl_cons (sl_cons sl_nil))) (ed_var (pv 3)) (nomark _)) (nomark _)) (dw_or1 (dt_cmp (op_neD (room64 hr)) d_ne (ed_cmp op_lt d_cmp (ed_call c_rank hr (by decide) (by rfl) (da_cons (ed_var (pv 2)) (da_cons (ed_var (pv 5)) da_nil)) (sl_cons (sl_cons sl_nil))) (ed_var (pv 3)) (nomark _)) (ed_cmp (op_eqD (room64 hr)) d_eq (ed_call c_worth hr (by decide) (by rfl) (da_cons (ed_var (pv 2)) (da_cons (ed_var (pv 5)) da_nil)) (sl_cons (sl_cons sl_nil))) ed_int (nomark _)) (nomark _))))).dt (dss_one (ds_ret ed_bl)) dss_nil) (dss_cons (ds_set (ed_call c_many_carriers hr (by decide) (by rfl) (da_cons (ed_var (pv 2)) (da_cons (ed_var (pv 5)) (da_cons (ed_var (pv 6)) da_nil))) (sl_cons (sl_cons (sl_cons sl_nil)))) (fun h => ps_set (i := 10) nd (by rfl) (by first | exact Or.inl rfl | exact Or.inr rfl) h)) (dss_cons (ds_for [9, 11] PassesOwn.never rfl (di_seq (ed_tup (da_cons ed_int (da_cons (ed_op op_sub d_sub (ed_var (pv 10)) ed_int) (da_cons (ed_var (pv 10)) (da_cons (ed_neg ed_int) (da_cons (ed_op op_addA d_add (ed_var (pv 10)) ed_int) da_nil))))))) (dg_name (pg_name nd (by rfl) (by first | exact Or.inl rfl | exact Or.inr rfl))) (dss_cons (ds_set (ed_told (it := 14) (k := 6) TT MM (by decide) (hr.mono (by decide)) (by rfl) (LamX.lamS_by (by kernel_rfl)) rfl (fun _ _ _ _ _ => rfl) (fun E A out s1 H1 f c hr => pe_deedx x_carrier_at hr (by rfl) (da_cons (ed_var (pv 2)) (da_cons (ed_var (pv 5)) (da_cons (ed_var (pv 6)) (da_cons (ed_var (pv 11)) da_nil))))) (sl_cons (sl_cons (sl_cons (sl_cons sl_nil))))) (fun h => ps_set (i := 9) nd (by rfl) (by first | exact Or.inl rfl | exact Or.inr rfl) h)) (dss_cons (ds_if ((dw_or (dt_cmp (op_neD (room64 hr)) d_ne (ed_cmp (op_eqD (room64 hr)) d_eq (ed_ix (ed_var (pv 9)) ed_int (fun _ _ => rfl)) ed_str (nomark _)) (ed_chain op_le op_lt d_cmp d_cmp ed_int (ed_var (pv 11)) (ed_var (pv 10))) (nomark _)) (dw_or1 (dt_cmp (op_eqD (room64 hr)) d_eq (ed_var (pv 9)) (ed_tup (da_cons ed_str (da_cons ed_bl da_nil))) (nomark _))))).dt (dss_one (ds_ret ed_bl)) dss_nil) (dss_one (ds_if ((dw_and (dt_cmp (op_eqD (room64 hr)) d_eq (ed_ix (ed_var (pv 9)) ed_int (fun _ _ => rfl)) ed_str (nomark _)) (dw_and1 (dt_cmp (op_neD (room64 hr)) d_ne (ed_call c_place_of hr (by decide) (by rfl) (da_cons (ed_var (pv 2)) (da_cons (ed_var (pv 5)) (da_cons (ed_var (pv 6)) (da_cons (ed_ix (ed_var (pv 9)) ed_int (fun _ _ => rfl)) da_nil)))) (sl_cons (sl_cons (sl_cons (sl_cons sl_nil))))) (ed_var (pv 11)) (nomark _))))).dt (dss_one (ds_ret ed_bl)) dss_nil))))) (dss_cons (ds_set (ed_told (it := 14) (k := 6) TT MM (by decide) (hr.mono (by decide)) (by rfl) (LamX.lamS_by (by kernel_rfl)) rfl (fun _ _ _ _ _ => rfl) (fun E A out s1 H1 f c hr => pe_deedx x_place_of hr (by rfl) (da_cons (ed_var (pv 2)) (da_cons (ed_var (pv 5)) (da_cons (ed_var (pv 6)) (da_cons (ed_var (pv 7)) da_nil))))) (sl_cons (sl_cons (sl_cons (sl_cons sl_nil))))) (fun h => ps_set (i := 9) nd (by rfl) (by first | exact Or.inl rfl | exact Or.inr rfl) h)) (dss_cons (ds_if ((dw_or (dt_cmp (op_neD (room64 hr)) d_ne (ed_cmp (op_eqD (room64 hr)) d_eq (ed_var (pv 9)) (ed_tup (da_cons ed_str (da_cons ed_bl da_nil))) (nomark _)) (ed_not (ed_call c_carries hr (by decide) (by rfl) (da_cons (ed_var (pv 2)) (da_cons (ed_var (pv 5)) (da_cons (ed_var (pv 6)) (da_cons (ed_var (pv 7)) da_nil)))) (sl_cons (sl_cons (sl_cons (sl_cons sl_nil)))))) (nomark _)) (dw_or1 (dt_cmp (op_eqD (room64 hr)) d_eq (ed_var (pv 9)) (ed_tup (da_cons ed_str (da_cons ed_bl da_nil))) (nomark _))))).dt (dss_one (ds_ret ed_bl)) dss_nil) (dss_one (ds_for [9, 12] PassesOwn.never rfl (di_seq (ed_tup (da_cons (ed_call c_table_text hr (by decide) (by rfl) (da_cons (ed_var (pv 7)) da_nil) (sl_cons sl_nil)) (da_cons (ed_op op_addA d_add (ed_call c_table_text hr (by decide) (by rfl) (da_cons (ed_var (pv 7)) da_nil) (sl_cons sl_nil)) ed_str) (da_cons ed_str (da_cons ed_str (da_cons ed_str (da_cons (ed_op op_addA d_add (ed_revS (ed_call c_table_text hr (by decide) (by rfl) (da_cons (ed_var (pv 7)) da_nil) (sl_cons sl_nil))) ed_str) da_nil)))))))) (dg_name (pg_name nd (by rfl) (by first | exact Or.inl rfl | exact Or.inr rfl))) (dss_cons (ds_set (ed_told (it := 14) (k := 3) TT MM (by decide) (hr.mono (by decide)) (by rfl) (LamX.lamS_by (by kernel_rfl)) rfl (fun _ _ _ _ _ => rfl) (fun E A out s1 H1 f c hr => pe_deedx x_read_table hr (by rfl) (da_cons (ed_var (pv 12)) (da_cons (ed_var (pv 2)) da_nil))) (sl_cons (sl_cons sl_nil))) (fun h => ps_set (i := 9) nd (by rfl) (by first | exact Or.inl rfl | exact Or.inr rfl) h)) (dss_cons (ds_if ((dw_or ((dw_and (dt_cmp (op_eqD (room64 hr)) d_eq (ed_ix (ed_var (pv 9)) ed_int (fun _ _ => rfl)) ed_str (nomark _)) (dw_and1 (dt_cmp (op_neD (room64 hr)) d_ne (ed_call c_table_text hr (by decide) (by rfl) (da_cons (ed_ix (ed_var (pv 9)) ed_int (fun _ _ => rfl)) da_nil) (sl_cons sl_nil)) (ed_var (pv 12)) (nomark _))))).dt (dw_or1 (dt_cmp (op_eqD (room64 hr)) d_eq (ed_var (pv 9)) (ed_tup (da_cons ed_str (da_cons ed_bl da_nil))) (nomark _))))).dt (dss_one (ds_ret ed_bl)) dss_nil) (dss_one (ds_if (dt_cmp (op_neD (room64 hr)) d_ne (ed_cmp (op_eqD (room64 hr)) d_eq (ed_ix (ed_var (pv 9)) ed_int (fun _ _ => rfl)) ed_str (nomark _)) (ed_cmp (op_neD (room64 hr)) d_ne (ed_var (pv 12)) (ed_call c_table_text hr (by decide) (by rfl) (da_cons (ed_var (pv 7)) da_nil) (sl_cons sl_nil)) (nomark _)) (nomark _)) (dss_one (ds_ret ed_bl)) dss_nil))))))))))))) (dss_one (ds_ret ed_bl))))))))))
end
theorem ts_told : ToldS (C8.fnScope (topS 50)) := ⟨C8.fnScope_by (by decide +kernel), by decide +kernel, by decide +kernel⟩
theorem w_told : TellsBody (topS 50) := fun hN S M hi hv hs hf h3 act => told_ps hN S M hi hv hs hf rfl rfl h3 act
theorem all_mk {l : PySem.W.OpenLaw} {w : World} {K : PySem.W.Frag} {h : Heap} {mg : Str → Option Value} {fa : Addr} (X : K.In h) (G : h.Ns mainGlobals mg) (hfa : mg "law" = some (.ref fa)) (own : LamX.OwnTab K fa h) (hlaw : ∀ (T : Addr) (ns : List Int), ns.length ≤ 63 → m_law T [scrD ns] = some (.bool true))
    {f_is_rest : Addr} {od_is_rest an_is_rest : Option Addr} {sl_is_rest : Array (Option Value)} {oc_is_rest kV_is_rest dc_is_rest pm_is_rest cd_is_rest ct_is_rest : Value}
    {f_is_table : Addr} {od_is_table an_is_table : Option Addr} {sl_is_table : Array (Option Value)} {oc_is_table kV_is_table dc_is_table pm_is_table cd_is_table ct_is_table : Value}
    {f_plus : Addr} {od_plus an_plus : Option Addr} {sl_plus : Array (Option Value)} {oc_plus kV_plus dc_plus pm_plus cd_plus ct_plus : Value}
    {f_scaled : Addr} {od_scaled an_scaled : Option Addr} {sl_scaled : Array (Option Value)} {oc_scaled kV_scaled dc_scaled pm_scaled cd_scaled ct_scaled : Value}
    {f_turned : Addr} {od_turned an_turned : Option Addr} {sl_turned : Array (Option Value)} {oc_turned kV_turned dc_turned pm_turned cd_turned ct_turned : Value}
    {f_times : Addr} {od_times an_times : Option Addr} {sl_times : Array (Option Value)} {oc_times kV_times dc_times pm_times cd_times ct_times : Value}
    {f_unit : Addr} {od_unit an_unit : Option Addr} {sl_unit : Array (Option Value)} {oc_unit kV_unit dc_unit pm_unit cd_unit ct_unit : Value}
    {f_inverse : Addr} {od_inverse an_inverse : Option Addr} {sl_inverse : Array (Option Value)} {oc_inverse kV_inverse dc_inverse pm_inverse cd_inverse ct_inverse : Value}
    {f_less : Addr} {od_less an_less : Option Addr} {sl_less : Array (Option Value)} {oc_less kV_less dc_less pm_less cd_less ct_less : Value}
    {f_first_of : Addr} {od_first_of an_first_of : Option Addr} {sl_first_of : Array (Option Value)} {oc_first_of kV_first_of dc_first_of pm_first_of cd_first_of ct_first_of : Value}
    {f_reduced : Addr} {od_reduced an_reduced : Option Addr} {sl_reduced : Array (Option Value)} {oc_reduced kV_reduced dc_reduced pm_reduced cd_reduced ct_reduced : Value}
    {f_rank : Addr} {od_rank an_rank : Option Addr} {sl_rank : Array (Option Value)} {oc_rank kV_rank dc_rank pm_rank cd_rank ct_rank : Value}
    {f_undone : Addr} {od_undone an_undone : Option Addr} {sl_undone : Array (Option Value)} {oc_undone kV_undone dc_undone pm_undone cd_undone ct_undone : Value}
    {f_without_place : Addr} {od_without_place an_without_place : Option Addr} {sl_without_place : Array (Option Value)} {oc_without_place kV_without_place dc_without_place pm_without_place cd_without_place ct_without_place : Value}
    {f_worth : Addr} {od_worth an_worth : Option Addr} {sl_worth : Array (Option Value)} {oc_worth kV_worth dc_worth pm_worth cd_worth ct_worth : Value}
    {f_as_row : Addr} {od_as_row an_as_row : Option Addr} {sl_as_row : Array (Option Value)} {oc_as_row kV_as_row dc_as_row pm_as_row cd_as_row ct_as_row : Value}
    {f_as_table : Addr} {od_as_table an_as_table : Option Addr} {sl_as_table : Array (Option Value)} {oc_as_table kV_as_table dc_as_table pm_as_table cd_as_table ct_as_table : Value}
    {f_noughts : Addr} {od_noughts an_noughts : Option Addr} {sl_noughts : Array (Option Value)} {oc_noughts kV_noughts dc_noughts pm_noughts cd_noughts ct_noughts : Value}
    {f_carries : Addr} {od_carries an_carries : Option Addr} {sl_carries : Array (Option Value)} {oc_carries kV_carries dc_carries pm_carries cd_carries ct_carries : Value}
    {f_demands : Addr} {od_demands an_demands : Option Addr} {sl_demands : Array (Option Value)} {oc_demands kV_demands dc_demands pm_demands cd_demands ct_demands : Value}
    {f_common_carriers : Addr} {od_common_carriers an_common_carriers : Option Addr} {sl_common_carriers : Array (Option Value)} {oc_common_carriers kV_common_carriers dc_common_carriers pm_common_carriers cd_common_carriers ct_common_carriers : Value}
    {f_carriers : Addr} {od_carriers an_carriers : Option Addr} {sl_carriers : Array (Option Value)} {oc_carriers kV_carriers dc_carriers pm_carriers cd_carriers ct_carriers : Value}
    {f_many_of : Addr} {od_many_of an_many_of : Option Addr} {sl_many_of : Array (Option Value)} {oc_many_of kV_many_of dc_many_of pm_many_of cd_many_of ct_many_of : Value}
    {f_many_carriers : Addr} {od_many_carriers an_many_carriers : Option Addr} {sl_many_carriers : Array (Option Value)} {oc_many_carriers kV_many_carriers dc_many_carriers pm_many_carriers cd_many_carriers ct_many_carriers : Value}
    {f_carrier_at : Addr} {od_carrier_at an_carrier_at : Option Addr} {sl_carrier_at : Array (Option Value)} {oc_carrier_at kV_carrier_at dc_carrier_at pm_carrier_at cd_carrier_at ct_carrier_at : Value}
    {f_place_of : Addr} {od_place_of an_place_of : Option Addr} {sl_place_of : Array (Option Value)} {oc_place_of kV_place_of dc_place_of pm_place_of cd_place_of ct_place_of : Value}
    {f_table_text : Addr} {od_table_text an_table_text : Option Addr} {sl_table_text : Array (Option Value)} {oc_table_text kV_table_text dc_table_text pm_table_text cd_table_text ct_table_text : Value}
    {f_read_table : Addr} {od_read_table an_read_table : Option Addr} {sl_read_table : Array (Option Value)} {oc_read_table kV_read_table dc_read_table pm_read_table cd_read_table ct_read_table : Value}
    {f_law_cell_at : Addr} {od_law_cell_at an_law_cell_at : Option Addr} {sl_law_cell_at : Array (Option Value)} {oc_law_cell_at kV_law_cell_at dc_law_cell_at pm_law_cell_at cd_law_cell_at ct_law_cell_at : Value}
    {f_law_mixed : Addr} {od_law_mixed an_law_mixed : Option Addr} {sl_law_mixed : Array (Option Value)} {oc_law_mixed kV_law_mixed dc_law_mixed pm_law_mixed cd_law_mixed ct_law_mixed : Value}
    {f_law_drawn : Addr} {od_law_drawn an_law_drawn : Option Addr} {sl_law_drawn : Array (Option Value)} {oc_law_drawn kV_law_drawn dc_law_drawn pm_law_drawn cd_law_drawn ct_law_drawn : Value}
    {f_law_table : Addr} {od_law_table an_law_table : Option Addr} {sl_law_table : Array (Option Value)} {oc_law_table kV_law_table dc_law_table pm_law_table cd_law_table ct_law_table : Value}
    {f_law_by : Addr} {od_law_by an_law_by : Option Addr} {sl_law_by : Array (Option Value)} {oc_law_by kV_law_by dc_law_by pm_law_by cd_law_by ct_law_by : Value}
    {f_law : Addr} {od_law an_law : Option Addr} {sl_law : Array (Option Value)} {oc_law kV_law dc_law pm_law ct_law : Value}
    {f_law_told : Addr} {od_law_told an_law_told : Option Addr} {sl_law_told : Array (Option Value)} {oc_law_told kV_law_told dc_law_told pm_law_told cd_law_told ct_law_told : Value}
    {tk_FIGURES : Tok}
    {tk_MOST_SIZE : Tok}
    {tk_SLASH : Tok}
    {cL TL C0 C1 C2 CT : Addr} {eL : Value} {ddL : Option Addr} {vsL : Array Value} {slL : Array (Option Value)}
    (a_is_rest : PySem.W.nsIn K mainGlobals "is_rest" = some (some (.ref f_is_rest))) (l_is_rest : K.lookup f_is_rest = some ⟨oc_is_rest, od_is_rest, .func (PySem.W.fnOf "is_rest" "is_rest" (C8.fnArgs (topS 7)) (C8.fnBody (topS 7)) (C8.fnScope (topS 7)) .none kV_is_rest dc_is_rest pm_is_rest an_is_rest cd_is_rest ct_is_rest), sl_is_rest⟩) (e_is_rest : PySem.W.codeIn K cd_is_rest "is_rest" = true) (k_is_rest : PySem.W.keepIn K (.ref f_is_rest) = true)
    (a_is_table : PySem.W.nsIn K mainGlobals "is_table" = some (some (.ref f_is_table))) (l_is_table : K.lookup f_is_table = some ⟨oc_is_table, od_is_table, .func (PySem.W.fnOf "is_table" "is_table" (C8.fnArgs (topS 8)) (C8.fnBody (topS 8)) (C8.fnScope (topS 8)) .none kV_is_table dc_is_table pm_is_table an_is_table cd_is_table ct_is_table), sl_is_table⟩) (e_is_table : PySem.W.codeIn K cd_is_table "is_table" = true) (k_is_table : PySem.W.keepIn K (.ref f_is_table) = true)
    (a_plus : PySem.W.nsIn K mainGlobals "plus" = some (some (.ref f_plus))) (l_plus : K.lookup f_plus = some ⟨oc_plus, od_plus, .func (PySem.W.fnOf "plus" "plus" (C8.fnArgs (topS 9)) (C8.fnBody (topS 9)) (C8.fnScope (topS 9)) .none kV_plus dc_plus pm_plus an_plus cd_plus ct_plus), sl_plus⟩) (e_plus : PySem.W.codeIn K cd_plus "plus" = true) (k_plus : PySem.W.keepIn K (.ref f_plus) = true)
    (a_scaled : PySem.W.nsIn K mainGlobals "scaled" = some (some (.ref f_scaled))) (l_scaled : K.lookup f_scaled = some ⟨oc_scaled, od_scaled, .func (PySem.W.fnOf "scaled" "scaled" (C8.fnArgs (topS 10)) (C8.fnBody (topS 10)) (C8.fnScope (topS 10)) .none kV_scaled dc_scaled pm_scaled an_scaled cd_scaled ct_scaled), sl_scaled⟩) (e_scaled : PySem.W.codeIn K cd_scaled "scaled" = true) (k_scaled : PySem.W.keepIn K (.ref f_scaled) = true)
    (a_turned : PySem.W.nsIn K mainGlobals "turned" = some (some (.ref f_turned))) (l_turned : K.lookup f_turned = some ⟨oc_turned, od_turned, .func (PySem.W.fnOf "turned" "turned" (C8.fnArgs (topS 11)) (C8.fnBody (topS 11)) (C8.fnScope (topS 11)) .none kV_turned dc_turned pm_turned an_turned cd_turned ct_turned), sl_turned⟩) (e_turned : PySem.W.codeIn K cd_turned "turned" = true) (k_turned : PySem.W.keepIn K (.ref f_turned) = true)
    (a_times : PySem.W.nsIn K mainGlobals "times" = some (some (.ref f_times))) (l_times : K.lookup f_times = some ⟨oc_times, od_times, .func (PySem.W.fnOf "times" "times" (C8.fnArgs (topS 12)) (C8.fnBody (topS 12)) (C8.fnScope (topS 12)) .none kV_times dc_times pm_times an_times cd_times ct_times), sl_times⟩) (e_times : PySem.W.codeIn K cd_times "times" = true) (k_times : PySem.W.keepIn K (.ref f_times) = true)
    (a_unit : PySem.W.nsIn K mainGlobals "unit" = some (some (.ref f_unit))) (l_unit : K.lookup f_unit = some ⟨oc_unit, od_unit, .func (PySem.W.fnOf "unit" "unit" (C8.fnArgs (topS 13)) (C8.fnBody (topS 13)) (C8.fnScope (topS 13)) .none kV_unit dc_unit pm_unit an_unit cd_unit ct_unit), sl_unit⟩) (e_unit : PySem.W.codeIn K cd_unit "unit" = true) (k_unit : PySem.W.keepIn K (.ref f_unit) = true)
    (a_inverse : PySem.W.nsIn K mainGlobals "inverse" = some (some (.ref f_inverse))) (l_inverse : K.lookup f_inverse = some ⟨oc_inverse, od_inverse, .func (PySem.W.fnOf "inverse" "inverse" (C8.fnArgs (topS 15)) (C8.fnBody (topS 15)) (C8.fnScope (topS 15)) .none kV_inverse dc_inverse pm_inverse an_inverse cd_inverse ct_inverse), sl_inverse⟩) (e_inverse : PySem.W.codeIn K cd_inverse "inverse" = true) (k_inverse : PySem.W.keepIn K (.ref f_inverse) = true)
    (a_less : PySem.W.nsIn K mainGlobals "less" = some (some (.ref f_less))) (l_less : K.lookup f_less = some ⟨oc_less, od_less, .func (PySem.W.fnOf "less" "less" (C8.fnArgs (topS 16)) (C8.fnBody (topS 16)) (C8.fnScope (topS 16)) .none kV_less dc_less pm_less an_less cd_less ct_less), sl_less⟩) (e_less : PySem.W.codeIn K cd_less "less" = true) (k_less : PySem.W.keepIn K (.ref f_less) = true)
    (a_first_of : PySem.W.nsIn K mainGlobals "first_of" = some (some (.ref f_first_of))) (l_first_of : K.lookup f_first_of = some ⟨oc_first_of, od_first_of, .func (PySem.W.fnOf "first_of" "first_of" (C8.fnArgs (topS 17)) (C8.fnBody (topS 17)) (C8.fnScope (topS 17)) .none kV_first_of dc_first_of pm_first_of an_first_of cd_first_of ct_first_of), sl_first_of⟩) (e_first_of : PySem.W.codeIn K cd_first_of "first_of" = true) (k_first_of : PySem.W.keepIn K (.ref f_first_of) = true)
    (a_reduced : PySem.W.nsIn K mainGlobals "reduced" = some (some (.ref f_reduced))) (l_reduced : K.lookup f_reduced = some ⟨oc_reduced, od_reduced, .func (PySem.W.fnOf "reduced" "reduced" (C8.fnArgs (topS 18)) (C8.fnBody (topS 18)) (C8.fnScope (topS 18)) .none kV_reduced dc_reduced pm_reduced an_reduced cd_reduced ct_reduced), sl_reduced⟩) (e_reduced : PySem.W.codeIn K cd_reduced "reduced" = true) (k_reduced : PySem.W.keepIn K (.ref f_reduced) = true)
    (a_rank : PySem.W.nsIn K mainGlobals "rank" = some (some (.ref f_rank))) (l_rank : K.lookup f_rank = some ⟨oc_rank, od_rank, .func (PySem.W.fnOf "rank" "rank" (C8.fnArgs (topS 19)) (C8.fnBody (topS 19)) (C8.fnScope (topS 19)) .none kV_rank dc_rank pm_rank an_rank cd_rank ct_rank), sl_rank⟩) (e_rank : PySem.W.codeIn K cd_rank "rank" = true) (k_rank : PySem.W.keepIn K (.ref f_rank) = true)
    (a_undone : PySem.W.nsIn K mainGlobals "undone" = some (some (.ref f_undone))) (l_undone : K.lookup f_undone = some ⟨oc_undone, od_undone, .func (PySem.W.fnOf "undone" "undone" (C8.fnArgs (topS 20)) (C8.fnBody (topS 20)) (C8.fnScope (topS 20)) .none kV_undone dc_undone pm_undone an_undone cd_undone ct_undone), sl_undone⟩) (e_undone : PySem.W.codeIn K cd_undone "undone" = true) (k_undone : PySem.W.keepIn K (.ref f_undone) = true)
    (a_without_place : PySem.W.nsIn K mainGlobals "without_place" = some (some (.ref f_without_place))) (l_without_place : K.lookup f_without_place = some ⟨oc_without_place, od_without_place, .func (PySem.W.fnOf "without_place" "without_place" (C8.fnArgs (topS 21)) (C8.fnBody (topS 21)) (C8.fnScope (topS 21)) .none kV_without_place dc_without_place pm_without_place an_without_place cd_without_place ct_without_place), sl_without_place⟩) (e_without_place : PySem.W.codeIn K cd_without_place "without_place" = true) (k_without_place : PySem.W.keepIn K (.ref f_without_place) = true)
    (a_worth : PySem.W.nsIn K mainGlobals "worth" = some (some (.ref f_worth))) (l_worth : K.lookup f_worth = some ⟨oc_worth, od_worth, .func (PySem.W.fnOf "worth" "worth" (C8.fnArgs (topS 22)) (C8.fnBody (topS 22)) (C8.fnScope (topS 22)) .none kV_worth dc_worth pm_worth an_worth cd_worth ct_worth), sl_worth⟩) (e_worth : PySem.W.codeIn K cd_worth "worth" = true) (k_worth : PySem.W.keepIn K (.ref f_worth) = true)
    (a_as_row : PySem.W.nsIn K mainGlobals "as_row" = some (some (.ref f_as_row))) (l_as_row : K.lookup f_as_row = some ⟨oc_as_row, od_as_row, .func (PySem.W.fnOf "as_row" "as_row" (C8.fnArgs (topS 23)) (C8.fnBody (topS 23)) (C8.fnScope (topS 23)) .none kV_as_row dc_as_row pm_as_row an_as_row cd_as_row ct_as_row), sl_as_row⟩) (e_as_row : PySem.W.codeIn K cd_as_row "as_row" = true) (k_as_row : PySem.W.keepIn K (.ref f_as_row) = true)
    (a_as_table : PySem.W.nsIn K mainGlobals "as_table" = some (some (.ref f_as_table))) (l_as_table : K.lookup f_as_table = some ⟨oc_as_table, od_as_table, .func (PySem.W.fnOf "as_table" "as_table" (C8.fnArgs (topS 24)) (C8.fnBody (topS 24)) (C8.fnScope (topS 24)) .none kV_as_table dc_as_table pm_as_table an_as_table cd_as_table ct_as_table), sl_as_table⟩) (e_as_table : PySem.W.codeIn K cd_as_table "as_table" = true) (k_as_table : PySem.W.keepIn K (.ref f_as_table) = true)
    (a_noughts : PySem.W.nsIn K mainGlobals "noughts" = some (some (.ref f_noughts))) (l_noughts : K.lookup f_noughts = some ⟨oc_noughts, od_noughts, .func (PySem.W.fnOf "noughts" "noughts" (C8.fnArgs (topS 25)) (C8.fnBody (topS 25)) (C8.fnScope (topS 25)) .none kV_noughts dc_noughts pm_noughts an_noughts cd_noughts ct_noughts), sl_noughts⟩) (e_noughts : PySem.W.codeIn K cd_noughts "noughts" = true) (k_noughts : PySem.W.keepIn K (.ref f_noughts) = true)
    (a_carries : PySem.W.nsIn K mainGlobals "carries" = some (some (.ref f_carries))) (l_carries : K.lookup f_carries = some ⟨oc_carries, od_carries, .func (PySem.W.fnOf "carries" "carries" (C8.fnArgs (topS 27)) (C8.fnBody (topS 27)) (C8.fnScope (topS 27)) .none kV_carries dc_carries pm_carries an_carries cd_carries ct_carries), sl_carries⟩) (e_carries : PySem.W.codeIn K cd_carries "carries" = true) (k_carries : PySem.W.keepIn K (.ref f_carries) = true)
    (a_demands : PySem.W.nsIn K mainGlobals "demands" = some (some (.ref f_demands))) (l_demands : K.lookup f_demands = some ⟨oc_demands, od_demands, .func (PySem.W.fnOf "demands" "demands" (C8.fnArgs (topS 28)) (C8.fnBody (topS 28)) (C8.fnScope (topS 28)) .none kV_demands dc_demands pm_demands an_demands cd_demands ct_demands), sl_demands⟩) (e_demands : PySem.W.codeIn K cd_demands "demands" = true) (k_demands : PySem.W.keepIn K (.ref f_demands) = true)
    (a_common_carriers : PySem.W.nsIn K mainGlobals "common_carriers" = some (some (.ref f_common_carriers))) (l_common_carriers : K.lookup f_common_carriers = some ⟨oc_common_carriers, od_common_carriers, .func (PySem.W.fnOf "common_carriers" "common_carriers" (C8.fnArgs (topS 29)) (C8.fnBody (topS 29)) (C8.fnScope (topS 29)) .none kV_common_carriers dc_common_carriers pm_common_carriers an_common_carriers cd_common_carriers ct_common_carriers), sl_common_carriers⟩) (e_common_carriers : PySem.W.codeIn K cd_common_carriers "common_carriers" = true) (k_common_carriers : PySem.W.keepIn K (.ref f_common_carriers) = true)
    (a_carriers : PySem.W.nsIn K mainGlobals "carriers" = some (some (.ref f_carriers))) (l_carriers : K.lookup f_carriers = some ⟨oc_carriers, od_carriers, .func (PySem.W.fnOf "carriers" "carriers" (C8.fnArgs (topS 30)) (C8.fnBody (topS 30)) (C8.fnScope (topS 30)) .none kV_carriers dc_carriers pm_carriers an_carriers cd_carriers ct_carriers), sl_carriers⟩) (e_carriers : PySem.W.codeIn K cd_carriers "carriers" = true) (k_carriers : PySem.W.keepIn K (.ref f_carriers) = true)
    (a_many_of : PySem.W.nsIn K mainGlobals "many_of" = some (some (.ref f_many_of))) (l_many_of : K.lookup f_many_of = some ⟨oc_many_of, od_many_of, .func (PySem.W.fnOf "many_of" "many_of" (C8.fnArgs (topS 31)) (C8.fnBody (topS 31)) (C8.fnScope (topS 31)) .none kV_many_of dc_many_of pm_many_of an_many_of cd_many_of ct_many_of), sl_many_of⟩) (e_many_of : PySem.W.codeIn K cd_many_of "many_of" = true) (k_many_of : PySem.W.keepIn K (.ref f_many_of) = true)
    (a_many_carriers : PySem.W.nsIn K mainGlobals "many_carriers" = some (some (.ref f_many_carriers))) (l_many_carriers : K.lookup f_many_carriers = some ⟨oc_many_carriers, od_many_carriers, .func (PySem.W.fnOf "many_carriers" "many_carriers" (C8.fnArgs (topS 32)) (C8.fnBody (topS 32)) (C8.fnScope (topS 32)) .none kV_many_carriers dc_many_carriers pm_many_carriers an_many_carriers cd_many_carriers ct_many_carriers), sl_many_carriers⟩) (e_many_carriers : PySem.W.codeIn K cd_many_carriers "many_carriers" = true) (k_many_carriers : PySem.W.keepIn K (.ref f_many_carriers) = true)
    (a_carrier_at : PySem.W.nsIn K mainGlobals "carrier_at" = some (some (.ref f_carrier_at))) (l_carrier_at : K.lookup f_carrier_at = some ⟨oc_carrier_at, od_carrier_at, .func (PySem.W.fnOf "carrier_at" "carrier_at" (C8.fnArgs (topS 33)) (C8.fnBody (topS 33)) (C8.fnScope (topS 33)) .none kV_carrier_at dc_carrier_at pm_carrier_at an_carrier_at cd_carrier_at ct_carrier_at), sl_carrier_at⟩) (e_carrier_at : PySem.W.codeIn K cd_carrier_at "carrier_at" = true) (k_carrier_at : PySem.W.keepIn K (.ref f_carrier_at) = true)
    (a_place_of : PySem.W.nsIn K mainGlobals "place_of" = some (some (.ref f_place_of))) (l_place_of : K.lookup f_place_of = some ⟨oc_place_of, od_place_of, .func (PySem.W.fnOf "place_of" "place_of" (C8.fnArgs (topS 34)) (C8.fnBody (topS 34)) (C8.fnScope (topS 34)) .none kV_place_of dc_place_of pm_place_of an_place_of cd_place_of ct_place_of), sl_place_of⟩) (e_place_of : PySem.W.codeIn K cd_place_of "place_of" = true) (k_place_of : PySem.W.keepIn K (.ref f_place_of) = true)
    (a_table_text : PySem.W.nsIn K mainGlobals "table_text" = some (some (.ref f_table_text))) (l_table_text : K.lookup f_table_text = some ⟨oc_table_text, od_table_text, .func (PySem.W.fnOf "table_text" "table_text" (C8.fnArgs (topS 38)) (C8.fnBody (topS 38)) (C8.fnScope (topS 38)) .none kV_table_text dc_table_text pm_table_text an_table_text cd_table_text ct_table_text), sl_table_text⟩) (e_table_text : PySem.W.codeIn K cd_table_text "table_text" = true) (k_table_text : PySem.W.keepIn K (.ref f_table_text) = true)
    (a_read_table : PySem.W.nsIn K mainGlobals "read_table" = some (some (.ref f_read_table))) (l_read_table : K.lookup f_read_table = some ⟨oc_read_table, od_read_table, .func (PySem.W.fnOf "read_table" "read_table" (C8.fnArgs (topS 39)) (C8.fnBody (topS 39)) (C8.fnScope (topS 39)) .none kV_read_table dc_read_table pm_read_table an_read_table cd_read_table ct_read_table), sl_read_table⟩) (e_read_table : PySem.W.codeIn K cd_read_table "read_table" = true) (k_read_table : PySem.W.keepIn K (.ref f_read_table) = true)
    (a_law_cell_at : PySem.W.nsIn K mainGlobals "_law_cell_at" = some (some (.ref f_law_cell_at))) (l_law_cell_at : K.lookup f_law_cell_at = some ⟨oc_law_cell_at, od_law_cell_at, .func (PySem.W.fnOf "_law_cell_at" "_law_cell_at" (C8.fnArgs (topS 41)) (C8.fnBody (topS 41)) (C8.fnScope (topS 41)) .none kV_law_cell_at dc_law_cell_at pm_law_cell_at an_law_cell_at cd_law_cell_at ct_law_cell_at), sl_law_cell_at⟩) (e_law_cell_at : PySem.W.codeIn K cd_law_cell_at "_law_cell_at" = true) (k_law_cell_at : PySem.W.keepIn K (.ref f_law_cell_at) = true)
    (a_law_mixed : PySem.W.nsIn K mainGlobals "_law_mixed" = some (some (.ref f_law_mixed))) (l_law_mixed : K.lookup f_law_mixed = some ⟨oc_law_mixed, od_law_mixed, .func (PySem.W.fnOf "_law_mixed" "_law_mixed" (C8.fnArgs (topS 42)) (C8.fnBody (topS 42)) (C8.fnScope (topS 42)) .none kV_law_mixed dc_law_mixed pm_law_mixed an_law_mixed cd_law_mixed ct_law_mixed), sl_law_mixed⟩) (e_law_mixed : PySem.W.codeIn K cd_law_mixed "_law_mixed" = true) (k_law_mixed : PySem.W.keepIn K (.ref f_law_mixed) = true)
    (a_law_drawn : PySem.W.nsIn K mainGlobals "_law_drawn" = some (some (.ref f_law_drawn))) (l_law_drawn : K.lookup f_law_drawn = some ⟨oc_law_drawn, od_law_drawn, .func (PySem.W.fnOf "_law_drawn" "_law_drawn" (C8.fnArgs (topS 43)) (C8.fnBody (topS 43)) (C8.fnScope (topS 43)) .none kV_law_drawn dc_law_drawn pm_law_drawn an_law_drawn cd_law_drawn ct_law_drawn), sl_law_drawn⟩) (e_law_drawn : PySem.W.codeIn K cd_law_drawn "_law_drawn" = true) (k_law_drawn : PySem.W.keepIn K (.ref f_law_drawn) = true)
    (a_law_table : PySem.W.nsIn K mainGlobals "_law_table" = some (some (.ref f_law_table))) (l_law_table : K.lookup f_law_table = some ⟨oc_law_table, od_law_table, .func (PySem.W.fnOf "_law_table" "_law_table" (C8.fnArgs (topS 44)) (C8.fnBody (topS 44)) (C8.fnScope (topS 44)) .none kV_law_table dc_law_table pm_law_table an_law_table cd_law_table ct_law_table), sl_law_table⟩) (e_law_table : PySem.W.codeIn K cd_law_table "_law_table" = true) (k_law_table : PySem.W.keepIn K (.ref f_law_table) = true)
    (a_law_by : PySem.W.nsIn K mainGlobals "_law_by" = some (some (.ref f_law_by))) (l_law_by : K.lookup f_law_by = some ⟨oc_law_by, od_law_by, .func (PySem.W.fnOf "_law_by" "_law_by" (C8.fnArgs (topS 48)) (C8.fnBody (topS 48)) (C8.fnScope (topS 48)) .none kV_law_by dc_law_by pm_law_by an_law_by cd_law_by ct_law_by), sl_law_by⟩) (e_law_by : PySem.W.codeIn K cd_law_by "_law_by" = true) (k_law_by : PySem.W.keepIn K (.ref f_law_by) = true)
    (a_law : PySem.W.nsIn K mainGlobals "law" = some (some (.ref f_law))) (l_law : K.lookup f_law = some ⟨oc_law, od_law, .func (PySem.W.fnOf "law" "law" (C8.fnArgs (topS 51)) (C8.fnBody (topS 51)) (C8.fnScope (topS 51)) .none kV_law dc_law pm_law an_law (.ref cL) ct_law), sl_law⟩) (e_law : PySem.W.codeIn K (.ref cL) "law" = true) (k_law : PySem.W.keepIn K (.ref f_law) = true)
    (a_law_told : PySem.W.nsIn K mainGlobals "_law_told" = some (some (.ref f_law_told))) (l_law_told : K.lookup f_law_told = some ⟨oc_law_told, od_law_told, .func (PySem.W.fnOf "_law_told" "_law_told" (C8.fnArgs (topS 50)) (C8.fnBody (topS 50)) (C8.fnScope (topS 50)) .none kV_law_told dc_law_told pm_law_told an_law_told cd_law_told ct_law_told), sl_law_told⟩) (e_law_told : PySem.W.codeIn K cd_law_told "_law_told" = true) (k_law_told : PySem.W.keepIn K (.ref f_law_told) = true)
    (g_FIGURES : PySem.W.nsIn K mainGlobals "FIGURES" = some (some (.str "01234" tk_FIGURES)))
    (g_MOST_SIZE : PySem.W.nsIn K mainGlobals "MOST_SIZE" = some (some (.int 3 tk_MOST_SIZE)))
    (g_SLASH : PySem.W.nsIn K mainGlobals "SLASH" = some (some (.str "/" tk_SLASH)))
    (z_len : PySem.W.nsIn K mainGlobals "len" = some none)
    (z_zip : PySem.W.nsIn K mainGlobals "zip" = some none)
    (z_range : PySem.W.nsIn K mainGlobals "range" = some none)
    (z_enumerate : PySem.W.nsIn K mainGlobals "enumerate" = some none)
    (z_tuple : PySem.W.nsIn K mainGlobals "tuple" = some none)
    (z_list : PySem.W.nsIn K mainGlobals "list" = some none)
    (z_sum : PySem.W.nsIn K mainGlobals "sum" = some none)
    (z_all : PySem.W.nsIn K mainGlobals "all" = some none)
    (z_any : PySem.W.nsIn K mainGlobals "any" = some none)
    (z_int : PySem.W.nsIn K mainGlobals "int" = some none)
    (z_str : PySem.W.nsIn K mainGlobals "str" = some none)
    (z_bool : PySem.W.nsIn K mainGlobals "bool" = some none)
    (z_min : PySem.W.nsIn K mainGlobals "min" = some none)
    (z_max : PySem.W.nsIn K mainGlobals "max" = some none)
    (z_sorted : PySem.W.nsIn K mainGlobals "sorted" = some none)
    (z_set : PySem.W.nsIn K mainGlobals "set" = some none)
    (z_isinstance : PySem.W.nsIn K mainGlobals "isinstance" = some none)
    (z_ValueError : PySem.W.nsIn K mainGlobals "ValueError" = some none)
    (xL : K.lookup cL = some ⟨eL, ddL, .fields vsL, slL⟩)
    (vL : vsL[11]? = some (.ref TL))
    (hL : PySem.W.codeHdIn K cL TL = true)
    (nL : K.lookup TL = none)
    (aCT : PySem.W.nsIn K mainGlobals "TableError" = some (some (.ref CT)))
    (aC0 : PySem.W.nsIn K mainGlobals "NoUndo" = some (some (.ref C0)))
    (aC1 : PySem.W.nsIn K mainGlobals "NoPlace" = some (some (.ref C1)))
    (aC2 : PySem.W.nsIn K mainGlobals "NoText" = some (some (.ref C2)))
    (hsT : PySem.W.subIn K (.ref CT) (.type "BaseException") = some true)
    (hdT : PySem.W.hasDictIn K CT = true)
    (tT : PySem.W.typeIn K (.ref CT) = some (.type "type"))
    (hn : PySem.W.specialIn K (.builtin "object.__class__") "__get__" = some (some (.builtin "getset_descriptor.__get__")))
    (ht : PySem.W.takesIn K (.builtin "object.__class__") = some true)
    (hg0 : PySem.W.findIn K (.ref C0) "__getattribute__" = some (some (.builtin "BaseException.__getattribute__")))
    (hk0 : PySem.W.findIn K (.ref C0) "__getattr__" = some none)
    (hs0 : PySem.W.subIn K (.ref C0) (.type "BaseException") = some true)
    (hd0 : PySem.W.hasDictIn K C0 = true)
    (ha0 : PySem.W.findIn K (.ref C0) "__class__" = some (some (.builtin "object.__class__")))
    (hm0 : PySem.W.mroIn K C0 (.type "object") = some true)
    (sT0 : PySem.W.subIn K (.ref C0) (.ref CT) = some true)
    (ve0 : PySem.W.kitOne K (.ref C0) (.type "ValueError") = some true)
    (kk00 : PySem.W.kitOne K (.ref C0) (.ref C0) = some true)
    (kk01 : PySem.W.kitOne K (.ref C0) (.ref C1) = some false)
    (kk02 : PySem.W.kitOne K (.ref C0) (.ref C2) = some false)
    (xC0 : PySem.W.excIn K C0 HandSPX.veTail "ValueError.__new__" = true)
    (kC0 : PySem.W.keepIn K (.ref C0) = true)
    (tC0 : PySem.W.typeIn K (.ref C0) = some (.type "type"))
    (hg1 : PySem.W.findIn K (.ref C1) "__getattribute__" = some (some (.builtin "BaseException.__getattribute__")))
    (hk1 : PySem.W.findIn K (.ref C1) "__getattr__" = some none)
    (hs1 : PySem.W.subIn K (.ref C1) (.type "BaseException") = some true)
    (hd1 : PySem.W.hasDictIn K C1 = true)
    (ha1 : PySem.W.findIn K (.ref C1) "__class__" = some (some (.builtin "object.__class__")))
    (hm1 : PySem.W.mroIn K C1 (.type "object") = some true)
    (sT1 : PySem.W.subIn K (.ref C1) (.ref CT) = some true)
    (ve1 : PySem.W.kitOne K (.ref C1) (.type "ValueError") = some true)
    (kk10 : PySem.W.kitOne K (.ref C1) (.ref C0) = some false)
    (kk11 : PySem.W.kitOne K (.ref C1) (.ref C1) = some true)
    (kk12 : PySem.W.kitOne K (.ref C1) (.ref C2) = some false)
    (xC1 : PySem.W.excIn K C1 HandSPX.veTail "ValueError.__new__" = true)
    (kC1 : PySem.W.keepIn K (.ref C1) = true)
    (tC1 : PySem.W.typeIn K (.ref C1) = some (.type "type"))
    (hg2 : PySem.W.findIn K (.ref C2) "__getattribute__" = some (some (.builtin "BaseException.__getattribute__")))
    (hk2 : PySem.W.findIn K (.ref C2) "__getattr__" = some none)
    (hs2 : PySem.W.subIn K (.ref C2) (.type "BaseException") = some true)
    (hd2 : PySem.W.hasDictIn K C2 = true)
    (ha2 : PySem.W.findIn K (.ref C2) "__class__" = some (some (.builtin "object.__class__")))
    (hm2 : PySem.W.mroIn K C2 (.type "object") = some true)
    (sT2 : PySem.W.subIn K (.ref C2) (.ref CT) = some true)
    (ve2 : PySem.W.kitOne K (.ref C2) (.type "ValueError") = some true)
    (kk20 : PySem.W.kitOne K (.ref C2) (.ref C0) = some false)
    (kk21 : PySem.W.kitOne K (.ref C2) (.ref C1) = some false)
    (kk22 : PySem.W.kitOne K (.ref C2) (.ref C2) = some true)
    (xC2 : PySem.W.excIn K C2 HandSPX.veTail "ValueError.__new__" = true)
    (kC2 : PySem.W.keepIn K (.ref C2) = true)
    (tC2 : PySem.W.typeIn K (.ref C2) = some (.type "type")) :
    LamX.LawAtS l w K C8.CX0 9 63 "_law_script" mg fa h := by
  have D_is_rest : C8.Def K mg "is_rest" (topS 7) f_is_rest _ := ⟨⟨oc_is_rest, od_is_rest, .none, kV_is_rest, dc_is_rest, pm_is_rest, an_is_rest, cd_is_rest, ct_is_rest, sl_is_rest, rfl, l_is_rest, e_is_rest⟩, PySem.W.mg_of X G a_is_rest, k_is_rest⟩
  have B_is_rest := C8.Fun.binds (ps := ["thing", "by"]) D_is_rest.fn rfl fun _ _ _ _ _ _ us hl => match us, hl with | [_, _], _ => rfl
  have D_is_table : C8.Def K mg "is_table" (topS 8) f_is_table _ := ⟨⟨oc_is_table, od_is_table, .none, kV_is_table, dc_is_table, pm_is_table, an_is_table, cd_is_table, ct_is_table, sl_is_table, rfl, l_is_table, e_is_table⟩, PySem.W.mg_of X G a_is_table, k_is_table⟩
  have B_is_table := C8.Fun.binds (ps := ["thing", "by"]) D_is_table.fn rfl fun _ _ _ _ _ _ us hl => match us, hl with | [_, _], _ => rfl
  have D_plus : C8.Def K mg "plus" (topS 9) f_plus _ := ⟨⟨oc_plus, od_plus, .none, kV_plus, dc_plus, pm_plus, an_plus, cd_plus, ct_plus, sl_plus, rfl, l_plus, e_plus⟩, PySem.W.mg_of X G a_plus, k_plus⟩
  have B_plus := C8.Fun.binds (ps := ["by", "one", "other"]) D_plus.fn rfl fun _ _ _ _ _ _ us hl => match us, hl with | [_, _, _], _ => rfl
  have D_scaled : C8.Def K mg "scaled" (topS 10) f_scaled _ := ⟨⟨oc_scaled, od_scaled, .none, kV_scaled, dc_scaled, pm_scaled, an_scaled, cd_scaled, ct_scaled, sl_scaled, rfl, l_scaled, e_scaled⟩, PySem.W.mg_of X G a_scaled, k_scaled⟩
  have B_scaled := C8.Fun.binds (ps := ["by", "number", "table"]) D_scaled.fn rfl fun _ _ _ _ _ _ us hl => match us, hl with | [_, _, _], _ => rfl
  have D_turned : C8.Def K mg "turned" (topS 11) f_turned _ := ⟨⟨oc_turned, od_turned, .none, kV_turned, dc_turned, pm_turned, an_turned, cd_turned, ct_turned, sl_turned, rfl, l_turned, e_turned⟩, PySem.W.mg_of X G a_turned, k_turned⟩
  have B_turned := C8.Fun.binds (ps := ["table"]) D_turned.fn rfl fun _ _ _ _ _ _ us hl => match us, hl with | [_], _ => rfl
  have D_times : C8.Def K mg "times" (topS 12) f_times _ := ⟨⟨oc_times, od_times, .none, kV_times, dc_times, pm_times, an_times, cd_times, ct_times, sl_times, rfl, l_times, e_times⟩, PySem.W.mg_of X G a_times, k_times⟩
  have B_times := C8.Fun.binds (ps := ["by", "one", "other"]) D_times.fn rfl fun _ _ _ _ _ _ us hl => match us, hl with | [_, _, _], _ => rfl
  have D_unit : C8.Def K mg "unit" (topS 13) f_unit _ := ⟨⟨oc_unit, od_unit, .none, kV_unit, dc_unit, pm_unit, an_unit, cd_unit, ct_unit, sl_unit, rfl, l_unit, e_unit⟩, PySem.W.mg_of X G a_unit, k_unit⟩
  have B_unit := C8.Fun.binds (ps := ["size"]) D_unit.fn rfl fun _ _ _ _ _ _ us hl => match us, hl with | [_], _ => rfl
  have D_inverse : C8.Def K mg "inverse" (topS 15) f_inverse _ := ⟨⟨oc_inverse, od_inverse, .none, kV_inverse, dc_inverse, pm_inverse, an_inverse, cd_inverse, ct_inverse, sl_inverse, rfl, l_inverse, e_inverse⟩, PySem.W.mg_of X G a_inverse, k_inverse⟩
  have B_inverse := C8.Fun.binds (ps := ["by", "number"]) D_inverse.fn rfl fun _ _ _ _ _ _ us hl => match us, hl with | [_, _], _ => rfl
  have D_less : C8.Def K mg "less" (topS 16) f_less _ := ⟨⟨oc_less, od_less, .none, kV_less, dc_less, pm_less, an_less, cd_less, ct_less, sl_less, rfl, l_less, e_less⟩, PySem.W.mg_of X G a_less, k_less⟩
  have B_less := C8.Fun.binds (ps := ["by", "row", "often", "other"]) D_less.fn rfl fun _ _ _ _ _ _ us hl => match us, hl with | [_, _, _, _], _ => rfl
  have D_first_of : C8.Def K mg "first_of" (topS 17) f_first_of _ := ⟨⟨oc_first_of, od_first_of, .none, kV_first_of, dc_first_of, pm_first_of, an_first_of, cd_first_of, ct_first_of, sl_first_of, rfl, l_first_of, e_first_of⟩, PySem.W.mg_of X G a_first_of, k_first_of⟩
  have B_first_of := C8.Fun.binds (ps := ["row"]) D_first_of.fn rfl fun _ _ _ _ _ _ us hl => match us, hl with | [_], _ => rfl
  have D_reduced : C8.Def K mg "reduced" (topS 18) f_reduced _ := ⟨⟨oc_reduced, od_reduced, .none, kV_reduced, dc_reduced, pm_reduced, an_reduced, cd_reduced, ct_reduced, sl_reduced, rfl, l_reduced, e_reduced⟩, PySem.W.mg_of X G a_reduced, k_reduced⟩
  have B_reduced := C8.Fun.binds (ps := ["by", "rows"]) D_reduced.fn rfl fun _ _ _ _ _ _ us hl => match us, hl with | [_, _], _ => rfl
  have D_rank : C8.Def K mg "rank" (topS 19) f_rank _ := ⟨⟨oc_rank, od_rank, .none, kV_rank, dc_rank, pm_rank, an_rank, cd_rank, ct_rank, sl_rank, rfl, l_rank, e_rank⟩, PySem.W.mg_of X G a_rank, k_rank⟩
  have B_rank := C8.Fun.binds (ps := ["by", "table"]) D_rank.fn rfl fun _ _ _ _ _ _ us hl => match us, hl with | [_, _], _ => rfl
  have D_undone : C8.Def K mg "undone" (topS 20) f_undone _ := ⟨⟨oc_undone, od_undone, .none, kV_undone, dc_undone, pm_undone, an_undone, cd_undone, ct_undone, sl_undone, rfl, l_undone, e_undone⟩, PySem.W.mg_of X G a_undone, k_undone⟩
  have B_undone := C8.Fun.binds (ps := ["by", "table"]) D_undone.fn rfl fun _ _ _ _ _ _ us hl => match us, hl with | [_, _], _ => rfl
  have D_without_place : C8.Def K mg "without_place" (topS 21) f_without_place _ := ⟨⟨oc_without_place, od_without_place, .none, kV_without_place, dc_without_place, pm_without_place, an_without_place, cd_without_place, ct_without_place, sl_without_place, rfl, l_without_place, e_without_place⟩, PySem.W.mg_of X G a_without_place, k_without_place⟩
  have B_without_place := C8.Fun.binds (ps := ["row", "at"]) D_without_place.fn rfl fun _ _ _ _ _ _ us hl => match us, hl with | [_, _], _ => rfl
  have D_worth : C8.Def K mg "worth" (topS 22) f_worth _ := ⟨⟨oc_worth, od_worth, .none, kV_worth, dc_worth, pm_worth, an_worth, cd_worth, ct_worth, sl_worth, rfl, l_worth, e_worth⟩, PySem.W.mg_of X G a_worth, k_worth⟩
  have B_worth := C8.Fun.binds (ps := ["by", "table"]) D_worth.fn rfl fun _ _ _ _ _ _ us hl => match us, hl with | [_, _], _ => rfl
  have D_as_row : C8.Def K mg "as_row" (topS 23) f_as_row _ := ⟨⟨oc_as_row, od_as_row, .none, kV_as_row, dc_as_row, pm_as_row, an_as_row, cd_as_row, ct_as_row, sl_as_row, rfl, l_as_row, e_as_row⟩, PySem.W.mg_of X G a_as_row, k_as_row⟩
  have B_as_row := C8.Fun.binds (ps := ["table"]) D_as_row.fn rfl fun _ _ _ _ _ _ us hl => match us, hl with | [_], _ => rfl
  have D_as_table : C8.Def K mg "as_table" (topS 24) f_as_table _ := ⟨⟨oc_as_table, od_as_table, .none, kV_as_table, dc_as_table, pm_as_table, an_as_table, cd_as_table, ct_as_table, sl_as_table, rfl, l_as_table, e_as_table⟩, PySem.W.mg_of X G a_as_table, k_as_table⟩
  have B_as_table := C8.Fun.binds (ps := ["row", "long"]) D_as_table.fn rfl fun _ _ _ _ _ _ us hl => match us, hl with | [_, _], _ => rfl
  have D_noughts : C8.Def K mg "noughts" (topS 25) f_noughts _ := ⟨⟨oc_noughts, od_noughts, .none, kV_noughts, dc_noughts, pm_noughts, an_noughts, cd_noughts, ct_noughts, sl_noughts, rfl, l_noughts, e_noughts⟩, PySem.W.mg_of X G a_noughts, k_noughts⟩
  have B_noughts := C8.Fun.binds (ps := ["by", "rows", "long"]) D_noughts.fn rfl fun _ _ _ _ _ _ us hl => match us, hl with | [_, _, _], _ => rfl
  have D_carries : C8.Def K mg "carries" (topS 27) f_carries _ := ⟨⟨oc_carries, od_carries, .none, kV_carries, dc_carries, pm_carries, an_carries, cd_carries, ct_carries, sl_carries, rfl, l_carries, e_carries⟩, PySem.W.mg_of X G a_carries, k_carries⟩
  have B_carries := C8.Fun.binds (ps := ["by", "a", "b", "x"]) D_carries.fn rfl fun _ _ _ _ _ _ us hl => match us, hl with | [_, _, _, _], _ => rfl
  have D_demands : C8.Def K mg "demands" (topS 28) f_demands _ := ⟨⟨oc_demands, od_demands, .none, kV_demands, dc_demands, pm_demands, an_demands, cd_demands, ct_demands, sl_demands, rfl, l_demands, e_demands⟩, PySem.W.mg_of X G a_demands, k_demands⟩
  have B_demands := C8.Fun.binds (ps := ["a", "b"]) D_demands.fn rfl fun _ _ _ _ _ _ us hl => match us, hl with | [_, _], _ => rfl
  have D_common_carriers : C8.Def K mg "common_carriers" (topS 29) f_common_carriers _ := ⟨⟨oc_common_carriers, od_common_carriers, .none, kV_common_carriers, dc_common_carriers, pm_common_carriers, an_common_carriers, cd_common_carriers, ct_common_carriers, sl_common_carriers, rfl, l_common_carriers, e_common_carriers⟩, PySem.W.mg_of X G a_common_carriers, k_common_carriers⟩
  have B_common_carriers := C8.Fun.binds (ps := ["by", "pairs"]) D_common_carriers.fn rfl fun _ _ _ _ _ _ us hl => match us, hl with | [_, _], _ => rfl
  have D_carriers : C8.Def K mg "carriers" (topS 30) f_carriers _ := ⟨⟨oc_carriers, od_carriers, .none, kV_carriers, dc_carriers, pm_carriers, an_carriers, cd_carriers, ct_carriers, sl_carriers, rfl, l_carriers, e_carriers⟩, PySem.W.mg_of X G a_carriers, k_carriers⟩
  have B_carriers := C8.Fun.binds (ps := ["by", "a", "b"]) D_carriers.fn rfl fun _ _ _ _ _ _ us hl => match us, hl with | [_, _, _], _ => rfl
  have D_many_of : C8.Def K mg "many_of" (topS 31) f_many_of _ := ⟨⟨oc_many_of, od_many_of, .none, kV_many_of, dc_many_of, pm_many_of, an_many_of, cd_many_of, ct_many_of, sl_many_of, rfl, l_many_of, e_many_of⟩, PySem.W.mg_of X G a_many_of, k_many_of⟩
  have B_many_of := C8.Fun.binds (ps := ["by", "some"]) D_many_of.fn rfl fun _ _ _ _ _ _ us hl => match us, hl with | [_, _], _ => rfl
  have D_many_carriers : C8.Def K mg "many_carriers" (topS 32) f_many_carriers _ := ⟨⟨oc_many_carriers, od_many_carriers, .none, kV_many_carriers, dc_many_carriers, pm_many_carriers, an_many_carriers, cd_many_carriers, ct_many_carriers, sl_many_carriers, rfl, l_many_carriers, e_many_carriers⟩, PySem.W.mg_of X G a_many_carriers, k_many_carriers⟩
  have B_many_carriers := C8.Fun.binds (ps := ["by", "a", "b"]) D_many_carriers.fn rfl fun _ _ _ _ _ _ us hl => match us, hl with | [_, _, _], _ => rfl
  have D_carrier_at : C8.Def K mg "carrier_at" (topS 33) f_carrier_at _ := ⟨⟨oc_carrier_at, od_carrier_at, .none, kV_carrier_at, dc_carrier_at, pm_carrier_at, an_carrier_at, cd_carrier_at, ct_carrier_at, sl_carrier_at, rfl, l_carrier_at, e_carrier_at⟩, PySem.W.mg_of X G a_carrier_at, k_carrier_at⟩
  have B_carrier_at := C8.Fun.binds (ps := ["by", "a", "b", "place"]) D_carrier_at.fn rfl fun _ _ _ _ _ _ us hl => match us, hl with | [_, _, _, _], _ => rfl
  have D_place_of : C8.Def K mg "place_of" (topS 34) f_place_of _ := ⟨⟨oc_place_of, od_place_of, .none, kV_place_of, dc_place_of, pm_place_of, an_place_of, cd_place_of, ct_place_of, sl_place_of, rfl, l_place_of, e_place_of⟩, PySem.W.mg_of X G a_place_of, k_place_of⟩
  have B_place_of := C8.Fun.binds (ps := ["by", "a", "b", "x"]) D_place_of.fn rfl fun _ _ _ _ _ _ us hl => match us, hl with | [_, _, _, _], _ => rfl
  have D_table_text : C8.Def K mg "table_text" (topS 38) f_table_text _ := ⟨⟨oc_table_text, od_table_text, .none, kV_table_text, dc_table_text, pm_table_text, an_table_text, cd_table_text, ct_table_text, sl_table_text, rfl, l_table_text, e_table_text⟩, PySem.W.mg_of X G a_table_text, k_table_text⟩
  have B_table_text := C8.Fun.binds (ps := ["table"]) D_table_text.fn rfl fun _ _ _ _ _ _ us hl => match us, hl with | [_], _ => rfl
  have D_read_table : C8.Def K mg "read_table" (topS 39) f_read_table _ := ⟨⟨oc_read_table, od_read_table, .none, kV_read_table, dc_read_table, pm_read_table, an_read_table, cd_read_table, ct_read_table, sl_read_table, rfl, l_read_table, e_read_table⟩, PySem.W.mg_of X G a_read_table, k_read_table⟩
  have B_read_table := C8.Fun.binds (ps := ["text", "by"]) D_read_table.fn rfl fun _ _ _ _ _ _ us hl => match us, hl with | [_, _], _ => rfl
  have D_law_cell_at : C8.Def K mg "_law_cell_at" (topS 41) f_law_cell_at _ := ⟨⟨oc_law_cell_at, od_law_cell_at, .none, kV_law_cell_at, dc_law_cell_at, pm_law_cell_at, an_law_cell_at, cd_law_cell_at, ct_law_cell_at, sl_law_cell_at, rfl, l_law_cell_at, e_law_cell_at⟩, PySem.W.mg_of X G a_law_cell_at, k_law_cell_at⟩
  have B_law_cell_at := C8.Fun.binds (ps := ["_law_script", "_law_k"]) D_law_cell_at.fn rfl fun _ _ _ _ _ _ us hl => match us, hl with | [_, _], _ => rfl
  have D_law_mixed : C8.Def K mg "_law_mixed" (topS 42) f_law_mixed _ := ⟨⟨oc_law_mixed, od_law_mixed, .none, kV_law_mixed, dc_law_mixed, pm_law_mixed, an_law_mixed, cd_law_mixed, ct_law_mixed, sl_law_mixed, rfl, l_law_mixed, e_law_mixed⟩, PySem.W.mg_of X G a_law_mixed, k_law_mixed⟩
  have B_law_mixed := C8.Fun.binds (ps := ["_law_script", "_law_k"]) D_law_mixed.fn rfl fun _ _ _ _ _ _ us hl => match us, hl with | [_, _], _ => rfl
  have D_law_drawn : C8.Def K mg "_law_drawn" (topS 43) f_law_drawn _ := ⟨⟨oc_law_drawn, od_law_drawn, .none, kV_law_drawn, dc_law_drawn, pm_law_drawn, an_law_drawn, cd_law_drawn, ct_law_drawn, sl_law_drawn, rfl, l_law_drawn, e_law_drawn⟩, PySem.W.mg_of X G a_law_drawn, k_law_drawn⟩
  have B_law_drawn := C8.Fun.binds (ps := ["_law_number", "_law_k"]) D_law_drawn.fn rfl fun _ _ _ _ _ _ us hl => match us, hl with | [_, _], _ => rfl
  have D_law_table : C8.Def K mg "_law_table" (topS 44) f_law_table _ := ⟨⟨oc_law_table, od_law_table, .none, kV_law_table, dc_law_table, pm_law_table, an_law_table, cd_law_table, ct_law_table, sl_law_table, rfl, l_law_table, e_law_table⟩, PySem.W.mg_of X G a_law_table, k_law_table⟩
  have B_law_table := C8.Fun.binds (ps := ["_law_number", "_law_by_here", "_law_rows", "_law_columns"]) D_law_table.fn rfl fun _ _ _ _ _ _ us hl => match us, hl with | [_, _, _, _], _ => rfl
  have D_law_by : C8.Def K mg "_law_by" (topS 48) f_law_by _ := ⟨⟨oc_law_by, od_law_by, .none, kV_law_by, dc_law_by, pm_law_by, an_law_by, cd_law_by, ct_law_by, sl_law_by, rfl, l_law_by, e_law_by⟩, PySem.W.mg_of X G a_law_by, k_law_by⟩
  have B_law_by := C8.Fun.binds (ps := ["_law_number"]) D_law_by.fn rfl fun _ _ _ _ _ _ us hl => match us, hl with | [_], _ => rfl
  have D_law : C8.Def K mg "law" (topS 51) f_law _ := ⟨⟨oc_law, od_law, .none, kV_law, dc_law, pm_law, an_law, .ref cL, ct_law, sl_law, rfl, l_law, e_law⟩, PySem.W.mg_of X G a_law, k_law⟩
  have B_law := C8.Fun.binds (ps := ["_law_script"]) D_law.fn rfl fun _ _ _ _ _ _ us hl => match us, hl with | [_], _ => rfl
  have D_law_told : C8.Def K mg "_law_told" (topS 50) f_law_told _ := ⟨⟨oc_law_told, od_law_told, .none, kV_law_told, dc_law_told, pm_law_told, an_law_told, cd_law_told, ct_law_told, sl_law_told, rfl, l_law_told, e_law_told⟩, PySem.W.mg_of X G a_law_told, k_law_told⟩
  have B_law_told := C8.Fun.binds (ps := ["_law_deed", "_law_kind"]) D_law_told.fn rfl fun _ _ _ _ _ _ us hl => match us, hl with | [_, _], _ => rfl
  have Z : Bl mg := ⟨PySem.W.mg_none_of X G z_len, PySem.W.mg_none_of X G z_zip, PySem.W.mg_none_of X G z_range, PySem.W.mg_none_of X G z_enumerate, PySem.W.mg_none_of X G z_tuple, PySem.W.mg_none_of X G z_list, PySem.W.mg_none_of X G z_sum, PySem.W.mg_none_of X G z_all, PySem.W.mg_none_of X G z_any, PySem.W.mg_none_of X G z_int, PySem.W.mg_none_of X G z_str, PySem.W.mg_none_of X G z_bool, PySem.W.mg_none_of X G z_min, PySem.W.mg_none_of X G z_max, PySem.W.mg_none_of X G z_sorted, PySem.W.mg_none_of X G z_set, PySem.W.mg_none_of X G z_isinstance, PySem.W.mg_none_of X G z_ValueError⟩
  have c_FIGURES := PySem.W.mg_of X G g_FIGURES
  have c_MOST_SIZE := PySem.W.mg_of X G g_MOST_SIZE
  have c_SLASH := PySem.W.mg_of X G g_SLASH
  have ef := hfa.symm.trans (PySem.W.mg_of X G a_law)
  cases ef
  have RF0 : Rfs K mg "NoUndo" C0 := ⟨PySem.W.mg_of X G aC0, xC0, kC0, hs0, tC0⟩
  have RF1 : Rfs K mg "NoPlace" C1 := ⟨PySem.W.mg_of X G aC1, xC1, kC1, hs1, tC1⟩
  have RF2 : Rfs K mg "NoText" C2 := ⟨PySem.W.mg_of X G aC2, xC2, kC2, hs2, tC2⟩
  have KD : Kds K mg (cls3 C0 C1 C2) CT := kds_of (PySem.W.mg_of X G aC0) (PySem.W.mg_of X G aC1) (PySem.W.mg_of X G aC2) (PySem.W.mg_of X G aCT) ⟨hg0, hk0, hs0, hd0, ha0, hn, ht, hm0⟩ ⟨hg1, hk1, hs1, hd1, ha1, hn, ht, hm1⟩ ⟨hg2, hk2, hs2, hd2, ha2, hn, ht, hm2⟩ (PySem.W.exm_ref hsT hdT tT sT0) (PySem.W.exm_ref hsT hdT tT sT1) (PySem.W.exm_ref hsT hdT tT sT2) ve0 ve1 ve2 kk00 kk01 kk02 kk10 kk11 kk12 kk20 kk21 kk22
  have TT : Tells K mg (cls3 C0 C1 C2) CT := ⟨⟨_, f_law_told, _, D_law_told, B_law_told, ts_told, w_told⟩, KD, Z.isinstance, Z.ValueError⟩
  refine ⟨PySem.W.fnOf "law" "law" (C8.fnArgs (topS 51)) (C8.fnBody (topS 51)) (C8.fnScope (topS 51)) .none kV_law dc_law pm_law an_law (.ref cL) ct_law, [(cL, TL)], spT 1 (m_law TL) TL K, fun p hp => by rw [List.mem_singleton.mp hp]; exact own cL TL _ _ _ _ _ _ l_law rfl rfl xL vL, fun p hp => by rw [List.mem_singleton.mp hp]; exact nL, fun p hp => by rw [List.mem_singleton.mp hp]; exact PySem.W.codeHd_of_K X hL, fun s v => .of_eq rfl, fun H a ns hl _ hT hS => sp_endT (hlaw TL ns hl) hS (hT (cL, TL) (List.mem_singleton_self _)), fun base Kb Gb hTB => ?_⟩
  have c_is_rest : C8.Cal l.prog w K mg base 1 "is_rest" (spD 2 m_is_rest K) [] := ⟨f_is_rest, _, _, [], w_is_rest D_is_rest B_is_rest Z, D_is_rest.mgf, D_is_rest.kp, B_is_rest, .nil⟩
  have c_is_table : C8.Cal l.prog w K mg base 2 "is_table" (spD 2 m_is_table K) [] := ⟨f_is_table, _, _, [], w_is_table D_is_table B_is_table Z c_MOST_SIZE c_is_rest, D_is_table.mgf, D_is_table.kp, B_is_table, .nil⟩
  have c_plus : C8.Cal l.prog w K mg base 1 "plus" (spD 3 m_plus K) [] := ⟨f_plus, _, _, [], w_plus D_plus B_plus Z, D_plus.mgf, D_plus.kp, B_plus, .nil⟩
  have c_scaled : C8.Cal l.prog w K mg base 1 "scaled" (spD 3 m_scaled K) [] := ⟨f_scaled, _, _, [], w_scaled D_scaled B_scaled Z, D_scaled.mgf, D_scaled.kp, B_scaled, .nil⟩
  have c_turned : C8.Cal l.prog w K mg base 1 "turned" (spD 1 m_turned K) [] := ⟨f_turned, _, _, [], w_turned D_turned B_turned Z, D_turned.mgf, D_turned.kp, B_turned, .nil⟩
  have c_times : C8.Cal l.prog w K mg base 2 "times" (spD 3 m_times K) [] := ⟨f_times, _, _, [], w_times D_times B_times Z c_turned, D_times.mgf, D_times.kp, B_times, .nil⟩
  have c_unit : C8.Cal l.prog w K mg base 1 "unit" (spD 1 m_unit K) [] := ⟨f_unit, _, _, [], w_unit D_unit B_unit Z, D_unit.mgf, D_unit.kp, B_unit, .nil⟩
  have c_inverse : C8.Cal l.prog w K mg base 1 "inverse" (spD 2 m_inverse K) [] := ⟨f_inverse, _, _, [], w_inverse D_inverse B_inverse Z, D_inverse.mgf, D_inverse.kp, B_inverse, .nil⟩
  have c_less : C8.Cal l.prog w K mg base 1 "less" (spD 4 m_less K) [] := ⟨f_less, _, _, [], w_less D_less B_less Z, D_less.mgf, D_less.kp, B_less, .nil⟩
  have c_first_of : C8.Cal l.prog w K mg base 1 "first_of" (spD 1 m_first_of K) [] := ⟨f_first_of, _, _, [], w_first_of D_first_of B_first_of Z, D_first_of.mgf, D_first_of.kp, B_first_of, .nil⟩
  have c_reduced : C8.Cal l.prog w K mg base 2 "reduced" (spD 2 m_reduced K) [] := ⟨f_reduced, _, _, [], w_reduced D_reduced B_reduced Z c_first_of c_less c_inverse, D_reduced.mgf, D_reduced.kp, B_reduced, .nil⟩
  have c_rank : C8.Cal l.prog w K mg base 3 "rank" (spD 2 m_rank K) [] := ⟨f_rank, _, _, [], w_rank D_rank B_rank Z c_reduced, D_rank.mgf, D_rank.kp, B_rank, .nil⟩
  have x_undone : XCal l.prog w K mg base 4 "undone" 2 m_undone (cls3 C0 C1 C2 0) := ⟨f_undone, _, _, w_undone D_undone B_undone Z RF0 c_rank c_unit c_reduced, D_undone.mgf, D_undone.kp, B_undone⟩
  have c_undone := x_undone.cal
  have c_without_place : C8.Cal l.prog w K mg base 1 "without_place" (spD 2 m_without_place K) [] := ⟨f_without_place, _, _, [], w_without_place D_without_place B_without_place Z, D_without_place.mgf, D_without_place.kp, B_without_place, .nil⟩
  have c_worth : C8.Cal l.prog w K mg base 7 "worth" (spD 2 (m_worth 6) K) [] := ⟨f_worth, _, _, [], w_worth D_worth B_worth Z c_without_place 6, D_worth.mgf, D_worth.kp, B_worth, .nil⟩
  have c_as_row : C8.Cal l.prog w K mg base 1 "as_row" (spD 1 m_as_row K) [] := ⟨f_as_row, _, _, [], w_as_row D_as_row B_as_row Z, D_as_row.mgf, D_as_row.kp, B_as_row, .nil⟩
  have c_as_table : C8.Cal l.prog w K mg base 1 "as_table" (spD 2 m_as_table K) [] := ⟨f_as_table, _, _, [], w_as_table D_as_table B_as_table Z, D_as_table.mgf, D_as_table.kp, B_as_table, .nil⟩
  have c_noughts : C8.Cal l.prog w K mg base 3 "noughts" (spD 3 m_noughts K) [] := ⟨f_noughts, _, _, [], w_noughts D_noughts B_noughts Z c_reduced c_first_of, D_noughts.mgf, D_noughts.kp, B_noughts, .nil⟩
  have c_carries : C8.Cal l.prog w K mg base 3 "carries" (spD 4 m_carries K) [] := ⟨f_carries, _, _, [], w_carries D_carries B_carries Z c_is_table c_times, D_carries.mgf, D_carries.kp, B_carries, .nil⟩
  have c_demands : C8.Cal l.prog w K mg base 1 "demands" (spD 2 m_demands K) [] := ⟨f_demands, _, _, [], w_demands D_demands B_demands Z, D_demands.mgf, D_demands.kp, B_demands, .nil⟩
  have c_common_carriers : C8.Cal l.prog w K mg base 4 "common_carriers" (spD 2 m_common_carriers K) [] := ⟨f_common_carriers, _, _, [], w_common_carriers D_common_carriers B_common_carriers Z c_demands c_noughts c_as_table, D_common_carriers.mgf, D_common_carriers.kp, B_common_carriers, .nil⟩
  have c_carriers : C8.Cal l.prog w K mg base 5 "carriers" (spD 3 m_carriers K) [] := ⟨f_carriers, _, _, [], w_carriers D_carriers B_carriers Z c_common_carriers, D_carriers.mgf, D_carriers.kp, B_carriers, .nil⟩
  have c_many_of : C8.Cal l.prog w K mg base 1 "many_of" (spD 2 m_many_of K) [] := ⟨f_many_of, _, _, [], w_many_of D_many_of B_many_of Z, D_many_of.mgf, D_many_of.kp, B_many_of, .nil⟩
  have c_many_carriers : C8.Cal l.prog w K mg base 6 "many_carriers" (spD 3 m_many_carriers K) [] := ⟨f_many_carriers, _, _, [], w_many_carriers D_many_carriers B_many_carriers Z c_carriers c_many_of, D_many_carriers.mgf, D_many_carriers.kp, B_many_carriers, .nil⟩
  have x_carrier_at : XCal l.prog w K mg base 6 "carrier_at" 4 m_carrier_at (cls3 C0 C1 C2 1) := ⟨f_carrier_at, _, _, w_carrier_at D_carrier_at B_carrier_at Z RF1 c_carriers c_many_of c_scaled c_plus, D_carrier_at.mgf, D_carrier_at.kp, B_carrier_at⟩
  have c_carrier_at := x_carrier_at.cal
  have x_place_of : XCal l.prog w K mg base 6 "place_of" 4 m_place_of (cls3 C0 C1 C2 1) := ⟨f_place_of, _, _, w_place_of D_place_of B_place_of Z RF1 c_carries c_as_row c_carriers c_first_of, D_place_of.mgf, D_place_of.kp, B_place_of⟩
  have c_place_of := x_place_of.cal
  have c_table_text : C8.Cal l.prog w K mg base 1 "table_text" (spD 1 m_table_text K) [] := ⟨f_table_text, _, _, [], w_table_text D_table_text B_table_text Z c_SLASH, D_table_text.mgf, D_table_text.kp, B_table_text, .nil⟩
  have x_read_table : XCal l.prog w K mg base 3 "read_table" 2 m_read_table (cls3 C0 C1 C2 2) := ⟨f_read_table, _, _, w_read_table D_read_table B_read_table Z RF2 c_FIGURES c_SLASH c_is_table, D_read_table.mgf, D_read_table.kp, B_read_table⟩
  have c_read_table := x_read_table.cal
  have c__law_cell_at : C8.Cal l.prog w K mg base 1 "_law_cell_at" (spD 2 m_law_cell_at K) [] := ⟨f_law_cell_at, _, _, [], w_law_cell_at D_law_cell_at B_law_cell_at Z, D_law_cell_at.mgf, D_law_cell_at.kp, B_law_cell_at, .nil⟩
  have c__law_mixed : C8.Cal l.prog w K mg base 2 "_law_mixed" (spD 2 m_law_mixed K) [] := ⟨f_law_mixed, _, _, [], w_law_mixed D_law_mixed B_law_mixed Z c__law_cell_at, D_law_mixed.mgf, D_law_mixed.kp, B_law_mixed, .nil⟩
  have c__law_drawn : C8.Cal l.prog w K mg base 1 "_law_drawn" (spD 2 m_law_drawn K) [] := ⟨f_law_drawn, _, _, [], w_law_drawn D_law_drawn B_law_drawn Z, D_law_drawn.mgf, D_law_drawn.kp, B_law_drawn, .nil⟩
  have c__law_table : C8.Cal l.prog w K mg base 2 "_law_table" (spD 4 m_law_table K) [] := ⟨f_law_table, _, _, [], w_law_table D_law_table B_law_table Z c__law_drawn, D_law_table.mgf, D_law_table.kp, B_law_table, .nil⟩
  have c__law_by : C8.Cal l.prog w K mg base 1 "_law_by" (spD 1 m_law_by K) [] := ⟨f_law_by, _, _, [], w_law_by D_law_by B_law_by Z, D_law_by.mgf, D_law_by.kp, B_law_by, .nil⟩
  exact w_law (CC := cls3 C0 C1 C2) D_law rfl (hTB (cL, TL) (List.mem_singleton_self _)) TT B_law Z c__law_mixed c__law_by c__law_table c_rank c_worth c_many_carriers c_place_of c_carries c_table_text x_undone x_carrier_at x_place_of x_read_table
end Dz

set_option pp.maxSteps 300
set_option pp.deepTerms false
open PySem PySem.W PyProof.Rows
set_option maxHeartbeats 0 in
theorem PySem.Challenge.cw_carrytables_k90_whole_refusals_holds : PySem.Challenge.rw_carrytables_k90_whole_refusals.Holds := by
  w_on; o_law; k_head; (case hw => w_witness2)
  k_fill
  refine LamX.walk_ofOwn (l := PySem.Challenge.rw_carrytables_k90_whole_refusals) (n := 63) (k := 9) (x := "_law_script") (CX := fun _ => C8.CX0) rfl (by decide) rfl ⟨rfl, by decide, by decide⟩ ?hrec (fun w h Y => PySem.W.km_in_of Y) ?F (fun _ _ _ _ _ h => h)
  case hrec => first | rfl | decide | decide +kernel
  case F =>
    intro w mg fa h Y KX G hmg own
    refine' Dz.all_mk KX G hmg own Dz.law_true ?a_is_rest ?l_is_rest ?e_is_rest ?k_is_rest ?a_is_table ?l_is_table ?e_is_table ?k_is_table ?a_plus ?l_plus ?e_plus ?k_plus ?a_scaled ?l_scaled ?e_scaled ?k_scaled ?a_turned ?l_turned ?e_turned ?k_turned ?a_times ?l_times ?e_times ?k_times ?a_unit ?l_unit ?e_unit ?k_unit ?a_inverse ?l_inverse ?e_inverse ?k_inverse ?a_less ?l_less ?e_less ?k_less ?a_first_of ?l_first_of ?e_first_of ?k_first_of ?a_reduced ?l_reduced ?e_reduced ?k_reduced ?a_rank ?l_rank ?e_rank ?k_rank ?a_undone ?l_undone ?e_undone ?k_undone ?a_without_place ?l_without_place ?e_without_place ?k_without_place ?a_worth ?l_worth ?e_worth ?k_worth ?a_as_row ?l_as_row ?e_as_row ?k_as_row ?a_as_table ?l_as_table ?e_as_table ?k_as_table ?a_noughts ?l_noughts ?e_noughts ?k_noughts ?a_carries ?l_carries ?e_carries ?k_carries ?a_demands ?l_demands ?e_demands ?k_demands ?a_common_carriers ?l_common_carriers ?e_common_carriers ?k_common_carriers ?a_carriers ?l_carriers ?e_carriers ?k_carriers ?a_many_of ?l_many_of ?e_many_of ?k_many_of ?a_many_carriers ?l_many_carriers ?e_many_carriers ?k_many_carriers ?a_carrier_at ?l_carrier_at ?e_carrier_at ?k_carrier_at ?a_place_of ?l_place_of ?e_place_of ?k_place_of ?a_table_text ?l_table_text ?e_table_text ?k_table_text ?a_read_table ?l_read_table ?e_read_table ?k_read_table ?a_law_cell_at ?l_law_cell_at ?e_law_cell_at ?k_law_cell_at ?a_law_mixed ?l_law_mixed ?e_law_mixed ?k_law_mixed ?a_law_drawn ?l_law_drawn ?e_law_drawn ?k_law_drawn ?a_law_table ?l_law_table ?e_law_table ?k_law_table ?a_law_by ?l_law_by ?e_law_by ?k_law_by ?a_law ?l_law ?e_law ?k_law ?a_law_told ?l_law_told ?e_law_told ?k_law_told ?g_FIGURES ?g_MOST_SIZE ?g_SLASH ?z_len ?z_zip ?z_range ?z_enumerate ?z_tuple ?z_list ?z_sum ?z_all ?z_any ?z_int ?z_str ?z_bool ?z_min ?z_max ?z_sorted ?z_set ?z_isinstance ?z_ValueError ?xL ?vL ?hL ?nL ?aCT ?aC0 ?aC1 ?aC2 ?hsT ?hdT ?tT ?hn ?ht ?hg0 ?hk0 ?hs0 ?hd0 ?ha0 ?hm0 ?sT0 ?ve0 ?kk00 ?kk01 ?kk02 ?xC0 ?kC0 ?tC0 ?hg1 ?hk1 ?hs1 ?hd1 ?ha1 ?hm1 ?sT1 ?ve1 ?kk10 ?kk11 ?kk12 ?xC1 ?kC1 ?tC1 ?hg2 ?hk2 ?hs2 ?hd2 ?ha2 ?hm2 ?sT2 ?ve2 ?kk20 ?kk21 ?kk22 ?xC2 ?kC2 ?tC2
    (case a_is_rest => k_is)
    (case l_is_rest => k_is)
    (case e_is_rest => k_is)
    (case k_is_rest => k_is)
    (case a_is_table => k_is)
    (case l_is_table => k_is)
    (case e_is_table => k_is)
    (case k_is_table => k_is)
    (case a_plus => k_is)
    (case l_plus => k_is)
    (case e_plus => k_is)
    (case k_plus => k_is)
    (case a_scaled => k_is)
    (case l_scaled => k_is)
    (case e_scaled => k_is)
    (case k_scaled => k_is)
    (case a_turned => k_is)
    (case l_turned => k_is)
    (case e_turned => k_is)
    (case k_turned => k_is)
    (case a_times => k_is)
    (case l_times => k_is)
    (case e_times => k_is)
    (case k_times => k_is)
    (case a_unit => k_is)
    (case l_unit => k_is)
    (case e_unit => k_is)
    (case k_unit => k_is)
    (case a_inverse => k_is)
    (case l_inverse => k_is)
    (case e_inverse => k_is)
    (case k_inverse => k_is)
    (case a_less => k_is)
    (case l_less => k_is)
    (case e_less => k_is)
    (case k_less => k_is)
    (case a_first_of => k_is)
    (case l_first_of => k_is)
    (case e_first_of => k_is)
    (case k_first_of => k_is)
    (case a_reduced => k_is)
    (case l_reduced => k_is)
    (case e_reduced => k_is)
    (case k_reduced => k_is)
    (case a_rank => k_is)
    (case l_rank => k_is)
    (case e_rank => k_is)
    (case k_rank => k_is)
    (case a_undone => k_is)
    (case l_undone => k_is)
    (case e_undone => k_is)
    (case k_undone => k_is)
    (case a_without_place => k_is)
    (case l_without_place => k_is)
    (case e_without_place => k_is)
    (case k_without_place => k_is)
    (case a_worth => k_is)
    (case l_worth => k_is)
    (case e_worth => k_is)
    (case k_worth => k_is)
    (case a_as_row => k_is)
    (case l_as_row => k_is)
    (case e_as_row => k_is)
    (case k_as_row => k_is)
    (case a_as_table => k_is)
    (case l_as_table => k_is)
    (case e_as_table => k_is)
    (case k_as_table => k_is)
    (case a_noughts => k_is)
    (case l_noughts => k_is)
    (case e_noughts => k_is)
    (case k_noughts => k_is)
    (case a_carries => k_is)
    (case l_carries => k_is)
    (case e_carries => k_is)
    (case k_carries => k_is)
    (case a_demands => k_is)
    (case l_demands => k_is)
    (case e_demands => k_is)
    (case k_demands => k_is)
    (case a_common_carriers => k_is)
    (case l_common_carriers => k_is)
    (case e_common_carriers => k_is)
    (case k_common_carriers => k_is)
    (case a_carriers => k_is)
    (case l_carriers => k_is)
    (case e_carriers => k_is)
    (case k_carriers => k_is)
    (case a_many_of => k_is)
    (case l_many_of => k_is)
    (case e_many_of => k_is)
    (case k_many_of => k_is)
    (case a_many_carriers => k_is)
    (case l_many_carriers => k_is)
    (case e_many_carriers => k_is)
    (case k_many_carriers => k_is)
    (case a_carrier_at => k_is)
    (case l_carrier_at => k_is)
    (case e_carrier_at => k_is)
    (case k_carrier_at => k_is)
    (case a_place_of => k_is)
    (case l_place_of => k_is)
    (case e_place_of => k_is)
    (case k_place_of => k_is)
    (case a_table_text => k_is)
    (case l_table_text => k_is)
    (case e_table_text => k_is)
    (case k_table_text => k_is)
    (case a_read_table => k_is)
    (case l_read_table => k_is)
    (case e_read_table => k_is)
    (case k_read_table => k_is)
    (case a_law_cell_at => k_is)
    (case l_law_cell_at => k_is)
    (case e_law_cell_at => k_is)
    (case k_law_cell_at => k_is)
    (case a_law_mixed => k_is)
    (case l_law_mixed => k_is)
    (case e_law_mixed => k_is)
    (case k_law_mixed => k_is)
    (case a_law_drawn => k_is)
    (case l_law_drawn => k_is)
    (case e_law_drawn => k_is)
    (case k_law_drawn => k_is)
    (case a_law_table => k_is)
    (case l_law_table => k_is)
    (case e_law_table => k_is)
    (case k_law_table => k_is)
    (case a_law_by => k_is)
    (case l_law_by => k_is)
    (case e_law_by => k_is)
    (case k_law_by => k_is)
    (case a_law => k_is)
    (case l_law => k_is)
    (case e_law => k_is)
    (case k_law => k_is)
    (case a_law_told => k_is)
    (case l_law_told => k_is)
    (case e_law_told => k_is)
    (case k_law_told => k_is)
    (case g_FIGURES => k_is)
    (case g_MOST_SIZE => k_is)
    (case g_SLASH => k_is)
    (case z_len => k_is)
    (case z_zip => k_is)
    (case z_range => k_is)
    (case z_enumerate => k_is)
    (case z_tuple => k_is)
    (case z_list => k_is)
    (case z_sum => k_is)
    (case z_all => k_is)
    (case z_any => k_is)
    (case z_int => k_is)
    (case z_str => k_is)
    (case z_bool => k_is)
    (case z_min => k_is)
    (case z_max => k_is)
    (case z_sorted => k_is)
    (case z_set => k_is)
    (case z_isinstance => k_is)
    (case z_ValueError => k_is)
    (case xL => k_is)
    (case vL => first | rfl | with_unfolding_all rfl | kernel_rfl)
    (case hL => first | k_is | kernel_rfl | decide +kernel)
    (case nL => first | rfl | kernel_rfl | decide +kernel)
    (case aCT => k_is)
    (case aC0 => k_is)
    (case aC1 => k_is)
    (case aC2 => k_is)
    (case hsT => k_is)
    (case hdT => k_is)
    (case tT => k_is)
    (case hn => k_is)
    (case ht => k_is)
    (case hg0 => k_is)
    (case hk0 => k_is)
    (case hs0 => k_is)
    (case hd0 => k_is)
    (case ha0 => k_is)
    (case hm0 => k_is)
    (case sT0 => k_is)
    (case ve0 => kit_is)
    (case kk00 => kit_is)
    (case kk01 => kit_is)
    (case kk02 => kit_is)
    (case xC0 => k_exc)
    (case kC0 => k_is)
    (case tC0 => k_is)
    (case hg1 => k_is)
    (case hk1 => k_is)
    (case hs1 => k_is)
    (case hd1 => k_is)
    (case ha1 => k_is)
    (case hm1 => k_is)
    (case sT1 => k_is)
    (case ve1 => kit_is)
    (case kk10 => kit_is)
    (case kk11 => kit_is)
    (case kk12 => kit_is)
    (case xC1 => k_exc)
    (case kC1 => k_is)
    (case tC1 => k_is)
    (case hg2 => k_is)
    (case hk2 => k_is)
    (case hs2 => k_is)
    (case hd2 => k_is)
    (case ha2 => k_is)
    (case hm2 => k_is)
    (case sT2 => k_is)
    (case ve2 => kit_is)
    (case kk20 => kit_is)
    (case kk21 => kit_is)
    (case kk22 => kit_is)
    (case xC2 => k_exc)
    (case kC2 => k_is)
    (case tC2 => k_is)
