import PyProof.Rows.All
import Wide.All
import OpenK.AllK
import Wide.FinOn
import HandS.ForMost
import HandS.ForExc
import HandS.Lambda
import HandS.TupAny
import HandS.TupMul
import PyProof.FactsAll.tuple_2
import PyProof.ListMulRoad
import HandS.Deep
import HandS.Style
import HandS.Wide
import HandS.IsInst
import HandS.Defaults
import HandS.TryMany
import KE.KTupSum
import HandS.SortInts
import KE.KDictPairs
import HandS.HeadHook1
import HandS.HeadHook2
import HandS.TryOnly
import HandS.HeadHook4
import HandS.EndTab
import PyProof.ExcBaseAll.ValueError
import HandS.Head0
import HandS.Head1
import HandS.Head2
import HandS.HeadEnd
import HandS.HeadHook3
import HandS.HeadWalk
import HandS.EndBits
import HandS.NestedK
import KE.GoesMore
import KE.GoesEnum
import KE.DataMinMax
import HandS.Conv
import HandS.SortKw
import HandS.WideBits
import PySem.Challenge.RW_sinkstones_k07_whole_walkers_with_a_will
import HandS.Head4
set_option Elab.async false
set_option linter.all false
set_option maxRecDepth 100000
set_option maxHeartbeats 1000000
/-! tuples whose object is known whole -/
namespace Sk
open PySem PySem.Spec PyProof.Rows L2
/-- a tuple that is a plain object -/
def TupF (F : Hp) (a : Addr) (xs : List V) : Prop := ∃ o : Obj, F a = some (.frz o (.tup xs)) ∧ o.dict = none
theorem TupF.sq {K : PySem.W.Frag} {F : Hp} {a : Addr} {xs : List V} (t : TupF F a xs) : SqT K F a xs :=
  let ⟨o, e, _⟩ := t
  .inl (.inr ⟨o, e⟩)
theorem TupF.mono {F F' : Hp} (h : ∀ a o, F a = some o → F' a = some o) {a : Addr} {xs : List V} (t : TupF F a xs) : TupF F' a xs :=
  let ⟨o, e, n⟩ := t
  ⟨o, h _ _ e, n⟩
/-- what a new tuple leads to -/
def NewT (xs : List V) (H : Hp) (Q : VK) : Prop := ∀ (p : Addr) (o : Obj), H p = none → o.dict = none → Q (.ref p) (upd H p (.frz o (.tup xs)))
section
variable {X : Cx} {pins : List (Addr × Obj)} {σ : L2.St} {H : Hp} {s : Shared}
theorem new_tup {ws : List V} {vals : List Value} {Q : VK} (I : Inv X pins σ H s) (r : Vals ws vals) (small : ws.length ≤ sizeLine) (q : NewT ws H Q) {tk : Nat} :
    EP X pins σ Q (.ref s.heap.objs.size) { s with toks := tk, heap := s.heap.push { cls := .type "tuple", data := .seq vals.toArray } } := by
  have here : (s.heap.push { cls := .type "tuple", data := .seq vals.toArray }).get? s.heap.objs.size = some { cls := .type "tuple", data := .seq vals.toArray } := Heap.get?_push_size _ rfl
  have free := I.hok.fresh (Nat.le_refl s.heap.objs.size)
  refine ⟨.ref s.heap.objs.size, upd H s.heap.objs.size (.frz { cls := .type "tuple", data := .seq vals.toArray } (.tup ws)), ?_, rfl, q _ _ free rfl⟩
  refine I.laid (fun _ _ => Heap.get?_push_of_some _) (Nat.le_refl _) ?_
  exact ⟨here, small, vals, r, _, here, rfl, _, rfl⟩
theorem pe_tupF {es : List Expr} {t : TA} {c : Nat} {pos : Pos} (ha : PA X es t) : PE X (.Tuple es c pos) (fun σ H Q => t σ H fun xs H1 => xs.length ≤ sizeLine ∧ NewT xs H1 Q) := by
  constructor
  intro pins s σ H Q I hq
  have run := ha.run pos pins s σ H _ I hq
  refine wpAny_Tuple_spliced (thn run ?_)
  rintro us s1 ⟨xs, H1, I1, r, small, q⟩
  exact ⟨r.length ▸ small, new_tup (tk := s1.toks) I1 r small q⟩
def rCatF (K : PySem.W.Frag) : R2 := fun x y H Q => ∃ a b xs ys, x = .ref a ∧ y = .ref b ∧ SqT K H a xs ∧ SqT K H b ys ∧ xs.length + ys.length ≤ sizeLine ∧
  (xs = [] → Q (.ref b) H) ∧ (ys = [] → Q (.ref a) H) ∧ NewT (xs ++ ys) H Q
theorem op_catF : OpR X (binaryOp .Add) (rCatF X.K) := by
  intro pins s σ H x y v u Q I rx ry h
  obtain ⟨a, b, xs, ys, e1, e2, ta, tb, small, q0, q1, q2⟩ := h
  subst e1 e2
  cases xs with
  | nil => exact op_catA pins s σ H (.ref a) (.ref b) v u Q I rx ry ⟨a, b, [], ys, rfl, rfl, ta, tb, small, q0, (fun z => absurd rfl z), (fun z => absurd rfl z)⟩
  | cons x0 xs =>
    cases rx
    cases ry
    obtain ⟨us, ru, pu, _⟩ := I.tuple ta
    obtain ⟨vs, rv, pv, _⟩ := I.tuple tb
    have nu : us ≠ [] := by rintro rfl; cases ru
    have small' : us.length + vs.length ≤ sizeLine := by rw [← ru.length, ← rv.length]; exact small
    refine HT.cat_tup pu pv nu (fun z => ?_) (fun _ => ?_) small'
    · subst z
      cases rv
      exact ⟨.ref a, H, I, rfl, q1 rfl⟩
    · exact new_tup (tk := s.toks) I (ru.append rv) (by rw [List.length_append]; exact small) q2
def rCutF (K : PySem.W.Frag) : V → Option Int → Option Int → Hp → VK → Prop := fun x lo hi H Q => ∃ a xs, x = .ref a ∧ SqT K H a xs ∧ (cutV xs lo hi = xs → Q (.ref a) H) ∧ NewT (cutV xs lo hi) H Q
theorem sl_tupF : SlR X (rCutF X.K) := by
  intro pins s σ H x v vl vu lo hi sl Q I rx hs pl pu h
  obtain ⟨a, xs, e, tx, q0, q1⟩ := h
  subst e
  by_cases whole : HT.sIx xs.length 0 lo = 0 ∧ HT.sIx xs.length xs.length hi = xs.length
  · refine sl_tupA pins s σ H (.ref a) v vl vu lo hi sl Q I rx hs pl pu ⟨a, xs, rfl, tx, fun _ => q0 ?_, fun z => absurd whole z⟩
    unfold cutV
    rw [whole.1, whole.2]
    simp
  · cases rx
    obtain ⟨us, ru, pu', small⟩ := I.tuple tx
    have len : us.toArray.size = xs.length := by simpa using ru.length.symm
    refine ⟨"tuple", _, slot_tuple_getitem.lookup, pu'.typeIs, HT.getItem_tuple_cut pu' hs pl pu (len.symm ▸ whole) ?_ (len.symm ▸ small)⟩
    have r2 : Vals (cutV xs lo hi) ((us.drop (HT.sIx us.toArray.size 0 lo)).take (HT.sIx us.toArray.size us.toArray.size hi - HT.sIx us.toArray.size 0 lo)) := by
      rw [len]
      exact (ru.drop _).take _
    exact new_tup (tk := s.toks) I r2 (Nat.le_trans (cutV_length xs lo hi) small) q1
theorem call_tupF : CallR X (.type "tuple") (fun xs H Q => ∃ p ys, xs = [.ref p] ∧ ((SqL X.K H p ys ∧ NewT ys H Q) ∨ (SqT X.K H p ys ∧ Q (.ref p) H))) := by
  intro pins s σ H xs us Q I r h
  obtain ⟨p, ys, e, h⟩ := h
  cases h with
  | inr h => exact call_tuple_of pins s σ H xs us Q I r ⟨p, ys, e, .inr h⟩
  | inl h =>
    subst e
    obtain ⟨u, eu, rx⟩ := vals1 r
    subst eu
    cases rx
    obtain ⟨its, rv, pl, small⟩ := I.list h.1
    have len : its.toArray.size ≤ sizeLine := by simpa [← rv.length] using small
    refine call_tuple_list pl.isList (fun h' keep => ?_) len
    exact new_tup (s := { s with heap := h' }) (tk := s.toks) (I.kept (t' := s.toks) keep) rv small h.2
/-- a tuple once is itself -/
theorem mul_same (l : Addr) (its : Array Value) (n : Nat) (dd : Option Addr) (sl : Array (Option Value)) (k : Int) (tk : Tok) (big : (decide (k < -(2 ^ 63)) || decide (k ≥ 2 ^ 63)) = false) (one : (its.isEmpty || k == 1) = true) :
    Meets (Builtin.«tuple.__mul__» ⟨[.ref l, .int k tk], []⟩) (fun _ R s => s.heap.get? l = some { cls := .type "tuple", dict := dd, data := .seq its n, slots := sl } ∧ R (.ok (.ret (.ref l))) s) :=
  .of_wp fun prog w A R s h => by
    obtain ⟨hp, g, d, tk', os⟩ := s
    have hl := h.1
    have f1 := AutoSeq1.idx_int
    wp_walk using wpAny_loadPart' hl
    repeat (first
      | (refine wpAny_ite_false (decide_eq_false (by rw [big]; exact Bool.false_ne_true)) ?_
         wp_walk using wpAny_loadPart' hl)
      | (refine wpAny_ite_true (decide_eq_true one) ?_
         wp_walk using wpAny_loadPart' hl))
    exact ⟨_, rfl, h.2⟩
theorem mul_none (l : Addr) (its : Array Value) (n : Nat) (dd : Option Addr) (sl : Array (Option Value)) (k : Int) (tk : Tok) (big : (decide (k < -(2 ^ 63)) || decide (k ≥ 2 ^ 63)) = false) (one : (its.isEmpty || k == 1) = false) (low : (decide (k ≤ 0) || its.isEmpty) = true) :
    Meets (Builtin.«tuple.__mul__» ⟨[.ref l, .int k tk], []⟩) (fun _ R s => s.heap.get? l = some { cls := .type "tuple", dict := dd, data := .seq its n, slots := sl } ∧
      R (.ok (.ret (.ref s.heap.objs.size))) { s with heap := s.heap.push { cls := .type "tuple", data := .seq #[] } }) :=
  .of_wp fun prog w A R s h => by
    obtain ⟨hp, g, d, tk', os⟩ := s
    have hl := h.1
    have f1 := AutoSeq1.idx_int
    wp_walk using wpAny_loadPart' hl
    repeat (first
      | (refine wpAny_ite_false (decide_eq_false (by rw [big]; exact Bool.false_ne_true)) ?_
         wp_walk using wpAny_loadPart' hl)
      | (refine wpAny_ite_false (decide_eq_false (by rw [one]; exact Bool.false_ne_true)) ?_
         wp_walk using wpAny_loadPart' hl)
      | (refine wpAny_ite_true (decide_eq_true low) ?_
         wp_walk using wpAny_loadPart' hl))
    exact ⟨_, rfl, h.2⟩
def rMulF (K : PySem.W.Frag) : R2 := fun x y H Q => ∃ l k xs, x = .ref l ∧ y = .int k ∧ SqT K H l xs ∧ -1000 ≤ k ∧ k ≤ 1000 ∧ xs.length ≤ 1000 ∧ (xs = [] ∨ k = 1 → Q (.ref l) H) ∧ NewT (List.replicate k.toNat xs).flatten H Q
theorem op_mulF : OpR X (binaryOp .Mult) (rMulF X.K) := by
  intro pins s σ H x y v u Q I rx ry h
  obtain ⟨l, k, xs, e1, e2, tx, k0, k1, small, q0, q1⟩ := h
  subst e1 e2
  cases rx
  obtain ⟨tk, rfl⟩ := ry
  obtain ⟨us, ru, ⟨⟨cls, dd, data, sl⟩, ho, hc, n, hd⟩, line⟩ := I.tuple tx
  simp only at hc hd
  subst hc hd
  have len : us.length = xs.length := ru.length.symm
  have big : (decide (k < -(2 ^ 63)) || decide (k ≥ 2 ^ 63)) = false := by simp; omega
  have road : wpAny (model X.prog X.w) X.A (call (.builtin "tuple.__mul__") [.ref l, .int k tk]) (EP X pins σ Q) X.xe s → wpAny (model X.prog X.w) X.A (binaryOp .Mult (.ref l) (.int k tk)) (EP X pins σ Q) X.xe s := fun w =>
    wpAny_binaryOp_repeat_ref (T := "tuple") (U := "int") (by decide) ⟨_, ho, rfl⟩ (fun s' => typeIs_int s' k tk) noFill_tuple_mul F.fills_int_mul F.slot_int_rmul repeat_tuple F.slot_int_index.lookup
      (call_meets F.slot_int_rmul (typeIs_int s k tk) F.entry_int_rmul (F.args_int_rmul_2 _ _) (int_rmul_tuple k tk l us.toArray n dd sl) ⟨ho, rfl, ⟨_, ho, rfl⟩, w⟩)
  refine road ?_
  have empt : us.toArray.isEmpty = true → xs = [] := fun z => by
    cases ru with
    | nil => rfl
    | cons _ _ => simp at z
  cases one : (us.toArray.isEmpty || k == 1) with
  | true =>
    refine call_meets F.slot_tuple_mul ⟨_, ho, rfl⟩ F.entry_tuple_mul (F.args_tuple_mul_2 _ _) (mul_same l us.toArray n dd sl k tk big one) ⟨ho, ?_⟩
    refine ⟨.ref l, H, I, rfl, q0 ?_⟩
    rcases Bool.or_eq_true_iff.mp one with z | z
    · exact .inl (empt z)
    · exact .inr (by simpa using z)
  | false =>
    have ne := (Bool.or_eq_false_iff.mp one).1
    cases low : (decide (k ≤ 0) || us.toArray.isEmpty) with
    | true =>
      refine call_meets F.slot_tuple_mul ⟨_, ho, rfl⟩ F.entry_tuple_mul (F.args_tuple_mul_2 _ _) (mul_none l us.toArray n dd sl k tk big one low) ⟨ho, ?_⟩
      rw [ne, Bool.or_false] at low
      have kz : k.toNat = 0 := by have := of_decide_eq_true low; omega
      rw [kz] at q1
      exact new_tup (tk := s.toks) (ws := []) (vals := []) I .nil (by simp) q1
    | false =>
      have fl : ∀ m : Nat, List.foldl (fun x1 x2 => x1 ++ x2) #[] (List.replicate m us.toArray) = (List.replicate m us).flatten.toArray := size_rep us
      have bound : k.toNat * xs.length ≤ 1000 * 1000 := Nat.mul_le_mul (by omega) small
      have m1 : ((us.toArray.size : Nat) : Int) * k ≤ 1000000 := by
        rw [List.size_toArray, len]
        have p0 : 0 ≤ k := by
          have := (Bool.or_eq_false_iff.mp low).1
          have := of_decide_eq_false this
          omega
        have := Int.ofNat_le.mpr bound
        rw [Int.natCast_mul, Int.toNat_of_nonneg p0, Int.mul_comm] at this
        simpa using this
      have fine : Builtin.Tuple.tupleTooMany (((us.toArray.size : Nat) : Int) * k) = false := by
        unfold Builtin.Tuple.tupleTooMany
        rw [sizeLine_eq]
        exact decide_eq_false (by omega)
      have flat : (List.replicate k.toNat us).flatten.length ≤ sizeLine := by
        rw [lm_len_rep_flat, len, sizeLine_eq]
        omega
      refine call_meets F.slot_tuple_mul ⟨_, ho, rfl⟩ F.entry_tuple_mul (F.args_tuple_mul_2 _ _) (tuple_mulW l us.toArray n dd sl k tk big one low (by omega) fine (by rw [fl, List.size_toArray]; exact flat)) ⟨ho, ?_⟩
      rw [fl]
      exact new_tup (tk := s.toks) I (ru.rep k.toNat) (by rw [lm_len_rep_flat, sizeLine_eq]; omega) q1
end
end Sk
set_option maxHeartbeats 1000000
namespace Sk
open PySem PySem.Spec PyProof.Rows L2
abbrev D := PyData
/-- what a slot of a def holds: nothing, data that never changes, or a list or dict that this slot alone holds -/
inductive Sl where
  | un
  | dat (d : D)
  | own (d : D)
  | scr (ns : List Int)
/-- a key of a dict as data -/
def keyD : Key → D
  | .inl i => .int i
  | .inr x => .str x
mutual
inductive Rp (K : PySem.W.Frag) (F : Hp) : D → V → Prop
  | non : Rp K F .none .non
  | bl (b : Bool) : Rp K F (.bool b) (.bl b)
  | int (i : Int) : Rp K F (.int i) (.int i)
  | str (x : Str) : Rp K F (.str x) (.str x)
  | lst {a : Addr} {xs : List V} {ds : List D} : F a = some (.lst xs) → RpA K F ds xs → Rp K F (.list ds) (.ref a)
  | tup {a : Addr} {xs : List V} {ds : List D} : TupF F a xs → RpA K F ds xs → Rp K F (.tuple ds) (.ref a)
  | dct {a : Addr} {o : HO} {kvs : List (D × D)} : F a = some o → RpD K F kvs o → Rp K F (.dict kvs) (.ref a)
inductive RpA (K : PySem.W.Frag) (F : Hp) : List D → List V → Prop
  | nil : RpA K F [] []
  | cons {d : D} {v : V} {ds : List D} {vs : List V} : Rp K F d v → RpA K F ds vs → RpA K F (d :: ds) (v :: vs)
inductive RpK (K : PySem.W.Frag) (F : Hp) : List (D × D) → List (Key × V) → Prop
  | nil : RpK K F [] []
  | cons {k : Key} {d : D} {v : V} {kds : List (D × D)} {kvs : List (Key × V)} : Rp K F d v → RpK K F kds kvs → RpK K F ((keyD k, d) :: kds) ((k, v) :: kvs)
inductive RpD (K : PySem.W.Frag) (F : Hp) : List (D × D) → HO → Prop
  | dk {kvs : List (D × D)} {ks : List (Key × V)} : RpK K F kvs ks → RpD K F kvs (.dK ks)
end
/-- what an own object holds -/
inductive RpC (K : PySem.W.Frag) (F : Hp) : D → HO → Prop
  | lst {ds : List D} {xs : List V} : RpA K F ds xs → RpC K F (.list ds) (.lst xs)
  | dct {kvs : List (D × D)} {o : HO} : RpD K F kvs o → RpC K F (.dict kvs) o
section
variable {K : PySem.W.Frag} {F F' : Hp}
theorem sqL_mono (h : ∀ a o, F a = some o → F' a = some o) {a : Addr} {xs : List V} (r : SqL K F a xs) : SqL K F' a xs := by
  rcases r with (r | ⟨o, r⟩) | r
  · exact .inl (.inl (h _ _ r))
  · exact .inl (.inr ⟨o, h _ _ r⟩)
  · exact .inr r
theorem sqT_mono (h : ∀ a o, F a = some o → F' a = some o) {a : Addr} {xs : List V} (r : SqT K F a xs) : SqT K F' a xs := by
  rcases r with (r | ⟨o, r⟩) | r
  · exact .inl (.inl (h _ _ r))
  · exact .inl (.inr ⟨o, h _ _ r⟩)
  · exact .inr r
mutual
theorem Rp.mono (h : ∀ a o, F a = some o → F' a = some o) : ∀ {d : D} {v : V}, Rp K F d v → Rp K F' d v
  | _, _, .non => .non
  | _, _, .bl b => .bl b
  | _, _, .int i => .int i
  | _, _, .str x => .str x
  | _, _, .lst s r => .lst (h _ _ s) (RpA.mono h r)
  | _, _, .tup s r => .tup (s.mono h) (RpA.mono h r)
  | _, _, .dct s r => .dct (h _ _ s) (RpD.mono h r)
theorem RpA.mono (h : ∀ a o, F a = some o → F' a = some o) : ∀ {ds : List D} {vs : List V}, RpA K F ds vs → RpA K F' ds vs
  | _, _, .nil => .nil
  | _, _, .cons r t => .cons (Rp.mono h r) (RpA.mono h t)
theorem RpK.mono (h : ∀ a o, F a = some o → F' a = some o) : ∀ {kvs : List (D × D)} {ks : List (Key × V)}, RpK K F kvs ks → RpK K F' kvs ks
  | _, _, .nil => .nil
  | _, _, .cons r t => .cons (Rp.mono h r) (RpK.mono h t)
theorem RpD.mono (h : ∀ a o, F a = some o → F' a = some o) : ∀ {kvs : List (D × D)} {o : HO}, RpD K F kvs o → RpD K F' kvs o
  | _, _, .dk r => .dk (RpK.mono h r)
end
theorem RpC.mono (h : ∀ a o, F a = some o → F' a = some o) {d : D} {o : HO} (r : RpC K F d o) : RpC K F' d o := by
  cases r with
  | lst r => exact .lst (r.mono h)
  | dct r => exact .dct (r.mono h)
theorem RpA.length {ds : List D} {vs : List V} (r : RpA K F ds vs) : ds.length = vs.length := by
  induction ds generalizing vs with
  | nil => cases r; rfl
  | cons d ds ih => cases r with | cons _ t => simp [ih t]
theorem RpA.get {ds : List D} {vs : List V} (r : RpA K F ds vs) {i : Nat} {d : D} (h : ds[i]? = some d) : ∃ v, vs[i]? = some v ∧ Rp K F d v := by
  induction ds generalizing vs i with
  | nil => simp at h
  | cons e ds ih =>
    cases r with
    | cons q t =>
      cases i with
      | zero => simp at h; subst h; exact ⟨_, rfl, q⟩
      | succ i => simpa using ih t (by simpa using h)
theorem RpA.getV {ds : List D} {vs : List V} (r : RpA K F ds vs) {i : Nat} {v : V} (h : vs[i]? = some v) : ∃ d, ds[i]? = some d ∧ Rp K F d v := by
  induction ds generalizing vs i with
  | nil => cases r; simp at h
  | cons e ds ih =>
    cases r with
    | cons q t =>
      cases i with
      | zero => simp at h; subst h; exact ⟨_, rfl, q⟩
      | succ i => simpa using ih t (by simpa using h)
theorem RpA.append {ds es : List D} {vs ws : List V} (r : RpA K F ds vs) (q : RpA K F es ws) : RpA K F (ds ++ es) (vs ++ ws) := by
  induction ds generalizing vs with
  | nil => cases r; simpa using q
  | cons d ds ih => cases r with | cons a t => exact .cons a (ih t)
theorem RpA.drop {ds : List D} {vs : List V} (r : RpA K F ds vs) (n : Nat) : RpA K F (ds.drop n) (vs.drop n) := by
  induction n generalizing ds vs with
  | zero => simpa using r
  | succ n ih => cases r with
    | nil => simpa using RpA.nil
    | cons a t => simpa using ih t
theorem RpA.take {ds : List D} {vs : List V} (r : RpA K F ds vs) (n : Nat) : RpA K F (ds.take n) (vs.take n) := by
  induction n generalizing ds vs with
  | zero => simpa using RpA.nil
  | succ n ih => cases r with
    | nil => simpa using RpA.nil
    | cons a t => simpa using RpA.cons a (ih t)
theorem RpA.set {ds : List D} {vs : List V} (r : RpA K F ds vs) (n : Nat) {d : D} {v : V} (q : Rp K F d v) : RpA K F (ds.set n d) (vs.set n v) := by
  induction n generalizing ds vs with
  | zero => cases r with
    | nil => exact .nil
    | cons a t => exact .cons q t
  | succ n ih => cases r with
    | nil => exact .nil
    | cons a t => exact .cons a (ih t)
theorem RpA.one {d : D} {v : V} (r : Rp K F d v) : RpA K F [d] [v] := .cons r .nil
end
/-! ### what a def knows -/
structure Gm where
  /-- tables of code objects that lambdas write -/
  T : List (Addr × Str)
  /-- the classes of errors by number -/
  ca : Nat → Addr
/-- an error: its class, what it bears -/
structure Er where
  cls : Nat
  arg : Option D := none
structure Sim (K : PySem.W.Frag) (T : List (Addr × Str)) (F : Hp) (st : List Sl) (σ : L2.St) (H : Hp) : Prop where
  len : st.length = σ.length
  sub : ∀ a o, F a = some o → H a = some o ∧ ∀ ps, o ≠ .tbl ps
  dat : ∀ (i : Nat) d, st[i]? = some (.dat d) → ∃ v, σ[i]? = some (some v) ∧ Rp K F d v
  own : ∀ (i : Nat) d, st[i]? = some (.own d) → ∃ a o, σ[i]? = some (some (.ref a)) ∧ F a = none ∧ H a = some o ∧ RpC K F d o
  scr : ∀ (i : Nat) ns, st[i]? = some (.scr ns) → ∃ a, σ[i]? = some (some (.ref a)) ∧ SqL K F a (ns.map .int)
  inj : ∀ (i j : Nat) d e a, st[i]? = some (.own d) → st[j]? = some (.own e) → σ[i]? = some (some (.ref a)) → σ[j]? = some (some (.ref a)) → i = j
  tab : LamX.Tabs T H
def OwnA (st : List Sl) (σ : L2.St) (a : Addr) : Prop := ∃ (i : Nat) (d : D), st[i]? = some (.own d) ∧ σ[i]? = some (some (.ref a))
/-- free, or a table that the defs write -/
def Fr (H : Hp) (a : Addr) : Prop := H a = none ∨ ∃ ps, H a = some (.tbl ps)
theorem Fr.no {H : Hp} {a : Addr} {o : HO} (f : Fr H a) (e : H a = some o) (nt : ∀ ps, o ≠ .tbl ps) : False := by
  rcases f with z | ⟨ps, z⟩
  · rw [e] at z; cases z
  · rw [e] at z; exact nt ps (Option.some.inj z)
theorem Fr.keep {H H' : Hp} {a : Addr} (k : ∀ o, H a = some o → H' a = some o) (f : Fr H' a) : Fr H a := by
  cases q : H a with
  | none => exact .inl q
  | some o =>
    have e := k o q
    rcases f with z | ⟨ps, z⟩
    · rw [e] at z; cases z
    · rw [e] at z; exact .inr ⟨ps, q.trans z⟩
structure Grow (F : Hp) (st : List Sl) (σ : L2.St) (H : Hp) (F' : Hp) (st' : List Sl) (σ' : L2.St) (H' : Hp) : Prop where
  gF : ∀ a o, F a = some o → F' a = some o
  gH : ∀ a o, H a = some o → ¬ OwnA st σ a → (∀ ps, o ≠ .tbl ps) → H' a = some o
  gN : ∀ a o, F' a = some o → F a = some o ∨ OwnA st σ a ∨ Fr H a
  gO : ∀ a, OwnA st' σ' a → OwnA st σ a ∨ Fr H a
  gD : ∀ a, Fr H' a → Fr H a
theorem Grow.refl {F H : Hp} {st : List Sl} {σ : L2.St} : Grow F st σ H F st σ H :=
  ⟨fun _ _ h => h, fun _ _ h _ _ => h, fun _ _ h => .inl h, fun _ h => .inl h, fun _ h => h⟩
theorem Grow.trans {F H F1 H1 F2 H2 : Hp} {st st1 st2 : List Sl} {σ σ1 σ2 : L2.St} (a : Grow F st σ H F1 st1 σ1 H1) (b : Grow F1 st1 σ1 H1 F2 st2 σ2 H2) : Grow F st σ H F2 st2 σ2 H2 where
  gF := fun x o h => b.gF x o (a.gF x o h)
  gH := fun x o h n nt => b.gH x o (a.gH x o h n nt) (fun z => by
    rcases a.gO x z with q | q
    · exact n q
    · exact q.no h nt) nt
  gN := fun x o h => by
    rcases b.gN x o h with q | q | q
    · exact a.gN x o q
    · exact .inr (a.gO x q)
    · exact .inr (.inr (a.gD x q))
  gO := fun x h => by
    rcases b.gO x h with q | q
    · exact a.gO x q
    · exact .inr (a.gD x q)
  gD := fun x h => a.gD x (b.gD x h)
/-- the same within an expression: no slot comes to hold an object -/
structure GrowE (F : Hp) (st : List Sl) (σ : L2.St) (H : Hp) (F' : Hp) (st' : List Sl) (H' : Hp) : Prop where
  g : Grow F st σ H F' st' σ H'
  os : ∀ a, OwnA st' σ a → OwnA st σ a
theorem GrowE.refl {F H : Hp} {st : List Sl} {σ : L2.St} : GrowE F st σ H F st H := ⟨.refl, fun _ h => h⟩
theorem GrowE.trans {F H F1 H1 F2 H2 : Hp} {st st1 st2 : List Sl} {σ : L2.St} (a : GrowE F st σ H F1 st1 H1) (b : GrowE F1 st1 σ H1 F2 st2 H2) : GrowE F st σ H F2 st2 H2 :=
  ⟨a.g.trans b.g, fun x h => a.os x (b.os x h)⟩
/-! ### results -/
inductive Out (α : Type) where
  | ok (a : α) (st : List Sl)
  | ex (x : Er) (st : List Sl)
  | no
abbrev M (α : Type) := List Sl → Out α
def M.bind {α β : Type} (f : M α) (g : α → M β) : M β := fun st => match f st with
  | .ok a st1 => g a st1
  | .ex x st1 => .ex x st1
  | .no => .no
def M.ret {α : Type} (a : α) : M α := fun st => .ok a st
def M.fail {α : Type} : M α := fun _ => .no
def M.opt {α : Type} : Option α → M α
  | some a => fun st => .ok a st
  | none => fun _ => .no
def ErR (Γ : Gm) (K : PySem.W.Frag) (F' H' : Hp) (x : Er) (cls : Value) (dx : Option Addr) : Prop :=
  cls = .ref (Γ.ca x.cls) ∧ match x.arg with
    | none => True
    | some d => ∃ p f v, dx = some p ∧ H' p = some (.xd [(f, v)]) ∧ Rp K F' d v
/-- how a value stands for a result: by the heap ahead, the frozen part and the heap behind -/
abbrev Rel (α β : Type) := Hp → Hp → Hp → α → β → Prop
section
variable (Γ : Gm) (K : PySem.W.Frag) (W : WX) {α β : Type} (R : Rel α β)
def fin (F : Hp) (st : List Sl) (σ : L2.St) (H : Hp) (o : Out α) (Q : β → Hp → Prop) : Prop := match o with
  | .ok d st' => ∀ v H' F', Sim K Γ.T F' st' σ H' → GrowE F st σ H F' st' H' → R H F' H' d v → Q v H'
  | .ex x st' => ∀ cls dx H' F', Sim K Γ.T F' st' σ H' → GrowE F st σ H F' st' H' → ErR Γ K F' H' x cls dx → W cls dx σ H'
  | .no => False
def rd (f : M α) (σ : L2.St) (H : Hp) (Q : β → Hp → Prop) : Prop := ∃ st F, Sim K Γ.T F st σ H ∧ fin Γ K W R F st σ H (f st) Q
end
/-- fits any earlier heap that has less -/
def RelMono {α β : Type} (R : Rel α β) : Prop := ∀ H H1 F' H' d v, (∀ a, Fr H1 a → Fr H a) → R H1 F' H' d v → R H F' H' d v
section
variable {Γ : Gm} {K : PySem.W.Frag} {W : WX} {α β γ δ : Type} {R : Rel α β} {R2 : Rel γ δ}
theorem fin_mono {F H F1 H1 : Hp} {st st1 : List Sl} {σ : L2.St} {o : Out α} {Q : β → Hp → Prop} (hR : RelMono R) (G : GrowE F st σ H F1 st1 H1) (h : fin Γ K W R F st σ H o Q) : fin Γ K W R F1 st1 σ H1 o Q := by
  cases o with
  | ok d st' => exact fun v H' F' S G' r => h v H' F' S (G.trans G') (hR _ _ _ _ _ _ G.g.gD r)
  | ex x st' => exact fun cls dx H' F' S G' r => h cls dx H' F' S (G.trans G') r
  | no => exact h
theorem fin_imp {F H : Hp} {st : List Sl} {σ : L2.St} {o : Out α} {Q Q' : β → Hp → Prop} (h : fin Γ K W R F st σ H o Q) (i : ∀ v H', Q v H' → Q' v H') : fin Γ K W R F st σ H o Q' := by
  cases o with
  | ok d st' => exact fun v H' F' S G' r => i _ _ (h v H' F' S G' r)
  | ex x st' => exact h
  | no => exact h
/-- one after another -/
theorem fin_bind {F H : Hp} {st : List Sl} {σ : L2.St} {f : M α} {g : α → M γ} {Q : δ → Hp → Prop} {Q1 : β → Hp → Prop} (hR : RelMono R2) (S : Sim K Γ.T F st σ H) (h : fin Γ K W R2 F st σ H (f.bind g st) Q)
    (k : ∀ d st1 v H1 F1, Sim K Γ.T F1 st1 σ H1 → GrowE F st σ H F1 st1 H1 → R H F1 H1 d v → fin Γ K W R2 F1 st1 σ H1 (g d st1) Q → Q1 v H1) : rd Γ K W R f σ H Q1 := by
  refine ⟨st, F, S, ?_⟩
  unfold M.bind at h
  cases e : f st with
  | ok d st1 =>
    rw [e] at h
    exact fun v H' F' S1 G r => k d st1 v H' F' S1 G r (fin_mono hR G h)
  | ex x st1 =>
    rw [e] at h
    exact h
  | no =>
    rw [e] at h
    exact h
/-- the end: a plain result at the state as it is -/
theorem fin_ret {F H : Hp} {st : List Sl} {σ : L2.St} {d : α} {v : β} {Q : β → Hp → Prop} (S : Sim K Γ.T F st σ H) (h : fin Γ K W R F st σ H (.ok d st) Q) (r : R H F H d v) : Q v H := h v H F S GrowE.refl r
end
/-- plain data -/
def rP (K : PySem.W.Frag) : Rel D V := fun _ F' _ d v => Rp K F' d v
theorem rP_mono {K : PySem.W.Frag} : RelMono (rP K) := fun _ _ _ _ _ _ _ r => r
/-- the same value -/
def rE (α : Type) : Rel α α := fun _ _ _ d v => v = d
theorem rE_mono {α : Type} : RelMono (rE α) := fun _ _ _ _ _ _ _ r => r
/-- a new object that nobody else holds -/
def rN (K : PySem.W.Frag) : Rel D V := fun H F' H' d v => ∃ a o, v = .ref a ∧ Fr H a ∧ F' a = none ∧ H' a = some o ∧ RpC K F' d o
theorem rN_mono {K : PySem.W.Frag} : RelMono (rN K) := fun _ _ _ _ _ _ g ⟨a, o, e, n, r⟩ => ⟨a, o, e, g a n, r⟩
/-- an operand: data, or the object of a slot -/
inductive Op where
  | dat (d : D)
  | own (i : Nat)
def RpO (K : PySem.W.Frag) (F : Hp) (σ : L2.St) : Op → V → Prop
  | .dat d, v => Rp K F d v
  | .own i, v => σ[i]? = some (some v)
def rO (K : PySem.W.Frag) (σ : L2.St) : Rel Op V := fun _ F' _ d v => RpO K F' σ d v
theorem rO_mono {K : PySem.W.Frag} {σ : L2.St} : RelMono (rO K σ) := fun _ _ _ _ _ _ _ r => r
theorem RpO.mono {K : PySem.W.Frag} {F F' : Hp} {σ : L2.St} (h : ∀ a o, F a = some o → F' a = some o) {d : Op} {v : V} (r : RpO K F σ d v) : RpO K F' σ d v := by
  cases d with
  | dat d => exact Rp.mono h r
  | own i => exact r
/-- what an operand is now -/
def look (st : List Sl) : Op → Option D
  | .dat d => some d
  | .own i => match st[i]? with
    | some (.own d) => some d
    | some (.dat d) => some d
    | _ => none
/-- how data is read off the heap -/
inductive RdR (K : PySem.W.Frag) (F H : Hp) : D → V → Prop
  | non : RdR K F H .none .non
  | bl (b : Bool) : RdR K F H (.bool b) (.bl b)
  | int (i : Int) : RdR K F H (.int i) (.int i)
  | str (x : Str) : RdR K F H (.str x) (.str x)
  | lst {a : Addr} {xs : List V} {ds : List D} : H a = some (.lst xs) → RpA K F ds xs → RdR K F H (.list ds) (.ref a)
  | tup {a : Addr} {xs : List V} {ds : List D} : TupF F a xs → RpA K F ds xs → RdR K F H (.tuple ds) (.ref a)
  | dct {a : Addr} {o : HO} {kvs : List (D × D)} : H a = some o → RpD K F kvs o → RdR K F H (.dict kvs) (.ref a)
section
variable {K : PySem.W.Frag} {T : List (Addr × Str)} {F H : Hp} {st : List Sl} {σ : L2.St}
theorem Rp.rdR (sub : ∀ a o, F a = some o → H a = some o) {d : D} {v : V} (r : Rp K F d v) : RdR K F H d v := by
  cases r with
  | non => exact .non
  | bl b => exact .bl b
  | int i => exact .int i
  | str x => exact .str x
  | lst s r => exact .lst (sub _ _ s) r
  | tup s r => exact .tup s r
  | dct s r => exact .dct (sub _ _ s) r
theorem Sim.sub1 (S : Sim K T F st σ H) : ∀ a o, F a = some o → H a = some o := fun a o h => (S.sub a o h).1
theorem Sim.look (S : Sim K T F st σ H) {x : Op} {v : V} {d : D} (r : RpO K F σ x v) (h : look st x = some d) : RdR K F H d v := by
  cases x with
  | dat e =>
    simp only [Sk.look, Option.some.injEq] at h
    subst h
    exact Rp.rdR S.sub1 r
  | own i =>
    simp only [Sk.look] at h
    have r : σ[i]? = some (some v) := r
    split at h
    · rename_i d' e
      cases h
      obtain ⟨a, o, e1, _, e3, c⟩ := S.own i d e
      rw [r] at e1
      cases e1
      cases c with
      | lst q => exact .lst e3 q
      | dct q => exact .dct e3 q
    · rename_i d' e
      cases h
      obtain ⟨u, e1, q⟩ := S.dat i d e
      rw [r] at e1
      cases e1
      exact Rp.rdR S.sub1 q
    · cases h
end
/-! ### data is one -/
section
variable {K : PySem.W.Frag} {F H : Hp}
mutual
theorem Rp.dp (sub : ∀ a o, F a = some o → H a = some o) : ∀ {d : D} {v : V}, d.canLay0 = true → Rp K F d v → Dp K H v d
  | _, _, _, .non => .non
  | _, _, _, .bl b => .bl b
  | _, _, _, .int i => .int i
  | _, _, _, .str x => .str x
  | _, _, c, .lst s r => .lst (.inl (.inl (sub _ _ s))) (RpA.dp sub (by simpa [PyData.canLay0] using c) r)
  | _, _, c, .tup s r => .tup (sqT_mono sub s.sq) (RpA.dp sub (by simpa [PyData.canLay0] using c) r)
  | _, _, c, .dct s r => by simp [PyData.canLay0] at c
theorem RpA.dp (sub : ∀ a o, F a = some o → H a = some o) : ∀ {ds : List D} {vs : List V}, PyData.canLayAll0 ds = true → RpA K F ds vs → DpAll K H vs ds
  | _, _, _, .nil => .nil
  | _, _, c, .cons r t => by
    simp only [PyData.canLayAll0, Bool.and_eq_true] at c
    exact .cons (Rp.dp sub c.1 r) (RpA.dp sub c.2 t)
end
theorem RdR.dp (sub : ∀ a o, F a = some o → H a = some o) {d : D} {v : V} (c : d.canLay0 = true) (r : RdR K F H d v) : Dp K H v d := by
  cases r with
  | non => exact .non
  | bl b => exact .bl b
  | int i => exact .int i
  | str x => exact .str x
  | lst s r => exact .lst (.inl (.inl s)) (RpA.dp sub (by simpa [PyData.canLay0] using c) r)
  | tup s r => exact .tup (sqT_mono sub s.sq) (RpA.dp sub (by simpa [PyData.canLay0] using c) r)
  | dct s r => simp [PyData.canLay0] at c
end
end Sk
set_option maxHeartbeats 1000000
namespace Sk
open PySem PySem.Spec PyProof.Rows L2
/-- only new things come -/
structure Add (F H F' H' : Hp) : Prop where
  fF : ∀ a o, F a = some o → F' a = some o
  fH : ∀ a o, H a = some o → H' a = some o
  fN : ∀ a o, F' a = some o → F a = some o ∨ H a = none
  fS : ∀ a o, F' a = some o → H' a = some o ∧ ∀ ps, o ≠ .tbl ps
section
variable {K : PySem.W.Frag} {T : List (Addr × Str)} {F H F' H' : Hp} {st : List Sl} {σ : L2.St}
theorem Add.refl (h : ∀ a o, F a = some o → H a = some o ∧ ∀ ps, o ≠ .tbl ps) : Add F H F H := ⟨fun _ _ h => h, fun _ _ h => h, fun _ _ h => .inl h, h⟩
theorem Add.new {a : Addr} {o : HO} (h : ∀ a o, F a = some o → H a = some o ∧ ∀ ps, o ≠ .tbl ps) (n : H a = none) (nt : ∀ ps, o ≠ .tbl ps) : Add F H (upd F a o) (upd H a o) where
  fF := fun b u e => by
    have nb : b ≠ a := fun z => by
      subst z
      rw [(h _ _ e).1] at n
      cases n
    rw [upd_ne nb]; exact e
  fH := fun b u e => by
    have nb : b ≠ a := fun z => by
      subst z
      rw [e] at n
      cases n
    rw [upd_ne nb]; exact e
  fN := fun b u e => by
    by_cases z : b = a
    · subst z; exact .inr n
    · rw [upd_ne z] at e; exact .inl e
  fS := fun b u e => by
    by_cases z : b = a
    · subst z; rw [upd_same] at e ⊢; cases e; exact ⟨rfl, nt⟩
    · rw [upd_ne z] at e ⊢; exact h b u e
theorem Sim.add (S : Sim K T F st σ H) (A : Add F H F' H') : Sim K T F' st σ H' where
  len := S.len
  sub := A.fS
  dat := fun i d e => by
    obtain ⟨v, e1, r⟩ := S.dat i d e
    exact ⟨v, e1, r.mono A.fF⟩
  own := fun i d e => by
    obtain ⟨a, o, e1, e2, e3, r⟩ := S.own i d e
    refine ⟨a, o, e1, ?_, A.fH _ _ e3, r.mono A.fF⟩
    cases q : F' a with
    | none => rfl
    | some u =>
      rcases A.fN a u q with z | z
      · rw [e2] at z; cases z
      · rw [e3] at z; cases z
  scr := fun i ns e => by
    obtain ⟨a, e1, r⟩ := S.scr i ns e
    exact ⟨a, e1, sqL_mono A.fF r⟩
  inj := S.inj
  tab := S.tab.ext A.fH
theorem Add.grow (A : Add F H F' H') : GrowE F st σ H F' st H' :=
  ⟨⟨A.fF, fun a o e _ _ => A.fH a o e, fun a o e => (A.fN a o e).imp id fun z => .inr (.inl z), fun a e => .inl e, fun a e => e.keep (A.fH a)⟩, fun _ h => h⟩
/-- a new object that nobody holds -/
theorem Sim.new (S : Sim K T F st σ H) {a : Addr} {o : HO} (n : H a = none) : Sim K T F st σ (upd H a o) where
  len := S.len
  sub := fun b u e => by
    have nb : b ≠ a := fun z => by
      subst z
      rw [S.sub1 _ _ e] at n
      cases n
    rw [upd_ne nb]; exact S.sub b u e
  dat := S.dat
  own := fun i d e => by
    obtain ⟨b, u, e1, e2, e3, r⟩ := S.own i d e
    refine ⟨b, u, e1, e2, ?_, r⟩
    rw [upd_ne (ne_of_none e3 n)]; exact e3
  scr := S.scr
  inj := S.inj
  tab := S.tab.ext fun b u e => by rw [upd_ne (ne_of_none e n)]; exact e
theorem grow_new {a : Addr} {o : HO} (n : H a = none) : GrowE F st σ H F st (upd H a o) :=
  ⟨⟨fun _ _ h => h, fun b u e _ _ => by rw [upd_ne (ne_of_none e n)]; exact e, fun b u e => .inl e, fun b e => .inl e, fun b e => e.keep fun u k => by rw [upd_ne (ne_of_none k n)]; exact k⟩, fun _ h => h⟩
theorem RpC.nt {d : D} {o : HO} (r : RpC K F d o) : ∀ ps, o ≠ .tbl ps := by
  cases r with
  | lst _ => intro ps z; cases z
  | dct q => cases q with
    | dk _ => intro ps z; cases z
theorem RpC.rp {d : D} {o : HO} {a : Addr} (h : F a = some o) (r : RpC K F d o) : Rp K F d (.ref a) := by
  cases r with
  | lst q => exact .lst h q
  | dct q => exact .dct h q
/-- an object that stands alone becomes data -/
theorem Sim.froz {a : Addr} {o : HO} (S : Sim K T F st σ H) (e : H a = some o) (n : F a = none) (nt : ∀ ps, o ≠ .tbl ps) (no : ¬ OwnA st σ a) : Sim K T (upd F a o) st σ H where
  len := S.len
  sub := fun b u q => by
    by_cases z : b = a
    · subst z; rw [upd_same] at q; cases q; exact ⟨e, nt⟩
    · rw [upd_ne z] at q; exact S.sub b u q
  dat := fun i d q => by
    obtain ⟨v, e1, r⟩ := S.dat i d q
    exact ⟨v, e1, r.mono fun b u h => by rw [upd_ne (ne_of_none h n)]; exact h⟩
  own := fun i d q => by
    obtain ⟨b, u, e1, e2, e3, r⟩ := S.own i d q
    have nb : b ≠ a := fun z => no ⟨i, d, q, by rw [← z]; exact e1⟩
    exact ⟨b, u, e1, by rw [upd_ne nb]; exact e2, e3, r.mono fun b u h => by rw [upd_ne (ne_of_none h n)]; exact h⟩
  scr := fun i ns q => by
    obtain ⟨b, e1, r⟩ := S.scr i ns q
    exact ⟨b, e1, sqL_mono (fun b u h => by rw [upd_ne (ne_of_none h n)]; exact h) r⟩
  inj := S.inj
  tab := S.tab
end
/-! ### the judgements -/
structure EV (Γ : Gm) (X : Cx) (W : WX) (e : Expr) (f : M D) : Prop where
  pe : PE X e (rd Γ X.K W (rP X.K) f)
structure EO (Γ : Gm) (X : Cx) (W : WX) (e : Expr) (f : M Op) : Prop where
  pe : PE X e (fun σ => rd Γ X.K W (rO X.K σ) f σ)
structure EN (Γ : Gm) (X : Cx) (W : WX) (e : Expr) (f : M D) : Prop where
  pe : PE X e (rd Γ X.K W (rN X.K) f)
structure ET (Γ : Gm) (X : Cx) (W : WX) (e : Expr) (f : M Bool) : Prop where
  pt : PT X e (rd Γ X.K W (rE Bool) f)
inductive RpOs (K : PySem.W.Frag) (F : Hp) (σ : L2.St) : List Op → List V → Prop
  | nil : RpOs K F σ [] []
  | cons {d : Op} {v : V} {ds : List Op} {vs : List V} : RpO K F σ d v → RpOs K F σ ds vs → RpOs K F σ (d :: ds) (v :: vs)
def rOs (K : PySem.W.Frag) (σ : L2.St) : Rel (List Op) (List V) := fun _ F' _ d v => RpOs K F' σ d v
theorem rOs_mono {K : PySem.W.Frag} {σ : L2.St} : RelMono (rOs K σ) := fun _ _ _ _ _ _ _ r => r
structure EA (Γ : Gm) (X : Cx) (W : WX) (es : List Expr) (f : M (List Op)) : Prop where
  pa : PA X es (fun σ => rd Γ X.K W (rOs X.K σ) f σ)
theorem PE.imp {X : Cx} {e : Expr} {t t' : TE} (h : PE X e t) (i : ∀ σ H Q, t' σ H Q → t σ H Q) : PE X e t' := ⟨fun pins s σ H Q I q => h.run pins s σ H Q I (i σ H Q q)⟩
theorem PT.imp {X : Cx} {e : Expr} {t t' : TT} (h : PT X e t) (i : ∀ σ H Q, t' σ H Q → t σ H Q) : PT X e t' := ⟨fun pins s σ H Q I q => h.run pins s σ H Q I (i σ H Q q)⟩
theorem PA.imp {X : Cx} {es : List Expr} {t t' : TA} (h : PA X es t) (i : ∀ σ H Q, t' σ H Q → t σ H Q) : PA X es t' := ⟨fun pos pins s σ H Q I q => h.run pos pins s σ H Q I (i σ H Q q)⟩
theorem PS.imp {X : Cx} {s : Stmt} {t t' : TS} (h : PS X s t) (i : ∀ D σ H, t' D σ H → t D σ H) : PS X s t' := ⟨fun pins s σ H D I q => h.run pins s σ H D I (i D σ H q)⟩
theorem PSs.imp {X : Cx} {s : List Stmt} {t t' : TS} (h : PSs X s t) (i : ∀ D σ H, t' D σ H → t D σ H) : PSs X s t' := ⟨fun pins s σ H D I q => h.run pins s σ H D I (i D σ H q)⟩
section
variable {Γ : Gm} {X : Cx} {W : WX} {pos : Pos}
/-! ### constants, names -/
theorem ev_int {i j} : EV Γ X W (.Constant (.int i) j pos) (M.ret (.int i)) := ⟨PE.imp pe_int fun σ H Q ⟨st, F, S, h⟩ => fin_ret S h (.int i)⟩
theorem ev_bl {i j} : EV Γ X W (.Constant (.bool i) j pos) (M.ret (.bool i)) := ⟨PE.imp pe_bl fun σ H Q ⟨st, F, S, h⟩ => fin_ret S h (.bl i)⟩
theorem ev_non {j} : EV Γ X W (.Constant .none j pos) (M.ret .none) := ⟨PE.imp pe_non fun σ H Q ⟨st, F, S, h⟩ => fin_ret S h .non⟩
theorem ev_str {i j} : EV Γ X W (.Constant (.str i) j pos) (M.ret (.str i)) := ⟨PE.imp pe_str fun σ H Q ⟨st, F, S, h⟩ => fin_ret S h (.str i)⟩
/-- a name's slot -/
def nam (i : Nat) : M Op := fun st => match st[i]? with
  | some (.dat d) => .ok (.dat d) st
  | some (.own _) => .ok (.own i) st
  | some (.scr _) => .ok (.own i) st
  | _ => .no
theorem eo_nam (i : Nat) {x : Str} (hN : X.N[i]? = some x := by rfl) (hv : Vis X.env.scope x := by first | exact Or.inl rfl | exact Or.inr (Or.inl rfl) | exact Or.inr (Or.inr rfl)) (hd : (x == ("__debug__" : Str)) = false := by decide)
    (hcd : (x == ("__classdict__" : Str)) = false := by decide) : EO Γ X W (.Name x pos) (nam i) := by
  refine ⟨PE.imp (pe_var hN hv hd hcd) fun σ H Q ⟨st, F, S, h⟩ => ?_⟩
  unfold nam at h
  split at h
  · rename_i d e
    obtain ⟨v, e1, r⟩ := S.dat i d e
    exact ⟨v, e1, fin_ret S h r⟩
  · rename_i d e
    obtain ⟨a, o, e1, _⟩ := S.own i d e
    exact ⟨.ref a, e1, fin_ret S h e1⟩
  · rename_i d e
    obtain ⟨a, e1, _⟩ := S.scr i d e
    exact ⟨.ref a, e1, fin_ret S h e1⟩
  · exact h.elim
/-- an int of the module -/
theorem ev_gint {x : Str} {i : Int} {u : Value} (hg : Gl X x) (hm : X.mg x = some u) (r : RelV (.int i) u) (hd : (x == ("__debug__" : Str)) = false := by decide) : EV Γ X W (.Name x pos) (M.ret (.int i)) :=
  ⟨PE.imp (pe_glob hg hm r hd) fun σ H Q ⟨st, F, S, h⟩ => fin_ret S h (.int i)⟩
/-! ### from one kind to another -/
theorem eo_ev {e : Expr} {f : M D} (h : EV Γ X W e f) : EO Γ X W e (f.bind fun d => M.ret (.dat d)) :=
  ⟨PE.imp h.pe fun σ H Q ⟨st, F, S, q⟩ => fin_bind rO_mono S q fun d st1 v H1 F1 S1 G r q1 => fin_ret S1 q1 r⟩
def frz : Op → M D
  | .dat d => M.ret d
  | .own i => fun st => match st[i]? with
    | some (.own d) => .ok d (st.set i (.dat d))
    | some (.dat d) => .ok d st
    | _ => .no
theorem get_set_self {α : Type} {l : List α} {i : Nat} {a b : α} (h : l[i]? = some a) : (l.set i b)[i]? = some b := by
  have := (List.getElem?_eq_some_iff.mp h).1
  rw [List.getElem?_set_self this]
/-- the slot's object becomes data -/
theorem Sim.frzSlot {K : PySem.W.Frag} {T : List (Addr × Str)} {F H : Hp} {st : List Sl} {σ : L2.St} (S : Sim K T F st σ H) {i : Nat} {d : D} {a : Addr} {o : HO} (e : st[i]? = some (.own d)) (e1 : σ[i]? = some (some (.ref a))) (e2 : F a = none) (e3 : H a = some o) (r : RpC K F d o) :
    Sim K T (upd F a o) (st.set i (.dat d)) σ H ∧ GrowE F st σ H (upd F a o) (st.set i (.dat d)) H ∧ Rp K (upd F a o) d (.ref a) := by
  have mono : ∀ b u, F b = some u → upd F a o b = some u := fun b u h => by rw [upd_ne (ne_of_none h e2)]; exact h
  have own' : ∀ (j : Nat) c, (st.set i (.dat d))[j]? = some (.own c) → st[j]? = some (.own c) ∧ j ≠ i := fun j c q => by
    by_cases z : j = i
    · subst z; rw [get_set_self e] at q; cases q
    · rw [List.getElem?_set_ne (Ne.symm z)] at q; exact ⟨q, z⟩
  refine ⟨⟨by rw [List.length_set]; exact S.len, fun b u q => ?_, fun j c q => ?_, fun j c q => ?_, fun j c q => ?_, fun j k c c' b h1 h2 h3 h4 => S.inj j k c c' b (own' _ _ h1).1 (own' _ _ h2).1 h3 h4, S.tab⟩, ⟨⟨mono, fun b u q _ _ => q, fun b u q => ?_, fun b q => ?_, fun b q => q⟩, fun b ⟨j, c, h1, h2⟩ => ⟨j, c, (own' _ _ h1).1, h2⟩⟩, (r.mono mono).rp upd_same⟩
  · by_cases z : b = a
    · subst z; rw [upd_same] at q; cases q; exact ⟨e3, r.nt⟩
    · rw [upd_ne z] at q; exact S.sub b u q
  · by_cases z : j = i
    · subst z; rw [get_set_self e] at q; cases q
      exact ⟨_, e1, (r.mono mono).rp upd_same⟩
    · rw [List.getElem?_set_ne (Ne.symm z)] at q
      obtain ⟨v, h1, h2⟩ := S.dat j c q
      exact ⟨v, h1, h2.mono mono⟩
  · obtain ⟨q1, z⟩ := own' j c q
    obtain ⟨b, u, h1, h2, h3, h4⟩ := S.own j c q1
    have nb : b ≠ a := fun q2 => z (S.inj j i c d a q1 e (by rw [← q2]; exact h1) e1)
    exact ⟨b, u, h1, by rw [upd_ne nb]; exact h2, h3, h4.mono mono⟩
  · by_cases z : j = i
    · subst z; rw [get_set_self e] at q; cases q
    · rw [List.getElem?_set_ne (Ne.symm z)] at q
      obtain ⟨b, h1, h2⟩ := S.scr j c q
      exact ⟨b, h1, sqL_mono mono h2⟩
  · by_cases z : b = a
    · subst z; exact .inr (.inl ⟨i, d, e, e1⟩)
    · rw [upd_ne z] at q; exact .inl q
  · obtain ⟨j, c, h1, h2⟩ := q
    exact .inl ⟨j, c, (own' _ _ h1).1, h2⟩
theorem ev_eo {e : Expr} {f : M Op} (h : EO Γ X W e f) : EV Γ X W e (f.bind frz) := by
  refine ⟨PE.imp h.pe fun σ H Q ⟨st, F, S, q⟩ => fin_bind rP_mono S q fun d st1 v H1 F1 S1 G r q1 => ?_⟩
  cases d with
  | dat d => exact fin_ret S1 q1 r
  | own i =>
    have r : σ[i]? = some (some v) := r
    simp only [frz] at q1
    split at q1
    · rename_i d e
      obtain ⟨a, o, e1, e2, e3, c⟩ := S1.own i d e
      rw [r] at e1
      cases e1
      obtain ⟨S2, G2, R2⟩ := S1.frzSlot e r e2 e3 c
      exact q1 _ _ _ S2 G2 R2
    · rename_i d e
      obtain ⟨u, e1, c⟩ := S1.dat i d e
      rw [r] at e1
      cases e1
      exact fin_ret S1 q1 c
    · exact q1.elim
/-- a plain value of a name -/
theorem ev_nam (i : Nat) {x : Str} (hN : X.N[i]? = some x := by rfl) (hv : Vis X.env.scope x := by first | exact Or.inl rfl | exact Or.inr (Or.inl rfl) | exact Or.inr (Or.inr rfl)) (hd : (x == ("__debug__" : Str)) = false := by decide)
    (hcd : (x == ("__classdict__" : Str)) = false := by decide) : EV Γ X W (.Name x pos) ((nam i).bind frz) := ev_eo (eo_nam i hN hv hd hcd)
/-- a new object as data -/
theorem ev_en {e : Expr} {f : M D} (h : EN Γ X W e f) : EV Γ X W e f := by
  refine ⟨PE.imp h.pe fun σ H Q ⟨st, F, S, q⟩ => ⟨st, F, S, ?_⟩⟩
  cases hf : f st with
  | ok d st1 =>
    rw [hf] at q
    intro v H1 F1 S1 G r
    obtain ⟨a, o, e, n, n2, e3, c⟩ := r
    subst e
    have no : ¬ OwnA st1 σ a := fun z => by
      obtain ⟨i, d', h1, h2⟩ := G.os a z
      obtain ⟨b, u, h3, _, h5, hc⟩ := S.own i d' h1
      rw [h2] at h3
      cases h3
      exact n.no h5 hc.nt
    have mono : ∀ b u, F1 b = some u → upd F1 a o b = some u := fun b u h => by rw [upd_ne (ne_of_none h n2)]; exact h
    refine q _ _ (upd F1 a o) (S1.froz e3 n2 c.nt no) ⟨⟨fun b u h => mono b u (G.g.gF b u h), G.g.gH, fun b u h => ?_, G.g.gO, G.g.gD⟩, G.os⟩ ((c.mono mono).rp upd_same)
    by_cases z : b = a
    · subst z; exact .inr (.inr n)
    · rw [upd_ne z] at h; exact G.g.gN b u h
  | ex x st1 => rw [hf] at q; exact q
  | no => rw [hf] at q; exact q
end
end Sk
set_option maxHeartbeats 1000000
namespace Sk
open PySem PySem.Spec PyProof.Rows L2
abbrev FS (F H : Hp) : Prop := ∀ a o, F a = some o → H a = some o ∧ ∀ ps, o ≠ .tbl ps
/-- an operator by values: data in, data out -/
def S2 (K : PySem.W.Frag) (r : R2) (op : D → D → Option D) : Prop :=
  ∀ (F H : Hp) (d e z : D) (x y : V) (Q : VK), FS F H → RdR K F H d x → RdR K F H e y → op d e = some z → (∀ v H' F', Add F H F' H' → Rp K F' z v → Q v H') → r x y H Q
/-- .. a new object out -/
def S2N (K : PySem.W.Frag) (r : R2) (op : D → D → Option D) : Prop :=
  ∀ (F H : Hp) (d e z : D) (x y : V) (Q : VK), FS F H → RdR K F H d x → RdR K F H e y → op d e = some z → (∀ a o, H a = none → RpC K F z o → Q (.ref a) (upd H a o)) → r x y H Q
def S1 (K : PySem.W.Frag) (r : V → Hp → VK → Prop) (op : D → Option D) : Prop :=
  ∀ (F H : Hp) (d z : D) (x : V) (Q : VK), FS F H → RdR K F H d x → op d = some z → (∀ v H' F', Add F H F' H' → Rp K F' z v → Q v H') → r x H Q
inductive RdA (K : PySem.W.Frag) (F H : Hp) : List D → List V → Prop
  | nil : RdA K F H [] []
  | cons {d : D} {v : V} {ds : List D} {vs : List V} : RdR K F H d v → RdA K F H ds vs → RdA K F H (d :: ds) (v :: vs)
def SA (K : PySem.W.Frag) (r : List V → Hp → VK → Prop) (op : List D → Option D) : Prop :=
  ∀ (F H : Hp) (ds : List D) (z : D) (xs : List V) (Q : VK), FS F H → RdA K F H ds xs → op ds = some z → (∀ v H' F', Add F H F' H' → Rp K F' z v → Q v H') → r xs H Q
def SAN (K : PySem.W.Frag) (r : List V → Hp → VK → Prop) (op : List D → Option D) : Prop :=
  ∀ (F H : Hp) (ds : List D) (z : D) (xs : List V) (Q : VK), FS F H → RdA K F H ds xs → op ds = some z → (∀ a o, H a = none → RpC K F z o → Q (.ref a) (upd H a o)) → r xs H Q
def lookAll (st : List Sl) : List Op → Option (List D)
  | [] => some []
  | x :: xs => match look st x, lookAll st xs with
    | some d, some ds => some (d :: ds)
    | _, _ => none
/-- the result of an operator at operands -/
def ap1 (op : D → Option D) (x : Op) : M D := fun st => match look st x with
  | some d => M.opt (op d) st
  | none => .no
def ap2 (op : D → D → Option D) (x y : Op) : M D := fun st => match look st x, look st y with
  | some d, some e => M.opt (op d e) st
  | _, _ => .no
def apA (op : List D → Option D) (xs : List Op) : M D := fun st => match lookAll st xs with
  | some ds => M.opt (op ds) st
  | none => .no
def un1 (op : D → Option D) (f : M Op) : M D := f.bind fun x => ap1 op x
def bin2 (op : D → D → Option D) (f g : M Op) : M D := f.bind fun x => g.bind fun y => ap2 op x y
def opA (op : List D → Option D) (f : M (List Op)) : M D := f.bind fun x => apA op x
def toB : D → M Bool
  | .bool b => M.ret b
  | _ => M.fail
section
variable {K : PySem.W.Frag} {T : List (Addr × Str)} {F H : Hp} {st : List Sl} {σ : L2.St}
theorem Sim.lookAll (S : Sim K T F st σ H) : ∀ {xs : List Op} {vs : List V} {ds : List D}, RpOs K F σ xs vs → Sk.lookAll st xs = some ds → RdA K F H ds vs
  | [], _, ds, .nil, h => by
    simp only [Sk.lookAll, Option.some.injEq] at h
    subst h
    exact .nil
  | x :: xs, _, ds, .cons r t, h => by
    simp only [Sk.lookAll] at h
    split at h
    · rename_i d ds' e1 e2
      cases h
      exact .cons (S.look r e1) (S.lookAll t e2)
    · cases h
theorem RpOs.mono {F' : Hp} (h : ∀ a o, F a = some o → F' a = some o) : ∀ {xs : List Op} {vs : List V}, RpOs K F σ xs vs → RpOs K F' σ xs vs
  | _, _, .nil => .nil
  | _, _, .cons r t => .cons (r.mono h) (RpOs.mono h t)
end
section
variable {Γ : Gm} {X : Cx} {W : WX} {pos : Pos} {a b : Expr} {f g : M Op} {o : Operator} {r : R2} {op : D → D → Option D}
theorem ap2_ok {F H : Hp} {st : List Sl} {σ : L2.St} {x y : V} {d e : Op} {Q : VK} (hs : S2 X.K r op) (S : Sim X.K Γ.T F st σ H) (h : fin Γ X.K W (rP X.K) F st σ H (ap2 op d e st) Q) (rx : RpO X.K F σ d x) (ry : RpO X.K F σ e y) : r x y H Q := by
  unfold ap2 at h
  split at h
  · rename_i d' e' h1 h2
    cases ho : op d' e' with
    | none => rw [ho] at h; exact h.elim
    | some z =>
      rw [ho] at h
      exact hs F H _ _ _ _ _ _ S.sub (S.look rx h1) (S.look ry h2) ho fun v H' F' A q => h v H' F' (S.add A) A.grow q
  · exact h.elim
theorem ap2N_ok {F H : Hp} {st : List Sl} {σ : L2.St} {x y : V} {d e : Op} {Q : VK} (hs : S2N X.K r op) (S : Sim X.K Γ.T F st σ H) (h : fin Γ X.K W (rN X.K) F st σ H (ap2 op d e st) Q) (rx : RpO X.K F σ d x) (ry : RpO X.K F σ e y) : r x y H Q := by
  unfold ap2 at h
  split at h
  · rename_i d' e' h1 h2
    cases ho : op d' e' with
    | none => rw [ho] at h; exact h.elim
    | some z =>
      rw [ho] at h
      refine hs F H _ _ _ _ _ _ S.sub (S.look rx h1) (S.look ry h2) ho fun p u n q => h _ _ F (S.new n) (grow_new n) ⟨p, u, rfl, .inl n, ?_, upd_same, q⟩
      cases w : F p with
      | none => rfl
      | some k => rw [S.sub1 _ _ w] at n; cases n
  · exact h.elim
theorem tOp_ok {R : Rel D V} (hR : RelMono R) (hs : ∀ {F H : Hp} {st : List Sl} {σ : L2.St} {x y : V} {d e : Op} {Q : VK}, Sim X.K Γ.T F st σ H → fin Γ X.K W R F st σ H (ap2 op d e st) Q → RpO X.K F σ d x → RpO X.K F σ e y → r x y H Q) :
    ∀ σ H Q, rd Γ X.K W R (bin2 op f g) σ H Q → tOp r (fun σ => rd Γ X.K W (rO X.K σ) f σ) (fun σ => rd Γ X.K W (rO X.K σ) g σ) σ H Q := by
  intro σ H Q ⟨st, F, S, h⟩
  refine fin_bind hR S h fun d st1 x H1 F1 S1 G1 r1 h1 => ?_
  refine fin_bind hR S1 h1 fun e st2 y H2 F2 S2 G2 r2 h2 => ?_
  exact hs S2 h2 (RpO.mono G2.g.gF r1) r2
theorem ev_op (ho : OpR X (binaryOp o) r) (hs : S2 X.K r op) (ha : EO Γ X W a f) (hb : EO Γ X W b g) : EV Γ X W (.BinOp a o b pos) (bin2 op f g) :=
  ⟨PE.imp (pe_op ho ha.pe hb.pe) (tOp_ok rP_mono fun S h rx ry => ap2_ok hs S h rx ry)⟩
theorem en_op (ho : OpR X (binaryOp o) r) (hs : S2N X.K r op) (ha : EO Γ X W a f) (hb : EO Γ X W b g) : EN Γ X W (.BinOp a o b pos) (bin2 op f g) :=
  ⟨PE.imp (pe_op ho ha.pe hb.pe) (tOp_ok rN_mono fun S h rx ry => ap2N_ok hs S h rx ry)⟩
variable {c : CmpOp}
theorem ev_cmp (ho : OpR X (compareOp c) r) (hs : S2 X.K r op) (ha : EO Γ X W a f) (hb : EO Γ X W b g) (hm : behindInMarks c b = false := by rfl) : EV Γ X W (.Compare a [c] [b] pos) (bin2 op f g) :=
  ⟨PE.imp (pe_cmpR ho ha.pe hb.pe hm) (tOp_ok rP_mono fun S h rx ry => ap2_ok hs S h rx ry)⟩
/-- from a value to a test's answer -/
theorem toB_ok {F H : Hp} {st : List Sl} {σ : L2.St} {f : M D} {Q : Bool → Hp → Prop} {t : TE} (ht : ∀ Q, rd Γ X.K W (rP X.K) f σ H Q → t σ H Q) (S : Sim X.K Γ.T F st σ H) (h : fin Γ X.K W (rE Bool) F st σ H (f.bind toB st) Q) : tTest t σ H Q := by
  refine ht _ ?_
  refine fin_bind rE_mono S h fun d st1 v H1 F1 S1 G1 r1 h1 => ?_
  cases d with
  | bool b =>
    cases (show Rp X.K F1 (.bool b) v from r1)
    exact ⟨b, rfl, fin_ret S1 h1 rfl⟩
  | _ => exact h1.elim
theorem et_cmp (ho : OpR X (compareOp c) r) (hs : S2 X.K r op) (ha : EO Γ X W a f) (hb : EO Γ X W b g) (hm : behindInMarks c b = false := by rfl) : ET Γ X W (.Compare a [c] [b] pos) ((bin2 op f g).bind toB) :=
  ⟨PT.imp (pt_cmpR ho ha.pe hb.pe hm) fun σ H Q ⟨st, F, S, h⟩ => toB_ok (fun Q h => tOp_ok rP_mono (fun S h rx ry => ap2_ok hs S h rx ry) σ H Q h) S h⟩
theorem et_val {e : Expr} {f : M D} (h : EV Γ X W e f) (he : ∀ whole, isTrue e X.env whole = (do let v ← whole; standAt e.pos; holding [v] (truthy v)) := by intro _; rfl) : ET Γ X W e (f.bind toB) :=
  ⟨PT.imp (pt_val h.pe he) fun σ H Q ⟨st, F, S, q⟩ => toB_ok (t := rd Γ X.K W (rP X.K) f) (fun Q h => h) S q⟩
/-! ### and, or, not, if else -/
variable {p q : M Bool} {rest : List Expr}
def mAnd (p q : M Bool) : M Bool := p.bind fun c => if c = true then q else M.ret false
def mOr (p q : M Bool) : M Bool := p.bind fun c => if c = true then M.ret true else q
def mNot (p : M Bool) : M Bool := p.bind fun c => M.ret (!c)
structure EW (Γ : Gm) (X : Cx) (W : WX) (e : Expr) (f : M Bool) : Prop where
  pw : PW X e (rd Γ X.K W (rE Bool) f)
theorem PW.imp {X : Cx} {e : Expr} {t t' : TT} (h : PW X e t) (i : ∀ σ H Q, t' σ H Q → t σ H Q) : PW X e t' := ⟨fun wh pins s σ H Q I q => h.run wh pins s σ H Q I (i σ H Q q)⟩
theorem EW.et {e : Expr} (h : EW Γ X W e p) : ET Γ X W e p := ⟨h.pw.pt⟩
theorem ew_and1 (ha : ET Γ X W a p) : EW Γ X W (.BoolOp .And [a] pos) p := ⟨pw_and1 ha.pt⟩
theorem ew_or1 (ha : ET Γ X W a p) : EW Γ X W (.BoolOp .Or [a] pos) p := ⟨pw_or1 ha.pt⟩
theorem ew_and (ha : ET Γ X W a p) (hb : EW Γ X W (.BoolOp .And (b :: rest) pos) q) : EW Γ X W (.BoolOp .And (a :: b :: rest) pos) (mAnd p q) := by
  refine ⟨PW.imp (pw_and ha.pt hb.pw) fun σ H Q ⟨st, F, S, h⟩ => fin_bind rE_mono S h fun c st1 v H1 F1 S1 G1 r1 h1 => ?_⟩
  have r1 : v = c := r1
  subst r1
  cases v with
  | true => exact ⟨st1, F1, S1, h1⟩
  | false => exact fin_ret S1 h1 rfl
theorem ew_or (ha : ET Γ X W a p) (hb : EW Γ X W (.BoolOp .Or (b :: rest) pos) q) : EW Γ X W (.BoolOp .Or (a :: b :: rest) pos) (mOr p q) := by
  refine ⟨PW.imp (pw_or ha.pt hb.pw) fun σ H Q ⟨st, F, S, h⟩ => fin_bind rE_mono S h fun c st1 v H1 F1 S1 G1 r1 h1 => ?_⟩
  have r1 : v = c := r1
  subst r1
  cases v with
  | false => exact ⟨st1, F1, S1, h1⟩
  | true => exact fin_ret S1 h1 rfl
theorem et_not (ha : ET Γ X W a p) : ET Γ X W (.UnaryOp .Not a pos) (mNot p) := by
  refine ⟨PT.imp (pt_not ha.pt) fun σ H Q ⟨st, F, S, h⟩ => fin_bind rE_mono S h fun c st1 v H1 F1 S1 G1 r1 h1 => ?_⟩
  have r1 : v = c := r1
  subst r1
  exact fin_ret S1 h1 rfl
/-- values that are truths -/
def vAnd (f g : M D) : M D := f.bind fun d => match d with
  | .bool true => g
  | .bool false => M.ret (.bool false)
  | _ => M.fail
def vOr (f g : M D) : M D := f.bind fun d => match d with
  | .bool true => M.ret (.bool true)
  | .bool false => g
  | _ => M.fail
def vNot (f : M D) : M D := f.bind fun d => match d with
  | .bool b => M.ret (.bool (!b))
  | _ => M.fail
variable {f' g' : M D}
theorem ev_one {op'} (h : EV Γ X W a f') : EV Γ X W (.BoolOp op' [a] pos) f' := ⟨pe_one h.pe⟩
theorem ev_and (ha : EV Γ X W a f') (hb : EV Γ X W (.BoolOp .And (b :: rest) pos) g') : EV Γ X W (.BoolOp .And (a :: b :: rest) pos) (vAnd f' g') := by
  refine ⟨PE.imp (pe_and ha.pe hb.pe) fun σ H Q ⟨st, F, S, h⟩ => fin_bind rP_mono S h fun c st1 v H1 F1 S1 G1 r1 h1 => ?_⟩
  cases c with
  | bool b =>
    cases (show Rp X.K F1 (.bool b) v from r1)
    refine ⟨b, rfl, ?_⟩
    cases b with
    | true => exact ⟨st1, F1, S1, h1⟩
    | false => exact fin_ret S1 h1 (.bl false)
  | _ => exact h1.elim
theorem ev_or (ha : EV Γ X W a f') (hb : EV Γ X W (.BoolOp .Or (b :: rest) pos) g') : EV Γ X W (.BoolOp .Or (a :: b :: rest) pos) (vOr f' g') := by
  refine ⟨PE.imp (pe_or ha.pe hb.pe) fun σ H Q ⟨st, F, S, h⟩ => fin_bind rP_mono S h fun c st1 v H1 F1 S1 G1 r1 h1 => ?_⟩
  cases c with
  | bool b =>
    cases (show Rp X.K F1 (.bool b) v from r1)
    refine ⟨b, rfl, ?_⟩
    cases b with
    | false => exact ⟨st1, F1, S1, h1⟩
    | true => exact fin_ret S1 h1 (.bl true)
  | _ => exact h1.elim
theorem ev_not (ha : EV Γ X W a f') : EV Γ X W (.UnaryOp .Not a pos) (vNot f') := by
  refine ⟨PE.imp (pe_not ha.pe) fun σ H Q ⟨st, F, S, h⟩ => fin_bind rP_mono S h fun c st1 v H1 F1 S1 G1 r1 h1 => ?_⟩
  cases c with
  | bool b =>
    cases (show Rp X.K F1 (.bool b) v from r1)
    exact ⟨b, rfl, fin_ret S1 h1 (.bl _)⟩
  | _ => exact h1.elim
def mIte {α : Type} (p : M Bool) (f g : M α) : M α := p.bind fun c => if c = true then f else g
variable {e : Expr}
theorem ev_ite (hc : ET Γ X W e p) (ha : EV Γ X W a f') (hb : EV Γ X W b g') : EV Γ X W (.IfExp e a b pos) (mIte p f' g') := by
  refine ⟨PE.imp (pe_ifExp hc.pt ha.pe hb.pe) fun σ H Q ⟨st, F, S, h⟩ => fin_bind rP_mono S h fun c st1 v H1 F1 S1 G1 r1 h1 => ?_⟩
  have r1 : v = c := r1
  subst r1
  cases v with
  | true => exact ⟨st1, F1, S1, h1⟩
  | false => exact ⟨st1, F1, S1, h1⟩
/-! ### argument lists, displays -/
def mNil {α : Type} : M (List α) := M.ret []
def mCons {α : Type} (f : M α) (g : M (List α)) : M (List α) := f.bind fun x => g.bind fun xs => M.ret (x :: xs)
theorem ea_nil : EA Γ X W [] mNil := ⟨PA.imp pa_nil fun σ H Q ⟨st, F, S, h⟩ => fin_ret S h .nil⟩
theorem ea_cons {es : List Expr} {fs : M (List Op)} (ha : EO Γ X W e f) (hr : EA Γ X W es fs) (hs : starEach (e :: es) X.env = (false, eval e X.env) :: starEach es X.env := by rfl) : EA Γ X W (e :: es) (mCons f fs) := by
  refine ⟨PA.imp (pa_cons ha.pe hr.pa hs) fun σ H Q ⟨st, F, S, h⟩ => fin_bind rOs_mono S h fun d st1 v H1 F1 S1 G1 r1 h1 => ?_⟩
  exact fin_bind rOs_mono S1 h1 fun ds st2 vs H2 F2 S2 G2 r2 h2 => fin_ret S2 h2 (.cons (RpO.mono G2.g.gF r1) r2)
/-- only data -/
inductive RpDs (K : PySem.W.Frag) (F : Hp) : List D → List V → Prop
  | mk {ds vs} : RpA K F ds vs → RpDs K F ds vs
structure EL (Γ : Gm) (X : Cx) (W : WX) (es : List Expr) (f : M (List D)) : Prop where
  pa : PA X es (rd Γ X.K W (fun _ F' _ d v => RpA X.K F' d v) f)
theorem rA_mono {K : PySem.W.Frag} : RelMono (fun _ F' _ d v => RpA K F' d v : Rel (List D) (List V)) := fun _ _ _ _ _ _ _ r => r
theorem el_nil : EL Γ X W [] mNil := ⟨PA.imp pa_nil fun σ H Q ⟨st, F, S, h⟩ => fin_ret S h .nil⟩
theorem el_cons {es : List Expr} {fs : M (List D)} (ha : EV Γ X W e f') (hr : EL Γ X W es fs) (hs : starEach (e :: es) X.env = (false, eval e X.env) :: starEach es X.env := by rfl) : EL Γ X W (e :: es) (mCons f' fs) := by
  refine ⟨PA.imp (pa_cons ha.pe hr.pa hs) fun σ H Q ⟨st, F, S, h⟩ => fin_bind rA_mono S h fun d st1 v H1 F1 S1 G1 r1 h1 => ?_⟩
  exact fin_bind rA_mono S1 h1 fun ds st2 vs H2 F2 S2 G2 r2 h2 => fin_ret S2 h2 (.cons (Rp.mono G2.g.gF r1) r2)
def mTup (f : M (List D)) : M D := f.bind fun ds => if ds.length ≤ 1000 then M.ret (.tuple ds) else M.fail
def mLst (f : M (List D)) : M D := f.bind fun ds => if ds.length ≤ 1000 then M.ret (.list ds) else M.fail
theorem line1000 {n : Nat} (h : n ≤ 1000) : n ≤ sizeLine := Nat.le_trans h (by decide)
theorem ev_tup {es : List Expr} {fs : M (List D)} {x1} (h : EL Γ X W es fs) : EV Γ X W (.Tuple es x1 pos) (mTup fs) := by
  refine ⟨PE.imp (pe_tupF h.pa) fun σ H Q ⟨st, F, S, h⟩ => fin_bind rP_mono S h fun ds st1 vs H1 F1 S1 G1 r1 h1 => ?_⟩
  have r1 : RpA X.K F1 ds vs := r1
  by_cases z : ds.length ≤ 1000
  · rw [if_pos z] at h1
    refine ⟨line1000 (by rw [← r1.length]; exact z), fun p ob hp nd => ?_⟩
    have A := Add.new (o := .frz ob (.tup vs)) S1.sub hp (by intro ps z; cases z)
    exact h1 _ _ _ (S1.add A) A.grow (.tup ⟨ob, upd_same, nd⟩ (r1.mono A.fF))
  · rw [if_neg z] at h1
    exact h1.elim
theorem Sim.fnone {K : PySem.W.Frag} {T : List (Addr × Str)} {F H : Hp} {st : List Sl} {σ : L2.St} (S : Sim K T F st σ H) {p : Addr} (n : H p = none) : F p = none := by
  cases w : F p with
  | none => rfl
  | some k => rw [S.sub1 _ _ w] at n; cases n
theorem en_lst {es : List Expr} {fs : M (List D)} (h : EL Γ X W es fs) : EN Γ X W (.List es pos) (mLst fs) := by
  refine ⟨PE.imp (pe_lst h.pa) fun σ H Q ⟨st, F, S, h⟩ => fin_bind rN_mono S h fun ds st1 vs H1 F1 S1 G1 r1 h1 => ?_⟩
  have r1 : RpA X.K F1 ds vs := r1
  by_cases z : ds.length ≤ 1000
  · rw [if_pos z] at h1
    refine ⟨line1000 (by rw [← r1.length]; exact z), fun p hp => ?_⟩
    exact h1 _ _ _ (S1.new hp) (grow_new hp) ⟨p, _, rfl, .inl hp, S1.fnone hp, upd_same, .lst r1⟩
  · rw [if_neg z] at h1
    exact h1.elim
/-! ### subscripts -/
theorem ev_ix (hr : IxR X r) (hs : S2 X.K r op) (ha : EO Γ X W a f) (hb : EO Γ X W b g) (hp : PlainIx b := by exact fun _ _ => rfl) : EV Γ X W (.Subscript a b pos) (bin2 op f g) :=
  ⟨PE.imp (pe_ix hr ha.pe hb.pe hp) (tOp_ok rP_mono fun S h rx ry => ap2_ok hs S h rx ry)⟩
/-! ### unary -/
theorem ev_un {u : UnaryOp} {r1 : V → Hp → VK → Prop} {op1 : D → Option D} (ho : UnR X (unaryOp u) r1) (hs : S1 X.K r1 op1) (ha : EO Γ X W a f) : EV Γ X W (.UnaryOp u a pos) (un1 op1 f) := by
  refine ⟨PE.imp (pe_un ho ha.pe) fun σ H Q ⟨st, F, S, h⟩ => fin_bind rP_mono S h fun d st1 v H1 F1 S1 G1 q1 h1 => ?_⟩
  unfold ap1 at h1
  split at h1
  · rename_i d' e1
    cases ho : op1 d' with
    | none => rw [ho] at h1; exact h1.elim
    | some z =>
      rw [ho] at h1
      exact hs F1 H1 _ _ _ _ S1.sub (S1.look q1 e1) ho fun v H' F' A q => h1 v H' F' (S1.add A) A.grow q
  · exact h1.elim
end
end Sk
set_option maxHeartbeats 1000000
namespace Sk
open PySem PySem.Spec PyProof.Rows L2
def cap : Nat := 16000000
theorem cap_line : cap ≤ sizeLine := by decide
theorem le_cap {n : Nat} (h : n ≤ cap) : n ≤ sizeLine := Nat.le_trans h cap_line
theorem lt_cap {n : Nat} (h : n < cap) : n < sizeLine := Nat.lt_of_lt_of_le h cap_line
/-- a check -/
def chk (c : Prop) [Decidable c] (d : D) : Option D := if c then some d else none
theorem chk_some {c : Prop} [Decidable c] {d z : D} (h : chk c d = some z) : c ∧ z = d := by
  unfold chk at h
  split at h
  · rename_i hc; cases h; exact ⟨hc, rfl⟩
  · cases h
/-! ### ints -/
def iOp (g : Int → Int → Option D) : D → D → Option D
  | .int i, .int j => g i j
  | _, _ => none
def dSub : D → D → Option D := iOp fun i j => some (.int (i - j))
def dMul : D → D → Option D := iOp fun i j => chk ((-(2 ^ 64) < i ∧ i < 2 ^ 64) ∨ (-(2 ^ 64) < j ∧ j < 2 ^ 64)) (.int (i * j))
def dDiv : D → D → Option D := iOp fun i j => chk (0 < j ∧ j < 2 ^ 200) (.int (i / j))
def dMod : D → D → Option D := iOp fun i j => chk (0 < j) (.int (i % j))
def dPow : D → D → Option D := iOp fun i j => chk (0 ≤ j ∧ j ≤ 1000000 ∧ i.natAbs < 2 ^ 64) (.int (i ^ j.toNat))
def dLt : D → D → Option D := iOp fun i j => some (.bool (decide (i < j)))
def dLe : D → D → Option D := iOp fun i j => some (.bool (decide (i ≤ j)))
def dGt : D → D → Option D := iOp fun i j => some (.bool (decide (j < i)))
def dGe : D → D → Option D := iOp fun i j => some (.bool (decide (j ≤ i)))
/-- + of ints, texts, tuples -/
def dAdd : D → D → Option D
  | .int i, .int j => some (.int (i + j))
  | .str x, .str y => chk (x.length + y.length ≤ cap) (.str (x ++ y))
  | .tuple xs, .tuple ys => chk (xs.length + ys.length ≤ cap) (.tuple (xs ++ ys))
  | _, _ => none
/-- + of lists -/
def dCat : D → D → Option D
  | .list xs, .list ys => chk (xs.length + ys.length ≤ cap) (.list (xs ++ ys))
  | _, _ => none
/-- list * n -/
def dRepL : D → D → Option D
  | .list xs, .int k => chk (0 ≤ k ∧ k ≤ 1000 ∧ xs.length ≤ 100) (.list (List.replicate k.toNat xs).flatten)
  | _, _ => none
/-- tuple * n, n from 2 on -/
def dRepT : D → D → Option D
  | .tuple xs, .int k => chk (-1000 ≤ k ∧ k ≤ 1000 ∧ xs.length ≤ 1000) (.tuple (List.replicate k.toNat xs).flatten)
  | _, _ => none
def dEq (d e : D) : Option D := chk (SeqAt.shaped d = true ∧ SeqAt.shaped e = true) (.bool (PyData.eqv d e))
def dNe (d e : D) : Option D := chk (SeqAt.shaped d = true ∧ SeqAt.shaped e = true) (.bool (!PyData.eqv d e))
def isNone : D → Bool
  | .none => true
  | _ => false
def dIsN : D → D → Option D
  | d, .none => some (.bool (isNone d))
  | _, _ => none
def dNotN : D → D → Option D
  | d, .none => some (.bool (!isNone d))
  | _, _ => none
def dIsB : D → D → Option D
  | .bool a, .bool b => some (.bool (decide (a = b)))
  | _, _ => none
def dNotB : D → D → Option D
  | .bool a, .bool b => some (.bool (!decide (a = b)))
  | _, _ => none
/-- items of a list or tuple -/
def items : D → Option (List D)
  | .list xs => some xs
  | .tuple xs => some xs
  | _ => none
def flatD : D → Bool
  | .none => true
  | .bool _ => true
  | .int _ => true
  | .str _ => true
  | _ => false
def dInL : D → D → Option D
  | d, .list xs => chk (SeqAt.shaped d = true ∧ SeqAt.shaped (.list xs) = true) (.bool (xs.any fun z => PyData.eqv z d))
  | d, .tuple xs => chk (flatD d = true ∧ xs.all flatD = true) (.bool (xs.any fun z => PyData.eqv z d))
  | _, _ => none
def dNotInL : D → D → Option D
  | d, .list xs => chk (SeqAt.shaped d = true ∧ SeqAt.shaped (.list xs) = true) (.bool (!xs.any fun z => PyData.eqv z d))
  | d, .tuple xs => chk (flatD d = true ∧ xs.all flatD = true) (.bool (!xs.any fun z => PyData.eqv z d))
  | _, _ => none
/-! ### they are the machine's -/
section
variable {X : Cx} {K : PySem.W.Frag}
theorem s2_int {g : Int → Int → V} {h : Int → Int → D} {C : Int → Int → Prop} {op : D → D → Option D} (ho : ∀ d e z, op d e = some z → ∃ i j, d = .int i ∧ e = .int j ∧ z = h i j ∧ C i j) (hr : ∀ F i j, Rp K F (h i j) (g i j)) : S2 K (rI C g) op := by
  intro F H d e z x y Q hF rx ry q k
  obtain ⟨i, j, rfl, rfl, rfl, c⟩ := ho d e z q
  cases rx
  cases ry
  exact ⟨i, j, rfl, rfl, c, k _ _ _ (Add.refl hF) (hr _ i j)⟩
theorem s2_int0 {g : Int → Int → V} {h : Int → Int → D} {op : D → D → Option D} (ho : ∀ d e z, op d e = some z → ∃ i j, d = .int i ∧ e = .int j ∧ z = h i j) (hr : ∀ F i j, Rp K F (h i j) (g i j)) : S2 K (rI0 g) op := by
  intro F H d e z x y Q hF rx ry q k
  obtain ⟨i, j, rfl, rfl, rfl⟩ := ho d e z q
  cases rx
  cases ry
  exact ⟨i, j, rfl, rfl, k _ _ _ (Add.refl hF) (hr _ i j)⟩
theorem iOp_some {g : Int → Int → Option D} {d e z : D} (h : iOp g d e = some z) : ∃ i j, d = .int i ∧ e = .int j ∧ g i j = some z := by
  unfold iOp at h
  split at h
  · exact ⟨_, _, rfl, rfl, h⟩
  · cases h
theorem s_sub : S2 K (rI0 fun i j => .int (i - j)) dSub := s2_int0 (h := fun i j => .int (i - j)) (fun d e z q => by
  obtain ⟨i, j, h1, h2, h3⟩ := iOp_some q; cases h3; exact ⟨i, j, h1, h2, rfl⟩) fun _ i j => .int _
theorem s_lt : S2 K (rI0 fun i j => .bl (decide (i < j))) dLt := s2_int0 (h := fun i j => .bool (decide (i < j))) (fun d e z q => by
  obtain ⟨i, j, h1, h2, h3⟩ := iOp_some q; cases h3; exact ⟨i, j, h1, h2, rfl⟩) fun _ i j => .bl _
theorem s_le : S2 K (rI0 fun i j => .bl (decide (i ≤ j))) dLe := s2_int0 (h := fun i j => .bool (decide (i ≤ j))) (fun d e z q => by
  obtain ⟨i, j, h1, h2, h3⟩ := iOp_some q; cases h3; exact ⟨i, j, h1, h2, rfl⟩) fun _ i j => .bl _
theorem s_gt : S2 K (rI0 fun i j => .bl (decide (j < i))) dGt := s2_int0 (h := fun i j => .bool (decide (j < i))) (fun d e z q => by
  obtain ⟨i, j, h1, h2, h3⟩ := iOp_some q; cases h3; exact ⟨i, j, h1, h2, rfl⟩) fun _ i j => .bl _
theorem s_ge : S2 K (rI0 fun i j => .bl (decide (j ≤ i))) dGe := s2_int0 (h := fun i j => .bool (decide (j ≤ i))) (fun d e z q => by
  obtain ⟨i, j, h1, h2, h3⟩ := iOp_some q; cases h3; exact ⟨i, j, h1, h2, rfl⟩) fun _ i j => .bl _
theorem s_mul : S2 K (rI CMul fun i j => .int (i * j)) dMul := s2_int (h := fun i j => .int (i * j)) (fun d e z q => by
  obtain ⟨i, j, h1, h2, h3⟩ := iOp_some q; obtain ⟨c, h4⟩ := chk_some h3; exact ⟨i, j, h1, h2, h4, c⟩) fun _ i j => .int _
theorem s_mod : S2 K (rI (fun _ j => 0 < j) fun i j => .int (i % j)) dMod := s2_int (h := fun i j => .int (i % j)) (fun d e z q => by
  obtain ⟨i, j, h1, h2, h3⟩ := iOp_some q; obtain ⟨c, h4⟩ := chk_some h3; exact ⟨i, j, h1, h2, h4, c⟩) fun _ i j => .int _
theorem s_pow : S2 K (rI CPow fun i j => .int (i ^ j.toNat)) dPow := s2_int (h := fun i j => .int (i ^ j.toNat)) (fun d e z q => by
  obtain ⟨i, j, h1, h2, h3⟩ := iOp_some q; obtain ⟨c, h4⟩ := chk_some h3; exact ⟨i, j, h1, h2, h4, c⟩) fun _ i j => .int _
theorem s_div : S2 K (rI CDivW fun i j => .int (i / j)) dDiv := s2_int (h := fun i j => .int (i / j)) (fun d e z q => by
  obtain ⟨i, j, h1, h2, h3⟩ := iOp_some q; obtain ⟨c, h4⟩ := chk_some h3
  refine ⟨i, j, h1, h2, h4, wide_div (i := i) c.1 (b := 200) ?_ (by decide) (by decide)⟩
  have c2 := c.2
  have c1 := c.1
  have e : ((2 : Int) ^ 200) = (((2 : Nat) ^ 200 : Nat) : Int) := by rw [Int.natCast_pow]; rfl
  rw [e] at c2
  generalize (2 : Nat) ^ 200 = m at c2 ⊢
  omega) fun _ i j => .int _
def rAddA (K : PySem.W.Frag) : R2 := fun x y H Q => (rI0 fun i j => .int (i + j)) x y H Q ∨ (∃ i j, x = .str i ∧ y = .str j ∧ i.length + j.length ≤ sizeLine ∧ Q (.str (i ++ j)) H) ∨ rCatF K x y H Q
theorem op_addA : OpR X (binaryOp .Add) (rAddA X.K) := OpR.or op_add (OpR.or op_add_str op_catF)
theorem s_add : S2 K (rAddA K) dAdd := by
  intro F H d e z x y Q hF rx ry q k
  unfold dAdd at q
  split at q
  · cases q
    cases rx
    cases ry
    exact .inl ⟨_, _, rfl, rfl, k _ _ _ (Add.refl hF) (.int _)⟩
  · obtain ⟨c, rfl⟩ := chk_some q
    cases rx
    cases ry
    exact .inr (.inl ⟨_, _, rfl, rfl, le_cap c, k _ _ _ (Add.refl hF) (.str _)⟩)
  · rename_i xs ys
    obtain ⟨c, rfl⟩ := chk_some q
    have hm : ∀ a o, F a = some o → H a = some o := fun a o e => (hF a o e).1
    cases rx with
    | tup sx qx =>
      rename_i a us
      cases ry with
      | tup sy qy =>
        rename_i b vs
        refine .inr (.inr ⟨a, b, us, vs, rfl, rfl, sqT_mono hm sx.sq, sqT_mono hm sy.sq, by rw [← qx.length, ← qy.length]; exact le_cap c, fun h0 => ?_, fun h0 => ?_, fun p ob hp nd => ?_⟩)
        · subst h0
          cases qx
          exact k _ _ _ (Add.refl hF) (.tup sy qy)
        · subst h0
          cases qy
          rw [List.append_nil] at k
          exact k _ _ _ (Add.refl hF) (.tup sx qx)
        · have A := Add.new (o := .frz ob (.tup (us ++ vs))) hF hp (by intro ps z; cases z)
          exact k _ _ _ A (.tup ⟨ob, upd_same, nd⟩ ((qx.append qy).mono A.fF))
  · cases q
theorem RpA.rep {F : Hp} {ds : List D} {vs : List V} (r : RpA K F ds vs) : ∀ k : Nat, RpA K F (List.replicate k ds).flatten (List.replicate k vs).flatten
  | 0 => .nil
  | k + 1 => by
    rw [List.replicate_succ, List.replicate_succ, List.flatten_cons, List.flatten_cons]
    exact r.append (RpA.rep r k)
theorem s_cat : S2N K rCat dCat := by
  intro F H d e z x y Q hF rx ry q k
  unfold dCat at q
  split at q
  · obtain ⟨c, rfl⟩ := chk_some q
    cases rx with
    | lst sx qx =>
      cases ry with
      | lst sy qy =>
        exact ⟨_, _, _, _, rfl, rfl, sx, sy, by rw [← qx.length, ← qy.length]; exact le_cap c, fun p hp => k _ _ hp (.lst (qx.append qy))⟩
  · cases q
theorem s_repL : S2N K rRep dRepL := by
  intro F H d e z x y Q hF rx ry q k
  unfold dRepL at q
  split at q
  · rename_i xs i
    obtain ⟨⟨c1, c2, c3⟩, rfl⟩ := chk_some q
    cases rx with
    | lst sx qx =>
      rename_i l us
      cases ry
      refine ⟨l, i, us, rfl, rfl, sx, by omega, by omega, ?_, fun p hp => ?_⟩
      · rw [← qx.length]
        have h1 : i.toNat ≤ 1000 := by omega
        have h2 := Nat.mul_le_mul c3 h1
        exact Nat.le_trans h2 (by decide)
      · exact k _ _ hp (.lst (qx.rep _))
  · cases q
theorem s_repT : S2 K (rMulF K) dRepT := by
  intro F H d e z x y Q hF rx ry q k
  unfold dRepT at q
  split at q
  · rename_i xs i
    obtain ⟨⟨c1, c2, c3⟩, rfl⟩ := chk_some q
    have hm : ∀ a o, F a = some o → H a = some o := fun a o e => (hF a o e).1
    cases rx with
    | tup sx qx =>
      rename_i l us
      cases ry
      refine ⟨l, i, us, rfl, rfl, sqT_mono hm sx.sq, c1, c2, by rw [← qx.length]; omega, fun z => ?_, fun p ob hp nd => ?_⟩
      · have e : (List.replicate i.toNat xs).flatten = xs := by
          rcases z with z | z
          · subst z
            cases qx
            simp
          · subst z
            simp
        rw [e] at k
        exact k _ _ _ (Add.refl hF) (.tup sx qx)
      · have A := Add.new (o := .frz ob (.tup (List.replicate i.toNat us).flatten)) hF hp (by intro ps z; cases z)
        exact k _ _ _ A (.tup ⟨ob, upd_same, nd⟩ ((qx.rep _).mono A.fF))
  · cases q
theorem lay_of {d : D} (h : SeqAt.shaped d = true) : d.canLay0 = true := SeqAt.canLay_of_shaped h
theorem s_eq : S2 K (rEqD K) dEq := by
  intro F H d e z x y Q hF rx ry q k
  obtain ⟨⟨c1, c2⟩, rfl⟩ := chk_some q
  have hm : ∀ a o, F a = some o → H a = some o := fun a o e => (hF a o e).1
  exact ⟨d, e, rx.dp hm (lay_of c1), ry.dp hm (lay_of c2), c1, c2, k _ _ _ (Add.refl hF) (.bl _)⟩
theorem s_ne : S2 K (rNeD K) dNe := by
  intro F H d e z x y Q hF rx ry q k
  obtain ⟨⟨c1, c2⟩, rfl⟩ := chk_some q
  have hm : ∀ a o, F a = some o → H a = some o := fun a o e => (hF a o e).1
  exact ⟨d, e, rx.dp hm (lay_of c1), ry.dp hm (lay_of c2), c1, c2, k _ _ _ (Add.refl hF) (.bl _)⟩
theorem isNone_of {F H : Hp} {d : D} {x : V} (r : RdR K F H d x) : decide (x = .non) = isNone d := by
  cases r <;> simp [isNone]
theorem s_isN : S2 K (fun x y H Q => y = .non ∧ Q (.bl (decide (x = .non))) H) dIsN := by
  intro F H d e z x y Q hF rx ry q k
  unfold dIsN at q
  split at q
  · cases q
    cases ry
    refine ⟨rfl, ?_⟩
    rw [isNone_of rx]
    exact k _ _ _ (Add.refl hF) (.bl _)
  · cases q
theorem s_notN : S2 K (fun x y H Q => y = .non ∧ Q (.bl (!decide (x = .non))) H) dNotN := by
  intro F H d e z x y Q hF rx ry q k
  unfold dNotN at q
  split at q
  · cases q
    cases ry
    refine ⟨rfl, ?_⟩
    rw [isNone_of rx]
    exact k _ _ _ (Add.refl hF) (.bl _)
  · cases q
theorem s_isB : S2 K rIsB dIsB := by
  intro F H d e z x y Q hF rx ry q k
  unfold dIsB at q
  split at q
  · cases q
    cases rx
    cases ry
    exact ⟨_, _, rfl, rfl, k _ _ _ (Add.refl hF) (.bl _)⟩
  · cases q
theorem s_notB : S2 K rNotB dNotB := by
  intro F H d e z x y Q hF rx ry q k
  unfold dNotB at q
  split at q
  · cases q
    cases rx
    cases ry
    exact ⟨_, _, rfl, rfl, k _ _ _ (Add.refl hF) (.bl _)⟩
  · cases q
def rInA (K : PySem.W.Frag) : R2 := fun x y H Q => rInD K x y H Q ∨ rIn K false x y H Q
def rNotInA (K : PySem.W.Frag) : R2 := fun x y H Q => rNotInD K x y H Q ∨ rIn K true x y H Q
theorem op_inA (hu : X.A.units + 65 < cLine) : OpR X (compareOp .In) (rInA X.K) := OpR.or (op_inD hu) op_in_seq
theorem op_notInA (hu : X.A.units + 65 < cLine) : OpR X (compareOp .NotIn) (rNotInA X.K) := OpR.or (op_notInD hu) op_notIn_seq
theorem flat_rd {F H : Hp} {d : D} {x : V} (f : flatD d = true) (r : RdR K F H d x) : flatV x = true := by
  cases r <;> first | rfl | (simp [flatD] at f)
theorem flat_rp {F : Hp} {d : D} {x : V} (f : flatD d = true) (r : Rp K F d x) : flatV x = true := by
  cases r <;> first | rfl | (simp [flatD] at f)
theorem flat_eq {F F' H : Hp} {d e : D} {x y : V} (f : flatD d = true) (f2 : flatD e = true) (r : Rp K F d x) (q : RdR K F' H e y) : eqV x y = PyData.eqv d e := by
  cases r <;> first | (simp [flatD] at f; done) | (cases q <;> first | (simp [flatD] at f2; done) | rfl | (simp [eqV, PyData.eqv]))
theorem flat_any {F F' H : Hp} {e : D} {y : V} (f2 : flatD e = true) (q : RdR K F' H e y) : ∀ {ds : List D} {vs : List V}, RpA K F ds vs → ds.all flatD = true → vs.all flatV = true ∧ inV y vs = ds.any fun z => PyData.eqv z e
  | [], _, .nil, _ => ⟨rfl, rfl⟩
  | d :: ds, _, .cons r t, h => by
    rw [List.all_cons, Bool.and_eq_true] at h
    obtain ⟨h1, h2⟩ := flat_any f2 q t h.2
    refine ⟨by rw [List.all_cons, flat_rp h.1 r, h1]; rfl, ?_⟩
    unfold inV at h2 ⊢
    rw [List.any_cons, List.any_cons, h2, flat_eq h.1 f2 r q]
theorem s_inL : S2 K (rInA K) dInL := by
  intro F H d e z x y Q hF rx ry q k
  have hm : ∀ a o, F a = some o → H a = some o := fun a o e => (hF a o e).1
  unfold dInL at q
  split at q
  · obtain ⟨⟨c1, c2⟩, rfl⟩ := chk_some q
    exact .inl ⟨_, _, rx.dp hm (lay_of c1), ry.dp hm (lay_of c2), c1, c2, k _ _ _ (Add.refl hF) (.bl _)⟩
  · obtain ⟨⟨c1, c2⟩, rfl⟩ := chk_some q
    cases ry with
    | tup s r =>
      obtain ⟨f1, f2⟩ := flat_any c1 rx r c2
      refine .inr ⟨_, _, rfl, .inr (sqT_mono hm s.sq), flat_rd c1 rx, f1, ?_⟩
      rw [f2]
      exact k _ _ _ (Add.refl hF) (.bl _)
  · cases q
theorem s_notInL : S2 K (rNotInA K) dNotInL := by
  intro F H d e z x y Q hF rx ry q k
  have hm : ∀ a o, F a = some o → H a = some o := fun a o e => (hF a o e).1
  unfold dNotInL at q
  split at q
  · obtain ⟨⟨c1, c2⟩, rfl⟩ := chk_some q
    exact .inl ⟨_, _, rx.dp hm (lay_of c1), ry.dp hm (lay_of c2), c1, c2, k _ _ _ (Add.refl hF) (.bl _)⟩
  · obtain ⟨⟨c1, c2⟩, rfl⟩ := chk_some q
    cases ry with
    | tup s r =>
      obtain ⟨f1, f2⟩ := flat_any c1 rx r c2
      refine .inr ⟨_, _, rfl, .inr (sqT_mono hm s.sq), flat_rd c1 rx, f1, ?_⟩
      rw [f2]
      exact k _ _ _ (Add.refl hF) (.bl _)
  · cases q
/-! ### items, parts -/
def dIx : D → D → Option D
  | .list xs, .int i => atI xs i
  | .tuple xs, .int i => atI xs i
  | .str x, .int i => if x.length ≤ cap then (atI x.cps.toList i).map fun c => .str ⟨#[c]⟩ else none
  | _, _ => none
theorem RpA.atI {F : Hp} {ds : List D} {vs : List V} (r : RpA K F ds vs) {i : Int} {d : D} (h : L2.atI ds i = some d) : ∃ v, L2.atI vs i = some v ∧ Rp K F d v := by
  unfold L2.atI at h ⊢
  rw [← r.length]
  cases e : ixN ds.length i with
  | none => rw [e] at h; cases h
  | some j =>
    rw [e] at h
    exact r.get h
theorem s_ix : S2 K (rIx K) dIx := by
  intro F H d e z x y Q hF rx ry q k
  have hm : ∀ a o, F a = some o → H a = some o := fun a o e => (hF a o e).1
  unfold dIx at q
  split at q
  · cases rx with
    | lst sx qx =>
      cases ry
      obtain ⟨v, h1, h2⟩ := qx.atI q
      exact .inl ⟨_, _, _, v, rfl, rfl, .inl (.inl sx), h1, k _ _ _ (Add.refl hF) h2⟩
  · cases rx with
    | tup sx qx =>
      cases ry
      obtain ⟨v, h1, h2⟩ := qx.atI q
      exact .inr (.inl ⟨_, _, _, v, rfl, rfl, sqT_mono hm sx.sq, h1, k _ _ _ (Add.refl hF) h2⟩)
  · rename_i x i
    split at q
    · rename_i c
      cases e : L2.atI x.cps.toList i with
      | none => rw [e] at q; cases q
      | some cc =>
        rw [e] at q
        cases q
        cases rx
        cases ry
        exact .inr (.inr ⟨_, _, cc, rfl, rfl, le_cap c, e, k _ _ _ (Add.refl hF) (.str _)⟩)
    · cases q
  · cases q
def dNeg : D → Option D
  | .int i => some (.int (-i))
  | _ => none
theorem s_neg : S1 K (rU fun i => .int (-i)) dNeg := by
  intro F H d z x Q hF rx q k
  unfold dNeg at q
  split at q
  · cases q
    cases rx
    exact ⟨_, rfl, k _ _ _ (Add.refl hF) (.int _)⟩
  · cases q
end
end Sk
set_option maxHeartbeats 1000000
namespace Sk
open PySem PySem.Spec PyProof.Rows L2
/-- one after another, told from an elder place -/
theorem fin_bindA {Γ : Gm} {K : PySem.W.Frag} {W : WX} {α β γ δ : Type} {R : Rel α β} {R2 : Rel γ δ} {F H F1 H1 : Hp} {st st1 : List Sl} {σ : L2.St} {f : M α} {g : α → M γ} {Q : δ → Hp → Prop} {Q1 : β → Hp → Prop} (S1 : Sim K Γ.T F1 st1 σ H1) (G1 : GrowE F st σ H F1 st1 H1)
    (h : fin Γ K W R2 F st σ H (f.bind g st1) Q)
    (k : ∀ d st2 v H2 F2, Sim K Γ.T F2 st2 σ H2 → GrowE F1 st1 σ H1 F2 st2 H2 → R H1 F2 H2 d v → fin Γ K W R2 F st σ H (g d st2) Q → Q1 v H2) : rd Γ K W R f σ H1 Q1 := by
  refine ⟨st1, F1, S1, ?_⟩
  unfold M.bind at h
  cases e : f st1 with
  | ok d st2 =>
    rw [e] at h
    exact fun v H' F' S2 G r => k d st2 v H' F' S2 G r h
  | ex x st2 =>
    rw [e] at h
    exact fun cls dx H' F' S' G' r => h cls dx H' F' S' (G1.trans G') r
  | no =>
    rw [e] at h
    exact h
/-! ### statements -/
inductive SOut where
  | nx (st : List Sl)
  | bk (st : List Sl)
  | ct (st : List Sl)
  | rt (d : D) (st : List Sl)
  | ex (x : Er) (st : List Sl)
  | no
abbrev MS := List Sl → SOut
def Keep (P : List Nat) (σ σ' : L2.St) : Prop := (∀ i ∈ P, σ'[i]? = σ[i]?) ∧ σ'.length = σ.length
theorem Keep.refl {P : List Nat} {σ : L2.St} : Keep P σ σ := ⟨fun _ _ => rfl, rfl⟩
theorem Keep.trans {P : List Nat} {σ σ1 σ2 : L2.St} (a : Keep P σ σ1) (b : Keep P σ1 σ2) : Keep P σ σ2 := ⟨fun i h => (b.1 i h).trans (a.1 i h), b.2.trans a.2⟩
theorem Keep.set {P : List Nat} {σ : L2.St} {i : Nat} {v : Option V} (h : i ∉ P) : Keep P σ (σ.set i v) := ⟨fun j hj => by
  rw [List.getElem?_set_ne]
  intro z
  subst z
  exact h hj, List.length_set ..⟩
section
variable (Γ : Gm) (K : PySem.W.Frag) (W : WX) (P : List Nat)
def finS (F : Hp) (st : List Sl) (σ : L2.St) (H : Hp) (o : SOut) (Dn : Ends) : Prop := match o with
  | .nx st' => ∀ σ' H' F', Sim K Γ.T F' st' σ' H' → Grow F st σ H F' st' σ' H' → Keep P σ σ' → Dn.nx σ' H'
  | .bk st' => ∀ σ' H' F', Sim K Γ.T F' st' σ' H' → Grow F st σ H F' st' σ' H' → Keep P σ σ' → Dn.bk σ' H'
  | .ct st' => ∀ σ' H' F', Sim K Γ.T F' st' σ' H' → Grow F st σ H F' st' σ' H' → Keep P σ σ' → Dn.ct σ' H'
  | .rt d st' => ∀ v σ' H' F', Sim K Γ.T F' st' σ' H' → Grow F st σ H F' st' σ' H' → Keep P σ σ' → Rp K F' d v → Dn.rt v H'
  | .ex x st' => ∀ cls dx σ' H' F', Sim K Γ.T F' st' σ' H' → Grow F st σ H F' st' σ' H' → Keep P σ σ' → ErR Γ K F' H' x cls dx → W cls dx σ' H'
  | .no => False
def rS (f : MS) : TS := fun Dn σ H => ∃ st F, Sim K Γ.T F st σ H ∧ finS Γ K W P F st σ H (f st) Dn
end
structure ES (Γ : Gm) (X : Cx) (W : WX) (P : List Nat) (s : Stmt) (f : MS) : Prop where
  ps : PS X s (rS Γ X.K W P f)
structure ESs (Γ : Gm) (X : Cx) (W : WX) (P : List Nat) (s : List Stmt) (f : MS) : Prop where
  ps : PSs X s (rS Γ X.K W P f)
def bindS {α : Type} (f : M α) (g : α → MS) : MS := fun st => match f st with
  | .ok a st1 => g a st1
  | .ex x st1 => .ex x st1
  | .no => .no
def seqS (f g : MS) : MS := fun st => match f st with
  | .nx st1 => g st1
  | o => o
section
variable {Γ : Gm} {K : PySem.W.Frag} {W : WX} {P : List Nat} {F H F1 H1 : Hp} {st st1 : List Sl} {σ σ1 : L2.St} {Dn : Ends} {α β : Type} {R : Rel α β}
theorem finS_mono {o : SOut} (G : Grow F st σ H F1 st1 σ1 H1) (k : Keep P σ σ1) (h : finS Γ K W P F st σ H o Dn) : finS Γ K W P F1 st1 σ1 H1 o Dn := by
  cases o with
  | nx st' => exact fun σ' H' F' S G' k' => h σ' H' F' S (G.trans G') (k.trans k')
  | bk st' => exact fun σ' H' F' S G' k' => h σ' H' F' S (G.trans G') (k.trans k')
  | ct st' => exact fun σ' H' F' S G' k' => h σ' H' F' S (G.trans G') (k.trans k')
  | rt d st' => exact fun v σ' H' F' S G' k' r => h v σ' H' F' S (G.trans G') (k.trans k') r
  | ex x st' => exact fun c dx σ' H' F' S G' k' r => h c dx σ' H' F' S (G.trans G') (k.trans k') r
  | no => exact h
theorem finS_bind {f : M α} {g : α → MS} {Q1 : β → Hp → Prop} (S : Sim K Γ.T F st σ H) (h : finS Γ K W P F st σ H (bindS f g st) Dn)
    (k : ∀ d st1 v H1 F1, Sim K Γ.T F1 st1 σ H1 → GrowE F st σ H F1 st1 H1 → R H F1 H1 d v → finS Γ K W P F st σ H (g d st1) Dn → Q1 v H1) : rd Γ K W R f σ H Q1 := by
  refine ⟨st, F, S, ?_⟩
  unfold bindS at h
  cases e : f st with
  | ok d st1 =>
    rw [e] at h
    exact fun v H' F' S1 G r => k d st1 v H' F' S1 G r h
  | ex x st1 =>
    rw [e] at h
    exact fun cls dx H' F' S' G' r => h cls dx σ H' F' S' G'.g Keep.refl r
  | no =>
    rw [e] at h
    exact h
end
section
variable {Γ : Gm} {X : Cx} {W : WX} {P : List Nat} {pos : Pos} {s : Stmt} {rest : List Stmt} {f g : MS} {fe : M D} {e : Expr}
theorem ess_nil : ESs Γ X W P [] (fun st => .nx st) := ⟨PSs.imp pss_nil fun D σ H ⟨st, F, S, h⟩ => h σ H F S .refl .refl⟩
theorem seq_ok : ∀ D σ H, rS Γ X.K W P (seqS f g) D σ H → tSeq (rS Γ X.K W P f) (rS Γ X.K W P g) D σ H := by
  intro D σ H ⟨st, F, S, h⟩
  refine ⟨st, F, S, ?_⟩
  unfold seqS at h
  cases q : f st with
  | nx st1 =>
    rw [q] at h
    exact fun σ' H' F' S1 G k => ⟨st1, F', S1, finS_mono G k h⟩
  | bk st1 => rw [q] at h; exact h
  | ct st1 => rw [q] at h; exact h
  | rt d st1 => rw [q] at h; exact h
  | ex x st1 => rw [q] at h; exact h
  | no => rw [q] at h; exact h
theorem ess_cons (h1 : ES Γ X W P s f) (h2 : ESs Γ X W P rest g) : ESs Γ X W P (s :: rest) (seqS f g) := ⟨PSs.imp (pss_cons h1.ps h2.ps) seq_ok⟩
theorem ess_one (h1 : ES Γ X W P s f) : ESs Γ X W P [s] f := ⟨pss_one h1.ps⟩
theorem es_pass : ES Γ X W P (.Pass pos) (fun st => .nx st) := ⟨PS.imp ps_pass fun D σ H ⟨st, F, S, h⟩ => h σ H F S .refl .refl⟩
theorem es_break : ES Γ X W P (.Break pos) (fun st => .bk st) := ⟨PS.imp ps_break fun D σ H ⟨st, F, S, h⟩ => h σ H F S .refl .refl⟩
theorem es_cont : ES Γ X W P (.Continue pos) (fun st => .ct st) := ⟨PS.imp ps_continue fun D σ H ⟨st, F, S, h⟩ => h σ H F S .refl .refl⟩
/-- a statement that is only its value's doing -/
def drpS (f : M D) : MS := bindS f fun _ st => .nx st
theorem es_expr (he : EV Γ X W e fe) (hs : swapsWith e none pos.line X.env = pure false := by rfl) : ES Γ X W P (.Expr e pos) (drpS fe) :=
  ⟨PS.imp (ps_expr he.pe hs) fun D σ H ⟨st, F, S, h⟩ => finS_bind S h fun d st1 v H1 F1 S1 G r q => q σ H1 F1 S1 G.g .refl⟩
def retS (f : M D) : MS := bindS f fun d st => .rt d st
theorem es_ret (he : EV Γ X W e fe) : ES Γ X W P (.Return (some e) pos) (retS fe) :=
  ⟨PS.imp (ps_ret he.pe) fun D σ H ⟨st, F, S, h⟩ => finS_bind S h fun d st1 v H1 F1 S1 G r q => q v σ H1 F1 S1 G.g .refl r⟩
theorem es_retN : ES Γ X W P (.Return none pos) (fun st => .rt .none st) := ⟨PS.imp ps_retN fun D σ H ⟨st, F, S, h⟩ => h .non σ H F S .refl .refl .non⟩
def iteS (p : M Bool) (f g : MS) : MS := bindS p fun c => if c = true then f else g
variable {p : M Bool} {a b : List Stmt}
theorem es_if (hc : ET Γ X W e p) (ha : ESs Γ X W P a f) (hb : ESs Γ X W P b g) : ES Γ X W P (.If e a b pos) (iteS p f g) := by
  refine ⟨PS.imp (ps_if hc.pt ha.ps hb.ps) fun D σ H ⟨st, F, S, h⟩ => finS_bind S h fun c st1 v H1 F1 S1 G r q => ?_⟩
  have r : v = c := r
  subst r
  cases v with
  | true => exact ⟨st1, F1, S1, finS_mono G.g .refl q⟩
  | false => exact ⟨st1, F1, S1, finS_mono G.g .refl q⟩
/-! ### slots stored -/
theorem own_there {K : PySem.W.Frag} {T : List (Addr × Str)} {F H : Hp} {st : List Sl} {σ : L2.St} (S : Sim K T F st σ H) {a : Addr} (o : OwnA st σ a) : ∃ u, H a = some u ∧ F a = none ∧ ∀ ps, u ≠ .tbl ps := by
  obtain ⟨i, d, h1, h2⟩ := o
  obtain ⟨b, u, h3, h4, h5, c⟩ := S.own i d h1
  rw [h2] at h3
  cases h3
  exact ⟨u, h5, h4, c.nt⟩
section
variable {K : PySem.W.Frag} {T : List (Addr × Str)} {F H : Hp} {st : List Sl} {σ : L2.St} {i : Nat} {v : V} {d : D}
theorem get_set {α : Type} {l : List α} {i j : Nat} {a b : α} (h : (l.set i a)[j]? = some b) : (j = i ∧ b = a) ∨ (j ≠ i ∧ l[j]? = some b) := by
  by_cases z : j = i
  · subst z
    have hl : j < l.length := by
      have := (List.getElem?_eq_some_iff.mp h).1
      simpa using this
    rw [List.getElem?_set_self hl] at h
    cases h
    exact .inl ⟨rfl, rfl⟩
  · rw [List.getElem?_set_ne (Ne.symm z)] at h
    exact .inr ⟨z, h⟩
theorem set_get {α : Type} {l : List α} {i : Nat} {a : α} (h : i < l.length) : (l.set i a)[i]? = some a := List.getElem?_set_self h
theorem set_ne {α : Type} {l : List α} {i j : Nat} {a : α} (h : j ≠ i) : (l.set i a)[j]? = l[j]? := List.getElem?_set_ne (Ne.symm h)
/-- data is put into a slot -/
theorem Sim.setD (S : Sim K T F st σ H) (r : Rp K F d v) : Sim K T F (st.set i (.dat d)) (σ.set i (some v)) H where
  len := by rw [List.length_set, List.length_set]; exact S.len
  sub := S.sub
  dat := fun j c q => by
    rcases get_set q with ⟨rfl, e⟩ | ⟨n, q⟩
    · cases e
      have hl := (List.getElem?_eq_some_iff.mp q).1
      rw [List.length_set, S.len] at hl
      exact ⟨v, set_get hl, r⟩
    · obtain ⟨u, h1, h2⟩ := S.dat j c q
      exact ⟨u, by rw [set_ne n]; exact h1, h2⟩
  own := fun j c q => by
    rcases get_set q with ⟨rfl, e⟩ | ⟨n, q⟩
    · cases e
    · obtain ⟨a, o, h1, h2⟩ := S.own j c q
      exact ⟨a, o, by rw [set_ne n]; exact h1, h2⟩
  scr := fun j c q => by
    rcases get_set q with ⟨rfl, e⟩ | ⟨n, q⟩
    · cases e
    · obtain ⟨a, h1, h2⟩ := S.scr j c q
      exact ⟨a, by rw [set_ne n]; exact h1, h2⟩
  inj := fun j k c c' a h1 h2 h3 h4 => by
    rcases get_set h1 with ⟨rfl, e⟩ | ⟨n1, h1⟩
    · cases e
    · rcases get_set h2 with ⟨rfl, e⟩ | ⟨n2, h2⟩
      · cases e
      · rw [set_ne n1] at h3
        rw [set_ne n2] at h4
        exact S.inj j k c c' a h1 h2 h3 h4
  tab := S.tab
theorem OwnA.setD {a : Addr} {w : Option V} (o : OwnA (st.set i (.dat d)) (σ.set i w) a) : OwnA st σ a := by
  obtain ⟨j, c, h1, h2⟩ := o
  rcases get_set h1 with ⟨rfl, e⟩ | ⟨n, h1⟩
  · cases e
  · rw [set_ne n] at h2
    exact ⟨j, c, h1, h2⟩
theorem grow_setD : Grow F st σ H F (st.set i (.dat d)) (σ.set i (some v)) H := ⟨fun _ _ h => h, fun _ _ h _ _ => h, fun _ _ h => .inl h, fun _ h => .inl h.setD, fun _ h => h⟩
/-- a new object is put into a slot -/
theorem Sim.setN {a : Addr} {o : HO} (S : Sim K T F st σ H) (n : F a = none) (e : H a = some o) (r : RpC K F d o) (no : ¬ OwnA st σ a) : Sim K T F (st.set i (.own d)) (σ.set i (some (.ref a))) H where
  len := by rw [List.length_set, List.length_set]; exact S.len
  sub := S.sub
  dat := fun j c q => by
    rcases get_set q with ⟨rfl, e⟩ | ⟨n, q⟩
    · cases e
    · obtain ⟨u, h1, h2⟩ := S.dat j c q
      exact ⟨u, by rw [set_ne n]; exact h1, h2⟩
  own := fun j c q => by
    rcases get_set q with ⟨rfl, e2⟩ | ⟨n, q⟩
    · cases e2
      have hl := (List.getElem?_eq_some_iff.mp q).1
      rw [List.length_set, S.len] at hl
      exact ⟨a, o, set_get hl, n, e, r⟩
    · obtain ⟨a, o, h1, h2⟩ := S.own j c q
      exact ⟨a, o, by rw [set_ne n]; exact h1, h2⟩
  scr := fun j c q => by
    rcases get_set q with ⟨rfl, e⟩ | ⟨n, q⟩
    · cases e
    · obtain ⟨a, h1, h2⟩ := S.scr j c q
      exact ⟨a, by rw [set_ne n]; exact h1, h2⟩
  inj := fun j k c c' b h1 h2 h3 h4 => by
    rcases get_set h1 with ⟨e0, e1⟩ | ⟨n1, h1⟩
    · rcases get_set h2 with ⟨f0, e2⟩ | ⟨n2, h2⟩
      · rw [e0, f0]
      · rw [set_ne n2] at h4
        rcases get_set h3 with ⟨_, e3⟩ | ⟨n3, _⟩
        · cases e3
          exact absurd ⟨k, c', h2, h4⟩ no
        · exact absurd e0 n3
    · rw [set_ne n1] at h3
      rcases get_set h2 with ⟨f0, e2⟩ | ⟨n2, h2⟩
      · rcases get_set h4 with ⟨_, e3⟩ | ⟨n3, _⟩
        · cases e3
          exact absurd ⟨j, c, h1, h3⟩ no
        · exact absurd f0 n3
      · rw [set_ne n2] at h4
        exact S.inj j k c c' b h1 h2 h3 h4
  tab := S.tab
theorem OwnA.setN {a b : Addr} (o : OwnA (st.set i (.own d)) (σ.set i (some (.ref a))) b) : OwnA st σ b ∨ b = a := by
  obtain ⟨j, c, h1, h2⟩ := o
  rcases get_set h1 with ⟨e0, e⟩ | ⟨n, h1⟩
  · rcases get_set h2 with ⟨_, e3⟩ | ⟨n3, _⟩
    · cases e3
      exact .inr rfl
    · exact absurd e0 n3
  · rw [set_ne n] at h2
    exact .inl ⟨j, c, h1, h2⟩
end
/-! ### values to be stored: data, or new objects -/
inductive RpM (K : PySem.W.Frag) (H F' H' : Hp) : List (Bool × D) → List V → List Addr → Prop
  | nil : RpM K H F' H' [] [] []
  | dat {d : D} {v : V} {ds : List (Bool × D)} {vs : List V} {as : List Addr} : Rp K F' d v → RpM K H F' H' ds vs as → RpM K H F' H' ((false, d) :: ds) (v :: vs) as
  | new {d : D} {a : Addr} {o : HO} {ds : List (Bool × D)} {vs : List V} {as : List Addr} : Fr H a → F' a = none → H' a = some o → RpC K F' d o → a ∉ as → RpM K H F' H' ds vs as → RpM K H F' H' ((true, d) :: ds) (.ref a :: vs) (a :: as)
def rM (K : PySem.W.Frag) : Rel (List (Bool × D)) (List V) := fun H F' H' ds vs => ∃ as, RpM K H F' H' ds vs as
theorem RpM.early {K : PySem.W.Frag} {H0 H F' H' : Hp} (g : ∀ a, Fr H a → Fr H0 a) {ds vs as} (r : RpM K H F' H' ds vs as) : RpM K H0 F' H' ds vs as := by
  induction r with
  | nil => exact .nil
  | dat r _ ih => exact .dat r ih
  | new h1 h2 h3 h4 h5 _ ih => exact .new (g _ h1) h2 h3 h4 h5 ih
theorem rM_mono {K : PySem.W.Frag} : RelMono (rM K) := fun _ _ _ _ _ _ g ⟨as, r⟩ => ⟨as, r.early g⟩
theorem RpM.noneA {K : PySem.W.Frag} {H F' H' : Hp} {ds vs as} (r : RpM K H F' H' ds vs as) : ∀ a ∈ as, Fr H a := by
  induction r with
  | nil => intro a ha; simp at ha
  | dat _ _ ih => exact ih
  | new h1 _ _ _ _ _ ih =>
    intro a ha
    rcases List.mem_cons.mp ha with rfl | ha
    · exact h1
    · exact ih a ha
structure EM (Γ : Gm) (X : Cx) (W : WX) (es : List Expr) (f : M (List (Bool × D))) : Prop where
  pa : PA X es (rd Γ X.K W (rM X.K) f)
theorem em_nil : EM Γ X W [] mNil := ⟨PA.imp pa_nil fun σ H Q ⟨st, F, S, h⟩ => fin_ret S h ⟨[], .nil⟩⟩
/-- what was new stays so -/
theorem RpM.later {K : PySem.W.Frag} {T : List (Addr × Str)} {H0 H F1 F2 H2 : Hp} {st1 st2 : List Sl} {σ : L2.St} (no : ∀ a, Fr H0 a → ¬ OwnA st1 σ a) (G : GrowE F1 st1 σ H F2 st2 H2) {ds vs as} (r : RpM K H0 F1 H ds vs as) : RpM K H0 F2 H2 ds vs as := by
  induction r with
  | nil => exact .nil
  | dat r _ ih => exact .dat (r.mono G.g.gF) ih
  | new h1 h2 h3 h4 h5 _ ih =>
    refine .new h1 ?_ (G.g.gH _ _ h3 (no _ h1) h4.nt) (h4.mono G.g.gF) h5 ih
    rename_i a _ _ _ _ _
    cases q : F2 a with
    | none => rfl
    | some u =>
      rcases G.g.gN _ _ q with z | z | z
      · rw [h2] at z; cases z
      · exact absurd z (no _ h1)
      · exact (z.no h3 h4.nt).elim
theorem not_own {K : PySem.W.Frag} {T : List (Addr × Str)} {F H F1 H1 : Hp} {st st1 : List Sl} {σ : L2.St} (S : Sim K T F st σ H) (G : GrowE F st σ H F1 st1 H1) : ∀ a, Fr H a → ¬ OwnA st1 σ a := fun a n z => by
  obtain ⟨u, h, _, nt⟩ := own_there S (G.os a z)
  exact n.no h nt
def mDat (f : M D) (g : M (List (Bool × D))) : M (List (Bool × D)) := f.bind fun d => g.bind fun xs => M.ret ((false, d) :: xs)
def mNew (f : M D) (g : M (List (Bool × D))) : M (List (Bool × D)) := f.bind fun d => g.bind fun xs => M.ret ((true, d) :: xs)
theorem em_dat {es : List Expr} {fs : M (List (Bool × D))} {fe : M D} (ha : EV Γ X W e fe) (hr : EM Γ X W es fs) (hs : starEach (e :: es) X.env = (false, eval e X.env) :: starEach es X.env := by rfl) : EM Γ X W (e :: es) (mDat fe fs) := by
  refine ⟨PA.imp (pa_cons ha.pe hr.pa hs) fun σ H Q ⟨st, F, S, h⟩ => fin_bindA S GrowE.refl h fun d st1 v H1 F1 S1 G1 r1 h1 => fin_bindA S1 G1 h1 fun ds st2 vs H2 F2 S2 G2 r2 h2 => ?_⟩
  obtain ⟨as, r2⟩ := r2
  exact h2 _ _ _ S2 (G1.trans G2) ⟨as, .dat (Rp.mono G2.g.gF r1) (r2.early G1.g.gD)⟩
theorem em_new {es : List Expr} {fs : M (List (Bool × D))} {fe : M D} (ha : EN Γ X W e fe) (hr : EM Γ X W es fs) (hs : starEach (e :: es) X.env = (false, eval e X.env) :: starEach es X.env := by rfl) : EM Γ X W (e :: es) (mNew fe fs) := by
  refine ⟨PA.imp (pa_cons ha.pe hr.pa hs) fun σ H Q ⟨st, F, S, h⟩ => fin_bindA S GrowE.refl h fun d st1 v H1 F1 S1 G1 r1 h1 => fin_bindA S1 G1 h1 fun ds st2 vs H2 F2 S2 G2 r2 h2 => ?_⟩
  obtain ⟨as, r2⟩ := r2
  obtain ⟨a, o, rfl, n, n1, e1, c⟩ := r1
  have q : RpM X.K H F1 H1 [(true, d)] [.ref a] [a] := .new n n1 e1 c (by simp) .nil
  have q2 := q.later (T := Γ.T) (not_own S G1) G2
  cases q2 with
  | new k1 k2 k3 k4 k5 _ =>
    refine h2 _ _ _ S2 (G1.trans G2) ⟨a :: as, .new k1 k2 k3 k4 (fun z => ?_) (r2.early G1.g.gD)⟩
    exact (r2.noneA a z).no e1 c.nt
/-- several slots are stored -/
def put : List Nat → List (Bool × D) → List Sl → List Sl
  | i :: is, (b, d) :: ds, st => put is ds (st.set i (if b = true then .own d else .dat d))
  | _, _, st => st
def putV : List Nat → List V → L2.St → L2.St
  | i :: is, v :: vs, σ => putV is vs (σ.set i (some v))
  | _, _, σ => σ
theorem Sim.put {K : PySem.W.Frag} {T : List (Addr × Str)} {F H H0 : Hp} {ds vs as} (r : RpM K H0 F H ds vs as) : ∀ {is : List Nat} {st : List Sl} {σ : L2.St}, Sim K T F st σ H → (∀ a ∈ as, ¬ OwnA st σ a) → Sim K T F (Sk.put is ds st) (putV is vs σ) H ∧ ∀ a, OwnA (Sk.put is ds st) (putV is vs σ) a → OwnA st σ a ∨ a ∈ as := by
  induction r with
  | nil => intro is st σ S no; cases is <;> exact ⟨S, fun a h => .inl h⟩
  | dat r _ ih =>
    intro is st σ S no
    cases is with
    | nil => exact ⟨S, fun a h => .inl h⟩
    | cons i is =>
      obtain ⟨q1, q2⟩ := ih (is := is) (S.setD (i := i) r) fun a ha z => no a ha z.setD
      exact ⟨q1, fun a h => (q2 a h).imp (fun z => z.setD) id⟩
  | new h1 h2 h3 h4 h5 _ ih =>
    intro is st σ S no
    cases is with
    | nil => exact ⟨S, fun a h => .inl h⟩
    | cons i is =>
      rename_i d a o ds vs as _
      have na : ¬ OwnA st σ a := no _ (List.mem_cons_self ..)
      obtain ⟨q1, q2⟩ := ih (is := is) (S.setN (i := i) h2 h3 h4 na) fun b hb z => by
        rcases z.setN with z | z
        · exact no b (List.mem_cons_of_mem _ hb) z
        · rw [z] at hb
          exact h5 hb
      refine ⟨q1, fun b hb => ?_⟩
      rcases q2 b hb with z | z
      · rcases z.setN with z | z
        · exact .inl z
        · exact .inr (by rw [z]; exact List.mem_cons_self ..)
      · exact .inr (List.mem_cons_of_mem _ z)
theorem keep_put : ∀ {is : List Nat} {vs : List V} {σ : L2.St}, (∀ i ∈ is, i ∉ P) → Keep P σ (putV is vs σ)
  | [], _, _, _ => Keep.refl
  | _ :: _, [], _, _ => Keep.refl
  | i :: is, v :: vs, σ, h => (Keep.set (h i (List.mem_cons_self ..))).trans (keep_put fun j hj => h j (List.mem_cons_of_mem _ hj))
def putS (is : List Nat) (f : M (List (Bool × D))) : MS := bindS f fun ds st => if ds.length = is.length then .nx (put is ds st) else .no
theorem put_end {F H : Hp} {st : List Sl} {σ : L2.St} {Dn : Ends} {is : List Nat} {ds vs} {st1 : List Sl} {F1 H1 : Hp} (S : Sim X.K Γ.T F st σ H) (hi : ∀ i ∈ is, i ∉ P) (S1 : Sim X.K Γ.T F1 st1 σ H1) (G : GrowE F st σ H F1 st1 H1) (r : rM X.K H F1 H1 ds vs) (q : finS Γ X.K W P F st σ H (if ds.length = is.length then .nx (put is ds st1) else .no) Dn) :
    ds.length = is.length ∧ Dn.nx (putV is vs σ) H1 := by
  by_cases z : ds.length = is.length
  · rw [if_pos z] at q
    obtain ⟨as, r⟩ := r
    obtain ⟨S2, o2⟩ := Sim.put r (is := is) S1 fun a ha => not_own S G a (r.noneA a ha)
    refine ⟨z, q _ _ F1 S2 ⟨G.g.gF, G.g.gH, G.g.gN, fun a h => ?_, G.g.gD⟩ (keep_put hi)⟩
    rcases o2 a h with z | z
    · exact .inl (G.os a z)
    · exact .inr (r.noneA a z)
  · rw [if_neg z] at q
    exact q.elim
theorem RpM.length {K : PySem.W.Frag} {H F' H' : Hp} {ds vs as} (r : RpM K H F' H' ds vs as) : ds.length = vs.length := by
  induction r with
  | nil => rfl
  | dat _ _ ih => simp [ih]
  | new _ _ _ _ _ _ ih => simp [ih]
/-- name = value -/
def setS (i : Nat) (f : M D) : MS := bindS f fun d st => .nx (st.set i (.dat d))
def setN (i : Nat) (f : M D) : MS := bindS f fun d st => .nx (st.set i (.own d))
theorem es_set {i : Nat} {x : Str} {pos' : Pos} {fe : M D} (hN : X.N.Nodup) (hP : i ∉ P) (he : EV Γ X W e fe) (hi : X.N[i]? = some x := by rfl) (hx : Loc X.env.scope x := by first | exact Or.inl rfl | exact Or.inr rfl) (hs : swapsWith e (some (.Name x pos')) pos.line X.env = pure false := by rfl)
    (hf : X.fn x = true ∨ X.env.scope.names.lookup x = some .local := by first | exact .inl rfl | exact .inr rfl) : ES Γ X W P (.Assign [.Name x pos'] e pos) (setS i fe) :=
  ⟨PS.imp (ps_set hN hi hx he.pe hs hf) fun D σ H ⟨st, F, S, h⟩ => finS_bind S h fun d st1 v H1 F1 S1 G r q => by
    have r : Rp X.K F1 d v := r
    exact q _ _ F1 (S1.setD r) (G.g.trans grow_setD) (Keep.set hP)⟩
theorem es_setN {i : Nat} {x : Str} {pos' : Pos} {fe : M D} (hN : X.N.Nodup) (hP : i ∉ P) (he : EN Γ X W e fe) (hi : X.N[i]? = some x := by rfl) (hx : Loc X.env.scope x := by first | exact Or.inl rfl | exact Or.inr rfl) (hs : swapsWith e (some (.Name x pos')) pos.line X.env = pure false := by rfl)
    (hf : X.fn x = true ∨ X.env.scope.names.lookup x = some .local := by first | exact .inl rfl | exact .inr rfl) : ES Γ X W P (.Assign [.Name x pos'] e pos) (setN i fe) :=
  ⟨PS.imp (ps_set hN hi hx he.pe hs hf) fun D σ H ⟨st, F, S, h⟩ => finS_bind S h fun d st1 v H1 F1 S1 G r q => by
    obtain ⟨a, o, rfl, n, n1, e1, c⟩ := r
    have no := not_own S G a n
    refine q _ _ F1 (S1.setN n1 e1 c no) ⟨G.g.gF, G.g.gH, G.g.gN, fun b hb => ?_, G.g.gD⟩ (Keep.set hP)
    rcases hb.setN with z | z
    · exact .inl (G.os b z)
    · rw [z]; exact .inr n⟩
/-- a, b = x, y: plain local names -/
theorem es_par {i j : Nat} {x y : Str} {a b : Expr} {px py pt : Pos} {kt k2 pt2} {fs : M (List (Bool × D))} (hc : X.calm = true) (hN : X.N.Nodup) (hP : ∀ k ∈ [i, j], k ∉ P) (ha : EM Γ X W [a, b] fs) (hij : i ≠ j) (hi : X.N[i]? = some x := by rfl) (hj : X.N[j]? = some y := by rfl)
    (hx : X.env.scope.names.lookup x = some .local := by rfl) (hy : X.env.scope.names.lookup y = some .local := by rfl)
    (hw : swappedStores [.Tuple [.Name x px, .Name y py] kt pt] (.Tuple [a, b] k2 pt2) X.env = pure (some [x, y]) := by rfl)
    (hs : swapsWithSole [.Tuple [.Name x px, .Name y py] kt pt] (.Tuple [a, b] k2 pt2) pos.line X.env = pure false := by rfl) :
    ES Γ X W P (.Assign [.Tuple [.Name x px, .Name y py] kt pt] (.Tuple [a, b] k2 pt2) pos) (putS [i, j] fs) :=
  ⟨PS.imp (ps_par hc hN hi hj hij hx hy ha.pa hw hs) fun D σ H ⟨st, F, S, h⟩ => finS_bind S h fun ds st1 vs H1 F1 S1 G r q => by
    obtain ⟨z, q⟩ := put_end S hP S1 G r q
    obtain ⟨as, r⟩ := r
    have l := r.length
    rw [z] at l
    match vs, l, q with
    | [v, w], _, q => exact ⟨v, w, rfl, q⟩⟩
theorem es_par3 {i j l : Nat} {x y z : Str} {a b c : Expr} {px py pz pt : Pos} {kt k2 pt2} {fs : M (List (Bool × D))} (hc : X.calm = true) (hN : X.N.Nodup) (hP : ∀ k ∈ [i, j, l], k ∉ P) (ha : EM Γ X W [a, b, c] fs) (hij : i ≠ j) (hil : i ≠ l) (hjl : j ≠ l) (hi : X.N[i]? = some x := by rfl) (hj : X.N[j]? = some y := by rfl) (hl : X.N[l]? = some z := by rfl)
    (hx : X.env.scope.names.lookup x = some .local := by rfl) (hy : X.env.scope.names.lookup y = some .local := by rfl) (hz : X.env.scope.names.lookup z = some .local := by rfl)
    (hw : swappedStores [.Tuple [.Name x px, .Name y py, .Name z pz] kt pt] (.Tuple [a, b, c] k2 pt2) X.env = pure (some [x, y, z]) := by rfl)
    (hs : swapsWithSole [.Tuple [.Name x px, .Name y py, .Name z pz] kt pt] (.Tuple [a, b, c] k2 pt2) pos.line X.env = pure false := by rfl) :
    ES Γ X W P (.Assign [.Tuple [.Name x px, .Name y py, .Name z pz] kt pt] (.Tuple [a, b, c] k2 pt2) pos) (putS [i, j, l] fs) :=
  ⟨PS.imp (ps_par3 hc hN hi hj hl hij hil hjl hx hy hz ha.pa hw hs) fun D σ H ⟨st, F, S, h⟩ => finS_bind S h fun ds st1 vs H1 F1 S1 G r q => by
    obtain ⟨zz, q⟩ := put_end S hP S1 G r q
    obtain ⟨as, r⟩ := r
    have ln := r.length
    rw [zz] at ln
    match vs, ln, q with
    | [u, v, w], _, q => exact ⟨u, v, w, rfl, q⟩⟩
end
end Sk
set_option maxHeartbeats 1000000
namespace Sk
open PySem PySem.Spec PyProof.Rows L2
/-! ### targets -/
inductive Tg where
  | nm (i : Nat)
  | tp (is : List Nat)
def Tg.ix : Tg → List Nat
  | .nm i => [i]
  | .tp is => is
def asg : Tg → D → List Sl → Option (List Sl)
  | .nm i, d, st => some (st.set i (.dat d))
  | .tp is, .tuple ds, st => if ds.length = is.length then some (put is (ds.map fun d => (false, d)) st) else none
  | _, _, _ => none
theorem putV_len : ∀ (is : List Nat) (vs : List V) (σ : L2.St), (putV is vs σ).length = σ.length
  | [], _, _ => rfl
  | _ :: _, [], _ => rfl
  | i :: is, v :: vs, σ => by
    show (putV is vs (σ.set i (some v))).length = σ.length
    rw [putV_len is vs, List.length_set]
theorem putV_out : ∀ {is : List Nat} {vs : List V} {σ : L2.St} {j : Nat}, j ∉ is → (putV is vs σ)[j]? = σ[j]?
  | [], _, _, _, _ => rfl
  | _ :: _, [], _, _, _ => rfl
  | i :: is, v :: vs, σ, j, h => by
    show (putV is vs (σ.set i (some v)))[j]? = σ[j]?
    rw [putV_out fun z => h (List.mem_cons_of_mem _ z), set_ne fun z => h (by rw [z]; exact List.mem_cons_self ..)]
theorem RpA.rpM {K : PySem.W.Frag} {H F' H' : Hp} {ds : List D} {vs : List V} (r : RpA K F' ds vs) : RpM K H F' H' (ds.map fun d => (false, d)) vs [] := by
  induction ds generalizing vs with
  | nil => cases r; exact .nil
  | cons d ds ih => cases r with | cons a t => exact .dat a (ih t)
/-- a target: what its store is by values -/
structure EG (X : Cx) (tg : Expr) (t : Tg) (g : TG) : Prop where
  pg : PG X tg g
  sp : ∀ {T : List (Addr × Str)} {F H : Hp} {st st' : List Sl} {σ : L2.St} {d : D} {v : V} {Q : L2.St → Hp → Prop}, Sim X.K T F st σ H → Rp X.K F d v → asg t d st = some st' →
    (∀ σ', Sim X.K T F st' σ' H → (∀ a, OwnA st' σ' a → OwnA st σ a) → (∀ j, j ∉ t.ix → σ'[j]? = σ[j]?) → σ'.length = σ.length → Q σ' H) → g v σ H Q
section
variable {X : Cx} {pos : Pos}
theorem eg_nm {i : Nat} {x : Str} (hN : X.N.Nodup) (hi : X.N[i]? = some x := by rfl) (hx : Loc X.env.scope x := by first | exact Or.inl rfl | exact Or.inr rfl)
    (hf : X.fn x = true ∨ X.env.scope.names.lookup x = some .local := by first | exact .inl rfl | exact .inr rfl) : EG X (.Name x pos) (.nm i) (gName i) where
  pg := pg_name hN hi hx hf
  sp := by
    intro T F H st st' σ d v Q S r h k
    cases h
    refine k _ (S.setD r) (fun a o => o.setD) (fun j hj => set_ne fun z => hj ?_) (List.length_set ..)
    rw [z]
    exact List.mem_cons_self ..
structure EGs (X : Cx) (ts : List Expr) (is : List Nat) (g : TGs) : Prop where
  pgs : PGs X ts g
  sp : ∀ {vs : List V} {σ : L2.St} {H : Hp} {Q : L2.St → Hp → Prop}, vs.length = is.length → Q (putV is vs σ) H → g vs σ H Q
theorem egs_nil : EGs X [] [] gNil := ⟨pgs_nil, fun {vs σ H Q} l q => by
  cases vs with
  | nil => exact ⟨rfl, q⟩
  | cons _ _ => cases l⟩
theorem egs_cons {i : Nat} {x : Str} {es : List Expr} {is : List Nat} {u : TGs} (hN : X.N.Nodup) (h2 : EGs X es is u) (hi : X.N[i]? = some x := by rfl) (hx : Loc X.env.scope x := by first | exact Or.inl rfl | exact Or.inr rfl)
    (hf : X.fn x = true ∨ X.env.scope.names.lookup x = some .local := by first | exact .inl rfl | exact .inr rfl) (hs : (assignEach (.Name x pos :: es) X.env).map (·.2) = assign (.Name x pos) X.env :: (assignEach es X.env).map (·.2) := by rfl) :
    EGs X (.Name x pos :: es) (i :: is) (gCons (gName i) u) := ⟨pgs_cons (pg_name hN hi hx hf) h2.pgs hs, fun {vs σ H Q} l q => by
  cases vs with
  | nil => cases l
  | cons v vs => exact ⟨v, vs, rfl, h2.sp (by simpa using l) q⟩⟩
theorem eg_tp {es : List Expr} {k : Nat} {is : List Nat} {n : Nat} {u : TGs} (hc : X.calm = true) (h : EGs X es is u) (hl : is.length = n := by rfl) (hn : (assignEach es X.env).length = n := by rfl) (hst : (assignEach es X.env).findIdx? (·.1) = none := by rfl) :
    EG X (.Tuple es k pos) (.tp is) (gTup X.K n u) where
  pg := pg_tup hc h.pgs hn hst
  sp := by
    intro T F H st st' σ d v Q S r e kk
    cases d with
    | tuple ds =>
      simp only [asg] at e
      split at e
      · rename_i z
        cases e
        cases r with
        | tup sx qx =>
          rename_i a xs
          have lx : xs.length = is.length := by rw [← qx.length]; exact z
          refine ⟨a, xs, rfl, sqT_mono S.sub1 sx.sq, by rw [lx, hl], h.sp lx ?_⟩
          obtain ⟨S2, o2⟩ := Sim.put (H0 := H) (H := H) (RpA.rpM qx) (is := is) S (fun a ha => by simp at ha)
          exact kk _ S2 (fun a o => (o2 a o).elim id fun z => by simp at z) (fun j hj => putV_out hj) (putV_len ..)
      · cases e
    | _ => cases e
end
/-! ### slots forgotten -/
def killS (vs : List Nat) (st : List Sl) : List Sl := vs.foldl (fun s i => s.set i .un) st
section
variable {K : PySem.W.Frag} {T : List (Addr × Str)} {F H : Hp} {st : List Sl} {σ : L2.St}
theorem get_un {i j : Nat} {b : Sl} (hb : b ≠ .un) (h : (st.set i Sl.un)[j]? = some b) : j ≠ i ∧ st[j]? = some b := by
  rcases get_set h with ⟨_, e⟩ | q
  · exact absurd e hb
  · exact q
theorem Sim.kill1 (S : Sim K T F st σ H) (i : Nat) : Sim K T F (st.set i .un) σ H where
  len := by rw [List.length_set]; exact S.len
  sub := S.sub
  dat := fun j c q => S.dat j c (get_un (by intro z; cases z) q).2
  own := fun j c q => S.own j c (get_un (by intro z; cases z) q).2
  scr := fun j c q => S.scr j c (get_un (by intro z; cases z) q).2
  inj := fun j k c c' a h1 h2 => S.inj j k c c' a (get_un (by intro z; cases z) h1).2 (get_un (by intro z; cases z) h2).2
  tab := S.tab
theorem OwnA.kill1 {i : Nat} {a : Addr} (o : OwnA (st.set i .un) σ a) : OwnA st σ a := by
  obtain ⟨j, c, h1, h2⟩ := o
  exact ⟨j, c, (get_un (by intro z; cases z) h1).2, h2⟩
theorem Sim.kill (S : Sim K T F st σ H) (vs : List Nat) : Sim K T F (killS vs st) σ H := by
  induction vs generalizing st with
  | nil => exact S
  | cons i vs ih => exact ih (S.kill1 i)
theorem OwnA.kill {vs : List Nat} {a : Addr} (o : OwnA (killS vs st) σ a) : OwnA st σ a := by
  induction vs generalizing st with
  | nil => exact o
  | cons i vs ih => exact (ih (st := st.set i .un) o).kill1
theorem grow_kill {vs : List Nat} : Grow F st σ H F (killS vs st) σ H := ⟨fun _ _ h => h, fun _ _ h _ _ => h, fun _ _ h => .inl h, fun _ h => .inl h.kill, fun _ h => h⟩
theorem killS_get {vs : List Nat} {j : Nat} {b : Sl} (hb : b ≠ .un) (h : (killS vs st)[j]? = some b) : j ∉ vs ∧ st[j]? = some b := by
  induction vs generalizing st with
  | nil => exact ⟨by simp, h⟩
  | cons i vs ih =>
    obtain ⟨h1, h2⟩ := ih (st := st.set i .un) h
    obtain ⟨h3, h4⟩ := get_un hb h2
    exact ⟨fun z => (List.mem_cons.mp z).elim h3 h1, h4⟩
end
/-! ### what is walked -/
/-- J goes through the items ds -/
def WalkD (K : PySem.W.Frag) (J : It) (ds : List D) (F : Hp) : Prop :=
  ∀ (i : Nat) (H' F' : Hp), (∀ a o, F a = some o → F' a = some o) → FS F' H' →
    (∀ d, ds[i]? = some d → J.go i H' ∧ ∀ x H'', J.yld i H' x H'' → ∃ F'', Add F' H' F'' H'' ∧ Rp K F'' d x) ∧ (ds.length ≤ i → J.stop i H')
def rW (K : PySem.W.Frag) : Rel (List D) It := fun _ F' _ ds J => WalkD K J ds F'
theorem rW_mono {K : PySem.W.Frag} : RelMono (rW K) := fun _ _ _ _ _ _ _ r => r
structure EI (Γ : Gm) (X : Cx) (W : WX) (tg iter : Expr) (f : M (List D)) : Prop where
  pi : PI X tg iter (rd Γ X.K W (rW X.K) f)
theorem PI.imp {X : Cx} {tg iter : Expr} {w w' : TI} (h : PI X tg iter w) (i : ∀ σ H R, w' σ H R → w σ H R) : PI X tg iter w' := ⟨fun pins s σ H R I q => h.run pins s σ H R I (i σ H R q)⟩
theorem PI.or {X : Cx} {tg iter : Expr} {w w' : TI} (h : PI X tg iter w) (h' : PI X tg iter w') : PI X tg iter (fun σ H R => w σ H R ∨ w' σ H R) := ⟨fun pins s σ H R I q => q.elim (h.run pins s σ H R I) (h'.run pins s σ H R I)⟩
def seqM (f : M D) : M (List D) := f.bind fun d => match d with
  | .list ds => M.ret ds
  | .tuple ds => M.ret ds
  | _ => M.fail
section
variable {Γ : Gm} {X : Cx} {W : WX} {tg : Expr} {pos : Pos}
theorem walk_l {F : Hp} {a : Addr} {xs : List V} {ds : List D} (e : F a = some (.lst xs)) (r : RpA X.K F ds xs) : WalkD X.K (Itl X.K a) ds F := by
  intro i H' F' m fs
  have e' : H' a = some (.lst xs) := (fs _ _ (m _ _ e)).1
  have q : SqL X.K H' a xs := .inl (.inl e')
  refine ⟨fun d hd => ?_, fun hl => ⟨xs, q, by rw [← r.length]; exact hl⟩⟩
  obtain ⟨v, hv, rv⟩ := r.get hd
  refine ⟨⟨xs, v, q, hv⟩, fun x H'' y => ?_⟩
  obtain ⟨rfl, y⟩ := y
  have := y xs q
  rw [hv] at this
  cases this
  exact ⟨F', Add.refl fs, rv.mono m⟩
theorem walk_t {F : Hp} {a : Addr} {xs : List V} {ds : List D} (e : SqT X.K F a xs) (r : RpA X.K F ds xs) : WalkD X.K (Itt X.K a) ds F := by
  intro i H' F' m fs
  have q : SqT X.K H' a xs := sqT_mono (fun b o h => (fs _ _ (m _ _ h)).1) e
  refine ⟨fun d hd => ?_, fun hl => ⟨xs, q, by rw [← r.length]; exact hl⟩⟩
  obtain ⟨v, hv, rv⟩ := r.get hd
  refine ⟨⟨xs, v, q, hv⟩, fun x H'' y => ?_⟩
  obtain ⟨rfl, y⟩ := y
  have := y xs q
  rw [hv] at this
  cases this
  exact ⟨F', Add.refl fs, rv.mono m⟩
/-- a list or a tuple -/
theorem ei_seq {e : Expr} {fe : M D} (h : EV Γ X W e fe) : EI Γ X W tg e (seqM fe) := by
  refine ⟨PI.imp (PI.or (pi_list h.pe) (pi_tup h.pe)) fun σ H R ⟨st, F, S, q⟩ => ?_⟩
  unfold seqM at q
  have q0 := q
  unfold M.bind at q0
  cases he : fe st with
  | ok d st1 =>
    rw [he] at q0
    cases d with
    | list ds =>
      refine .inl ⟨st, F, S, ?_⟩
      rw [he]
      intro v H1 F1 S1 G r
      cases (show Rp X.K F1 (.list ds) v from r) with
      | lst e1 r1 => exact ⟨_, rfl, ⟨_, .inl (.inl (S1.sub1 _ _ e1))⟩, q0 _ _ F1 S1 G (walk_l e1 r1)⟩
    | tuple ds =>
      refine .inr ⟨st, F, S, ?_⟩
      rw [he]
      intro v H1 F1 S1 G r
      cases (show Rp X.K F1 (.tuple ds) v from r) with
      | tup e1 r1 => exact ⟨_, rfl, ⟨_, sqT_mono S1.sub1 e1.sq⟩, q0 _ _ F1 S1 G (walk_t e1.sq r1)⟩
    | _ => exact q0.elim
  | ex x st1 =>
    rw [he] at q0
    exact .inl ⟨st, F, S, by rw [he]; exact q0⟩
  | no =>
    rw [he] at q0
    exact q0.elim
/-- range -/
def rngL (lo : Int) (n : Nat) : List D := (List.range n).map fun i => .int (lo + (i : Nat))
theorem walk_r {F : Hp} {lo : Int} {n : Nat} : WalkD X.K (Itr lo n) (rngL lo n) F := by
  intro i H' F' m fs
  refine ⟨fun d hd => ?_, fun hl => ?_⟩
  · unfold rngL at hd
    rw [List.getElem?_map] at hd
    cases e : (List.range n)[i]? with
    | none => rw [e] at hd; cases hd
    | some j =>
      rw [e] at hd
      cases hd
      obtain ⟨h1, h2⟩ := List.getElem?_eq_some_iff.mp e
      have h3 : i < n := by simpa using h1
      have h4 : j = i := by simpa using h2.symm
      subst h4
      refine ⟨h3, fun x H'' y => ?_⟩
      obtain ⟨rfl, rfl⟩ := y
      exact ⟨F', Add.refl fs, .int _⟩
  · have : n ≤ i := by simpa [rngL] using hl
    exact this
def rng1M (f : M D) : M (List D) := f.bind fun d => match d with
  | .int j => if -(2 ^ 62) ≤ j ∧ j < 2 ^ 62 then M.ret (rngL 0 j.toNat) else M.fail
  | _ => M.fail
def rng2M (f g : M D) : M (List D) := f.bind fun d => g.bind fun e => match d, e with
  | .int i, .int j => if -(2 ^ 62) ≤ i ∧ i < 2 ^ 62 ∧ -(2 ^ 62) ≤ j ∧ j < 2 ^ 62 then M.ret (rngL i (j - i).toNat) else M.fail
  | _, _ => M.fail
theorem ei_rng1 {a : Expr} {p : Pos} {fa : M D} (ha : EV Γ X W a fa) (hm : X.mg "range" = none) (hg : Gl X "range" := by rfl) (hs : starEach [a] X.env = [(false, eval a X.env)] := by rfl) : EI Γ X W tg (.Call (.Name "range" p) [a] [] pos) (rng1M fa) := by
  refine ⟨PI.imp (pi_range1 hg hm (el_cons ha el_nil hs).pa hs) fun σ H R ⟨st, F, S, h⟩ => ?_⟩
  have h' : fin Γ X.K W (rW X.K) F st σ H (((mCons fa mNil).bind fun ds => match ds with | [.int j] => if -(2 ^ 62) ≤ j ∧ j < 2 ^ 62 then M.ret (rngL 0 j.toNat) else M.fail | _ => M.fail) st) R := by
    have e : ((mCons fa mNil).bind fun ds => match ds with | [.int j] => if -(2 ^ 62) ≤ j ∧ j < 2 ^ 62 then M.ret (rngL 0 j.toNat) else M.fail | _ => M.fail) st = rng1M fa st := by
      unfold rng1M mCons mNil M.bind M.ret
      cases fa st with
      | ok d st1 => cases d <;> rfl
      | ex _ _ => rfl
      | no => rfl
    rw [e]; exact h
  refine fin_bind rW_mono S h' fun ds st1 vs H1 F1 S1 G r h1 => ?_
  split at h1
  · rename_i j
    split at h1
    · rename_i c
      cases (show RpA X.K F1 [.int j] vs from r) with
      | cons r1 r2 =>
        cases r1
        cases r2
        exact ⟨j, rfl, c.1, c.2, fin_ret S1 h1 walk_r⟩
    · exact h1.elim
  · exact h1.elim
theorem ei_rng2 {a b : Expr} {p : Pos} {fa fb : M D} (ha : EV Γ X W a fa) (hb : EV Γ X W b fb) (hm : X.mg "range" = none) (hg : Gl X "range" := by rfl) (hs : starEach [a, b] X.env = [(false, eval a X.env), (false, eval b X.env)] := by rfl) (hs2 : starEach [b] X.env = [(false, eval b X.env)] := by rfl) :
    EI Γ X W tg (.Call (.Name "range" p) [a, b] [] pos) (rng2M fa fb) := by
  refine ⟨PI.imp (pi_range2 hg hm (el_cons ha (el_cons hb el_nil hs2) (by rw [hs, hs2])).pa hs hs2) fun σ H R ⟨st, F, S, h⟩ => ?_⟩
  have h' : fin Γ X.K W (rW X.K) F st σ H (((mCons fa (mCons fb mNil)).bind fun ds => match ds with | [.int i, .int j] => if -(2 ^ 62) ≤ i ∧ i < 2 ^ 62 ∧ -(2 ^ 62) ≤ j ∧ j < 2 ^ 62 then M.ret (rngL i (j - i).toNat) else M.fail | _ => M.fail) st) R := by
    have e : ((mCons fa (mCons fb mNil)).bind fun ds => match ds with | [.int i, .int j] => if -(2 ^ 62) ≤ i ∧ i < 2 ^ 62 ∧ -(2 ^ 62) ≤ j ∧ j < 2 ^ 62 then M.ret (rngL i (j - i).toNat) else M.fail | _ => M.fail) st = rng2M fa fb st := by
      unfold rng2M mCons mNil M.bind M.ret
      cases fa st with
      | ok d st1 =>
        simp only
        cases fb st1 with
        | ok e st2 => cases d <;> cases e <;> rfl
        | ex _ _ => rfl
        | no => rfl
      | ex _ _ => rfl
      | no => rfl
    rw [e]; exact h
  refine fin_bind rW_mono S h' fun ds st1 vs H1 F1 S1 G r h1 => ?_
  split at h1
  · rename_i i j
    split at h1
    · rename_i c
      cases (show RpA X.K F1 [.int i, .int j] vs from r) with
      | cons r1 r2 =>
        cases r1
        cases r2 with
        | cons r3 r4 =>
          cases r3
          cases r4
          exact ⟨i, j, rfl, c, fin_ret S1 h1 walk_r⟩
    · exact h1.elim
  · exact h1.elim
/-! ### for -/
def forL (t : Tg) (body : MS) (kill : List Nat) : List D → MS
  | [], st => .nx st
  | d :: ds, st => match asg t d st with
    | none => .no
    | some st1 => match body st1 with
      | .nx st2 => forL t body kill ds (killS kill st2)
      | .ct st2 => forL t body kill ds (killS kill st2)
      | .bk st2 => .nx (killS kill st2)
      | .rt d st2 => .rt d st2
      | .ex x st2 => .ex x st2
      | .no => .no
def forS (t : Tg) (f : M (List D)) (body : MS) (kill : List Nat) : MS := bindS f fun ds st => forL t body kill ds (killS kill st)
variable {P : List Nat}
theorem es_for {iter : Expr} {body : List Stmt} {t : Tg} {g : TG} {f : M (List D)} {fb : MS} {kill : List Nat} (hp : PassesOwn (model X.prog X.w) X.A X.env X.xe) (hc : X.calm = true) (hP : ∀ i ∈ t.ix, i ∉ P) (hi : EI Γ X W tg iter f) (hg : EG X tg t g) (hb : ESs Γ X W P body fb)
    (hs : ∀ x, foldedSetIterable iter X.env x = pure x := by intro _; rfl) : ES Γ X W P (.For tg iter body [] pos) (forS t f fb kill) := by
  refine ⟨PS.imp (ps_for hp hc hi.pi hg.pg hb.ps hs) fun D σ H ⟨st, F, S, h⟩ => finS_bind S h fun ds st1 J H1 F1 S1 G r q => ?_⟩
  have r : WalkD X.K J ds F1 := r
  -- the invariant: what is left to do from here
  let Pv : Nat → L2.St → Hp → Prop := fun i σ' H' => ∃ st' F', Sim X.K Γ.T F' st' σ' H' ∧ (∀ a o, F1 a = some o → F' a = some o) ∧ finS Γ X.K W P F' st' σ' H' (forL t fb kill (ds.drop i) st') D
  refine ⟨fun i m σ' H' => m = ds.length - i ∧ i ≤ ds.length ∧ Pv i σ' H', ⟨ds.length, by simp, Nat.zero_le _, killS kill st1, F1, S1.kill kill, fun _ _ h => h, finS_mono (G.g.trans grow_kill) .refl q⟩, ?_⟩
  rintro i m σ' H' ⟨rfl, hi, st', F', S', m', q'⟩
  by_cases hl : i < ds.length
  · right
    obtain ⟨w1, _⟩ := r i H' F' m' S'.sub
    obtain ⟨go, y1⟩ := w1 ds[i] (by simp [hl])
    refine ⟨go, Pv (i + 1), fun σ2 H2 p => ⟨ds.length - (i + 1), by omega, rfl, hl, p⟩, fun x H2 y => ?_⟩
    obtain ⟨F2, A, rx⟩ := y1 x H2 y
    rw [List.drop_eq_getElem_cons hl] at q'
    simp only [forL] at q'
    cases ea : asg t ds[i] st' with
    | none => rw [ea] at q'; exact q'.elim
    | some st3 =>
      rw [ea] at q'
      simp only at q'
      refine hg.sp (S'.add A) rx ea fun σ3 S3 o3 k3 l3 => ?_
      have G3 : Grow F' st' σ' H' F2 st3 σ3 H2 := (A.grow (st := st') (σ := σ')).g.trans ⟨fun _ _ h => h, fun _ _ h _ _ => h, fun _ _ h => .inl h, fun a h => .inl (o3 a h), fun _ h => h⟩
      have K3 : Keep P σ' σ3 := ⟨fun j hj => k3 j fun z => hP j z hj, l3⟩
      have done : ∀ (st4 : List Sl) (σ4 : L2.St) (H4 F4 : Hp), Sim X.K Γ.T F4 st4 σ4 H4 → Grow F2 st3 σ3 H2 F4 st4 σ4 H4 → Keep P σ3 σ4 → finS Γ X.K W P F' st' σ' H' (forL t fb kill (ds.drop (i + 1)) (killS kill st4)) D → Pv (i + 1) σ4 H4 := fun st4 σ4 H4 F4 S4 G4 K4 q4 =>
        ⟨killS kill st4, F4, S4.kill kill, fun a o h => G4.gF _ _ (A.fF _ _ (m' a o h)), finS_mono ((G3.trans G4).trans grow_kill) (K3.trans K4) q4⟩
      refine ⟨st3, F2, S3, ?_⟩
      cases eb : fb st3 with
      | nx st4 => rw [eb] at q'; exact fun σ4 H4 F4 S4 G4 K4 => done st4 σ4 H4 F4 S4 G4 K4 q'
      | ct st4 => rw [eb] at q'; exact fun σ4 H4 F4 S4 G4 K4 => done st4 σ4 H4 F4 S4 G4 K4 q'
      | bk st4 => rw [eb] at q'; exact fun σ4 H4 F4 S4 G4 K4 => q' σ4 H4 F4 (S4.kill kill) ((G3.trans G4).trans grow_kill) (K3.trans K4)
      | rt d st4 => rw [eb] at q'; exact fun v σ4 H4 F4 S4 G4 K4 r => q' v σ4 H4 F4 S4 (G3.trans G4) (K3.trans K4) r
      | ex x st4 => rw [eb] at q'; exact fun c dx σ4 H4 F4 S4 G4 K4 r => q' c dx σ4 H4 F4 S4 (G3.trans G4) (K3.trans K4) r
      | no => rw [eb] at q'; exact q'.elim
  · left
    have e : i = ds.length := by omega
    subst e
    rw [List.drop_length] at q'
    exact ⟨(r ds.length H' F' m' S'.sub).2 (Nat.le_refl _), q' σ' H' F' S' .refl .refl⟩
/-! ### while -/
def whlL (c : M Bool) (body : MS) (kill : List Nat) : Nat → MS
  | 0, _ => .no
  | n + 1, st => match c st with
    | .ok true st1 => match body st1 with
      | .nx st2 => whlL c body kill n (killS kill st2)
      | .ct st2 => whlL c body kill n (killS kill st2)
      | .bk st2 => .nx st2
      | .rt d st2 => .rt d st2
      | .ex x st2 => .ex x st2
      | .no => .no
    | .ok false st1 => .nx st1
    | .ex x st1 => .ex x st1
    | .no => .no
def isNo : SOut → Bool
  | .no => true
  | _ => false
open Classical in
noncomputable def whlS (c : M Bool) (body : MS) (kill : List Nat) : MS := fun st =>
  if h : ∃ n, isNo (whlL c body kill n (killS kill st)) = false then whlL c body kill (Classical.choose h) (killS kill st) else .no
theorem whlL_mono {c : M Bool} {body : MS} {kill : List Nat} : ∀ {n m : Nat} {st : List Sl}, n ≤ m → isNo (whlL c body kill n st) = false → whlL c body kill m st = whlL c body kill n st
  | 0, _, _, _, h => by simp [whlL, isNo] at h
  | n + 1, 0, _, l, _ => by omega
  | n + 1, m + 1, st, l, h => by
    simp only [whlL] at h ⊢
    cases e : c st with
    | ok b st1 =>
      rw [e] at h
      cases b with
      | true =>
        simp only at h ⊢
        cases e2 : body st1 with
        | nx st2 => rw [e2] at h; exact whlL_mono (by omega) h
        | ct st2 => rw [e2] at h; exact whlL_mono (by omega) h
        | bk st2 => rfl
        | rt d st2 => rfl
        | ex x st2 => rfl
        | no => rfl
      | false => rfl
    | ex x st1 => rfl
    | no => rfl
theorem whlS_eq {c : M Bool} {body : MS} {kill : List Nat} {st : List Sl} (n : Nat) (h : isNo (whlL c body kill n (killS kill st)) = false) : whlS c body kill st = whlL c body kill n (killS kill st) := by
  unfold whlS
  rw [dif_pos ⟨n, h⟩]
  have q : ∃ n, isNo (whlL c body kill n (killS kill st)) = false := ⟨n, h⟩
  have hc := Classical.choose_spec q
  rcases Nat.le_total n (Classical.choose q) with l | l
  · exact whlL_mono l h
  · exact (whlL_mono l hc).symm
theorem es_while {e : Expr} {body : List Stmt} {p : M Bool} {fb : MS} {kill : List Nat} (hp : PassesOwn (model X.prog X.w) X.A X.env X.xe) (hc : ET Γ X W e p) (hb : ESs Γ X W P body fb) : ES Γ X W P (.While e body [] pos) (whlS p fb kill) := by
  refine ⟨PS.imp (ps_while hp hc.pt hb.ps) fun D σ H ⟨st, F, S, h⟩ => ?_⟩
  unfold whlS at h
  split at h
  · rename_i hn
    refine ⟨fun m σ' H' => ∃ st' F', Sim X.K Γ.T F' st' σ' H' ∧ finS Γ X.K W P F' st' σ' H' (whlL p fb kill m st') D, ⟨_, _, F, S.kill kill, finS_mono grow_kill .refl h⟩, ?_⟩
    rintro m σ' H' ⟨st', F', S', q⟩
    cases m with
    | zero => exact q.elim
    | succ n =>
      have q : finS Γ X.K W P F' st' σ' H' (bindS p (fun b st1 => if b = true then (match fb st1 with
          | .nx st2 => whlL p fb kill n (killS kill st2)
          | .ct st2 => whlL p fb kill n (killS kill st2)
          | .bk st2 => .nx st2
          | .rt d st2 => .rt d st2
          | .ex x st2 => .ex x st2
          | .no => .no) else .nx st1) st') D := by
        have e : bindS p (fun b st1 => if b = true then (match fb st1 with
          | .nx st2 => whlL p fb kill n (killS kill st2)
          | .ct st2 => whlL p fb kill n (killS kill st2)
          | .bk st2 => .nx st2
          | .rt d st2 => .rt d st2
          | .ex x st2 => .ex x st2
          | .no => .no) else .nx st1) st' = whlL p fb kill (n + 1) st' := by
          unfold bindS
          simp only [whlL]
          cases p st' with
          | ok b st1 => cases b <;> simp
          | ex x st1 => rfl
          | no => rfl
        rw [e]; exact q
      refine finS_bind S' q fun b st1 v H1 F1 S1 G r q1 => ?_
      have r : v = b := r
      subst r
      cases v with
      | false => exact q1 σ' H1 F1 S1 G.g .refl
      | true =>
        simp only [if_true] at q1
        rw [if_pos rfl]
        refine ⟨fun σ2 H2 => ∃ st' F', Sim X.K Γ.T F' st' σ2 H2 ∧ finS Γ X.K W P F' st' σ2 H2 (whlL p fb kill n st') D, fun σ2 H2 z => ⟨n, Nat.lt_succ_self n, z⟩, st1, F1, S1, ?_⟩
        cases eb : fb st1 with
        | nx st4 => rw [eb] at q1; exact fun σ4 H4 F4 S4 G4 K4 => ⟨_, F4, S4.kill kill, finS_mono ((G.g.trans G4).trans grow_kill) K4 q1⟩
        | ct st4 => rw [eb] at q1; exact fun σ4 H4 F4 S4 G4 K4 => ⟨_, F4, S4.kill kill, finS_mono ((G.g.trans G4).trans grow_kill) K4 q1⟩
        | bk st4 => rw [eb] at q1; exact fun σ4 H4 F4 S4 G4 K4 => q1 σ4 H4 F4 S4 (G.g.trans G4) K4
        | rt d st4 => rw [eb] at q1; exact fun v σ4 H4 F4 S4 G4 K4 r => q1 v σ4 H4 F4 S4 (G.g.trans G4) K4 r
        | ex x st4 => rw [eb] at q1; exact fun c dx σ4 H4 F4 S4 G4 K4 r => q1 c dx σ4 H4 F4 S4 (G.g.trans G4) K4 r
        | no => rw [eb] at q1; exact q1.elim
  · exact h.elim
end
end Sk
set_option maxHeartbeats 1000000
namespace Sk
open PySem PySem.Spec PyProof.Rows L2
/-! ### list comprehensions -/
/-- behind a block: its own slots are as ahead of it, the others as the block left them -/
def back (vs : List Nat) (st st' : List Sl) : List Sl := vs.foldl (fun s j => s.set j (st.getD j .un)) st'
theorem back_len {vs : List Nat} {st st' : List Sl} : (back vs st st').length = st'.length := by
  unfold back
  induction vs generalizing st' with
  | nil => rfl
  | cons i vs ih => rw [List.foldl_cons, ih, List.length_set]
theorem back_get {vs : List Nat} {st : List Sl} : ∀ {st' : List Sl}, st'.length = st.length → ∀ (j : Nat), (back vs st st')[j]? = if j ∈ vs then st[j]? else st'[j]? := by
  unfold back
  induction vs with
  | nil => intro st' _ j; simp
  | cons i vs ih =>
    intro st' hl j
    rw [List.foldl_cons, ih (by rw [List.length_set]; exact hl)]
    by_cases h1 : j ∈ vs
    · rw [if_pos h1, if_pos (List.mem_cons_of_mem _ h1)]
    · rw [if_neg h1]
      by_cases h2 : j = i
      · subst h2
        rw [if_pos (List.mem_cons_self ..)]
        by_cases h3 : j < st'.length
        · rw [set_get h3, List.getD_eq_getElem?_getD]
          rw [List.getElem?_eq_getElem (by omega)]
          rfl
        · rw [List.getElem?_eq_none (by rw [List.length_set]; omega), List.getElem?_eq_none (by omega)]
      · rw [set_ne h2, if_neg fun z => (List.mem_cons.mp z).elim h2 h1]
def addTurn (st : List Sl) (vs : List Nat) (o : Out (Option D)) (k : Option D → M D) : Out D := match o with
  | .ok d st' => k d (back vs st st')
  | _ => .no
/-- acc: what has been made so far -/
def lcL (t : Tg) (p : M Bool) (fe : M D) (vs : List Nat) : List D → List D → M D
  | acc, [] => fun st => .ok (.list acc) st
  | acc, d :: ds => fun st => match asg t d (killS vs st) with
    | none => .no
    | some st1 => match p st1 with
      | .ok true st2 => match fe st2 with
        | .ok y st3 => if acc.length < cap then lcL t p fe vs (acc ++ [y]) ds (back vs st st3) else .no
        | _ => .no
      | .ok false st2 => lcL t p fe vs acc ds (back vs st st2)
      | _ => .no
def lcM (t : Tg) (f : M (List D)) (p : M Bool) (fe : M D) (vs : List Nat) : M D := f.bind fun ds => lcL t p fe vs [] ds
def W0 : WX := fun _ _ _ _ => False
structure ETs (Γ : Gm) (X : Cx) (W : WX) (ifs : List Expr) (p : M Bool) : Prop where
  pts : PTs X ifs (rd Γ X.K W (rE Bool) p)
section
variable {Γ : Gm} {X : Cx} {W : WX} {pos : Pos}
theorem ets_nil : ETs Γ X W [] (M.ret true) := ⟨⟨fun pins s σ H Q I ⟨st, F, S, h⟩ => (pts_nil (X := X)).run pins s σ H Q I (fin_ret S h rfl)⟩⟩
theorem ets_one {c : Expr} {p : M Bool} (h : ET Γ X W c p) : ETs Γ X W [c] p := ⟨pts_one h.pt⟩
theorem wipe_get (σ : L2.St) : ∀ (vs : List Nat) (j : Nat), j ∉ vs → (wipe σ vs)[j]? = σ[j]? := fun vs j h => wipe_out h
theorem wipe_none {σ : L2.St} : ∀ {vs : List Nat} {j : Nat} {v : V}, (wipe σ vs)[j]? = some (some v) → σ[j]? = some (some v) ∧ j ∉ vs := fun h => wipe_some h
theorem wipe_in {σ : L2.St} : ∀ {vs : List Nat} {j : Nat}, j ∈ vs → j < σ.length → (wipe σ vs)[j]? = some none := by
  intro vs j hj hl
  cases e : (wipe σ vs)[j]? with
  | none =>
    have := List.getElem?_eq_none_iff.mp e
    rw [wipe_length] at this
    omega
  | some o =>
    cases o with
    | none => rfl
    | some v => exact absurd hj (wipe_some e).2
theorem wipe_eq {σ σ' : L2.St} {vs : List Nat} (hl : σ'.length = σ.length) (h : ∀ j, j ∉ vs → σ'[j]? = σ[j]?) : wipe σ' vs = wipe σ vs := by
  apply List.ext_getElem?
  intro j
  by_cases hj : j ∈ vs
  · by_cases hlt : j < σ.length
    · rw [wipe_in hj hlt, wipe_in hj (by omega)]
    · rw [List.getElem?_eq_none (by rw [wipe_length]; omega), List.getElem?_eq_none (by rw [wipe_length]; omega)]
  · rw [wipe_out hj, wipe_out hj, h j hj]
theorem Sim.wipe {K : PySem.W.Frag} {T : List (Addr × Str)} {F H : Hp} {st : List Sl} {σ : L2.St} (S : Sim K T F st σ H) (vs : List Nat) : Sim K T F (killS vs st) (L2.wipe σ vs) H where
  len := by rw [wipe_length]; exact (S.kill vs).len
  sub := S.sub
  dat := fun j c q => by
    obtain ⟨n, q⟩ := killS_get (by intro z; cases z) q
    obtain ⟨v, h1, h2⟩ := S.dat j c q
    exact ⟨v, by rw [wipe_out n]; exact h1, h2⟩
  own := fun j c q => by
    obtain ⟨n, q⟩ := killS_get (by intro z; cases z) q
    obtain ⟨a, o, h1, h2⟩ := S.own j c q
    exact ⟨a, o, by rw [wipe_out n]; exact h1, h2⟩
  scr := fun j c q => by
    obtain ⟨n, q⟩ := killS_get (by intro z; cases z) q
    obtain ⟨a, h1, h2⟩ := S.scr j c q
    exact ⟨a, by rw [wipe_out n]; exact h1, h2⟩
  inj := fun j k c c' a h1 h2 h3 h4 => by
    obtain ⟨n1, h1⟩ := killS_get (by intro z; cases z) h1
    obtain ⟨n2, h2⟩ := killS_get (by intro z; cases z) h2
    rw [wipe_out n1] at h3
    rw [wipe_out n2] at h4
    exact S.inj j k c c' a h1 h2 h3 h4
  tab := S.tab
theorem OwnA.wipe {st : List Sl} {σ : L2.St} {vs : List Nat} {a : Addr} (o : OwnA (killS vs st) (L2.wipe σ vs) a) : ∃ (j : Nat) (c : D), j ∉ vs ∧ st[j]? = some (.own c) ∧ σ[j]? = some (some (.ref a)) := by
  obtain ⟨j, c, h1, h2⟩ := o
  obtain ⟨n, h1⟩ := killS_get (by intro z; cases z) h1
  rw [wipe_out n] at h2
  exact ⟨j, c, n, h1, h2⟩
/-- out of the block -/
theorem Sim.back {K : PySem.W.Frag} {T : List (Addr × Str)} {F H F' H' : Hp} {st sti st' : List Sl} {σ σ2 : L2.St} {vs : List Nat} (S : Sim K T F st σ H) (S' : Sim K T F' st' σ2 H') (G : Grow F sti σ2 H F' st' σ2 H')
    (oi : ∀ a, OwnA sti σ2 a → ∃ (j : Nat) (c : D), j ∉ vs ∧ st[j]? = some (.own c) ∧ σ[j]? = some (some (.ref a))) (os : ∀ a, OwnA st' σ2 a → OwnA sti σ2 a) (k : ∀ j, j ∉ vs → σ2[j]? = σ[j]?) (hl : σ2.length = σ.length) :
    Sim K T F' (Sk.back vs st st') σ H' ∧ GrowE F st σ H F' (Sk.back vs st st') H' := by
  have hlen : st'.length = st.length := by rw [S'.len, hl, S.len]
  have notin : ∀ (j : Nat) c a, j ∈ vs → st[j]? = some (.own c) → σ[j]? = some (some (.ref a)) → ¬ OwnA sti σ2 a := fun j c a hj h1 h2 z => by
    obtain ⟨i, c', n, h3, h4⟩ := oi a z
    have := S.inj j i c c' a h1 h3 h2 h4
    subst this
    exact n hj
  have get : ∀ {j : Nat} {b : Sl}, (Sk.back vs st st')[j]? = some b → (j ∈ vs ∧ st[j]? = some b) ∨ (j ∉ vs ∧ st'[j]? = some b) := fun {j b} h => by
    rw [back_get hlen] at h
    by_cases hj : j ∈ vs
    · rw [if_pos hj] at h; exact .inl ⟨hj, h⟩
    · rw [if_neg hj] at h; exact .inr ⟨hj, h⟩
  have own2 : ∀ {j : Nat} {c a}, (Sk.back vs st st')[j]? = some (.own c) → σ[j]? = some (some (.ref a)) → OwnA st σ a := fun {j c a} h1 h2 => by
    rcases get h1 with ⟨hj, h1⟩ | ⟨hj, h1⟩
    · exact ⟨j, c, h1, h2⟩
    · obtain ⟨i, c', _, h3, h4⟩ := oi a (os a ⟨j, c, h1, by rw [k j hj]; exact h2⟩)
      exact ⟨i, c', h3, h4⟩
  refine ⟨⟨by rw [back_len, hlen]; exact S.len, S'.sub, fun j c q => ?_, fun j c q => ?_, fun j c q => ?_, fun j i c c' a h1 h2 h3 h4 => ?_, S'.tab⟩, ⟨⟨G.gF, fun a o h n nt => G.gH a o h (fun z => ?_) nt, fun a o h => ?_, fun a ⟨j, c, h1, h2⟩ => .inl (own2 h1 h2), G.gD⟩, fun a ⟨j, c, h1, h2⟩ => own2 h1 h2⟩⟩
  · rcases get q with ⟨hj, q⟩ | ⟨hj, q⟩
    · obtain ⟨v, h1, h2⟩ := S.dat j c q
      exact ⟨v, h1, h2.mono G.gF⟩
    · obtain ⟨v, h1, h2⟩ := S'.dat j c q
      exact ⟨v, by rw [← k j hj]; exact h1, h2⟩
  · rcases get q with ⟨hj, q⟩ | ⟨hj, q⟩
    · obtain ⟨a, o, h1, h2, h3, h4⟩ := S.own j c q
      have n := notin j c a hj q h1
      refine ⟨a, o, h1, ?_, G.gH _ _ h3 n h4.nt, h4.mono G.gF⟩
      cases w : F' a with
      | none => rfl
      | some u =>
        rcases G.gN _ _ w with z | z | z
        · rw [h2] at z; cases z
        · exact absurd z n
        · exact (z.no h3 h4.nt).elim
    · obtain ⟨a, o, h1, h2⟩ := S'.own j c q
      exact ⟨a, o, by rw [← k j hj]; exact h1, h2⟩
  · rcases get q with ⟨hj, q⟩ | ⟨hj, q⟩
    · obtain ⟨v, h1, h2⟩ := S.scr j c q
      exact ⟨v, h1, sqL_mono G.gF h2⟩
    · obtain ⟨v, h1, h2⟩ := S'.scr j c q
      exact ⟨v, by rw [← k j hj]; exact h1, h2⟩
  · rcases get h1 with ⟨hj, h1⟩ | ⟨hj, h1⟩
    · rcases get h2 with ⟨hi, h2⟩ | ⟨hi, h2⟩
      · exact S.inj j i c c' a h1 h2 h3 h4
      · exact absurd (os a ⟨i, c', h2, by rw [k i hi]; exact h4⟩) (notin j c a hj h1 h3)
    · rcases get h2 with ⟨hi, h2⟩ | ⟨hi, h2⟩
      · exact absurd (os a ⟨j, c, h1, by rw [k j hj]; exact h3⟩) (notin i c' a hi h2 h4)
      · exact S'.inj j i c c' a h1 h2 (by rw [k j hj]; exact h3) (by rw [k i hi]; exact h4)
  · obtain ⟨j, c, _, h1, h2⟩ := oi a z
    exact n ⟨j, c, h1, h2⟩
  · rcases G.gN _ _ h with z | z | z
    · exact .inl z
    · obtain ⟨j, c, _, h1, h2⟩ := oi a z
      exact .inr (.inl ⟨j, c, h1, h2⟩)
    · exact .inr (.inr z)
def isDat : HO → Bool
  | .lst _ => true
  | .dK _ => true
  | _ => false
theorem tabs_but {T : List (Addr × Str)} {H H' : Hp} (t : LamX.Tabs T H) (k : ∀ b o, H b = some o → isDat o = false → H' b = some o) : LamX.Tabs T H' := fun p hp => by
  obtain ⟨ps, h1, h2, h3⟩ := t p hp
  refine ⟨ps, k _ _ h1 rfl, h2, fun pos cv hc => ?_⟩
  obtain ⟨c, e1, e2⟩ := h3 pos cv hc
  exact ⟨c, e1, k _ _ e2 rfl⟩
/-- an object that is nobody's changes -/
theorem Sim.alien {K : PySem.W.Frag} {T : List (Addr × Str)} {F H : Hp} {st : List Sl} {σ : L2.St} {L : Addr} {o u : HO} (S : Sim K T F st σ H) (e : H L = some o) (d : isDat o = true) (n : F L = none) (no : ¬ OwnA st σ L) : Sim K T F st σ (upd H L u) where
  len := S.len
  sub := fun b w q => by rw [upd_ne (ne_of_none q n)]; exact S.sub b w q
  dat := S.dat
  own := fun j c q => by
    obtain ⟨a, w, h1, h2, h3, h4⟩ := S.own j c q
    refine ⟨a, w, h1, h2, ?_, h4⟩
    rw [upd_ne fun z => no ⟨j, c, q, by rw [← z]; exact h1⟩]
    exact h3
  scr := S.scr
  inj := S.inj
  tab := tabs_but S.tab fun b w q h => by
    rw [upd_ne fun z => ?_]
    · exact q
    · subst z
      rw [e] at q
      cases q
      rw [d] at h
      cases h
theorem GrowE.alien {F H F' H' : Hp} {st st' : List Sl} {σ : L2.St} {L : Addr} {u : HO} (G : GrowE F st σ H F' st' H') (n : Fr H L) : GrowE F st σ H F' st' (upd H' L u) :=
  ⟨⟨G.g.gF, fun a o h no nt => by rw [upd_ne (show a ≠ L from fun z => n.no (by rw [← z]; exact h) nt)]; exact G.g.gH a o h no nt, G.g.gN, G.g.gO, fun a h => by
    by_cases z : a = L
    · rw [z]; exact n
    · refine G.g.gD a ?_
      unfold Fr at h ⊢
      rw [upd_ne z] at h
      exact h⟩, G.os⟩
theorem lc_read {elt tg iter : Expr} {ifs : List Expr} {scope : Scope} {own : List (Str × Nat)} {t : Tg} {g : TG} {f : M (List D)} {p : M Bool} {fe : M D} (ok : BlkOk X.N X.env.scope scope own) (hN : X.N.Nodup) (ht : ∀ i ∈ t.ix, i ∈ own.map (·.2))
    (hg : ∀ {T : List (Addr × Str)} {F H : Hp} {st st' : List Sl} {σ : L2.St} {d : D} {v : V} {Q : L2.St → Hp → Prop}, Sim X.K T F st σ H → Rp X.K F d v → asg t d st = some st' →
    (∀ σ', Sim X.K T F st' σ' H → (∀ a, OwnA st' σ' a → OwnA st σ a) → (∀ j, j ∉ t.ix → σ'[j]? = σ[j]?) → σ'.length = σ.length → Q σ' H) → g v σ H Q) :
    ∀ σ H Q, rd Γ X.K W (rN X.K) (lcM t f p fe (own.map (·.2))) σ H Q → tLc (rd Γ X.K W (rW X.K) f) g (rd Γ X.K W0 (rE Bool) p) (rd Γ X.K W0 (rP X.K) fe) (own.map (·.2)) σ H Q := by
  intro σ H Q ⟨st, F, S, h⟩
  generalize own.map (·.2) = vs at *
  refine fin_bindA S GrowE.refl h fun ds st1 J H1 F1 S1 G r q => ?_
  have r : WalkD X.K J ds F1 := r
  intro L hL
  let Pv : Nat → Hp → Prop := fun i H' => ∃ st' F' acc xs, Sim X.K Γ.T F' st' σ H' ∧ GrowE F st σ H F' st' H' ∧ (∀ a o, F1 a = some o → F' a = some o) ∧ H' L = some (.lst xs) ∧ F' L = none ∧ RpA X.K F' acc xs ∧ fin Γ X.K W (rN X.K) F st σ H (lcL t p fe vs acc (ds.drop i) st') Q
  have hLH : Fr H L := G.g.gD _ (.inl hL)
  have F1L : F1 L = none := S1.fnone hL
  refine ⟨fun i m H' => m = ds.length - i ∧ i ≤ ds.length ∧ Pv i H', ⟨ds.length, by simp, Nat.zero_le _, st1, F1, [], [], S1.new hL, G.trans (grow_new hL), fun _ _ h => h, upd_same, F1L, .nil, q⟩, ?_⟩
  rintro i m H' ⟨rfl, hi, st', F', acc, xs, S', G', m', eL, nL, ra, q'⟩
  by_cases hl : i < ds.length
  · right
    obtain ⟨w1, _⟩ := r i H' F' m' S'.sub
    obtain ⟨go, y1⟩ := w1 ds[i] (by simp [hl])
    refine ⟨go, Pv (i + 1), fun H2 pp => ⟨ds.length - (i + 1), by omega, rfl, hl, pp⟩, fun x H2 y => ?_⟩
    obtain ⟨F2, A, rx⟩ := y1 x H2 y
    rw [List.drop_eq_getElem_cons hl] at q'
    simp only [lcL] at q'
    cases ea : asg t ds[i] (killS vs st') with
    | none => rw [ea] at q'; exact q'.elim
    | some st3 =>
      rw [ea] at q'
      simp only at q'
      have S2 := S'.add A
      refine hg (S2.wipe vs) rx ea fun σ3 S3 o3 k3 l3 => ?_
      have k3' : ∀ j, j ∉ vs → σ3[j]? = σ[j]? := fun j hj => by rw [k3 j fun z => hj (ht j z), wipe_out hj]
      have l3' : σ3.length = σ.length := by rw [l3, wipe_length]
      refine ⟨wipe_eq l3' k3', ?_⟩
      -- the block's end
      have out : ∀ (st4 : List Sl) (F4 H4 : Hp), Sim X.K Γ.T F4 st4 σ3 H4 → GrowE F2 st3 σ3 H2 F4 st4 H4 → Sim X.K Γ.T F4 (Sk.back vs st' st4) σ H4 ∧ GrowE F2 st' σ H2 F4 (Sk.back vs st' st4) H4 ∧ H4 L = some (.lst xs) ∧ F4 L = none ∧ RpA X.K F4 acc xs := fun st4 F4 H4 S4 G4 => by
        have oi : ∀ a, OwnA st3 σ3 a → ∃ (j : Nat) (c : D), j ∉ vs ∧ st'[j]? = some (.own c) ∧ σ[j]? = some (some (.ref a)) := fun a z => (o3 a z).wipe
        obtain ⟨b1, b2⟩ := Sim.back (sti := st3) S2 S4 G4.g oi G4.os k3' l3'
        have nown : ¬ OwnA st3 σ3 L := fun z => by
          obtain ⟨j, c, _, h1, h2⟩ := oi L z
          obtain ⟨u, hu, _, nt⟩ := own_there S (G'.os L ⟨j, c, h1, h2⟩)
          exact hLH.no hu nt
        have e2 := A.fH _ _ eL
        refine ⟨b1, b2, G4.g.gH _ _ e2 nown (by intro ps z; cases z), ?_, (ra.mono A.fF).mono G4.g.gF⟩
        cases w : F4 L with
        | none => rfl
        | some u =>
          rcases G4.g.gN _ _ w with z | z | z
          · rcases A.fN _ _ z with z | z
            · rw [nL] at z; cases z
            · rw [eL] at z; cases z
          · exact absurd z nown
          · exact (z.no e2 (by intro ps z; cases z)).elim
      refine ⟨st3, F2, S3, ?_⟩
      cases ep : p st3 with
      | ok b st4 =>
        rw [ep] at q'
        intro b' H4 F4 S4 G4 rb
        have rb : b' = b := rb
        subst rb
        cases b' with
        | true =>
          simp only at q'
          rw [if_pos rfl]
          refine ⟨st4, F4, S4, ?_⟩
          cases ee : fe st4 with
          | ok y st5 =>
            rw [ee] at q'
            simp only at q'
            intro v H5 F5 S5 G5 rv
            obtain ⟨b1, b2, b3, b4, b5⟩ := out st5 F5 H5 S5 (G4.trans G5)
            split at q'
            · rename_i hz
              refine ⟨xs, b3, by rw [← b5.length]; exact lt_cap hz, Sk.back vs st' st5, F5, acc ++ [y], xs ++ [v], ?_, ?_, fun a o h => b2.g.gF _ _ (A.fF _ _ (m' a o h)), upd_same, b4, b5.append (.one rv), q'⟩
              · refine b1.alien b3 rfl b4 fun z => ?_
                obtain ⟨u, hu, _, nt⟩ := own_there S (G'.os L (b2.os L z))
                exact hLH.no hu nt
              · exact ((G'.trans A.grow).trans b2).alien hLH
            · exact q'.elim
          | ex x st5 => rw [ee] at q'; exact q'.elim
          | no => rw [ee] at q'; exact q'.elim
        | false =>
          simp only at q'
          obtain ⟨b1, b2, b3, b4, b5⟩ := out st4 F4 H4 S4 G4
          exact ⟨Sk.back vs st' st4, F4, acc, xs, b1, (G'.trans A.grow).trans b2, fun a o h => b2.g.gF _ _ (A.fF _ _ (m' a o h)), b3, b4, b5, q'⟩
      | ex x st4 => rw [ep] at q'; exact q'.elim
      | no => rw [ep] at q'; exact q'.elim
  · left
    have e : i = ds.length := by omega
    subst e
    rw [List.drop_length] at q'
    refine ⟨(r ds.length H' F' m' S'.sub).2 (Nat.le_refl _), ?_⟩
    exact q' _ H' F' S' G' ⟨L, _, rfl, hLH, nL, eL, .lst ra⟩
/-- [e for target in iter if ..] -/
theorem en_lc {elt tg iter : Expr} {ifs : List Expr} {scope : Scope} (own : List (Str × Nat)) {t : Tg} {g : TG} {f : M (List D)} {p : M Bool} {fe : M D} (hc : X.calm = true) (hN : X.N.Nodup) (hi : EI Γ X W tg iter f) (ok : BlkOk X.N X.env.scope scope own) (ht : ∀ i ∈ t.ix, i ∈ own.map (·.2))
    (hg : ∀ (s : Shared) (H : Hp) (C : Addr) (cl : List (Str × Addr)) (fp : List Addr), EG (X.blk s H scope (compEnvC scope cl C X.env) fp) tg t g) (hp : ∀ (s : Shared) (H : Hp) (C : Addr) (cl : List (Str × Addr)) (fp : List Addr), ETs Γ (X.blk s H scope (compEnvC scope cl C X.env) fp) W0 ifs p)
    (he : ∀ (s : Shared) (H : Hp) (C : Addr) (cl : List (Str × Addr)) (fp : List Addr), EV Γ (X.blk s H scope (compEnvC scope cl C X.env) fp) W0 elt fe) (hs : ∀ x, foldedSetIterable iter X.env x = pure x := by intro _; rfl) :
    EN Γ X W (.ListComp elt [⟨tg, iter, ifs, 0⟩] scope pos) (lcM t f p fe (own.map (·.2))) := by
  refine ⟨PE.imp (pe_lc (tt := rd Γ X.K W0 (rE Bool) p) (te := rd Γ X.K W0 (rP X.K) fe) hc hN hi.pi ok (fun s H C cl fp => (hg s H C cl fp).pg) (fun s H C cl fp => (hp s H C cl fp).pts) (fun s H C cl fp => (he s H C cl fp).pe) hs) ?_⟩
  exact lc_read (W := W) (elt := elt) (tg := tg) (iter := iter) (ifs := ifs) (scope := scope) ok hN ht fun S r e k => (hg X.s_0 X.H_0 0 [] []).sp S r e k
/-- name = [..] on one line, the name a local -/
theorem es_lc {i : Nat} {y : Str} {py spos : Pos} {P : List Nat} {elt tg iter : Expr} {ifs : List Expr} {scope : Scope} (own : List (Str × Nat)) {t : Tg} {g : TG} {f : M (List D)} {p : M Bool} {fe : M D} (hc : X.calm = true) (hN : X.N.Nodup) (hP : i ∉ P) (hi : EI Γ X W tg iter f) (ok : BlkOk X.N X.env.scope scope own) (ht : ∀ i ∈ t.ix, i ∈ own.map (·.2))
    (hg : ∀ (s : Shared) (H : Hp) (C : Addr) (cl : List (Str × Addr)) (fp : List Addr), EG (X.blk s H scope (compEnvC scope cl C X.env) fp) tg t g) (hp : ∀ (s : Shared) (H : Hp) (C : Addr) (cl : List (Str × Addr)) (fp : List Addr), ETs Γ (X.blk s H scope (compEnvC scope cl C X.env) fp) W0 ifs p)
    (he : ∀ (s : Shared) (H : Hp) (C : Addr) (cl : List (Str × Addr)) (fp : List Addr), EV Γ (X.blk s H scope (compEnvC scope cl C X.env) fp) W0 elt fe) (hs : ∀ x, foldedSetIterable iter X.env x = pure x := by intro _; rfl)
    (hy : X.N[i]? = some y := by rfl) (hyl : X.env.scope.names.lookup y = some .local := by rfl) (hsw : swapsWith (.ListComp elt [⟨tg, iter, ifs, 0⟩] scope pos) (some (.Name y py)) spos.line X.env = pure true := by exact sw_true rfl rfl rfl (by decide +kernel)) :
    ES Γ X W P (.Assign [.Name y py] (.ListComp elt [⟨tg, iter, ifs, 0⟩] scope pos) spos) (Sk.setN i (lcM t f p fe (own.map (·.2)))) := by
  refine ⟨PS.imp (ps_setLc (tt := rd Γ X.K W0 (rE Bool) p) (te := rd Γ X.K W0 (rP X.K) fe) hc hN hy hyl hsw hi.pi ok (fun s H C cl fp => (hg s H C cl fp).pg) (fun s H C cl fp => (hp s H C cl fp).pts) (fun s H C cl fp => (he s H C cl fp).pe) hs) fun D σ H ⟨st, F, S, h⟩ => ?_⟩
  refine lc_read (W := W) (Γ := Γ) (elt := elt) (tg := tg) (iter := iter) (ifs := ifs) (scope := scope) ok hN ht (fun S r e k => (hg X.s_0 X.H_0 0 [] []).sp S r e k) σ H _ ?_
  exact finS_bind S h fun d st1 v H1 F1 S1 G r q => by
    obtain ⟨a, o, rfl, n, n1, e1, c⟩ := r
    have no := not_own S G a n
    refine q _ _ F1 (S1.setN n1 e1 c no) ⟨G.g.gF, G.g.gH, G.g.gN, fun b hb => ?_, G.g.gD⟩ (Keep.set hP)
    rcases hb.setN with z | z
    · exact .inl (G.os b z)
    · rw [z]; exact .inr n
end
end Sk
set_option maxHeartbeats 1000000
namespace Sk
open PySem PySem.Spec PyProof.Rows L2
/-! ### defs -/
/-- a def's promise: fn is what it does to its arguments -/
def spR (Γ : Gm) (K : PySem.W.Frag) (R : Rel D V) (np : Nat) (fn : M D) : Sp := fun vs H Q E =>
  ∃ args F, args.length = np ∧ Sim K Γ.T F args (vs.map some) H ∧ fin Γ K (fun cls dx _ H' => E cls dx H') R F args (vs.map some) H (fn args) Q
abbrev spD (Γ : Gm) (K : PySem.W.Frag) (np : Nat) (fn : M D) : Sp := spR Γ K (rP K) np fn
abbrev spN (Γ : Gm) (K : PySem.W.Frag) (np : Nat) (fn : M D) : Sp := spR Γ K (rN K) np fn
/-- no own argument at a place that is not of P -/
def okArgs (P : List Nat) : Nat → List Sl → Bool
  | _, [] => true
  | i, .own _ :: r => decide (i ∈ P) && okArgs P (i + 1) r
  | i, _ :: r => okArgs P (i + 1) r
/-- what the arguments are behind: those at P as the body left them -/
def outs (P : List Nat) (args st : List Sl) : List Sl := P.foldl (fun s j => s.set j (st.getD j .un)) args
/-- a def by its body -/
def isOwn : Option Sl → Bool
  | some (.own _) => true
  | _ => false
def fnOf (n : Nat) (P : List Nat) (body : MS) : M D := fun args =>
  if okArgs P 0 args = true ∧ (P.all fun i => isOwn args[i]?) = true then
    match body (args ++ List.replicate n .un) with
    | .nx st => .ok .none (outs P args st)
    | .rt d st => .ok d (outs P args st)
    | .ex x st => .ex x (outs P args st)
    | _ => .no
  else .no
theorem outs_len {P : List Nat} {args st : List Sl} : (outs P args st).length = args.length := by
  unfold outs
  induction P generalizing args with
  | nil => rfl
  | cons i P ih => rw [List.foldl_cons, ih, List.length_set]
theorem outs_get {P : List Nat} {st : List Sl} : ∀ {args : List Sl}, args.length ≤ st.length → (∀ i ∈ P, i < args.length) → ∀ (j : Nat), (outs P args st)[j]? = if j ∈ P then st[j]? else args[j]? := by
  unfold outs
  induction P with
  | nil => intro args _ _ j; simp
  | cons i P ih =>
    intro args hl hp j
    rw [List.foldl_cons, ih (by rw [List.length_set]; exact hl) (fun k hk => by rw [List.length_set]; exact hp k (List.mem_cons_of_mem _ hk))]
    by_cases h1 : j ∈ P
    · rw [if_pos h1, if_pos (List.mem_cons_of_mem _ h1)]
    · rw [if_neg h1]
      by_cases h2 : j = i
      · subst h2
        have h3 := hp j (List.mem_cons_self ..)
        rw [if_pos (List.mem_cons_self ..), set_get h3, List.getD_eq_getElem?_getD, List.getElem?_eq_getElem (by omega)]
        rfl
      · rw [set_ne h2, if_neg fun z => (List.mem_cons.mp z).elim h2 h1]
theorem okArgs_own {P : List Nat} : ∀ {i : Nat} {args : List Sl}, okArgs P i args = true → ∀ (j : Nat) d, args[j]? = some (.own d) → i + j ∈ P
  | i, [], _, j, d, h => by simp at h
  | i, s :: r, h, 0, d, e => by
    simp at e
    subst e
    simp only [okArgs, Bool.and_eq_true, decide_eq_true_eq] at h
    exact h.1
  | i, s :: r, h, j + 1, d, e => by
    have hr : okArgs P (i + 1) r = true := by
      cases s with
      | own d => simp only [okArgs, Bool.and_eq_true] at h; exact h.2
      | un => exact h
      | dat _ => exact h
      | scr _ => exact h
    have := okArgs_own hr j d (by simpa using e)
    rw [show i + (j + 1) = i + 1 + j by omega]
    exact this
section
variable {K : PySem.W.Frag} {T : List (Addr × Str)} {F H : Hp} {args : List Sl} {vs : List V}
theorem pad_get {α : Type} {l : List α} {n j : Nat} {a b : α} (h : (l ++ List.replicate n a)[j]? = some b) (hb : b ≠ a) : l[j]? = some b := by
  by_cases z : j < l.length
  · rw [List.getElem?_append_left z] at h; exact h
  · rw [List.getElem?_append_right (by omega), List.getElem?_replicate] at h
    split at h
    · cases h; exact absurd rfl hb
    · cases h
theorem pad_in {α : Type} {l : List α} {n j : Nat} {a b : α} (h : l[j]? = some b) : (l ++ List.replicate n a)[j]? = some b := by
  have := (List.getElem?_eq_some_iff.mp h).1
  rw [List.getElem?_append_left this]; exact h
theorem Sim.pad (S : Sim K T F args (vs.map some) H) (n : Nat) : Sim K T F (args ++ List.replicate n .un) (vs.map some ++ List.replicate n none) H where
  len := by simp [S.len]
  sub := S.sub
  dat := fun j c q => by
    obtain ⟨v, h1, h2⟩ := S.dat j c (pad_get q (by intro z; cases z))
    exact ⟨v, pad_in h1, h2⟩
  own := fun j c q => by
    obtain ⟨a, o, h1, h2⟩ := S.own j c (pad_get q (by intro z; cases z))
    exact ⟨a, o, pad_in h1, h2⟩
  scr := fun j c q => by
    obtain ⟨a, h1, h2⟩ := S.scr j c (pad_get q (by intro z; cases z))
    exact ⟨a, pad_in h1, h2⟩
  inj := fun j k c c' a h1 h2 h3 h4 => S.inj j k c c' a (pad_get h1 (by intro z; cases z)) (pad_get h2 (by intro z; cases z)) (pad_get h3 (by intro z; cases z)) (pad_get h4 (by intro z; cases z))
  tab := S.tab
theorem OwnA.pad {n : Nat} {a : Addr} (o : OwnA (args ++ List.replicate n .un) (vs.map some ++ List.replicate n none) a) : OwnA args (vs.map some) a := by
  obtain ⟨j, c, h1, h2⟩ := o
  exact ⟨j, c, pad_get h1 (by intro z; cases z), pad_get h2 (by intro z; cases z)⟩
theorem OwnA.unpad {n : Nat} {a : Addr} (o : OwnA args (vs.map some) a) : OwnA (args ++ List.replicate n .un) (vs.map some ++ List.replicate n none) a := by
  obtain ⟨j, c, h1, h2⟩ := o
  exact ⟨j, c, pad_in h1, pad_in h2⟩
/-- what the caller sees behind the def -/
theorem isOwn_of {o : Option Sl} (h : isOwn o = true) : ∃ d, o = some (.own d) := by
  unfold isOwn at h
  split at h
  · exact ⟨_, rfl⟩
  · cases h
theorem Sim.outs {P : List Nat} {n : Nat} {F' H' : Hp} {st' : List Sl} {σ' : L2.St} (S : Sim K T F args (vs.map some) H) (ok : okArgs P 0 args = true) (hq : (P.all fun i => isOwn args[i]?) = true)
    (S' : Sim K T F' st' σ' H') (G : Grow F (args ++ List.replicate n .un) (vs.map some ++ List.replicate n none) H F' st' σ' H') (k : Keep P (vs.map some ++ List.replicate n none) σ') (hl : st'.length = args.length + n) :
    Sim K T F' (Sk.outs P args st') (vs.map some) H' ∧ GrowE F args (vs.map some) H F' (Sk.outs P args st') H' := by
  have ho : ∀ i ∈ P, ∃ d, args[i]? = some (.own d) := fun i hi => isOwn_of (List.all_eq_true.mp hq i hi)
  have hp : ∀ i ∈ P, i < args.length := fun i hi => by
    obtain ⟨d, e⟩ := ho i hi
    exact (List.getElem?_eq_some_iff.mp e).1
  have get := fun j => outs_get (P := P) (st := st') (args := args) (by omega) hp j
  have kk : ∀ j, j ∈ P → σ'[j]? = (vs.map some)[j]? := fun j hj => by
    rw [k.1 j hj, List.getElem?_append_left]
    rw [← S.len]
    exact hp j hj
  have cas : ∀ {j : Nat} {b : Sl}, (Sk.outs P args st')[j]? = some b → (j ∈ P ∧ st'[j]? = some b) ∨ (j ∉ P ∧ args[j]? = some b) := fun {j b} h => by
    rw [get j] at h
    by_cases hj : j ∈ P
    · rw [if_pos hj] at h; exact .inl ⟨hj, h⟩
    · rw [if_neg hj] at h; exact .inr ⟨hj, h⟩
  have nown : ∀ {j : Nat} {d}, j ∉ P → args[j]? ≠ some (.own d) := fun {j d} hj e => by
    have := okArgs_own ok j d e
    rw [Nat.zero_add] at this
    exact hj this
  have o2 : ∀ a, OwnA (Sk.outs P args st') (vs.map some) a → OwnA st' σ' a := fun a ⟨j, c, h1, h2⟩ => by
    rcases cas h1 with ⟨hj, h1⟩ | ⟨hj, h1⟩
    · exact ⟨j, c, h1, by rw [kk j hj]; exact h2⟩
    · exact absurd h1 (nown hj)
  have o3 : ∀ a, OwnA (Sk.outs P args st') (vs.map some) a → OwnA args (vs.map some) a ∨ Fr H a := fun a o => (G.gO a (o2 a o)).imp (fun z => OwnA.pad z) id
  refine ⟨⟨by rw [outs_len]; exact S.len, S'.sub, fun j c q => ?_, fun j c q => ?_, fun j c q => ?_, fun j i c c' a h1 h2 h3 h4 => ?_, S'.tab⟩, ⟨⟨G.gF, fun a o h no nt => G.gH a o h (fun z => no z.pad) nt, fun a o h => (G.gN a o h).imp id (Or.imp (fun z => z.pad) id), o3, G.gD⟩, fun a o => ?_⟩⟩
  · rcases cas q with ⟨hj, q⟩ | ⟨hj, q⟩
    · obtain ⟨v, h1, h2⟩ := S'.dat j c q
      exact ⟨v, by rw [← kk j hj]; exact h1, h2⟩
    · obtain ⟨v, h1, h2⟩ := S.dat j c q
      exact ⟨v, h1, h2.mono G.gF⟩
  · rcases cas q with ⟨hj, q⟩ | ⟨hj, q⟩
    · obtain ⟨a, o, h1, h2⟩ := S'.own j c q
      exact ⟨a, o, by rw [← kk j hj]; exact h1, h2⟩
    · exact absurd q (nown hj)
  · rcases cas q with ⟨hj, q⟩ | ⟨hj, q⟩
    · obtain ⟨v, h1, h2⟩ := S'.scr j c q
      exact ⟨v, by rw [← kk j hj]; exact h1, h2⟩
    · obtain ⟨v, h1, h2⟩ := S.scr j c q
      exact ⟨v, h1, sqL_mono G.gF h2⟩
  · rcases cas h1 with ⟨hj, h1⟩ | ⟨hj, h1⟩
    · rcases cas h2 with ⟨hi, h2⟩ | ⟨hi, h2⟩
      · exact S'.inj j i c c' a h1 h2 (by rw [kk j hj]; exact h3) (by rw [kk i hi]; exact h4)
      · exact absurd h2 (nown hi)
    · exact absurd h1 (nown hj)
  · obtain ⟨j, c, h1, h2⟩ := o
    rcases cas h1 with ⟨hj, h1⟩ | ⟨hj, h1⟩
    · obtain ⟨d, e⟩ := ho j hj
      exact ⟨j, d, e, h2⟩
    · exact absurd h1 (nown hj)
end
/-! ### a def keeps its promise -/
section
variable {P : Program} {w : World} {K : PySem.W.Frag} {mg : Str → Option Value} {base : Heap}
theorem start_pad {N : List Str} {vs : List V} {n np : Nat} (hl : vs.length = np) (hN : N.length = np + n) : L2.start N vs = vs.map some ++ List.replicate n none := by
  have e : N.length - vs.length = n := by omega
  first
    | (unfold L2.start; rw [e])
    | (show vs.map some ++ List.replicate (N.length - vs.length) none = _; rw [e])
/-- from a body's rule to the def's: plain result -/
theorem body_ok {Γ : Gm} {X : Cx} {n np : Nat} {Pr : List Nat} {f : MS} {body : List Stmt} {vs : List V} {H : Hp} {Q : VK} {E : XK} (hX : X.K = K) (hb : ESs Γ X (fun cls dx _ H' => E cls dx H') Pr body f)
    (h : spD Γ K np (fnOf n Pr f) vs H Q E) : rS Γ X.K (fun cls dx _ H' => E cls dx H') Pr f { nx := fun _ H' => Q .non H', rt := Q } (vs.map some ++ List.replicate n none) H := by
  subst hX
  obtain ⟨args, F, hl, S, h⟩ := h
  refine ⟨args ++ List.replicate n .un, F, S.pad n, ?_⟩
  unfold fnOf at h
  split at h
  · rename_i hc
    obtain ⟨h1, h2⟩ := hc
    have out : ∀ {st' : List Sl} {σ' : L2.St} {H' F'}, Sim X.K Γ.T F' st' σ' H' → Grow F (args ++ List.replicate n .un) (vs.map some ++ List.replicate n none) H F' st' σ' H' → Keep Pr (vs.map some ++ List.replicate n none) σ' →
        Sim X.K Γ.T F' (Sk.outs Pr args st') (vs.map some) H' ∧ GrowE F args (vs.map some) H F' (Sk.outs Pr args st') H' := fun {st' σ' H' F'} S' G k => by
      refine S.outs h1 h2 S' G k ?_
      rw [S'.len, k.2]
      have := S.len
      simp at this ⊢
      omega
    cases e : f (args ++ List.replicate n .un) with
    | nx st =>
      rw [e] at h
      exact fun σ' H' F' S' G k => let ⟨a, b⟩ := out S' G k; h .non H' F' a b .non
    | rt d st =>
      rw [e] at h
      exact fun v σ' H' F' S' G k r => let ⟨a, b⟩ := out S' G k; h v H' F' a b r
    | ex x st =>
      rw [e] at h
      exact fun cls dx σ' H' F' S' G k r => let ⟨a, b⟩ := out S' G k; h cls dx H' F' a b r
    | bk st => rw [e] at h; exact h.elim
    | ct st => rw [e] at h; exact h.elim
    | no => rw [e] at h; exact h.elim
  · exact h.elim
theorem sp_len {Γ : Gm} {R : Rel D V} {np : Nat} {fn : M D} {ps : List Str} (hl : ps.length = np) : ∀ vs H Q E, spR Γ K R np fn vs H Q E → vs.length = ps.length := fun vs H Q E ⟨args, F, h1, S, _⟩ => by
  have := S.len
  rw [List.length_map] at this
  omega
/-- THE RULE for a def -/
theorem fn_ok {Γ : Gm} {x qual : Str} {params : Arguments} {body : List Stmt} {scope : Scope} {f : Addr} {fd : FuncData} {N ps : List Str} {k : Nat} {Pr : List Nat} {fb : MS} (F : FunD K x qual params body scope [] [] f fd) (S : FnScope N ps scope)
    (hb : ∀ (cdv : Value) (A : Around) (outer : List Env) (s : Shared) (H : Hp) (E : XK), Room k (A.deeper (envOfC qual scope s.heap.objs.size f cdv)) →
      ESs Γ (cxOf (L2.CX P w) P w K mg base N qual scope f cdv A outer s H E) (fun cls dx _ H' => E cls dx H') Pr body fb) : FnOk P w K mg base (L2.CX P w) (k + 1) f fd ps (spD Γ K ps.length (fnOf (N.length - ps.length) Pr fb)) := by
  refine F.ok S (sp_len rfl) fun cdv A outer s H vs Q E hr h => ⟨_, (hb cdv A outer s H E hr).ps, ?_⟩
  have e : L2.start N vs = vs.map some ++ List.replicate (N.length - ps.length) none := by
    unfold L2.start
    rw [sp_len rfl vs H Q E h]
  rw [e]
  exact body_ok (X := cxOf (L2.CX P w) P w K mg base N qual scope f cdv A outer s H E) rfl (hb cdv A outer s H E hr) h
end
end Sk
set_option maxHeartbeats 1000000
namespace Sk
open PySem PySem.Spec PyProof.Rows L2
/-! ### a def whose last row hands back a new object -/
def fnNew (n : Nat) (f : MS) (g : M D) : M D := fun args =>
  if okArgs [] 0 args = true then
    match f (args ++ List.replicate n .un) with
    | .nx st => match g st with
      | .ok d _ => .ok d args
      | .ex x _ => .ex x args
      | .no => .no
    | .ex x _ => .ex x args
    | _ => .no
  else .no
section
variable {P : Program} {w : World} {K : PySem.W.Frag} {mg : Str → Option Value} {base : Heap}
theorem bodyN_ok {Γ : Gm} {X : Cx} {n np : Nat} {f : MS} {g : M D} {s : Stmt} {e : Expr} {vs : List V} {H : Hp} {Q : VK} {E : XK} (hX : X.K = K) (hb : ES Γ X (fun cls dx _ H' => E cls dx H') [] s f) (he : EN Γ X (fun cls dx _ H' => E cls dx H') e g)
    (h : spN Γ K np (fnNew n f g) vs H Q E) : tSeq (rS Γ X.K (fun cls dx _ H' => E cls dx H') [] f) (tRet (rd Γ X.K (fun cls dx _ H' => E cls dx H') (rN X.K) g)) { nx := fun _ H' => Q .non H', rt := Q } (vs.map some ++ List.replicate n none) H := by
  subst hX
  obtain ⟨args, F, hl, S, h⟩ := h
  refine ⟨args ++ List.replicate n .un, F, S.pad n, ?_⟩
  unfold fnNew at h
  split at h
  · rename_i h1
    have out : ∀ {st' : List Sl} {σ' : L2.St} {H' F'}, Sim X.K Γ.T F' st' σ' H' → Grow F (args ++ List.replicate n .un) (vs.map some ++ List.replicate n none) H F' st' σ' H' → Keep [] (vs.map some ++ List.replicate n none) σ' →
        Sim X.K Γ.T F' args (vs.map some) H' ∧ GrowE F args (vs.map some) H F' args H' := fun {st' σ' H' F'} S' G k => by
      refine S.outs (P := []) h1 rfl S' G k ?_
      rw [S'.len, k.2]
      have := S.len
      simp at this ⊢
      omega
    cases e1 : f (args ++ List.replicate n .un) with
    | nx st =>
      rw [e1] at h
      simp only at h
      intro σ' H' F' S' G k
      refine ⟨st, F', S', ?_⟩
      cases e2 : g st with
      | ok d st2 =>
        rw [e2] at h
        exact fun v H2 F2 S2 G2 r => let ⟨a, b⟩ := out S2 (G.trans G2.g) k; h v H2 F2 a b (rN_mono _ _ _ _ _ _ G.gD r)
      | ex x st2 =>
        rw [e2] at h
        exact fun cls dx H2 F2 S2 G2 r => let ⟨a, b⟩ := out S2 (G.trans G2.g) k; h cls dx H2 F2 a b r
      | no => rw [e2] at h; exact h.elim
    | ex x st =>
      rw [e1] at h
      exact fun cls dx σ' H' F' S' G k r => let ⟨a, b⟩ := out S' G k; h cls dx H' F' a b r
    | rt d st => rw [e1] at h; exact h.elim
    | bk st => rw [e1] at h; exact h.elim
    | ct st => rw [e1] at h; exact h.elim
    | no => rw [e1] at h; exact h.elim
  · exact h.elim
theorem fn_okN {Γ : Gm} {x qual : Str} {params : Arguments} {s0 : Stmt} {e0 : Expr} {p0 : Pos} {scope : Scope} {f : Addr} {fd : FuncData} {N ps : List Str} {k : Nat} {fb : MS} {g : M D} (F : FunD K x qual params [s0, .Return (some e0) p0] scope [] [] f fd) (S : FnScope N ps scope)
    (hb : ∀ (cdv : Value) (A : Around) (outer : List Env) (s : Shared) (H : Hp) (E : XK), Room k (A.deeper (envOfC qual scope s.heap.objs.size f cdv)) →
      ES Γ (cxOf (L2.CX P w) P w K mg base N qual scope f cdv A outer s H E) (fun cls dx _ H' => E cls dx H') [] s0 fb)
    (he : ∀ (cdv : Value) (A : Around) (outer : List Env) (s : Shared) (H : Hp) (E : XK), Room k (A.deeper (envOfC qual scope s.heap.objs.size f cdv)) →
      EN Γ (cxOf (L2.CX P w) P w K mg base N qual scope f cdv A outer s H E) (fun cls dx _ H' => E cls dx H') e0 g) : FnOk P w K mg base (L2.CX P w) (k + 1) f fd ps (spN Γ K ps.length (fnNew (N.length - ps.length) fb g)) := by
  refine F.ok S (sp_len rfl) fun cdv A outer s H vs Q E hr h => ⟨_, pss_cons (hb cdv A outer s H E hr).ps (pss_one (ps_ret (he cdv A outer s H E hr).pe)), ?_⟩
  have e : L2.start N vs = vs.map some ++ List.replicate (N.length - ps.length) none := by
    unfold L2.start
    rw [sp_len rfl vs H Q E h]
  rw [e]
  exact bodyN_ok (X := cxOf (L2.CX P w) P w K mg base N qual scope f cdv A outer s H E) rfl (hb cdv A outer s H E hr) (he cdv A outer s H E hr) h
end
/-! ### calls of defs -/
def argOf (st : List Sl) : Op → Option Sl
  | .dat d => some (.dat d)
  | .own i => match st[i]? with
    | some .un => none
    | o => o
def argsOf (st : List Sl) : List Op → Option (List Sl)
  | [] => some []
  | x :: xs => match argOf st x, argsOf st xs with
    | some a, some r => some (a :: r)
    | _, _ => none
def ownIx : List Op → List Nat
  | [] => []
  | .own i :: r => i :: ownIx r
  | .dat _ :: r => ownIx r
/-- the slots handed over, as the callee left them -/
def wb : List Op → List Sl → List Sl → List Sl
  | .own i :: ops, s :: outs, st => wb ops outs (st.set i s)
  | .dat _ :: ops, _ :: outs, st => wb ops outs st
  | _, _, st => st
def callAt (fn : M D) (ops : List Op) : M D := fun st =>
  if (ownIx ops).Nodup then match argsOf st ops with
    | some args => match fn args with
      | .ok d outs => if outs.length = args.length then .ok d (wb ops outs st) else .no
      | .ex x outs => if outs.length = args.length then .ex x (wb ops outs st) else .no
      | .no => .no
    | none => .no
  else .no
def callM (fn : M D) (f : M (List Op)) : M D := f.bind fun ops => callAt fn ops
theorem wb_len : ∀ (ops : List Op) (outs st : List Sl), (wb ops outs st).length = st.length
  | [], _, _ => by unfold wb; rfl
  | .own i :: ops, [], st => by unfold wb; rfl
  | .dat _ :: ops, [], st => by unfold wb; rfl
  | .own i :: ops, s :: outs, st => by
    unfold wb
    rw [wb_len ops outs, List.length_set]
  | .dat _ :: ops, _ :: outs, st => by
    unfold wb
    exact wb_len ops outs st
theorem mem_ownIx {ops : List Op} {j : Nat} : j ∈ ownIx ops ↔ ∃ k : Nat, ops[k]? = some (.own j) := by
  induction ops with
  | nil => simp [ownIx]
  | cons x r ih =>
    cases x with
    | dat d =>
      simp only [ownIx, ih]
      constructor
      · rintro ⟨k, h⟩; exact ⟨k + 1, by simpa using h⟩
      · rintro ⟨k, h⟩
        cases k with
        | zero => simp at h
        | succ k => exact ⟨k, by simpa using h⟩
    | own i =>
      simp only [ownIx, List.mem_cons, ih]
      constructor
      · rintro (rfl | ⟨k, h⟩)
        · exact ⟨0, rfl⟩
        · exact ⟨k + 1, by simpa using h⟩
      · rintro ⟨k, h⟩
        cases k with
        | zero => simp at h; exact .inl h.symm
        | succ k => exact .inr ⟨k, by simpa using h⟩
theorem wb_out : ∀ {ops : List Op} {outs st : List Sl} {j : Nat}, j ∉ ownIx ops → (wb ops outs st)[j]? = st[j]?
  | [], _, _, _, _ => by unfold wb; rfl
  | .own i :: ops, [], st, _, _ => by unfold wb; rfl
  | .dat _ :: ops, [], st, _, _ => by unfold wb; rfl
  | .own i :: ops, s :: outs, st, j, h => by
    unfold wb
    simp only [ownIx, List.mem_cons, not_or] at h
    rw [wb_out h.2, set_ne h.1]
  | .dat _ :: ops, _ :: outs, st, j, h => by
    unfold wb
    exact wb_out h
theorem wb_in : ∀ {ops : List Op} {outs st : List Sl} {k i : Nat} {s : Sl}, (ownIx ops).Nodup → ops[k]? = some (.own i) → outs[k]? = some s → i < st.length → (wb ops outs st)[i]? = some s
  | [], _, _, _, _, _, _, h, _, _ => by simp at h
  | _ :: ops, [], st, _, _, _, _, _, h, _ => by simp at h
  | .dat d :: ops, o :: outs, st, k, i, s, n, h, e, l => by
    unfold wb
    cases k with
    | zero => simp at h
    | succ k => exact wb_in (by simpa [ownIx] using n) (by simpa using h) (by simpa using e) l
  | .own i' :: ops, o :: outs, st, k, i, s, n, h, e, l => by
    unfold wb
    simp only [ownIx, List.nodup_cons] at n
    cases k with
    | zero =>
      simp at h e
      subst h e
      rw [wb_out n.1, set_get l]
    | succ k => exact wb_in n.2 (by simpa using h) (by simpa using e) (by rw [List.length_set]; exact l)
theorem own_one {ops : List Op} (n : (ownIx ops).Nodup) {k l i : Nat} (h1 : ops[k]? = some (.own i)) (h2 : ops[l]? = some (.own i)) : k = l := by
  induction ops generalizing k l with
  | nil => simp at h1
  | cons x r ih =>
    cases x with
    | dat d =>
      simp only [ownIx] at n
      cases k with
      | zero => simp at h1
      | succ k =>
        cases l with
        | zero => simp at h2
        | succ l => exact congrArg (· + 1) (ih n (by simpa using h1) (by simpa using h2))
    | own j =>
      simp only [ownIx, List.nodup_cons] at n
      cases k with
      | zero =>
        simp at h1
        cases l with
        | zero => rfl
        | succ l =>
          have : i ∈ ownIx r := mem_ownIx.mpr ⟨l, by simpa using h2⟩
          rw [← h1] at this
          exact absurd this n.1
      | succ k =>
        cases l with
        | zero =>
          simp at h2
          have : i ∈ ownIx r := mem_ownIx.mpr ⟨k, by simpa using h1⟩
          rw [← h2] at this
          exact absurd this n.1
        | succ l => exact congrArg (· + 1) (ih n.2 (by simpa using h1) (by simpa using h2))
section
variable {K : PySem.W.Frag} {T : List (Addr × Str)} {F H : Hp} {st : List Sl} {σ : L2.St}
theorem RpOs.get : ∀ {ops : List Op} {vs : List V} {k : Nat} {x : Op}, RpOs K F σ ops vs → ops[k]? = some x → ∃ v, vs[k]? = some v ∧ RpO K F σ x v
  | _, _, _, _, .nil, h => by simp at h
  | _, _, 0, _, .cons r _, h => by simp at h; subst h; exact ⟨_, rfl, r⟩
  | _, _, k + 1, _, .cons _ t, h => by simpa using RpOs.get t (by simpa using h)
theorem RpOs.length : ∀ {ops : List Op} {vs : List V}, RpOs K F σ ops vs → ops.length = vs.length
  | _, _, .nil => rfl
  | _, _, .cons _ t => by simp [RpOs.length t]
theorem argsOf_get : ∀ {ops : List Op} {args : List Sl}, argsOf st ops = some args → args.length = ops.length ∧ ∀ (k : Nat) (s : Sl), args[k]? = some s → ∃ x, ops[k]? = some x ∧ argOf st x = some s
  | [], _, h => by
    simp only [argsOf, Option.some.injEq] at h
    subst h
    exact ⟨rfl, fun k s h => by simp at h⟩
  | x :: xs, _, h => by
    simp only [argsOf] at h
    split at h
    · rename_i a r e1 e2
      cases h
      obtain ⟨h1, h2⟩ := argsOf_get e2
      refine ⟨by simp [h1], fun k s hs => ?_⟩
      cases k with
      | zero => simp at hs; subst hs; exact ⟨x, rfl, e1⟩
      | succ k =>
        obtain ⟨y, e3, e4⟩ := h2 k s (by simpa using hs)
        exact ⟨y, by simpa using e3, e4⟩
    · cases h
theorem argOf_own {x : Op} {s : Sl} (h : argOf st x = some s) (n : ∀ d, s ≠ .dat d) : ∃ i, x = .own i ∧ st[i]? = some s := by
  cases x with
  | dat d =>
    simp only [argOf, Option.some.injEq] at h
    exact absurd h.symm (n d)
  | own i =>
    simp only [argOf] at h
    split at h
    · cases h
    · exact ⟨i, rfl, h⟩
/-- the arguments at the call -/
theorem Sim.args {ops : List Op} {args : List Sl} {vs : List V} (S : Sim K T F st σ H) (n : (ownIx ops).Nodup) (h : argsOf st ops = some args) (r : RpOs K F σ ops vs) : Sim K T F args (vs.map some) H := by
  obtain ⟨hl, hg⟩ := argsOf_get h
  have vv : ∀ {k : Nat} {v : V}, vs[k]? = some v → (vs.map some)[k]? = some (some v) := fun e => by rw [List.getElem?_map, e]; rfl
  have ov : ∀ {k : Nat} {s : Sl}, args[k]? = some s → (∀ d, s ≠ .dat d) → ∃ i v, ops[k]? = some (.own i) ∧ st[i]? = some s ∧ vs[k]? = some v ∧ σ[i]? = some (some v) := fun {k s} e n => by
    obtain ⟨x, e1, e2⟩ := hg k s e
    obtain ⟨i, rfl, e3⟩ := argOf_own e2 n
    obtain ⟨v, e4, e5⟩ := r.get e1
    exact ⟨i, v, e1, e3, e4, e5⟩
  refine ⟨by rw [hl, List.length_map, r.length], S.sub, fun k d e => ?_, fun k d e => ?_, fun k ns e => ?_, fun k l d d' a e1 e2 h1 h2 => ?_, S.tab⟩
  · obtain ⟨x, e1, e2⟩ := hg k _ e
    obtain ⟨v, e4, e5⟩ := r.get e1
    refine ⟨v, vv e4, ?_⟩
    cases x with
    | dat d' =>
      simp only [argOf, Option.some.injEq] at e2
      cases e2
      exact e5
    | own i =>
      simp only [argOf] at e2
      split at e2
      · cases e2
      · obtain ⟨u, h1, h2⟩ := S.dat i d e2
        have e5 : σ[i]? = some (some v) := e5
        rw [h1] at e5
        cases e5
        exact h2
  · obtain ⟨i, v, _, h1, h2, h3⟩ := ov e (by intro d z; cases z)
    obtain ⟨a, o, q1, q2⟩ := S.own i d h1
    rw [h3] at q1
    cases q1
    exact ⟨a, o, vv h2, q2⟩
  · obtain ⟨i, v, _, h1, h2, h3⟩ := ov e (by intro d z; cases z)
    obtain ⟨a, q1, q2⟩ := S.scr i ns h1
    rw [h3] at q1
    cases q1
    exact ⟨a, vv h2, q2⟩
  · obtain ⟨i, v, o1, p1, p2, p3⟩ := ov e1 (by intro d z; cases z)
    obtain ⟨j, u, o2, q1, q2, q3⟩ := ov e2 (by intro d z; cases z)
    rw [vv p2] at h1
    rw [vv q2] at h2
    cases h1
    cases h2
    have := S.inj i j d d' a p1 q1 p3 q3
    subst this
    exact own_one n o1 o2
/-- behind the call -/
theorem Sim.after {ops : List Op} {args outs : List Sl} {vs : List V} {F' H' : Hp} (S : Sim K T F st σ H) (n : (ownIx ops).Nodup) (h : argsOf st ops = some args) (r : RpOs K F σ ops vs) (S' : Sim K T F' outs (vs.map some) H') (G : GrowE F args (vs.map some) H F' outs H') (ho : outs.length = args.length) :
    Sim K T F' (wb ops outs st) σ H' ∧ GrowE F st σ H F' (wb ops outs st) H' := by
  obtain ⟨hl, hg⟩ := argsOf_get h
  have vv : ∀ {k : Nat} {v : V}, (vs.map some)[k]? = some (some v) → vs[k]? = some v := fun {k v} e => by
    rw [List.getElem?_map] at e
    cases q : vs[k]? with
    | none => rw [q] at e; cases e
    | some u => rw [q] at e; cases e; rfl
  have back : ∀ {j k : Nat} {v : V}, ops[k]? = some (.own j) → (vs.map some)[k]? = some (some v) → σ[j]? = some (some v) := fun {j k v} e1 e2 => by
    obtain ⟨u, e3, e4⟩ := r.get e1
    rw [vv e2] at e3
    cases e3
    exact e4
  -- a slot behind: handed over, or as it was
  have cas : ∀ {j : Nat} {b : Sl}, (wb ops outs st)[j]? = some b → (∃ k : Nat, ops[k]? = some (Op.own j) ∧ outs[k]? = some b) ∨ (j ∉ ownIx ops ∧ st[j]? = some b) := fun {j b} e => by
    by_cases hj : j ∈ ownIx ops
    · obtain ⟨k, hk⟩ := mem_ownIx.mp hj
      left
      have hlt : j < st.length := by
        have := (List.getElem?_eq_some_iff.mp e).1
        rw [wb_len] at this
        exact this
      have hk2 : k < outs.length := by
        have := (List.getElem?_eq_some_iff.mp hk).1
        omega
      have e2 := wb_in (st := st) n hk (List.getElem?_eq_getElem hk2) hlt
      rw [e2] at e
      cases e
      exact ⟨k, hk, List.getElem?_eq_getElem hk2⟩
    · right
      rw [wb_out hj] at e
      exact ⟨hj, e⟩
  have oA : ∀ a, OwnA args (vs.map some) a → ∃ j, j ∈ ownIx ops ∧ ∃ d, st[j]? = some (.own d) ∧ σ[j]? = some (some (.ref a)) := fun a ⟨k, d, e1, e2⟩ => by
    obtain ⟨x, e3, e4⟩ := hg k _ e1
    obtain ⟨i, rfl, e5⟩ := argOf_own e4 (by intro d z; cases z)
    exact ⟨i, mem_ownIx.mpr ⟨k, e3⟩, d, e5, back e3 e2⟩
  have nA : ∀ {j : Nat} {d a}, j ∉ ownIx ops → st[j]? = some (.own d) → σ[j]? = some (some (.ref a)) → ¬ OwnA args (vs.map some) a := fun {j d a} hj e1 e2 z => by
    obtain ⟨i, hi, d', e3, e4⟩ := oA a z
    have := S.inj j i d d' a e1 e3 e2 e4
    subst this
    exact hj hi
  have os : ∀ a, OwnA (wb ops outs st) σ a → OwnA st σ a := fun a ⟨j, c, e1, e2⟩ => by
    rcases cas e1 with ⟨k, h1, h2⟩ | ⟨hj, h1⟩
    · obtain ⟨u, e3, e4⟩ := r.get h1
      have e4 : σ[j]? = some (some u) := e4
      rw [e2] at e4
      cases e4
      obtain ⟨i, _, d, q1, q2⟩ := oA a (G.os a ⟨k, c, h2, by rw [List.getElem?_map, e3]; rfl⟩)
      exact ⟨i, d, q1, q2⟩
    · exact ⟨j, c, h1, e2⟩
  refine ⟨⟨by rw [wb_len]; exact S.len, S'.sub, fun j d e => ?_, fun j d e => ?_, fun j d e => ?_, fun j i d d' a e1 e2 h1 h2 => ?_, S'.tab⟩, ⟨⟨G.g.gF, fun a o e no nt => G.g.gH a o e (fun z => ?_) nt, fun a o e => ?_, fun a z => .inl (os a z), G.g.gD⟩, os⟩⟩
  · rcases cas e with ⟨k, h1, h2⟩ | ⟨hj, h1⟩
    · obtain ⟨v, e1, e2⟩ := S'.dat k d h2
      exact ⟨v, back h1 e1, e2⟩
    · obtain ⟨v, e1, e2⟩ := S.dat j d h1
      exact ⟨v, e1, e2.mono G.g.gF⟩
  · rcases cas e with ⟨k, h1, h2⟩ | ⟨hj, h1⟩
    · obtain ⟨a, o, e1, e2⟩ := S'.own k d h2
      exact ⟨a, o, back h1 e1, e2⟩
    · obtain ⟨a, o, e1, e2, e3, e4⟩ := S.own j d h1
      have no := nA hj h1 e1
      refine ⟨a, o, e1, ?_, G.g.gH _ _ e3 no e4.nt, e4.mono G.g.gF⟩
      cases q : F' a with
      | none => rfl
      | some u =>
        rcases G.g.gN _ _ q with z | z | z
        · rw [e2] at z; cases z
        · exact absurd z no
        · exact (z.no e3 e4.nt).elim
  · rcases cas e with ⟨k, h1, h2⟩ | ⟨hj, h1⟩
    · obtain ⟨v, e1, e2⟩ := S'.scr k d h2
      exact ⟨v, back h1 e1, e2⟩
    · obtain ⟨v, e1, e2⟩ := S.scr j d h1
      exact ⟨v, e1, sqL_mono G.g.gF e2⟩
  · rcases cas e1 with ⟨k, p1, p2⟩ | ⟨hj, p1⟩
    · obtain ⟨u, e3, e4⟩ := r.get p1
      have e4 : σ[j]? = some (some u) := e4
      rw [h1] at e4
      cases e4
      have w1 : (vs.map some)[k]? = some (some (.ref a)) := by rw [List.getElem?_map, e3]; rfl
      rcases cas e2 with ⟨l, q1, q2⟩ | ⟨hi, q1⟩
      · obtain ⟨u, e5, e6⟩ := r.get q1
        have e6 : σ[i]? = some (some u) := e6
        rw [h2] at e6
        cases e6
        have w2 : (vs.map some)[l]? = some (some (.ref a)) := by rw [List.getElem?_map, e5]; rfl
        have := S'.inj k l d d' a p2 q2 w1 w2
        subst this
        rw [p1] at q1
        cases q1
        rfl
      · exact absurd (G.os a ⟨k, d, p2, w1⟩) (nA hi q1 h2)
    · rcases cas e2 with ⟨l, q1, q2⟩ | ⟨hi, q1⟩
      · obtain ⟨u, e5, e6⟩ := r.get q1
        have e6 : σ[i]? = some (some u) := e6
        rw [h2] at e6
        cases e6
        exact absurd (G.os a ⟨l, d', q2, by rw [List.getElem?_map, e5]; rfl⟩) (nA hj p1 h1)
      · exact S.inj j i d d' a p1 q1 h1 h2
  · obtain ⟨j, _, d, q1, q2⟩ := oA a z
    exact no ⟨j, d, q1, q2⟩
  · rcases G.g.gN _ _ e with z | z | z
    · exact .inl z
    · obtain ⟨j, _, d, q1, q2⟩ := oA a z
      exact .inr (.inl ⟨j, d, q1, q2⟩)
    · exact .inr (.inr z)
end
section
variable {Γ : Gm} {X : Cx} {W : WX} {pos p : Pos} {x : Str} {k : Nat} {f : Addr} {fd : FuncData} {ps : List Str} {fn : M D} {e : Expr} {es : List Expr} {fa : M (List Op)} {R : Rel D V}
/-- the reading of a call -/
theorem call_read {F H : Hp} {st : List Sl} {σ : L2.St} {ops : List Op} {vs : List V} {np : Nat} {Q : VK} (S : Sim X.K Γ.T F st σ H) (r : RpOs X.K F σ ops vs) (h : fin Γ X.K W R F st σ H (callAt fn ops st) Q) (hn : ops.length = np) :
    spR Γ X.K R np fn vs H Q (WE W σ) := by
  unfold callAt at h
  split at h
  · rename_i n
    split at h
    · rename_i args ha
      have hl := (argsOf_get ha).1
      refine ⟨args, F, by rw [hl, hn], S.args n ha r, ?_⟩
      cases e : fn args with
      | ok d outs =>
        rw [e] at h
        simp only at h
        split at h
        · rename_i ho
          exact fun v H' F' S' G rr => let ⟨a, b⟩ := S.after n ha r S' G ho; h v H' F' a b rr
        · exact h.elim
      | ex y outs =>
        rw [e] at h
        simp only at h
        split at h
        · rename_i ho
          exact fun cls dx H' F' S' G rr => let ⟨a, b⟩ := S.after n ha r S' G ho; h cls dx H' F' a b rr
        · exact h.elim
      | no => rw [e] at h; exact h.elim
    · exact h.elim
  · exact h.elim
/-- how many arguments -/
def hasLen {α : Type} (n : Nat) (f : M (List α)) : Prop := ∀ st ds st', f st = .ok ds st' → ds.length = n
theorem len_nil {α : Type} : hasLen 0 (mNil : M (List α)) := fun st ds st' h => by
  unfold mNil M.ret at h
  cases h
  rfl
theorem len_cons {α : Type} {n : Nat} {f : M α} {g : M (List α)} (h : hasLen n g) : hasLen (n + 1) (mCons f g) := fun st ds st' e => by
  unfold mCons M.bind at e
  cases e1 : f st with
  | ok d st1 =>
    rw [e1] at e
    simp only at e
    cases e2 : g st1 with
    | ok r st2 =>
      rw [e2] at e
      simp only [M.ret] at e
      cases e
      simp [h _ _ _ e2]
    | ex x st2 => rw [e2] at e; cases e
    | no => rw [e2] at e; cases e
  | ex x st1 => rw [e1] at e; cases e
  | no => rw [e1] at e; cases e
theorem call_tree {R : Rel D V} {np : Nat} (hR : RelMono R) (hl : hasLen np fa) : ∀ σ H Q, rd Γ X.K W R (callM fn fa) σ H Q → tCallS (spR Γ X.K R np fn) (WE W) (fun σ => rd Γ X.K W (rOs X.K σ) fa σ) σ H Q := by
  intro σ H Q ⟨st, F, S, h⟩
  refine ⟨st, F, S, ?_⟩
  have h0 := h
  unfold callM M.bind at h0
  cases e : fa st with
  | ok ops st1 =>
    rw [e] at h0
    exact fun vs H1 F1 S1 G r => call_read S1 r (fin_mono hR G h0) (hl _ _ _ e)
  | ex x st1 =>
    rw [e] at h0
    exact fun cls dx H1 F1 S1 G r => h0 cls dx H1 F1 S1 G r
  | no => rw [e] at h0; exact h0.elim
theorem ev_call (F : FnOk X.prog X.w X.K X.mg X.base (L2.CX X.prog X.w) k f fd ps (spD Γ X.K ps.length fn)) (hr : Room k X.A) (hm : X.mg x = some (.ref f)) (hk : PySem.W.keepIn X.K (.ref f) = true) (hb : L2.Binds X.K fd ps []) (tk : Takes X W) (hl : hasLen ps.length fa)
    (ha : EA Γ X W (e :: es) fa) (hg : Gl X x := by rfl) (hdb : (x == ("__debug__" : Str)) = false := by decide) (he : starEach (e :: es) X.env = (false, eval e X.env) :: starEach es X.env := by rfl) (hpl : (backTo pos (starEach es X.env)).any (·.1) = false := by rfl) :
    EV Γ X W (.Call (.Name x p) (e :: es) [] pos) (callM fn fa) :=
  ⟨PE.imp (pe_callS F hr hg hm hk hb (fun σ => passAt tk σ) ha.pa hdb he hpl) (call_tree rP_mono hl)⟩
theorem en_call (F : FnOk X.prog X.w X.K X.mg X.base (L2.CX X.prog X.w) k f fd ps (spN Γ X.K ps.length fn)) (hr : Room k X.A) (hm : X.mg x = some (.ref f)) (hk : PySem.W.keepIn X.K (.ref f) = true) (hb : L2.Binds X.K fd ps []) (tk : Takes X W) (hl : hasLen ps.length fa)
    (ha : EA Γ X W (e :: es) fa) (hg : Gl X x := by rfl) (hdb : (x == ("__debug__" : Str)) = false := by decide) (he : starEach (e :: es) X.env = (false, eval e X.env) :: starEach es X.env := by rfl) (hpl : (backTo pos (starEach es X.env)).any (·.1) = false := by rfl) :
    EN Γ X W (.Call (.Name x p) (e :: es) [] pos) (callM fn fa) :=
  ⟨PE.imp (pe_callS F hr hg hm hk hb (fun σ => passAt tk σ) ha.pa hdb he hpl) (call_tree rN_mono hl)⟩
/-! ### raise, try -/
variable {P : List Nat}
def raiseS (i : Nat) : MS := fun st => .ex ⟨i, none⟩ st
theorem es_raise {p3 : Pos} {i : Nat} {C : Addr} {B newId initId : String} {bmB : List Value} {m : Str} {j : Nat} {p2 : Pos} (hc : X.calm = true) (tk : Takes X W) (hC : Γ.ca i = C) (FB : ExcBaseFacts B newId initId bmB) (q : PySem.W.excIn X.K C bmB newId = true) (gC : X.mg x = some (.ref C)) (kC : PySem.W.keepIn X.K (.ref C) = true)
    (r : Raises X (.ref C)) (hg : Gl X x := by rfl) (hdb : (x == ("__debug__" : Str)) = false := by decide) : ES Γ X W P (.Raise (some (.Call (.Name x p) [.Constant (.str m) j p2] [] p3)) none pos) (raiseS i) :=
  ⟨PS.imp (ps_raise hc tk (pmk_own FB q gC kC r hg hdb)) fun D σ H ⟨st, F, S, h⟩ => h _ _ σ H F S .refl .refl ⟨by rw [hC], True.intro⟩⟩
/-- a suite raises nothing -/
def noEx : SOut → SOut
  | .ex _ _ => .no
  | o => o
/-- the handlers: class by number, what the suite does -/
def tryS (nc : Nat) (fb : MS) (hs : List (Nat × MS)) : MS := fun st => match fb st with
  | .ex x st1 => if x.cls < nc then match hs.find? fun h => h.1 == x.cls with
      | some h => noEx (h.2 st1)
      | none => .ex x st1
    else .no
  | o => o
inductive HD (Γ : Gm) (X : Cx) (P : List Nat) : List ExceptHandler → List (Nat × MS) → Prop
  | nil : HD Γ X P [] []
  | cons {x : Str} {i : Nat} {fs : MS} {b₀ : Stmt} {suite : List Stmt} {np pos' : Pos} {hds : List ExceptHandler} {l : List (Nat × MS)} (hc : Names X x (.ref (Γ.ca i)))
      (hsu : ∀ (a : Addr) (oe : Obj) (pn : List (Addr × Obj)), ESs Γ (X.suite a ((a, oe) :: pn)) W0 P (b₀ :: suite) fs) (r : HD Γ X P hds l) :
      HD Γ X P (.ExceptHandler (some (.Name x np)) none (b₀ :: suite) pos' :: hds) ((i, fs) :: l)
abbrev hdl (Γ : Gm) (K : PySem.W.Frag) (P : List Nat) (l : List (Nat × MS)) : List (Value × (Addr → Value → Option Addr → TS)) := l.map fun h => (Value.ref (Γ.ca h.1), fun _ _ _ => rS Γ K W0 P h.2)
theorem HD.ok {hds : List ExceptHandler} {l : List (Nat × MS)} (h : HD Γ X P hds l) : HdsOk X hds (hdl Γ X.K P l) := by
  induction h with
  | nil => exact .nil
  | cons hc hsu _ ih => exact .cons hc (fun a oe cls d pn _ _ => (hsu a oe pn).ps) ih
theorem finS_noEx {F H : Hp} {st : List Sl} {σ : L2.St} {o : SOut} {D : Ends} {W' : WX} (h : finS Γ X.K W P F st σ H (noEx o) D) : finS Γ X.K W' P F st σ H o D := by
  cases o with
  | ex x st1 => exact h.elim
  | nx _ => exact h
  | bk _ => exact h
  | ct _ => exact h
  | rt _ _ => exact h
  | no => exact h
theorem es_try {nc : Nat} {body : List Stmt} {h₀ : ExceptHandler} {hds : List ExceptHandler} {l : List (Nat × MS)} {fb : MS} (hs : X.stack = X.env :: X.outer) (hf : X.env.frame = some X.env.locals) (tk : Takes X W)
    (hm : ∀ i j, i < nc → j < nc → PySem.W.exmOne X.K (.ref (Γ.ca i)) (.ref (Γ.ca j)) = some (decide (i = j))) (hn : (l.all fun h => decide (h.1 < nc)) = true)
    (hb : ∀ (W : WX) (pn : List (Addr × Obj)) (xe : Value → Shared → Prop), Takes (X.tr pn xe) W → PassesOwn (model X.prog X.w) X.A X.env xe → ESs Γ (X.tr pn xe) W P body fb)
    (hh : HD Γ X P (h₀ :: hds) l) : ES Γ X W P (.Try body (h₀ :: hds) [] [] pos) (tryS nc fb l) := by
  refine ⟨PS.imp (ps_try_many (tb := fun W => rS Γ X.K W P fb) hs hf tk (fun W pn xe t p => (hb W pn xe t p).ps) hh.ok) fun D σ H ⟨st, F, S, h⟩ => ⟨st, F, S, ?_⟩⟩
  unfold tryS at h
  cases e : fb st with
  | ex x st1 =>
    rw [e] at h
    simp only at h
    split at h
    · rename_i hx
      intro cls dx σ' H' F' S' G k r
      have r1 : cls = .ref (Γ.ca x.cls) := r.1
      subst r1
      have go : ∀ l' : List (Nat × MS), (l'.all fun h => decide (h.1 < nc)) = true → finS Γ X.K W P F st σ H (match l'.find? fun h => h.1 == x.cls with
          | some h => noEx (h.2 st1)
          | none => .ex x st1) D → wMany X.K W D (hdl Γ X.K P l') (.ref (Γ.ca x.cls)) dx σ' H' := by
        intro l'
        induction l' with
        | nil => intro _ h; exact h _ _ σ' H' F' S' G k r
        | cons q l' ih =>
          intro hn h
          simp only [List.all_cons, Bool.and_eq_true, decide_eq_true_eq] at hn
          refine ⟨_, hm x.cls q.1 hx hn.1, fun hy a _ => ?_, fun hno => ?_⟩
          · have e1 : x.cls = q.1 := of_decide_eq_true hy
            rw [List.find?_cons_of_pos (by simp [e1])] at h
            exact ⟨st1, F', S', finS_mono G k (finS_noEx h)⟩
          · have e1 : ¬ x.cls = q.1 := of_decide_eq_false hno
            rw [List.find?_cons_of_neg (by simp [Ne.symm e1])] at h
            exact ih hn.2 h
      exact go l hn h
    · exact h.elim
  | nx _ => rw [e] at h; exact h
  | bk _ => rw [e] at h; exact h
  | ct _ => rw [e] at h; exact h
  | rt _ _ => rw [e] at h; exact h
  | no => rw [e] at h; exact h
end
end Sk
set_option maxHeartbeats 1000000
namespace Sk
open PySem PySem.Spec PyProof.Rows L2
section
variable {Γ : Gm} {X : Cx} {W : WX} {pos p : Pos} {x : Str} {e : Expr} {es : List Expr} {fa : M (List Op)} {r : List V → Hp → VK → Prop} {op : List D → Option D} {id T : String}
theorem apA_ok {F H : Hp} {st : List Sl} {σ : L2.St} {xs : List V} {ops : List Op} {Q : VK} (hs : SA X.K r op) (S : Sim X.K Γ.T F st σ H) (h : fin Γ X.K W (rP X.K) F st σ H (apA op ops st) Q) (rx : RpOs X.K F σ ops xs) : r xs H Q := by
  unfold apA at h
  split at h
  · rename_i ds h1
    cases ho : op ds with
    | none => rw [ho] at h; exact h.elim
    | some z =>
      rw [ho] at h
      exact hs F H _ _ _ _ S.sub (S.lookAll rx h1) ho fun v H' F' A q => h v H' F' (S.add A) A.grow q
  · exact h.elim
theorem apAN_ok {F H : Hp} {st : List Sl} {σ : L2.St} {xs : List V} {ops : List Op} {Q : VK} (hs : SAN X.K r op) (S : Sim X.K Γ.T F st σ H) (h : fin Γ X.K W (rN X.K) F st σ H (apA op ops st) Q) (rx : RpOs X.K F σ ops xs) : r xs H Q := by
  unfold apA at h
  split at h
  · rename_i ds h1
    cases ho : op ds with
    | none => rw [ho] at h; exact h.elim
    | some z =>
      rw [ho] at h
      refine hs F H _ _ _ _ S.sub (S.lookAll rx h1) ho fun p u n q => h _ _ F (S.new n) (grow_new n) ⟨p, u, rfl, .inl n, S.fnone n, upd_same, q⟩
  · exact h.elim
theorem tCB_ok (hs : SA X.K r op) : ∀ σ H Q, rd Γ X.K W (rP X.K) (opA op fa) σ H Q → tCB r (fun σ => rd Γ X.K W (rOs X.K σ) fa σ) σ H Q := fun σ H Q ⟨st, F, S, h⟩ =>
  fin_bind rP_mono S h fun ds st1 v H1 F1 S1 G1 r1 h1 => apA_ok hs S1 h1 r1
theorem tCBN_ok (hs : SAN X.K r op) : ∀ σ H Q, rd Γ X.K W (rN X.K) (opA op fa) σ H Q → tCB r (fun σ => rd Γ X.K W (rOs X.K σ) fa σ) σ H Q := fun σ H Q ⟨st, F, S, h⟩ =>
  fin_bind rN_mono S h fun ds st1 v H1 F1 S1 G1 r1 h1 => apAN_ok hs S1 h1 r1
/-- f(..), f a built-in function -/
theorem ev_cb (hc : CallR X (.builtin id) r) (hs : SA X.K r op) (hm : X.mg x = none) (hv : bootBuiltins x = some (.builtin id)) (ha : EA Γ X W (e :: es) fa) (hg : Gl X x := by rfl) (hn : x ≠ "__name__" := by decide) (hdb : (x == ("__debug__" : Str)) = false := by decide)
    (he : starEach (e :: es) X.env = (false, eval e X.env) :: starEach es X.env := by rfl) (hpl : (backTo pos (starEach es X.env)).any (·.1) = false := by rfl) : EV Γ X W (.Call (.Name x p) (e :: es) [] pos) (opA op fa) :=
  ⟨PE.imp (pe_callB hc hg hm hv ha.pa hn hdb he hpl) (tCB_ok hs)⟩
theorem en_cb (hc : CallR X (.builtin id) r) (hs : SAN X.K r op) (hm : X.mg x = none) (hv : bootBuiltins x = some (.builtin id)) (ha : EA Γ X W (e :: es) fa) (hg : Gl X x := by rfl) (hn : x ≠ "__name__" := by decide) (hdb : (x == ("__debug__" : Str)) = false := by decide)
    (he : starEach (e :: es) X.env = (false, eval e X.env) :: starEach es X.env := by rfl) (hpl : (backTo pos (starEach es X.env)).any (·.1) = false := by rfl) : EN Γ X W (.Call (.Name x p) (e :: es) [] pos) (opA op fa) :=
  ⟨PE.imp (pe_callB hc hg hm hv ha.pa hn hdb he hpl) (tCBN_ok hs)⟩
/-- T(..), T a built-in class -/
theorem ev_ct (hc : CallR X (.type T) r) (hs : SA X.K r op) (hm : X.mg x = none) (hv : bootBuiltins x = some (.type T)) (ha : EA Γ X W (e :: es) fa) (hg : Gl X x := by rfl) (hn : x ≠ "__name__" := by decide) (hdb : (x == ("__debug__" : Str)) = false := by decide)
    (he : starEach (e :: es) X.env = (false, eval e X.env) :: starEach es X.env := by rfl) (hpl : (backTo pos (starEach es X.env)).any (·.1) = false := by rfl) : EV Γ X W (.Call (.Name x p) (e :: es) [] pos) (opA op fa) :=
  ⟨PE.imp (pe_callTy hc hg hm hv ha.pa hn hdb he hpl) (tCB_ok hs)⟩
theorem en_ct (hc : CallR X (.type T) r) (hs : SAN X.K r op) (hm : X.mg x = none) (hv : bootBuiltins x = some (.type T)) (ha : EA Γ X W (e :: es) fa) (hg : Gl X x := by rfl) (hn : x ≠ "__name__" := by decide) (hdb : (x == ("__debug__" : Str)) = false := by decide)
    (he : starEach (e :: es) X.env = (false, eval e X.env) :: starEach es X.env := by rfl) (hpl : (backTo pos (starEach es X.env)).any (·.1) = false := by rfl) : EN Γ X W (.Call (.Name x p) (e :: es) [] pos) (opA op fa) :=
  ⟨PE.imp (pe_callTy hc hg hm hv ha.pa hn hdb he hpl) (tCBN_ok hs)⟩
end
/-! ### what they do -/
def dLen : List D → Option D
  | [.list xs] => some (.int (xs.length : Nat))
  | [.tuple xs] => some (.int (xs.length : Nat))
  | [.str x] => chk (x.length ≤ cap) (.int (x.length : Nat))
  | _ => none
def dAbs : List D → Option D
  | [.int i] => some (.int (if i < 0 then -i else i))
  | _ => none
def dInt : List D → Option D
  | [.int i] => some (.int i)
  | [.bool b] => some (.int (if b then 1 else 0))
  | _ => none
def dMax2 : List D → Option D
  | [.int i, .int j] => some (.int (if j > i then j else i))
  | _ => none
def dMin2 : List D → Option D
  | [.int i, .int j] => some (.int (if j < i then j else i))
  | _ => none
def dTup : List D → Option D
  | [.list xs] => some (.tuple xs)
  | [.tuple xs] => some (.tuple xs)
  | _ => none
def dList : List D → Option D
  | [.list xs] => some (.list xs)
  | [.tuple xs] => some (.list xs)
  | _ => none
/-- ints out of data -/
def intsOf : List D → Option (List Int)
  | [] => some []
  | .int i :: r => (intsOf r).map (i :: ·)
  | _ => none
def dSum : List D → Option D
  | [.list xs] => (intsOf xs).map fun ns => .int ns.sum
  | [.tuple xs] => (intsOf xs).map fun ns => .int ns.sum
  | _ => none
def insI (x : Int) : List Int → List Int
  | [] => [x]
  | y :: r => if x ≤ y then x :: y :: r else y :: insI x r
def sortI : List Int → List Int
  | [] => []
  | x :: r => insI x (sortI r)
def dSorted : List D → Option D
  | [.list xs] => (intsOf xs).bind fun ns => chk (ns.length < 64) (.list ((sortI ns).map .int))
  | _ => none
def dStrI : List D → Option D
  | [.int i] => chk (i.natAbs.log2 < 1920) (.str (toString i))
  | _ => none
section
variable {X : Cx} {K : PySem.W.Frag}
theorem sA_len : SA K (fun xs H Q => ∃ x n, xs = [x] ∧ LenV K x H n ∧ Q (.int n) H) dLen := by
  intro F H ds z xs Q hF r q k
  have hm : ∀ a o, F a = some o → H a = some o := fun a o e => (hF a o e).1
  unfold dLen at q
  split at q
  · cases q
    cases r with
    | cons r t =>
      cases t
      cases r with
      | lst sx qx => exact ⟨_, _, rfl, .inl ⟨_, .inl (.inl sx), rfl⟩, by rw [← qx.length]; exact k _ _ _ (Add.refl hF) (.int _)⟩
  · cases q
    cases r with
    | cons r t =>
      cases t
      cases r with
      | tup sx qx => exact ⟨_, _, rfl, .inr ⟨_, sqT_mono hm sx.sq, rfl⟩, by rw [← qx.length]; exact k _ _ _ (Add.refl hF) (.int _)⟩
  · obtain ⟨c, rfl⟩ := chk_some q
    cases r with
    | cons r t =>
      cases t
      cases r
      exact ⟨_, _, rfl, ⟨le_cap c, rfl⟩, k _ _ _ (Add.refl hF) (.int _)⟩
  · cases q
theorem sA_abs : SA K (fun xs H Q => ∃ i, xs = [.int i] ∧ Q (.int (if i < 0 then -i else i)) H) dAbs := by
  intro F H ds z xs Q hF r q k
  unfold dAbs at q
  split at q
  · cases q
    cases r with
    | cons r t =>
      cases t
      cases r
      exact ⟨_, rfl, k _ _ _ (Add.refl hF) (.int _)⟩
  · cases q
theorem sA_int : SA K (fun xs H Q => (∃ i, xs = [.int i] ∧ Q (.int i) H) ∨ ∃ k, xs = [.bl k] ∧ Q (.int (if k then 1 else 0)) H) dInt := by
  intro F H ds z xs Q hF r q k
  unfold dInt at q
  split at q
  · cases q
    cases r with
    | cons r t =>
      cases t
      cases r
      exact .inl ⟨_, rfl, k _ _ _ (Add.refl hF) (.int _)⟩
  · cases q
    cases r with
    | cons r t =>
      cases t
      cases r
      exact .inr ⟨_, rfl, k _ _ _ (Add.refl hF) (.int _)⟩
  · cases q
theorem sA_max : SA K (fun xs H Q => ∃ i j, xs = [.int i, .int j] ∧ Q (.int (if j > i then j else i)) H) dMax2 := by
  intro F H ds z xs Q hF r q k
  unfold dMax2 at q
  split at q
  · cases q
    cases r with
    | cons r t =>
      cases t with
      | cons r' t =>
        cases t
        cases r
        cases r'
        exact ⟨_, _, rfl, k _ _ _ (Add.refl hF) (.int _)⟩
  · cases q
theorem sA_min : SA K (fun xs H Q => ∃ i j, xs = [.int i, .int j] ∧ Q (.int (if j < i then j else i)) H) dMin2 := by
  intro F H ds z xs Q hF r q k
  unfold dMin2 at q
  split at q
  · cases q
    cases r with
    | cons r t =>
      cases t with
      | cons r' t =>
        cases t
        cases r
        cases r'
        exact ⟨_, _, rfl, k _ _ _ (Add.refl hF) (.int _)⟩
  · cases q
theorem sA_tup : SA K (fun xs H Q => ∃ p ys, xs = [.ref p] ∧ ((SqL K H p ys ∧ NewT ys H Q) ∨ (SqT K H p ys ∧ Q (.ref p) H))) dTup := by
  intro F H ds z xs Q hF r q k
  have hm : ∀ a o, F a = some o → H a = some o := fun a o e => (hF a o e).1
  unfold dTup at q
  split at q
  · cases q
    cases r with
    | cons r t =>
      cases t
      cases r with
      | lst sx qx =>
        refine ⟨_, _, rfl, .inl ⟨.inl (.inl sx), fun l ob hl nd => ?_⟩⟩
        rename_i us
        have A := Add.new (o := .frz ob (.tup us)) hF hl (by intro ps z; cases z)
        exact k _ _ _ A (.tup ⟨ob, upd_same, nd⟩ (qx.mono A.fF))
  · cases q
    cases r with
    | cons r t =>
      cases t
      cases r with
      | tup sx qx => exact ⟨_, _, rfl, .inr ⟨sqT_mono hm sx.sq, k _ _ _ (Add.refl hF) (.tup sx qx)⟩⟩
  · cases q
theorem sA_list : SAN K (fun xs H Q => ∃ p ys, xs = [.ref p] ∧ (SqL K H p ys ∨ SqT K H p ys) ∧ ∀ l, H l = none → Q (.ref l) (upd H l (.lst ys))) dList := by
  intro F H ds z xs Q hF r q k
  have hm : ∀ a o, F a = some o → H a = some o := fun a o e => (hF a o e).1
  unfold dList at q
  split at q
  · cases q
    cases r with
    | cons r t =>
      cases t
      cases r with
      | lst sx qx => exact ⟨_, _, rfl, .inl (.inl (.inl sx)), fun l hl => k _ _ hl (.lst qx)⟩
  · cases q
    cases r with
    | cons r t =>
      cases t
      cases r with
      | tup sx qx => exact ⟨_, _, rfl, .inr (sqT_mono hm sx.sq), fun l hl => k _ _ hl (.lst qx)⟩
  · cases q
theorem ints_of {F : Hp} : ∀ {ds : List D} {ns : List Int} {vs : List V}, intsOf ds = some ns → RpA K F ds vs → vs = ns.map V.int
  | [], _, _, h, .nil => by
    simp only [intsOf, Option.some.injEq] at h
    subst h
    rfl
  | d :: ds, ns, _, h, .cons r t => by
    unfold intsOf at h
    split at h
    · rename_i e
      cases e
    · rename_i i r' e
      cases e
      cases e2 : intsOf ds with
      | none => rw [e2] at h; cases h
      | some ms =>
        rw [e2] at h
        cases h
        cases r
        rw [ints_of e2 t]
        rfl
    · cases h
theorem rpA_ints {F : Hp} : ∀ ns : List Int, RpA K F (ns.map .int) (ns.map V.int)
  | [] => .nil
  | n :: ns => .cons (.int n) (rpA_ints ns)
/-- sum of a list or a tuple of numbers -/
def rSumA (K : PySem.W.Frag) : List V → Hp → VK → Prop := fun vs H Q => rSum K vs H Q ∨ ∃ (a : Addr) (ns : List Int), vs = [V.ref a] ∧ SqT K H a (ns.map V.int) ∧ Q (.int ns.sum) H
theorem cr_sumA {X : Cx} (calm : X.calm = true) : CallR X (.builtin "sum") (rSumA X.K) := by
  intro pins s σ H vs us Q I r h
  rcases h with h | ⟨a, ns, rfl, hs, q⟩
  · exact cr_sum calm pins s σ H vs us Q I r h
  · obtain ⟨its, rv, pt, _⟩ := I.tuple hs
    rw [Vals.ref1 r]
    have hi := rv.ints
    obtain ⟨xs, e⟩ := hi.allInts.items
    have hn : numsOf (intItems xs).toList = ns := by rw [← e]; exact hi.numsOf
    rw [nums_intItems] at hn
    rw [e] at pt
    refine PySem.W.ktm_sumG (I.ok.hd calm) pt fun h' tk t' hk => ?_
    rw [preSum_eq, List.take_of_length_le (by simp), hn]
    exact ⟨.int _, H, I.kept hk, ⟨_, rfl⟩, q⟩
theorem sA_sum : SA K (rSumA K) dSum := by
  intro F H ds z xs Q hF r q k
  have hm : ∀ a o, F a = some o → H a = some o := fun a o e => (hF a o e).1
  unfold dSum at q
  split at q
  · rename_i ys
    cases e : intsOf ys with
    | none => rw [e] at q; cases q
    | some ns =>
      rw [e] at q
      cases q
      cases r with
      | cons r t =>
        cases t
        cases r with
        | lst sx qx =>
          have := ints_of e qx
          subst this
          exact .inl ⟨_, ns, rfl, .inl (.inl sx), k _ _ _ (Add.refl hF) (.int _)⟩
  · rename_i ys
    cases e : intsOf ys with
    | none => rw [e] at q; cases q
    | some ns =>
      rw [e] at q
      cases q
      cases r with
      | cons r t =>
        cases t
        cases r with
        | tup sx qx =>
          have := ints_of e qx
          subst this
          exact .inr ⟨_, ns, rfl, sqT_mono hm sx.sq, k _ _ _ (Add.refl hF) (.int _)⟩
  · cases q
theorem insI_perm (x : Int) : ∀ l : List Int, (insI x l).Perm (x :: l)
  | [] => .refl _
  | y :: r => by
    unfold insI
    split
    · exact .refl _
    · exact ((insI_perm x r).cons y).trans (.swap x y r)
theorem sortI_perm : ∀ l : List Int, (sortI l).Perm l
  | [] => .refl _
  | x :: r => (insI_perm x _).trans ((sortI_perm r).cons x)
theorem insI_sorted (x : Int) : ∀ {l : List Int}, l.Pairwise (· ≤ ·) → (insI x l).Pairwise (· ≤ ·)
  | [], _ => by simp [insI]
  | y :: r, h => by
    unfold insI
    rw [List.pairwise_cons] at h
    split
    · rename_i hxy
      refine List.pairwise_cons.mpr ⟨fun z hz => ?_, List.pairwise_cons.mpr h⟩
      rcases List.mem_cons.mp hz with rfl | hz
      · exact hxy
      · exact Int.le_trans hxy (h.1 z hz)
    · rename_i hxy
      refine List.pairwise_cons.mpr ⟨fun z hz => ?_, insI_sorted x h.2⟩
      rcases List.mem_cons.mp ((insI_perm x r).mem_iff.mp hz) with rfl | hz
      · omega
      · exact h.1 z hz
theorem sortI_sorted : ∀ l : List Int, (sortI l).Pairwise (· ≤ ·)
  | [] => .nil
  | x :: r => insI_sorted x (sortI_sorted r)
theorem sorted_one {a b : List Int} (h1 : a.Pairwise (· ≤ ·)) (h2 : b.Pairwise (· ≤ ·)) (p : a.Perm b) : a = b :=
  List.Perm.eq_of_pairwise (fun x y _ _ h h' => Int.le_antisymm h h') h1 h2 p
theorem sA_sorted : SAN K (rSorted K) dSorted := by
  intro F H ds z xs Q hF r q k
  unfold dSorted at q
  split at q
  · rename_i ys
    cases e : intsOf ys with
    | none => rw [e] at q; cases q
    | some ns =>
      rw [e] at q
      obtain ⟨c, rfl⟩ := chk_some (show chk (ns.length < 64) _ = some z from q)
      cases r with
      | cons r t =>
        cases t
        cases r with
        | lst sx qx =>
          have := ints_of e qx
          subst this
          refine ⟨_, ns, rfl, .inl (.inl sx), c, fun ns' p h1 h2 hp => ?_⟩
          have : ns' = sortI ns := sorted_one h2 (sortI_sorted ns) (h1.trans (sortI_perm ns).symm)
          subst this
          exact k _ _ hp (.lst (rpA_ints _))
  · cases q
theorem sA_strI : SA K (fun xs H Q => ∃ i, xs = [.int i] ∧ i.natAbs.log2 < 1920 ∧ Q (.str (toString i)) H) dStrI := by
  intro F H ds z xs Q hF r q k
  unfold dStrI at q
  split at q
  · obtain ⟨c, rfl⟩ := chk_some q
    cases r with
    | cons r t =>
      cases t
      cases r
      exact ⟨_, rfl, c, k _ _ _ (Add.refl hF) (.str _)⟩
  · cases q
end
/-! ### isinstance(x, T), T a built-in class -/
def tyN : D → String
  | .none => "NoneType"
  | .bool _ => "bool"
  | .int _ => "int"
  | .str _ => "str"
  | .list _ => "list"
  | .tuple _ => "tuple"
  | .dict _ => "dict"
def isiD (T : String) (d : D) : Bool := tyN d == T || (T == "int" && tyN d == "bool")
def isiM (T : String) (f : M Op) : M D := un1 (fun d => some (.bool (isiD T d))) f
section
variable {Γ : Gm} {X : Cx} {W : WX} {pos p p2 : Pos} {x : Str} {e : Expr} {f : M Op}
theorem tyX_of {K : PySem.W.Frag} {F H : Hp} {d : D} {v : V} (hm : ∀ a o, F a = some o → H a = some o) (r : RdR K F H d v) : TyX K H v (.type (tyN d)) := by
  cases r with
  | non => exact .base .non
  | bl b => exact .base (.bl b)
  | int i => exact .base (.int i)
  | str i => exact .base (.str i)
  | lst sx qx => exact .base (.lst sx)
  | tup sx qx =>
    rcases sqT_mono hm sx.sq with (h | ⟨o, h⟩) | ⟨o, its, n, h1, h2, _⟩
    · exact .base (.tup h)
    · exact .fTuple h
    · exact .kTuple h1 h2
  | dct sx qx =>
    cases qx with
    | dk _ => exact .base (.dK sx)
theorem isi_kit (T : String) (h : T = "int" ∨ T = "bool" ∨ T = "str" ∨ T = "tuple" ∨ T = "list") (d : D) : kitB (tyN d) T = some (isiD T d) := by
  rcases h with rfl | rfl | rfl | rfl | rfl <;> cases d <;> (simp only [tyN, isiD]; decide +kernel)
theorem ev_isi {T : String} {nT : Str} (hT : T = "int" ∨ T = "bool" ∨ T = "str" ∨ T = "tuple" ∨ T = "list") (hm : X.mg "isinstance" = none) (hmT : X.mg nT = none) (hv : bootBuiltins nT = some (.type T)) (ha : EO Γ X W e f)
    (hg : Gl X "isinstance" := by rfl) (hgT : Gl X nT := by rfl) (hn : nT ≠ "__name__" := by decide) (hdb : (nT == ("__debug__" : Str)) = false := by decide)
    (he : starEach [e, .Name nT p2] X.env = (false, eval e X.env) :: starEach [.Name nT p2] X.env := by rfl) (he2 : starEach [.Name nT p2] X.env = (false, eval (.Name nT p2) X.env) :: starEach [] X.env := by rfl) (hpl : (backTo pos (starEach [.Name nT p2] X.env)).any (·.1) = false := by rfl) :
    EV Γ X W (.Call (.Name "isinstance" p) [e, .Name nT p2] [] pos) (isiM T f) := by
  refine ⟨PE.imp (pe_callB call_isi hg hm (by decide +kernel) (pa_cons ha.pe (pa_cons (pe_bltn (v := .ty T) hgT hmT hv rfl hn hdb) pa_nil he2) he) (by decide) (by decide) he hpl) fun σ H Q ⟨st, F, S, h⟩ => fin_bind rP_mono S h fun d st1 v H1 F1 S1 G1 r1 h1 => ?_⟩
  unfold ap1 at h1
  split at h1
  · rename_i d' e1
    have rr := S1.look r1 e1
    exact ⟨v, .ty T, _, _, isiD T d', rfl, .ty T, tyX_of S1.sub1 rr, kit_ty (isi_kit T hT d'), fin_ret S1 h1 (.bl _)⟩
  · exact h1.elim
end
end Sk
set_option maxHeartbeats 1000000
namespace Sk
open PySem PySem.Spec PyProof.Rows L2
/-! ### slices -/
structure EP (Γ : Gm) (X : Cx) (W : WX) (e : Option Expr) (f : M (Option Int)) : Prop where
  po : PO X e (rd Γ X.K W (rE (Option Int)) f)
def partM (f : M D) : M (Option Int) := f.bind fun d => match d with
  | .int i => M.ret (some i)
  | _ => M.fail
/-- the part from lo to hi -/
def cutD {α : Type} (ds : List α) (lo hi : Option Int) : List α := (ds.drop (HT.sIx ds.length 0 lo)).take (HT.sIx ds.length ds.length hi - HT.sIx ds.length 0 lo)
def dCutT : D → Option Int → Option Int → Option D
  | .tuple xs, lo, hi => some (.tuple (cutD xs lo hi))
  | _, _, _ => none
def dCutL : D → Option Int → Option Int → Option D
  | .list xs, lo, hi => some (.list (cutD xs lo hi))
  | _, _, _ => none
def sliM (op : D → Option Int → Option Int → Option D) (f : M Op) (g h : M (Option Int)) : M D := f.bind fun x => g.bind fun lo => h.bind fun hi => ap1 (fun d => op d lo hi) x
section
variable {Γ : Gm} {X : Cx} {W : WX} {pos p2 : Pos} {e : Expr} {f : M Op} {fe : M D} {lo hi : Option Expr} {g h : M (Option Int)}
theorem ep_none : EP Γ X W none (M.ret none) := ⟨⟨fun pins s σ H Q I ⟨st, F, S, h⟩ => (po_none (X := X)).run pins s σ H Q I (fin_ret S h rfl)⟩⟩
theorem ep_some (he : EV Γ X W e fe) : EP Γ X W (some e) (partM fe) := ⟨⟨fun pins s σ H Q I ⟨st, F, S, h⟩ => (po_some he.pe).run pins s σ H Q I (fin_bind rE_mono S h fun d st1 v H1 F1 S1 G r q => by
  cases d with
  | int i =>
    cases (show Rp X.K F1 (.int i) v from r)
    exact ⟨i, rfl, fin_ret S1 q rfl⟩
  | _ => exact q.elim)⟩⟩
theorem RpA.cut {K : PySem.W.Frag} {F : Hp} {ds : List D} {vs : List V} (r : RpA K F ds vs) (lo hi : Option Int) : RpA K F (cutD ds lo hi) (cutV vs lo hi) := by
  unfold cutD cutV
  rw [← r.length]
  exact (r.drop _).take _
theorem tSl_ok {R : Rel D V} {r : V → Option Int → Option Int → Hp → VK → Prop} {op : D → Option Int → Option Int → Option D} (hR : RelMono R)
    (hs : ∀ {F H : Hp} {st : List Sl} {σ : L2.St} {x : V} {d : Op} {l u : Option Int} {Q : VK}, Sim X.K Γ.T F st σ H → fin Γ X.K W R F st σ H (ap1 (fun d => op d l u) d st) Q → RpO X.K F σ d x → r x l u H Q) :
    ∀ σ H Q, rd Γ X.K W R (sliM op f g h) σ H Q → tSl r (fun σ => rd Γ X.K W (rO X.K σ) f σ) (rd Γ X.K W (rE (Option Int)) g) (rd Γ X.K W (rE (Option Int)) h) σ H Q := fun σ H Q ⟨st, F, S, q⟩ =>
  fin_bind hR S q fun d st1 x H1 F1 S1 G1 r1 q1 => fin_bind hR S1 q1 fun l st2 l' H2 F2 S2 G2 r2 q2 => fin_bind hR S2 q2 fun u st3 u' H3 F3 S3 G3 r3 q3 => by
    have r2 : l' = l := r2
    have r3 : u' = u := r3
    subst r2 r3
    exact hs S3 q3 (RpO.mono G3.g.gF (RpO.mono G2.g.gF r1))
theorem ev_slT (ha : EO Γ X W e f) (hl : EP Γ X W lo g) (hu : EP Γ X W hi h) : EV Γ X W (.Subscript e (.Slice lo hi none p2) pos) (sliM dCutT f g h) := by
  refine ⟨PE.imp (pe_slice sl_tupF ha.pe hl.po hu.po) (tSl_ok rP_mono fun {F H st σ x d l u Q} S q r => ?_)⟩
  unfold ap1 at q
  split at q
  · rename_i d' e1
    have rr := S.look r e1
    cases d' with
    | tuple xs =>
      cases rr with
      | tup sx qx =>
        rename_i a us
        refine ⟨a, us, rfl, sqT_mono S.sub1 sx.sq, fun hw => ?_, fun p ob hp nd => ?_⟩
        · have e2 : cutD xs l u = xs := by
            have l1 := (qx.cut l u).length
            rw [hw, ← qx.length] at l1
            exact ((List.take_sublist _ _).trans (List.drop_sublist _ _)).eq_of_length l1
          have q' : fin Γ X.K W (rP X.K) F st σ H (.ok (.tuple (cutD xs l u)) st) Q := q
          rw [e2] at q'
          exact fin_ret S q' (.tup sx qx)
        · have A := Add.new (o := .frz ob (.tup (cutV us l u))) S.sub hp (by intro ps z; cases z)
          exact q _ _ _ (S.add A) A.grow (.tup ⟨ob, upd_same, nd⟩ ((qx.cut l u).mono A.fF))
    | _ => exact q.elim
  · exact q.elim
theorem en_slL (ha : EO Γ X W e f) (hl : EP Γ X W lo g) (hu : EP Γ X W hi h) : EN Γ X W (.Subscript e (.Slice lo hi none p2) pos) (sliM dCutL f g h) := by
  refine ⟨PE.imp (pe_slice sl_list ha.pe hl.po hu.po) (tSl_ok rN_mono fun {F H st σ x d l u Q} S q r => ?_)⟩
  unfold ap1 at q
  split at q
  · rename_i d' e1
    have rr := S.look r e1
    cases d' with
    | list xs =>
      cases rr with
      | lst sx qx => exact ⟨_, _, rfl, .inl (.inl sx), fun p hp => q _ _ F (S.new hp) (grow_new hp) ⟨p, _, rfl, .inl hp, S.fnone hp, upd_same, .lst (qx.cut l u)⟩⟩
    | _ => exact q.elim
  · exact q.elim
/-! ### a < b < c -/
variable {a b c : Expr} {fa fb fc : M Op} {o1 o2 : CmpOp} {r1 r2 : R2} {op1 op2 : D → D → Option D}
def chM (op1 op2 : D → D → Option D) (fa fb fc : M Op) : M D := fa.bind fun x => fb.bind fun y => (ap2 op1 x y).bind fun d => match d with
  | .bool true => fc.bind fun z => ap2 op2 y z
  | .bool false => M.ret (.bool false)
  | _ => M.fail
/-- the result of a comparison is a truth -/
def Bl (op : D → D → Option D) : Prop := ∀ d e z, op d e = some z → ∃ b, z = .bool b
theorem bl_int {g : Int → Int → Bool} : Bl (iOp fun i j => some (.bool (g i j))) := fun d e z h => by
  obtain ⟨i, j, _, _, q⟩ := iOp_some h
  cases q
  exact ⟨_, rfl⟩
theorem ch_read (hb1 : Bl op1) (h1 : S2 X.K r1 op1) (h2 : S2 X.K r2 op2) : ∀ σ H Q, rd Γ X.K W (rP X.K) (chM op1 op2 fa fb fc) σ H Q → tChain r1 r2 (fun σ => rd Γ X.K W (rO X.K σ) fa σ) (fun σ => rd Γ X.K W (rO X.K σ) fb σ) (fun σ => rd Γ X.K W (rO X.K σ) fc σ) σ H Q := fun σ H Q ⟨st, F, S, q⟩ =>
  fin_bind rP_mono S q fun x st1 xv H1 F1 S1 G1 rx q1 => fin_bind rP_mono S1 q1 fun y st2 yv H2 F2 S2 G2 ry q2 => by
    have rx2 := RpO.mono G2.g.gF rx
    cases e1 : look st2 x with
    | none => simp only [M.bind, ap2, e1] at q2; exact q2.elim
    | some d =>
      cases e2 : look st2 y with
      | none => simp only [M.bind, ap2, e1, e2] at q2; exact q2.elim
      | some e =>
        cases e3 : op1 d e with
        | none => simp only [M.bind, ap2, e1, e2, e3, M.opt] at q2; exact q2.elim
        | some z =>
          simp only [M.bind, ap2, e1, e2, e3, M.opt] at q2
          obtain ⟨k, rfl⟩ := hb1 _ _ _ e3
          refine h1 F2 H2 _ _ _ _ _ _ S2.sub (S2.look rx2 e1) (S2.look ry e2) e3 fun v H3 F3 A rv => ?_
          cases rv
          refine ⟨k, rfl, ?_⟩
          have S3 := S2.add A
          have G3 : GrowE F2 st2 σ H2 F3 st2 H3 := A.grow
          cases k with
          | false => exact (fin_mono rP_mono G3 q2) _ _ _ S3 .refl (.bl false)
          | true =>
            have q3 : fin Γ X.K W (rP X.K) F3 st2 σ H3 ((fc.bind fun z => ap2 op2 y z) st2) Q := fin_mono rP_mono G3 q2
            exact fin_bind rP_mono S3 q3 fun w st4 wv H4 F4 S4 G4 rw' q4 => ap2_ok h2 S4 q4 (RpO.mono G4.g.gF (RpO.mono G3.g.gF ry)) rw'
theorem ev_ch (ho1 : OpR X (compareOp o1) r1) (ho2 : OpR X (compareOp o2) r2) (hb1 : Bl op1) (h1 : S2 X.K r1 op1) (h2 : S2 X.K r2 op2) (ha : EO Γ X W a fa) (hb : EO Γ X W b fb) (hc : EO Γ X W c fc) (hm : lastMarks [o1, o2] [b, c] = false := by with_unfolding_all rfl) : EV Γ X W (.Compare a [o1, o2] [b, c] pos) (chM op1 op2 fa fb fc) :=
  ⟨PE.imp (pe_chain ho1 ho2 ha.pe hb.pe hc.pe hm) (ch_read hb1 h1 h2)⟩
theorem et_ch (ho1 : OpR X (compareOp o1) r1) (ho2 : OpR X (compareOp o2) r2) (hb1 : Bl op1) (h1 : S2 X.K r1 op1) (h2 : S2 X.K r2 op2) (ha : EO Γ X W a fa) (hb : EO Γ X W b fb) (hc : EO Γ X W c fc) (hm : lastMarks [o1, o2] [b, c] = false := by with_unfolding_all rfl) : ET Γ X W (.Compare a [o1, o2] [b, c] pos) ((chM op1 op2 fa fb fc).bind toB) := by
  refine ⟨PT.imp (pt_chain ho1 ho2 ha.pe hb.pe hc.pe hm) fun σ H Q ⟨st, F, S, h⟩ => ?_⟩
  have := toB_ok (Γ := Γ) (W := W) (t := tChain r1 r2 (fun σ => rd Γ X.K W (rO X.K σ) fa σ) (fun σ => rd Γ X.K W (rO X.K σ) fb σ) (fun σ => rd Γ X.K W (rO X.K σ) fc σ)) (fun Q h => ch_read hb1 h1 h2 σ H Q h) S h
  exact this
end
/-! ### what a slot's own object does -/
section
variable {K : PySem.W.Frag} {T : List (Addr × Str)} {F H : Hp} {st : List Sl} {σ : L2.St}
/-- the object of a slot changes -/
theorem Sim.chg {i : Nat} {d d' : D} {a : Addr} {o o' : HO} (S : Sim K T F st σ H) (e : st[i]? = some (.own d)) (e1 : σ[i]? = some (some (.ref a))) (e2 : F a = none) (e3 : H a = some o) (r : RpC K F d o) (r' : RpC K F d' o') :
    Sim K T F (st.set i (.own d')) σ (upd H a o') ∧ GrowE F st σ H F (st.set i (.own d')) (upd H a o') := by
  have hlt := (List.getElem?_eq_some_iff.mp e).1
  have own' : ∀ {j : Nat} {c}, (st.set i (.own d'))[j]? = some (.own c) → (j = i ∧ c = d') ∨ (j ≠ i ∧ st[j]? = some (.own c)) := fun {j c} q => by
    rcases get_set q with ⟨h1, h2⟩ | h
    · cases h2; exact .inl ⟨h1, rfl⟩
    · exact .inr h
  have ne : ∀ {j : Nat} {c b}, j ≠ i → st[j]? = some (.own c) → σ[j]? = some (some (.ref b)) → b ≠ a := fun {j c b} n q1 q2 z => by
    subst z
    exact n (S.inj j i c d b q1 e q2 e1)
  have oA : ∀ b, OwnA (st.set i (.own d')) σ b → OwnA st σ b := fun b ⟨j, c, q1, q2⟩ => by
    rcases own' q1 with ⟨rfl, rfl⟩ | ⟨n, q1⟩
    · exact ⟨j, d, e, q2⟩
    · exact ⟨j, c, q1, q2⟩
  have isd : isDat o = true := by
    cases r with
    | lst _ => rfl
    | dct q => cases q with
      | dk _ => rfl
  refine ⟨⟨by rw [List.length_set]; exact S.len, fun b u q => by rw [upd_ne (ne_of_none q e2)]; exact S.sub b u q, fun j c q => ?_, fun j c q => ?_, fun j c q => ?_, fun j k c c' b h1 h2 h3 h4 => ?_, ?_⟩,
    ⟨⟨fun _ _ h => h, fun b u q no _ => ?_, fun _ _ h => .inl h, fun b z => .inl (oA b z), fun b q => ?_⟩, oA⟩⟩
  · rcases get_set q with ⟨_, z⟩ | ⟨n, q⟩
    · cases z
    · exact S.dat j c q
  · rcases own' q with ⟨rfl, rfl⟩ | ⟨n, q⟩
    · exact ⟨a, o', e1, e2, upd_same, r'⟩
    · obtain ⟨b, u, h1, h2, h3, h4⟩ := S.own j c q
      exact ⟨b, u, h1, h2, by rw [upd_ne (ne n q h1)]; exact h3, h4⟩
  · rcases get_set q with ⟨_, z⟩ | ⟨n, q⟩
    · cases z
    · exact S.scr j c q
  · rcases own' h1 with ⟨e4, rfl⟩ | ⟨n1, h1⟩
    · rcases own' h2 with ⟨e5, _⟩ | ⟨n2, h2⟩
      · rw [e4, e5]
      · rw [e4, e1] at h3
        cases h3
        exact absurd rfl (ne n2 h2 h4)
    · rcases own' h2 with ⟨e5, _⟩ | ⟨n2, h2⟩
      · rw [e5, e1] at h4
        cases h4
        exact absurd rfl (ne n1 h1 h3)
      · exact S.inj j k c c' b h1 h2 h3 h4
  · exact tabs_but S.tab fun b u q nd => by
      rw [upd_ne fun z => ?_]
      · exact q
      · subst z
        rw [e3] at q
        cases q
        rw [isd] at nd
        cases nd
  · rw [upd_ne fun z => no ⟨i, d, e, by rw [z]; exact e1⟩]
    exact q
  · by_cases z : b = a
    · subst z
      exact (q.no upd_same r'.nt).elim
    · unfold Fr at q ⊢
      rw [upd_ne z] at q
      exact q
end
section
variable {Γ : Gm} {X : Cx} {W : WX} {P : List Nat} {pos p1 p2 p3 p4 : Pos} {x : Str} {i : Nat} {e : Expr} {fe : M D}
/-- slot i's list gets one more -/
def isOwnL : Option Sl → Bool
  | some (.own (.list _)) => true
  | _ => false
theorem isOwnL_of {o : Option Sl} (h : isOwnL o = true) : ∃ xs, o = some (.own (.list xs)) := by
  unfold isOwnL at h
  split at h
  · exact ⟨_, rfl⟩
  · cases h
def appM (i : Nat) (f : M D) : M D := fun st0 => if isOwnL st0[i]? = true then (f.bind fun d => fun st => match st[i]? with
  | some (.own (.list xs)) => if xs.length < cap then .ok .none (st.set i (.own (.list (xs ++ [d])))) else .no
  | _ => .no) st0 else .no
theorem ev_app (he : EV Γ X W e fe) (hN : X.N[i]? = some x := by rfl) (hv : Vis X.env.scope x := by first | exact Or.inl rfl | exact Or.inr (Or.inl rfl) | exact Or.inr (Or.inr rfl)) (hd : (x == ("__debug__" : Str)) = false := by decide)
    (hcd : (x == ("__classdict__" : Str)) = false := by decide) (hs : starEach [e] X.env = (false, eval e X.env) :: starEach [] X.env := by rfl)
    (hpe : ∀ {to : TE} {t : TA}, PE X (.Name x p1) to → PA X [e] t → PE X (.Call (.Attribute (.Name x p1) "append" p2) [e] [] pos) (tBM X.K "list" rAppend to t) := by
      exact fun ho ha => pe_bm PySem.F.plainAttrs_list PySem.F.slot_list_append PySem.F.type_list_append mt_append ho ha) :
    EV Γ X W (.Call (.Attribute (.Name x p1) "append" p2) [e] [] pos) (appM i fe) := by
  refine ⟨PE.imp (hpe (pe_var (i := i) hN hv hd hcd) (pa_cons he.pe pa_nil hs)) fun σ H Q ⟨st, F, S, h⟩ => ?_⟩
  unfold appM at h
  split at h
  · rename_i ho
    obtain ⟨xs0, ho⟩ := isOwnL_of ho
    obtain ⟨a, o, e1, e2, e3, rc⟩ := S.own i _ ho
    cases rc with
    | lst r0 =>
      refine ⟨.ref a, e1, Or.inl ⟨rfl, _, Or.inl (Or.inl e3)⟩, ?_⟩
      refine fin_bind rP_mono S h fun d st1 v H1 F1 S1 G1 rv h1 => ?_
      show rAppend (.ref a) [v] H1 Q
      split at h1
      · rename_i xs ex
        obtain ⟨b, o1, f1, f2, f3, c1⟩ := S1.own i _ ex
        rw [e1] at f1
        cases f1
        split at h1
        · rename_i hz
          cases c1 with
          | lst q1 =>
            obtain ⟨S2, G2⟩ := S1.chg ex e1 f2 f3 (.lst q1) (RpC.lst (q1.append (.one rv)))
            exact ⟨a, _, v, rfl, rfl, f3, by rw [← q1.length]; exact lt_cap hz, h1 _ _ F1 S2 G2 .non⟩
        · exact h1.elim
      · exact h1.elim
  · exact h.elim
/-- slot i's list gives its last item -/
def popM (i : Nat) : M D := fun st => match st[i]? with
  | some (.own (.list xs)) => match xs[xs.length - 1]? with
    | some d => .ok d (st.set i (.own (.list xs.dropLast)))
    | none => .no
  | _ => .no
theorem RpA.dropLast {K : PySem.W.Frag} {F : Hp} {ds : List D} {vs : List V} (r : RpA K F ds vs) : RpA K F ds.dropLast vs.dropLast := by
  rw [List.dropLast_eq_take, List.dropLast_eq_take, r.length]
  exact r.take _
theorem ev_pop (hN : X.N[i]? = some x := by rfl) (hv : Vis X.env.scope x := by first | exact Or.inl rfl | exact Or.inr (Or.inl rfl) | exact Or.inr (Or.inr rfl)) (hd : (x == ("__debug__" : Str)) = false := by decide)
    (hcd : (x == ("__classdict__" : Str)) = false := by decide)
    (hpe : ∀ {to : TE}, PE X (.Name x p1) to → PE X (.Call (.Attribute (.Name x p1) "pop" p2) [] [] pos) (tBM0 X.K "list" rPop to) := by
      exact fun ho => pe_bm0 PySem.F.plainAttrs_list PySem.F.slot_list_pop PySem.F.type_list_pop mt_pop ho) :
    EV Γ X W (.Call (.Attribute (.Name x p1) "pop" p2) [] [] pos) (popM i) := by
  refine ⟨PE.imp (hpe (pe_var (i := i) hN hv hd hcd)) fun σ H Q ⟨st, F, S, h⟩ => ?_⟩
  unfold popM at h
  split at h
  · rename_i xs ho
    obtain ⟨a, o, e1, e2, e3, rc⟩ := S.own i _ ho
    cases rc with
    | lst r0 =>
      rename_i us
      refine ⟨.ref a, e1, Or.inl ⟨rfl, _, Or.inl (Or.inl e3)⟩, ?_⟩
      show rPop (.ref a) [] H Q
      split at h
      · rename_i d hd2
        obtain ⟨v, hv2, rv⟩ := r0.get hd2
        obtain ⟨S2, G2⟩ := S.chg ho e1 e2 e3 (.lst r0) (RpC.lst r0.dropLast)
        exact ⟨a, us, v, rfl, rfl, e3, by rw [← r0.length]; exact hv2, h _ _ F S2 G2 rv⟩
      · exact h.elim
  · exact h.elim
/-- slot i's list, an item stored -/
def putIx (i : Nat) (f g : M D) : MS := fun st0 => if isOwnL st0[i]? = true then (bindS f fun d => bindS g fun j => fun st => match st[i]?, j with
  | some (.own (.list xs)), .int k => match ixN xs.length k with
    | some n => .nx (st.set i (.own (.list (xs.set n d))))
    | none => .no
  | _, _ => .no) st0 else .no
theorem es_putIx {idx : Expr} {fi : M D} (he : EV Γ X W e fe) (hi : EV Γ X W idx fi) (hN : X.N[i]? = some x := by rfl) (hv : Vis X.env.scope x := by first | exact Or.inl rfl | exact Or.inr (Or.inl rfl) | exact Or.inr (Or.inr rfl)) (hd : (x == ("__debug__" : Str)) = false := by decide)
    (hcd : (x == ("__classdict__" : Str)) = false := by decide)
    (hps : ∀ {te to ti : TE}, PE X e te → PE X (.Name x p1) to → PE X idx ti → PS X (.Assign [.Subscript (.Name x p1) idx p2] e pos) (tAsg te (gSub to ti rSetL)) := by exact fun h1 h2 h3 => ps_asg h1 (pg_sub h2 h3 set_list)) :
    ES Γ X W P (.Assign [.Subscript (.Name x p1) idx p2] e pos) (putIx i fe fi) := by
  refine ⟨PS.imp (hps he.pe (pe_var (i := i) hN hv hd hcd) hi.pe) fun D σ H ⟨st, F, S, h⟩ => ?_⟩
  unfold putIx at h
  split at h
  · rename_i ho
    obtain ⟨xs0, ho⟩ := isOwnL_of ho
    obtain ⟨a, o, e1, _⟩ := S.own i _ ho
    refine finS_bind S h fun d st1 v H1 F1 S1 G1 rv h1 => ⟨.ref a, e1, ?_⟩
    refine finS_bind S1 (finS_mono G1.g Keep.refl h1) fun j st2 jv H2 F2 S2 G2 rj h2 => ?_
    show rSetL (.ref a) jv v H2 fun H3 => D.nx σ H3
    split at h2
    · rename_i xs k ex
      split at h2
      · rename_i n hn
        obtain ⟨b, o1, f1, f2, f3, c1⟩ := S2.own i _ ex
        rw [e1] at f1
        cases f1
        cases c1 with
        | lst q1 =>
          cases (show Rp X.K F2 (.int k) jv from rj)
          obtain ⟨S3, G3⟩ := S2.chg ex e1 f2 f3 (.lst q1) (RpC.lst (q1.set n (Rp.mono G2.g.gF rv)))
          exact ⟨a, _, k, n, rfl, rfl, f3, by rw [← q1.length]; exact hn, h2 _ _ F2 S3 (G2.g.trans G3.g) .refl⟩
      · exact h2.elim
    · exact h2.elim
  · exact h.elim
/-! ### tuples unpacked -/
/-- targets = a tuple of values (any number of them) -/
theorem es_tupN {es ts : List Expr} {k k2 : Nat} {is : List Nat} {n : Nat} {u : TGs} {pt pt2 : Pos} {fs : M (List (Bool × D))} (hc : X.calm = true) (hP : ∀ j ∈ is, j ∉ P) (ha : EM Γ X W es fs) (hg : EGs X ts is u) (hl : is.length = n := by rfl)
    (hn : (assignEach ts X.env).length = n := by rfl) (hst : (assignEach ts X.env).findIdx? (·.1) = none := by rfl) (hnz : n ≤ 1000 := by decide)
    (hs : swapsWithSole [.Tuple ts k pt] (.Tuple es k2 pt2) pos.line X.env = pure false := by rfl) (hw : swappedStores [.Tuple ts k pt] (.Tuple es k2 pt2) X.env = pure none := by rfl)
    (h1 : (assignEach [.Tuple ts k pt] X.env).map (·.2) = [assign (.Tuple ts k pt) X.env] := by rfl) :
    ES Γ X W P (.Assign [.Tuple ts k pt] (.Tuple es k2 pt2) pos) (putS is fs) := by
  refine ⟨PS.imp (ps_asg (pe_tup ha.pa) (pg_tup hc hg.pgs hn hst) hs hw h1) fun D σ H ⟨st, F, S, h⟩ => finS_bind S h fun ds st1 vs H1 F1 S1 G r q => ?_⟩
  obtain ⟨as, r0⟩ := r
  have lds : ds.length = is.length := by
    by_cases z : ds.length = is.length
    · exact z
    · rw [if_neg z] at q; exact q.elim
  have lvs : vs.length = n := by rw [← r0.length, lds, hl]
  refine ⟨by rw [lvs]; exact line1000 hnz, fun p hp => ⟨p, vs, rfl, .inl (.inl upd_same), lvs, hg.sp (by rw [lvs, hl]) ?_⟩⟩
  have r1 := r0.later (T := Γ.T) (not_own S G) (grow_new (F := F1) (st := st1) (σ := σ) (o := .tup vs) hp)
  exact (put_end S hP (S1.new hp) (G.trans (grow_new hp)) ⟨as, r1⟩ q).2
/-- a, b = e, e a tuple -/
def unpS (t : Tg) (f : M D) : MS := bindS f fun d st => match asg t d st with
  | some st1 => .nx st1
  | none => .no
theorem es_unp {tg : Expr} {t : Tg} {g : TG} (hP : ∀ j ∈ t.ix, j ∉ P) (he : EV Γ X W e fe) (hg : EG X tg t g) (hs : swapsWithSole [tg] e pos.line X.env = pure false := by rfl) (hw : swappedStores [tg] e X.env = pure none := by rfl)
    (h1 : (assignEach [tg] X.env).map (·.2) = [assign tg X.env] := by rfl) : ES Γ X W P (.Assign [tg] e pos) (unpS t fe) := by
  refine ⟨PS.imp (ps_asg he.pe hg.pg hs hw h1) fun D σ H ⟨st, F, S, h⟩ => finS_bind S h fun d st1 v H1 F1 S1 G r q => ?_⟩
  cases ea : asg t d st1 with
  | none => rw [ea] at q; exact q.elim
  | some st2 =>
    rw [ea] at q
    exact hg.sp S1 r ea fun σ2 S2 o2 k2 l2 => q σ2 H1 F1 S2 (G.g.trans ⟨fun _ _ h => h, fun _ _ h _ _ => h, fun _ _ h => .inl h, fun a h => .inl (o2 a h), fun _ h => h⟩) ⟨fun j hj => k2 j fun z => hP j z hj, l2⟩
end
end Sk
set_option maxHeartbeats 1000000
namespace Sk
open PySem PySem.Spec PyProof.Rows L2
def keyOf : D → Option Key
  | .int i => some (.inl i)
  | .str x => some (.inr x)
  | _ => none
theorem keyOf_keyD (k : Key) : keyOf (keyD k) = some k := by cases k <;> rfl
theorem keyD_of {d : D} {k : Key} (h : keyOf d = some k) : d = keyD k := by
  unfold keyOf at h
  split at h <;> cases h <;> rfl
/-- the value at a key -/
def lookD : List (D × D) → Key → Option D
  | [], _ => none
  | p :: r, k => if keyOf p.1 = some k then some p.2 else lookD r k
def hasD : List (D × D) → Key → Bool
  | [], _ => false
  | p :: r, k => if keyOf p.1 = some k then true else hasD r k
/-- the value at a key that is there is exchanged -/
def swapD : List (D × D) → Key → D → List (D × D)
  | [], _, _ => []
  | p :: r, k, v => if keyOf p.1 = some k then (p.1, v) :: swapD r k v else p :: swapD r k v
def putD (kvs : List (D × D)) (k : Key) (v : D) : List (D × D) := if hasD kvs k = true then swapD kvs k v else kvs ++ [(keyD k, v)]
def mergeD (kvs : List (D × D)) : List (Key × D) → List (D × D)
  | [] => kvs
  | p :: r => mergeD (putD kvs p.1 p.2) r
section
variable {K : PySem.W.Frag} {F : Hp}
theorem RpK.look {k : Key} : ∀ {kds : List (D × D)} {kvs : List (Key × V)}, RpK K F kds kvs → (∃ d v, lookD kds k = some d ∧ valV kvs k = some v ∧ Rp K F d v) ∨ (lookD kds k = none ∧ valV kvs k = none)
  | _, _, .nil => .inr ⟨rfl, rfl⟩
  | _, _, .cons (k := k') (d := d) (v := v) r t => by
    by_cases e : k' = k
    · subst e
      refine .inl ⟨d, v, ?_, valV_pos rfl, r⟩
      simp [lookD, keyOf_keyD]
    · rcases RpK.look (k := k) t with ⟨d', v', h1, h2, h3⟩ | ⟨h1, h2⟩
      · refine .inl ⟨d', v', by simp [lookD, keyOf_keyD, e, h1], ?_, h3⟩
        unfold valV at h2 ⊢
        rw [List.find?_cons_of_neg (by simp [e])]
        exact h2
      · refine .inr ⟨by simp [lookD, keyOf_keyD, e, h1], ?_⟩
        unfold valV at h2 ⊢
        rw [List.find?_cons_of_neg (by simp [e])]
        exact h2
theorem RpK.has {k : Key} : ∀ {kds : List (D × D)} {kvs : List (Key × V)}, RpK K F kds kvs → hasD kds k = (kvs.any fun kv => decide (kv.1 = k))
  | _, _, .nil => rfl
  | _, _, .cons (k := k') r t => by
    by_cases e : k' = k
    · simp [hasD, keyOf_keyD, e]
    · simp [hasD, keyOf_keyD, e, RpK.has (k := k) t]
theorem RpK.swap {k : Key} {d : D} {v : V} (r : Rp K F d v) : ∀ {kds : List (D × D)} {kvs : List (Key × V)}, RpK K F kds kvs → RpK K F (swapD kds k d) (kvs.map fun kv => if kv.1 = k then (kv.1, v) else kv)
  | _, _, .nil => .nil
  | _, _, .cons (k := k') q t => by
    by_cases e : k' = k
    · simp only [swapD, keyOf_keyD, e, if_true, List.map_cons]
      exact .cons r (RpK.swap r t)
    · simp only [swapD, keyOf_keyD, Option.some.injEq, e, if_false, List.map_cons]
      exact .cons q (RpK.swap r t)
theorem RpK.append {a c : List (D × D)} {b d : List (Key × V)} (r : RpK K F a b) (q : RpK K F c d) : RpK K F (a ++ c) (b ++ d) := by
  induction a generalizing b with
  | nil => cases r; exact q
  | cons x a ih => cases r with | cons h t => exact .cons h (ih t)
theorem RpK.put {k : Key} {d : D} {v : V} {kds : List (D × D)} {kvs : List (Key × V)} (r : Rp K F d v) (q : RpK K F kds kvs) : RpK K F (putD kds k d) (putK kvs k v) := by
  unfold putD putK
  rw [q.has]
  split
  · exact q.swap r
  · exact q.append (.cons r .nil)
theorem RpK.merge : ∀ {more : List (Key × D)} {mv : List (Key × V)} {kds : List (D × D)} {kvs : List (Key × V)}, Paired (fun (p : Key × D) (q : Key × V) => p.1 = q.1 ∧ Rp K F p.2 q.2) more mv → RpK K F kds kvs → RpK K F (mergeD kds more) (mergeK kvs mv)
  | _, _, _, _, .nil, q => q
  | _, _, _, _, .cons (a := a) (b := b) h t, q => by
    show RpK K F (mergeD (putD _ a.1 a.2) _) (mergeK (putK _ b.1 b.2) _)
    rw [h.1]
    exact RpK.merge t (q.put h.2)
theorem RpK.length : ∀ {kds : List (D × D)} {kvs : List (Key × V)}, RpK K F kds kvs → kds.length = kvs.length
  | _, _, .nil => rfl
  | _, _, .cons _ t => by simp [RpK.length t]
theorem kV_keyD {k : Key} : Rp K F (keyD k) (kV k) := by
  cases k with
  | inl i => exact .int i
  | inr x => exact .str x
theorem key_val {H : Hp} {d : D} {k : Key} {y : V} (h : keyOf d = some k) (r : RdR K F H d y) : y = kV k := by
  rw [keyD_of h] at r
  cases k <;> cases r <;> rfl
end
/-! ### d[k], k in d, d.get(k, x) -/
def dkGet : D → D → Option D
  | .dict kvs, d => match keyOf d with
    | some k => lookD kvs k
    | none => none
  | _, _ => none
def dkIn : D → D → Option D
  | d, .dict kvs => match keyOf d with
    | some k => some (.bool (lookD kvs k).isSome)
    | none => none
  | _, _ => none
def dkNotIn : D → D → Option D
  | d, .dict kvs => match keyOf d with
    | some k => some (.bool (!(lookD kvs k).isSome))
    | none => none
  | _, _ => none
section
variable {Γ : Gm} {X : Cx} {W : WX} {P : List Nat} {pos p1 p2 p3 apos cpos : Pos} {x : Str} {i : Nat} {a b c e : Expr} {fa fb fc : M Op} {fe : M D}
theorem dget_of {F H : Hp} {kvs : List (D × D)} {d : D} {k : Key} {x y : V} (hk : keyOf d = some k) (rx : RdR X.K F H (.dict kvs) x) (ry : RdR X.K F H d y) : ∃ p, x = .ref p ∧ ((∃ z v, lookD kvs k = some z ∧ Rp X.K F z v ∧ DGet H p y (some v)) ∨ (lookD kvs k = none ∧ DGet H p y none)) := by
  have ey := key_val hk ry
  subst ey
  cases rx with
  | dct sx qx =>
    rename_i p o
    refine ⟨p, rfl, ?_⟩
    cases qx with
    | dk q =>
      rcases q.look (k := k) with ⟨z, v, h1, h2, h3⟩ | ⟨h1, h2⟩
      · exact .inl ⟨z, v, h1, h3, by rw [← h2]; exact DGet.k sx⟩
      · exact .inr ⟨h1, by rw [← h2]; exact DGet.k sx⟩
theorem ev_dget (hu : X.A.units + 1 < cLine) (ha : EO Γ X W a fa) (hb : EO Γ X W b fb)
    (hpe : X.A.units + 1 < cLine → ∀ {td ty : TE}, PE X a td → PE X b ty → PE X (.Subscript a b pos) (tDGet td ty) := by exact fun u _ _ h1 h2 => pe_dget u h1 h2 (fun _ _ => rfl)) : EV Γ X W (.Subscript a b pos) (bin2 dkGet fa fb) := by
  refine ⟨PE.imp (hpe hu ha.pe hb.pe) fun σ H Q ⟨st, F, S, h⟩ => fin_bind rP_mono S h fun u st1 xv H1 F1 S1 G1 rx h1 => fin_bind rP_mono S1 h1 fun w st2 yv H2 F2 S2 G2 ry h2 => ?_⟩
  unfold ap2 at h2
  split at h2
  · rename_i d e' e1 e2
    cases d with
    | dict kvs =>
      cases hk : keyOf e' with
      | none => simp only [dkGet, hk] at h2; exact h2.elim
      | some k =>
        simp only [dkGet, hk] at h2
        obtain ⟨p, rfl, q⟩ := dget_of hk (S2.look (RpO.mono G2.g.gF rx) e1) (S2.look ry e2)
        rcases q with ⟨z, v, h3, h4, h5⟩ | ⟨h3, _⟩
        · rw [h3] at h2
          exact ⟨p, v, rfl, h5, fin_ret S2 h2 h4⟩
        · rw [h3] at h2; exact h2.elim
    | _ => exact h2.elim
  · exact h2.elim
theorem din_read {op : D → D → Option D} {neg : Bool} (hop : ∀ d kvs k, keyOf d = some k → op d (.dict kvs) = some (.bool (neg != (lookD kvs k).isSome))) (hno : ∀ d e, (∀ kvs, e ≠ .dict kvs) → op d e = none) (hnk : ∀ d kvs, keyOf d = none → op d (.dict kvs) = none) {Q : VK} {F H : Hp} {st : List Sl} {σ : L2.St} {u w : Op} {yv xv : V}
    (S : Sim X.K Γ.T F st σ H) (h : fin Γ X.K W (rP X.K) F st σ H (ap2 op u w st) Q) (ry : RpO X.K F σ u yv) (rx : RpO X.K F σ w xv) : ∃ a o, xv = .ref a ∧ DGet H a yv o ∧ Q (.bl (neg != o.isSome)) H := by
  unfold ap2 at h
  split at h
  · rename_i d e' e1 e2
    cases e' with
    | dict kvs =>
      cases hk : keyOf d with
      | none => rw [hnk _ _ hk] at h; exact h.elim
      | some k =>
        rw [hop _ _ _ hk] at h
        obtain ⟨p, rfl, q⟩ := dget_of hk (S.look rx e2) (S.look ry e1)
        rcases q with ⟨z, v, h3, h4, h5⟩ | ⟨h3, h5⟩
        · rw [h3] at h
          exact ⟨p, some v, rfl, h5, fin_ret S h (.bl _)⟩
        · rw [h3] at h
          exact ⟨p, none, rfl, h5, fin_ret S h (.bl _)⟩
    | _ => rw [hno _ _ (by intro kvs z; cases z)] at h; exact h.elim
  · exact h.elim
theorem din_in : ∀ σ H Q, rd Γ X.K W (rP X.K) (bin2 dkIn fa fb) σ H Q → tDIn (fun σ => rd Γ X.K W (rO X.K σ) fa σ) (fun σ => rd Γ X.K W (rO X.K σ) fb σ) σ H Q := fun σ H Q ⟨st, F, S, h⟩ =>
  fin_bind rP_mono S h fun u st1 yv H1 F1 S1 G1 ry h1 => fin_bind rP_mono S1 h1 fun w st2 xv H2 F2 S2 G2 rx h2 => by
    have := din_read (neg := false) (op := dkIn) (fun d kvs k hk => by simp [dkIn, hk]) (fun d e hn => by cases e <;> first | rfl | exact absurd rfl (hn _)) (fun d kvs hk => by simp [dkIn, hk]) S2 h2 (RpO.mono G2.g.gF ry) rx
    obtain ⟨a, o, h3, h4, h5⟩ := this
    exact ⟨a, o, h3, h4, by simpa using h5⟩
theorem din_notin : ∀ σ H Q, rd Γ X.K W (rP X.K) (bin2 dkNotIn fa fb) σ H Q → tDNotIn (fun σ => rd Γ X.K W (rO X.K σ) fa σ) (fun σ => rd Γ X.K W (rO X.K σ) fb σ) σ H Q := fun σ H Q ⟨st, F, S, h⟩ =>
  fin_bind rP_mono S h fun u st1 yv H1 F1 S1 G1 ry h1 => fin_bind rP_mono S1 h1 fun w st2 xv H2 F2 S2 G2 rx h2 => by
    have := din_read (neg := true) (op := dkNotIn) (fun d kvs k hk => by simp [dkNotIn, hk]) (fun d e hn => by cases e <;> first | rfl | exact absurd rfl (hn _)) (fun d kvs hk => by simp [dkNotIn, hk]) S2 h2 (RpO.mono G2.g.gF ry) rx
    obtain ⟨a, o, h3, h4, h5⟩ := this
    exact ⟨a, o, h3, h4, by simpa using h5⟩
theorem ev_din (hu : X.A.units + 1 < cLine) (ha : EO Γ X W a fa) (hb : EO Γ X W b fb) (hm : behindInMarks .In b = false := by rfl) : EV Γ X W (.Compare a [.In] [b] pos) (bin2 dkIn fa fb) := ⟨PE.imp (pe_cmp (pc_din hu ha.pe hb.pe) hm) din_in⟩
theorem et_din (hu : X.A.units + 1 < cLine) (ha : EO Γ X W a fa) (hb : EO Γ X W b fb) (hm : behindInMarks .In b = false := by rfl) : ET Γ X W (.Compare a [.In] [b] pos) ((bin2 dkIn fa fb).bind toB) :=
  ⟨PT.imp (pt_cmp (pc_din hu ha.pe hb.pe) hm) fun σ H Q ⟨st, F, S, h⟩ => toB_ok (t := tDIn (fun σ => rd Γ X.K W (rO X.K σ) fa σ) (fun σ => rd Γ X.K W (rO X.K σ) fb σ)) (fun Q h => din_in σ H Q h) S h⟩
theorem ev_dnotin (hu : X.A.units + 1 < cLine) (ha : EO Γ X W a fa) (hb : EO Γ X W b fb) (hm : behindInMarks .NotIn b = false := by rfl) : EV Γ X W (.Compare a [.NotIn] [b] pos) (bin2 dkNotIn fa fb) := ⟨PE.imp (pe_cmp (pc_dnotin hu ha.pe hb.pe) hm) din_notin⟩
theorem et_dnotin (hu : X.A.units + 1 < cLine) (ha : EO Γ X W a fa) (hb : EO Γ X W b fb) (hm : behindInMarks .NotIn b = false := by rfl) : ET Γ X W (.Compare a [.NotIn] [b] pos) ((bin2 dkNotIn fa fb).bind toB) :=
  ⟨PT.imp (pt_cmp (pc_dnotin hu ha.pe hb.pe) hm) fun σ H Q ⟨st, F, S, h⟩ => toB_ok (t := tDNotIn (fun σ => rd Γ X.K W (rO X.K σ) fa σ) (fun σ => rd Γ X.K W (rO X.K σ) fb σ)) (fun Q h => din_notin σ H Q h) S h⟩
/-- {} -/
theorem en_dnil : EN Γ X W (.Dict [] [] pos) (M.ret (.dict [])) := ⟨PE.imp pe_dnewK fun σ H Q ⟨st, F, S, h⟩ p hp => h _ _ F (S.new hp) (grow_new hp) ⟨p, _, rfl, .inl hp, S.fnone hp, upd_same, .dct (.dk .nil)⟩⟩
/-- slot i's dict gets a value -/
def isOwnD : Option Sl → Bool
  | some (.own (.dict _)) => true
  | _ => false
theorem isOwnD_of {o : Option Sl} (h : isOwnD o = true) : ∃ xs, o = some (.own (.dict xs)) := by
  unfold isOwnD at h
  split at h
  · exact ⟨_, rfl⟩
  · cases h
def dputS (i : Nat) (f g : M D) : MS := bindS f fun d => fun st0 => if isOwnD st0[i]? = true then (bindS g fun y => fun st => match st[i]?, keyOf y with
  | some (.own (.dict kvs)), some k => if kvs.length < cap then .nx (st.set i (.own (.dict (putD kvs k d)))) else .no
  | _, _ => .no) st0 else .no
theorem es_dput {idx : Expr} {fi : M D} (hu : X.A.units + 1 < cLine) (he : EV Γ X W e fe) (hi : EV Γ X W idx fi) (hN : X.N[i]? = some x := by rfl) (hv : Vis X.env.scope x := by first | exact Or.inl rfl | exact Or.inr (Or.inl rfl) | exact Or.inr (Or.inr rfl)) (hd : (x == ("__debug__" : Str)) = false := by decide)
    (hcd : (x == ("__classdict__" : Str)) = false := by decide)
    (hs : swapsWith e (some (.Subscript (.Name x p1) idx p2)) pos.line X.env = pure false := by rfl) :
    ES Γ X W P (.Assign [.Subscript (.Name x p1) idx p2] e pos) (dputS i fe fi) := by
  refine ⟨PS.imp (ps_dput hu (pe_var (i := i) hN hv hd hcd) hi.pe he.pe hs) fun D σ H ⟨st, F, S, h⟩ => finS_bind S h fun d st1 v H1 F1 S1 G1 rv h1 => ?_⟩
  split at h1
  · rename_i ho
    obtain ⟨xs0, ho⟩ := isOwnD_of ho
    obtain ⟨a, o, e1, _⟩ := S1.own i _ ho
    refine ⟨.ref a, e1, ?_⟩
    refine finS_bind S1 (finS_mono G1.g Keep.refl h1) fun j st2 jv H2 F2 S2 G2 rj h2 => ?_
    split at h2
    · rename_i kvs k ex hk
      obtain ⟨b, o1, f1, f2, f3, c1⟩ := S2.own i _ ex
      rw [e1] at f1
      cases f1
      split at h2
      · rename_i hz
        cases c1 with
        | dct q1 =>
          cases q1 with
          | dk q1 =>
            have rj : Rp X.K F2 j jv := rj
            have ey := key_val hk (Rp.rdR S2.sub1 rj)
            subst ey
            obtain ⟨S3, G3⟩ := S2.chg ex e1 f2 f3 (.dct (.dk q1)) (RpC.dct (.dk (q1.put (k := k) (Rp.mono G2.g.gF rv))))
            exact ⟨a, _, rfl, DPut.k f3 (by rw [← q1.length]; exact lt_cap hz), h2 _ _ F2 S3 (G2.g.trans G3.g) .refl⟩
      · exact h2.elim
    · exact h2.elim
  · exact h1.elim
/-- d.get(k, x) -/
def getM (i : Nat) (fb fc : M D) : M D := fun st0 => if isOwnD st0[i]? = true then (fb.bind fun y => fc.bind fun z => fun st => match st[i]?, keyOf y with
  | some (.own (.dict kvs)), some k => .ok ((lookD kvs k).getD z) st
  | _, _ => .no) st0 else .no
end
end Sk
set_option maxHeartbeats 1000000
namespace Sk
open PySem PySem.Spec PyProof.Rows L2
/-! ### defs by name -/
structure Fn (Γ : Gm) (P : Program) (w : World) (K : PySem.W.Frag) (mg : Str → Option Value) (base : Heap) (R : Rel D V) (k : Nat) (x : Str) (ps : List Str) (fn : M D) : Prop where
  ex : ∃ (f : Addr) (fd : FuncData), mg x = some (.ref f) ∧ PySem.W.keepIn K (.ref f) = true ∧ L2.Binds K fd ps [] ∧ FnOk P w K mg base (L2.CX P w) k f fd ps (spR Γ K R ps.length fn) ∧ ∃ oc od osl, K.lookup f = some ⟨oc, od, .func fd, osl⟩
section
variable {Γ : Gm} {X : Cx} {W : WX} {pos p : Pos} {x : Str} {k j : Nat} {ps : List Str} {fn : M D} {e : Expr} {es : List Expr} {fa : M (List Op)}
theorem ev_fn (F : Fn Γ X.prog X.w X.K X.mg X.base (rP X.K) k x ps fn) (hr : Room j X.A) (hk : k ≤ j) (tk : Takes X W) (hl : hasLen ps.length fa) (ha : EA Γ X W (e :: es) fa) (hg : Gl X x := by rfl) (hdb : (x == ("__debug__" : Str)) = false := by decide)
    (he : starEach (e :: es) X.env = (false, eval e X.env) :: starEach es X.env := by rfl) (hpl : (backTo pos (starEach es X.env)).any (·.1) = false := by rfl) : EV Γ X W (.Call (.Name x p) (e :: es) [] pos) (callM fn fa) := by
  obtain ⟨f, fd, h1, h2, h3, h4, _⟩ := F.ex
  exact ev_call h4 (hr.mono hk) h1 h2 h3 tk hl ha hg hdb he hpl
theorem en_fn (F : Fn Γ X.prog X.w X.K X.mg X.base (rN X.K) k x ps fn) (hr : Room j X.A) (hk : k ≤ j) (tk : Takes X W) (hl : hasLen ps.length fa) (ha : EA Γ X W (e :: es) fa) (hg : Gl X x := by rfl) (hdb : (x == ("__debug__" : Str)) = false := by decide)
    (he : starEach (e :: es) X.env = (false, eval e X.env) :: starEach es X.env := by rfl) (hpl : (backTo pos (starEach es X.env)).any (·.1) = false := by rfl) : EN Γ X W (.Call (.Name x p) (e :: es) [] pos) (callM fn fa) := by
  obtain ⟨f, fd, h1, h2, h3, h4, _⟩ := F.ex
  exact en_call h4 (hr.mono hk) h1 h2 h3 tk hl ha hg hdb he hpl
theorem call0_read {R : Rel D V} (hR : RelMono R) : ∀ σ H Q, rd Γ X.K W R (callM fn mNil) σ H Q → spR Γ X.K R 0 fn [] H Q (WE W σ) := fun σ H Q ⟨st, F, S, h⟩ =>
  call_read (ops := []) (vs := []) S .nil h rfl
theorem ev_fn0 (F : Fn Γ X.prog X.w X.K X.mg X.base (rP X.K) k x [] fn) (hr : Room j X.A) (hk : k ≤ j) (tk : Takes X W) (hg : Gl X x := by rfl) (hdb : (x == ("__debug__" : Str)) = false := by decide) :
    EV Γ X W (.Call (.Name x p) [] [] pos) (callM fn mNil) := by
  obtain ⟨f, fd, h1, h2, h3, h4, _⟩ := F.ex
  refine ⟨⟨fun pins s σ H Q I h => ?_⟩⟩
  refine wpAny_Call_Name_kw (ld_glob I hg h1 ?_ hdb)
  exact PySem.W.callWith_K0 I.kIn h2 (run_fnS (us := []) (vs := []) h4 (hr.mono hk) h3 (passAt tk σ) I .nil (call0_read rP_mono σ H Q h))
/-- facts of a def, as the head tells them -/
theorem fn_of {P : Program} {w : World} {K : PySem.W.Frag} {mg : Str → Option Value} {base : Heap} {R : Rel D V} {f : Addr} {fd : FuncData} {qual : Str} {params : Arguments} {body : List Stmt} {scope : Scope} (F : FunD K x qual params body scope [] [] f fd) (hm : mg x = some (.ref f)) (hb : L2.Binds K fd ps [])
    (h : FnOk P w K mg base (L2.CX P w) k f fd ps (spR Γ K R ps.length fn)) : Fn Γ P w K mg base R k x ps fn := by
  obtain ⟨oc, od, _, _, _, _, _, _, _, osl, _, lk, _⟩ := F.ex
  exact ⟨f, fd, hm, F.kp, hb, h, oc, od, osl, lk⟩
end
/-! ### the script -/
def lenS (i : Nat) : M D := fun st => match st[i]? with
  | some (.scr ns) => .ok (.int (ns.length : Nat)) st
  | _ => .no
def ixS (i : Nat) (g : M D) : M D := fun st0 => match st0[i]? with
  | some (.scr ns) => (g.bind fun d st => match d with
    | .int k => match L2.atI ns k with
      | some z => .ok (.int z) st
      | none => .no
    | _ => .no) st0
  | _ => .no
section
variable {Γ : Gm} {X : Cx} {W : WX} {pos p p2 : Pos} {x : Str} {e : Expr} {g : M D}
theorem nam_scr {i : Nat} {st : List Sl} {ns : List Int} (h : st[i]? = some (.scr ns)) : nam i st = .ok (.own i) st := by
  unfold nam
  rw [h]
theorem ev_lenS (i : Nat) (hm : X.mg "len" = none) (hN : X.N[i]? = some x := by rfl) (hv : Vis X.env.scope x := by first | exact Or.inl rfl | exact Or.inr (Or.inl rfl) | exact Or.inr (Or.inr rfl)) (hg : Gl X "len" := by rfl) (hd : (x == ("__debug__" : Str)) = false := by decide)
    (hcd : (x == ("__classdict__" : Str)) = false := by decide) (he : starEach [.Name x p2] X.env = (false, eval (.Name x p2) X.env) :: starEach [] X.env := by rfl) : EV Γ X W (.Call (.Name "len" p) [.Name x p2] [] pos) (lenS i) := by
  refine ⟨PE.imp (pe_callB call_len hg hm boot_len (pa_cons (pe_var (i := i) hN hv hd hcd) pa_nil he) (by decide) (by decide) he (by rfl)) fun σ H Q ⟨st, F, S, h⟩ => ?_⟩
  unfold lenS at h
  split at h
  · rename_i ns e1
    obtain ⟨a, e2, q⟩ := S.scr i ns e1
    refine ⟨.ref a, e2, _, (ns.map V.int).length, rfl, .inl ⟨_, sqL_mono S.sub1 q, rfl⟩, ?_⟩
    rw [List.length_map]
    exact fin_ret S h (.int _)
  · exact h.elim
theorem ev_ixS (i : Nat) (hr : EV Γ X W e g) (hN : X.N[i]? = some x := by rfl) (hv : Vis X.env.scope x := by first | exact Or.inl rfl | exact Or.inr (Or.inl rfl) | exact Or.inr (Or.inr rfl)) (hd : (x == ("__debug__" : Str)) = false := by decide)
    (hcd : (x == ("__classdict__" : Str)) = false := by decide) (hp : PlainIx e := by exact fun _ _ => rfl) : EV Γ X W (.Subscript (.Name x p2) e pos) (ixS i g) := by
  refine ⟨PE.imp (pe_ix ix_seq (pe_var (i := i) hN hv hd hcd) hr.pe hp) fun σ H Q ⟨st, F, S, h⟩ => ?_⟩
  unfold ixS at h
  split at h
  · rename_i ns e1
    obtain ⟨a, e2, q⟩ := S.scr i ns e1
    refine ⟨.ref a, e2, fin_bind rP_mono S h fun d st1 y H1 F1 S1 G1 r1 h1 => ?_⟩
    cases d with
    | int k =>
      simp only at h1
      cases hz : L2.atI ns k with
      | some z =>
        rw [hz] at h1
        cases (show Rp X.K F1 (.int k) y from r1)
        have ez : L2.atI (ns.map V.int) k = some (.int z) := by
          unfold L2.atI at hz ⊢
          rw [List.length_map]
          cases ej : ixN ns.length k with
          | none => rw [ej] at hz; cases hz
          | some j =>
            rw [ej] at hz
            have hz : ns[j]? = some z := hz
            show (ns.map V.int)[j]? = _
            rw [List.getElem?_map, hz]
            rfl
        exact .inl ⟨a, _, k, _, rfl, rfl, sqL_mono S1.sub1 (sqL_mono G1.g.gF q), ez, fin_ret S1 h1 (.int _)⟩
      | none =>
        rw [hz] at h1
        exact h1.elim
    | _ => exact h1.elim
  · exact h.elim
end
end Sk
namespace Sk
open PySem PySem.Spec PyProof.Rows L2
/-! ### dict(pairs) -/
def pairsD : List D → Option (List (Key × D))
  | [] => some []
  | .tuple [a, b] :: r => match keyOf a, pairsD r with
    | some k, some l => some ((k, b) :: l)
    | _, _ => none
  | _ :: _ => none
def dDict : List D → Option D
  | [.tuple ps] => if ps.length ≤ cap then (pairsD ps).map fun l => .dict (mergeD [] l) else none
  | [.list ps] => if ps.length ≤ cap then (pairsD ps).map fun l => .dict (mergeD [] l) else none
  | _ => none
abbrev PrV (K : PySem.W.Frag) (H : Hp) : List Addr → List (Key × V) → Prop := Paired fun p kv => SqT K H p [kV kv.1, kv.2]
/-- dict(x): x a list, or a plain tuple, of pairs -/
def rDict (K : PySem.W.Frag) : List V → Hp → VK → Prop := fun xs H Q => ∃ (a : Addr) (ps : List Addr) (kvs : List (Key × V)), xs = [.ref a] ∧ (SqL K H a (ps.map V.ref) ∨ TupF H a (ps.map V.ref)) ∧ PrV K H ps kvs ∧ ∀ p, H p = none → Q (.ref p) (upd H p (.dK (mergeK [] kvs)))
section
variable {X : Cx} {pins : List (Addr × Obj)} {σ : L2.St} {H : Hp} {s : Shared}
/-- the pairs on the machine -/
theorem pairs_on (I : Inv X pins σ H s) : ∀ {ps : List Addr} {kvs : List (Key × V)}, PrV X.K H ps kvs → ∃ l : List (Key × Value × Value), KV kvs (l.map fun x => (x.1, x.2.2)) ∧ l.length = ps.length ∧
    ∀ (j : Nat) (x : Key × Value × Value), l[j]? = some x → ∃ b, ps[j]? = some b ∧ IsTup s.heap b #[x.2.1, x.2.2] ∧ keyIs x.1 x.2.1 = true
  | _, _, .nil => ⟨[], .nil, rfl, fun j x e => by simp at e⟩
  | _, _, .cons (a := p) (b := kv) h t => by
    obtain ⟨l, r, hl, q⟩ := pairs_on I t
    obtain ⟨its, rv, ht, _⟩ := I.tuple h
    obtain ⟨u, y, ei, ru, ry⟩ := vals2 rv
    subst ei
    refine ⟨(kv.1, u, y) :: l, .cons ⟨rfl, ry⟩ r, congrArg (· + 1) hl, ?_⟩
    rintro (_ | j) x e
    · cases Option.some.inj e
      exact ⟨p, rfl, ht, kV_is (P := X.prog) (w := X.w) ru⟩
    · exact q j x e
theorem call_dictF (calm : X.calm = true) : CallR X (.type "dict") (rDict X.K) := by
  intro pins s σ H xs us Q I r h
  obtain ⟨a, ps, kvs, e, hq, hp, q⟩ := h
  rcases hq with hq | ⟨o, ho, nd⟩
  · exact call_dictP calm pins s σ H xs us Q I r ⟨a, ps, kvs, e, hq, hp, q⟩
  · subst e
    obtain ⟨u, eu, rx⟩ := vals1 r
    subst eu
    cases rx
    obtain ⟨there, small, its, rv, o', there', cls, n, dat⟩ := (show ObjOk X.prog X.w H s.heap a (.frz o (.tup (ps.map V.ref))) from I.hok a _ ho)
    have eo : o' = o := Option.some.inj (there'.symm.trans there)
    subst eo
    have ei := refs_at rv
    subst ei
    obtain ⟨l, rel, len, on⟩ := pairs_on I hp
    rw [List.length_map] at small
    have pairs : PairItems s.heap (ps.map Value.ref).toArray (fun j => ps.getD j 0) (l.map fun x => (x.2.1, x.2.2)) := by
      refine ⟨by simp [len], fun j k v e => ?_⟩
      rw [List.getElem?_map] at e
      cases ej : l[j]? with
      | none => rw [ej] at e; cases e
      | some x =>
        rw [ej] at e
        cases Option.some.inj e
        obtain ⟨b, e1, e2, _⟩ := on j x ej
        have gd : ps.getD j 0 = b := by simp [List.getD_eq_getElem?_getD, e1]
        exact ⟨by simp [e1, gd], .inl (by show s.heap.IsTuple (ps.getD j 0) _; rw [gd]; exact e2)⟩
    have have_ : PairsHave (mixKind X.prog X.w) (l.map fun x => (x.2.1, x.2.2)).length (PairRel (l.map fun x => (x.2.1, x.2.2))) (l.map fun x => (x.1, x.2.2)) := by
      refine ⟨by simp, fun j k v e => ?_⟩
      have e : (l.map fun x => (x.2.1, x.2.2))[j]? = some (k, v) := e
      rw [List.getElem?_map] at e
      cases ej : l[j]? with
      | none => rw [ej] at e; cases e
      | some x =>
        rw [ej] at e
        cases Option.some.inj e
        obtain ⟨_, _, _, e3⟩ := on j x ej
        exact ⟨x.1, by simp [ej], e3⟩
    refine PySem.call_dict_pairs (PairArg.tuple a (ps.map Value.ref).toArray (fun j => ps.getD j 0) (l.map fun x => (x.2.1, x.2.2))) (I.ok.hd calm) ⟨⟨o', n, there, cls, nd, dat⟩, pairs⟩ have_ (by simpa [len] using small) fun h' tk dic keep => ?_
    have keep' : ∀ b o, s.heap.get? b = some o → h'.get? b = some o := fun b o e => keep b o (by simp) e
    have off : (s.heap.objs.size == sysModules) = false := beq_eq_false_iff_ne.mpr (Nat.ne_of_gt I.big)
    have fits : (mergeK [] kvs).length ≤ sizeLine := Nat.le_trans (length_mergeK kvs []) (by rw [List.length_nil, Nat.zero_add, rel.length]; simpa [len] using small)
    have free := I.hok.fresh (Nat.le_refl s.heap.objs.size)
    refine ⟨.ref s.heap.objs.size, _, I.laid (o := .dK (mergeK [] kvs)) (t' := tk) keep' (Nat.le_refl _) ?_, rfl, q _ free⟩
    exact ⟨fits, off, _, KV.merge rel .nil, dic⟩
end
section
variable {K : PySem.W.Frag}
theorem pairs_rel {F H : Hp} (sub : ∀ a o, F a = some o → H a = some o) : ∀ {ps : List D} {l : List (Key × D)} {vs : List V}, pairsD ps = some l → RpA K F ps vs → ∃ (as : List Addr) (kvs : List (Key × V)), vs = as.map V.ref ∧ PrV K H as kvs ∧ Paired (fun (p : Key × D) (q : Key × V) => p.1 = q.1 ∧ Rp K F p.2 q.2) l kvs
  | [], _, _, h, .nil => by
    cases h
    exact ⟨[], [], rfl, .nil, .nil⟩
  | p :: ps, l, _, h, .cons r t => by
    unfold pairsD at h
    split at h
    · rename_i e
      cases e
    · rename_i a b r' e
      cases e
      split at h
      · rename_i k l' h1 h2
        cases h
        obtain ⟨as, kvs, e1, e2, e3⟩ := pairs_rel sub h2 t
        cases r with
        | tup sx qx =>
          rename_i ad us
          cases qx with
          | cons ra qx =>
            cases qx with
            | cons rb qx =>
              cases qx
              have ek := key_val (H := H) h1 (ra.rdR sub)
              subst ek
              rename_i vb
              exact ⟨ad :: as, (k, vb) :: kvs, by rw [e1]; rfl, .cons (sqT_mono sub sx.sq) e2, .cons ⟨rfl, rb⟩ e3⟩
      · cases h
    · cases h
theorem sA_dict : SAN K (rDict K) dDict := by
  intro F H ds z xs Q hF r q k
  have sub : ∀ a o, F a = some o → H a = some o := fun a o e => (hF a o e).1
  unfold dDict at q
  split at q
  · rename_i ps
    split at q
    · obtain ⟨l, h1, h2⟩ := Option.map_eq_some_iff.mp q
      subst h2
      cases r with
      | cons r t =>
        cases t
        cases r with
        | tup sx qx =>
          rename_i a us
          obtain ⟨as, kvs, e1, e2, e3⟩ := pairs_rel (H := H) sub h1 qx
          subst e1
          exact ⟨a, as, kvs, rfl, .inr (sx.mono sub), e2, fun p hp => k _ _ hp (.dct (.dk (RpK.merge e3 .nil)))⟩
    · cases q
  · rename_i ps
    split at q
    · obtain ⟨l, h1, h2⟩ := Option.map_eq_some_iff.mp q
      subst h2
      cases r with
      | cons r t =>
        cases t
        cases r with
        | lst sx qx =>
          rename_i a us
          obtain ⟨as, kvs, e1, e2, e3⟩ := pairs_rel (H := H) sub h1 qx
          subst e1
          exact ⟨a, as, kvs, rfl, .inl (.inl (.inl sx)), e2, fun p hp => k _ _ hp (.dct (.dk (RpK.merge e3 .nil)))⟩
    · cases q
  · cases q
end
end Sk
set_option maxHeartbeats 1000000
/-! word(lambda: e): a def that calls what it got and names the error -/
namespace Sk
open PySem PySem.Spec PyProof.Rows L2 LamX
theorem Takes.sized {X : Cx} {W : WX} (t : Takes X W) : Takes X (fun cls d σ H => σ.length = X.N.length → W cls d σ H) := fun u s' ⟨a, B, sI, pins, σ, H, cls, d, e, I, nb, up, sky, na, os, ag, w⟩ =>
  t u s' ⟨a, B, sI, pins, σ, H, cls, d, e, I, nb, up, sky, na, os, ag, w I.len⟩
/-- the clauses: class, text -/
def pickT (K : PySem.W.Frag) : List (Value × Str) → Value → (Str → Prop) → Prop
  | [], _, _ => False
  | (c, z) :: r, cls, Q => ∃ b, PySem.W.exmOne K cls c = some b ∧ (b = true → Q z) ∧ (b = false → pickT K r cls Q)
def TTw (K : PySem.W.Frag) (val : Bool) (hs : List (Value × Str)) : (XK → Hp → VK → Prop) → Hp → VK → Prop := fun tl H Q =>
  tl (fun cls _ H' => pickT K hs cls fun z => Q (.str z) H') H (fun v H' => Q (if val then v else .str "") H')
/-- the clauses' text -/
inductive WHs (X : Cx) (y : Str) : List ExceptHandler → List (Value × Str) → Prop
  | nil : WHs X y [] []
  | cons {e z : Str} {c : Value} {j : Nat} {p1 p2 p3 p4 p5 : Pos} {hds : List ExceptHandler} {l : List (Value × Str)} (hc : Names X e c) (hs : ∀ env, swapsWith (.Constant (.str z) j p1) (some (.Name y p2)) p3.line env = pure false := by intro _; rfl) (r : WHs X y hds l) :
      WHs X y (.ExceptHandler (some (.Name e p4)) none [.Assign [.Name y p2] (.Constant (.str z) j p1) p3] p5 :: hds) ((c, z) :: l)
abbrev wHd (l : List (Value × Str)) : List (Value × (Addr → Value → Option Addr → TS)) := l.map fun h => (h.1, fun _ _ _ => tAsg (tC (.str h.2)) (gName 1))
theorem WHs.ok {X : Cx} {y : Str} (hN : X.N.Nodup) (hi : X.N[1]? = some y) (hx : Loc X.env.scope y) (hl : X.env.scope.names.lookup y = some .local) {hds : List ExceptHandler} {l : List (Value × Str)} (h : WHs X y hds l) : HdsOk X hds (wHd l) := by
  induction h with
  | nil => exact .nil
  | cons hc hs _ ih => exact .cons hc (fun a oe cls d pn _ _ => pss_one (ps_set (i := 1) hN hi hx pe_str (hs _) (.inr hl))) ih
section
variable {X : Cx}
/-- the body: y = text; try: y = a() or a() except ..; return y -/
theorem word_gives {Ng : List Str} {x a y q : Str} {sg : Scope} {g : Addr} {cdg : Value} {val : Bool} {st : Stmt} {h0 : ExceptHandler} {hds : List ExceptHandler} {l : List (Value × Str)} {j : Nat} {q1 q2 q3 q4 q5 q6 p1 p2 p3 p4 : Pos}
    (nd : Ng.Nodup) (len : Ng.length = 2) (h1 : Ng[1]? = some y) (ly : sg.names.lookup y = some .local) (dy : (y == ("__debug__" : Str)) = false) (cy : (y == ("__classdict__" : Str)) = false)
    (hst : (val = true ∧ st = .Assign [.Name y p4] (.Call (.Name a p1) [] [] p2) p3) ∨ (val = false ∧ st = .Expr (.Call (.Name a p1) [] [] p2) p3))
    (w1 : ∀ env, swapsWith (.Constant (.str "") j q2) (some (.Name y q1)) q3.line env = pure false := by intro _; rfl) (w2 : ∀ env, swapsWith (.Call (.Name a p1) [] [] p2) (some (.Name y p4)) p3.line env = pure false := by intro _; rfl)
    (w3 : ∀ env, swapsWith (.Call (.Name a p1) [] [] p2) none p3.line env = pure false := by intro _; rfl)
    (hh : ∀ (s : Shared) (H : Hp), WHs (cxOf C8.CX0 X.prog X.w X.K X.mg X.base Ng x sg g cdg X.A X.stack s H C8.E0).nox y (h0 :: hds) l) :
    GivesTo X Ng x sg g cdg [.Assign [.Name y q1] (.Constant (.str "") j q2) q3, .Try [st] (h0 :: hds) [] [] q4, .Return (some (.Name y q5)) q6] a q (TTw X.K val l) := by
  intro f c' s H Q tl act hc h
  let Z := (cxOf C8.CX0 X.prog X.w X.K X.mg X.base Ng x sg g cdg X.A X.stack s H C8.E0).nox
  let tb : WX → TS := fun W D σ H => σ.length = 2 ∧ ∃ E1 : XK, (∀ cls d σ' H', E1 cls d H' → σ'.length = 2 → W cls d σ' H') ∧ σ[0]? = some (some (.ref f)) ∧ H c' = some (CodeO c' q) ∧ tl E1 H (fun v H' => D.nx (if val then σ.set 1 (some v) else σ) H')
  have body : ∀ (W : WX) (pn : List (Addr × Obj)) (xe : Value → Shared → Prop), Takes (Z.tr pn xe) W → PSs (Z.tr pn xe) [st] (tb W) := fun W pn xe tk => by
    refine pss_one ⟨fun pins s' σ H' D I ht => ?_⟩
    obtain ⟨l2, E1, up, e1, e2, e3⟩ := ht
    have go := act (fun cls d σ H => σ.length = (Z.tr pn xe).N.length → W cls d σ H) pn xe E1 p1 p2 (Takes.sized tk) (fun cls d σ' H' e z => up cls d σ' H' e (z.trans len))
    rcases hst with ⟨hv, rfl⟩ | ⟨hv, rfl⟩
    · subst hv
      exact (ps_set (X := Z.tr pn xe) (i := 1) nd h1 (.inl ly) go (w2 _) (.inr ly)).run pins s' σ H' D I ⟨e1, e2, e3⟩
    · subst hv
      exact (ps_expr (X := Z.tr pn xe) go (w3 _)).run pins s' σ H' D I ⟨e1, e2, e3⟩
  have try_ := ps_try_many (X := Z) (pos := q4) (tb := tb) (Wout := fun _ _ _ _ => False) rfl rfl LamX.takes0 (fun W pn xe tk _ => body W pn xe tk) (WHs.ok (X := Z) nd h1 (.inl ly) ly (hh s H))
  refine ⟨_, pss_cons (ps_set (X := Z) (i := 1) nd h1 (.inl ly) pe_str (w1 _) (.inr ly)) (pss_cons try_ (pss_one (ps_ret (pe_var (X := Z) (i := 1) h1 (.inl ly) dy cy)))), ?_⟩
  have s0 : L2.start Ng [V.ref f] = [some (.ref f), none] := by
    unfold L2.start
    rw [len]
    rfl
  rw [s0]
  let D' : Ends := { nx := fun σ' H' => ∃ v, σ'[1]? = some (some v) ∧ Q v H', rt := Q }
  refine ⟨rfl, fun cls _ H' => pickT X.K l cls fun z => Q (.str z) H', fun cls d σ' H' => ?_, rfl, hc, ?_⟩
  · intro hp hl
    have all : ∀ l' : List (Value × Str), pickT X.K l' cls (fun z => Q (.str z) H') → wMany X.K (fun _ _ _ _ => False) D' (wHd l') cls d σ' H' := fun l' => by
      induction l' with
      | nil => exact fun z => z
      | cons p l' ih =>
        rintro ⟨b, k1, k2, k3⟩
        refine ⟨b, k1, fun hb _ _ => ?_, fun hb => ih (k3 hb)⟩
        exact ⟨.str p.2, by simp [gName, hl], k2 hb⟩
    exact all l hp
  · have e : (fun v H' => (tRet (tVar 1)) { nx := fun _ H' => Q .non H', rt := Q } (if val then ([some (V.ref f), some (V.str "")].set 1 (some v)) else [some (V.ref f), some (V.str "")]) H') = fun v H' => Q (if val then v else .str "") H' := by
      funext v H'
      cases val
      · exact propext ⟨fun ⟨w, k1, k2⟩ => by cases Option.some.inj (Option.some.inj k1); exact k2, fun k => ⟨_, rfl, k⟩⟩
      · exact propext ⟨fun ⟨w, k1, k2⟩ => by cases Option.some.inj (Option.some.inj k1); exact k2, fun k => ⟨_, rfl, k⟩⟩
    show tl _ H (fun v H' => (tRet (tVar 1)) { nx := fun _ H' => Q .non H', rt := Q } (if val then ([some (V.ref f), some (V.str "")].set 1 (some v)) else [some (V.ref f), some (V.str "")]) H')
    rw [e]
    exact h
end
end Sk
namespace Sk
open PySem PySem.Spec PyProof.Rows L2 LamX
section
variable {K : PySem.W.Frag} {T : List (Addr × Str)} {F H H1 : Hp} {st : List Sl} {σ : L2.St}
theorem Sim.extN (S : Sim K T F st σ H) (e : ExtN H H1) (t : Tabs T H1) : Sim K T F st σ H1 where
  len := S.len
  sub := fun a o h => let ⟨x, n⟩ := S.sub a o h; ⟨e a o x n, n⟩
  dat := S.dat
  own := fun i d h => by
    obtain ⟨a, o, k1, k2, k3, c⟩ := S.own i d h
    exact ⟨a, o, k1, k2, e a o k3 c.nt, c⟩
  scr := S.scr
  inj := S.inj
  tab := t
theorem grow_extN (e : ExtN H H1) : GrowE F st σ H F st H1 :=
  ⟨⟨fun _ _ h => h, fun a o h _ nt => e a o h nt, fun _ _ h => .inl h, fun _ h => .inl h, fun a f => by
    by_cases z : ∃ ps, H a = some (.tbl ps)
    · exact .inr z
    · exact f.keep fun o k => e a o k fun ps q => z ⟨ps, k.trans (congrArg some q)⟩⟩, fun _ h => h⟩
end
/-- the error's text -/
def wordM (val : Bool) (nc : Nat) (hs : List (Nat × Str)) (fb : M D) : M D := fun st => match fb st with
  | .ok d st' => .ok (if val then d else .str "") st'
  | .ex x st' => if x.cls < nc then match hs.find? fun h => h.1 == x.cls with
      | some h => .ok (.str h.2) st'
      | none => .no
    else .no
  | .no => .no
abbrev wCls (Γ : Gm) (hs : List (Nat × Str)) : List (Value × Str) := hs.map fun h => (.ref (Γ.ca h.1), h.2)
/-- what is known of the def that calls what it got -/
structure WordF (Γ : Gm) (K : PySem.W.Frag) (mg : Str → Option Value) (x : Str) (val : Bool) (hs : List (Nat × Str)) : Prop where
  ex : ∃ (g : Addr) (pg : Arguments) (bg : List Stmt) (sg : Scope) (dV kV doc pm cdv ct oc : Value) (an od : Option Addr) (osl : Array (Option Value)) (Ng : List Str) (a : Str),
    mg x = some (.ref g) ∧ PySem.W.keepIn K (.ref g) = true ∧ K.lookup g = some ⟨oc, od, .func (PySem.W.fnOf x x pg bg sg dV kV doc pm an cdv ct), osl⟩ ∧ PySem.W.codeIn K cdv x = true ∧
    L2.Binds K (PySem.W.fnOf x x pg bg sg dV kV doc pm an cdv ct) [a] [] ∧ FnScope Ng [a] sg ∧ Ng[0]? = some a ∧ Vis sg a ∧ (a == ("__debug__" : Str)) = false ∧ (a == ("__classdict__" : Str)) = false ∧
    ∀ (X : Cx) (q : Str), X.K = K → X.mg = mg → GivesTo X Ng x sg g cdv bg a q (TTw K val (wCls Γ hs))
theorem pick_ok {Γ : Gm} {K : PySem.W.Frag} {nc : Nat} (hm : ∀ i j, i < nc → j < nc → PySem.W.exmOne K (.ref (Γ.ca i)) (.ref (Γ.ca j)) = some (decide (i = j))) {i : Nat} (hi : i < nc) {Q : Str → Prop} :
    ∀ (hs : List (Nat × Str)), (hs.all fun h => decide (h.1 < nc)) = true → (match hs.find? fun h => h.1 == i with
      | some h => Q h.2
      | none => False) → pickT K (wCls Γ hs) (.ref (Γ.ca i)) Q
  | [], _, h => h
  | p :: hs, hn, h => by
    simp only [List.all_cons, Bool.and_eq_true, decide_eq_true_eq] at hn
    refine ⟨_, hm i p.1 hi hn.1, fun hy => ?_, fun hno => ?_⟩
    · have e : i = p.1 := of_decide_eq_true hy
      rw [List.find?_cons_of_pos (by simp [e])] at h
      exact h
    · have e : ¬ i = p.1 := of_decide_eq_false hno
      rw [List.find?_cons_of_neg (by simp [Ne.symm e])] at h
      exact pick_ok hm hi hs hn.2 h
section
variable {Γ : Gm} {X : Cx} {W : WX} {p lpos pos : Pos} {x : Str} {c Pt : Addr} {k : Nat} {val : Bool} {nc : Nat} {hs : List (Nat × Str)} {params : Arguments} {body : Expr} {scope : Scope} {fb : M D}
theorem ev_word (F : WordF Γ X.K X.mg x val hs) (hm : ∀ i j, i < nc → j < nc → PySem.W.exmOne X.K (.ref (Γ.ca i)) (.ref (Γ.ca j)) = some (decide (i = j))) (hn : (hs.all fun h => decide (h.1 < nc)) = true)
    (TB : TabB X.base X.mg c Pt) (hcode : X.env.code = .ref c) (hmT : (Pt, X.env.qual ++ "<lambda>") ∈ Γ.T) (hu : ∀ p ∈ Γ.T, p.1 = Pt → p.2 = X.env.qual ++ "<lambda>") (hr : Room (k + 2) X.A)
    (hb : ∀ (A : Around) (outer : List Env) (s : Shared) (H : Hp) (E : XK) (f c' : Addr), Room k (A.deeper (lamEnv X scope s.heap.objs.size f c')) → EV Γ (lamCx X A outer s H E scope f c') (fun cls dx _ H' => E cls dx H') body fb)
    (hg : Gl X x := by rfl) (L : LamS X.env.scope scope := by exact lamS_by (by rfl)) (hdef : defaultsOf params X.env = ([], []) := by rfl)
    (hbind : ∀ (q : Str) (cl : List (Str × Addr)) (pm cv ctv : Value), bindArgs (PySem.W.kla_fn "<lambda>" q params body scope cl pm cv ctv) ⟨[], []⟩ = pure [] := by intro _ _ _ _ _; rfl) (hdb : (x == ("__debug__" : Str)) = false := by decide) :
    EV Γ X W (.Call (.Name x p) [.Lambda params body scope lpos] [] pos) (wordM val nc hs fb) := by
  obtain ⟨g, pg, bg, sg, dV, kV, doc, pm, cdv, ct, oc, an, od, osl, Ng, a, h1, h2, h3, h4, h5, h6, h7, h8, h9, h10, h11⟩ := F.ex
  refine ⟨PE.imp (pe_lamcall (T := Γ.T) (TT := TTw X.K val (wCls Γ hs)) (t := fun E => rd Γ X.K (fun cls dx _ H' => E cls dx H') (rP X.K) fb) hg h1 h2 h3 h4 h5 h6 h7 h8 (h11 X _ rfl rfl) TB hcode hmT hu hr L hdef hbind (fun A outer s H E f c' hr' => (hb A outer s H E f c' hr').pe) hdb h9 h10) ?_⟩
  rintro σ H Q ⟨st, F, S, h⟩
  refine ⟨S.tab, fun H1 eN t1 => ⟨st, F, S.extN eN t1, ?_⟩⟩
  have gr : GrowE F st σ H F st H1 := grow_extN eN
  unfold wordM at h
  cases e : fb st with
  | ok d st' =>
    rw [e] at h
    intro v H' F' S' G' r
    refine h _ H' F' S' (gr.trans G') ?_
    cases val
    · exact .str _
    · exact r
  | ex y st' =>
    rw [e] at h
    simp only at h
    split at h
    · rename_i hy
      intro cls dx H' F' S' G' r
      have r1 : cls = .ref (Γ.ca y.cls) := r.1
      subst r1
      refine pick_ok hm hy hs hn ?_
      cases ef : hs.find? fun h => h.1 == y.cls with
      | none => rw [ef] at h; exact h.elim
      | some q =>
        rw [ef] at h
        exact h _ H' F' S' (gr.trans G') (.str _)
    · exact h.elim
  | no =>
    rw [e] at h
    exact h.elim
end
end Sk
set_option maxHeartbeats 1000000
namespace Sk
open PySem PySem.Spec PyProof.Rows L2
section
variable {P : Program} {w : World} {K : PySem.W.Frag} {mg : Str → Option Value} {base : Heap}
theorem fun_code {x qual : Str} {params : Arguments} {body : List Stmt} {scope : Scope} {d : Str × Option Str} {fd : FuncData} (F : FunD K x qual params body scope [] [] (He.fAd K d) fd) :
    ∃ (oc : Value) (od : Option Addr) (dV kV doc pm : Value) (an : Option Addr) (ct : Value) (osl : Array (Option Value)), fd = PySem.W.fnOf x qual params body scope dV kV doc pm an (.ref (He.codeOf K d)) ct ∧ K.lookup (He.fAd K d) = some ⟨oc, od, .func fd, osl⟩ ∧ PySem.W.codeIn K (.ref (He.codeOf K d)) qual = true := by
  obtain ⟨oc, od, dV, kV, doc, pm, an, cdv, ct, osl, e, lk, hc, _, _⟩ := F.ex
  obtain ⟨c, ec⟩ := He.codeIn_ref hc
  subst ec
  have q : He.codeOf K d = c := He.codeOf_eq lk (by rw [e])
  rw [q]
  exact ⟨oc, od, dV, kV, doc, pm, an, ct, osl, e, lk, hc⟩
/-- THE RULE for a def, its code object known -/
theorem fn_okC {Γ : Gm} {x qual : Str} {params : Arguments} {body : List Stmt} {scope : Scope} {d : Str × Option Str} {fd : FuncData} {N ps : List Str} {k : Nat} {Pr : List Nat} {fb : MS} (F : FunD K x qual params body scope [] [] (He.fAd K d) fd) (S : FnScope N ps scope)
    (hb : ∀ (A : Around) (outer : List Env) (s : Shared) (H : Hp) (E : XK), Room k (A.deeper (envOfC qual scope s.heap.objs.size (He.fAd K d) (.ref (He.codeOf K d)))) →
      ESs Γ (cxOf (L2.CX P w) P w K mg base N qual scope (He.fAd K d) (.ref (He.codeOf K d)) A outer s H E) (fun cls dx _ H' => E cls dx H') Pr body fb) : FnOk P w K mg base (L2.CX P w) (k + 1) (He.fAd K d) fd ps (spD Γ K ps.length (fnOf (N.length - ps.length) Pr fb)) := by
  obtain ⟨oc, od, dV, kV, doc, pm, an, ct, osl, e, lk, hc⟩ := fun_code F
  subst e
  refine L2.fn_of lk hc S (sp_len rfl) fun A outer s H vs Q E hr h => ⟨_, (hb A outer s H E hr).ps, ?_⟩
  have e : L2.start N vs = vs.map some ++ List.replicate (N.length - ps.length) none := by
    unfold L2.start
    rw [sp_len rfl vs H Q E h]
  rw [e]
  exact body_ok (X := cxOf (L2.CX P w) P w K mg base N qual scope (He.fAd K d) (.ref (He.codeOf K d)) A outer s H E) rfl (hb A outer s H E hr) h
end
section
variable {Γ : Gm} {X : Cx} {W : WX} {pos : Pos} {x : Str} {i : Int}
theorem ev_gi (h : ∃ t, X.mg x = some (.int i t)) (hg : Gl X x := by rfl) (hd : (x == ("__debug__" : Str)) = false := by decide) : EV Γ X W (.Name x pos) (M.ret (.int i)) := by
  obtain ⟨t, e⟩ := h
  exact ev_gint hg e ⟨t, rfl⟩ hd
end
end Sk
namespace Sk
open PySem PySem.Spec PyProof.Rows L2 LamX
/-! ### what a law's text knows of its program -/
structure Info where
  defs : List He.DefD
  free : List Str
  nums : List (Str × Int)
  excs : List Str
  lams : List Str
abbrev lamQ (x : Str) : Str := (x ++ ".<locals>.") ++ "<lambda>"
abbrev cdOf (K : PySem.W.Frag) (x : Str) : Addr := He.codeOf K (x, none)
abbrev tbOf (K : PySem.W.Frag) (x : Str) : Addr := He.tabOf K (He.codeOf K (x, none))
/-- what a raised class is known by -/
structure ExcF (K : PySem.W.Frag) (mg : Str → Option Value) (x : Str) (C : Addr) : Prop where
  g : mg x = some (.ref C)
  i : PySem.W.excIn K C He.veBase "ValueError.__new__" = true
  k : PySem.W.keepIn K (.ref C) = true
  s : PySem.W.subIn K (.ref C) (.type "BaseException") = some true
  t : PySem.W.typeIn K (.ref C) = some (.type "type")
structure FxI (I : Info) (K : PySem.W.Frag) (mg : Str → Option Value) (base : Heap) (Γ : Gm) : Prop where
  fn : ∀ (i : Nat) (d : He.DefD), I.defs[i]? = some d → ∃ fd, FunD K d.name d.qual d.params d.body d.scope (d.dvs K) (d.kws K) (He.fAd K d.at_) fd
  glo : ∀ x : Str, x ∈ I.defs.map (·.name) → mg x = some (.ref (He.ga K x))
  free : ∀ x : Str, x ∈ I.free → mg x = none
  int : ∀ (x : Str) (i : Int), (x, i) ∈ I.nums → ∃ t, mg x = some (.int i t)
  exc : ∀ (i : Nat) (x : Str), I.excs[i]? = some x → ExcF K mg x (Γ.ca i)
  exm : ∀ i j, i < I.excs.length → j < I.excs.length → PySem.W.exmOne K (.ref (Γ.ca i)) (.ref (Γ.ca j)) = some (decide (i = j))
  tb : ∀ (i : Nat) (x : Str), I.lams[i]? = some x → TabB base mg (cdOf K x) (tbOf K x)
  inT : ∀ (i : Nat) (x : Str), I.lams[i]? = some x → (tbOf K x, lamQ x) ∈ Γ.T
  uni : ∀ (i : Nat) (x : Str), I.lams[i]? = some x → ∀ p ∈ Γ.T, p.1 = tbOf K x → p.2 = lamQ x
section
variable {Γ : Gm} {X : Cx} {W : WX} {P : List Nat} {pos p p2 p3 : Pos} {x m : Str} {i j : Nat}
theorem es_raise1 (hc : X.calm = true) (tk : Takes X W) (E : ExcF X.K X.mg x (Γ.ca i)) (hg : Gl X x := by rfl) (hdb : (x == ("__debug__" : Str)) = false := by decide) :
    ES Γ X W P (.Raise (some (.Call (.Name x p) [.Constant (.str m) j p2] [] p3)) none pos) (raiseS i) :=
  es_raise hc tk rfl F.excBase_ValueError E.i E.g E.k (raises_own E.s E.t) hg hdb
theorem names_of {c : Value} (hg : Gl X x) (hdb : (x == ("__debug__" : Str)) = false) (hm : X.mg x = some c) : Names X x c := ⟨hg, hdb, .inl hm⟩
theorem ExcF.nm {C : Addr} (E : ExcF X.K X.mg x C) (hg : Gl X x := by rfl) (hdb : (x == ("__debug__" : Str)) = false := by decide) : Names X x (.ref C) := ⟨hg, hdb, .inl E.g⟩
theorem u64 {k : Nat} {A : Around} (r : Room k A) : A.units + 64 < cLine := by
  have := r.un
  omega
theorem u65 {k : Nat} {A : Around} (r : Room k A) : A.units + 65 < cLine := by
  have := r.un
  omega
theorem room_units {k : Nat} {A : Around} (r : Room k A) : A.units + 1 < cLine := by
  have := r.un
  omega
end
section
variable {P : Program} {w : World} {K : PySem.W.Frag} {mg : Str → Option Value} {base : Heap}
/-- a def of which nothing is promised -/
theorem fn_none {Γ : Gm} {CX : CXT} {ps : List Str} {k : Nat} {f : Addr} {fd : FuncData} : FnOk P w K mg base CX k f fd ps (spD Γ K ps.length fun _ => .no) :=
  ⟨sp_len rfl, fun _ _ _ _ _ _ _ _ _ _ _ _ _ ⟨_, _, _, _, h⟩ => h.elim⟩
end
end Sk
set_option maxHeartbeats 1000000
/-! t[::-1] of a tuple -/
namespace Sk
open PySem PySem.Spec PyProof.Rows L2
section
variable {prog : Program} {w : World} {A : Around} {s : Shared} {E : Value → Shared → Prop}
theorem rev_places (n : Nat) : Builtin.Slice.slicePlaces (Builtin.Slice.sliceAdjust none none (-1) (n : Int)).1 (Builtin.Slice.sliceAdjust none none (-1) (n : Int)).2 (-1) = n := by
  unfold Builtin.Slice.slicePlaces Builtin.Slice.sliceAdjust
  simp
  split <;> omega
theorem applied_rev {sl : Addr} {n : Nat} {tk : Tok} {Q : Int × Int × Nat → Shared → Prop} (hs : s.heap.IsSliceOf sl .none .none (.int (-1) tk)) (h : Q ((n : Int) - 1, -1, n) s) :
    wpAny (model prog w) A (Builtin.Slice.sliceApplied (.ref sl) (pure (n : Int))) Q E s := by
  obtain ⟨o, ho, _, dat⟩ := id hs
  unfold Builtin.Slice.sliceApplied Builtin.Slice.sliceFields
  refine wpAny_bind (wpAny_bind (wpAny_field ho dat (x := .none) rfl (wpAny_bind (wpAny_field ho dat (x := .none) rfl (wpAny_bind (wpAny_field ho dat (x := .int (-1) tk) rfl (wpAny_pure ?_)))))))
  refine wpAny_bind (slicePart_int ?_)
  show wpAny _ _ (if ((-1 : Int) == 0) = true then _ else _) _ _ s
  rw [if_neg (by decide)]
  refine wpAny_bind (slicePart_none (wpAny_bind (slicePart_none (wpAny_bind (wpAny_pure ?_)))))
  have e := rev_places n
  have e1 : (Builtin.Slice.sliceAdjust none none (-1) (n : Int)).1 = (n : Int) - 1 := by simp [Builtin.Slice.sliceAdjust]
  show wpAny _ _ (pure ((Builtin.Slice.sliceAdjust none none (-1) (n : Int)).1, (-1 : Int), Builtin.Slice.slicePlaces (Builtin.Slice.sliceAdjust none none (-1) (n : Int)).1 (Builtin.Slice.sliceAdjust none none (-1) (n : Int)).2 (-1))) _ _ s
  rw [e, e1]
  exact wpAny_pure h
theorem pick_rev (xs : List Value) : ((List.range xs.length).filterMap fun (k : Nat) => xs.toArray[((xs.length : Int) - 1 + (k : Int) * -1).toNat]?) = xs.reverse := by
  have e : ∀ m, m ≤ xs.length → ((List.range m).filterMap fun (k : Nat) => xs.toArray[((xs.length : Int) - 1 + (k : Int) * -1).toNat]?) = xs.reverse.take m := by
    intro m
    induction m with
    | zero => simp
    | succ m ih =>
      intro hm
      rw [List.range_succ, List.filterMap_append, ih (by omega), List.take_add_one]
      congr 1
      have i1 : ((xs.length : Int) - 1 + (m : Int) * -1).toNat = xs.length - 1 - m := by omega
      have l1 : xs.length - 1 - m < xs.length := by omega
      rw [List.getElem?_reverse (by omega)]
      have i2 : ((xs.length : Int) - 1 + -(m : Int)).toNat = xs.length - 1 - m := by omega
      simp [i2, l1]
  rw [e xs.length (Nat.le_refl _)]
  exact List.take_of_length_le (by rw [List.length_reverse]; exact Nat.le_refl _)
theorem getItem_rev {t sl : Addr} {xs : List Value} {tk : Tok} {Q : Value → Shared → Prop} (ht : IsTup s.heap t xs.toArray) (hs : s.heap.IsSliceOf sl .none .none (.int (-1) tk))
    (h : Q (.ref s.heap.objs.size) { s with heap := s.heap.push { cls := .type "tuple", data := .seq xs.reverse.toArray } }) (fits : xs.length ≤ sizeLine) : wpAny (model prog w) A (getItem (.ref t) (.ref sl)) Q E s := by
  have fits' : sizeOk (.seq xs.reverse.toArray) := by
    show xs.reverse.toArray.size ≤ sizeLine
    rw [List.size_toArray, List.length_reverse]
    exact fits
  obtain ⟨o, ho, cl, _⟩ := id hs
  unfold getItem
  try with_reducible refine wpAny_holding ?_
  first | refine wpAny_bind (wpAny_pure ?_) | skip
  refine wpAny_bind (wpAny_sequenceKey ht.typeIs (by decide) ?_)
  refine wpAny_bind (wpAny_callSpecial?_slot (name := Str.ofString "__getitem__") ht.typeIs slot_tuple_getitem (wpAny_call_entry slot_tuple_getitem ht.typeIs entry_tuple_getitem ?_ (args_tuple_getitem _ _)))
  show wpAny _ _ (Builtin.Tuple.tupleItemsOf (.ref t) >>= _) _ _ s
  refine wpAny_bind (tupleItemsOf_ ht (wpAny_bind (wpAny_typeOf (T := "slice") ⟨o, ho, cl⟩ ?_)))
  rw [if_pos (by decide)]
  have sz : xs.toArray.size = xs.length := by simp
  rw [sz]
  refine wpAny_bind (applied_rev hs ?_)
  show wpAny _ _ (if (((xs.length : Int) - 1 == 0) && ((-1 : Int) == 1) && (xs.length == xs.length)) = true then _ else _) _ _ s
  rw [if_neg (by simp), pick_rev]
  first
    | exact wpAny_bind (m := Builtin.Tuple.tupleExact _) (wpAny_newObj_type (wpAny_pure ⟨_, rfl, wpAny_pure h⟩) fits')
    | exact wpAny_bind (m := Builtin.Tuple.tupleExact _) (wpAny_newObj_type (wpAny_bind (wpAny_pure (wpAny_pure ⟨_, rfl, wpAny_pure h⟩))) fits')
    | exact wpAny_bind (wpAny_bind (m := Builtin.Tuple.tupleExact _) (wpAny_newObj_type (wpAny_pure (wpAny_pure ⟨_, rfl, wpAny_pure h⟩)) fits'))
    | exact wpAny_bind (wpAny_bind (m := Builtin.Tuple.tupleExact _) (wpAny_newObj_type (wpAny_pure ⟨_, rfl, wpAny_pure h⟩) fits'))
end
section
variable {Γ : Gm} {X : Cx} {W : WX} {pos p2 : Pos} {e es : Expr} {te : TE} {f : M Op}
theorem pe_rev (he : PE X e te) (hs : PE X es fun σ H Q => Q (.int (-1)) H) : PE X (.Subscript e (.Slice none none (some es) p2) pos) (fun σ H Q => te σ H fun x H1 => ∃ a xs, x = .ref a ∧ SqT X.K H1 a xs ∧ NewT xs.reverse H1 Q) := by
  refine ⟨fun pins s σ H Q I h => ?_⟩
  refine Subscript_ (thn (he.run pins s σ H _ I h) fun v s1 ⟨x, H1, I1, r1, q1⟩ => ?_)
  obtain ⟨a, xs, ex, tx, nt⟩ := q1
  subst ex
  cases r1
  refine wpAny_Slice ?_
  rw [evalPart_none]
  refine wpAny_pure (wpAny_pure ?_)
  show wpAny _ _ (eval es X.env) _ _ s1
  refine thn (hs.run pins s1 σ H1 (fun v H2 => v = .int (-1) ∧ H2 = H1) I1 ⟨rfl, rfl⟩) fun u s2 ⟨y, H2, I2, r2, ey, eH⟩ => ?_
  subst ey eH
  obtain ⟨tk, rfl⟩ := r2
  obtain ⟨us, ru, pu, fits⟩ := I2.tuple tx
  have I3 : Inv X pins σ H2 { s2 with heap := s2.heap.push { cls := .type "slice", data := .fields #[.none, .none, .int (-1) tk] } } := I2.kept (t' := s2.toks) fun b ob q => Heap.get?_push_of_some _ q
  obtain ⟨us', ru', pu', fits'⟩ := I3.tuple tx
  have go := getItem_rev (prog := X.prog) (w := X.w) (A := X.A) (E := X.xe) (Q := L2.EP X pins σ Q) pu' (Heap.IsSliceOf.new ..) (new_tup (tk := s2.toks) I3 ru'.reverse (by rw [List.length_reverse]; exact fits') nt) (by rw [← ru'.length]; exact fits')
  exact tail_any (ops := [.ref a, .ref s2.heap.objs.size]) pu'.typeIs slot_tuple_getitem.lookup go (by with_unfolding_all rfl)
def dRevT : D → Option D
  | .tuple xs => some (.tuple xs.reverse)
  | _ => none
theorem RpA.rev {K : PySem.W.Frag} {F : Hp} {ds : List D} {vs : List V} (r : RpA K F ds vs) : RpA K F ds.reverse vs.reverse := by
  induction ds generalizing vs with
  | nil => cases r; exact .nil
  | cons d ds ih => cases r with
    | cons h t =>
      rw [List.reverse_cons, List.reverse_cons]
      exact (ih t).append (.one h)
theorem ev_revT {j : Nat} {p3 p4 : Pos} (ha : EO Γ X W e f) : EV Γ X W (.Subscript e (.Slice none none (some (.UnaryOp .USub (.Constant (.int 1) j p3) p4)) p2) pos) (un1 dRevT f) := by
  refine ⟨PE.imp (pe_rev ha.pe (PE.imp (pe_un un_neg pe_int) fun σ H Q h => ⟨1, rfl, h⟩)) fun σ H Q ⟨st, F, S, h⟩ => fin_bind rP_mono S h fun d st1 v H1 F1 S1 G1 q1 h1 => ?_⟩
  unfold ap1 at h1
  split at h1
  · rename_i d' e1
    have rr := S1.look q1 e1
    cases d' with
    | tuple xs =>
      cases rr with
      | tup sx qx =>
        rename_i a us
        refine ⟨a, us, rfl, sqT_mono S1.sub1 sx.sq, fun p ob hp nd => ?_⟩
        have A := Add.new (o := .frz ob (.tup us.reverse)) S1.sub hp (by intro ps z; cases z)
        exact h1 _ _ _ (S1.add A) A.grow (.tup ⟨ob, upd_same, nd⟩ (qx.rev.mono A.fF))
    | _ => exact h1.elim
  · exact h1.elim
end
end Sk
set_option maxHeartbeats 1000000
/-! the end of a law's proof -/
namespace Sk
open PySem PySem.Spec PyProof.Rows L2 LamX
def gmOf (I : Info) (K : PySem.W.Frag) : Gm := ⟨I.lams.map fun x => (tbOf K x, lamQ x), fun i => He.ga K (I.excs.getD i "")⟩
def pairsUp (n : Nat) : List (Nat × Nat) := (List.range n).flatMap fun i => (List.range n).map fun j => (i, j)
def faOf (I : Info) : List He.Fa :=
  I.defs.map (fun d => .glo d.name) ++ I.free.map .free ++ I.nums.map (fun p => .int p.1 p.2) ++ I.excs.map .glo ++ I.excs.map .exc ++ (pairsUp I.excs.length).map fun p => .exm (I.excs.getD p.1 "") (I.excs.getD p.2 "") (decide (p.1 = p.2))
abbrev tfOf (I : Info) : List He.Defn := I.lams.map fun x => (x, none)
def exOf (I : Info) (K : PySem.W.Frag) : Bool := decide (I.lams.map (tbOf K)).Nodup
section
variable {I : Info} {w : World} {K : PySem.W.Frag} {h base : Heap} {mg : Str → Option Value}
theorem nodup_one {α β : Type} (f : α → β) : ∀ {l : List α}, (l.map f).Nodup → ∀ {a b : α}, a ∈ l → b ∈ l → f a = f b → a = b
  | [], _, a, _, ha, _, _ => by simp at ha
  | x :: l, n, a, b, ha, hb, e => by
    rw [List.map_cons, List.nodup_cons] at n
    rcases List.mem_cons.mp ha with ha | ha
    · rcases List.mem_cons.mp hb with hb | hb
      · rw [ha, hb]
      · exact absurd (List.mem_map.mpr ⟨b, hb, by rw [← e, ha]⟩) n.1
    · rcases List.mem_cons.mp hb with hb | hb
      · exact absurd (List.mem_map.mpr ⟨a, ha, by rw [e, hb]⟩) n.1
      · exact nodup_one f n.2 ha hb e
theorem fx_of (c : He.SaysX (faOf I) I.defs [] (tfOf I) (exOf I) w h K) (KX : K.In h) (G : h.Ns mainGlobals mg) (TB : ∀ p ∈ (tfOf I).map (He.cT K), TabB base mg p.1 p.2) : FxI I K mg base (gmOf I K) := by
  have F : ∀ {f : He.Fa}, f ∈ faOf I → f.ok K = true := fun hf => He.SaysD.facts c.t.d hf
  have memL : ∀ (i : Nat) (x : Str), I.lams[i]? = some x → x ∈ I.lams := fun i x e => List.mem_of_getElem? e
  refine ⟨fun i d e => ?_, fun x hx => ?_, fun x hx => ?_, fun x i hx => ?_, fun i x e => ?_, fun i j hi hj => ?_, fun i x e => ?_, fun i x e => ?_, fun i x e p hp q => ?_⟩
  · exact c.t.d.def_ i e
  · obtain ⟨d, hd, rfl⟩ := List.mem_map.mp hx
    exact He.glo_ok KX G (F (by unfold faOf; simp only [List.mem_append]; exact .inl (.inl (.inl (.inl (.inl (List.mem_map.mpr ⟨d, hd, rfl⟩)))))))
  · exact He.free_ok KX G (F (by unfold faOf; simp only [List.mem_append]; exact .inl (.inl (.inl (.inl (.inr (List.mem_map.mpr ⟨x, hx, rfl⟩)))))))
  · exact He.int_ok KX G (F (by unfold faOf; simp only [List.mem_append]; exact .inl (.inl (.inl (.inr (List.mem_map.mpr ⟨(x, i), hx, rfl⟩))))))
  · have hx : x ∈ I.excs := List.mem_of_getElem? e
    have g := He.glo_ok KX G (F (f := .glo x) (by unfold faOf; simp only [List.mem_append]; exact .inl (.inl (.inr (List.mem_map.mpr ⟨x, hx, rfl⟩)))))
    obtain ⟨c1, c2, c3, c4⟩ := He.exc_ok (F (f := .exc x) (by unfold faOf; simp only [List.mem_append]; exact .inl (.inr (List.mem_map.mpr ⟨x, hx, rfl⟩))))
    have ec : (gmOf I K).ca i = He.ga K x := by
      show He.ga K (I.excs.getD i "") = _
      rw [List.getD_eq_getElem?_getD, e]
      rfl
    rw [ec]
    exact ⟨g, c1, c2, c3, c4⟩
  · have up : (i, j) ∈ pairsUp I.excs.length := by
      unfold pairsUp
      exact List.mem_flatMap.mpr ⟨i, List.mem_range.mpr hi, List.mem_map.mpr ⟨j, List.mem_range.mpr hj, rfl⟩⟩
    exact He.exm_ok (F (f := .exm (I.excs.getD i "") (I.excs.getD j "") (decide (i = j))) (by unfold faOf; simp only [List.mem_append]; exact .inr (List.mem_map.mpr ⟨(i, j), up, rfl⟩)))
-- ⟨i, List.mem_range.mpr hi, List.mem_map.mpr ⟨j, List.mem_range.mpr hj, rfl⟩⟩
  · exact TB (cdOf K x, tbOf K x) (List.mem_map.mpr ⟨(x, none), List.mem_map.mpr ⟨x, memL i x e, rfl⟩, rfl⟩)
  · exact List.mem_map.mpr ⟨x, memL i x e, rfl⟩
  · obtain ⟨y, hy, rfl⟩ := List.mem_map.mp hp
    have nd : (I.lams.map (tbOf K)).Nodup := of_decide_eq_true c.more
    have : y = x := nodup_one (tbOf K) nd hy (memL i x e) q
    rw [this]
/-- the law's promise -/
theorem law_at {l : PySem.W.OpenLaw} {x : Str} {k n : Nat} {mL : M D} {d : He.DefD} {iL : Nat} (c : He.SaysX (faOf I) I.defs [] (tfOf I) (exOf I) w h K) (KX : K.In h) (G : h.Ns mainGlobals mg) (hd : I.defs[iL]? = some d) (e1 : d.dfl = []) (e2 : d.kwd = []) (ea : d.at_ = (d.name, none)) {fa : Addr} (hfa : mg d.name = some (.ref fa))
    (hbind : ∀ (kV doc pm : Value) (an : Option Addr) (cdv ct : Value) (us : List Value), us.length = [x].length → bindArgs (PySem.W.fnOf d.name d.qual d.params d.body d.scope .none kV doc pm an cdv ct) ⟨us, []⟩ = pure ([x].zip us))
    (ok : ∀ base : Heap, FxI I K mg base (gmOf I K) → Fn (gmOf I K) l.prog w K mg base (rP K) k d.name [x] mL)
    (good : ∀ ns : List Int, ns.length ≤ n → (∀ z ∈ ns, Builtin.Int.intBits z ≤ 1048576) → ∃ st, mL [.scr ns] = .ok (.bool true) st) : LawAtS l w K (L2.CX l.prog w) k n x mg fa h := by
  obtain ⟨fd, F⟩ := c.t.d.def_ iL hd
  have z1 : d.dvs K = [] := by unfold He.DefD.dvs; rw [e1]; rfl
  have z2 : d.kws K = [] := by unfold He.DefD.kws; rw [e2]; rfl
  rw [z1, z2] at F
  have g0 := He.glo_ok KX G (x := d.name) (He.SaysD.facts c.t.d (by unfold faOf; simp only [List.mem_append]; exact .inl (.inl (.inl (.inl (.inl (List.mem_map.mpr ⟨d, List.mem_of_getElem? hd, rfl⟩)))))))
  have ef : fa = He.fAd K d.at_ := by
    rw [ea]
    rw [hfa] at g0
    injection g0 with g0
    injection g0 with g0
  subst ef
  refine ⟨fd, (tfOf I).map (He.cT K), spD (gmOf I K) K 1 mL, ?_, ?_, ?_, ?_, ?_, ?_⟩
  · intro p hp
    obtain ⟨q, hq, rfl⟩ := List.mem_map.mp hp
    exact c.empty q hq
  · intro p hp
    obtain ⟨q, hq, rfl⟩ := List.mem_map.mp hp
    exact c.out q hq
  · intro p hp
    obtain ⟨q, hq, rfl⟩ := List.mem_map.mp hp
    exact PySem.W.codeHd_of_K KX (c.hd q hq)
  · have b := FunD.bindsA (ps := [x]) F hbind
    exact fun s u => b s [u] rfl
  · intro H a ns hl hb hT hS
    obtain ⟨st, e⟩ := good ns hl hb
    have tabs : Tabs (gmOf I K).T H := fun p hp => by
      obtain ⟨y, hy, rfl⟩ := List.mem_map.mp hp
      exact TabS.nil (hT (cdOf K y, tbOf K y) (List.mem_map.mpr ⟨(y, none), List.mem_map.mpr ⟨y, hy, rfl⟩, rfl⟩))
    have core : ∀ F : Hp, (∀ b o, F b = some o → H b = some o ∧ ∀ ps, o ≠ .tbl ps) → SqL K F a (ns.map V.int) → spD (gmOf I K) K 1 mL [.ref a] H (fun v _ => v = .bl true) fun _ _ _ => False := fun F hF hq => by
      refine ⟨[.scr ns], F, rfl, ⟨rfl, hF, fun i d e => ?_, fun i d e => ?_, fun i z e => ?_, fun i j d e a' h1 => ?_, tabs⟩, ?_⟩
      · cases i <;> simp at e
      · cases i <;> simp at e
      · cases i with
        | zero =>
          simp at e
          subst e
          exact ⟨a, rfl, hq⟩
        | succ i => simp at e
      · cases i <;> simp at h1
      · rw [e]
        intro v H' F' S' G' r
        cases (show Rp K F' (.bool true) v from r)
        rfl
    rcases hS with (z | ⟨o, z⟩) | z
    · refine core (fun b => if b = a then some (.lst (ns.map V.int)) else none) (fun b u q => ?_) (.inl (.inl (if_pos rfl)))
      by_cases eb : b = a
      · rw [if_pos eb] at q
        cases q
        exact ⟨by rw [eb]; exact z, by intro ps z; cases z⟩
      · rw [if_neg eb] at q
        cases q
    · refine core (fun b => if b = a then some (.frz o (.lst (ns.map V.int))) else none) (fun b u q => ?_) (.inl (.inr ⟨o, if_pos rfl⟩))
      by_cases eb : b = a
      · rw [if_pos eb] at q
        cases q
        exact ⟨by rw [eb]; exact z, by intro ps z; cases z⟩
      · rw [if_neg eb] at q
        cases q
    · exact core (fun _ => none) (fun b u q => by cases q) (.inr z)
  · intro base KB GB TB
    obtain ⟨f2, fd2, h1, _, _, h4, oc, od, osl, lk⟩ := (ok base (fx_of c KX G TB)).ex
    rw [hfa] at h1
    cases h1
    obtain ⟨oc', od', _, _, _, _, _, _, _, osl', _, lk', _⟩ := F.ex
    rw [lk] at lk'
    cases lk'
    exact h4
end
end Sk
set_option maxHeartbeats 1000000
/-! reckoning with the mirrors -/
namespace Sk
open PySem PySem.Spec PyProof.Rows L2
section
variable {α β : Type}
def Out.th (o : Out α) (g : α → M β) : Out β := match o with
  | .ok a st => g a st
  | .ex x st => .ex x st
  | .no => .no
theorem th_ok {a : α} {st : List Sl} {g : α → M β} : (Out.ok a st).th g = g a st := Eq.trans rfl rfl
theorem th_ex {x : Er} {st : List Sl} {g : α → M β} : (Out.ex x st).th g = .ex x st := Eq.trans rfl rfl
theorem th_ite {c : Prop} [Decidable c] {o p : Out α} {g : α → M β} : (if c then o else p).th g = if c then o.th g else p.th g := by split <;> rfl
theorem e_bind {f : M α} {g : α → M β} {st : List Sl} : M.bind f g st = (f st).th g := Eq.trans rfl rfl
theorem e_ret {a : α} {st : List Sl} : M.ret a st = .ok a st := Eq.trans rfl rfl
theorem e_fail {st : List Sl} : (M.fail : M α) st = .no := Eq.trans rfl rfl
theorem e_opt {a : α} {st : List Sl} : M.opt (some a) st = .ok a st := Eq.trans rfl rfl
theorem e_chk {c : Prop} [Decidable c] {d : D} (h : c) : chk c d = some d := if_pos h
def Out.ts (o : Out α) (g : α → MS) : SOut := match o with
  | .ok a st => g a st
  | .ex x st => .ex x st
  | .no => .no
theorem ts_ok {a : α} {st : List Sl} {g : α → MS} : (Out.ok a st).ts g = g a st := Eq.trans rfl rfl
theorem ts_ex {x : Er} {st : List Sl} {g : α → MS} : (Out.ex x st : Out α).ts g = .ex x st := Eq.trans rfl rfl
theorem ts_ite {c : Prop} [Decidable c] {o p : Out α} {g : α → MS} : (if c then o else p).ts g = if c then o.ts g else p.ts g := by split <;> rfl
theorem e_bindS {f : M α} {g : α → MS} {st : List Sl} : bindS f g st = (f st).ts g := by
  unfold bindS Out.ts
  cases f st <;> rfl
end
def SOut.sq (o : SOut) (g : MS) : SOut := match o with
  | .nx st => g st
  | o => o
theorem sq_nx {st : List Sl} {g : MS} : (SOut.nx st).sq g = g st := Eq.trans rfl rfl
theorem sq_rt {d : D} {st : List Sl} {g : MS} : (SOut.rt d st).sq g = .rt d st := Eq.trans rfl rfl
theorem sq_ex {x : Er} {st : List Sl} {g : MS} : (SOut.ex x st).sq g = .ex x st := Eq.trans rfl rfl
theorem sq_bk {st : List Sl} {g : MS} : (SOut.bk st).sq g = .bk st := Eq.trans rfl rfl
theorem sq_ct {st : List Sl} {g : MS} : (SOut.ct st).sq g = .ct st := Eq.trans rfl rfl
theorem sq_ite {c : Prop} [Decidable c] {o p : SOut} {g : MS} : (if c then o else p).sq g = if c then o.sq g else p.sq g := by split <;> rfl
theorem e_seqS {f g : MS} {st : List Sl} : seqS f g st = (f st).sq g := by
  unfold seqS SOut.sq
  cases f st <;> rfl
def SOut.fin (o : SOut) (P : List Nat) (args : List Sl) : Out D := match o with
  | .nx st => .ok .none (outs P args st)
  | .rt d st => .ok d (outs P args st)
  | .ex x st => .ex x (outs P args st)
  | _ => .no
theorem fin_nx {P : List Nat} {args st : List Sl} : (SOut.nx st).fin P args = .ok .none (outs P args st) := Eq.trans rfl rfl
theorem fin_rt {P : List Nat} {args st : List Sl} {d : D} : (SOut.rt d st).fin P args = .ok d (outs P args st) := Eq.trans rfl rfl
theorem fin_ex {P : List Nat} {args st : List Sl} {x : Er} : (SOut.ex x st).fin P args = .ex x (outs P args st) := Eq.trans rfl rfl
theorem fin_ite {c : Prop} [Decidable c] {o p : SOut} {P : List Nat} {args : List Sl} : (if c then o else p).fin P args = if c then o.fin P args else p.fin P args := by split <;> rfl
theorem e_fnOf {n : Nat} {P : List Nat} {body : MS} {args : List Sl} (h : (okArgs P 0 args && P.all fun i => isOwn args[i]?) = true) : fnOf n P body args = (body (args ++ List.replicate n .un)).fin P args := by
  unfold fnOf SOut.fin
  rw [if_pos (Bool.and_eq_true_iff.mp h)]
  all_goals (cases body (args ++ List.replicate n .un) <;> rfl)
/-- a call of a def whose outcome is known -/
def Out.wb (o : Out D) (ops : List Op) (st : List Sl) : Out D := match o with
  | .ok d outs => .ok d (Sk.wb ops outs st)
  | .ex x outs => .ex x (Sk.wb ops outs st)
  | .no => .no
theorem wb_ok {ops : List Op} {st outs : List Sl} {d : D} : (Out.ok d outs).wb ops st = .ok d (Sk.wb ops outs st) := Eq.trans rfl rfl
theorem wb_ex {ops : List Op} {st outs : List Sl} {x : Er} : (Out.ex x outs).wb ops st = .ex x (Sk.wb ops outs st) := Eq.trans rfl rfl
theorem wb_ite {c : Prop} [Decidable c] {o p : Out D} {ops : List Op} {st : List Sl} : (if c then o else p).wb ops st = if c then o.wb ops st else p.wb ops st := by split <;> rfl
theorem e_call {fn : M D} {ops : List Op} {st args : List Sl} (n : (ownIx ops).Nodup) (h : argsOf st ops = some args) (l : ∀ d outs, fn args = .ok d outs → outs.length = args.length) (l2 : ∀ x outs, fn args = .ex x outs → outs.length = args.length) : callAt fn ops st = (fn args).wb ops st := by
  unfold callAt
  rw [if_pos n, h]
  unfold Out.wb
  simp only
  cases e : fn args with
  | ok d o => simp only; rw [if_pos (l d o e)]
  | ex x o => simp only; rw [if_pos (l2 x o e)]
  | no => rfl
/-- the same by a known outcome -/
theorem e_call_ok {fn : M D} {ops : List Op} {st args outs : List Sl} {d : D} (n : (ownIx ops).Nodup) (h : argsOf st ops = some args) (e : fn args = .ok d outs) (l : outs.length = args.length) : callAt fn ops st = .ok d (Sk.wb ops outs st) := by
  unfold callAt
  rw [if_pos n, h]
  simp only
  rw [e]
  simp only
  rw [if_pos l]
theorem e_call_ex {fn : M D} {ops : List Op} {st args outs : List Sl} {x : Er} (n : (ownIx ops).Nodup) (h : argsOf st ops = some args) (e : fn args = .ex x outs) (l : outs.length = args.length) : callAt fn ops st = .ex x (Sk.wb ops outs st) := by
  unfold callAt
  rw [if_pos n, h]
  simp only
  rw [e]
  simp only
  rw [if_pos l]
def vA1 (g : M D) (d : D) : M D := match d with
  | .bool true => g
  | .bool false => M.ret (.bool false)
  | _ => M.fail
theorem vA1_b {g : M D} {b : Bool} {st : List Sl} : vA1 g (.bool b) st = if b = true then g st else .ok (.bool false) st := by cases b <;> rfl
theorem e_vAnd {f g : M D} {st : List Sl} : vAnd f g st = (f st).th (vA1 g) := Eq.trans rfl rfl
def vO1 (g : M D) (d : D) : M D := match d with
  | .bool true => M.ret (.bool true)
  | .bool false => g
  | _ => M.fail
theorem vO1_b {g : M D} {b : Bool} {st : List Sl} : vO1 g (.bool b) st = if b = true then .ok (.bool true) st else g st := by cases b <;> rfl
theorem e_vOr {f g : M D} {st : List Sl} : vOr f g st = (f st).th (vO1 g) := Eq.trans rfl rfl
def vN1 (d : D) : M D := match d with
  | .bool b => M.ret (.bool (!b))
  | _ => M.fail
theorem vN1_b {b : Bool} {st : List Sl} : vN1 (.bool b) st = .ok (.bool (!b)) st := Eq.trans rfl rfl
theorem e_vNot {f : M D} {st : List Sl} : vNot f st = (f st).th vN1 := Eq.trans rfl rfl
def ch1 (op2 : D → D → Option D) (fc : M Op) (y : Op) (d : D) : M D := match d with
  | .bool true => fc.bind fun z => ap2 op2 y z
  | .bool false => M.ret (.bool false)
  | _ => M.fail
theorem ch1_b {op2 : D → D → Option D} {fc : M Op} {y : Op} {b : Bool} {st : List Sl} : ch1 op2 fc y (.bool b) st = if b = true then (fc st).th (fun z => ap2 op2 y z) else .ok (.bool false) st := by cases b <;> rfl
theorem e_chM {op1 op2 : D → D → Option D} {fa fb fc : M Op} {st : List Sl} : chM op1 op2 fa fb fc st = (fa st).th fun x => fb.bind fun y => (ap2 op1 x y).bind (ch1 op2 fc y) := Eq.trans rfl rfl
theorem e_toB {b : Bool} {st : List Sl} : toB (.bool b) st = .ok b st := Eq.trans rfl rfl
theorem e_mAnd {p q : M Bool} {st : List Sl} : mAnd p q st = (p st).th fun c st => if c = true then q st else .ok false st := by
  unfold mAnd M.bind Out.th
  cases p st with
  | ok c s => cases c <;> rfl
  | ex _ _ => rfl
  | no => rfl
theorem e_mOr {p q : M Bool} {st : List Sl} : mOr p q st = (p st).th fun c st => if c = true then .ok true st else q st := by
  unfold mOr M.bind Out.th
  cases p st with
  | ok c s => cases c <;> rfl
  | ex _ _ => rfl
  | no => rfl
theorem e_mNot {p : M Bool} {st : List Sl} : mNot p st = (p st).th fun c st => .ok (!c) st := Eq.trans rfl rfl
theorem e_mIte {α : Type} {p : M Bool} {f g : M α} {st : List Sl} : mIte p f g st = (p st).th fun c st => if c = true then f st else g st := by
  unfold mIte M.bind Out.th
  cases p st with
  | ok c s => cases c <;> rfl
  | ex _ _ => rfl
  | no => rfl
theorem e_iteS {p : M Bool} {f g : MS} {st : List Sl} : iteS p f g st = (p st).ts fun c st => if c = true then f st else g st := by
  unfold iteS bindS Out.ts
  cases p st with
  | ok c s => cases c <;> rfl
  | ex _ _ => rfl
  | no => rfl
/-! loops -/
def SOut.lp (o : SOut) (k : MS) : SOut := match o with
  | .nx st => k st
  | .ct st => k st
  | .bk st => .nx st
  | .rt d st => .rt d st
  | .ex x st => .ex x st
  | .no => .no
theorem lp_nx {st : List Sl} {k : MS} : (SOut.nx st).lp k = k st := Eq.trans rfl rfl
theorem lp_ct {st : List Sl} {k : MS} : (SOut.ct st).lp k = k st := Eq.trans rfl rfl
theorem lp_bk {st : List Sl} {k : MS} : (SOut.bk st).lp k = .nx st := Eq.trans rfl rfl
theorem lp_rt {st : List Sl} {d : D} {k : MS} : (SOut.rt d st).lp k = .rt d st := Eq.trans rfl rfl
theorem lp_ex {st : List Sl} {x : Er} {k : MS} : (SOut.ex x st).lp k = .ex x st := Eq.trans rfl rfl
theorem lp_ite {c : Prop} [Decidable c] {o p : SOut} {k : MS} : (if c then o else p).lp k = if c then o.lp k else p.lp k := by split <;> rfl
theorem forL_nil {t : Tg} {body : MS} {st : List Sl} : forL t body [] [] st = .nx st := Eq.trans rfl rfl
theorem forL_nm {i : Nat} {body : MS} {d : D} {ds : List D} {st : List Sl} : forL (.nm i) body [] (d :: ds) st = (body (st.set i (.dat d))).lp (forL (.nm i) body [] ds) := by
  unfold SOut.lp
  show (match body (st.set i (.dat d)) with | .nx st2 => _ | .ct st2 => _ | .bk st2 => _ | .rt d st2 => _ | .ex x st2 => _ | .no => _) = _
  cases body (st.set i (.dat d)) <;> rfl
theorem forL_tp {is : List Nat} {body : MS} {xs : List D} {ds : List D} {st : List Sl} (h : xs.length = is.length) : forL (.tp is) body [] (.tuple xs :: ds) st = (body (put is (xs.map fun d => (false, d)) st)).lp (forL (.tp is) body [] ds) := by
  unfold SOut.lp
  show (match (if xs.length = is.length then some (put is (xs.map fun d => (false, d)) st) else none) with | none => SOut.no | some st1 => _) = _
  rw [if_pos h]
  simp only
  cases body (put is (xs.map fun d => (false, d)) st) <;> rfl
theorem e_forS {t : Tg} {f : M (List D)} {body : MS} {st : List Sl} : forS t f body [] st = (f st).ts fun ds => forL t body [] ds := e_bindS
/-- an invariant of a loop that ends by itself -/
theorem forL_inv {i : Nat} {body : MS} (Inv : List D → List Sl → Prop) : ∀ {ds : List D} {st : List Sl}, Inv ds st → (∀ d ds st, Inv (d :: ds) st → ∃ st', (body (st.set i (.dat d)) = .nx st' ∨ body (st.set i (.dat d)) = .ct st') ∧ Inv ds st') → ∃ st', forL (.nm i) body [] ds st = .nx st' ∧ Inv [] st'
  | [], st, h, _ => ⟨st, rfl, h⟩
  | d :: ds, st, h, k => by
    obtain ⟨st', e, h'⟩ := k d ds st h
    obtain ⟨st2, e2, h2⟩ := forL_inv Inv h' k
    refine ⟨st2, ?_, h2⟩
    rw [forL_nm]
    rcases e with e | e <;> rw [e] <;> exact e2
/-! calls, by rewriting -/
def Out.wbl (o : Out D) (n : Nat) (ops : List Op) (st : List Sl) : Out D := match o with
  | .ok d outs => if outs.length = n then .ok d (Sk.wb ops outs st) else .no
  | .ex x outs => if outs.length = n then .ex x (Sk.wb ops outs st) else .no
  | .no => .no
def cal (fn : M D) (ops : List Op) (st : List Sl) (a : Option (List Sl)) : Out D := match a with
  | some args => (fn args).wbl args.length ops st
  | none => .no
theorem cal_some {fn : M D} {ops : List Op} {st args : List Sl} : cal fn ops st (some args) = (fn args).wbl args.length ops st := Eq.trans rfl rfl
theorem e_callAt {fn : M D} {ops : List Op} {st : List Sl} : callAt fn ops st = if (ownIx ops).Nodup then cal fn ops st (argsOf st ops) else .no := by
  unfold callAt cal Out.wbl
  split
  · cases argsOf st ops with
    | none => rfl
    | some args =>
      simp only
      all_goals (cases fn args <;> rfl)
  all_goals rfl
theorem wbl_ok {n : Nat} {ops : List Op} {st outs : List Sl} {d : D} : (Out.ok d outs).wbl n ops st = if outs.length = n then .ok d (Sk.wb ops outs st) else .no := Eq.trans rfl rfl
theorem wbl_ex {n : Nat} {ops : List Op} {st outs : List Sl} {x : Er} : (Out.ex x outs).wbl n ops st = if outs.length = n then .ex x (Sk.wb ops outs st) else .no := Eq.trans rfl rfl
theorem wbl_ite {n : Nat} {c : Prop} [Decidable c] {o p : Out D} {ops : List Op} {st : List Sl} : (if c then o else p).wbl n ops st = if c then o.wbl n ops st else p.wbl n ops st := by split <;> rfl
/-! comprehensions -/
theorem set_back {st : List Sl} {i : Nat} {s : Sl} (h : i < st.length) : back [i] st (st.set i s) = st := by
  unfold back
  simp only [List.foldl_cons, List.foldl_nil, List.set_set]
  rw [List.getD_eq_getElem?_getD, List.getElem?_eq_getElem h]
  exact List.set_getElem_self h
theorem lc_gen {i : Nat} {p : M Bool} {fe : M D} {q : D → Bool} {g : D → D} : ∀ {ds acc : List D} {st : List Sl}, i < st.length → acc.length + ds.length ≤ cap → (∀ d ∈ ds, p (st.set i (.dat d)) = .ok (q d) (st.set i (.dat d))) →
    (∀ d ∈ ds, q d = true → fe (st.set i (.dat d)) = .ok (g d) (st.set i (.dat d))) → lcL (.nm i) p fe [i] acc ds st = .ok (.list (acc ++ (ds.filter q).map g)) st
  | [], acc, st, _, _, _, _ => by simp [lcL]
  | d :: ds, acc, st, hi, hc, hp, hf => by
    have h1 := hp d (List.mem_cons_self ..)
    have e0 : asg (.nm i) d (killS [i] st) = some (st.set i (.dat d)) := by simp [asg, killS]
    unfold lcL
    rw [e0]
    simp only
    rw [h1]
    rw [List.length_cons] at hc
    cases hq : q d with
    | true =>
      simp only
      rw [hf d (List.mem_cons_self ..) hq]
      simp only
      rw [if_pos (show acc.length < cap by omega), set_back hi, lc_gen hi (by rw [List.length_append]; simp; omega) (fun x hx => hp x (List.mem_cons_of_mem _ hx)) (fun x hx => hf x (List.mem_cons_of_mem _ hx))]
      simp [hq]
    | false =>
      simp only
      rw [set_back hi, lc_gen hi (by omega) (fun x hx => hp x (List.mem_cons_of_mem _ hx)) (fun x hx => hf x (List.mem_cons_of_mem _ hx))]
      simp [hq]
theorem lc_map {i : Nat} {fe : M D} {g : D → D} {ds : List D} {st : List Sl} (hi : i < st.length) (hc : ds.length ≤ cap) (hf : ∀ d ∈ ds, fe (st.set i (.dat d)) = .ok (g d) (st.set i (.dat d))) : lcL (.nm i) (M.ret true) fe [i] [] ds st = .ok (.list (ds.map g)) st := by
  have := lc_gen (p := M.ret true) (q := fun _ => true) (g := g) (acc := []) hi (by simpa using hc) (fun _ _ => rfl) (fun d hd _ => hf d hd)
  rw [List.filter_eq_self.mpr (fun _ _ => rfl), List.nil_append] at this
  exact this
theorem e_lcM {t : Tg} {f : M (List D)} {p : M Bool} {fe : M D} {vs : List Nat} {st : List Sl} : lcM t f p fe vs st = (f st).th fun ds => lcL t p fe vs [] ds := Eq.trans rfl rfl
/-! shapes -/
theorem shaped_of {d : D} (c : d.canLay0 = true) (h : d.depth ≤ 64) : SeqAt.shaped d = true := by
  unfold SeqAt.shaped
  simp [c, h]
/-- data that can be compared, so deep at most -/
def Sh (n : Nat) (d : D) : Prop := d.canLay0 = true ∧ d.depth ≤ n
theorem Sh.shaped {n : Nat} {d : D} (h : Sh n d) (hn : n ≤ 64) : SeqAt.shaped d = true := shaped_of h.1 (Nat.le_trans h.2 hn)
theorem Sh.mono {n m : Nat} {d : D} (h : Sh n d) (l : n ≤ m) : Sh m d := ⟨h.1, Nat.le_trans h.2 l⟩
theorem sh_int {n : Nat} {i : Int} : Sh n (.int i) := ⟨rfl, Nat.zero_le _⟩
theorem sh_bool {n : Nat} {b : Bool} : Sh n (.bool b) := ⟨rfl, Nat.zero_le _⟩
theorem sh_none {n : Nat} : Sh n .none := ⟨rfl, Nat.zero_le _⟩
theorem sh_all : ∀ {n : Nat} {xs : List D}, (∀ x ∈ xs, Sh n x) → PyData.canLayAll0 xs = true ∧ PyData.depthAll xs ≤ n
  | _, [], _ => ⟨rfl, Nat.zero_le _⟩
  | n, x :: xs, h => by
    obtain ⟨a, b⟩ := h x (List.mem_cons_self ..)
    obtain ⟨c, d⟩ := sh_all fun y hy => h y (List.mem_cons_of_mem _ hy)
    exact ⟨by rw [PyData.canLayAll0, a, c]; rfl, by rw [PyData.depthAll]; exact Nat.max_le.mpr ⟨b, d⟩⟩
theorem sh_each : ∀ {n : Nat} {xs : List D}, PyData.canLayAll0 xs = true → PyData.depthAll xs ≤ n → ∀ x ∈ xs, Sh n x
  | _, [], _, _, x, h => by simp at h
  | n, y :: ys, c, d, x, h => by
    rw [PyData.canLayAll0, Bool.and_eq_true] at c
    rw [PyData.depthAll] at d
    have d := Nat.max_le.mp d
    rcases List.mem_cons.mp h with rfl | h
    · exact ⟨c.1, d.1⟩
    · exact sh_each c.2 d.2 x h
theorem sh_tup {n : Nat} {xs : List D} (h : ∀ x ∈ xs, Sh n x) : Sh (n + 1) (.tuple xs) := by
  obtain ⟨a, b⟩ := sh_all h
  exact ⟨by rw [PyData.canLay0]; exact a, by rw [PyData.depth]; omega⟩
theorem sh_lst {n : Nat} {xs : List D} (h : ∀ x ∈ xs, Sh n x) : Sh (n + 1) (.list xs) := by
  obtain ⟨a, b⟩ := sh_all h
  exact ⟨by rw [PyData.canLay0]; exact a, by rw [PyData.depth]; omega⟩
theorem Sh.tup {n : Nat} {xs : List D} (h : Sh n (.tuple xs)) : ∀ x ∈ xs, Sh (n - 1) x := by
  obtain ⟨a, b⟩ := h
  rw [PyData.canLay0] at a
  rw [PyData.depth] at b
  exact sh_each a (by omega)
theorem Sh.lst {n : Nat} {xs : List D} (h : Sh n (.list xs)) : ∀ x ∈ xs, Sh (n - 1) x := by
  obtain ⟨a, b⟩ := h
  rw [PyData.canLay0] at a
  rw [PyData.depth] at b
  exact sh_each a (by omega)
/-- one-deep lists of truths and numbers -/
theorem sh_bools {n : Nat} {xs : List Bool} : Sh (n + 1) (.list (xs.map PyData.bool)) := sh_lst fun x h => by
  obtain ⟨b, _, rfl⟩ := List.mem_map.mp h
  exact sh_bool
theorem any_false : ∀ xs : List Bool, ((xs.map PyData.bool).any fun z => PyData.eqv z (.bool false)) = !xs.all id
  | [] => rfl
  | b :: xs => by
    rw [List.map_cons, List.any_cons, any_false xs]
    cases b <;> simp [PyData.eqv]
/-- False not in [..] -/
theorem notin_false (xs : List Bool) : dNotInL (.bool false) (.list (xs.map PyData.bool)) = some (.bool (xs.all id)) := by
  show chk _ _ = _
  rw [e_chk ⟨sh_bool.shaped (n := 0) (by decide), (sh_bools (n := 0)).shaped (by decide)⟩, any_false, Bool.not_not]
theorem in_false (xs : List Bool) : dInL (.bool false) (.list (xs.map PyData.bool)) = some (.bool (!xs.all id)) := by
  show chk _ _ = _
  rw [e_chk ⟨sh_bool.shaped (n := 0) (by decide), (sh_bools (n := 0)).shaped (by decide)⟩, any_false]
theorem notin_falseF {α : Type} (f : α → Bool) (xs : List α) : dNotInL (.bool false) (.list (xs.map fun d => .bool (f d))) = some (.bool (xs.all f)) := by
  have := notin_false (xs.map f)
  rw [List.map_map, List.all_map] at this
  exact this
theorem in_falseF {α : Type} (f : α → Bool) (xs : List α) : dInL (.bool false) (.list (xs.map fun d => .bool (f d))) = some (.bool (!xs.all f)) := by
  have := in_false (xs.map f)
  rw [List.map_map, List.all_map] at this
  exact this
/-! places -/
theorem atI_pos {α : Type} {xs : List α} {i : Int} (h0 : 0 ≤ i) (h1 : i < xs.length) : L2.atI xs i = some (xs[i.toNat]'(by omega)) := by
  have e : ixN xs.length i = some i.toNat := by
    unfold ixN
    simp [h0, h1]
  unfold L2.atI
  rw [e]
  exact List.getElem?_eq_getElem (by omega)
theorem dIx_tup {xs : List D} {i : Int} (h0 : 0 ≤ i) (h1 : i < xs.length) : dIx (.tuple xs) (.int i) = some (xs[i.toNat]'(by omega)) := atI_pos h0 h1
theorem dIx_lst {xs : List D} {i : Int} (h0 : 0 ≤ i) (h1 : i < xs.length) : dIx (.list xs) (.int i) = some (xs[i.toNat]'(by omega)) := atI_pos h0 h1
/-! ranges -/
def Sml (i j : Int) : Prop := -1000000000 ≤ i ∧ i ≤ 1000000000 ∧ -1000000000 ≤ j ∧ j ≤ 1000000000
def rn1 (d : D) : M (List D) := match d with
  | .int n => if -(2 ^ 62) ≤ n ∧ n < 2 ^ 62 then M.ret (rngL 0 n.toNat) else M.fail
  | _ => M.fail
theorem e_rng1 {f : M D} {st : List Sl} : rng1M f st = (f st).th rn1 := by
  unfold rng1M M.bind Out.th
  cases f st <;> rfl
theorem rn1_ok {n : Int} {st : List Sl} (h : Sml 0 n) : rn1 (.int n) st = .ok (rngL 0 n.toNat) st := by
  unfold rn1
  simp only
  rw [if_pos (by unfold Sml at h; omega)]
  rfl
def rn2 (d e : D) : M (List D) := match d, e with
  | .int i, .int j => if -(2 ^ 62) ≤ i ∧ i < 2 ^ 62 ∧ -(2 ^ 62) ≤ j ∧ j < 2 ^ 62 then M.ret (rngL i (j - i).toNat) else M.fail
  | _, _ => M.fail
theorem e_rng2 {f g : M D} {st : List Sl} : rng2M f g st = (f st).th fun d => g.bind (rn2 d) := by
  unfold rng2M M.bind Out.th
  cases f st <;> rfl
theorem rn2_ok {i j : Int} {st : List Sl} (h : Sml i j) : rn2 (.int i) (.int j) st = .ok (rngL i (j - i).toNat) st := by
  unfold rn2
  simp only
  rw [if_pos (by unfold Sml at h; omega)]
  rfl
theorem sml {i j : Int} (h : -1000000000 ≤ i ∧ i ≤ 1000000000 ∧ -1000000000 ≤ j ∧ j ≤ 1000000000) : Sml i j := h
theorem mem_rng {lo : Int} {n : Nat} {d : D} (h : d ∈ rngL lo n) : ∃ k, k < n ∧ d = .int (lo + (k : Int)) := by
  unfold rngL at h
  obtain ⟨k, hk, e⟩ := List.mem_map.mp h
  exact ⟨k, List.mem_range.mp hk, e.symm⟩
theorem rng_len {lo : Int} {n : Nat} : (rngL lo n).length = n := by simp [rngL]
def atR (g : Nat → D) (lo : Int) : D → D
  | .int k => g (k - lo).toNat
  | _ => .none
theorem atR_at {g : Nat → D} {lo : Int} {k : Nat} : atR g lo (.int (lo + (k : Int))) = g k := by
  have e : (lo + (k : Int) - lo).toNat = k := by omega
  unfold atR
  simp only
  rw [e]
/-- a comprehension over a range -/
theorem lc_rng {i : Nat} {fe : M D} {g : Nat → D} {lo : Int} {n : Nat} {st : List Sl} (hi : i < st.length) (hc : n ≤ cap) (hf : ∀ k, k < n → fe (st.set i (.dat (.int (lo + (k : Int))))) = .ok (g k) (st.set i (.dat (.int (lo + (k : Int)))))) :
    lcL (.nm i) (M.ret true) fe [i] [] (rngL lo n) st = .ok (.list ((List.range n).map g)) st := by
  have e := lc_map (fe := fe) (g := atR g lo) (ds := rngL lo n) hi (by rw [rng_len]; exact hc) (fun d hd => by
    obtain ⟨k, hk, rfl⟩ := mem_rng hd
    rw [atR_at]
    exact hf k hk)
  rw [e]
  congr 2
  unfold rngL
  rw [List.map_map]
  exact List.map_congr_left fun k _ => atR_at
/-! comprehensions with several names -/
theorem get_kill {vs : List Nat} : ∀ {st : List Sl} {j : Nat}, j ∉ vs → (killS vs st)[j]? = st[j]? := by
  induction vs with
  | nil => intro st j _; rfl
  | cons i vs ih =>
    intro st j h
    simp only [List.mem_cons, not_or] at h
    show (killS vs (st.set i .un))[j]? = _
    rw [ih h.2, List.getElem?_set_ne (fun z => h.1 z.symm)]
theorem len_kill {vs : List Nat} : ∀ {st : List Sl}, (killS vs st).length = st.length := by
  induction vs with
  | nil => intro st; rfl
  | cons i vs ih =>
    intro st
    show (killS vs (st.set i .un)).length = _
    rw [ih, List.length_set]
theorem get_put : ∀ {is : List Nat} {ds : List (Bool × D)} {st : List Sl} {j : Nat}, j ∉ is → (put is ds st)[j]? = st[j]?
  | [], _, _, _, _ => by unfold put; rfl
  | _ :: _, [], _, _, _ => by unfold put; rfl
  | i :: is, (b, d) :: ds, st, j, h => by
    simp only [List.mem_cons, not_or] at h
    unfold put
    rw [get_put h.2, List.getElem?_set_ne (fun z => h.1 z.symm)]
theorem len_put : ∀ {is : List Nat} {ds : List (Bool × D)} {st : List Sl}, (put is ds st).length = st.length
  | [], _, _ => by unfold put; rfl
  | _ :: _, [], _ => by unfold put; rfl
  | i :: is, (b, d) :: ds, st => by
    unfold put
    rw [len_put, List.length_set]
/-- the state with a tuple's items in the slots is -/
def setT (is : List Nat) (xs : List D) (st : List Sl) : List Sl := put is (xs.map fun d => (false, d)) (killS is st)
theorem back_setT {is : List Nat} {xs : List D} {st : List Sl} : back is st (setT is xs st) = st := by
  apply List.ext_getElem?
  intro j
  have l : (setT is xs st).length = st.length := by unfold setT; rw [len_put, len_kill]
  rw [back_get l]
  split
  · rfl
  · unfold setT
    rw [get_put ‹_›, get_kill ‹_›]
theorem lc_tp {is : List Nat} {p : M Bool} {fe : M D} {q : List D → Bool} {g : List D → D} : ∀ {xss : List (List D)} {acc : List D} {st : List Sl}, acc.length + xss.length ≤ cap → (∀ xs ∈ xss, xs.length = is.length) →
    (∀ xs ∈ xss, p (setT is xs st) = .ok (q xs) (setT is xs st)) → (∀ xs ∈ xss, q xs = true → fe (setT is xs st) = .ok (g xs) (setT is xs st)) → lcL (.tp is) p fe is acc (xss.map .tuple) st = .ok (.list (acc ++ (xss.filter q).map g)) st
  | [], acc, st, _, _, _, _ => by simp [lcL]
  | xs :: xss, acc, st, hc, hl, hp, hf => by
    have h1 := hp xs (List.mem_cons_self ..)
    have e0 : asg (.tp is) (.tuple xs) (killS is st) = some (setT is xs st) := by
      show (if xs.length = is.length then some (put is (xs.map fun d => (false, d)) (killS is st)) else none) = _
      rw [if_pos (hl xs (List.mem_cons_self ..))]
      rfl
    rw [List.map_cons]
    unfold lcL
    rw [e0]
    simp only
    rw [h1]
    rw [List.length_cons] at hc
    cases hq : q xs with
    | true =>
      simp only
      rw [hf xs (List.mem_cons_self ..) hq]
      simp only
      rw [if_pos (show acc.length < cap by omega), back_setT, lc_tp (by rw [List.length_append]; simp; omega) (fun x hx => hl x (List.mem_cons_of_mem _ hx)) (fun x hx => hp x (List.mem_cons_of_mem _ hx)) (fun x hx => hf x (List.mem_cons_of_mem _ hx))]
      simp [hq]
    | false =>
      simp only
      rw [back_setT, lc_tp (by omega) (fun x hx => hl x (List.mem_cons_of_mem _ hx)) (fun x hx => hp x (List.mem_cons_of_mem _ hx)) (fun x hx => hf x (List.mem_cons_of_mem _ hx))]
      simp [hq]
end Sk
namespace Sk
open PySem PySem.Spec PyProof.Rows L2
/-! sequences to walk over -/
def sq1 (d : D) : M (List D) := match d with
  | .list ds => M.ret ds
  | .tuple ds => M.ret ds
  | _ => M.fail
theorem e_seqM {f : M D} {st : List Sl} : seqM f st = (f st).th sq1 := Eq.trans rfl rfl
theorem sq1_l {ds : List D} {st : List Sl} : sq1 (.list ds) st = .ok ds st := Eq.trans rfl rfl
theorem sq1_t {ds : List D} {st : List Sl} : sq1 (.tuple ds) st = .ok ds st := Eq.trans rfl rfl
def ml1 (ds : List D) : M D := if ds.length ≤ 1000 then M.ret (.list ds) else M.fail
theorem e_mLst {f : M (List D)} {st : List Sl} : mLst f st = (f st).th ml1 := Eq.trans rfl rfl
theorem ml1_ok {ds : List D} {st : List Sl} (h : ds.length ≤ 1000) : ml1 ds st = .ok (.list ds) st := by
  unfold ml1
  rw [if_pos h]
  rfl
def mt1 (ds : List D) : M D := if ds.length ≤ 1000 then M.ret (.tuple ds) else M.fail
theorem e_mTup {f : M (List D)} {st : List Sl} : mTup f st = (f st).th mt1 := Eq.trans rfl rfl
theorem mt1_ok {ds : List D} {st : List Sl} (h : ds.length ≤ 1000) : mt1 ds st = .ok (.tuple ds) st := by
  unfold mt1
  rw [if_pos h]
  rfl
def pa1 (d : D) : M (Option Int) := match d with
  | .int i => M.ret (some i)
  | _ => M.fail
theorem e_partM {f : M D} {st : List Sl} : partM f st = (f st).th pa1 := Eq.trans rfl rfl
theorem pa1_i {i : Int} {st : List Sl} : pa1 (.int i) st = .ok (some i) st := Eq.trans rfl rfl
end Sk
namespace Sk
open PySem PySem.Spec PyProof.Rows L2
theorem dLen_t {xs : List D} : dLen [.tuple xs] = some (.int (xs.length : Nat)) := Eq.trans rfl rfl
theorem dLen_l {xs : List D} : dLen [.list xs] = some (.int (xs.length : Nat)) := Eq.trans rfl rfl
theorem dAdd_i {i j : Int} : dAdd (.int i) (.int j) = some (.int (i + j)) := Eq.trans rfl rfl
end Sk
namespace Sk
open PySem PySem.Spec PyProof.Rows L2
theorem dEq_i {i j : Int} : dEq (.int i) (.int j) = some (.bool (i == j)) := by
  show chk _ _ = _
  rw [e_chk ⟨sh_int.shaped (n := 0) (by decide), sh_int.shaped (n := 0) (by decide)⟩]
  rfl
theorem dNe_i {i j : Int} : dNe (.int i) (.int j) = some (.bool (!(i == j))) := by
  show chk _ _ = _
  rw [e_chk ⟨sh_int.shaped (n := 0) (by decide), sh_int.shaped (n := 0) (by decide)⟩]
  rfl
end Sk
set_option maxHeartbeats 1000000
/-! walks that hand out pairs: enumerate, zip -/
namespace Sk
open PySem PySem.Spec PyProof.Rows L2
/-- a list (false) or a tuple (true) -/
def SqX (K : PySem.W.Frag) (b : Bool) (H : Hp) (a : Addr) (xs : List V) : Prop := match b with
  | true => SqT K H a xs
  | false => SqL K H a xs
def ItX (b : Bool) (h : Heap) (j a : Addr) (i : Nat) : Prop := match b with
  | true => h.IsTupleIter j a i
  | false => h.IsListIter j a i
def InX (b : Bool) (h : Heap) (a : Addr) (its : Array Value) : Prop := match b with
  | true => h.IsTuple a its
  | false => h.IsList a its
theorem draws_x {P : Program} {w : World} {A : Around} (b : Bool) (hd : A.handled = none) {j a : Addr} (ne : a ≠ j) (its : Array Value) :
    Draws P w A j [j, a] its.size (fun i v => its[i]? = some v) (fun i h => ItX b h j a i ∧ InX b h a its) := by
  cases b
  · exact Draws.list hd j a ne its
  · exact Draws.tuple hd j a ne its
def itO (b : Bool) (a : Addr) : Obj := { cls := .type (if b = true then "tuple_iterator" else "list_iterator"), data := .fields #[.ref a, .int 0 0] }
theorem begins_x (b : Bool) (a : Addr) (its : Array Value) : Begins (.ref a) (itO b a) (fun h => InX b h a its) := by
  cases b
  · exact begins_list a its
  · exact begins_tuple a its
theorem itX_at {b : Bool} {h h' : Heap} {j a : Addr} {i : Nat} (x : ItX b h j a i) (k : ∀ o, h.get? j = some o → h'.get? j = some o) : ItX b h' j a i := by
  cases b
  · obtain ⟨o, e, c, d⟩ := x
    exact ⟨o, k o e, c, d⟩
  · obtain ⟨o, e, c, d⟩ := x
    exact ⟨o, k o e, c, d⟩
theorem itX_obj {b : Bool} {h : Heap} {j a : Addr} {i : Nat} (x : ItX b h j a i) : ∃ o vs, h.get? j = some o ∧ o.data = .fields vs := by
  cases b
  · obtain ⟨o, e, _, d⟩ := x
    exact ⟨o, _, e, d⟩
  · obtain ⟨o, e, _, d⟩ := x
    exact ⟨o, _, e, d⟩
theorem inX_obj {b : Bool} {h : Heap} {a : Addr} {its : Array Value} (x : InX b h a its) : ∃ o n, h.get? a = some o ∧ o.data = .seq its n := by
  cases b
  · obtain ⟨o, e, _, n, d⟩ := x
    exact ⟨o, n, e, d⟩
  · obtain ⟨o, e, _, n, d⟩ := x
    exact ⟨o, n, e, d⟩
theorem inX_at {b : Bool} {h h' : Heap} {a : Addr} {its : Array Value} (x : InX b h a its) (k : ∀ o, h.get? a = some o → h'.get? a = some o) : InX b h' a its := by
  cases b
  · obtain ⟨o, e, r⟩ := x
    exact ⟨o, k o e, r⟩
  · obtain ⟨o, e, r⟩ := x
    exact ⟨o, k o e, r⟩
/-- at the end nothing is drawn -/
theorem draws_end {P : Program} {w : World} {A : Around} (b : Bool) (hd : A.handled = none) {j a : Addr} {its : Array Value} (i : Nat) (hx : its[i]? = none) :
    Draws P w A j [j, a] i (fun _ _ => False) (fun k h => k = i ∧ ItX b h j a k ∧ InX b h a its) where
  live := fun k h st => by
    obtain ⟨o, vs, e, _⟩ := itX_obj st.2.1
    exact ⟨o, e⟩
  frame := fun k h h' st q => ⟨st.1, itX_at st.2.1 fun o e => q j (by simp) o e, inX_at st.2.2 fun o e => q a (by simp) o e⟩
  item := fun k s Q E lt st hQ => absurd st.1 (Nat.ne_of_lt lt)
  done := fun s Q E st hE => by
    obtain ⟨_, h1, h2⟩ := st
    cases b
    · exact wpAny_nextOf_list_end hd h1 h2 hx hE
    · exact wpAny_nextOf_tuple_end hd h1 h2 hx hE
theorem itX_new {b : Bool} {h : Heap} {a : Addr} {j : Addr} (e : h.get? j = some (itO b a)) : ItX b h j a 0 := by
  cases b
  · exact ⟨_, e, rfl, rfl⟩
  · exact ⟨_, e, rfl, rfl⟩
section
variable {X : Cx} {pins : List (Addr × Obj)} {σ : L2.St} {H : Hp} {s : Shared}
theorem inv_sq {b : Bool} {a : Addr} {xs : List V} (I : Inv X pins σ H s) (q : SqX X.K b H a xs) : ∃ its : List Value, Vals xs its ∧ InX b s.heap a its.toArray := by
  cases b
  · obtain ⟨its, r, p, _⟩ := I.list q
    exact ⟨its, r, p.isList⟩
  · obtain ⟨its, r, p, _⟩ := I.tuple q
    exact ⟨its, r, p⟩
theorem sq_one {b : Bool} {a : Addr} {xs ys : List V} (I : Inv X pins σ H s) (q : SqX X.K b H a xs) (q' : SqX X.K b H a ys) : xs = ys := by
  cases b
  · exact I.list_inj q q'
  · exact I.tuple_inj q q'
end
set_option maxHeartbeats 2000000 in
theorem meets_enumB {v : Value} {o : Obj} {Hs : Heap → Prop} (B : Begins v o Hs) :
    Meets (Builtin.«enumerate.__new__» ⟨[.type "enumerate", v], []⟩) (fun _ R s => Hs s.heap ∧
      R (.ok (.ret (.ref (s.heap.push o).objs.size))) { s with heap := (s.heap.push o).push { cls := .type "enumerate", data := .fields #[.none, .bool false, .ref s.heap.objs.size, rawInt 0, .none, .none] } }) :=
  .of_wp fun pr w1 A1 R1 s1 hyp => by
    obtain ⟨hp, gn, dr, tk, os⟩ := s1; obtain ⟨h1, hq⟩ := hyp
    have hsub := sub_enumerate
    have it_ : ∀ {A' : Around} {E : Value → Shared → Prop} {Q : Value → Shared → Prop}, Q (.ref hp.objs.size) ⟨hp.push o, gn, dr, tk, os⟩ → wpAny (model pr w1) A' (pyIter v) Q E ⟨hp, gn, dr, tk, os⟩ :=
      fun z => B.iter pr w1 _ _ ⟨hp, gn, dr, tk, os⟩ _ h1 z
    wp_walk using it_
    refine wpAny_stack_any fun sk => wpAny_pure ?_
    split
    · rename_i cl _ _ _ _ _
      cases (cl == Value.type "enumerate") <;> wp_walk using it_ <;> exact ⟨_, rfl, hq⟩
    · wp_walk using it_
      exact ⟨_, rfl, hq⟩
section
variable {P : Program} {w : World} {A : Around} {E : Value → Shared → Prop} {s : Shared}
theorem enum_one {v : Value} {o : Obj} {Hs : Heap → Prop} {Q : Value → Shared → Prop} (B : Begins v o Hs) (h1 : Hs s.heap)
    (k : ∀ h', IsEnum h' (s.heap.objs.size + 1) s.heap.objs.size 0 .none → h'.get? s.heap.objs.size = some o → (∀ b u, s.heap.get? b = some u → h'.get? b = some u) → Q (.ref (s.heap.objs.size + 1)) { s with heap := h' }) :
    wpAny (model P w) A (call (.type "enumerate") [v]) Q E s := by
  refine callType_new F.called_enumerate (by decide) (F.typeCall_enumerate_1 _) (F.newCall_enumerate_1 _) (fun ob => F.args_object_init_2 ob _) F.entry_enumerate_new (meets_enumB B) ⟨h1, ?_⟩
  have z : (s.heap.push o).objs.size = s.heap.objs.size + 1 := Heap.size_push ..
  have e : IsEnum ((s.heap.push o).push { cls := .type "enumerate", data := .fields #[.none, .bool false, .ref s.heap.objs.size, rawInt 0, .none, .none] }) (s.heap.objs.size + 1) s.heap.objs.size 0 .none := by
    rw [← z]
    exact Heap.get?_push_size _ rfl
  show _ ∧ _
  rw [z]
  exact ⟨⟨_, e, rfl⟩, k _ e (Heap.get?_push_of_some _ (Heap.get?_push_size _ B.free)) fun b u x => Heap.get?_push_of_some _ (Heap.get?_push_of_some _ x)⟩
end
/-- a pair handed out at each turn -/
def YF (f : Nat → Hp → V → V → Prop) : Nat → Hp → V → Hp → Prop := fun i H v H' => ∃ T x y o, v = .ref T ∧ H T = none ∧ Obj.dict o = none ∧ H' = upd H T (.frz o (.tup [x, y])) ∧ f i H x y
def fEn (K : PySem.W.Frag) (b : Bool) (a : Addr) : Nat → Hp → V → V → Prop := fun i H x y => x = .int (i : Nat) ∧ ∀ xs, SqX K b H a xs → xs[i]? = some y
def ItEn (K : PySem.W.Frag) (b : Bool) (a : Addr) : It :=
  ⟨fun i H => ∃ xs x, SqX K b H a xs ∧ xs[i]? = some x, YF (fEn K b a), fun i H => ∃ xs : List V, SqX K b H a xs ∧ xs.length ≤ i⟩
/-- the pair is laid -/
theorem pair_laid {X : Cx} {pins : List (Addr × Obj)} {σ : L2.St} {H : Hp} {s : Shared} {h' : Heap} {t' : Nat} {ch : List Addr} {x y : V} {u1 u2 : Value} (I : Inv X pins σ H s) (k : ∀ b o, b ∉ ch → s.heap.get? b = some o → h'.get? b = some o) (hf : ∀ b ∈ ch, FpOk X pins H b)
    (e : h'.get? s.heap.objs.size = some { cls := .type "tuple", data := .seq #[u1, u2] }) (r1 : RelV x u1) (r2 : RelV y u2) :
    Inv X pins σ (upd H s.heap.objs.size (.frz { cls := .type "tuple", data := .seq #[u1, u2] } (.tup [x, y]))) { s with heap := h', toks := t' } :=
  I.turnedNew k hf (Nat.le_refl _) ⟨e, (by show 2 ≤ sizeLine; decide), [u1, u2], .cons r1 (.cons r2 .nil), _, e, rfl, _, rfl⟩
theorem turn_en {P : Program} {w : World} {K : PySem.W.Frag} {elts : List Expr} {kk : Nat} {tpos : Pos} (b : Bool) (a e j : Addr) :
    Turn P w K (.Tuple elts kk tpos) (ItEn K b a) [e, j] e (fun i h => (∃ old, IsEnum h e j ((i : Nat) : Int) old) ∧ ItX b h j a i ∧ e ≠ j) where
  mem := by simp
  obj := fun i h st c hc => by
    obtain ⟨⟨old, he⟩, hj, _⟩ := st
    have z : c = e ∨ c = j := by simpa using hc
    rcases z with rfl | rfl
    · exact ⟨_, he, fun v q => nomatch q⟩
    · obtain ⟨o, vs, q1, q2⟩ := itX_obj hj
      exact ⟨o, q1, fun v q => by rw [q2] at q; cases q⟩
  keep := fun i h h' st k => ⟨st.1.imp fun old x => k e (by simp) _ x, itX_at st.2.1 fun o x => k j (by simp) o x, st.2.2⟩
  item := by
    intro X eP ew eK calm i pins s σ H E I fp st go
    subst eP ew eK
    obtain ⟨⟨old, he⟩, hj, ne⟩ := st
    obtain ⟨xs, x, hq, hx⟩ := go
    obtain ⟨its, rv, p⟩ := inv_sq I hq
    obtain ⟨u, hu, ru⟩ := rv.get hx
    obtain ⟨oj, vj, j1, j2⟩ := itX_obj hj
    obtain ⟨oa, na, a1, a2⟩ := inX_obj p
    have naj : a ≠ j := fun z => by rw [z, j1] at a1; cases a1; rw [j2] at a2; cases a2
    have nae : e ≠ a := fun z => by
      rw [← z] at a1
      have he' : s.heap.get? e = _ := he
      rw [he'] at a1; cases a1; cases a2
    have D := draws_x (P := X.prog) (w := X.w) (A := X.A.in1) b (I.ok.hd calm) naj its.toArray
    have le : e < s.heap.objs.size := Heap.lt_size he
    have lj : j < s.heap.objs.size := Heap.lt_size j1
    have hlt : i < its.toArray.size := by
      obtain ⟨h, _⟩ := List.getElem?_eq_some_iff.mp hu
      simpa using h
    refine wpAny_pyNext_enum_itemD D he ⟨hj, p⟩ hlt ne (by simp [ne, nae]) fun y h1 tk hy hout hst ht hsz hk => ?_
    have ey : y = u := by
      rw [List.getElem?_toArray, hu] at hy
      exact (Option.some.inj hy).symm
    subst ey
    refine ⟨_, rfl, wpAny_letOwnedTupleGo_enum (s := { s with heap := h1, toks := tk + 1 }) hout fun h2 he2 sb => ?_⟩
    have ht2 : h2.get? s.heap.objs.size = some { cls := .type "tuple", data := .seq #[.int i tk, y] } := (sb.2 _ (Nat.ne_of_gt le)).trans ht
    have I2 := pair_laid (t' := tk + 1) (x := .int ((i : Nat) : Int)) I (ch := [e, j]) (fun c o hc q => (sb.2 c fun z => hc (by simp [z])).trans (hk c o (fun z => hc (by simp [z])) (fun z => hc (by simp [z])) q)) fp ht2 ⟨_, rfl⟩ ru
    refine ⟨.ref s.heap.objs.size, _, I2, rfl, ⟨_, _, _, _, rfl, I.hok.fresh (Nat.le_refl _), rfl, rfl, rfl, fun ys hy => by rw [sq_one I hy hq]; exact hx⟩, ⟨⟨y, ?_⟩, itX_at hst.1 fun o q => (sb.2 j (Ne.symm ne)).trans q, ne⟩, fun c hc => ?_⟩
    · have e1 : ((i + 1 : Nat) : Int) = (i : Int) + 1 := rfl
      rw [e1]; exact he2
    · have lc : c < s.heap.objs.size := by
        have z : c = e ∨ c = j := by simpa using hc
        rcases z with z | z <;> rw [z]
        · exact le
        · exact lj
      rw [upd_ne (Nat.ne_of_lt lc)]
      exact (fp c hc).1
  done := by
    intro X eP ew eK calm i pins s σ H E I fp st go
    subst eP ew eK
    obtain ⟨⟨old, he⟩, hj, ne⟩ := st
    obtain ⟨xs, hq, hl⟩ := go
    obtain ⟨its, rv, p⟩ := inv_sq I hq
    obtain ⟨oj, vj, j1, j2⟩ := itX_obj hj
    obtain ⟨oa, na, a1, a2⟩ := inX_obj p
    have naj : a ≠ j := fun z => by rw [z, j1] at a1; cases a1; rw [j2] at a2; cases a2
    obtain ⟨f0, f1, f2, f3, f4, f5⟩ := fp j (by simp)
    have hx : its.toArray[i]? = none := by
      rw [List.getElem?_toArray]
      exact List.getElem?_eq_none (by rw [← rv.length]; exact hl)
    have D := draws_end (P := X.prog) (w := X.w) (A := X.A.in1) (j := j) (a := a) b (I.ok.hd calm) i hx
    exact wpAny_pyNext_enum_endD D he ⟨rfl, hj, p⟩ fun h1 eb => ⟨rfl, I.turned (t' := s.toks) (fun c o hc q => eb c o hc q) f0 f1 f3 f4 f5⟩
  self := fun A i s Q E st h => by
    obtain ⟨⟨old, he⟩, _⟩ := st
    exact wpAny_pyIter_enum he h
/-- enumerate(list), enumerate(tuple) -/
theorem pi_en {X : Cx} {e : Expr} {ta : TA} {p pos tpos : Pos} {elts : List Expr} {kk : Nat} (b : Bool) (hg : Gl X "enumerate") (hm : X.mg "enumerate" = none) (ha : PA X [e] ta) (hs : starEach [e] X.env = [(false, eval e X.env)] := by rfl) :
    PI X (.Tuple elts kk tpos) (.Call (.Name "enumerate" p) [e] [] pos) (fun σ H R => ta σ H fun vs H1 => ∃ a xs, vs = [.ref a] ∧ SqX X.K b H1 a xs ∧ R (ItEn X.K b a) H1) := by
  refine ⟨fun pins s σ H R I h => ?_⟩
  refine Call_ (ld_blt I hg hm boot_enumerate (PyProof.Rows.callWith_type1 (thn (ha.run pos pins s σ H _ I h) fun us s1 ⟨vs, H1, I1, r1, q1⟩ => ?_) hs rfl))
  obtain ⟨a, xs, ex, hq, q⟩ := q1
  subst ex
  rw [Vals.ref1 r1]
  obtain ⟨its, rv, p'⟩ := inv_sq I1 hq
  refine enum_one (begins_x b a its.toArray) p' fun h1 he ho hk => wpAny_pyIter_enum he ?_
  have I2 : Inv X pins σ H1 { s1 with heap := h1 } := I1.kept (t' := s1.toks) hk
  refine ⟨s1.heap.objs.size + 1, [s1.heap.objs.size + 1, s1.heap.objs.size], _, _, H1, rfl, I2, turn_en b a (s1.heap.objs.size + 1) s1.heap.objs.size, ⟨⟨.none, he⟩, itX_new ho, Nat.succ_ne_self _⟩, fun c hc => ?_, q⟩
  have le : s1.heap.objs.size ≤ c := by
    have z : c = s1.heap.objs.size + 1 ∨ c = s1.heap.objs.size := by simpa using hc
    rcases z with z | z <;> rw [z]
    · exact Nat.le_add_right _ _
    · exact Nat.le_refl _
  exact I1.fpOk le (I1.hok.fresh le)
/-- zip of two lists -/
def fZi (K : PySem.W.Frag) (a b : Addr) : Nat → Hp → V → V → Prop := fun i H x y => (∀ xs, SqL K H a xs → xs[i]? = some x) ∧ ∀ ys, SqL K H b ys → ys[i]? = some y
def ItZi (K : PySem.W.Frag) (a b : Addr) : It :=
  ⟨fun i H => ∃ (xs ys : List V) (x y : V), SqL K H a xs ∧ SqL K H b ys ∧ xs[i]? = some x ∧ ys[i]? = some y, YF (fZi K a b),
    fun i H => ∃ xs ys : List V, SqL K H a xs ∧ SqL K H b ys ∧ (xs.length ≤ i ∨ ys.length ≤ i)⟩
theorem turn_zi {P : Program} {w : World} {K : PySem.W.Frag} {elts : List Expr} {kk : Nat} {tpos : Pos} {a b z TI TO j1 j2 : Addr} (D : ZipApart z TI TO j1 j2 a b) :
    Turn P w K (.Tuple elts kk tpos) (ItZi K a b) [z, TI, TO, j1, j2] z (fun i h => IsZip h z TI TO .none ∧ IsPair h TI (.ref j1) (.ref j2) ∧ (∃ x y, IsPair h TO x y) ∧ h.IsListIter j1 a i ∧ h.IsListIter j2 b i) := by
  have T0 : Turn P w K (.Tuple elts kk tpos) (Itz K a b) [z, TI, TO, j1, j2] z _ := turn_zip D
  refine ⟨T0.mem, T0.obj, T0.keep, ?_, fun X eP ew eK calm i pins s σ H E I fp st go => T0.done X eP ew eK calm i pins s σ H E I fp st go, T0.self⟩
  intro X eP ew eK calm i pins s σ H E I fp st go
  subst eP ew eK
  obtain ⟨sz, sTI, ⟨x0, y0, sTO⟩, s1, s2⟩ := st
  obtain ⟨xs, ys, x, y, qx, qy, hx, hy⟩ := go
  obtain ⟨us, ru, pu, _⟩ := I.list qx
  obtain ⟨vs, rv, pv, _⟩ := I.list qy
  obtain ⟨u, eu, r1⟩ := ru.get hx
  obtain ⟨v, ev, r2⟩ := rv.get hy
  have lz : z < s.heap.objs.size := Heap.lt_size sz
  refine wpAny_pyNext_zip_item D sz sTI sTO s1 s2 pu.isList pv.isList (x := u) (y := v) (by simpa using eu) (by simpa using ev) fun h1 z1 TO1 t1 t2 hT hsz hk => ?_
  refine ⟨_, rfl, wpAny_letOwnedTupleGo_zip (s := { s with heap := h1 }) z1 fun h2 z2 sb => ?_⟩
  have hT2 : h2.get? s.heap.objs.size = some { cls := .type "tuple", data := .seq #[u, v] } := (sb.2 _ (Nat.ne_of_gt lz)).trans hT
  have I2 := pair_laid (t' := s.toks) I (ch := [z, TI, TO, j1, j2]) (fun c o hc q => (sb.2 c fun w => hc (by simp [w])).trans (hk c o (fun w => hc (by simp [w])) (fun w => hc (by simp [w])) (fun w => hc (by simp [w])) (fun w => hc (by simp [w])) q)) fp hT2 r1 r2
  refine ⟨.ref s.heap.objs.size, _, I2, rfl, ⟨_, _, _, _, rfl, I.hok.fresh (Nat.le_refl _), rfl, rfl, fun l hl => by rw [I.list_inj hl qx]; exact hx, fun l hl => by rw [I.list_inj hl qy]; exact hy⟩, ⟨z2, ?_, ⟨u, v, ?_⟩, ?_, ?_⟩, fun c hcm => ?_⟩
  · exact (sb.2 _ D.TIz).trans (hk _ _ D.TIz D.TITO D.TIi1 D.TIi2 sTI)
  · exact (sb.2 _ D.TOz).trans TO1
  · exact t1.at fun o q => (sb.2 _ D.i1z).trans q
  · exact t2.at fun o q => (sb.2 _ D.i2z).trans q
  · have lc : c < s.heap.objs.size := by
      have w : c = z ∨ c = TI ∨ c = TO ∨ c = j1 ∨ c = j2 := by simpa using hcm
      rcases w with w | w | w | w | w <;> rw [w]
      · exact lz
      · exact Heap.lt_size sTI
      · exact Heap.lt_size sTO
      · obtain ⟨_, e1, _⟩ := s1; exact Heap.lt_size e1
      · obtain ⟨_, e2, _⟩ := s2; exact Heap.lt_size e2
    rw [upd_ne (Nat.ne_of_lt lc)]
    exact (fp c hcm).1
theorem pi_zi {X : Cx} {e e2 : Expr} {ta : TA} {p pos tpos : Pos} {elts : List Expr} {kk : Nat} (hg : Gl X "zip") (hm : X.mg "zip" = none) (ha : PA X [e, e2] ta)
    (hs : starEach [e, e2] X.env = (false, eval e X.env) :: starEach [e2] X.env := by rfl) (hpl : (backTo pos (starEach [e2] X.env)).any (·.1) = false := by rfl) :
    PI X (.Tuple elts kk tpos) (.Call (.Name "zip" p) [e, e2] [] pos) (fun σ H R => ta σ H fun vs H1 => ∃ a b xs ys, vs = [.ref a, .ref b] ∧ SqL X.K H1 a xs ∧ SqL X.K H1 b ys ∧ R (ItZi X.K a b) H1) := by
  refine ⟨fun pins s σ H R I h => ?_⟩
  refine Call_ (ld_blt I hg hm PyProof.Rows.boot_zip (PyProof.Rows.callWith_type1 (thn (ha.run pos pins s σ H _ I h) fun us s1 ⟨vs, H1, I1, r1, q1⟩ => ?_) hs hpl))
  obtain ⟨a, b, xs, ys, ex, hqx, hqy, q⟩ := q1
  subst ex
  obtain ⟨u, v, eu, ra, rb⟩ := vals2 r1
  subst eu
  cases ra
  cases rb
  obtain ⟨its, rv, p1, _⟩ := I1.list hqx
  obtain ⟨its2, rv2, p2, _⟩ := I1.list hqy
  refine call_zip_2 p1.isList p2.isList fun h1 hz hTI hTO t1 t2 hsz hk => wpAny_pyIter_zip hz ?_
  have I2 : Inv X pins σ H1 { s1 with heap := h1 } := I1.kept (t' := s1.toks) hk
  refine ⟨s1.heap.objs.size + 4, [s1.heap.objs.size + 4, s1.heap.objs.size + 2, s1.heap.objs.size + 3, s1.heap.objs.size, s1.heap.objs.size + 1], _, _, H1, rfl, I2, turn_zi (PySem.W.ktu_apart s1.heap.objs.size a b p1.lt p2.lt), ⟨hz, hTI, ⟨_, _, hTO⟩, t1, t2⟩, fun c hcm => ?_, q⟩
  have w : c = s1.heap.objs.size + 4 ∨ c = s1.heap.objs.size + 2 ∨ c = s1.heap.objs.size + 3 ∨ c = s1.heap.objs.size ∨ c = s1.heap.objs.size + 1 := by simpa using hcm
  have le : s1.heap.objs.size ≤ c := by
    rcases w with w | w | w | w | w <;> rw [w]
    · exact Nat.le_add_right _ _
    · exact Nat.le_add_right _ _
    · exact Nat.le_add_right _ _
    · exact Nat.le_refl _
    · exact Nat.le_add_right _ _
  exact I1.fpOk le (I1.hok.fresh le)
/-! over data -/
section
variable {Γ : Gm} {X : Cx} {W : WX} {pos : Pos}
def enuD (i : Nat) : List D → List D
  | [] => []
  | d :: ds => .tuple [.int (i : Nat), d] :: enuD (i + 1) ds
def zipD : List D → List D → List D
  | d :: ds, e :: es => .tuple [d, e] :: zipD ds es
  | _, _ => []
theorem enuD_len : ∀ (ds : List D) (i : Nat), (enuD i ds).length = ds.length
  | [], _ => rfl
  | d :: ds, i => by simp [enuD, enuD_len ds]
theorem enuD_get : ∀ (ds : List D) (i k : Nat) (d : D), (enuD i ds)[k]? = some d → ∃ e, ds[k]? = some e ∧ d = .tuple [.int ((i + k : Nat) : Int), e]
  | [], i, k, d, h => by simp [enuD] at h
  | e :: ds, i, 0, d, h => by
    simp only [enuD, List.getElem?_cons_zero, Option.some.injEq] at h
    exact ⟨e, rfl, h.symm⟩
  | e :: ds, i, k + 1, d, h => by
    simp only [enuD, List.getElem?_cons_succ] at h
    obtain ⟨e', h1, h2⟩ := enuD_get ds (i + 1) k d h
    exact ⟨e', by simpa using h1, by rw [h2]; congr 3; omega⟩
theorem zipD_len : ∀ (ds es : List D), (zipD ds es).length = min ds.length es.length
  | [], _ => by simp [zipD]
  | _ :: _, [] => by simp [zipD]
  | d :: ds, e :: es => by simp [zipD, zipD_len ds es]
theorem zipD_get : ∀ (ds es : List D) (k : Nat) (d : D), (zipD ds es)[k]? = some d → ∃ x y, ds[k]? = some x ∧ es[k]? = some y ∧ d = .tuple [x, y]
  | [], _, k, d, h => by simp [zipD] at h
  | _ :: _, [], k, d, h => by simp [zipD] at h
  | x :: ds, y :: es, 0, d, h => by
    simp only [zipD, List.getElem?_cons_zero, Option.some.injEq] at h
    exact ⟨x, y, rfl, rfl, h.symm⟩
  | x :: ds, y :: es, k + 1, d, h => by
    simp only [zipD, List.getElem?_cons_succ] at h
    simpa using zipD_get ds es k d h
theorem sqX_mono {K : PySem.W.Frag} {F F' : Hp} {b : Bool} {a : Addr} {xs : List V} (h : ∀ a o, F a = some o → F' a = some o) (r : SqX K b F a xs) : SqX K b F' a xs := by
  cases b
  · exact sqL_mono h r
  · exact sqT_mono h r
/-- the pair that is handed out is data -/
theorem pair_data {K : PySem.W.Frag} {F H : Hp} {f : Nat → Hp → V → V → Prop} {i : Nat} {v : V} {H' : Hp} {d e : D} (fs : FS F H) (y : YF f i H v H') (hf : ∀ x z, f i H x z → Rp K F d x ∧ Rp K F e z) : ∃ F'', Add F H F'' H' ∧ Rp K F'' (.tuple [d, e]) v := by
  obtain ⟨T, x, z, o, rfl, hT, hd, rfl, q⟩ := y
  obtain ⟨r1, r2⟩ := hf x z q
  have A := Add.new (o := .frz o (.tup [x, z])) fs hT (by intro ps z; cases z)
  exact ⟨_, A, .tup ⟨o, upd_same, hd⟩ (.cons (r1.mono A.fF) (.cons (r2.mono A.fF) .nil))⟩
theorem walk_en {F : Hp} {a : Addr} {xs : List V} {ds : List D} (b : Bool) (e : SqX X.K b F a xs) (r : RpA X.K F ds xs) : WalkD X.K (ItEn X.K b a) (enuD 0 ds) F := by
  intro i H' F' m fs
  have q : SqX X.K b H' a xs := sqX_mono (fun c o h => (fs _ _ (m _ _ h)).1) e
  refine ⟨fun d hd => ?_, fun hl => ⟨xs, q, by rw [← r.length, ← enuD_len ds 0]; exact hl⟩⟩
  obtain ⟨x, hx, rfl⟩ := enuD_get ds 0 i d hd
  obtain ⟨v, hv, rv⟩ := r.get hx
  refine ⟨⟨xs, v, q, hv⟩, fun y H'' hy => ?_⟩
  refine pair_data fs (show YF (fEn X.K b a) i H' y H'' from hy) fun x1 z1 hz => ?_
  obtain ⟨rfl, hz⟩ := hz
  have := hz xs q
  rw [hv] at this
  cases this
  rw [Nat.zero_add]
  exact ⟨.int _, rv.mono m⟩
theorem walk_zi {F : Hp} {a b : Addr} {xs ys : List V} {ds es : List D} (e1 : SqL X.K F a xs) (e2 : SqL X.K F b ys) (r1 : RpA X.K F ds xs) (r2 : RpA X.K F es ys) : WalkD X.K (ItZi X.K a b) (zipD ds es) F := by
  intro i H' F' m fs
  have q1 : SqL X.K H' a xs := sqL_mono (fun c o h => (fs _ _ (m _ _ h)).1) e1
  have q2 : SqL X.K H' b ys := sqL_mono (fun c o h => (fs _ _ (m _ _ h)).1) e2
  refine ⟨fun d hd => ?_, fun hl => ⟨xs, ys, q1, q2, by rw [← r1.length, ← r2.length]; rw [zipD_len] at hl; omega⟩⟩
  obtain ⟨x, y, hx, hy, rfl⟩ := zipD_get ds es i d hd
  obtain ⟨v1, hv1, rv1⟩ := r1.get hx
  obtain ⟨v2, hv2, rv2⟩ := r2.get hy
  refine ⟨⟨xs, ys, v1, v2, q1, q2, hv1, hv2⟩, fun v H'' hv => ?_⟩
  refine pair_data fs (show YF (fZi X.K a b) i H' v H'' from hv) fun x1 z1 hz => ?_
  obtain ⟨h1, h2⟩ := hz
  have h1 := h1 xs q1
  have h2 := h2 ys q2
  rw [hv1] at h1
  rw [hv2] at h2
  cases h1
  cases h2
  exact ⟨rv1.mono m, rv2.mono m⟩
/-- what can be walked -/
def enuM (f : M D) : M (List D) := f.bind fun d => match d with
  | .list ds => M.ret (enuD 0 ds)
  | .tuple ds => M.ret (enuD 0 ds)
  | _ => M.fail
def zipM (f g : M D) : M (List D) := f.bind fun d => g.bind fun e => match d, e with
  | .list ds, .list es => M.ret (zipD ds es)
  | _, _ => M.fail
theorem PI.eor {X : Cx} {tg iter : Expr} {w w' : TI} (h : PI X tg iter w) (h' : PI X tg iter w') : PI X tg iter (fun σ H R => w σ H R ∨ w' σ H R) := PI.or h h'
theorem ei_enu {elts : List Expr} {kk : Nat} {tpos p : Pos} {e : Expr} {fe : M D} (he : EV Γ X W e fe) (hm : X.mg "enumerate" = none) (hg : Gl X "enumerate" := by rfl) (hs : starEach [e] X.env = [(false, eval e X.env)] := by rfl) :
    EI Γ X W (.Tuple elts kk tpos) (.Call (.Name "enumerate" p) [e] [] pos) (enuM fe) := by
  have pa : PA X [e] _ := (el_cons he el_nil hs).pa
  refine ⟨PI.imp (PI.or (pi_en false hg hm pa hs) (pi_en true hg hm pa hs)) fun σ H R ⟨st, F, S, q⟩ => ?_⟩
  have q0 := q
  unfold enuM M.bind at q0
  have key : ∀ (b : Bool) (ds : List D) (st1 : List Sl) (dv : D), fe st = .ok dv st1 → (∀ (F1 : Hp) v, Rp X.K F1 dv v → ∃ a xs, v = .ref a ∧ SqX X.K b F1 a xs ∧ RpA X.K F1 ds xs) → fin Γ X.K W (rW X.K) F st σ H (.ok (enuD 0 ds) st1) R →
      rd Γ X.K W (fun _ F' _ d v => RpA X.K F' d v) (mCons fe mNil) σ H fun vs H1 => ∃ a xs, vs = [.ref a] ∧ SqX X.K b H1 a xs ∧ R (ItEn X.K b a) H1 := fun b ds st1 dv ef hsq q1 => by
    refine ⟨st, F, S, ?_⟩
    have em : mCons fe mNil st = .ok [dv] st1 := by
      unfold mCons mNil M.bind M.ret
      rw [ef]
    rw [em]
    intro vs H1 F1 S1 G r
    have r : RpA X.K F1 [dv] vs := r
    cases r with
    | cons r1 r2 =>
      cases r2
      obtain ⟨a, xs, ev, hq, hr⟩ := hsq F1 _ r1
      exact ⟨a, xs, by rw [ev], sqX_mono S1.sub1 hq, q1 _ _ F1 S1 G (walk_en b hq hr)⟩
  cases hf : fe st with
  | ok d st1 =>
    rw [hf] at q0
    cases d with
    | list ds =>
      refine .inl (key false ds st1 _ hf (fun F1 v r => ?_) q0)
      cases r with
      | lst e1 r1 => exact ⟨_, _, rfl, .inl (.inl e1), r1⟩
    | tuple ds =>
      refine .inr (key true ds st1 _ hf (fun F1 v r => ?_) q0)
      cases r with
      | tup e1 r1 => exact ⟨_, _, rfl, e1.sq, r1⟩
    | _ => exact q0.elim
  | ex x st1 =>
    rw [hf] at q0
    refine .inl ⟨st, F, S, ?_⟩
    have em : mCons fe mNil st = .ex x st1 := by
      unfold mCons mNil M.bind M.ret
      rw [hf]
    rw [em]
    exact q0
  | no =>
    rw [hf] at q0
    exact q0.elim
theorem ei_zip {elts : List Expr} {kk : Nat} {tpos p : Pos} {a b : Expr} {fa fb : M D} (ha : EV Γ X W a fa) (hb : EV Γ X W b fb) (hm : X.mg "zip" = none) (hg : Gl X "zip" := by rfl) (hs : starEach [a, b] X.env = (false, eval a X.env) :: starEach [b] X.env := by rfl) (hs2 : starEach [b] X.env = [(false, eval b X.env)] := by rfl)
    (hpl : (backTo pos (starEach [b] X.env)).any (·.1) = false := by rfl) : EI Γ X W (.Tuple elts kk tpos) (.Call (.Name "zip" p) [a, b] [] pos) (zipM fa fb) := by
  refine ⟨PI.imp (pi_zi hg hm (el_cons ha (el_cons hb el_nil hs2) hs).pa hs hpl) fun σ H R ⟨st, F, S, h⟩ => ?_⟩
  have h' : fin Γ X.K W (rW X.K) F st σ H (((mCons fa (mCons fb mNil)).bind fun ds => match ds with | [.list ds, .list es] => M.ret (zipD ds es) | _ => M.fail) st) R := by
    have e : ((mCons fa (mCons fb mNil)).bind fun ds => match ds with | [.list ds, .list es] => M.ret (zipD ds es) | _ => M.fail) st = zipM fa fb st := by
      unfold zipM mCons mNil M.bind M.ret
      cases fa st with
      | ok d st1 =>
        simp only
        cases fb st1 with
        | ok e st2 => cases d <;> cases e <;> rfl
        | ex _ _ => rfl
        | no => rfl
      | ex _ _ => rfl
      | no => rfl
    rw [e]; exact h
  refine fin_bind rW_mono S h' fun ds st1 vs H1 F1 S1 G r h1 => ?_
  split at h1
  · rename_i xs ys
    cases (show RpA X.K F1 [.list xs, .list ys] vs from r) with
    | cons r1 r2 =>
      cases r1 with
      | lst e1 q1 =>
        cases r2 with
        | cons r3 r4 =>
          cases r3 with
          | lst e2 q2 =>
            cases r4
            exact ⟨_, _, _, _, rfl, .inl (.inl (S1.sub1 _ _ e1)), .inl (.inl (S1.sub1 _ _ e2)), fin_ret S1 h1 (walk_zi (.inl (.inl e1)) (.inl (.inl e2)) q1 q2)⟩
  · exact h1.elim
end
end Sk
set_option maxHeartbeats 1000000
/-! more built-ins: list(range), min and max of numbers, divmod, range with a step -/
namespace Sk
open PySem PySem.Spec PyProof.Rows L2
open PySem.W (AlikeAll min_list_data min_tuple_data max_list_data max_tuple_data min_list_default minD_ints maxD_ints)
section
variable {Γ : Gm} {X : Cx} {W : WX} {pos : Pos} {K : PySem.W.Frag}
/-! list(range(n)) -/
def dLstRg : D → Option D
  | .int n => chk (-1000000 ≤ n ∧ n ≤ 1000000) (.list (rngL 0 n.toNat))
  | _ => none
theorem rpA_rng {F : Hp} (lo : Int) (n : Nat) : RpA K F (rngL lo n) ((List.range n).map fun i => V.int (lo + (i : Nat))) := by
  have h := rpA_ints (K := K) (F := F) ((List.range n).map fun i : Nat => lo + (i : Int))
  rw [List.map_map, List.map_map] at h
  exact h
theorem en_lstRg {p p2 pos2 : Pos} {a : Expr} {fe : M D} (hc : X.calm = true) (ha : EV Γ X W a fe) (hm : X.mg "list" = none) (hm2 : X.mg "range" = none) (hg : Gl X "list" := by rfl) (hg2 : Gl X "range" := by rfl)
    (na : starEach [a] X.env = (false, eval a X.env) :: starEach [] X.env := by rfl) (nb : starEach [.Call (.Name "range" p2) [a] [] pos2] X.env = (false, eval (.Call (.Name "range" p2) [a] [] pos2) X.env) :: starEach [] X.env := by rfl) :
    EN Γ X W (.Call (.Name "list" p) [.Call (.Name "range" p2) [a] [] pos2] [] pos) (fe.bind fun d => M.opt (dLstRg d)) := by
  refine ⟨PE.imp (pe_listRg hc hg hm (prg_1 hg2 hm2 ha.pe na) nb) fun σ H Q ⟨st, F, S, h⟩ => fin_bind rN_mono S h fun d st1 v H1 F1 S1 G r q => ?_⟩
  cases hd : dLstRg d with
  | none => rw [hd] at q; exact q.elim
  | some z =>
    rw [hd] at q
    unfold dLstRg at hd
    split at hd
    · rename_i n
      obtain ⟨⟨c1, c2⟩, rfl⟩ := chk_some hd
      cases (show Rp X.K F1 (.int n) v from r)
      refine ⟨n, rfl, ⟨by omega, by omega, by omega, by omega, by omega⟩, fun l hl => ?_⟩
      have e : (n - 0).toNat = n.toNat := by rw [Int.sub_zero]
      have rr : RpC X.K F1 (.list (rngL 0 n.toNat)) (.lst (rgV 0 n)) := .lst (by unfold rgV; rw [e]; exact rpA_rng 0 n.toNat)
      exact q _ _ _ (S1.new hl) (grow_new hl) ⟨l, _, rfl, .inl hl, S1.fnone hl, upd_same, rr⟩
    · cases hd
/-! min, max -/
def rMx (K : PySem.W.Frag) (f : Int → Int → Int) : List V → Hp → VK → Prop := fun vs H Q => ∃ (a : Addr) (n : Int) (ns : List Int), vs = [V.ref a] ∧ (SqL K H a ((n :: ns).map V.int) ∨ SqT K H a ((n :: ns).map V.int)) ∧ Q (.int (ns.foldl f n)) H
theorem alike_ints (ns : List Int) : AlikeAll (ns.map PyData.int) := by
  refine ⟨fun x hx y hy => ?_, fun x hx z => ?_⟩
  · obtain ⟨i, _, rfl⟩ := List.mem_map.mp hx
    obtain ⟨j, _, rfl⟩ := List.mem_map.mp hy
    rfl
  · obtain ⟨i, _, rfl⟩ := List.mem_map.mp hx
    cases z
theorem depth_ints : ∀ ns : List Int, PyData.depthAll (ns.map PyData.int) = 0
  | [] => rfl
  | n :: ns => by
    rw [List.map_cons, PyData.depthAll, depth_ints ns]
    rfl
theorem reads_ints {h : Heap} : ∀ {ns : List Int} {us : List Value}, Vals (ns.map V.int) us → ∃ as, ReadsAll h us (ns.map PyData.int) as
  | [], us, r => by
    cases r
    exact ⟨_, .nil⟩
  | n :: ns, us, r => by
    cases r with
    | cons r1 r2 =>
      obtain ⟨t, rfl⟩ := r1
      obtain ⟨as, h2⟩ := reads_ints r2
      exact ⟨_, .cons (.int n t) h2⟩
theorem reads_int {h : Heap} {v : Value} {i : Int} {as : List Addr} (r : Reads h v (.int i) as) : RelV (.int i) v := by
  cases r
  exact ⟨_, rfl⟩
theorem call_maxI (hc : X.calm = true) (hu : X.A.units + 64 < cLine) : CallR X (.builtin "max") (rMx X.K max) := by
  intro pins s σ H vs us Q I r h
  obtain ⟨a, n, ns, rfl, hs, q⟩ := h
  rw [Vals.ref1 r]
  have hu2 : X.A.units + 1 + PyData.depthAll (PyData.int n :: ns.map PyData.int) < cLine := by
    have := depth_ints (n :: ns)
    rw [List.map_cons] at this
    rw [this]
    omega
  rcases hs with hs | hs
  · obtain ⟨its, rv, p, _⟩ := I.list hs
    obtain ⟨as, ra⟩ := reads_ints (h := s.heap) rv
    refine max_list_data (I.ok.hd hc) p.isList (by simpa using ra) (alike_ints (n :: ns)) hu2 fun i v h' tk bs _ rd hk => ?_
    rw [maxD_ints] at rd
    exact ⟨_, H, I.kept hk, reads_int rd, q⟩
  · obtain ⟨its, rv, p, _⟩ := I.tuple hs
    obtain ⟨as, ra⟩ := reads_ints (h := s.heap) rv
    refine max_tuple_data (I.ok.hd hc) p (by simpa using ra) (alike_ints (n :: ns)) hu2 fun i v h' tk bs _ rd hk => ?_
    rw [maxD_ints] at rd
    exact ⟨_, H, I.kept hk, reads_int rd, q⟩
theorem call_minI (hc : X.calm = true) (hu : X.A.units + 64 < cLine) : CallR X (.builtin "min") (rMx X.K min) := by
  intro pins s σ H vs us Q I r h
  obtain ⟨a, n, ns, rfl, hs, q⟩ := h
  rw [Vals.ref1 r]
  have hu2 : X.A.units + 1 + PyData.depthAll (PyData.int n :: ns.map PyData.int) < cLine := by
    have := depth_ints (n :: ns)
    rw [List.map_cons] at this
    rw [this]
    omega
  rcases hs with hs | hs
  · obtain ⟨its, rv, p, _⟩ := I.list hs
    obtain ⟨as, ra⟩ := reads_ints (h := s.heap) rv
    refine min_list_data (I.ok.hd hc) p.isList (by simpa using ra) (alike_ints (n :: ns)) hu2 fun i v h' tk bs _ rd hk => ?_
    rw [minD_ints] at rd
    exact ⟨_, H, I.kept hk, reads_int rd, q⟩
  · obtain ⟨its, rv, p, _⟩ := I.tuple hs
    obtain ⟨as, ra⟩ := reads_ints (h := s.heap) rv
    refine min_tuple_data (I.ok.hd hc) p (by simpa using ra) (alike_ints (n :: ns)) hu2 fun i v h' tk bs _ rd hk => ?_
    rw [minD_ints] at rd
    exact ⟨_, H, I.kept hk, reads_int rd, q⟩
def mxOf (f : Int → Int → Int) (ds : List D) : Option D := match intsOf ds with
  | some (n :: ns) => some (.int (ns.foldl f n))
  | _ => none
def dMx (f : Int → Int → Int) : List D → Option D
  | [.list ds] => mxOf f ds
  | [.tuple ds] => mxOf f ds
  | _ => none
theorem mxOf_some {f : Int → Int → Int} {ds : List D} {z : D} (h : mxOf f ds = some z) : ∃ n ns, intsOf ds = some (n :: ns) ∧ z = .int (ns.foldl f n) := by
  unfold mxOf at h
  split at h
  · rename_i n ns e
    exact ⟨n, ns, e, (Option.some.inj h).symm⟩
  · cases h
theorem sA_mx (f : Int → Int → Int) : SA K (rMx K f) (dMx f) := by
  intro F H ds z xs Q hF r q k
  have hm : ∀ a o, F a = some o → H a = some o := fun a o e => (hF a o e).1
  unfold dMx at q
  split at q
  · obtain ⟨n, ns, e, rfl⟩ := mxOf_some q
    cases r with
    | cons r t =>
      cases t
      cases r with
      | lst sx qx =>
        have e2 := ints_of e qx
        subst e2
        exact ⟨_, n, ns, rfl, .inl (.inl (.inl sx)), k _ _ _ (Add.refl hF) (.int _)⟩
  · obtain ⟨n, ns, e, rfl⟩ := mxOf_some q
    cases r with
    | cons r t =>
      cases t
      cases r with
      | tup sx qx =>
        have e2 := ints_of e qx
        subst e2
        exact ⟨_, n, ns, rfl, .inr (sqT_mono hm sx.sq), k _ _ _ (Add.refl hF) (.int _)⟩
  · cases q
/-- min(xs, default=None) -/
def rMnN (K : PySem.W.Frag) : List V → List V → Hp → VK → Prop := fun vs zs H Q => ∃ (a : Addr) (ns : List Int), vs = [V.ref a] ∧ zs = [V.non] ∧ SqL K H a (ns.map V.int) ∧ match ns with
  | [] => Q .non H
  | n :: ns => Q (.int (ns.foldl min n)) H
theorem call_minN (hc : X.calm = true) (hu : X.A.units + 64 < cLine) : CallRK X (.builtin "min") [Str.ofString "default"] (rMnN X.K) := by
  intro pins s σ H vs zs us ws Q I r rz h
  obtain ⟨a, ns, rfl, rfl, hs, q⟩ := h
  rw [Vals.ref1 r]
  have ew : ws = [.none] := by
    cases rz with
    | cons r1 r2 =>
      cases r2
      cases r1
      rfl
  subst ew
  obtain ⟨its, rv, p, _⟩ := I.list hs
  obtain ⟨as, ra⟩ := reads_ints (h := s.heap) rv
  refine min_list_default (I.ok.hd hc) p.isList (by simpa using ra) (alike_ints ns) (by rw [depth_ints]; omega) (fun e h' tk hk => ?_) fun y ys i v h' tk bs e _ rd hk => ?_
  · have e1 : ns = [] := by simpa using e
    subst e1
    exact ⟨.non, H, I.kept hk, rfl, q⟩
  · cases ns with
    | nil => cases e
    | cons n ns =>
      rw [List.map_cons] at e
      cases e
      rw [minD_ints] at rd
      exact ⟨_, H, I.kept hk, reads_int rd, q⟩
def dMnN : D → Option D
  | .list ds => match intsOf ds with
    | some [] => some .none
    | some (n :: ns) => some (.int (ns.foldl min n))
    | none => none
  | _ => none
theorem ev_minN {p p2 kpos : Pos} {jj} {e : Expr} {f : M Op} (hc : X.calm = true) (hu : X.A.units + 64 < cLine) (hm : X.mg "min" = none) (ha : EO Γ X W e f) (hg : Gl X "min" := by rfl) (hv : bootBuiltins "min" = some (.builtin "min") := by rfl)
    (hs : starEach [e] X.env = (false, eval e X.env) :: starEach [] X.env := by rfl)
    (h1 : backTo pos (starEach [e] X.env) = (false, eval e X.env) :: backTo pos (starEach [] X.env) := by rfl) (h2 : (backTo pos (starEach [e] X.env)).any (·.1) = false := by rfl)
    (h3 : (backToKw pos (keywordEach [⟨some "default", .Constant .none jj p2, kpos⟩] X.env)).all (·.1.isSome) = true := by rfl) (h4 : (backToKw pos (keywordEach [⟨some "default", .Constant .none jj p2, kpos⟩] X.env)).any (·.1.isNone) = false := by rfl)
    (h5 : (backToKw pos (keywordEach [⟨some "default", .Constant .none jj p2, kpos⟩] X.env)).filterMap (·.1)  = ([Str.ofString "default"] : List Str) := by rfl) :
    EV Γ X W (.Call (.Name "min" p) [e] [⟨some "default", .Constant .none jj p2, kpos⟩] pos) (un1 dMnN f) := by
  refine ⟨PE.imp (pe_callBK (call_minN hc hu) hg hm hv (ea_cons ha ea_nil hs).pa (pk_cons pe_non pk_nil) (by decide) (by decide) h1 h2 h3 h4 h5) fun σ H Q ⟨st, F, S, h⟩ => ?_⟩
  have h' : fin Γ X.K W (rP X.K) F st σ H (((mCons f mNil).bind fun ops => match ops with | [x] => ap1 dMnN x | _ => M.fail) st) Q := by
    have e : ((mCons f mNil).bind fun ops => match ops with | [x] => ap1 dMnN x | _ => M.fail) st = un1 dMnN f st := by
      unfold un1 mCons mNil M.bind M.ret
      cases f st <;> rfl
    rw [e]; exact h
  refine fin_bind rP_mono S h' fun ops st1 vs H1 F1 S1 G r q => ?_
  have r : RpOs X.K F1 σ ops vs := r
  split at q
  · rename_i x
    cases r with
    | cons r1 r2 =>
      cases r2
      unfold ap1 at q
      split at q
      · rename_i d e1
        have rr := S1.look r1 e1
        cases hd : dMnN d with
        | none => rw [hd] at q; exact q.elim
        | some z =>
          rw [hd] at q
          unfold dMnN at hd
          split at hd
          · rename_i ds
            cases rr with
            | lst sx qx =>
              split at hd
              · rename_i e2
                cases hd
                have e3 := ints_of e2 qx
                subst e3
                exact ⟨_, [], rfl, rfl, .inl (.inl sx), fin_ret S1 q .non⟩
              · rename_i n ns e2
                cases hd
                have e3 := ints_of e2 qx
                subst e3
                exact ⟨_, n :: ns, rfl, rfl, .inl (.inl sx), fin_ret S1 q (.int _)⟩
              · cases hd
          · cases hd
      · exact q.elim
  · exact q.elim
/-! divmod -/
theorem call_dmF : CallR X (.builtin "divmod") (fun xs H Q => ∃ i j, xs = [.int i, .int j] ∧ CDivP i j ∧ NewT [.int (i / j), .int (i % j)] H Q) := by
  intro pins s σ H xs us Q I r h
  obtain ⟨i, j, rfl, ⟨h1, h2⟩, q⟩ := h
  obtain ⟨u, v, rfl, ⟨t, rfl⟩, ⟨t2, rfl⟩⟩ := vals2 r
  refine divmod_int (by omega) ?_ (.inl h2)
  rw [Int.fdiv_eq_ediv_of_nonneg i (by omega), Int.fmod_eq_emod_of_nonneg i (by omega)]
  exact new_tup (tk := s.toks + 1 + 1) I (vals := [.int (i / j) s.toks, .int (i % j) (s.toks + 1)]) (ws := [.int (i / j), .int (i % j)]) (.cons ⟨_, rfl⟩ (.cons ⟨_, rfl⟩ .nil)) (by simp [sizeLine_eq]) q
def dDvm : List D → Option D
  | [.int i, .int j] => chk (0 < j ∧ i.natAbs < 2 ^ 1000) (.tuple [.int (i / j), .int (i % j)])
  | _ => none
theorem sA_dvm : SA K (fun xs H Q => ∃ i j, xs = [.int i, .int j] ∧ CDivP i j ∧ NewT [.int (i / j), .int (i % j)] H Q) dDvm := by
  intro F H ds z xs Q hF r q k
  unfold dDvm at q
  split at q
  · rename_i i j
    obtain ⟨⟨c1, c2⟩, rfl⟩ := chk_some q
    cases r with
    | cons r t =>
      cases t with
      | cons r' t =>
        cases t
        cases r
        cases r'
        refine ⟨_, _, rfl, divp_ok c1 ?_, fun p ob hp nd => ?_⟩
        · have := PyProof.Rows.intBits_le c2
          omega
        · have A := Add.new (o := .frz ob (.tup [.int (i / j), .int (i % j)])) hF hp (by intro ps z; cases z)
          exact k _ _ _ A (.tup ⟨ob, upd_same, nd⟩ (.cons (.int _) (.cons (.int _) .nil)))
  · cases q
/-! range(i, j, c) -/
def rngC (lo c : Int) (n : Nat) : List D := (List.range n).map fun i => .int (lo + (i : Nat) * c)
theorem rngC_len {lo c : Int} {n : Nat} : (rngC lo c n).length = n := by simp [rngC]
theorem walk_c {F : Hp} {lo c : Int} {n : Nat} : WalkD X.K (Itc lo c n) (rngC lo c n) F := by
  intro i H' F' m fs
  refine ⟨fun d hd => ?_, fun hl => ?_⟩
  · unfold rngC at hd
    rw [List.getElem?_map] at hd
    cases e : (List.range n)[i]? with
    | none => rw [e] at hd; cases hd
    | some j =>
      rw [e] at hd
      cases hd
      obtain ⟨h1, h2⟩ := List.getElem?_eq_some_iff.mp e
      have h3 : i < n := by simpa using h1
      have h4 : j = i := by simpa using h2.symm
      subst h4
      refine ⟨h3, fun x H'' y => ?_⟩
      obtain ⟨rfl, rfl⟩ := y
      exact ⟨F', Add.refl fs, .int _⟩
  · rw [rngC_len] at hl
    exact hl
def rngN (i j c : Int) : Nat := (Builtin.Range.rangeSize i j c).toNat
def rng3M (f g h : M D) : M (List D) := f.bind fun d => g.bind fun e => h.bind fun c => match d, e, c with
  | .int i, .int j, .int c => if c ≠ 0 ∧ c.natAbs < 1073741824 ∧ Builtin.Range.small i j c = true ∧ 0 ≤ Builtin.Range.rangeSize i j c then M.ret (rngC i c (rngN i j c)) else M.fail
  | _, _, _ => M.fail
theorem ei_rng3 {tg a b c : Expr} {p : Pos} {fa fb fc : M D} (ha : EV Γ X W a fa) (hb : EV Γ X W b fb) (hcc : EV Γ X W c fc) (hm : X.mg "range" = none) (hg : Gl X "range" := by rfl) (hs : starEach [a, b, c] X.env = (false, eval a X.env) :: starEach [b, c] X.env := by rfl) (hs2 : starEach [b, c] X.env = (false, eval b X.env) :: starEach [c] X.env := by rfl)
    (hs3 : starEach [c] X.env = (false, eval c X.env) :: starEach [] X.env := by rfl) (hpl : (backTo pos (starEach [b, c] X.env)).any (·.1) = false := by rfl) : EI Γ X W tg (.Call (.Name "range" p) [a, b, c] [] pos) (rng3M fa fb fc) := by
  refine ⟨PI.imp (pi_range3 hg hm (el_cons ha (el_cons hb (el_cons hcc el_nil hs3) hs2) hs).pa hs hpl) fun σ H R ⟨st, F, S, h⟩ => ?_⟩
  have h' : fin Γ X.K W (rW X.K) F st σ H (((mCons fa (mCons fb (mCons fc mNil))).bind fun ds => match ds with | [.int i, .int j, .int c] => (if c ≠ 0 ∧ c.natAbs < 1073741824 ∧ Builtin.Range.small i j c = true ∧ 0 ≤ Builtin.Range.rangeSize i j c then M.ret (rngC i c (rngN i j c)) else M.fail) | _ => M.fail) st) R := by
    have e : ((mCons fa (mCons fb (mCons fc mNil))).bind fun ds => match ds with | [.int i, .int j, .int c] => (if c ≠ 0 ∧ c.natAbs < 1073741824 ∧ Builtin.Range.small i j c = true ∧ 0 ≤ Builtin.Range.rangeSize i j c then M.ret (rngC i c (rngN i j c)) else M.fail) | _ => M.fail) st = rng3M fa fb fc st := by
      unfold rng3M mCons mNil M.bind M.ret
      cases fa st with
      | ok d st1 =>
        simp only
        cases fb st1 with
        | ok e st2 =>
          simp only
          cases fc st2 with
          | ok u st3 => cases d <;> cases e <;> cases u <;> rfl
          | ex _ _ => rfl
          | no => rfl
        | ex _ _ => rfl
        | no => rfl
      | ex _ _ => rfl
      | no => rfl
    rw [e]; exact h
  refine fin_bind rW_mono S h' fun ds st1 vs H1 F1 S1 G r h1 => ?_
  split at h1
  · rename_i i j k
    split at h1
    · rename_i cnd
      cases (show RpA X.K F1 [.int i, .int j, .int k] vs from r) with
      | cons r1 r2 =>
        cases r1
        cases r2 with
        | cons r3 r4 =>
          cases r3
          cases r4 with
          | cons r5 r6 =>
            cases r5
            cases r6
            exact ⟨i, j, k, rngN i j k, rfl, ⟨cnd.1, cnd.2.1, cnd.2.2.1, by unfold rngN; omega⟩, fin_ret S1 h1 walk_c⟩
    · exact h1.elim
  · exact h1.elim
/-! len of a dict -/
def dLenK : List D → Option D
  | [.dict kvs] => some (.int (kvs.length : Nat))
  | _ => none
theorem sA_lenK : SA K (fun xs H Q => ∃ a kvs, xs = [V.ref a] ∧ H a = some (.dK kvs) ∧ Q (.int kvs.length) H) dLenK := by
  intro F H ds z xs Q hF r q k
  unfold dLenK at q
  split at q
  · cases q
    cases r with
    | cons r t =>
      cases t
      cases r with
      | dct e qx =>
        cases qx with
        | dk qk =>
          refine ⟨_, _, rfl, e, ?_⟩
          rw [← qk.length]
          exact k _ _ _ (Add.refl hF) (.int _)
  · cases q
end
end Sk
set_option maxHeartbeats 1000000
/-! reckoning with the mirrors: walks of pairs, more built-ins -/
namespace Sk
open PySem PySem.Spec PyProof.Rows L2
def en1 (d : D) : M (List D) := match d with
  | .list ds => M.ret (enuD 0 ds)
  | .tuple ds => M.ret (enuD 0 ds)
  | _ => M.fail
theorem e_enuM {f : M D} {st : List Sl} : enuM f st = (f st).th en1 := Eq.trans rfl rfl
theorem en1_l {ds : List D} {st : List Sl} : en1 (.list ds) st = .ok (enuD 0 ds) st := Eq.trans rfl rfl
theorem en1_t {ds : List D} {st : List Sl} : en1 (.tuple ds) st = .ok (enuD 0 ds) st := Eq.trans rfl rfl
def zi1 (d e : D) : M (List D) := match d, e with
  | .list ds, .list es => M.ret (zipD ds es)
  | _, _ => M.fail
theorem e_zipM {f g : M D} {st : List Sl} : zipM f g st = (f st).th fun d => g.bind (zi1 d) := by
  unfold zipM M.bind Out.th
  cases f st <;> rfl
theorem zi1_l {ds es : List D} {st : List Sl} : zi1 (.list ds) (.list es) st = .ok (zipD ds es) st := Eq.trans rfl rfl
theorem ints_map : ∀ xs : List Int, intsOf (xs.map .int) = some xs
  | [] => rfl
  | x :: xs => by
    rw [List.map_cons]
    unfold intsOf
    rw [ints_map xs]
    rfl
/-- the least of some numbers, none of none -/
def minO : List Int → Option Int
  | [] => none
  | n :: ns => some (ns.foldl min n)
def encOI : Option Int → D
  | some i => .int i
  | none => .none
theorem dMnN_i (xs : List Int) : dMnN (.list (xs.map .int)) = some (encOI (minO xs)) := by
  unfold dMnN
  simp only
  rw [ints_map]
  cases xs <;> rfl
theorem dMx_l {f : Int → Int → Int} {n : Int} {ns : List Int} : dMx f [.list ((n :: ns).map .int)] = some (.int (ns.foldl f n)) := by
  unfold dMx mxOf
  simp only
  rw [ints_map]
theorem dMx_t {f : Int → Int → Int} {n : Int} {ns : List Int} : dMx f [.tuple ((n :: ns).map .int)] = some (.int (ns.foldl f n)) := by
  unfold dMx mxOf
  simp only
  rw [ints_map]
end Sk
namespace Sk
open PySem PySem.Spec PyProof.Rows L2
/-! loops by what holds at each turn -/
theorem asg_nm {i : Nat} {d : D} {st : List Sl} : asg (.nm i) d st = some (st.set i (.dat d)) := Eq.trans rfl rfl
theorem asg_tp {is : List Nat} {xs : List D} {st : List Sl} (h : xs.length = is.length) : asg (.tp is) (.tuple xs) st = some (put is (xs.map fun d => (false, d)) st) := if_pos h
def Goes (o : SOut) (st : List Sl) : Prop := o = .nx st ∨ o = .ct st
theorem for_inv {t : Tg} {body : MS} (S : List D → List Sl → Prop) (Post : SOut → Prop) (h0 : ∀ st, S [] st → Post (.nx st))
    (step : ∀ d ds st, S (d :: ds) st → ∃ st1, asg t d st = some st1 ∧ ((∃ st2, Goes (body st1) st2 ∧ S ds st2) ∨ (∃ st2, body st1 = .bk st2 ∧ Post (.nx st2)) ∨ ∃ v st2, body st1 = .rt v st2 ∧ Post (.rt v st2))) :
    ∀ {ds : List D} {st : List Sl}, S ds st → Post (forL t body [] ds st)
  | [], st, h => h0 st h
  | d :: ds, st, h => by
    obtain ⟨st1, e1, k⟩ := step d ds st h
    unfold forL
    rw [e1]
    simp only
    rcases k with ⟨st2, e2, h2⟩ | ⟨st2, e2, h2⟩ | ⟨v, st2, e2, h2⟩
    · rcases e2 with e2 | e2 <;> rw [e2] <;> exact for_inv S Post h0 step h2
    · rw [e2]; exact h2
    · rw [e2]; exact h2
/-- .. the loop that runs through -/
theorem for_all {t : Tg} {body : MS} (S : List D → List Sl → Prop) (step : ∀ d ds st, S (d :: ds) st → ∃ st1 st2, asg t d st = some st1 ∧ body st1 = .nx st2 ∧ S ds st2) {ds : List D} {st : List Sl} (h : S ds st) : ∃ st', forL t body [] ds st = .nx st' ∧ S [] st' :=
  for_inv S (fun o => ∃ st', o = .nx st' ∧ S [] st') (fun st h => ⟨st, rfl, h⟩) (fun d ds st h => by
    obtain ⟨st1, st2, e1, e2, h2⟩ := step d ds st h
    exact ⟨st1, e1, .inl ⟨st2, .inl e2, h2⟩⟩) h
theorem whl_inv {c : M Bool} {body : MS} (S : Nat → List Sl → Prop) (Post : SOut → Prop) (hno : Post .no → False)
    (step : ∀ m st, S m st → (∃ st1, c st = .ok false st1 ∧ Post (.nx st1)) ∨ ∃ st1, c st = .ok true st1 ∧ ((∃ st2, Goes (body st1) st2 ∧ ∃ m', m' < m ∧ S m' st2) ∨ (∃ st2, body st1 = .bk st2 ∧ Post (.nx st2)) ∨ ∃ v st2, body st1 = .rt v st2 ∧ Post (.rt v st2)))
    {m : Nat} {st : List Sl} (h : S m st) : Post (whlS c body [] st) := by
  have key : ∀ (m : Nat) (st : List Sl), S m st → ∃ n, isNo (whlL c body [] n st) = false ∧ Post (whlL c body [] n st) := by
    intro m
    induction m using Nat.strongRecOn with
    | ind m ih =>
      intro st h
      rcases step m st h with ⟨st1, e1, p⟩ | ⟨st1, e1, k⟩
      · refine ⟨1, ?_⟩
        unfold whlL
        rw [e1]
        exact ⟨rfl, p⟩
      · rcases k with ⟨st2, e2, m', l, h2⟩ | ⟨st2, e2, p⟩ | ⟨v, st2, e2, p⟩
        · obtain ⟨n, q1, q2⟩ := ih m' l st2 h2
          refine ⟨n + 1, ?_⟩
          unfold whlL
          rw [e1]
          rcases e2 with e2 | e2 <;> (simp only; rw [e2]; exact ⟨q1, q2⟩)
        · refine ⟨1, ?_⟩
          unfold whlL
          rw [e1]
          simp only
          rw [e2]
          exact ⟨rfl, p⟩
        · refine ⟨1, ?_⟩
          unfold whlL
          rw [e1]
          simp only
          rw [e2]
          exact ⟨rfl, p⟩
  obtain ⟨n, q1, q2⟩ := key m st h
  rw [whlS_eq n (by exact q1)]
  exact q2
/-! append, pop, store -/
def apd (i : Nat) (d : D) : M D := fun st => match st[i]? with
  | some (.own (.list xs)) => if xs.length < cap then .ok .none (st.set i (.own (.list (xs ++ [d])))) else .no
  | _ => .no
theorem e_appM {i : Nat} {f : M D} {st : List Sl} : appM i f st = if isOwnL st[i]? = true then (f st).th (apd i) else .no := by
  unfold appM
  split
  · unfold M.bind Out.th
    cases f st <;> rfl
  · rfl
theorem isOwnL_l {xs : List D} : isOwnL (some (.own (.list xs))) = true := Eq.trans rfl rfl
def apo (o : Option Sl) (i : Nat) (d : D) : M D := fun st => match o with
  | some (.own (.list xs)) => if xs.length < cap then .ok .none (st.set i (.own (.list (xs ++ [d])))) else .no
  | _ => .no
theorem e_apd {i : Nat} {d : D} {st : List Sl} : apd i d st = apo st[i]? i d st := by
  unfold apd apo
  cases st[i]? with
  | none => rfl
  | some s => cases s <;> rfl
theorem apo_l {i : Nat} {d : D} {st : List Sl} {xs : List D} : apo (some (.own (.list xs))) i d st = if xs.length < cap then .ok .none (st.set i (.own (.list (xs ++ [d])))) else .no := Eq.trans rfl rfl
/-! the least of some numbers -/
theorem foldl_min (n : Int) : ∀ ns : List Int, (ns.foldl min n ∈ n :: ns) ∧ ∀ y ∈ n :: ns, ns.foldl min n ≤ y
  | [] => ⟨by simp, fun y h => by simp at h; simp [h]⟩
  | k :: ns => by
    obtain ⟨h1, h2⟩ := foldl_min (min n k) ns
    rw [List.foldl_cons]
    refine ⟨?_, fun y hy => ?_⟩
    · rcases List.mem_cons.mp h1 with h | h
      · rw [h]
        have : min n k = n ∨ min n k = k := by omega
        rcases this with z | z <;> rw [z] <;> simp
      · exact List.mem_cons_of_mem _ (List.mem_cons_of_mem _ h)
    · have h0 := h2 (min n k) (List.mem_cons_self ..)
      rcases List.mem_cons.mp hy with rfl | hy
      · exact Int.le_trans h0 (Int.min_le_left ..)
      · rcases List.mem_cons.mp hy with rfl | hy
        · exact Int.le_trans h0 (Int.min_le_right ..)
        · exact h2 y (List.mem_cons_of_mem _ hy)
theorem minO_some {xs : List Int} {m : Int} (h : minO xs = some m) : m ∈ xs ∧ ∀ y ∈ xs, m ≤ y := by
  cases xs with
  | nil => cases h
  | cons n ns =>
    cases h
    exact foldl_min n ns
theorem minO_none {xs : List Int} (h : minO xs = none) : xs = [] := by
  cases xs with
  | nil => rfl
  | cons n ns => cases h
theorem minO_eq {xs : List Int} {m : Int} (h1 : m ∈ xs) (h2 : ∀ y ∈ xs, m ≤ y) : minO xs = some m := by
  cases e : minO xs with
  | none =>
    rw [minO_none e] at h1
    cases h1
  | some k =>
    obtain ⟨a, b⟩ := minO_some e
    rw [Int.le_antisymm (b m h1) (h2 k a)]
/-- two lists with the same numbers have the same least one -/
theorem minO_ext {xs ys : List Int} (h : ∀ z, z ∈ xs ↔ z ∈ ys) : minO xs = minO ys := by
  cases e : minO xs with
  | none =>
    have := minO_none e
    subst this
    cases ys with
    | nil => rfl
    | cons y ys => exact absurd ((h y).mpr (List.mem_cons_self ..)) (by simp)
  | some m =>
    obtain ⟨a, b⟩ := minO_some e
    exact (minO_eq ((h m).mp a) fun y hy => b y ((h y).mpr hy)).symm
theorem encOI_none {o : Option Int} : isNone (encOI o) = o.isNone := by cases o <;> rfl
theorem notN_OI {o : Option Int} : dNotN (encOI o) .none = some (.bool o.isSome) := by cases o <;> rfl
theorem isN_OI {o : Option Int} : dIsN (encOI o) .none = some (.bool o.isNone) := by cases o <;> rfl
/-- places of a list of such -/
theorem dIx_OI {xs : List (Option Int)} {i : Int} {k : Nat} (h : i = (k : Int)) (l : k < xs.length) : dIx (.list (xs.map encOI)) (.int i) = some (encOI (xs.getD k none)) := by
  subst h
  rw [dIx_lst (by omega) (by rw [List.length_map]; omega)]
  simp [l]
theorem isN_none : dIsN .none .none = some (.bool true) := Eq.trans rfl rfl
theorem notN_none : dNotN .none .none = some (.bool false) := Eq.trans rfl rfl
theorem isN_int {i : Int} : dIsN (.int i) .none = some (.bool false) := Eq.trans rfl rfl
theorem notN_int {i : Int} : dNotN (.int i) .none = some (.bool true) := Eq.trans rfl rfl
theorem isN_bool {b : Bool} : dIsN (.bool b) .none = some (.bool false) := Eq.trans rfl rfl
theorem notN_bool {b : Bool} : dNotN (.bool b) .none = some (.bool true) := Eq.trans rfl rfl
theorem isN_str {x : Str} : dIsN (.str x) .none = some (.bool false) := Eq.trans rfl rfl
theorem notN_str {x : Str} : dNotN (.str x) .none = some (.bool true) := Eq.trans rfl rfl
theorem isN_list {ds : List D} : dIsN (.list ds) .none = some (.bool false) := Eq.trans rfl rfl
theorem notN_list {ds : List D} : dNotN (.list ds) .none = some (.bool true) := Eq.trans rfl rfl
theorem isN_tup {ds : List D} : dIsN (.tuple ds) .none = some (.bool false) := Eq.trans rfl rfl
theorem notN_tup {ds : List D} : dNotN (.tuple ds) .none = some (.bool true) := Eq.trans rfl rfl
theorem isN_dict {kvs : List (D × D)} : dIsN (.dict kvs) .none = some (.bool false) := Eq.trans rfl rfl
theorem notN_dict {kvs : List (D × D)} : dNotN (.dict kvs) .none = some (.bool true) := Eq.trans rfl rfl
end Sk
namespace Sk
open PySem PySem.Spec PyProof.Rows L2
theorem rngR (lo : Int) (n : Nat) : rngL lo n = (List.range' 0 n).map fun k : Nat => .int (lo + (k : Int)) := by
  unfold rngL
  rw [List.range_eq_range']
/-- a loop over a range: what holds ahead of the turn k -/
theorem for_rng {i : Nat} {body : MS} (lo : Int) (n : Nat) (S : Nat → List Sl → Prop) (step : ∀ k st, k < n → S k st → ∃ st2, body (st.set i (.dat (.int (lo + (k : Int))))) = .nx st2 ∧ S (k + 1) st2) {st : List Sl} (h : S 0 st) :
    ∃ st', forL (.nm i) body [] (rngL lo n) st = .nx st' ∧ S n st' := by
  rw [rngR]
  have key := for_all (t := .nm i) (body := body) (fun ds st => ∃ k, k ≤ n ∧ ds = ((List.range' k (n - k)).map fun k : Nat => .int (lo + (k : Int))) ∧ S k st) (fun d ds st h => by
    obtain ⟨k, hk, e, hS⟩ := h
    cases q : n - k with
    | zero => rw [q] at e; cases e
    | succ m =>
      rw [q, List.range'_succ, List.map_cons] at e
      cases e
      obtain ⟨st2, e2, h2⟩ := step k st (by omega) hS
      exact ⟨_, st2, asg_nm, e2, k + 1, by omega, by rw [show n - (k + 1) = m by omega], h2⟩) (ds := (List.range' 0 n).map fun k : Nat => .int (lo + (k : Int))) (st := st) ⟨0, Nat.zero_le _, rfl, h⟩
  obtain ⟨st', e, k, hk, e2, hS⟩ := key
  have : n - k = 0 := by
    cases q : n - k with
    | zero => rfl
    | succ m => rw [q, List.range'_succ] at e2; cases e2
  have : k = n := by omega
  subst this
  exact ⟨st', e, hS⟩
theorem dNe_nil {xs : List Int} : dNe (.list (xs.map .int)) (.list []) = some (.bool (!xs.isEmpty)) := by
  have s1 : SeqAt.shaped (.list (xs.map PyData.int)) = true := (sh_lst (n := 0) fun x h => by
    obtain ⟨i, _, rfl⟩ := List.mem_map.mp h
    exact sh_int).shaped (by decide)
  have s2 : SeqAt.shaped (.list ([] : List D)) = true := (sh_lst (n := 0) (xs := []) (by simp)).shaped (by decide)
  show chk _ _ = _
  rw [e_chk ⟨s1, s2⟩]
  cases xs <;> simp [PyData.eqv, PyData.eqvAll]
theorem min_or {xs : List Int} (h : xs.isEmpty = false) : dMx min [.list (xs.map .int)] = some (encOI (minO xs)) := by
  cases xs with
  | nil => cases h
  | cons x xs => exact dMx_l
theorem min_nil {xs : List Int} (h : xs.isEmpty = true) : minO xs = none := by
  cases xs with
  | nil => rfl
  | cons x xs => cases h
end Sk
namespace Sk
open PySem PySem.Spec PyProof.Rows L2
theorem dNe_n0 : dNe (.list []) (.list []) = some (.bool false) := dNe_nil (xs := [])
end Sk
namespace Sk
open PySem PySem.Spec PyProof.Rows L2
/-! equality of tuples and lists of numbers, of texts -/
theorem shT_ints (xs : List Int) : Sh 1 (.tuple (xs.map PyData.int)) := sh_tup (n := 0) fun x h => by
  obtain ⟨i, _, rfl⟩ := List.mem_map.mp h
  exact sh_int
theorem shL_ints (xs : List Int) : Sh 1 (.list (xs.map PyData.int)) := sh_lst (n := 0) fun x h => by
  obtain ⟨i, _, rfl⟩ := List.mem_map.mp h
  exact sh_int
theorem eqvAll_ints : ∀ xs ys : List Int, PyData.eqvAll (xs.map .int) (ys.map .int) = (xs == ys)
  | [], [] => rfl
  | [], _ :: _ => rfl
  | _ :: _, [] => rfl
  | x :: xs, y :: ys => by
    rw [List.map_cons, List.map_cons, PyData.eqvAll, eqvAll_ints xs ys]
    rfl
theorem dEq_T (xs ys : List Int) : dEq (.tuple (xs.map .int)) (.tuple (ys.map .int)) = some (.bool (xs == ys)) := by
  show chk _ _ = _
  rw [e_chk ⟨(shT_ints xs).shaped (by decide), (shT_ints ys).shaped (by decide)⟩, PyData.eqv, eqvAll_ints]
theorem dNe_T (xs ys : List Int) : dNe (.tuple (xs.map .int)) (.tuple (ys.map .int)) = some (.bool (!(xs == ys))) := by
  show chk _ _ = _
  rw [e_chk ⟨(shT_ints xs).shaped (by decide), (shT_ints ys).shaped (by decide)⟩, PyData.eqv, eqvAll_ints]
theorem dEq_L (xs ys : List Int) : dEq (.list (xs.map .int)) (.list (ys.map .int)) = some (.bool (xs == ys)) := by
  show chk _ _ = _
  rw [e_chk ⟨(shL_ints xs).shaped (by decide), (shL_ints ys).shaped (by decide)⟩, PyData.eqv, eqvAll_ints]
theorem dNe_L (xs ys : List Int) : dNe (.list (xs.map .int)) (.list (ys.map .int)) = some (.bool (!(xs == ys))) := by
  show chk _ _ = _
  rw [e_chk ⟨(shL_ints xs).shaped (by decide), (shL_ints ys).shaped (by decide)⟩, PyData.eqv, eqvAll_ints]
theorem dEq_OI (a b : Option Int) : dEq (encOI a) (encOI b) = some (.bool (a == b)) := by
  show chk _ _ = _
  have s : ∀ o, SeqAt.shaped (encOI o) = true := fun o => by
    cases o
    · exact (sh_none (n := 0)).shaped (by decide)
    · exact (sh_int (n := 0)).shaped (by decide)
  rw [e_chk ⟨s a, s b⟩]
  cases a <;> cases b <;> rfl
theorem dNe_OI (a b : Option Int) : dNe (encOI a) (encOI b) = some (.bool (!(a == b))) := by
  show chk _ _ = _
  have s : ∀ o, SeqAt.shaped (encOI o) = true := fun o => by
    cases o
    · exact (sh_none (n := 0)).shaped (by decide)
    · exact (sh_int (n := 0)).shaped (by decide)
  rw [e_chk ⟨s a, s b⟩]
  cases a <;> cases b <;> rfl
theorem ne_strs (xs : List Str) (h : (xs.all fun x => (PyData.str x).canLay0) = true) : dNe (.list (xs.map PyData.str)) (.list (xs.map PyData.str)) = some (.bool false) := by
  have s : SeqAt.shaped (.list (xs.map PyData.str)) = true := (sh_lst (n := 0) fun x hx => by
    obtain ⟨y, hy, rfl⟩ := List.mem_map.mp hx
    exact ⟨List.all_eq_true.mp h y hy, Nat.le_refl _⟩).shaped (by decide)
  show chk _ _ = _
  rw [e_chk ⟨s, s⟩]
  have e : ∀ ys : List Str, PyData.eqvAll (ys.map PyData.str) (ys.map PyData.str) = true := fun ys => by
    induction ys with
    | nil => rfl
    | cons y ys ih => rw [List.map_cons, PyData.eqvAll, ih]; simp [PyData.eqv]
  rw [PyData.eqv, e]
  rfl
theorem eq_strs (xs : List Str) (h : (xs.all fun x => (PyData.str x).canLay0) = true) : dEq (.list (xs.map PyData.str)) (.list (xs.map PyData.str)) = some (.bool true) := by
  have s : SeqAt.shaped (.list (xs.map PyData.str)) = true := (sh_lst (n := 0) fun x hx => by
    obtain ⟨y, hy, rfl⟩ := List.mem_map.mp hx
    exact ⟨List.all_eq_true.mp h y hy, Nat.le_refl _⟩).shaped (by decide)
  show chk _ _ = _
  rw [e_chk ⟨s, s⟩]
  have e : ∀ ys : List Str, PyData.eqvAll (ys.map PyData.str) (ys.map PyData.str) = true := fun ys => by
    induction ys with
    | nil => rfl
    | cons y ys ih => rw [List.map_cons, PyData.eqvAll, ih]; simp [PyData.eqv]
  rw [PyData.eqv, e]
end Sk
namespace Sk
open PySem PySem.Spec PyProof.Rows L2
/-! comprehensions over numbers -/
theorem lc_ints {i : Nat} {fe : M D} {g : Int → Int} {xs : List Int} {st : List Sl} (hi : i < st.length) (hc : xs.length ≤ cap) (hf : ∀ x ∈ xs, fe (st.set i (.dat (.int x))) = .ok (.int (g x)) (st.set i (.dat (.int x)))) :
    lcL (.nm i) (M.ret true) fe [i] [] (xs.map .int) st = .ok (.list ((xs.map g).map .int)) st := by
  have num : D → Int := fun d => match d with | .int x => x | _ => 0
  have h := lc_map (fe := fe) (g := fun d => .int (g (match d with | .int x => x | _ => 0))) (ds := xs.map .int) hi (by rw [List.length_map]; exact hc) (fun d hd => by
    obtain ⟨x, hx, rfl⟩ := List.mem_map.mp hd
    exact hf x hx)
  rw [h, List.map_map, List.map_map]
  rfl
theorem lc_intsF {i : Nat} {p : M Bool} {fe : M D} {q : Int → Bool} {g : Int → Int} {xs : List Int} {st : List Sl} (hi : i < st.length) (hc : xs.length ≤ cap) (hp : ∀ x ∈ xs, p (st.set i (.dat (.int x))) = .ok (q x) (st.set i (.dat (.int x)))) (hf : ∀ x ∈ xs, q x = true → fe (st.set i (.dat (.int x))) = .ok (.int (g x)) (st.set i (.dat (.int x)))) :
    lcL (.nm i) p fe [i] [] (xs.map .int) st = .ok (.list (((xs.filter q).map g).map .int)) st := by
  have h := lc_gen (p := p) (fe := fe) (q := fun d => match d with | .int x => q x | _ => false) (g := fun d => .int (g (match d with | .int x => x | _ => 0))) (ds := xs.map .int) (acc := []) hi (by simpa using hc) (fun d hd => by
    obtain ⟨x, hx, rfl⟩ := List.mem_map.mp hd
    exact hp x hx) (fun d hd hq => by
    obtain ⟨x, hx, rfl⟩ := List.mem_map.mp hd
    exact hf x hx hq)
  rw [h, List.nil_append, List.filter_map, List.map_map, List.map_map]
  rfl
theorem filter_map_id {xs : List Int} {q : Int → Bool} : (xs.filter q).map (fun x => x) = xs.filter q := List.map_id' _
/-! slices -/
theorem cut_from {α : Type} {xs : List α} {i : Int} {k : Nat} (h : i = (k : Int)) : cutD xs (some i) none = xs.drop k := by
  subst h
  unfold cutD
  rw [HT.sIx_nat, HT.sIx_none]
  by_cases c : k ≤ xs.length
  · rw [Nat.min_eq_left c, List.take_of_length_le (by rw [List.length_drop]; omega)]
  · rw [Nat.min_eq_right (by omega), List.drop_length, List.drop_of_length_le (by omega)]
    simp
theorem cut_to {α : Type} {xs : List α} {i : Int} {k : Nat} (h : i = (k : Int)) : cutD xs none (some i) = xs.take k := by
  subst h
  unfold cutD
  rw [HT.sIx_nat, HT.sIx_none, List.drop_zero, Nat.sub_zero]
  by_cases c : k ≤ xs.length
  · rw [Nat.min_eq_left c]
  · rw [Nat.min_eq_right (by omega), List.take_length, List.take_of_length_le (by omega)]
theorem cut_mid {α : Type} {xs : List α} {i j : Int} {k m : Nat} (h : i = (k : Int)) (h2 : j = (m : Int)) (l : k ≤ m) (l2 : m ≤ xs.length) : cutD xs (some i) (some j) = (xs.drop k).take (m - k) := by
  subst h h2
  unfold cutD
  rw [HT.sIx_nat, HT.sIx_nat, Nat.min_eq_left l2, Nat.min_eq_left (show k ≤ xs.length by omega)]
theorem cut_last {α : Type} {xs : List α} : cutD xs none (some (-1)) = xs.dropLast := by
  have e : HT.sIx xs.length xs.length (some (-1)) = xs.length - 1 := by
    show (if (-1 : Int) < 0 then ((-1 : Int) + (xs.length : Int)).toNat else min (-1 : Int).toNat xs.length) = _
    rw [if_pos (by omega)]
    omega
  have e0 : HT.sIx xs.length 0 (none : Option Int) = 0 := rfl
  show (xs.drop (HT.sIx xs.length 0 (none : Option Int))).take (HT.sIx xs.length xs.length (some (-1)) - HT.sIx xs.length 0 (none : Option Int)) = _
  rw [e, e0, List.drop_zero, Nat.sub_zero, List.dropLast_eq_take]
theorem dTup_l {xs : List D} : dTup [.list xs] = some (.tuple xs) := Eq.trans rfl rfl
theorem dTup_t {xs : List D} : dTup [.tuple xs] = some (.tuple xs) := Eq.trans rfl rfl
theorem dNeg_i {i : Int} : dNeg (.int i) = some (.int (-i)) := Eq.trans rfl rfl
theorem dCutT_t {xs : List D} {lo hi : Option Int} : dCutT (.tuple xs) lo hi = some (.tuple (cutD xs lo hi)) := Eq.trans rfl rfl
theorem dCutL_l {xs : List D} {lo hi : Option Int} : dCutL (.list xs) lo hi = some (.list (cutD xs lo hi)) := Eq.trans rfl rfl
theorem dAdd_tt {xs ys : List D} (h : xs.length + ys.length ≤ cap) : dAdd (.tuple xs) (.tuple ys) = some (.tuple (xs ++ ys)) := e_chk h
theorem dCat_ll {xs ys : List D} (h : xs.length + ys.length ≤ cap) : dCat (.list xs) (.list ys) = some (.list (xs ++ ys)) := e_chk h
theorem dMod_i {i j : Int} (h : 0 < j) : dMod (.int i) (.int j) = some (.int (i % j)) := e_chk h
theorem dDiv_i {i j : Int} (h : 0 < j) (h2 : j ≤ 1000000000000000000000000000000) : dDiv (.int i) (.int j) = some (.int (i / j)) := e_chk ⟨h, by omega⟩
theorem dMul_r {i j : Int} (h : -10000000000 < j ∧ j < 10000000000) : dMul (.int i) (.int j) = some (.int (i * j)) := e_chk (.inr (by omega))
theorem dMul_l {i j : Int} (h : -10000000000 < i ∧ i < 10000000000) : dMul (.int i) (.int j) = some (.int (i * j)) := e_chk (.inl (by omega))
/-- the last item -/
theorem dIx_last {xs : List D} (h : xs ≠ []) : dIx (.list xs) (.int (-1)) = some (xs.getLastD .none) ∧ dIx (.tuple xs) (.int (-1)) = some (xs.getLastD .none) := by
  have l : 0 < xs.length := List.length_pos_iff.mpr h
  have e : L2.atI xs (-1) = some (xs.getLastD .none) := by
    unfold L2.atI L2.ixN
    rw [if_neg (by omega), if_pos (by omega)]
    have e2 : (-1 + (xs.length : Int)).toNat = xs.length - 1 := by omega
    have e3 : ((xs.length : Int) + -1).toNat = xs.length - 1 := by omega
    simp only [e2, e3]
    show xs[xs.length - 1]? = _
    rw [List.getLastD_eq_getLast?, List.getLast?_eq_getElem?, List.getElem?_eq_getElem (by omega)]
    rfl
  exact ⟨e, e⟩
theorem lastD_map (xs : List Int) (h : xs ≠ []) : (xs.map PyData.int).getLastD .none = .int (xs.getLastD 0) := by
  rw [List.getLastD_eq_getLast?, List.getLastD_eq_getLast?, List.getLast?_map]
  cases e : xs.getLast? with
  | none => exact absurd (List.getLast?_eq_none_iff.mp e) h
  | some x => rfl
theorem dIx_lastT (xs : List Int) (h : xs ≠ []) : dIx (.tuple (xs.map .int)) (.int (-1)) = some (.int (xs.getLastD 0)) := by
  rw [(dIx_last (by simpa using h)).2, lastD_map xs h]
theorem dIx_lastL (xs : List Int) (h : xs ≠ []) : dIx (.list (xs.map .int)) (.int (-1)) = some (.int (xs.getLastD 0)) := by
  rw [(dIx_last (by simpa using h)).1, lastD_map xs h]
theorem dIx_atT {xs : List Int} {i : Int} {k : Nat} (h : i = (k : Int)) (l : k < xs.length) : dIx (.tuple (xs.map .int)) (.int i) = some (.int (xs.getD k 0)) := by
  subst h
  rw [dIx_tup (by omega) (by rw [List.length_map]; omega)]
  simp [l]
theorem dIx_atL {xs : List Int} {i : Int} {k : Nat} (h : i = (k : Int)) (l : k < xs.length) : dIx (.list (xs.map .int)) (.int i) = some (.int (xs.getD k 0)) := by
  subst h
  rw [dIx_lst (by omega) (by rw [List.length_map]; omega)]
  simp [l]
theorem dNe_tnil (xs : List Int) : dNe (.tuple (xs.map .int)) (.tuple []) = some (.bool (!xs.isEmpty)) := by
  have := dNe_T xs []
  rw [List.map_nil] at this
  rw [this]
  cases xs <;> rfl
theorem dEq_tnil (xs : List Int) : dEq (.tuple (xs.map .int)) (.tuple []) = some (.bool xs.isEmpty) := by
  have := dEq_T xs []
  rw [List.map_nil] at this
  rw [this]
  cases xs <;> rfl
/-- (None,) and tuples of numbers -/
theorem shT_N : Sh 1 (.tuple [PyData.none]) := sh_tup (n := 0) fun x h => by
  have : x = .none := by simpa using h
  rw [this]
  exact sh_none
theorem eqvN (xs : List Int) : PyData.eqvAll (xs.map PyData.int) [.none] = false := by
  cases xs with
  | nil => rfl
  | cons x xs => cases xs <;> rfl
theorem dNe_N (xs : List Int) : dNe (.tuple (xs.map .int)) (.tuple [.none]) = some (.bool true) := by
  show chk _ _ = _
  rw [e_chk ⟨(shT_ints xs).shaped (by decide), shT_N.shaped (by decide)⟩, PyData.eqv, eqvN]
  rfl
theorem dEq_N (xs : List Int) : dEq (.tuple (xs.map .int)) (.tuple [.none]) = some (.bool false) := by
  show chk _ _ = _
  rw [e_chk ⟨(shT_ints xs).shaped (by decide), shT_N.shaped (by decide)⟩, PyData.eqv, eqvN]
theorem dNe_NN : dNe (.tuple [.none]) (.tuple [.none]) = some (.bool false) := by
  show chk _ _ = _
  rw [e_chk ⟨shT_N.shaped (by decide), shT_N.shaped (by decide)⟩]
  rfl
theorem dEq_NN : dEq (.tuple [.none]) (.tuple [.none]) = some (.bool true) := by
  show chk _ _ = _
  rw [e_chk ⟨shT_N.shaped (by decide), shT_N.shaped (by decide)⟩]
  rfl
theorem notin_N (xs : List Int) : dNotInL .none (.tuple (xs.map .int)) = some (.bool true) := by
  have fl : (xs.map PyData.int).all flatD = true := by
    rw [List.all_eq_true]
    intro d hd
    obtain ⟨i, _, rfl⟩ := List.mem_map.mp hd
    rfl
  show chk _ _ = _
  rw [e_chk ⟨rfl, fl⟩]
  clear fl
  congr 2
  have : ((xs.map PyData.int).any fun z => PyData.eqv z .none) = false := by
    induction xs with
    | nil => rfl
    | cons x xs ih => rw [List.map_cons, List.any_cons, ih]; rfl
  rw [this]
  rfl
end Sk
namespace Sk
open PySem PySem.Spec PyProof.Rows L2
theorem dNe_t0 : dNe (.tuple []) (.tuple []) = some (.bool false) := dNe_tnil []
theorem dEq_t0 : dEq (.tuple []) (.tuple []) = some (.bool true) := dEq_tnil []
theorem dEq_lnil (xs : List Int) : dEq (.list (xs.map .int)) (.list []) = some (.bool xs.isEmpty) := by
  have := dEq_L xs []
  rw [List.map_nil] at this
  rw [this]
  cases xs <;> rfl
theorem dEq_l0 : dEq (.list []) (.list []) = some (.bool true) := dEq_lnil []
end Sk
set_option maxHeartbeats 0
namespace Zk07
open PySem PySem.Spec PyProof.Rows L2 Sk LamX
def top (i : Nat) : Stmt := PySem.Challenge.pw_sinkstones_k07_whole_walkers_with_a_will.main.body.getD i (.Pass ⟨0, 0, 0, 0⟩)
abbrev S_rests : Stmt := top 1
abbrev d_rests : He.DefD := ⟨("rests", none), "rests", "rests", defArgs S_rests, defBody S_rests, defScope S_rests, [], []⟩
abbrev S_plain : Stmt := top 2
abbrev d_plain : He.DefD := ⟨("plain", none), "plain", "plain", defArgs S_plain, defBody S_plain, defScope S_plain, [], []⟩
abbrev S_item_at : Stmt := top 3
abbrev d_item_at : He.DefD := ⟨("item_at", none), "item_at", "item_at", defArgs S_item_at, defBody S_item_at, defScope S_item_at, [], []⟩
abbrev S_is_from : Stmt := top 15
abbrev d_is_from : He.DefD := ⟨("is_from", none), "is_from", "is_from", defArgs S_is_from, defBody S_is_from, defScope S_is_from, [], []⟩
abbrev S_is_tuple : Stmt := top 16
abbrev d_is_tuple : He.DefD := ⟨("is_tuple", none), "is_tuple", "is_tuple", defArgs S_is_tuple, defBody S_is_tuple, defScope S_is_tuple, [], []⟩
abbrev S_is_ford : Stmt := top 17
abbrev d_is_ford : He.DefD := ⟨("is_ford", none), "is_ford", "is_ford", defArgs S_is_ford, defBody S_is_ford, defScope S_is_ford, [], []⟩
abbrev S_need_ford : Stmt := top 18
abbrev d_need_ford : He.DefD := ⟨("need_ford", none), "need_ford", "need_ford", defArgs S_need_ford, defBody S_need_ford, defScope S_need_ford, [], []⟩
abbrev S_need_width : Stmt := top 19
abbrev d_need_width : He.DefD := ⟨("need_width", none), "need_width", "need_width", defArgs S_need_width, defBody S_need_width, defScope S_need_width, [], []⟩
abbrev S_strength : Stmt := top 20
abbrev d_strength : He.DefD := ⟨("strength", none), "strength", "strength", defArgs S_strength, defBody S_strength, defScope S_strength, [], []⟩
abbrev S_is_will : Stmt := top 22
abbrev d_is_will : He.DefD := ⟨("is_will", none), "is_will", "is_will", defArgs S_is_will, defBody S_is_will, defScope S_is_will, [], []⟩
abbrev S_need_will : Stmt := top 23
abbrev d_need_will : He.DefD := ⟨("need_will", none), "need_will", "need_will", defArgs S_need_will, defBody S_need_will, defScope S_need_will, [], []⟩
abbrev S_gone : Stmt := top 24
abbrev d_gone : He.DefD := ⟨("gone", none), "gone", "gone", defArgs S_gone, defBody S_gone, defScope S_gone, [], []⟩
abbrev S_wide_way : Stmt := top 25
abbrev d_wide_way : He.DefD := ⟨("wide_way", none), "wide_way", "wide_way", defArgs S_wide_way, defBody S_wide_way, defScope S_wide_way, [], []⟩
abbrev S_calendar_by : Stmt := top 26
abbrev d_calendar_by : He.DefD := ⟨("calendar_by", none), "calendar_by", "calendar_by", defArgs S_calendar_by, defBody S_calendar_by, defScope S_calendar_by, [], []⟩
abbrev S_led : Stmt := top 27
abbrev d_led : He.DefD := ⟨("led", none), "led", "led", defArgs S_led, defBody S_led, defScope S_led, [], []⟩
abbrev S_led_calendar : Stmt := top 28
abbrev d_led_calendar : He.DefD := ⟨("led_calendar", none), "led_calendar", "led_calendar", defArgs S_led_calendar, defBody S_led_calendar, defScope S_led_calendar, [], []⟩
abbrev S_led_steps : Stmt := top 29
abbrev d_led_steps : He.DefD := ⟨("led_steps", none), "led_steps", "led_steps", defArgs S_led_steps, defBody S_led_steps, defScope S_led_steps, [], []⟩
abbrev S_stuck_at : Stmt := top 30
abbrev d_stuck_at : He.DefD := ⟨("stuck_at", none), "stuck_at", "stuck_at", defArgs S_stuck_at, defBody S_stuck_at, defScope S_stuck_at, [], []⟩
abbrev S__law_source : Stmt := top 32
abbrev d__law_source : He.DefD := ⟨("_law_source", none), "_law_source", "_law_source", defArgs S__law_source, defBody S__law_source, defScope S__law_source, [], []⟩
abbrev S__law_draw : Stmt := top 33
abbrev d__law_draw : He.DefD := ⟨("_law_draw", none), "_law_draw", "_law_draw", defArgs S__law_draw, defBody S__law_draw, defScope S__law_draw, [], []⟩
abbrev S__law_choice : Stmt := top 34
abbrev d__law_choice : He.DefD := ⟨("_law_choice", none), "_law_choice", "_law_choice", defArgs S__law_choice, defBody S__law_choice, defScope S__law_choice, [], []⟩
abbrev S__law_ford : Stmt := top 35
abbrev d__law_ford : He.DefD := ⟨("_law_ford", none), "_law_ford", "_law_ford", defArgs S__law_ford, defBody S__law_ford, defScope S__law_ford, [], []⟩
abbrev S__law_stone : Stmt := top 36
abbrev d__law_stone : He.DefD := ⟨("_law_stone", none), "_law_stone", "_law_stone", defArgs S__law_stone, defBody S__law_stone, defScope S__law_stone, [], []⟩
abbrev S__law_told : Stmt := top 37
abbrev d__law_told : He.DefD := ⟨("_law_told", none), "_law_told", "_law_told", defArgs S__law_told, defBody S__law_told, defScope S__law_told, [], []⟩
abbrev S__law_least : Stmt := top 38
abbrev d__law_least : He.DefD := ⟨("_law_least", none), "_law_least", "_law_least", defArgs S__law_least, defBody S__law_least, defScope S__law_least, [], []⟩
abbrev S__law_will : Stmt := top 39
abbrev d__law_will : He.DefD := ⟨("_law_will", none), "_law_will", "_law_will", defArgs S__law_will, defBody S__law_will, defScope S__law_will, [], []⟩
abbrev S__law_led : Stmt := top 40
abbrev d__law_led : He.DefD := ⟨("_law_led", none), "_law_led", "_law_led", defArgs S__law_led, defBody S__law_led, defScope S__law_led, [], []⟩
abbrev S__law_far_steps : Stmt := top 41
abbrev d__law_far_steps : He.DefD := ⟨("_law_far_steps", none), "_law_far_steps", "_law_far_steps", defArgs S__law_far_steps, defBody S__law_far_steps, defScope S__law_far_steps, [], []⟩
abbrev S__law_right : Stmt := top 42
abbrev d__law_right : He.DefD := ⟨("_law_right", none), "_law_right", "_law_right", defArgs S__law_right, defBody S__law_right, defScope S__law_right, [], []⟩
abbrev S__law_word : Stmt := top 43
abbrev d__law_word : He.DefD := ⟨("_law_word", none), "_law_word", "_law_word", defArgs S__law_word, defBody S__law_word, defScope S__law_word, [], []⟩
abbrev S__law_written_right : Stmt := top 44
abbrev d__law_written_right : He.DefD := ⟨("_law_written_right", none), "_law_written_right", "_law_written_right", defArgs S__law_written_right, defBody S__law_written_right, defScope S__law_written_right, [], []⟩
abbrev S_law : Stmt := top 45
abbrev d_law : He.DefD := ⟨("law", none), "law", "law", defArgs S_law, defBody S_law, defScope S_law, [], []⟩
abbrev info : Info := ⟨[d_rests, d_plain, d_item_at, d_is_from, d_is_tuple, d_is_ford, d_need_ford, d_need_width, d_strength, d_is_will, d_need_will, d_gone, d_wide_way, d_calendar_by, d_led, d_led_calendar, d_led_steps, d_stuck_at, d__law_source, d__law_draw, d__law_choice, d__law_ford, d__law_stone, d__law_told, d__law_least, d__law_will, d__law_led, d__law_far_steps, d__law_right, d__law_word, d__law_written_right, d_law], ["abs", "bool", "dict", "divmod", "int", "isinstance", "len", "max", "min", "range", "sum", "tuple", "zip"], [("ROUND", 8), ("LENGTH", 6), ("BEARS", 3), ("GREAT", 1000000000000000000000000000000), ("NEAR", 60)], ["InvalidFord", "InvalidWidth", "InvalidWill"], ["law"]⟩
section
variable {P : Program} {w : World} {K : PySem.W.Frag} {mg : Str → Option Value} {base : Heap} {Γ : Gm}
/-! rests -/
theorem nd_rests : (["again", "rise", "size", "part", "late", "item"] : List Str).Nodup := by decide
theorem sc_rests : FnScope ["again", "rise", "size", "part", "late", "item"] ["again", "rise", "size"] (defScope S_rests) := ⟨rfl, rfl, rfl, by decide +kernel, rfl, by decide +kernel, by decide +kernel⟩
def C1_rests : M D :=
  bin2 dAdd (nam 5) (nam 1)
def C2_rests : M D :=
  bin2 dAdd (nam 5) (nam 3)
def b_rests : MS :=
  seqS (iteS (mOr ((bin2 dNe ((bin2 dMod ((opA dLen (mCons (nam 0) (mNil))).bind fun d => M.ret (.dat d)) (nam 2)).bind fun d => M.ret (.dat d)) ((M.ret (.int 0)).bind fun d => M.ret (.dat d))).bind toB) ((bin2 dNe ((bin2 dMod ((bin2 dMul (nam 1) (nam 2)).bind fun d => M.ret (.dat d)) ((opA dLen (mCons (nam 0) (mNil))).bind fun d => M.ret (.dat d))).bind fun d => M.ret (.dat d)) ((M.ret (.int 0)).bind fun d => M.ret (.dat d))).bind toB)) (retS (M.ret (.bool false))) (fun st => .nx st))
  (seqS (setS 3 (bin2 dDiv ((bin2 dMul (nam 1) (nam 2)).bind fun d => M.ret (.dat d)) ((opA dLen (mCons (nam 0) (mNil))).bind fun d => M.ret (.dat d))))
  (seqS (setS 4 (bin2 dAdd ((sliM dCutT (nam 0) (partM ((nam 2).bind frz)) (M.ret none)).bind fun d => M.ret (.dat d)) ((opA dTup (mCons ((lcM (.nm 5) (seqM (sliM dCutT (nam 0) (M.ret none) (partM ((nam 2).bind frz)))) (M.ret true) (C1_rests) [5]).bind fun d => M.ret (.dat d)) (mNil))).bind fun d => M.ret (.dat d))))
  (retS (bin2 dEq (nam 4) ((opA dTup (mCons ((lcM (.nm 5) (seqM ((nam 0).bind frz)) (M.ret true) (C2_rests) [5]).bind fun d => M.ret (.dat d)) (mNil))).bind fun d => M.ret (.dat d))))))
def m_rests : M D := fnOf 3 [] b_rests
theorem ok_rests (h : FxI info K mg base Γ) : Fn Γ P w K mg base (rP K) 1 "rests" ["again", "rise", "size"] m_rests := by
  obtain ⟨fd, F⟩ := h.fn 0 d_rests rfl
  have hb := F.bindsN (ps := ["again", "rise", "size"]) fun _ _ _ _ _ _ us hl => match us, hl with | [_, _, _], _ => rfl
  exact Sk.fn_of F (h.glo "rests" (by decide)) hb (fn_okC (k := 0) F sc_rests fun A outer s H E hr => (ess_cons (es_if (EW.et (ew_or (et_cmp (op_neD (u64 hr)) s_ne (eo_ev (ev_op op_mod s_mod (eo_ev (ev_cb call_len sA_len (h.free "len" (by decide)) boot_len (ea_cons (eo_nam 0) ea_nil))) (eo_nam 2))) (eo_ev ev_int)) (ew_or1 (et_cmp (op_neD (u64 hr)) s_ne (eo_ev (ev_op op_mod s_mod (eo_ev (ev_op op_mul s_mul (eo_nam 1) (eo_nam 2))) (eo_ev (ev_cb call_len sA_len (h.free "len" (by decide)) boot_len (ea_cons (eo_nam 0) ea_nil))))) (eo_ev ev_int))))) (ess_one (es_ret ev_bl)) ess_nil)
  (ess_cons (es_set (i := 3) nd_rests (by decide) (ev_op op_fdivW s_div (eo_ev (ev_op op_mul s_mul (eo_nam 1) (eo_nam 2))) (eo_ev (ev_cb call_len sA_len (h.free "len" (by decide)) boot_len (ea_cons (eo_nam 0) ea_nil)))))
  (ess_cons (es_set (i := 4) nd_rests (by decide) (ev_op op_addA s_add (eo_ev (ev_slT (eo_nam 0) (ep_some (ev_nam 2)) ep_none)) (eo_ev (ev_ct call_tupF sA_tup (h.free "tuple" (by decide)) boot_tuple (ea_cons (eo_ev (ev_en (en_lc [("item", 5)] (g := gName 5) rfl nd_rests (ei_seq (ev_slT (eo_nam 0) ep_none (ep_some (ev_nam 2)))) (blkOk_by (by rfl)) (by decide) (fun s H C cl fp => (eg_nm nd_rests)) (fun s H C cl fp => ets_nil) (fun s H C cl fp => (ev_op op_addA s_add (eo_nam 5) (eo_nam 1)))))) ea_nil)))))
  (ess_one (es_ret (ev_cmp (op_eqD (u64 hr)) s_eq (eo_nam 4) (eo_ev (ev_ct call_tupF sA_tup (h.free "tuple" (by decide)) boot_tuple (ea_cons (eo_ev (ev_en (en_lc [("item", 5)] (g := gName 5) rfl nd_rests (ei_seq (ev_nam 0)) (blkOk_by (by rfl)) (by decide) (fun s H C cl fp => (eg_nm nd_rests)) (fun s H C cl fp => ets_nil) (fun s H C cl fp => (ev_op op_addA s_add (eo_nam 5) (eo_nam 3)))))) ea_nil))))))))))
/-! plain -/
theorem nd_plain : (["early", "again", "rise", "size"] : List Str).Nodup := by decide
theorem sc_plain : FnScope ["early", "again", "rise", "size"] ["early", "again", "rise"] (defScope S_plain) := ⟨rfl, rfl, rfl, by decide +kernel, rfl, by decide +kernel, by decide +kernel⟩
noncomputable def C1_plain : M D :=
  (nam 3).bind frz
noncomputable def F1_plain : M Bool :=
  (callM m_rests (mCons (nam 1) (mCons (nam 2) (mCons (nam 3) (mNil))))).bind toB
noncomputable def L1_plain : MS :=
  seqS (setS 1 (bin2 dAdd ((mTup (mCons (bin2 dIx (nam 0) ((un1 dNeg ((M.ret (.int 1)).bind fun d => M.ret (.dat d))).bind fun d => M.ret (.dat d))) (mNil))).bind fun d => M.ret (.dat d)) ((sliM dCutT (nam 1) (M.ret none) (partM (un1 dNeg ((M.ret (.int 1)).bind fun d => M.ret (.dat d))))).bind fun d => M.ret (.dat d))))
  (setS 0 (sliM dCutT (nam 0) (M.ret none) (partM (un1 dNeg ((M.ret (.int 1)).bind fun d => M.ret (.dat d))))))
noncomputable def W1_plain : M Bool :=
  mAnd ((bin2 dNe (nam 0) ((mTup (mNil)).bind fun d => M.ret (.dat d))).bind toB) (mAnd ((bin2 dNotN ((bin2 dIx (nam 0) ((un1 dNeg ((M.ret (.int 1)).bind fun d => M.ret (.dat d))).bind fun d => M.ret (.dat d))).bind fun d => M.ret (.dat d)) ((M.ret .none).bind fun d => M.ret (.dat d))).bind toB) ((bin2 dEq ((bin2 dAdd ((bin2 dIx (nam 0) ((un1 dNeg ((M.ret (.int 1)).bind fun d => M.ret (.dat d))).bind fun d => M.ret (.dat d))).bind fun d => M.ret (.dat d)) (nam 2)).bind fun d => M.ret (.dat d)) ((bin2 dIx (nam 1) ((un1 dNeg ((M.ret (.int 1)).bind fun d => M.ret (.dat d))).bind fun d => M.ret (.dat d))).bind fun d => M.ret (.dat d))).bind toB))
noncomputable def b_plain : MS :=
  seqS (iteS ((bin2 dNe (nam 1) ((mTup (mCons (M.ret .none) (mNil))).bind fun d => M.ret (.dat d))).bind toB) (seqS (setS 3 (bin2 dIx ((lcM (.nm 3) (rng2M (M.ret (.int 1)) (bin2 dAdd ((opA dLen (mCons (nam 1) (mNil))).bind fun d => M.ret (.dat d)) ((M.ret (.int 1)).bind fun d => M.ret (.dat d)))) (F1_plain) (C1_plain) [3]).bind fun d => M.ret (.dat d)) ((M.ret (.int 0)).bind fun d => M.ret (.dat d))))
  (seqS (setS 2 (bin2 dDiv ((bin2 dMul (nam 2) (nam 3)).bind fun d => M.ret (.dat d)) ((opA dLen (mCons (nam 1) (mNil))).bind fun d => M.ret (.dat d))))
  (seqS (setS 1 (sliM dCutT (nam 1) (M.ret none) (partM ((nam 3).bind frz))))
  (whlS (W1_plain) (L1_plain) [])))) (fun st => .nx st))
  (retS (mTup (mCons ((nam 0).bind frz) (mCons ((nam 1).bind frz) (mCons ((nam 2).bind frz) (mNil))))))
noncomputable def m_plain : M D := fnOf 1 [] b_plain
theorem ok_plain (h : FxI info K mg base Γ) : Fn Γ P w K mg base (rP K) 2 "plain" ["early", "again", "rise"] m_plain := by
  obtain ⟨fd, F⟩ := h.fn 1 d_plain rfl
  have hb := F.bindsN (ps := ["early", "again", "rise"]) fun _ _ _ _ _ _ us hl => match us, hl with | [_, _, _], _ => rfl
  exact Sk.fn_of F (h.glo "plain" (by decide)) hb (fn_okC (k := 1) F sc_plain fun A outer s H E hr => (ess_cons (es_if (et_cmp (op_neD (u64 hr)) s_ne (eo_nam 1) (eo_ev (ev_tup (el_cons ev_non el_nil)))) (ess_cons (es_set (i := 3) nd_plain (by decide) (ev_ix ix_seq s_ix (eo_ev (ev_en (en_lc [("size", 3)] (g := gName 3) rfl nd_plain (ei_rng2 ev_int (ev_op op_addA s_add (eo_ev (ev_cb call_len sA_len (h.free "len" (by decide)) boot_len (ea_cons (eo_nam 1) ea_nil))) (eo_ev ev_int)) (h.free "range" (by decide))) (blkOk_by (by rfl)) (by decide) (fun s H C cl fp => (eg_nm nd_plain)) (fun s H C cl fp => (ets_one (et_val (ev_fn (ok_rests h) hr (by decide) L2.takes0 (len_cons (len_cons (len_cons len_nil))) (ea_cons (eo_nam 1) (ea_cons (eo_nam 2) (ea_cons (eo_nam 3) ea_nil))))))) (fun s H C cl fp => (ev_nam 3))))) (eo_ev ev_int)))
  (ess_cons (es_set (i := 2) nd_plain (by decide) (ev_op op_fdivW s_div (eo_ev (ev_op op_mul s_mul (eo_nam 2) (eo_nam 3))) (eo_ev (ev_cb call_len sA_len (h.free "len" (by decide)) boot_len (ea_cons (eo_nam 1) ea_nil)))))
  (ess_cons (es_set (i := 1) nd_plain (by decide) (ev_slT (eo_nam 1) ep_none (ep_some (ev_nam 3))))
  (ess_one (es_while (kill := []) (passes_of rfl) (EW.et (ew_and (et_cmp (op_neD (u64 hr)) s_ne (eo_nam 0) (eo_ev (ev_tup el_nil))) (ew_and (et_cmp op_notN s_notN (eo_ev (ev_ix ix_seq s_ix (eo_nam 0) (eo_ev (ev_un un_neg s_neg (eo_ev ev_int))))) (eo_ev ev_non)) (ew_and1 (et_cmp (op_eqD (u64 hr)) s_eq (eo_ev (ev_op op_addA s_add (eo_ev (ev_ix ix_seq s_ix (eo_nam 0) (eo_ev (ev_un un_neg s_neg (eo_ev ev_int))))) (eo_nam 2))) (eo_ev (ev_ix ix_seq s_ix (eo_nam 1) (eo_ev (ev_un un_neg s_neg (eo_ev ev_int)))))))))) (ess_cons (es_set (i := 1) nd_plain (by decide) (ev_op op_addA s_add (eo_ev (ev_tup (el_cons (ev_ix ix_seq s_ix (eo_nam 0) (eo_ev (ev_un un_neg s_neg (eo_ev ev_int)))) el_nil))) (eo_ev (ev_slT (eo_nam 1) ep_none (ep_some (ev_un un_neg s_neg (eo_ev ev_int)))))))
  (ess_one (es_set (i := 0) nd_plain (by decide) (ev_slT (eo_nam 0) ep_none (ep_some (ev_un un_neg s_neg (eo_ev ev_int)))))))))))) ess_nil)
  (ess_one (es_ret (ev_tup (el_cons (ev_nam 0) (el_cons (ev_nam 1) (el_cons (ev_nam 2) el_nil))))))))
/-! item_at -/
theorem nd_item_at : (["calendar", "n", "early", "again", "rise", "turns", "at"] : List Str).Nodup := by decide
theorem sc_item_at : FnScope ["calendar", "n", "early", "again", "rise", "turns", "at"] ["calendar", "n"] (defScope S_item_at) := ⟨rfl, rfl, rfl, by decide +kernel, rfl, by decide +kernel, by decide +kernel⟩
def b_item_at : MS :=
  seqS (unpS (.tp [2, 3, 4]) ((nam 0).bind frz))
  (seqS (iteS ((bin2 dLt (nam 1) ((opA dLen (mCons (nam 2) (mNil))).bind fun d => M.ret (.dat d))).bind toB) (retS (bin2 dIx (nam 2) (nam 1))) (fun st => .nx st))
  (seqS (iteS ((bin2 dEq (nam 3) ((mTup (mCons (M.ret .none) (mNil))).bind fun d => M.ret (.dat d))).bind toB) (retS (M.ret .none)) (fun st => .nx st))
  (seqS (unpS (.tp [5, 6]) (opA dDvm (mCons ((bin2 dSub (nam 1) ((opA dLen (mCons (nam 2) (mNil))).bind fun d => M.ret (.dat d))).bind fun d => M.ret (.dat d)) (mCons ((opA dLen (mCons (nam 3) (mNil))).bind fun d => M.ret (.dat d)) (mNil)))))
  (retS (bin2 dAdd ((bin2 dIx (nam 3) (nam 6)).bind fun d => M.ret (.dat d)) ((bin2 dMul (nam 5) (nam 4)).bind fun d => M.ret (.dat d)))))))
def m_item_at : M D := fnOf 5 [] b_item_at
theorem ok_item_at (h : FxI info K mg base Γ) : Fn Γ P w K mg base (rP K) 1 "item_at" ["calendar", "n"] m_item_at := by
  obtain ⟨fd, F⟩ := h.fn 2 d_item_at rfl
  have hb := F.bindsN (ps := ["calendar", "n"]) fun _ _ _ _ _ _ us hl => match us, hl with | [_, _], _ => rfl
  exact Sk.fn_of F (h.glo "item_at" (by decide)) hb (fn_okC (k := 0) F sc_item_at fun A outer s H E hr => (ess_cons (es_unp (by decide) (ev_nam 0) (eg_tp rfl (egs_cons nd_item_at (egs_cons nd_item_at (egs_cons nd_item_at egs_nil)))))
  (ess_cons (es_if (et_cmp op_lt s_lt (eo_nam 1) (eo_ev (ev_cb call_len sA_len (h.free "len" (by decide)) boot_len (ea_cons (eo_nam 2) ea_nil)))) (ess_one (es_ret (ev_ix ix_seq s_ix (eo_nam 2) (eo_nam 1)))) ess_nil)
  (ess_cons (es_if (et_cmp (op_eqD (u64 hr)) s_eq (eo_nam 3) (eo_ev (ev_tup (el_cons ev_non el_nil)))) (ess_one (es_ret ev_non)) ess_nil)
  (ess_cons (es_unp (by decide) (ev_cb call_dmF sA_dvm (h.free "divmod" (by decide)) boot_divmod (ea_cons (eo_ev (ev_op op_sub s_sub (eo_nam 1) (eo_ev (ev_cb call_len sA_len (h.free "len" (by decide)) boot_len (ea_cons (eo_nam 2) ea_nil))))) (ea_cons (eo_ev (ev_cb call_len sA_len (h.free "len" (by decide)) boot_len (ea_cons (eo_nam 3) ea_nil))) ea_nil))) (eg_tp rfl (egs_cons nd_item_at (egs_cons nd_item_at egs_nil))))
  (ess_one (es_ret (ev_op op_addA s_add (eo_ev (ev_ix ix_seq s_ix (eo_nam 3) (eo_nam 6))) (eo_ev (ev_op op_mul s_mul (eo_nam 5) (eo_nam 4)))))))))))
/-! is_from -/
theorem nd_is_from : (["value", "least", "most"] : List Str).Nodup := by decide
theorem sc_is_from : FnScope ["value", "least", "most"] ["value", "least", "most"] (defScope S_is_from) := ⟨rfl, rfl, rfl, by decide +kernel, rfl, by decide +kernel, by decide +kernel⟩
def b_is_from : MS :=
  retS (vAnd (isiM "int" (nam 0)) (vAnd (vNot (isiM "bool" (nam 0))) (chM dLe dLe (nam 1) (nam 0) (nam 2))))
def m_is_from : M D := fnOf 0 [] b_is_from
theorem ok_is_from (h : FxI info K mg base Γ) : Fn Γ P w K mg base (rP K) 1 "is_from" ["value", "least", "most"] m_is_from := by
  obtain ⟨fd, F⟩ := h.fn 3 d_is_from rfl
  have hb := F.bindsN (ps := ["value", "least", "most"]) fun _ _ _ _ _ _ us hl => match us, hl with | [_, _, _], _ => rfl
  exact Sk.fn_of F (h.glo "is_from" (by decide)) hb (fn_okC (k := 0) F sc_is_from fun A outer s H E hr => (ess_one (es_ret (ev_and (ev_isi (T := "int") (.inl rfl) (h.free "isinstance" (by decide)) (h.free "int" (by decide)) boot_int (eo_nam 0)) (ev_and (ev_not (ev_isi (T := "bool") (.inr (.inl rfl)) (h.free "isinstance" (by decide)) (h.free "bool" (by decide)) boot_bool (eo_nam 0))) (ev_one (ev_ch op_le op_le bl_int s_le s_le (eo_nam 1) (eo_nam 0) (eo_nam 2))))))))
/-! is_tuple -/
theorem nd_is_tuple : (["value", "least", "most"] : List Str).Nodup := by decide
theorem sc_is_tuple : FnScope ["value", "least", "most"] ["value", "least", "most"] (defScope S_is_tuple) := ⟨rfl, rfl, rfl, by decide +kernel, rfl, by decide +kernel, by decide +kernel⟩
def b_is_tuple : MS :=
  retS (vAnd (isiM "tuple" (nam 0)) (chM dLe dLe (nam 1) ((opA dLen (mCons (nam 0) (mNil))).bind fun d => M.ret (.dat d)) (nam 2)))
def m_is_tuple : M D := fnOf 0 [] b_is_tuple
theorem ok_is_tuple (h : FxI info K mg base Γ) : Fn Γ P w K mg base (rP K) 1 "is_tuple" ["value", "least", "most"] m_is_tuple := by
  obtain ⟨fd, F⟩ := h.fn 4 d_is_tuple rfl
  have hb := F.bindsN (ps := ["value", "least", "most"]) fun _ _ _ _ _ _ us hl => match us, hl with | [_, _, _], _ => rfl
  exact Sk.fn_of F (h.glo "is_tuple" (by decide)) hb (fn_okC (k := 0) F sc_is_tuple fun A outer s H E hr => (ess_one (es_ret (ev_and (ev_isi (T := "tuple") (.inr (.inr (.inr (.inl rfl)))) (h.free "isinstance" (by decide)) (h.free "tuple" (by decide)) boot_tuple (eo_nam 0)) (ev_one (ev_ch op_le op_le bl_int s_le s_le (eo_nam 1) (eo_ev (ev_cb call_len sA_len (h.free "len" (by decide)) boot_len (ea_cons (eo_nam 0) ea_nil))) (eo_nam 2)))))))
/-! is_ford -/
theorem nd_is_ford : (["value", "item"] : List Str).Nodup := by decide
theorem sc_is_ford : FnScope ["value", "item"] ["value"] (defScope S_is_ford) := ⟨rfl, rfl, rfl, by decide +kernel, rfl, by decide +kernel, by decide +kernel⟩
def C1_is_ford : M D :=
  callM m_is_from (mCons (nam 1) (mCons ((M.ret (.int 0)).bind fun d => M.ret (.dat d)) (mCons ((M.ret (.int 3)).bind fun d => M.ret (.dat d)) (mNil))))
def b_is_ford : MS :=
  retS (vAnd (callM m_is_tuple (mCons (nam 0) (mCons ((M.ret (.int 1)).bind fun d => M.ret (.dat d)) (mCons ((M.ret (.int 8)).bind fun d => M.ret (.dat d)) (mNil))))) (bin2 dNotInL ((M.ret (.bool false)).bind fun d => M.ret (.dat d)) ((lcM (.nm 1) (seqM ((nam 0).bind frz)) (M.ret true) (C1_is_ford) [1]).bind fun d => M.ret (.dat d))))
def m_is_ford : M D := fnOf 1 [] b_is_ford
theorem ok_is_ford (h : FxI info K mg base Γ) : Fn Γ P w K mg base (rP K) 2 "is_ford" ["value"] m_is_ford := by
  obtain ⟨fd, F⟩ := h.fn 5 d_is_ford rfl
  have hb := F.bindsN (ps := ["value"]) fun _ _ _ _ _ _ us hl => match us, hl with | [_], _ => rfl
  exact Sk.fn_of F (h.glo "is_ford" (by decide)) hb (fn_okC (k := 1) F sc_is_ford fun A outer s H E hr => (ess_one (es_ret (ev_and (ev_fn (ok_is_tuple h) hr (by decide) (takes_of rfl rfl rfl rfl) (len_cons (len_cons (len_cons len_nil))) (ea_cons (eo_nam 0) (ea_cons (eo_ev ev_int) (ea_cons (eo_ev (ev_gi (h.int "ROUND" 8 (by decide)))) ea_nil)))) (ev_one (ev_cmp (op_notInA (u65 hr)) s_notInL (eo_ev ev_bl) (eo_ev (ev_en (en_lc [("item", 1)] (g := gName 1) rfl nd_is_ford (ei_seq (ev_nam 0)) (blkOk_by (by rfl)) (by decide) (fun s H C cl fp => (eg_nm nd_is_ford)) (fun s H C cl fp => ets_nil) (fun s H C cl fp => (ev_fn (ok_is_from h) hr (by decide) L2.takes0 (len_cons (len_cons (len_cons len_nil))) (ea_cons (eo_nam 1) (ea_cons (eo_ev ev_int) (ea_cons (eo_ev (ev_gi (h.int "BEARS" 3 (by decide)))) ea_nil))))))))))))))
/-! need_ford -/
theorem nd_need_ford : (["value"] : List Str).Nodup := by decide
theorem sc_need_ford : FnScope ["value"] ["value"] (defScope S_need_ford) := ⟨rfl, rfl, rfl, by decide +kernel, rfl, by decide +kernel, by decide +kernel⟩
def b_need_ford : MS :=
  iteS (mNot ((callM m_is_ford (mCons (nam 0) (mNil))).bind toB)) (raiseS 0) (fun st => .nx st)
def m_need_ford : M D := fnOf 0 [] b_need_ford
theorem ok_need_ford (h : FxI info K mg base Γ) : Fn Γ P w K mg base (rP K) 3 "need_ford" ["value"] m_need_ford := by
  obtain ⟨fd, F⟩ := h.fn 6 d_need_ford rfl
  have hb := F.bindsN (ps := ["value"]) fun _ _ _ _ _ _ us hl => match us, hl with | [_], _ => rfl
  exact Sk.fn_of F (h.glo "need_ford" (by decide)) hb (fn_okC (k := 2) F sc_need_ford fun A outer s H E hr => (ess_one (es_if (et_not (et_val (ev_fn (ok_is_ford h) hr (by decide) (takes_of rfl rfl rfl rfl) (len_cons len_nil) (ea_cons (eo_nam 0) ea_nil)))) (ess_one (es_raise1 rfl (takes_of rfl rfl rfl rfl) (h.exc 0 "InvalidFord" rfl))) ess_nil)))
/-! need_width -/
theorem nd_need_width : (["value", "most"] : List Str).Nodup := by decide
theorem sc_need_width : FnScope ["value", "most"] ["value", "most"] (defScope S_need_width) := ⟨rfl, rfl, rfl, by decide +kernel, rfl, by decide +kernel, by decide +kernel⟩
def b_need_width : MS :=
  iteS (mNot ((callM m_is_from (mCons (nam 0) (mCons ((M.ret (.int 0)).bind fun d => M.ret (.dat d)) (mCons (nam 1) (mNil))))).bind toB)) (raiseS 1) (fun st => .nx st)
def m_need_width : M D := fnOf 0 [] b_need_width
theorem ok_need_width (h : FxI info K mg base Γ) : Fn Γ P w K mg base (rP K) 2 "need_width" ["value", "most"] m_need_width := by
  obtain ⟨fd, F⟩ := h.fn 7 d_need_width rfl
  have hb := F.bindsN (ps := ["value", "most"]) fun _ _ _ _ _ _ us hl => match us, hl with | [_, _], _ => rfl
  exact Sk.fn_of F (h.glo "need_width" (by decide)) hb (fn_okC (k := 1) F sc_need_width fun A outer s H E hr => (ess_one (es_if (et_not (et_val (ev_fn (ok_is_from h) hr (by decide) (takes_of rfl rfl rfl rfl) (len_cons (len_cons (len_cons len_nil))) (ea_cons (eo_nam 0) (ea_cons (eo_ev ev_int) (ea_cons (eo_nam 1) ea_nil)))))) (ess_one (es_raise1 rfl (takes_of rfl rfl rfl rfl) (h.exc 1 "InvalidWidth" rfl))) ess_nil)))
/-! strength -/
theorem nd_strength : (["ford", "place"] : List Str).Nodup := by decide
theorem sc_strength : FnScope ["ford", "place"] ["ford", "place"] (defScope S_strength) := ⟨rfl, rfl, rfl, by decide +kernel, rfl, by decide +kernel, by decide +kernel⟩
def b_strength : MS :=
  retS (bin2 dIx (nam 0) ((bin2 dMod ((bin2 dSub (nam 1) ((M.ret (.int 1)).bind fun d => M.ret (.dat d))).bind fun d => M.ret (.dat d)) ((opA dLen (mCons (nam 0) (mNil))).bind fun d => M.ret (.dat d))).bind fun d => M.ret (.dat d)))
def m_strength : M D := fnOf 0 [] b_strength
theorem ok_strength (h : FxI info K mg base Γ) : Fn Γ P w K mg base (rP K) 1 "strength" ["ford", "place"] m_strength := by
  obtain ⟨fd, F⟩ := h.fn 8 d_strength rfl
  have hb := F.bindsN (ps := ["ford", "place"]) fun _ _ _ _ _ _ us hl => match us, hl with | [_, _], _ => rfl
  exact Sk.fn_of F (h.glo "strength" (by decide)) hb (fn_okC (k := 0) F sc_strength fun A outer s H E hr => (ess_one (es_ret (ev_ix ix_seq s_ix (eo_nam 0) (eo_ev (ev_op op_mod s_mod (eo_ev (ev_op op_sub s_sub (eo_nam 1) (eo_ev ev_int))) (eo_ev (ev_cb call_len sA_len (h.free "len" (by decide)) boot_len (ea_cons (eo_nam 0) ea_nil)))))))))
/-! is_will -/
theorem nd_is_will : (["value", "item"] : List Str).Nodup := by decide
theorem sc_is_will : FnScope ["value", "item"] ["value"] (defScope S_is_will) := ⟨rfl, rfl, rfl, by decide +kernel, rfl, by decide +kernel, by decide +kernel⟩
def C1_is_will : M D :=
  callM m_is_from (mCons (nam 1) (mCons ((M.ret (.int 1)).bind fun d => M.ret (.dat d)) (mCons ((M.ret (.int 6)).bind fun d => M.ret (.dat d)) (mNil))))
def C2_is_will : M D :=
  mTup (mCons ((nam 1).bind frz) (mCons (M.ret (.bool true)) (mNil)))
def b_is_will : MS :=
  seqS (iteS (mOr (mNot ((callM m_is_tuple (mCons (nam 0) (mCons ((M.ret (.int 1)).bind fun d => M.ret (.dat d)) (mCons ((M.ret (.int 6)).bind fun d => M.ret (.dat d)) (mNil))))).bind toB)) ((bin2 dInL ((M.ret (.bool false)).bind fun d => M.ret (.dat d)) ((lcM (.nm 1) (seqM ((nam 0).bind frz)) (M.ret true) (C1_is_will) [1]).bind fun d => M.ret (.dat d))).bind toB)) (retS (M.ret (.bool false))) (fun st => .nx st))
  (retS (bin2 dEq ((opA dLenK (mCons ((opA dDict (mCons ((lcM (.nm 1) (seqM ((nam 0).bind frz)) (M.ret true) (C2_is_will) [1]).bind fun d => M.ret (.dat d)) (mNil))).bind fun d => M.ret (.dat d)) (mNil))).bind fun d => M.ret (.dat d)) ((opA dLen (mCons (nam 0) (mNil))).bind fun d => M.ret (.dat d))))
def m_is_will : M D := fnOf 1 [] b_is_will
theorem ok_is_will (h : FxI info K mg base Γ) : Fn Γ P w K mg base (rP K) 2 "is_will" ["value"] m_is_will := by
  obtain ⟨fd, F⟩ := h.fn 9 d_is_will rfl
  have hb := F.bindsN (ps := ["value"]) fun _ _ _ _ _ _ us hl => match us, hl with | [_], _ => rfl
  exact Sk.fn_of F (h.glo "is_will" (by decide)) hb (fn_okC (k := 1) F sc_is_will fun A outer s H E hr => (ess_cons (es_if (EW.et (ew_or (et_not (et_val (ev_fn (ok_is_tuple h) hr (by decide) (takes_of rfl rfl rfl rfl) (len_cons (len_cons (len_cons len_nil))) (ea_cons (eo_nam 0) (ea_cons (eo_ev ev_int) (ea_cons (eo_ev (ev_gi (h.int "LENGTH" 6 (by decide)))) ea_nil)))))) (ew_or1 (et_cmp (op_inA (u65 hr)) s_inL (eo_ev ev_bl) (eo_ev (ev_en (en_lc [("item", 1)] (g := gName 1) rfl nd_is_will (ei_seq (ev_nam 0)) (blkOk_by (by rfl)) (by decide) (fun s H C cl fp => (eg_nm nd_is_will)) (fun s H C cl fp => ets_nil) (fun s H C cl fp => (ev_fn (ok_is_from h) hr (by decide) L2.takes0 (len_cons (len_cons (len_cons len_nil))) (ea_cons (eo_nam 1) (ea_cons (eo_ev ev_int) (ea_cons (eo_ev (ev_gi (h.int "LENGTH" 6 (by decide)))) ea_nil)))))))))))) (ess_one (es_ret ev_bl)) ess_nil)
  (ess_one (es_ret (ev_cmp (op_eqD (u64 hr)) s_eq (eo_ev (ev_cb call_lenD sA_lenK (h.free "len" (by decide)) boot_len (ea_cons (eo_ev (ev_en (en_ct (call_dictF rfl) sA_dict (h.free "dict" (by decide)) boot_dict (ea_cons (eo_ev (ev_en (en_lc [("item", 1)] (g := gName 1) rfl nd_is_will (ei_seq (ev_nam 0)) (blkOk_by (by rfl)) (by decide) (fun s H C cl fp => (eg_nm nd_is_will)) (fun s H C cl fp => ets_nil) (fun s H C cl fp => (ev_tup (el_cons (ev_nam 1) (el_cons ev_bl el_nil))))))) ea_nil)))) ea_nil))) (eo_ev (ev_cb call_len sA_len (h.free "len" (by decide)) boot_len (ea_cons (eo_nam 0) ea_nil))))))))
/-! need_will -/
theorem nd_need_will : (["value"] : List Str).Nodup := by decide
theorem sc_need_will : FnScope ["value"] ["value"] (defScope S_need_will) := ⟨rfl, rfl, rfl, by decide +kernel, rfl, by decide +kernel, by decide +kernel⟩
def b_need_will : MS :=
  iteS (mNot ((callM m_is_will (mCons (nam 0) (mNil))).bind toB)) (raiseS 2) (fun st => .nx st)
def m_need_will : M D := fnOf 0 [] b_need_will
theorem ok_need_will (h : FxI info K mg base Γ) : Fn Γ P w K mg base (rP K) 3 "need_will" ["value"] m_need_will := by
  obtain ⟨fd, F⟩ := h.fn 10 d_need_will rfl
  have hb := F.bindsN (ps := ["value"]) fun _ _ _ _ _ _ us hl => match us, hl with | [_], _ => rfl
  exact Sk.fn_of F (h.glo "need_will" (by decide)) hb (fn_okC (k := 2) F sc_need_will fun A outer s H E hr => (ess_one (es_if (et_not (et_val (ev_fn (ok_is_will h) hr (by decide) (takes_of rfl rfl rfl rfl) (len_cons len_nil) (ea_cons (eo_nam 0) ea_nil)))) (ess_one (es_raise1 rfl (takes_of rfl rfl rfl rfl) (h.exc 2 "InvalidWill" rfl))) ess_nil)))
/-! gone -/
theorem nd_gone : (["ford", "will", "n", "place", "walk", "some", "length"] : List Str).Nodup := by decide
theorem sc_gone : FnScope ["ford", "will", "n", "place", "walk", "some", "length"] ["ford", "will", "n"] (defScope S_gone) := ⟨rfl, rfl, rfl, by decide +kernel, rfl, by decide +kernel, by decide +kernel⟩
noncomputable def C1_gone : M D :=
  (nam 6).bind frz
noncomputable def F1_gone : M Bool :=
  mOr ((bin2 dGt ((bin2 dAdd (nam 3) (nam 6)).bind fun d => M.ret (.dat d)) (nam 2)).bind toB) ((bin2 dGt ((callM m_strength (mCons (nam 0) (mCons ((bin2 dAdd (nam 3) (nam 6)).bind fun d => M.ret (.dat d)) (mNil)))).bind fun d => M.ret (.dat d)) ((M.ret (.int 0)).bind fun d => M.ret (.dat d))).bind toB)
noncomputable def L1_gone : MS :=
  seqS (setN 5 (lcM (.nm 6) (seqM ((nam 1).bind frz)) (F1_gone) (C1_gone) [6]))
  (seqS (iteS ((bin2 dEq (nam 5) ((mLst (mNil)).bind fun d => M.ret (.dat d))).bind toB) (retS (mTup (mCons ((nam 4).bind frz) (mCons (M.ret (.bool false)) (mNil))))) (fun st => .nx st))
  (seqS (drpS (appM 4 (bin2 dIx (nam 5) ((M.ret (.int 0)).bind fun d => M.ret (.dat d)))))
  (setS 3 (bin2 dAdd (nam 3) ((bin2 dIx (nam 5) ((M.ret (.int 0)).bind fun d => M.ret (.dat d))).bind fun d => M.ret (.dat d))))))
noncomputable def W1_gone : M Bool :=
  (bin2 dLe (nam 3) (nam 2)).bind toB
noncomputable def b_gone : MS :=
  seqS (setS 3 (M.ret (.int 0)))
  (seqS (setN 4 (mLst (mNil)))
  (seqS (whlS (W1_gone) (L1_gone) [])
  (retS (mTup (mCons ((nam 4).bind frz) (mCons (M.ret (.bool true)) (mNil)))))))
noncomputable def m_gone : M D := fnOf 4 [] b_gone
theorem ok_gone (h : FxI info K mg base Γ) : Fn Γ P w K mg base (rP K) 2 "gone" ["ford", "will", "n"] m_gone := by
  obtain ⟨fd, F⟩ := h.fn 11 d_gone rfl
  have hb := F.bindsN (ps := ["ford", "will", "n"]) fun _ _ _ _ _ _ us hl => match us, hl with | [_, _, _], _ => rfl
  exact Sk.fn_of F (h.glo "gone" (by decide)) hb (fn_okC (k := 1) F sc_gone fun A outer s H E hr => (ess_cons (es_set (i := 3) nd_gone (by decide) ev_int)
  (ess_cons (es_setN (i := 4) nd_gone (by decide) (en_lst el_nil))
  (ess_cons (es_while (kill := []) (passes_of rfl) (et_cmp op_le s_le (eo_nam 3) (eo_nam 2)) (ess_cons (es_lc (i := 5) [("length", 6)] (g := gName 6) rfl nd_gone (by decide) (ei_seq (ev_nam 1)) (blkOk_by (by rfl)) (by decide) (fun s H C cl fp => (eg_nm nd_gone)) (fun s H C cl fp => (ets_one (EW.et (ew_or (et_cmp op_gt s_gt (eo_ev (ev_op op_addA s_add (eo_nam 3) (eo_nam 6))) (eo_nam 2)) (ew_or1 (et_cmp op_gt s_gt (eo_ev (ev_fn (ok_strength h) hr (by decide) L2.takes0 (len_cons (len_cons len_nil)) (ea_cons (eo_nam 0) (ea_cons (eo_ev (ev_op op_addA s_add (eo_nam 3) (eo_nam 6))) ea_nil)))) (eo_ev ev_int))))))) (fun s H C cl fp => (ev_nam 6)))
  (ess_cons (es_if (et_cmp (op_eqD (u64 hr)) s_eq (eo_nam 5) (eo_ev (ev_en (en_lst el_nil)))) (ess_one (es_ret (ev_tup (el_cons (ev_nam 4) (el_cons ev_bl el_nil))))) ess_nil)
  (ess_cons (es_expr (ev_app (i := 4) (ev_ix ix_seq s_ix (eo_nam 5) (eo_ev ev_int))))
  (ess_one (es_set (i := 3) nd_gone (by decide) (ev_op op_addA s_add (eo_nam 3) (eo_ev (ev_ix ix_seq s_ix (eo_nam 5) (eo_ev ev_int))))))))))
  (ess_one (es_ret (ev_tup (el_cons (ev_nam 4) (el_cons ev_bl el_nil)))))))))
/-! wide_way -/
theorem nd_wide_way : (["ford", "will", "places", "seen", "here", "some", "length"] : List Str).Nodup := by decide
theorem sc_wide_way : FnScope ["ford", "will", "places", "seen", "here", "some", "length"] ["ford", "will"] (defScope S_wide_way) := ⟨rfl, rfl, rfl, by decide +kernel, rfl, by decide +kernel, by decide +kernel⟩
noncomputable def C1_wide_way : M D :=
  (nam 6).bind frz
noncomputable def F1_wide_way : M Bool :=
  (bin2 dGt ((callM m_strength (mCons (nam 0) (mCons ((bin2 dAdd (nam 4) (nam 6)).bind fun d => M.ret (.dat d)) (mNil)))).bind fun d => M.ret (.dat d)) ((M.ret (.int 0)).bind fun d => M.ret (.dat d))).bind toB
noncomputable def L1_wide_way : MS :=
  seqS (setS 4 (bin2 dIx (nam 2) ((un1 dNeg ((M.ret (.int 1)).bind fun d => M.ret (.dat d))).bind fun d => M.ret (.dat d))))
  (seqS (iteS ((bin2 dGt (nam 4) ((M.ret (.int 0)).bind fun d => M.ret (.dat d))).bind toB) (seqS (iteS ((bin2 dkIn ((bin2 dMod (nam 4) ((opA dLen (mCons (nam 0) (mNil))).bind fun d => M.ret (.dat d))).bind fun d => M.ret (.dat d)) (nam 3)).bind toB) (retS (mTup (mCons ((nam 2).bind frz) (mCons (bin2 dkGet (nam 3) ((bin2 dMod (nam 4) ((opA dLen (mCons (nam 0) (mNil))).bind fun d => M.ret (.dat d))).bind fun d => M.ret (.dat d))) (mNil))))) (fun st => .nx st))
  (dputS 3 (bin2 dSub ((opA dLen (mCons (nam 2) (mNil))).bind fun d => M.ret (.dat d)) ((M.ret (.int 1)).bind fun d => M.ret (.dat d))) (bin2 dMod (nam 4) ((opA dLen (mCons (nam 0) (mNil))).bind fun d => M.ret (.dat d))))) (fun st => .nx st))
  (seqS (setN 5 (lcM (.nm 6) (seqM ((nam 1).bind frz)) (F1_wide_way) (C1_wide_way) [6]))
  (seqS (iteS ((bin2 dEq (nam 5) ((mLst (mNil)).bind fun d => M.ret (.dat d))).bind toB) (retS (mTup (mCons ((nam 2).bind frz) (mCons (M.ret .none) (mNil))))) (fun st => .nx st))
  (drpS (appM 2 (bin2 dAdd (nam 4) ((bin2 dIx (nam 5) ((M.ret (.int 0)).bind fun d => M.ret (.dat d))).bind fun d => M.ret (.dat d))))))))
noncomputable def W1_wide_way : M Bool :=
  (M.ret (.bool true)).bind toB
noncomputable def b_wide_way : MS :=
  seqS (setN 2 (mLst (mCons (M.ret (.int 0)) (mNil))))
  (seqS (setN 3 (M.ret (.dict [])))
  (whlS (W1_wide_way) (L1_wide_way) []))
noncomputable def m_wide_way : M D := fnOf 5 [] b_wide_way
theorem ok_wide_way (h : FxI info K mg base Γ) : Fn Γ P w K mg base (rP K) 2 "wide_way" ["ford", "will"] m_wide_way := by
  obtain ⟨fd, F⟩ := h.fn 12 d_wide_way rfl
  have hb := F.bindsN (ps := ["ford", "will"]) fun _ _ _ _ _ _ us hl => match us, hl with | [_, _], _ => rfl
  exact Sk.fn_of F (h.glo "wide_way" (by decide)) hb (fn_okC (k := 1) F sc_wide_way fun A outer s H E hr => (ess_cons (es_setN (i := 2) nd_wide_way (by decide) (en_lst (el_cons ev_int el_nil)))
  (ess_cons (es_setN (i := 3) nd_wide_way (by decide) en_dnil)
  (ess_one (es_while (kill := []) (passes_of rfl) (et_val ev_bl) (ess_cons (es_set (i := 4) nd_wide_way (by decide) (ev_ix ix_seq s_ix (eo_nam 2) (eo_ev (ev_un un_neg s_neg (eo_ev ev_int)))))
  (ess_cons (es_if (et_cmp op_gt s_gt (eo_nam 4) (eo_ev ev_int)) (ess_cons (es_if (et_din (room_units hr) (eo_ev (ev_op op_mod s_mod (eo_nam 4) (eo_ev (ev_cb call_len sA_len (h.free "len" (by decide)) boot_len (ea_cons (eo_nam 0) ea_nil))))) (eo_nam 3)) (ess_one (es_ret (ev_tup (el_cons (ev_nam 2) (el_cons (ev_dget (room_units hr) (eo_nam 3) (eo_ev (ev_op op_mod s_mod (eo_nam 4) (eo_ev (ev_cb call_len sA_len (h.free "len" (by decide)) boot_len (ea_cons (eo_nam 0) ea_nil)))))) el_nil))))) ess_nil)
  (ess_one (es_dput (i := 3) (room_units hr) (ev_op op_sub s_sub (eo_ev (ev_cb call_len sA_len (h.free "len" (by decide)) boot_len (ea_cons (eo_nam 2) ea_nil))) (eo_ev ev_int)) (ev_op op_mod s_mod (eo_nam 4) (eo_ev (ev_cb call_len sA_len (h.free "len" (by decide)) boot_len (ea_cons (eo_nam 0) ea_nil))))))) ess_nil)
  (ess_cons (es_lc (i := 5) [("length", 6)] (g := gName 6) rfl nd_wide_way (by decide) (ei_seq (ev_nam 1)) (blkOk_by (by rfl)) (by decide) (fun s H C cl fp => (eg_nm nd_wide_way)) (fun s H C cl fp => (ets_one (et_cmp op_gt s_gt (eo_ev (ev_fn (ok_strength h) hr (by decide) L2.takes0 (len_cons (len_cons len_nil)) (ea_cons (eo_nam 0) (ea_cons (eo_ev (ev_op op_addA s_add (eo_nam 4) (eo_nam 6))) ea_nil)))) (eo_ev ev_int)))) (fun s H C cl fp => (ev_nam 6)))
  (ess_cons (es_if (et_cmp (op_eqD (u64 hr)) s_eq (eo_nam 5) (eo_ev (ev_en (en_lst el_nil)))) (ess_one (es_ret (ev_tup (el_cons (ev_nam 2) (el_cons ev_non el_nil))))) ess_nil)
  (ess_one (es_expr (ev_app (i := 2) (ev_op op_addA s_add (eo_nam 4) (eo_ev (ev_ix ix_seq s_ix (eo_nam 5) (eo_ev ev_int))))))))))))))))
/-! calendar_by -/
theorem nd_calendar_by : (["ford", "will", "toils", "places", "again_at", "found", "most", "n", "walk", "size", "first", "rise", "here", "there", "length"] : List Str).Nodup := by decide
theorem sc_calendar_by : FnScope ["ford", "will", "toils", "places", "again_at", "found", "most", "n", "walk", "size", "first", "rise", "here", "there", "length"] ["ford", "will", "toils"] (defScope S_calendar_by) := ⟨rfl, rfl, rfl, by decide +kernel, rfl, by decide +kernel, by decide +kernel⟩
noncomputable def C1_calendar_by : M D :=
  bin2 dkGet (nam 2) (nam 14)
noncomputable def L1_calendar_by : MS :=
  seqS (setS 8 (bin2 dIx ((callM m_gone (mCons (nam 0) (mCons (nam 1) (mCons (nam 7) (mNil))))).bind fun d => M.ret (.dat d)) ((M.ret (.int 0)).bind fun d => M.ret (.dat d))))
  (drpS (appM 5 (opA dSum (mCons ((lcM (.nm 14) (seqM ((nam 8).bind frz)) (M.ret true) (C1_calendar_by) [14]).bind fun d => M.ret (.dat d)) (mNil)))))
noncomputable def L2_calendar_by : MS :=
  setS 11 (bin2 dAdd (nam 11) ((bin2 dkGet (nam 2) ((bin2 dSub (nam 13) (nam 12)).bind fun d => M.ret (.dat d))).bind fun d => M.ret (.dat d)))
noncomputable def b_calendar_by : MS :=
  seqS (unpS (.tp [3, 4]) (callM m_wide_way (mCons (nam 0) (mCons (nam 1) (mNil)))))
  (seqS (setN 5 (mLst (mNil)))
  (seqS (setS 6 (bin2 dAdd ((bin2 dIx (nam 3) ((un1 dNeg ((M.ret (.int 1)).bind fun d => M.ret (.dat d))).bind fun d => M.ret (.dat d))).bind fun d => M.ret (.dat d)) ((opA (dMx max) (mCons (nam 1) (mNil))).bind fun d => M.ret (.dat d))))
  (seqS (iteS ((bin2 dNotN (nam 4) ((M.ret .none).bind fun d => M.ret (.dat d))).bind toB) (setS 6 (bin2 dAdd ((bin2 dIx (nam 3) ((un1 dNeg ((M.ret (.int 1)).bind fun d => M.ret (.dat d))).bind fun d => M.ret (.dat d))).bind fun d => M.ret (.dat d)) ((M.ret (.int 6)).bind fun d => M.ret (.dat d)))) (fun st => .nx st))
  (seqS (forS (.nm 7) (rng1M ((nam 6).bind frz)) (L1_calendar_by) [])
  (seqS (iteS ((bin2 dIsN (nam 4) ((M.ret .none).bind fun d => M.ret (.dat d))).bind toB) (retS (mTup (mCons (opA dTup (mCons (nam 5) (mNil))) (mCons (mTup (mCons (M.ret .none) (mNil))) (mCons (M.ret (.int 0)) (mNil)))))) (fun st => .nx st))
  (seqS (setS 9 (bin2 dSub ((bin2 dIx (nam 3) ((un1 dNeg ((M.ret (.int 1)).bind fun d => M.ret (.dat d))).bind fun d => M.ret (.dat d))).bind fun d => M.ret (.dat d)) ((bin2 dIx (nam 3) (nam 4)).bind fun d => M.ret (.dat d))))
  (seqS (setS 10 (bin2 dAdd ((bin2 dIx (nam 3) (nam 4)).bind fun d => M.ret (.dat d)) ((M.ret (.int 6)).bind fun d => M.ret (.dat d))))
  (seqS (setS 11 (M.ret (.int 0)))
  (seqS (forS (.tp [12, 13]) (zipM (sliM dCutL (nam 3) (partM ((nam 4).bind frz)) (M.ret none)) (sliM dCutL (nam 3) (partM (bin2 dAdd (nam 4) ((M.ret (.int 1)).bind fun d => M.ret (.dat d)))) (M.ret none))) (L2_calendar_by) [])
  (retS (callM m_plain (mCons ((opA dTup (mCons ((sliM dCutL (nam 5) (M.ret none) (partM ((nam 10).bind frz))).bind fun d => M.ret (.dat d)) (mNil))).bind fun d => M.ret (.dat d)) (mCons ((opA dTup (mCons ((sliM dCutL (nam 5) (partM ((nam 10).bind frz)) (partM (bin2 dAdd (nam 10) (nam 9)))).bind fun d => M.ret (.dat d)) (mNil))).bind fun d => M.ret (.dat d)) (mCons (nam 11) (mNil)))))))))))))))
noncomputable def m_calendar_by : M D := fnOf 12 [] b_calendar_by
theorem ok_calendar_by (h : FxI info K mg base Γ) : Fn Γ P w K mg base (rP K) 3 "calendar_by" ["ford", "will", "toils"] m_calendar_by := by
  obtain ⟨fd, F⟩ := h.fn 13 d_calendar_by rfl
  have hb := F.bindsN (ps := ["ford", "will", "toils"]) fun _ _ _ _ _ _ us hl => match us, hl with | [_, _, _], _ => rfl
  exact Sk.fn_of F (h.glo "calendar_by" (by decide)) hb (fn_okC (k := 2) F sc_calendar_by fun A outer s H E hr => (ess_cons (es_unp (by decide) (ev_fn (ok_wide_way h) hr (by decide) (takes_of rfl rfl rfl rfl) (len_cons (len_cons len_nil)) (ea_cons (eo_nam 0) (ea_cons (eo_nam 1) ea_nil))) (eg_tp rfl (egs_cons nd_calendar_by (egs_cons nd_calendar_by egs_nil))))
  (ess_cons (es_setN (i := 5) nd_calendar_by (by decide) (en_lst el_nil))
  (ess_cons (es_set (i := 6) nd_calendar_by (by decide) (ev_op op_addA s_add (eo_ev (ev_ix ix_seq s_ix (eo_nam 3) (eo_ev (ev_un un_neg s_neg (eo_ev ev_int))))) (eo_ev (ev_cb (call_maxI rfl (u64 hr)) (sA_mx max) (h.free "max" (by decide)) boot_max (ea_cons (eo_nam 1) ea_nil)))))
  (ess_cons (es_if (et_cmp op_notN s_notN (eo_nam 4) (eo_ev ev_non)) (ess_one (es_set (i := 6) nd_calendar_by (by decide) (ev_op op_addA s_add (eo_ev (ev_ix ix_seq s_ix (eo_nam 3) (eo_ev (ev_un un_neg s_neg (eo_ev ev_int))))) (eo_ev (ev_gi (h.int "LENGTH" 6 (by decide))))))) ess_nil)
  (ess_cons (es_for (kill := []) (passes_of rfl) rfl (by decide) (ei_rng1 (ev_nam 6) (h.free "range" (by decide))) (eg_nm nd_calendar_by) (ess_cons (es_set (i := 8) nd_calendar_by (by decide) (ev_ix ix_seq s_ix (eo_ev (ev_fn (ok_gone h) hr (by decide) (takes_of rfl rfl rfl rfl) (len_cons (len_cons (len_cons len_nil))) (ea_cons (eo_nam 0) (ea_cons (eo_nam 1) (ea_cons (eo_nam 7) ea_nil))))) (eo_ev ev_int)))
  (ess_one (es_expr (ev_app (i := 5) (ev_cb (cr_sumA rfl) sA_sum (h.free "sum" (by decide)) boot_sum (ea_cons (eo_ev (ev_en (en_lc [("length", 14)] (g := gName 14) rfl nd_calendar_by (ei_seq (ev_nam 8)) (blkOk_by (by rfl)) (by decide) (fun s H C cl fp => (eg_nm nd_calendar_by)) (fun s H C cl fp => ets_nil) (fun s H C cl fp => (ev_dget (room_units hr) (eo_nam 2) (eo_nam 14)))))) ea_nil)))))))
  (ess_cons (es_if (et_cmp op_isN s_isN (eo_nam 4) (eo_ev ev_non)) (ess_one (es_ret (ev_tup (el_cons (ev_ct call_tupF sA_tup (h.free "tuple" (by decide)) boot_tuple (ea_cons (eo_nam 5) ea_nil)) (el_cons (ev_tup (el_cons ev_non el_nil)) (el_cons ev_int el_nil)))))) ess_nil)
  (ess_cons (es_set (i := 9) nd_calendar_by (by decide) (ev_op op_sub s_sub (eo_ev (ev_ix ix_seq s_ix (eo_nam 3) (eo_ev (ev_un un_neg s_neg (eo_ev ev_int))))) (eo_ev (ev_ix ix_seq s_ix (eo_nam 3) (eo_nam 4)))))
  (ess_cons (es_set (i := 10) nd_calendar_by (by decide) (ev_op op_addA s_add (eo_ev (ev_ix ix_seq s_ix (eo_nam 3) (eo_nam 4))) (eo_ev (ev_gi (h.int "LENGTH" 6 (by decide))))))
  (ess_cons (es_set (i := 11) nd_calendar_by (by decide) ev_int)
  (ess_cons (es_for (kill := []) (passes_of rfl) rfl (by decide) (ei_zip (ev_en (en_slL (eo_nam 3) (ep_some (ev_nam 4)) ep_none)) (ev_en (en_slL (eo_nam 3) (ep_some (ev_op op_addA s_add (eo_nam 4) (eo_ev ev_int))) ep_none)) (h.free "zip" (by decide))) (eg_tp rfl (egs_cons nd_calendar_by (egs_cons nd_calendar_by egs_nil))) (ess_one (es_set (i := 11) nd_calendar_by (by decide) (ev_op op_addA s_add (eo_nam 11) (eo_ev (ev_dget (room_units hr) (eo_nam 2) (eo_ev (ev_op op_sub s_sub (eo_nam 13) (eo_nam 12)))))))))
  (ess_one (es_ret (ev_fn (ok_plain h) hr (by decide) (takes_of rfl rfl rfl rfl) (len_cons (len_cons (len_cons len_nil))) (ea_cons (eo_ev (ev_ct call_tupF sA_tup (h.free "tuple" (by decide)) boot_tuple (ea_cons (eo_ev (ev_en (en_slL (eo_nam 5) ep_none (ep_some (ev_nam 10))))) ea_nil))) (ea_cons (eo_ev (ev_ct call_tupF sA_tup (h.free "tuple" (by decide)) boot_tuple (ea_cons (eo_ev (ev_en (en_slL (eo_nam 5) (ep_some (ev_nam 10)) (ep_some (ev_op op_addA s_add (eo_nam 10) (eo_nam 9)))))) ea_nil))) (ea_cons (eo_nam 11) ea_nil)))))))))))))))))
/-! led -/
theorem nd_led : (["ford", "will", "n", "walk", "came"] : List Str).Nodup := by decide
theorem sc_led : FnScope ["ford", "will", "n", "walk", "came"] ["ford", "will", "n"] (defScope S_led) := ⟨rfl, rfl, rfl, by decide +kernel, rfl, by decide +kernel, by decide +kernel⟩
noncomputable def b_led : MS :=
  seqS (drpS (callM m_need_ford (mCons (nam 0) (mNil))))
  (seqS (drpS (callM m_need_will (mCons (nam 1) (mNil))))
  (seqS (drpS (callM m_need_width (mCons (nam 2) (mCons ((M.ret (.int 60)).bind fun d => M.ret (.dat d)) (mNil)))))
  (seqS (unpS (.tp [3, 4]) (callM m_gone (mCons (nam 0) (mCons (nam 1) (mCons (nam 2) (mNil))))))
  (retS (mTup (mCons (opA dTup (mCons (nam 3) (mNil))) (mCons ((nam 4).bind frz) (mNil))))))))
noncomputable def m_led : M D := fnOf 2 [] b_led
theorem ok_led (h : FxI info K mg base Γ) : Fn Γ P w K mg base (rP K) 4 "led" ["ford", "will", "n"] m_led := by
  obtain ⟨fd, F⟩ := h.fn 14 d_led rfl
  have hb := F.bindsN (ps := ["ford", "will", "n"]) fun _ _ _ _ _ _ us hl => match us, hl with | [_, _, _], _ => rfl
  exact Sk.fn_of F (h.glo "led" (by decide)) hb (fn_okC (k := 3) F sc_led fun A outer s H E hr => (ess_cons (es_expr (ev_fn (ok_need_ford h) hr (by decide) (takes_of rfl rfl rfl rfl) (len_cons len_nil) (ea_cons (eo_nam 0) ea_nil)))
  (ess_cons (es_expr (ev_fn (ok_need_will h) hr (by decide) (takes_of rfl rfl rfl rfl) (len_cons len_nil) (ea_cons (eo_nam 1) ea_nil)))
  (ess_cons (es_expr (ev_fn (ok_need_width h) hr (by decide) (takes_of rfl rfl rfl rfl) (len_cons (len_cons len_nil)) (ea_cons (eo_nam 2) (ea_cons (eo_ev (ev_gi (h.int "NEAR" 60 (by decide)))) ea_nil))))
  (ess_cons (es_unp (by decide) (ev_fn (ok_gone h) hr (by decide) (takes_of rfl rfl rfl rfl) (len_cons (len_cons (len_cons len_nil))) (ea_cons (eo_nam 0) (ea_cons (eo_nam 1) (ea_cons (eo_nam 2) ea_nil)))) (eg_tp rfl (egs_cons nd_led (egs_cons nd_led egs_nil))))
  (ess_one (es_ret (ev_tup (el_cons (ev_ct call_tupF sA_tup (h.free "tuple" (by decide)) boot_tuple (ea_cons (eo_nam 3) ea_nil)) (el_cons (ev_nam 4) el_nil))))))))))
/-! led_calendar -/
theorem nd_led_calendar : (["ford", "will", "length"] : List Str).Nodup := by decide
theorem sc_led_calendar : FnScope ["ford", "will", "length"] ["ford", "will"] (defScope S_led_calendar) := ⟨rfl, rfl, rfl, by decide +kernel, rfl, by decide +kernel, by decide +kernel⟩
noncomputable def C1_led_calendar : M D :=
  mTup (mCons ((nam 2).bind frz) (mCons (M.ret (.int 1)) (mNil)))
noncomputable def b_led_calendar : MS :=
  seqS (drpS (callM m_need_ford (mCons (nam 0) (mNil))))
  (seqS (drpS (callM m_need_will (mCons (nam 1) (mNil))))
  (retS (callM m_calendar_by (mCons (nam 0) (mCons (nam 1) (mCons ((opA dDict (mCons ((lcM (.nm 2) (seqM ((nam 1).bind frz)) (M.ret true) (C1_led_calendar) [2]).bind fun d => M.ret (.dat d)) (mNil))).bind fun d => M.ret (.dat d)) (mNil)))))))
noncomputable def m_led_calendar : M D := fnOf 1 [] b_led_calendar
theorem ok_led_calendar (h : FxI info K mg base Γ) : Fn Γ P w K mg base (rP K) 4 "led_calendar" ["ford", "will"] m_led_calendar := by
  obtain ⟨fd, F⟩ := h.fn 15 d_led_calendar rfl
  have hb := F.bindsN (ps := ["ford", "will"]) fun _ _ _ _ _ _ us hl => match us, hl with | [_, _], _ => rfl
  exact Sk.fn_of F (h.glo "led_calendar" (by decide)) hb (fn_okC (k := 3) F sc_led_calendar fun A outer s H E hr => (ess_cons (es_expr (ev_fn (ok_need_ford h) hr (by decide) (takes_of rfl rfl rfl rfl) (len_cons len_nil) (ea_cons (eo_nam 0) ea_nil)))
  (ess_cons (es_expr (ev_fn (ok_need_will h) hr (by decide) (takes_of rfl rfl rfl rfl) (len_cons len_nil) (ea_cons (eo_nam 1) ea_nil)))
  (ess_one (es_ret (ev_fn (ok_calendar_by h) hr (by decide) (takes_of rfl rfl rfl rfl) (len_cons (len_cons (len_cons len_nil))) (ea_cons (eo_nam 0) (ea_cons (eo_nam 1) (ea_cons (eo_ev (ev_en (en_ct (call_dictF rfl) sA_dict (h.free "dict" (by decide)) boot_dict (ea_cons (eo_ev (ev_en (en_lc [("length", 2)] (g := gName 2) rfl nd_led_calendar (ei_seq (ev_nam 1)) (blkOk_by (by rfl)) (by decide) (fun s H C cl fp => (eg_nm nd_led_calendar)) (fun s H C cl fp => ets_nil) (fun s H C cl fp => (ev_tup (el_cons (ev_nam 2) (el_cons ev_int el_nil))))))) ea_nil)))) ea_nil)))))))))
/-! led_steps -/
theorem nd_led_steps : (["ford", "will", "n", "length"] : List Str).Nodup := by decide
theorem sc_led_steps : FnScope ["ford", "will", "n", "length"] ["ford", "will", "n"] (defScope S_led_steps) := ⟨rfl, rfl, rfl, by decide +kernel, rfl, by decide +kernel, by decide +kernel⟩
noncomputable def C1_led_steps : M D :=
  mTup (mCons ((nam 3).bind frz) (mCons (M.ret (.int 1)) (mNil)))
noncomputable def b_led_steps : MS :=
  seqS (drpS (callM m_need_ford (mCons (nam 0) (mNil))))
  (seqS (drpS (callM m_need_will (mCons (nam 1) (mNil))))
  (seqS (drpS (callM m_need_width (mCons (nam 2) (mCons ((M.ret (.int 1000000000000000000000000000000)).bind fun d => M.ret (.dat d)) (mNil)))))
  (retS (callM m_item_at (mCons ((callM m_calendar_by (mCons (nam 0) (mCons (nam 1) (mCons ((opA dDict (mCons ((lcM (.nm 3) (seqM ((nam 1).bind frz)) (M.ret true) (C1_led_steps) [3]).bind fun d => M.ret (.dat d)) (mNil))).bind fun d => M.ret (.dat d)) (mNil))))).bind fun d => M.ret (.dat d)) (mCons (nam 2) (mNil)))))))
noncomputable def m_led_steps : M D := fnOf 1 [] b_led_steps
theorem ok_led_steps (h : FxI info K mg base Γ) : Fn Γ P w K mg base (rP K) 4 "led_steps" ["ford", "will", "n"] m_led_steps := by
  obtain ⟨fd, F⟩ := h.fn 16 d_led_steps rfl
  have hb := F.bindsN (ps := ["ford", "will", "n"]) fun _ _ _ _ _ _ us hl => match us, hl with | [_, _, _], _ => rfl
  exact Sk.fn_of F (h.glo "led_steps" (by decide)) hb (fn_okC (k := 3) F sc_led_steps fun A outer s H E hr => (ess_cons (es_expr (ev_fn (ok_need_ford h) hr (by decide) (takes_of rfl rfl rfl rfl) (len_cons len_nil) (ea_cons (eo_nam 0) ea_nil)))
  (ess_cons (es_expr (ev_fn (ok_need_will h) hr (by decide) (takes_of rfl rfl rfl rfl) (len_cons len_nil) (ea_cons (eo_nam 1) ea_nil)))
  (ess_cons (es_expr (ev_fn (ok_need_width h) hr (by decide) (takes_of rfl rfl rfl rfl) (len_cons (len_cons len_nil)) (ea_cons (eo_nam 2) (ea_cons (eo_ev (ev_gi (h.int "GREAT" 1000000000000000000000000000000 (by decide)))) ea_nil))))
  (ess_one (es_ret (ev_fn (ok_item_at h) hr (by decide) (takes_of rfl rfl rfl rfl) (len_cons (len_cons len_nil)) (ea_cons (eo_ev (ev_fn (ok_calendar_by h) hr (by decide) (takes_of rfl rfl rfl rfl) (len_cons (len_cons (len_cons len_nil))) (ea_cons (eo_nam 0) (ea_cons (eo_nam 1) (ea_cons (eo_ev (ev_en (en_ct (call_dictF rfl) sA_dict (h.free "dict" (by decide)) boot_dict (ea_cons (eo_ev (ev_en (en_lc [("length", 3)] (g := gName 3) rfl nd_led_steps (ei_seq (ev_nam 1)) (blkOk_by (by rfl)) (by decide) (fun s H C cl fp => (eg_nm nd_led_steps)) (fun s H C cl fp => ets_nil) (fun s H C cl fp => (ev_tup (el_cons (ev_nam 3) (el_cons ev_int el_nil))))))) ea_nil)))) ea_nil))))) (ea_cons (eo_nam 2) ea_nil)))))))))
/-! stuck_at -/
theorem nd_stuck_at : (["ford", "will", "places", "again_at"] : List Str).Nodup := by decide
theorem sc_stuck_at : FnScope ["ford", "will", "places", "again_at"] ["ford", "will"] (defScope S_stuck_at) := ⟨rfl, rfl, rfl, by decide +kernel, rfl, by decide +kernel, by decide +kernel⟩
noncomputable def b_stuck_at : MS :=
  seqS (drpS (callM m_need_ford (mCons (nam 0) (mNil))))
  (seqS (drpS (callM m_need_will (mCons (nam 1) (mNil))))
  (seqS (unpS (.tp [2, 3]) (callM m_wide_way (mCons (nam 0) (mCons (nam 1) (mNil)))))
  (retS (mIte ((bin2 dIsN (nam 3) ((M.ret .none).bind fun d => M.ret (.dat d))).bind toB) (bin2 dIx (nam 2) ((un1 dNeg ((M.ret (.int 1)).bind fun d => M.ret (.dat d))).bind fun d => M.ret (.dat d))) (M.ret .none)))))
noncomputable def m_stuck_at : M D := fnOf 2 [] b_stuck_at
theorem ok_stuck_at (h : FxI info K mg base Γ) : Fn Γ P w K mg base (rP K) 4 "stuck_at" ["ford", "will"] m_stuck_at := by
  obtain ⟨fd, F⟩ := h.fn 17 d_stuck_at rfl
  have hb := F.bindsN (ps := ["ford", "will"]) fun _ _ _ _ _ _ us hl => match us, hl with | [_, _], _ => rfl
  exact Sk.fn_of F (h.glo "stuck_at" (by decide)) hb (fn_okC (k := 3) F sc_stuck_at fun A outer s H E hr => (ess_cons (es_expr (ev_fn (ok_need_ford h) hr (by decide) (takes_of rfl rfl rfl rfl) (len_cons len_nil) (ea_cons (eo_nam 0) ea_nil)))
  (ess_cons (es_expr (ev_fn (ok_need_will h) hr (by decide) (takes_of rfl rfl rfl rfl) (len_cons len_nil) (ea_cons (eo_nam 1) ea_nil)))
  (ess_cons (es_unp (by decide) (ev_fn (ok_wide_way h) hr (by decide) (takes_of rfl rfl rfl rfl) (len_cons (len_cons len_nil)) (ea_cons (eo_nam 0) (ea_cons (eo_nam 1) ea_nil))) (eg_tp rfl (egs_cons nd_stuck_at (egs_cons nd_stuck_at egs_nil))))
  (ess_one (es_ret (ev_ite (et_cmp op_isN s_isN (eo_nam 3) (eo_ev ev_non)) (ev_ix ix_seq s_ix (eo_nam 2) (eo_ev (ev_un un_neg s_neg (eo_ev ev_int)))) ev_non)))))))
/-! _law_source -/
theorem nd__law_source : (["script", "k", "cell"] : List Str).Nodup := by decide
theorem sc__law_source : FnScope ["script", "k", "cell"] ["script", "k"] (defScope S__law_source) := ⟨rfl, rfl, rfl, by decide +kernel, rfl, by decide +kernel, by decide +kernel⟩
def m__law_source : M D := fnNew 1
  (setS 2 (mIte ((bin2 dLt (nam 1) ((lenS 0).bind fun d => M.ret (.dat d))).bind toB) (opA dAbs (mCons ((opA dInt (mCons ((ixS 0 ((nam 1).bind frz)).bind fun d => M.ret (.dat d)) (mNil))).bind fun d => M.ret (.dat d)) (mNil))) (bin2 dAdd ((bin2 dMul ((M.ret (.int 131)).bind fun d => M.ret (.dat d)) (nam 1)).bind fun d => M.ret (.dat d)) ((M.ret (.int 71)).bind fun d => M.ret (.dat d)))))
  (mLst (mCons (mIte ((bin2 dGt (nam 2) ((bin2 dPow ((M.ret (.int 10)).bind fun d => M.ret (.dat d)) ((M.ret (.int 17)).bind fun d => M.ret (.dat d))).bind fun d => M.ret (.dat d))).bind toB) ((nam 2).bind frz) (M.ret (.int 0))) (mCons (bin2 dMod ((opA dInt (mCons ((bin2 dAdd ((bin2 dAdd ((bin2 dMul (nam 2) ((M.ret (.int 16807)).bind fun d => M.ret (.dat d))).bind fun d => M.ret (.dat d)) ((bin2 dMul ((M.ret (.int 10067)).bind fun d => M.ret (.dat d)) (nam 1)).bind fun d => M.ret (.dat d))).bind fun d => M.ret (.dat d)) ((M.ret (.int 89)).bind fun d => M.ret (.dat d))).bind fun d => M.ret (.dat d)) (mNil))).bind fun d => M.ret (.dat d)) ((M.ret (.int 2147483237)).bind fun d => M.ret (.dat d))) (mNil))))
theorem ok__law_source (h : FxI info K mg base Γ) : Fn Γ P w K mg base (rN K) 1 "_law_source" ["script", "k"] m__law_source := by
  obtain ⟨fd, F⟩ := h.fn 18 d__law_source rfl
  have hb := F.bindsN (ps := ["script", "k"]) fun _ _ _ _ _ _ us hl => match us, hl with | [_, _], _ => rfl
  exact Sk.fn_of F (h.glo "_law_source" (by decide)) hb (fn_okN (k := 0) F sc__law_source (fun cdv A outer s H E hr => (es_set (i := 2) nd__law_source (by decide) (ev_ite (et_cmp op_lt s_lt (eo_nam 1) (eo_ev (ev_lenS 0 (h.free "len" (by decide))))) (ev_cb call_abs sA_abs (h.free "abs" (by decide)) boot_abs (ea_cons (eo_ev (ev_ct call_int1 sA_int (h.free "int" (by decide)) boot_int (ea_cons (eo_ev (ev_ixS 0 (ev_nam 1))) ea_nil))) ea_nil)) (ev_op op_addA s_add (eo_ev (ev_op op_mul s_mul (eo_ev ev_int) (eo_nam 1))) (eo_ev ev_int)))))
  (fun cdv A outer s H E hr => (en_lst (el_cons (ev_ite (et_cmp op_gt s_gt (eo_nam 2) (eo_ev (ev_op op_pow s_pow (eo_ev ev_int) (eo_ev ev_int)))) (ev_nam 2) ev_int) (el_cons (ev_op op_mod s_mod (eo_ev (ev_ct call_int1 sA_int (h.free "int" (by decide)) boot_int (ea_cons (eo_ev (ev_op op_addA s_add (eo_ev (ev_op op_addA s_add (eo_ev (ev_op op_mul s_mul (eo_nam 2) (eo_ev ev_int))) (eo_ev (ev_op op_mul s_mul (eo_ev ev_int) (eo_nam 1))))) (eo_ev ev_int))) ea_nil))) (eo_ev ev_int)) el_nil)))))
/-! _law_draw -/
theorem nd__law_draw : (["source", "many", "rest", "wide"] : List Str).Nodup := by decide
theorem sc__law_draw : FnScope ["source", "many", "rest", "wide"] ["source", "many"] (defScope S__law_draw) := ⟨rfl, rfl, rfl, by decide +kernel, rfl, by decide +kernel, by decide +kernel⟩
def b__law_draw : MS :=
  seqS (iteS ((bin2 dGt ((bin2 dIx (nam 0) ((M.ret (.int 0)).bind fun d => M.ret (.dat d))).bind fun d => M.ret (.dat d)) ((M.ret (.int 0)).bind fun d => M.ret (.dat d))).bind toB) (seqS (setS 2 (bin2 dMod ((opA dInt (mCons ((bin2 dIx (nam 0) ((M.ret (.int 0)).bind fun d => M.ret (.dat d))).bind fun d => M.ret (.dat d)) (mNil))).bind fun d => M.ret (.dat d)) (nam 1)))
  (seqS (putIx 0 (bin2 dDiv ((bin2 dIx (nam 0) ((M.ret (.int 0)).bind fun d => M.ret (.dat d))).bind fun d => M.ret (.dat d)) (nam 1)) (M.ret (.int 0)))
  (retS ((nam 2).bind frz)))) (fun st => .nx st))
  (seqS (putIx 0 (bin2 dMod ((opA dInt (mCons ((bin2 dAdd ((bin2 dMul ((bin2 dIx (nam 0) ((M.ret (.int 1)).bind fun d => M.ret (.dat d))).bind fun d => M.ret (.dat d)) ((M.ret (.int 48271)).bind fun d => M.ret (.dat d))).bind fun d => M.ret (.dat d)) ((M.ret (.int 83)).bind fun d => M.ret (.dat d))).bind fun d => M.ret (.dat d)) (mNil))).bind fun d => M.ret (.dat d)) ((M.ret (.int 2147483237)).bind fun d => M.ret (.dat d))) (M.ret (.int 1)))
  (seqS (setS 3 (bin2 dMod ((opA dInt (mCons ((bin2 dMul ((bin2 dIx (nam 0) ((M.ret (.int 1)).bind fun d => M.ret (.dat d))).bind fun d => M.ret (.dat d)) ((bin2 dAdd ((bin2 dDiv ((bin2 dIx (nam 0) ((M.ret (.int 1)).bind fun d => M.ret (.dat d))).bind fun d => M.ret (.dat d)) ((M.ret (.int 41)).bind fun d => M.ret (.dat d))).bind fun d => M.ret (.dat d)) ((M.ret (.int 26)).bind fun d => M.ret (.dat d))).bind fun d => M.ret (.dat d))).bind fun d => M.ret (.dat d)) (mNil))).bind fun d => M.ret (.dat d)) ((M.ret (.int 2147483179)).bind fun d => M.ret (.dat d))))
  (retS (bin2 dMod ((opA dInt (mCons ((bin2 dDiv (nam 3) ((M.ret (.int 32)).bind fun d => M.ret (.dat d))).bind fun d => M.ret (.dat d)) (mNil))).bind fun d => M.ret (.dat d)) (nam 1)))))
def m__law_draw : M D := fnOf 2 [0] b__law_draw
theorem ok__law_draw (h : FxI info K mg base Γ) : Fn Γ P w K mg base (rP K) 1 "_law_draw" ["source", "many"] m__law_draw := by
  obtain ⟨fd, F⟩ := h.fn 19 d__law_draw rfl
  have hb := F.bindsN (ps := ["source", "many"]) fun _ _ _ _ _ _ us hl => match us, hl with | [_, _], _ => rfl
  exact Sk.fn_of F (h.glo "_law_draw" (by decide)) hb (fn_okC (k := 0) F sc__law_draw fun A outer s H E hr => (ess_cons (es_if (et_cmp op_gt s_gt (eo_ev (ev_ix ix_seq s_ix (eo_nam 0) (eo_ev ev_int))) (eo_ev ev_int)) (ess_cons (es_set (i := 2) nd__law_draw (by decide) (ev_op op_mod s_mod (eo_ev (ev_ct call_int1 sA_int (h.free "int" (by decide)) boot_int (ea_cons (eo_ev (ev_ix ix_seq s_ix (eo_nam 0) (eo_ev ev_int))) ea_nil))) (eo_nam 1)))
  (ess_cons (es_putIx (i := 0) (ev_op op_fdivW s_div (eo_ev (ev_ix ix_seq s_ix (eo_nam 0) (eo_ev ev_int))) (eo_nam 1)) ev_int)
  (ess_one (es_ret (ev_nam 2))))) ess_nil)
  (ess_cons (es_putIx (i := 0) (ev_op op_mod s_mod (eo_ev (ev_ct call_int1 sA_int (h.free "int" (by decide)) boot_int (ea_cons (eo_ev (ev_op op_addA s_add (eo_ev (ev_op op_mul s_mul (eo_ev (ev_ix ix_seq s_ix (eo_nam 0) (eo_ev ev_int))) (eo_ev ev_int))) (eo_ev ev_int))) ea_nil))) (eo_ev ev_int)) ev_int)
  (ess_cons (es_set (i := 3) nd__law_draw (by decide) (ev_op op_mod s_mod (eo_ev (ev_ct call_int1 sA_int (h.free "int" (by decide)) boot_int (ea_cons (eo_ev (ev_op op_mul s_mul (eo_ev (ev_ix ix_seq s_ix (eo_nam 0) (eo_ev ev_int))) (eo_ev (ev_op op_addA s_add (eo_ev (ev_op op_fdivW s_div (eo_ev (ev_ix ix_seq s_ix (eo_nam 0) (eo_ev ev_int))) (eo_ev ev_int))) (eo_ev ev_int))))) ea_nil))) (eo_ev ev_int)))
  (ess_one (es_ret (ev_op op_mod s_mod (eo_ev (ev_ct call_int1 sA_int (h.free "int" (by decide)) boot_int (ea_cons (eo_ev (ev_op op_fdivW s_div (eo_nam 3) (eo_ev ev_int))) ea_nil))) (eo_nam 1))))))))
/-! _law_choice -/
theorem nd__law_choice : (["source", "some"] : List Str).Nodup := by decide
theorem sc__law_choice : FnScope ["source", "some"] ["source", "some"] (defScope S__law_choice) := ⟨rfl, rfl, rfl, by decide +kernel, rfl, by decide +kernel, by decide +kernel⟩
def b__law_choice : MS :=
  retS (bin2 dIx (nam 1) ((callM m__law_draw (mCons (nam 0) (mCons ((opA dLen (mCons (nam 1) (mNil))).bind fun d => M.ret (.dat d)) (mNil)))).bind fun d => M.ret (.dat d)))
def m__law_choice : M D := fnOf 0 [0] b__law_choice
theorem ok__law_choice (h : FxI info K mg base Γ) : Fn Γ P w K mg base (rP K) 2 "_law_choice" ["source", "some"] m__law_choice := by
  obtain ⟨fd, F⟩ := h.fn 20 d__law_choice rfl
  have hb := F.bindsN (ps := ["source", "some"]) fun _ _ _ _ _ _ us hl => match us, hl with | [_, _], _ => rfl
  exact Sk.fn_of F (h.glo "_law_choice" (by decide)) hb (fn_okC (k := 1) F sc__law_choice fun A outer s H E hr => (ess_one (es_ret (ev_ix ix_seq s_ix (eo_nam 1) (eo_ev (ev_fn (ok__law_draw h) hr (by decide) (takes_of rfl rfl rfl rfl) (len_cons (len_cons len_nil)) (ea_cons (eo_nam 0) (ea_cons (eo_ev (ev_cb call_len sA_len (h.free "len" (by decide)) boot_len (ea_cons (eo_nam 1) ea_nil))) ea_nil))))))))
/-! _law_ford -/
theorem nd__law_ford : (["source", "some", "turn"] : List Str).Nodup := by decide
theorem sc__law_ford : FnScope ["source", "some", "turn"] ["source"] (defScope S__law_ford) := ⟨rfl, rfl, rfl, by decide +kernel, rfl, by decide +kernel, by decide +kernel⟩
def C1__law_ford : M D :=
  callM m__law_choice (mCons (nam 0) (mCons (nam 1) (mNil)))
def b__law_ford : MS :=
  seqS (setS 1 (callM m__law_choice (mCons (nam 0) (mCons ((mLst (mCons (mLst (mCons (M.ret (.int 0)) (mCons (M.ret (.int 1)) (mNil)))) (mCons (mLst (mCons (M.ret (.int 0)) (mCons (M.ret (.int 1)) (mCons (M.ret (.int 1)) (mCons (M.ret (.int 2)) (mNil)))))) (mCons (mLst (mCons (M.ret (.int 1)) (mCons (M.ret (.int 2)) (mCons (M.ret (.int 3)) (mCons (M.ret (.int 0)) (mNil)))))) (mCons (mLst (mCons (M.ret (.int 1)) (mCons (M.ret (.int 1)) (mCons (M.ret (.int 1)) (mCons (M.ret (.int 0)) (mNil)))))) (mNil)))))).bind fun d => M.ret (.dat d)) (mNil)))))
  (retS (opA dTup (mCons ((lcM (.nm 2) (rng1M (bin2 dAdd ((M.ret (.int 1)).bind fun d => M.ret (.dat d)) ((callM m__law_draw (mCons (nam 0) (mCons ((M.ret (.int 8)).bind fun d => M.ret (.dat d)) (mNil)))).bind fun d => M.ret (.dat d)))) (M.ret true) (C1__law_ford) [2]).bind fun d => M.ret (.dat d)) (mNil))))
def m__law_ford : M D := fnOf 2 [0] b__law_ford
theorem ok__law_ford (h : FxI info K mg base Γ) : Fn Γ P w K mg base (rP K) 3 "_law_ford" ["source"] m__law_ford := by
  obtain ⟨fd, F⟩ := h.fn 21 d__law_ford rfl
  have hb := F.bindsN (ps := ["source"]) fun _ _ _ _ _ _ us hl => match us, hl with | [_], _ => rfl
  exact Sk.fn_of F (h.glo "_law_ford" (by decide)) hb (fn_okC (k := 2) F sc__law_ford fun A outer s H E hr => (ess_cons (es_set (i := 1) nd__law_ford (by decide) (ev_fn (ok__law_choice h) hr (by decide) (takes_of rfl rfl rfl rfl) (len_cons (len_cons len_nil)) (ea_cons (eo_nam 0) (ea_cons (eo_ev (ev_en (en_lst (el_cons (ev_en (en_lst (el_cons ev_int (el_cons ev_int el_nil)))) (el_cons (ev_en (en_lst (el_cons ev_int (el_cons ev_int (el_cons ev_int (el_cons ev_int el_nil)))))) (el_cons (ev_en (en_lst (el_cons ev_int (el_cons ev_int (el_cons ev_int (el_cons ev_int el_nil)))))) (el_cons (ev_en (en_lst (el_cons ev_int (el_cons ev_int (el_cons ev_int (el_cons ev_int el_nil)))))) el_nil))))))) ea_nil))))
  (ess_one (es_ret (ev_ct call_tupF sA_tup (h.free "tuple" (by decide)) boot_tuple (ea_cons (eo_ev (ev_en (en_lc [("turn", 2)] (g := gName 2) rfl nd__law_ford (ei_rng1 (ev_op op_addA s_add (eo_ev ev_int) (eo_ev (ev_fn (ok__law_draw h) hr (by decide) (takes_of rfl rfl rfl rfl) (len_cons (len_cons len_nil)) (ea_cons (eo_nam 0) (ea_cons (eo_ev ev_int) ea_nil))))) (h.free "range" (by decide))) (blkOk_by (by rfl)) (by decide) (fun s H C cl fp => (eg_nm nd__law_ford)) (fun s H C cl fp => ets_nil) (fun s H C cl fp => (ev_fn (ok__law_choice h) hr (by decide) L2.takes0 (len_cons (len_cons len_nil)) (ea_cons (eo_nam 0) (ea_cons (eo_nam 1) ea_nil))))))) ea_nil))))))
/-! _law_stone -/
theorem nd__law_stone : (["ford", "place"] : List Str).Nodup := by decide
theorem sc__law_stone : FnScope ["ford", "place"] ["ford", "place"] (defScope S__law_stone) := ⟨rfl, rfl, rfl, by decide +kernel, rfl, by decide +kernel, by decide +kernel⟩
def b__law_stone : MS :=
  retS (bin2 dIx (nam 0) ((bin2 dMod ((bin2 dSub (nam 1) ((M.ret (.int 1)).bind fun d => M.ret (.dat d))).bind fun d => M.ret (.dat d)) ((opA dLen (mCons (nam 0) (mNil))).bind fun d => M.ret (.dat d))).bind fun d => M.ret (.dat d)))
def m__law_stone : M D := fnOf 0 [] b__law_stone
theorem ok__law_stone (h : FxI info K mg base Γ) : Fn Γ P w K mg base (rP K) 1 "_law_stone" ["ford", "place"] m__law_stone := by
  obtain ⟨fd, F⟩ := h.fn 22 d__law_stone rfl
  have hb := F.bindsN (ps := ["ford", "place"]) fun _ _ _ _ _ _ us hl => match us, hl with | [_, _], _ => rfl
  exact Sk.fn_of F (h.glo "_law_stone" (by decide)) hb (fn_okC (k := 0) F sc__law_stone fun A outer s H E hr => (ess_one (es_ret (ev_ix ix_seq s_ix (eo_nam 0) (eo_ev (ev_op op_mod s_mod (eo_ev (ev_op op_sub s_sub (eo_nam 1) (eo_ev ev_int))) (eo_ev (ev_cb call_len sA_len (h.free "len" (by decide)) boot_len (ea_cons (eo_nam 0) ea_nil)))))))))
/-! _law_told -/
theorem nd__law_told : (["calendar", "n", "early", "again", "rise", "item"] : List Str).Nodup := by decide
theorem sc__law_told : FnScope ["calendar", "n", "early", "again", "rise", "item"] ["calendar", "n"] (defScope S__law_told) := ⟨rfl, rfl, rfl, by decide +kernel, rfl, by decide +kernel, by decide +kernel⟩
def b__law_told : MS :=
  seqS (unpS (.tp [2, 3, 4]) ((nam 0).bind frz))
  (seqS (iteS ((bin2 dLt (nam 1) ((opA dLen (mCons (nam 2) (mNil))).bind fun d => M.ret (.dat d))).bind toB) (retS (bin2 dIx (nam 2) (nam 1))) (fun st => .nx st))
  (seqS (setS 5 (bin2 dIx (nam 3) ((bin2 dMod ((bin2 dSub (nam 1) ((opA dLen (mCons (nam 2) (mNil))).bind fun d => M.ret (.dat d))).bind fun d => M.ret (.dat d)) ((opA dLen (mCons (nam 3) (mNil))).bind fun d => M.ret (.dat d))).bind fun d => M.ret (.dat d))))
  (retS (mIte ((bin2 dIsN (nam 5) ((M.ret .none).bind fun d => M.ret (.dat d))).bind toB) (M.ret .none) (bin2 dAdd (nam 5) ((bin2 dMul ((bin2 dDiv ((bin2 dSub (nam 1) ((opA dLen (mCons (nam 2) (mNil))).bind fun d => M.ret (.dat d))).bind fun d => M.ret (.dat d)) ((opA dLen (mCons (nam 3) (mNil))).bind fun d => M.ret (.dat d))).bind fun d => M.ret (.dat d)) (nam 4)).bind fun d => M.ret (.dat d)))))))
def m__law_told : M D := fnOf 4 [] b__law_told
theorem ok__law_told (h : FxI info K mg base Γ) : Fn Γ P w K mg base (rP K) 1 "_law_told" ["calendar", "n"] m__law_told := by
  obtain ⟨fd, F⟩ := h.fn 23 d__law_told rfl
  have hb := F.bindsN (ps := ["calendar", "n"]) fun _ _ _ _ _ _ us hl => match us, hl with | [_, _], _ => rfl
  exact Sk.fn_of F (h.glo "_law_told" (by decide)) hb (fn_okC (k := 0) F sc__law_told fun A outer s H E hr => (ess_cons (es_unp (by decide) (ev_nam 0) (eg_tp rfl (egs_cons nd__law_told (egs_cons nd__law_told (egs_cons nd__law_told egs_nil)))))
  (ess_cons (es_if (et_cmp op_lt s_lt (eo_nam 1) (eo_ev (ev_cb call_len sA_len (h.free "len" (by decide)) boot_len (ea_cons (eo_nam 2) ea_nil)))) (ess_one (es_ret (ev_ix ix_seq s_ix (eo_nam 2) (eo_nam 1)))) ess_nil)
  (ess_cons (es_set (i := 5) nd__law_told (by decide) (ev_ix ix_seq s_ix (eo_nam 3) (eo_ev (ev_op op_mod s_mod (eo_ev (ev_op op_sub s_sub (eo_nam 1) (eo_ev (ev_cb call_len sA_len (h.free "len" (by decide)) boot_len (ea_cons (eo_nam 2) ea_nil))))) (eo_ev (ev_cb call_len sA_len (h.free "len" (by decide)) boot_len (ea_cons (eo_nam 3) ea_nil)))))))
  (ess_one (es_ret (ev_ite (et_cmp op_isN s_isN (eo_nam 5) (eo_ev ev_non)) ev_non (ev_op op_addA s_add (eo_nam 5) (eo_ev (ev_op op_mul s_mul (eo_ev (ev_op op_fdivW s_div (eo_ev (ev_op op_sub s_sub (eo_nam 1) (eo_ev (ev_cb call_len sA_len (h.free "len" (by decide)) boot_len (ea_cons (eo_nam 2) ea_nil))))) (eo_ev (ev_cb call_len sA_len (h.free "len" (by decide)) boot_len (ea_cons (eo_nam 3) ea_nil))))) (eo_nam 4)))))))))))
/-! _law_least -/
theorem nd__law_least : (["calendar", "early", "again", "rise", "size", "later", "item"] : List Str).Nodup := by decide
theorem sc__law_least : FnScope ["calendar", "early", "again", "rise", "size", "later", "item"] ["calendar"] (defScope S__law_least) := ⟨rfl, rfl, rfl, by decide +kernel, rfl, by decide +kernel, by decide +kernel⟩
def C1__law_least : M D :=
  bin2 dAdd (nam 6) (nam 3)
def C2__law_least : M D :=
  bin2 dAdd (nam 6) ((bin2 dDiv ((bin2 dMul (nam 3) (nam 4)).bind fun d => M.ret (.dat d)) ((opA dLen (mCons (nam 2) (mNil))).bind fun d => M.ret (.dat d))).bind fun d => M.ret (.dat d))
def L1__law_least : MS :=
  iteS (mAnd ((bin2 dEq ((bin2 dMod ((opA dLen (mCons (nam 2) (mNil))).bind fun d => M.ret (.dat d)) (nam 4)).bind fun d => M.ret (.dat d)) ((M.ret (.int 0)).bind fun d => M.ret (.dat d))).bind toB) ((bin2 dEq ((bin2 dMod ((bin2 dMul (nam 3) (nam 4)).bind fun d => M.ret (.dat d)) ((opA dLen (mCons (nam 2) (mNil))).bind fun d => M.ret (.dat d))).bind fun d => M.ret (.dat d)) ((M.ret (.int 0)).bind fun d => M.ret (.dat d))).bind toB)) (seqS (setS 5 (bin2 dAdd ((sliM dCutT (nam 2) (partM ((nam 4).bind frz)) (M.ret none)).bind fun d => M.ret (.dat d)) ((opA dTup (mCons ((lcM (.nm 6) (seqM (sliM dCutT (nam 2) (M.ret none) (partM ((nam 4).bind frz)))) (M.ret true) (C1__law_least) [6]).bind fun d => M.ret (.dat d)) (mNil))).bind fun d => M.ret (.dat d))))
  (iteS ((bin2 dEq (nam 5) ((opA dTup (mCons ((lcM (.nm 6) (seqM ((nam 2).bind frz)) (M.ret true) (C2__law_least) [6]).bind fun d => M.ret (.dat d)) (mNil))).bind fun d => M.ret (.dat d))).bind toB) (retS (M.ret (.bool false))) (fun st => .nx st))) (fun st => .nx st)
def b__law_least : MS :=
  seqS (unpS (.tp [1, 2, 3]) ((nam 0).bind frz))
  (seqS (iteS ((bin2 dEq (nam 2) ((mTup (mCons (M.ret .none) (mNil))).bind fun d => M.ret (.dat d))).bind toB) (retS (vAnd (bin2 dEq (nam 3) ((M.ret (.int 0)).bind fun d => M.ret (.dat d))) (bin2 dNotInL ((M.ret .none).bind fun d => M.ret (.dat d)) (nam 1)))) (fun st => .nx st))
  (seqS (forS (.nm 4) (rng2M (M.ret (.int 1)) (opA dLen (mCons (nam 2) (mNil)))) (L1__law_least) [])
  (retS (vOr (bin2 dEq (nam 1) ((mTup (mNil)).bind fun d => M.ret (.dat d))) (bin2 dNe ((bin2 dAdd ((bin2 dIx (nam 1) ((un1 dNeg ((M.ret (.int 1)).bind fun d => M.ret (.dat d))).bind fun d => M.ret (.dat d))).bind fun d => M.ret (.dat d)) (nam 3)).bind fun d => M.ret (.dat d)) ((bin2 dIx (nam 2) ((un1 dNeg ((M.ret (.int 1)).bind fun d => M.ret (.dat d))).bind fun d => M.ret (.dat d))).bind fun d => M.ret (.dat d)))))))
def m__law_least : M D := fnOf 6 [] b__law_least
theorem ok__law_least (h : FxI info K mg base Γ) : Fn Γ P w K mg base (rP K) 1 "_law_least" ["calendar"] m__law_least := by
  obtain ⟨fd, F⟩ := h.fn 24 d__law_least rfl
  have hb := F.bindsN (ps := ["calendar"]) fun _ _ _ _ _ _ us hl => match us, hl with | [_], _ => rfl
  exact Sk.fn_of F (h.glo "_law_least" (by decide)) hb (fn_okC (k := 0) F sc__law_least fun A outer s H E hr => (ess_cons (es_unp (by decide) (ev_nam 0) (eg_tp rfl (egs_cons nd__law_least (egs_cons nd__law_least (egs_cons nd__law_least egs_nil)))))
  (ess_cons (es_if (et_cmp (op_eqD (u64 hr)) s_eq (eo_nam 2) (eo_ev (ev_tup (el_cons ev_non el_nil)))) (ess_one (es_ret (ev_and (ev_cmp (op_eqD (u64 hr)) s_eq (eo_nam 3) (eo_ev ev_int)) (ev_one (ev_cmp (op_notInA (u65 hr)) s_notInL (eo_ev ev_non) (eo_nam 1)))))) ess_nil)
  (ess_cons (es_for (kill := []) (passes_of rfl) rfl (by decide) (ei_rng2 ev_int (ev_cb call_len sA_len (h.free "len" (by decide)) boot_len (ea_cons (eo_nam 2) ea_nil)) (h.free "range" (by decide))) (eg_nm nd__law_least) (ess_one (es_if (EW.et (ew_and (et_cmp (op_eqD (u64 hr)) s_eq (eo_ev (ev_op op_mod s_mod (eo_ev (ev_cb call_len sA_len (h.free "len" (by decide)) boot_len (ea_cons (eo_nam 2) ea_nil))) (eo_nam 4))) (eo_ev ev_int)) (ew_and1 (et_cmp (op_eqD (u64 hr)) s_eq (eo_ev (ev_op op_mod s_mod (eo_ev (ev_op op_mul s_mul (eo_nam 3) (eo_nam 4))) (eo_ev (ev_cb call_len sA_len (h.free "len" (by decide)) boot_len (ea_cons (eo_nam 2) ea_nil))))) (eo_ev ev_int))))) (ess_cons (es_set (i := 5) nd__law_least (by decide) (ev_op op_addA s_add (eo_ev (ev_slT (eo_nam 2) (ep_some (ev_nam 4)) ep_none)) (eo_ev (ev_ct call_tupF sA_tup (h.free "tuple" (by decide)) boot_tuple (ea_cons (eo_ev (ev_en (en_lc [("item", 6)] (g := gName 6) rfl nd__law_least (ei_seq (ev_slT (eo_nam 2) ep_none (ep_some (ev_nam 4)))) (blkOk_by (by rfl)) (by decide) (fun s H C cl fp => (eg_nm nd__law_least)) (fun s H C cl fp => ets_nil) (fun s H C cl fp => (ev_op op_addA s_add (eo_nam 6) (eo_nam 3)))))) ea_nil)))))
  (ess_one (es_if (et_cmp (op_eqD (u64 hr)) s_eq (eo_nam 5) (eo_ev (ev_ct call_tupF sA_tup (h.free "tuple" (by decide)) boot_tuple (ea_cons (eo_ev (ev_en (en_lc [("item", 6)] (g := gName 6) rfl nd__law_least (ei_seq (ev_nam 2)) (blkOk_by (by rfl)) (by decide) (fun s H C cl fp => (eg_nm nd__law_least)) (fun s H C cl fp => ets_nil) (fun s H C cl fp => (ev_op op_addA s_add (eo_nam 6) (eo_ev (ev_op op_fdivW s_div (eo_ev (ev_op op_mul s_mul (eo_nam 3) (eo_nam 4))) (eo_ev (ev_cb call_len sA_len (h.free "len" (by decide)) boot_len (ea_cons (eo_nam 2) ea_nil)))))))))) ea_nil)))) (ess_one (es_ret ev_bl)) ess_nil))) ess_nil)))
  (ess_one (es_ret (ev_or (ev_cmp (op_eqD (u64 hr)) s_eq (eo_nam 1) (eo_ev (ev_tup el_nil))) (ev_one (ev_cmp (op_neD (u64 hr)) s_ne (eo_ev (ev_op op_addA s_add (eo_ev (ev_ix ix_seq s_ix (eo_nam 1) (eo_ev (ev_un un_neg s_neg (eo_ev ev_int))))) (eo_nam 3))) (eo_ev (ev_ix ix_seq s_ix (eo_nam 2) (eo_ev (ev_un un_neg s_neg (eo_ev ev_int))))))))))))))
/-! _law_will -/
theorem nd__law_will : (["source", "some", "found", "turn", "length", "one"] : List Str).Nodup := by decide
theorem sc__law_will : FnScope ["source", "some", "found", "turn", "length", "one"] ["source"] (defScope S__law_will) := ⟨rfl, rfl, rfl, by decide +kernel, rfl, by decide +kernel, by decide +kernel⟩
def C1__law_will : M D :=
  (nam 5).bind frz
def F1__law_will : M Bool :=
  (bin2 dNe (nam 5) (nam 4)).bind toB
def L1__law_will : MS :=
  seqS (setS 4 (callM m__law_choice (mCons (nam 0) (mCons (((nam 1).bind frz).bind fun d => M.ret (.dat d)) (mNil)))))
  (seqS (setN 1 (lcM (.nm 5) (seqM ((nam 1).bind frz)) (F1__law_will) (C1__law_will) [5]))
  (setS 2 (bin2 dAdd (nam 2) ((mTup (mCons ((nam 4).bind frz) (mNil))).bind fun d => M.ret (.dat d)))))
def b__law_will : MS :=
  seqS (putS [1, 2] (mDat (mLst (mCons (M.ret (.int 1)) (mCons (M.ret (.int 2)) (mCons (M.ret (.int 3)) (mCons (M.ret (.int 4)) (mCons (M.ret (.int 5)) (mCons (M.ret (.int 6)) (mNil)))))))) (mDat (mTup (mNil)) (mNil))))
  (seqS (forS (.nm 3) (rng1M (bin2 dAdd ((M.ret (.int 1)).bind fun d => M.ret (.dat d)) ((callM m__law_draw (mCons (nam 0) (mCons ((M.ret (.int 3)).bind fun d => M.ret (.dat d)) (mNil)))).bind fun d => M.ret (.dat d)))) (L1__law_will) [])
  (retS ((nam 2).bind frz)))
def m__law_will : M D := fnOf 5 [0] b__law_will
theorem ok__law_will (h : FxI info K mg base Γ) : Fn Γ P w K mg base (rP K) 3 "_law_will" ["source"] m__law_will := by
  obtain ⟨fd, F⟩ := h.fn 25 d__law_will rfl
  have hb := F.bindsN (ps := ["source"]) fun _ _ _ _ _ _ us hl => match us, hl with | [_], _ => rfl
  exact Sk.fn_of F (h.glo "_law_will" (by decide)) hb (fn_okC (k := 2) F sc__law_will fun A outer s H E hr => (ess_cons (es_par rfl nd__law_will (by decide) (em_dat (ev_en (en_lst (el_cons ev_int (el_cons ev_int (el_cons ev_int (el_cons ev_int (el_cons ev_int (el_cons ev_int el_nil)))))))) (em_dat (ev_tup el_nil) em_nil)) (by decide))
  (ess_cons (es_for (kill := []) (passes_of rfl) rfl (by decide) (ei_rng1 (ev_op op_addA s_add (eo_ev ev_int) (eo_ev (ev_fn (ok__law_draw h) hr (by decide) (takes_of rfl rfl rfl rfl) (len_cons (len_cons len_nil)) (ea_cons (eo_nam 0) (ea_cons (eo_ev ev_int) ea_nil))))) (h.free "range" (by decide))) (eg_nm nd__law_will) (ess_cons (es_set (i := 4) nd__law_will (by decide) (ev_fn (ok__law_choice h) hr (by decide) (takes_of rfl rfl rfl rfl) (len_cons (len_cons len_nil)) (ea_cons (eo_nam 0) (ea_cons (eo_ev (ev_nam 1)) ea_nil))))
  (ess_cons (es_lc (i := 1) [("one", 5)] (g := gName 5) rfl nd__law_will (by decide) (ei_seq (ev_nam 1)) (blkOk_by (by rfl)) (by decide) (fun s H C cl fp => (eg_nm nd__law_will)) (fun s H C cl fp => (ets_one (et_cmp (op_neD (u64 hr)) s_ne (eo_nam 5) (eo_nam 4)))) (fun s H C cl fp => (ev_nam 5)))
  (ess_one (es_set (i := 2) nd__law_will (by decide) (ev_op op_addA s_add (eo_nam 2) (eo_ev (ev_tup (el_cons (ev_nam 4) el_nil)))))))))
  (ess_one (es_ret (ev_nam 2))))))
/-! _law_led -/
theorem nd__law_led : (["ford", "will", "n", "place", "found", "some", "length"] : List Str).Nodup := by decide
theorem sc__law_led : FnScope ["ford", "will", "n", "place", "found", "some", "length"] ["ford", "will", "n"] (defScope S__law_led) := ⟨rfl, rfl, rfl, by decide +kernel, rfl, by decide +kernel, by decide +kernel⟩
noncomputable def C1__law_led : M D :=
  (nam 6).bind frz
noncomputable def F1__law_led : M Bool :=
  mOr ((bin2 dGt ((bin2 dAdd (nam 3) (nam 6)).bind fun d => M.ret (.dat d)) (nam 2)).bind toB) ((bin2 dGt ((callM m__law_stone (mCons (nam 0) (mCons ((bin2 dAdd (nam 3) (nam 6)).bind fun d => M.ret (.dat d)) (mNil)))).bind fun d => M.ret (.dat d)) ((M.ret (.int 0)).bind fun d => M.ret (.dat d))).bind toB)
noncomputable def L1__law_led : MS :=
  seqS (setN 5 (lcM (.nm 6) (seqM ((nam 1).bind frz)) (F1__law_led) (C1__law_led) [6]))
  (seqS (iteS ((bin2 dEq (nam 5) ((mLst (mNil)).bind fun d => M.ret (.dat d))).bind toB) (retS (mTup (mCons ((nam 4).bind frz) (mCons (M.ret (.bool false)) (mNil))))) (fun st => .nx st))
  (putS [3, 4] (mDat (bin2 dAdd (nam 3) ((bin2 dIx (nam 5) ((M.ret (.int 0)).bind fun d => M.ret (.dat d))).bind fun d => M.ret (.dat d))) (mDat (bin2 dAdd (nam 4) ((mTup (mCons (bin2 dIx (nam 5) ((M.ret (.int 0)).bind fun d => M.ret (.dat d))) (mNil))).bind fun d => M.ret (.dat d))) (mNil)))))
noncomputable def W1__law_led : M Bool :=
  (bin2 dLe (nam 3) (nam 2)).bind toB
noncomputable def b__law_led : MS :=
  seqS (putS [3, 4] (mDat (M.ret (.int 0)) (mDat (mTup (mNil)) (mNil))))
  (seqS (whlS (W1__law_led) (L1__law_led) [])
  (retS (mTup (mCons ((nam 4).bind frz) (mCons (M.ret (.bool true)) (mNil))))))
noncomputable def m__law_led : M D := fnOf 4 [] b__law_led
theorem ok__law_led (h : FxI info K mg base Γ) : Fn Γ P w K mg base (rP K) 2 "_law_led" ["ford", "will", "n"] m__law_led := by
  obtain ⟨fd, F⟩ := h.fn 26 d__law_led rfl
  have hb := F.bindsN (ps := ["ford", "will", "n"]) fun _ _ _ _ _ _ us hl => match us, hl with | [_, _, _], _ => rfl
  exact Sk.fn_of F (h.glo "_law_led" (by decide)) hb (fn_okC (k := 1) F sc__law_led fun A outer s H E hr => (ess_cons (es_tupN rfl (by decide) (em_dat ev_int (em_dat (ev_tup el_nil) em_nil)) (egs_cons nd__law_led (egs_cons nd__law_led egs_nil)))
  (ess_cons (es_while (kill := []) (passes_of rfl) (et_cmp op_le s_le (eo_nam 3) (eo_nam 2)) (ess_cons (es_lc (i := 5) [("length", 6)] (g := gName 6) rfl nd__law_led (by decide) (ei_seq (ev_nam 1)) (blkOk_by (by rfl)) (by decide) (fun s H C cl fp => (eg_nm nd__law_led)) (fun s H C cl fp => (ets_one (EW.et (ew_or (et_cmp op_gt s_gt (eo_ev (ev_op op_addA s_add (eo_nam 3) (eo_nam 6))) (eo_nam 2)) (ew_or1 (et_cmp op_gt s_gt (eo_ev (ev_fn (ok__law_stone h) hr (by decide) L2.takes0 (len_cons (len_cons len_nil)) (ea_cons (eo_nam 0) (ea_cons (eo_ev (ev_op op_addA s_add (eo_nam 3) (eo_nam 6))) ea_nil)))) (eo_ev ev_int))))))) (fun s H C cl fp => (ev_nam 6)))
  (ess_cons (es_if (et_cmp (op_eqD (u64 hr)) s_eq (eo_nam 5) (eo_ev (ev_en (en_lst el_nil)))) (ess_one (es_ret (ev_tup (el_cons (ev_nam 4) (el_cons ev_bl el_nil))))) ess_nil)
  (ess_one (es_tupN rfl (by decide) (em_dat (ev_op op_addA s_add (eo_nam 3) (eo_ev (ev_ix ix_seq s_ix (eo_nam 5) (eo_ev ev_int)))) (em_dat (ev_op op_addA s_add (eo_nam 4) (eo_ev (ev_tup (el_cons (ev_ix ix_seq s_ix (eo_nam 5) (eo_ev ev_int)) el_nil)))) em_nil)) (egs_cons nd__law_led (egs_cons nd__law_led egs_nil)))))))
  (ess_one (es_ret (ev_tup (el_cons (ev_nam 4) (el_cons ev_bl el_nil))))))))
/-! _law_far_steps -/
theorem nd__law_far_steps : (["ford", "will", "n", "place", "many", "seen", "item", "size", "more", "turns", "some", "length"] : List Str).Nodup := by decide
theorem sc__law_far_steps : FnScope ["ford", "will", "n", "place", "many", "seen", "item", "size", "more", "turns", "some", "length"] ["ford", "will", "n"] (defScope S__law_far_steps) := ⟨rfl, rfl, rfl, by decide +kernel, rfl, by decide +kernel, by decide +kernel⟩
noncomputable def C1__law_far_steps : M D :=
  (nam 11).bind frz
noncomputable def F1__law_far_steps : M Bool :=
  mOr ((bin2 dGt ((bin2 dAdd (nam 3) (nam 11)).bind fun d => M.ret (.dat d)) (nam 2)).bind toB) ((bin2 dGt ((callM m__law_stone (mCons (nam 0) (mCons ((bin2 dAdd (nam 3) (nam 11)).bind fun d => M.ret (.dat d)) (mNil)))).bind fun d => M.ret (.dat d)) ((M.ret (.int 0)).bind fun d => M.ret (.dat d))).bind toB)
noncomputable def L1__law_far_steps : MS :=
  seqS (setS 6 (bin2 dMod (nam 3) ((opA dLen (mCons (nam 0) (mNil))).bind fun d => M.ret (.dat d))))
  (seqS (iteS (mAnd ((bin2 dGt (nam 3) ((M.ret (.int 0)).bind fun d => M.ret (.dat d))).bind toB) (mAnd ((bin2 dkIn (nam 6) (nam 5)).bind toB) ((bin2 dGt ((bin2 dSub (nam 2) (nam 3)).bind fun d => M.ret (.dat d)) ((M.ret (.int 100)).bind fun d => M.ret (.dat d))).bind toB))) (seqS (putS [7, 8] (mDat (bin2 dSub (nam 3) ((bin2 dIx ((bin2 dkGet (nam 5) (nam 6)).bind fun d => M.ret (.dat d)) ((M.ret (.int 0)).bind fun d => M.ret (.dat d))).bind fun d => M.ret (.dat d))) (mDat (bin2 dSub (nam 4) ((bin2 dIx ((bin2 dkGet (nam 5) (nam 6)).bind fun d => M.ret (.dat d)) ((M.ret (.int 1)).bind fun d => M.ret (.dat d))).bind fun d => M.ret (.dat d))) (mNil))))
  (seqS (setS 9 (bin2 dDiv ((bin2 dSub ((bin2 dSub (nam 2) (nam 3)).bind fun d => M.ret (.dat d)) ((M.ret (.int 50)).bind fun d => M.ret (.dat d))).bind fun d => M.ret (.dat d)) (nam 7)))
  (putS [3, 4, 5] (mDat (bin2 dAdd (nam 3) ((bin2 dMul (nam 9) (nam 7)).bind fun d => M.ret (.dat d))) (mDat (bin2 dAdd (nam 4) ((bin2 dMul (nam 9) (nam 8)).bind fun d => M.ret (.dat d))) (mNew (M.ret (.dict [])) (mNil))))))) (iteS ((bin2 dGt (nam 3) ((M.ret (.int 0)).bind fun d => M.ret (.dat d))).bind toB) (dputS 5 (mTup (mCons ((nam 3).bind frz) (mCons ((nam 4).bind frz) (mNil)))) ((nam 6).bind frz)) (fun st => .nx st)))
  (seqS (setN 10 (lcM (.nm 11) (seqM ((nam 1).bind frz)) (F1__law_far_steps) (C1__law_far_steps) [11]))
  (seqS (iteS ((bin2 dEq (nam 10) ((mLst (mNil)).bind fun d => M.ret (.dat d))).bind toB) (retS (M.ret .none)) (fun st => .nx st))
  (putS [3, 4] (mDat (bin2 dAdd (nam 3) ((bin2 dIx (nam 10) ((M.ret (.int 0)).bind fun d => M.ret (.dat d))).bind fun d => M.ret (.dat d))) (mDat (bin2 dAdd (nam 4) ((M.ret (.int 1)).bind fun d => M.ret (.dat d))) (mNil)))))))
noncomputable def W1__law_far_steps : M Bool :=
  (bin2 dLe (nam 3) (nam 2)).bind toB
noncomputable def b__law_far_steps : MS :=
  seqS (putS [3, 4, 5] (mDat (M.ret (.int 0)) (mDat (M.ret (.int 0)) (mNew (M.ret (.dict [])) (mNil)))))
  (seqS (whlS (W1__law_far_steps) (L1__law_far_steps) [])
  (retS ((nam 4).bind frz)))
noncomputable def m__law_far_steps : M D := fnOf 9 [] b__law_far_steps
theorem ok__law_far_steps (h : FxI info K mg base Γ) : Fn Γ P w K mg base (rP K) 2 "_law_far_steps" ["ford", "will", "n"] m__law_far_steps := by
  obtain ⟨fd, F⟩ := h.fn 27 d__law_far_steps rfl
  have hb := F.bindsN (ps := ["ford", "will", "n"]) fun _ _ _ _ _ _ us hl => match us, hl with | [_, _, _], _ => rfl
  exact Sk.fn_of F (h.glo "_law_far_steps" (by decide)) hb (fn_okC (k := 1) F sc__law_far_steps fun A outer s H E hr => (ess_cons (es_tupN rfl (by decide) (em_dat ev_int (em_dat ev_int (em_new en_dnil em_nil))) (egs_cons nd__law_far_steps (egs_cons nd__law_far_steps (egs_cons nd__law_far_steps egs_nil))))
  (ess_cons (es_while (kill := []) (passes_of rfl) (et_cmp op_le s_le (eo_nam 3) (eo_nam 2)) (ess_cons (es_set (i := 6) nd__law_far_steps (by decide) (ev_op op_mod s_mod (eo_nam 3) (eo_ev (ev_cb call_len sA_len (h.free "len" (by decide)) boot_len (ea_cons (eo_nam 0) ea_nil)))))
  (ess_cons (es_if (EW.et (ew_and (et_cmp op_gt s_gt (eo_nam 3) (eo_ev ev_int)) (ew_and (et_din (room_units hr) (eo_nam 6) (eo_nam 5)) (ew_and1 (et_cmp op_gt s_gt (eo_ev (ev_op op_sub s_sub (eo_nam 2) (eo_nam 3))) (eo_ev ev_int)))))) (ess_cons (es_par rfl nd__law_far_steps (by decide) (em_dat (ev_op op_sub s_sub (eo_nam 3) (eo_ev (ev_ix ix_seq s_ix (eo_ev (ev_dget (room_units hr) (eo_nam 5) (eo_nam 6))) (eo_ev ev_int)))) (em_dat (ev_op op_sub s_sub (eo_nam 4) (eo_ev (ev_ix ix_seq s_ix (eo_ev (ev_dget (room_units hr) (eo_nam 5) (eo_nam 6))) (eo_ev ev_int)))) em_nil)) (by decide))
  (ess_cons (es_set (i := 9) nd__law_far_steps (by decide) (ev_op op_fdivW s_div (eo_ev (ev_op op_sub s_sub (eo_ev (ev_op op_sub s_sub (eo_nam 2) (eo_nam 3))) (eo_ev ev_int))) (eo_nam 7)))
  (ess_one (es_tupN rfl (by decide) (em_dat (ev_op op_addA s_add (eo_nam 3) (eo_ev (ev_op op_mul s_mul (eo_nam 9) (eo_nam 7)))) (em_dat (ev_op op_addA s_add (eo_nam 4) (eo_ev (ev_op op_mul s_mul (eo_nam 9) (eo_nam 8)))) (em_new en_dnil em_nil))) (egs_cons nd__law_far_steps (egs_cons nd__law_far_steps (egs_cons nd__law_far_steps egs_nil))))))) (ess_one (es_if (et_cmp op_gt s_gt (eo_nam 3) (eo_ev ev_int)) (ess_one (es_dput (i := 5) (room_units hr) (ev_tup (el_cons (ev_nam 3) (el_cons (ev_nam 4) el_nil))) (ev_nam 6))) ess_nil)))
  (ess_cons (es_lc (i := 10) [("length", 11)] (g := gName 11) rfl nd__law_far_steps (by decide) (ei_seq (ev_nam 1)) (blkOk_by (by rfl)) (by decide) (fun s H C cl fp => (eg_nm nd__law_far_steps)) (fun s H C cl fp => (ets_one (EW.et (ew_or (et_cmp op_gt s_gt (eo_ev (ev_op op_addA s_add (eo_nam 3) (eo_nam 11))) (eo_nam 2)) (ew_or1 (et_cmp op_gt s_gt (eo_ev (ev_fn (ok__law_stone h) hr (by decide) L2.takes0 (len_cons (len_cons len_nil)) (ea_cons (eo_nam 0) (ea_cons (eo_ev (ev_op op_addA s_add (eo_nam 3) (eo_nam 11))) ea_nil)))) (eo_ev ev_int))))))) (fun s H C cl fp => (ev_nam 11)))
  (ess_cons (es_if (et_cmp (op_eqD (u64 hr)) s_eq (eo_nam 10) (eo_ev (ev_en (en_lst el_nil)))) (ess_one (es_ret ev_non)) ess_nil)
  (ess_one (es_tupN rfl (by decide) (em_dat (ev_op op_addA s_add (eo_nam 3) (eo_ev (ev_ix ix_seq s_ix (eo_nam 10) (eo_ev ev_int)))) (em_dat (ev_op op_addA s_add (eo_nam 4) (eo_ev ev_int)) em_nil)) (egs_cons nd__law_far_steps (egs_cons nd__law_far_steps egs_nil)))))))))
  (ess_one (es_ret (ev_nam 4))))))
/-! _law_right -/
theorem nd__law_right : (["source", "ford", "will", "calendar", "n", "steps", "came", "due"] : List Str).Nodup := by decide
theorem sc__law_right : FnScope ["source", "ford", "will", "calendar", "n", "steps", "came", "due"] ["source", "ford", "will"] (defScope S__law_right) := ⟨rfl, rfl, rfl, by decide +kernel, rfl, by decide +kernel, by decide +kernel⟩
noncomputable def L1__law_right : MS :=
  seqS (unpS (.tp [5, 6]) (callM m__law_led (mCons (nam 1) (mCons (nam 2) (mCons (nam 4) (mNil))))))
  (seqS (iteS ((bin2 dNe ((callM m__law_told (mCons (nam 3) (mCons (nam 4) (mNil)))).bind fun d => M.ret (.dat d)) ((mIte (((nam 6).bind frz).bind toB) (opA dLen (mCons (nam 5) (mNil))) (M.ret .none)).bind fun d => M.ret (.dat d))).bind toB) (retS (M.ret (.bool false))) (fun st => .nx st))
  (iteS (mAnd ((bin2 dLe (nam 4) ((M.ret (.int 60)).bind fun d => M.ret (.dat d))).bind toB) ((bin2 dNe ((callM m_led (mCons (nam 1) (mCons (nam 2) (mCons (nam 4) (mNil))))).bind fun d => M.ret (.dat d)) ((mTup (mCons ((nam 5).bind frz) (mCons ((nam 6).bind frz) (mNil)))).bind fun d => M.ret (.dat d))).bind toB)) (retS (M.ret (.bool false))) (fun st => .nx st)))
noncomputable def L2__law_right : MS :=
  seqS (setS 7 (callM m__law_far_steps (mCons (nam 1) (mCons (nam 2) (mCons (nam 4) (mNil))))))
  (iteS (mOr ((bin2 dNe ((callM m_led_steps (mCons (nam 1) (mCons (nam 2) (mCons (nam 4) (mNil))))).bind fun d => M.ret (.dat d)) (nam 7)).bind toB) ((bin2 dNe ((callM m__law_told (mCons (nam 3) (mCons (nam 4) (mNil)))).bind fun d => M.ret (.dat d)) (nam 7)).bind toB)) (retS (M.ret (.bool false))) (fun st => .nx st))
noncomputable def b__law_right : MS :=
  seqS (setS 3 (callM m_led_calendar (mCons (nam 1) (mCons (nam 2) (mNil)))))
  (seqS (iteS (mOr (mNot ((isiM "tuple" (nam 3)).bind toB)) (mOr ((bin2 dNe ((opA dLen (mCons (nam 3) (mNil))).bind fun d => M.ret (.dat d)) ((M.ret (.int 3)).bind fun d => M.ret (.dat d))).bind toB) (mNot ((callM m__law_least (mCons (nam 3) (mNil))).bind toB)))) (retS (M.ret (.bool false))) (fun st => .nx st))
  (seqS (forS (.nm 4) (rng1M (bin2 dAdd ((opA dLen (mCons ((bin2 dIx (nam 3) ((M.ret (.int 0)).bind fun d => M.ret (.dat d))).bind fun d => M.ret (.dat d)) (mNil))).bind fun d => M.ret (.dat d)) ((M.ret (.int 40)).bind fun d => M.ret (.dat d)))) (L1__law_right) [])
  (seqS (forS (.nm 4) (seqM (mLst (mCons (callM m__law_draw (mCons (nam 0) (mCons ((M.ret (.int 99)).bind fun d => M.ret (.dat d)) (mNil)))) (mCons (bin2 dSub ((bin2 dPow ((M.ret (.int 10)).bind fun d => M.ret (.dat d)) ((M.ret (.int 30)).bind fun d => M.ret (.dat d))).bind fun d => M.ret (.dat d)) ((callM m__law_draw (mCons (nam 0) (mCons ((M.ret (.int 99)).bind fun d => M.ret (.dat d)) (mNil)))).bind fun d => M.ret (.dat d))) (mNil))))) (L2__law_right) [])
  (seqS (unpS (.tp [5, 6]) (callM m__law_led (mCons (nam 1) (mCons (nam 2) (mCons ((M.ret (.int 300)).bind fun d => M.ret (.dat d)) (mNil))))))
  (retS (bin2 dEq ((callM m_stuck_at (mCons (nam 1) (mCons (nam 2) (mNil)))).bind fun d => M.ret (.dat d)) ((mIte (((nam 6).bind frz).bind toB) (M.ret .none) (opA dSum (mCons (nam 5) (mNil)))).bind fun d => M.ret (.dat d))))))))
noncomputable def m__law_right : M D := fnOf 5 [0] b__law_right
theorem ok__law_right (h : FxI info K mg base Γ) : Fn Γ P w K mg base (rP K) 5 "_law_right" ["source", "ford", "will"] m__law_right := by
  obtain ⟨fd, F⟩ := h.fn 28 d__law_right rfl
  have hb := F.bindsN (ps := ["source", "ford", "will"]) fun _ _ _ _ _ _ us hl => match us, hl with | [_, _, _], _ => rfl
  exact Sk.fn_of F (h.glo "_law_right" (by decide)) hb (fn_okC (k := 4) F sc__law_right fun A outer s H E hr => (ess_cons (es_set (i := 3) nd__law_right (by decide) (ev_fn (ok_led_calendar h) hr (by decide) (takes_of rfl rfl rfl rfl) (len_cons (len_cons len_nil)) (ea_cons (eo_nam 1) (ea_cons (eo_nam 2) ea_nil))))
  (ess_cons (es_if (EW.et (ew_or (et_not (et_val (ev_isi (T := "tuple") (.inr (.inr (.inr (.inl rfl)))) (h.free "isinstance" (by decide)) (h.free "tuple" (by decide)) boot_tuple (eo_nam 3)))) (ew_or (et_cmp (op_neD (u64 hr)) s_ne (eo_ev (ev_cb call_len sA_len (h.free "len" (by decide)) boot_len (ea_cons (eo_nam 3) ea_nil))) (eo_ev ev_int)) (ew_or1 (et_not (et_val (ev_fn (ok__law_least h) hr (by decide) (takes_of rfl rfl rfl rfl) (len_cons len_nil) (ea_cons (eo_nam 3) ea_nil)))))))) (ess_one (es_ret ev_bl)) ess_nil)
  (ess_cons (es_for (kill := []) (passes_of rfl) rfl (by decide) (ei_rng1 (ev_op op_addA s_add (eo_ev (ev_cb call_len sA_len (h.free "len" (by decide)) boot_len (ea_cons (eo_ev (ev_ix ix_seq s_ix (eo_nam 3) (eo_ev ev_int))) ea_nil))) (eo_ev ev_int)) (h.free "range" (by decide))) (eg_nm nd__law_right) (ess_cons (es_unp (by decide) (ev_fn (ok__law_led h) hr (by decide) (takes_of rfl rfl rfl rfl) (len_cons (len_cons (len_cons len_nil))) (ea_cons (eo_nam 1) (ea_cons (eo_nam 2) (ea_cons (eo_nam 4) ea_nil)))) (eg_tp rfl (egs_cons nd__law_right (egs_cons nd__law_right egs_nil))))
  (ess_cons (es_if (et_cmp (op_neD (u64 hr)) s_ne (eo_ev (ev_fn (ok__law_told h) hr (by decide) (takes_of rfl rfl rfl rfl) (len_cons (len_cons len_nil)) (ea_cons (eo_nam 3) (ea_cons (eo_nam 4) ea_nil)))) (eo_ev (ev_ite (et_val (ev_nam 6)) (ev_cb call_len sA_len (h.free "len" (by decide)) boot_len (ea_cons (eo_nam 5) ea_nil)) ev_non))) (ess_one (es_ret ev_bl)) ess_nil)
  (ess_one (es_if (EW.et (ew_and (et_cmp op_le s_le (eo_nam 4) (eo_ev ev_int)) (ew_and1 (et_cmp (op_neD (u64 hr)) s_ne (eo_ev (ev_fn (ok_led h) hr (by decide) (takes_of rfl rfl rfl rfl) (len_cons (len_cons (len_cons len_nil))) (ea_cons (eo_nam 1) (ea_cons (eo_nam 2) (ea_cons (eo_nam 4) ea_nil))))) (eo_ev (ev_tup (el_cons (ev_nam 5) (el_cons (ev_nam 6) el_nil)))))))) (ess_one (es_ret ev_bl)) ess_nil)))))
  (ess_cons (es_for (kill := []) (passes_of rfl) rfl (by decide) (ei_seq (ev_en (en_lst (el_cons (ev_fn (ok__law_draw h) hr (by decide) (takes_of rfl rfl rfl rfl) (len_cons (len_cons len_nil)) (ea_cons (eo_nam 0) (ea_cons (eo_ev ev_int) ea_nil))) (el_cons (ev_op op_sub s_sub (eo_ev (ev_op op_pow s_pow (eo_ev ev_int) (eo_ev ev_int))) (eo_ev (ev_fn (ok__law_draw h) hr (by decide) (takes_of rfl rfl rfl rfl) (len_cons (len_cons len_nil)) (ea_cons (eo_nam 0) (ea_cons (eo_ev ev_int) ea_nil))))) el_nil))))) (eg_nm nd__law_right) (ess_cons (es_set (i := 7) nd__law_right (by decide) (ev_fn (ok__law_far_steps h) hr (by decide) (takes_of rfl rfl rfl rfl) (len_cons (len_cons (len_cons len_nil))) (ea_cons (eo_nam 1) (ea_cons (eo_nam 2) (ea_cons (eo_nam 4) ea_nil)))))
  (ess_one (es_if (EW.et (ew_or (et_cmp (op_neD (u64 hr)) s_ne (eo_ev (ev_fn (ok_led_steps h) hr (by decide) (takes_of rfl rfl rfl rfl) (len_cons (len_cons (len_cons len_nil))) (ea_cons (eo_nam 1) (ea_cons (eo_nam 2) (ea_cons (eo_nam 4) ea_nil))))) (eo_nam 7)) (ew_or1 (et_cmp (op_neD (u64 hr)) s_ne (eo_ev (ev_fn (ok__law_told h) hr (by decide) (takes_of rfl rfl rfl rfl) (len_cons (len_cons len_nil)) (ea_cons (eo_nam 3) (ea_cons (eo_nam 4) ea_nil)))) (eo_nam 7))))) (ess_one (es_ret ev_bl)) ess_nil))))
  (ess_cons (es_unp (by decide) (ev_fn (ok__law_led h) hr (by decide) (takes_of rfl rfl rfl rfl) (len_cons (len_cons (len_cons len_nil))) (ea_cons (eo_nam 1) (ea_cons (eo_nam 2) (ea_cons (eo_ev ev_int) ea_nil)))) (eg_tp rfl (egs_cons nd__law_right (egs_cons nd__law_right egs_nil))))
  (ess_one (es_ret (ev_cmp (op_eqD (u64 hr)) s_eq (eo_ev (ev_fn (ok_stuck_at h) hr (by decide) (takes_of rfl rfl rfl rfl) (len_cons (len_cons len_nil)) (ea_cons (eo_nam 1) (ea_cons (eo_nam 2) ea_nil)))) (eo_ev (ev_ite (et_val (ev_nam 6)) ev_non (ev_cb (cr_sumA rfl) sA_sum (h.free "sum" (by decide)) boot_sum (ea_cons (eo_nam 5) ea_nil)))))))))))))
/-! _law_word -/
theorem sc__law_word : FnScope ["call", "found"] ["call"] (defScope S__law_word) := ⟨rfl, rfl, rfl, by decide +kernel, rfl, by decide +kernel, by decide +kernel⟩
theorem wf__law_word (h : FxI info K mg base Γ) : WordF Γ K mg "_law_word" false [(2, "will"), (1, "width")] := by
  obtain ⟨fd, F⟩ := h.fn 29 d__law_word rfl
  have hb := F.bindsN (ps := ["call"]) fun _ _ _ _ _ _ us hl => match us, hl with | [_], _ => rfl
  obtain ⟨oc, od, dV, kV, doc, pm, an, ct, osl, e, lk, hc⟩ := fun_code F
  subst e
  exact ⟨_, _, _, _, _, _, _, _, _, _, _, _, _, _, ["call", "found"], "call", h.glo "_law_word" (by decide), F.kp, lk, hc, hb, sc__law_word, rfl, .inl rfl, by decide, by decide, fun X q e1 e2 => by
    subst e1 e2
    exact word_gives (p4 := ⟨0, 0, 0, 0⟩) (by decide) rfl rfl rfl (by decide) (by decide) (.inr ⟨rfl, rfl⟩) (hh := fun s H => (WHs.cons (hc := names_of rfl (by decide) (h.exc 2 "InvalidWill" rfl).g) (r := (WHs.cons (hc := names_of rfl (by decide) (h.exc 1 "InvalidWidth" rfl).g) (r := .nil)))))⟩
/-! _law_written_right -/
theorem nd__law_written_right : (["ford", "far", "will"] : List Str).Nodup := by decide
theorem sc__law_written_right : FnScope ["ford", "far", "will"] [] (defScope S__law_written_right) := ⟨rfl, rfl, rfl, by decide +kernel, rfl, by decide +kernel, by decide +kernel⟩
noncomputable def C1__law_written_right : M D :=
  callM m_stuck_at (mCons (nam 0) (mCons (nam 2) (mNil)))
noncomputable def b__law_written_right : MS :=
  seqS (putS [0, 1] (mDat (mTup (mCons (M.ret (.int 1)) (mCons (M.ret (.int 1)) (mCons (M.ret (.int 0)) (mNil))))) (mDat (bin2 dPow ((M.ret (.int 10)).bind fun d => M.ret (.dat d)) ((M.ret (.int 30)).bind fun d => M.ret (.dat d))) (mNil))))
  (seqS (iteS (mOr (mNot ((callM m_is_will (mCons ((mTup (mCons (M.ret (.int 2)) (mCons (M.ret (.int 1)) (mNil)))).bind fun d => M.ret (.dat d)) (mNil))).bind toB)) (mOr (mNot ((callM m_is_will (mCons ((mTup (mCons (M.ret (.int 6)) (mCons (M.ret (.int 5)) (mCons (M.ret (.int 4)) (mCons (M.ret (.int 3)) (mCons (M.ret (.int 2)) (mCons (M.ret (.int 1)) (mNil)))))))).bind fun d => M.ret (.dat d)) (mNil))).bind toB)) ((bin2 dNe ((callM m_led (mCons (nam 0) (mCons ((mTup (mCons (M.ret (.int 2)) (mNil))).bind fun d => M.ret (.dat d)) (mCons ((M.ret (.int 5)).bind fun d => M.ret (.dat d)) (mNil))))).bind fun d => M.ret (.dat d)) ((mTup (mCons (mTup (mCons (M.ret (.int 2)) (mCons (M.ret (.int 2)) (mCons (M.ret (.int 2)) (mNil))))) (mCons (M.ret (.bool true)) (mNil)))).bind fun d => M.ret (.dat d))).bind toB))) (retS (M.ret (.bool false))) (fun st => .nx st))
  (seqS (iteS (mOr ((bin2 dNe ((callM m_led (mCons (nam 0) (mCons ((mTup (mCons (M.ret (.int 2)) (mNil))).bind fun d => M.ret (.dat d)) (mCons ((M.ret (.int 6)).bind fun d => M.ret (.dat d)) (mNil))))).bind fun d => M.ret (.dat d)) ((mTup (mCons (mTup (mCons (M.ret (.int 2)) (mCons (M.ret (.int 2)) (mNil)))) (mCons (M.ret (.bool false)) (mNil)))).bind fun d => M.ret (.dat d))).bind toB) ((bin2 dNe ((callM m_led_calendar (mCons (nam 0) (mCons ((mTup (mCons (M.ret (.int 2)) (mCons (M.ret (.int 1)) (mNil)))).bind fun d => M.ret (.dat d)) (mNil)))).bind fun d => M.ret (.dat d)) ((mTup (mCons (mTup (mCons (M.ret (.int 1)) (mCons (M.ret (.int 1)) (mCons (M.ret (.int 2)) (mNil))))) (mCons (mTup (mCons (M.ret (.int 2)) (mCons (M.ret (.int 3)) (mCons (M.ret (.int 3)) (mNil))))) (mCons (M.ret (.int 2)) (mNil))))).bind fun d => M.ret (.dat d))).bind toB)) (retS (M.ret (.bool false))) (fun st => .nx st))
  (seqS (iteS (mOr ((bin2 dNe ((callM m_led_calendar (mCons (nam 0) (mCons ((mTup (mCons (M.ret (.int 1)) (mCons (M.ret (.int 2)) (mNil)))).bind fun d => M.ret (.dat d)) (mNil)))).bind fun d => M.ret (.dat d)) ((mTup (mCons (mTup (mNil)) (mCons (mTup (mCons (M.ret (.int 1)) (mCons (M.ret (.int 2)) (mCons (M.ret (.int 3)) (mNil))))) (mCons (M.ret (.int 2)) (mNil))))).bind fun d => M.ret (.dat d))).bind toB) ((bin2 dNe ((callM m_led_calendar (mCons (nam 0) (mCons ((mTup (mCons (M.ret (.int 1)) (mNil))).bind fun d => M.ret (.dat d)) (mNil)))).bind fun d => M.ret (.dat d)) ((mTup (mCons (mTup (mCons (M.ret (.int 1)) (mCons (M.ret (.int 2)) (mCons (M.ret (.int 3)) (mNil))))) (mCons (mTup (mCons (M.ret .none) (mNil))) (mCons (M.ret (.int 0)) (mNil))))).bind fun d => M.ret (.dat d))).bind toB)) (retS (M.ret (.bool false))) (fun st => .nx st))
  (seqS (iteS (mOr ((bin2 dNe ((callM m_led_steps (mCons (nam 0) (mCons ((mTup (mCons (M.ret (.int 2)) (mCons (M.ret (.int 1)) (mNil)))).bind fun d => M.ret (.dat d)) (mCons (nam 1) (mNil))))).bind fun d => M.ret (.dat d)) ((bin2 dDiv ((bin2 dAdd ((bin2 dMul ((M.ret (.int 2)).bind fun d => M.ret (.dat d)) (nam 1)).bind fun d => M.ret (.dat d)) ((M.ret (.int 1)).bind fun d => M.ret (.dat d))).bind fun d => M.ret (.dat d)) ((M.ret (.int 3)).bind fun d => M.ret (.dat d))).bind fun d => M.ret (.dat d))).bind toB) ((bin2 dNotN ((callM m_led_steps (mCons (nam 0) (mCons ((mTup (mCons (M.ret (.int 2)) (mNil))).bind fun d => M.ret (.dat d)) (mCons (nam 1) (mNil))))).bind fun d => M.ret (.dat d)) ((M.ret .none).bind fun d => M.ret (.dat d))).bind toB)) (retS (M.ret (.bool false))) (fun st => .nx st))
  (seqS (iteS ((bin2 dNe ((lcM (.nm 2) (seqM (mLst (mCons (mTup (mCons (M.ret (.int 1)) (mNil))) (mCons (mTup (mCons (M.ret (.int 2)) (mNil))) (mCons (mTup (mCons (M.ret (.int 2)) (mCons (M.ret (.int 1)) (mNil)))) (mCons (mTup (mCons (M.ret (.int 3)) (mNil))) (mNil))))))) (M.ret true) (C1__law_written_right) [2]).bind fun d => M.ret (.dat d)) ((mLst (mCons (M.ret (.int 2)) (mCons (M.ret (.int 4)) (mCons (M.ret .none) (mCons (M.ret (.int 0)) (mNil)))))).bind fun d => M.ret (.dat d))).bind toB) (retS (M.ret (.bool false))) (fun st => .nx st))
  (seqS (iteS (mOr ((bin2 dNe ((callM m_led (mCons ((mTup (mCons (M.ret (.int 1)) (mNil))).bind fun d => M.ret (.dat d)) (mCons ((mTup (mCons (M.ret (.int 6)) (mCons (M.ret (.int 1)) (mNil)))).bind fun d => M.ret (.dat d)) (mCons ((M.ret (.int 7)).bind fun d => M.ret (.dat d)) (mNil))))).bind fun d => M.ret (.dat d)) ((mTup (mCons (mTup (mCons (M.ret (.int 6)) (mCons (M.ret (.int 6)) (mNil)))) (mCons (M.ret (.bool true)) (mNil)))).bind fun d => M.ret (.dat d))).bind toB) ((bin2 dNe ((bin2 dIx ((callM m_led (mCons ((mTup (mCons (M.ret (.int 1)) (mNil))).bind fun d => M.ret (.dat d)) (mCons ((mTup (mCons (M.ret (.int 1)) (mCons (M.ret (.int 6)) (mNil)))).bind fun d => M.ret (.dat d)) (mCons ((M.ret (.int 7)).bind fun d => M.ret (.dat d)) (mNil))))).bind fun d => M.ret (.dat d)) ((M.ret (.int 0)).bind fun d => M.ret (.dat d))).bind fun d => M.ret (.dat d)) ((bin2 dRepT ((mTup (mCons (M.ret (.int 1)) (mNil))).bind fun d => M.ret (.dat d)) ((M.ret (.int 8)).bind fun d => M.ret (.dat d))).bind fun d => M.ret (.dat d))).bind toB)) (retS (M.ret (.bool false))) (fun st => .nx st))
  (retS (bin2 dEq ((callM m_led (mCons ((mTup (mCons (M.ret (.int 0)) (mNil))).bind fun d => M.ret (.dat d)) (mCons ((mTup (mCons (M.ret (.int 2)) (mNil))).bind fun d => M.ret (.dat d)) (mCons ((M.ret (.int 0)).bind fun d => M.ret (.dat d)) (mNil))))).bind fun d => M.ret (.dat d)) ((mTup (mCons (mTup (mCons (M.ret (.int 2)) (mNil))) (mCons (M.ret (.bool true)) (mNil)))).bind fun d => M.ret (.dat d))))))))))
noncomputable def m__law_written_right : M D := fnOf 3 [] b__law_written_right
theorem ok__law_written_right (h : FxI info K mg base Γ) : Fn Γ P w K mg base (rP K) 5 "_law_written_right" [] m__law_written_right := by
  obtain ⟨fd, F⟩ := h.fn 30 d__law_written_right rfl
  have hb := F.bindsN (ps := []) fun _ _ _ _ _ _ us hl => match us, hl with | [], _ => rfl
  exact Sk.fn_of F (h.glo "_law_written_right" (by decide)) hb (fn_okC (k := 4) F sc__law_written_right fun A outer s H E hr => (ess_cons (es_tupN rfl (by decide) (em_dat (ev_tup (el_cons ev_int (el_cons ev_int (el_cons ev_int el_nil)))) (em_dat (ev_op op_pow s_pow (eo_ev ev_int) (eo_ev ev_int)) em_nil)) (egs_cons nd__law_written_right (egs_cons nd__law_written_right egs_nil)))
  (ess_cons (es_if (EW.et (ew_or (et_not (et_val (ev_fn (ok_is_will h) hr (by decide) (takes_of rfl rfl rfl rfl) (len_cons len_nil) (ea_cons (eo_ev (ev_tup (el_cons ev_int (el_cons ev_int el_nil)))) ea_nil)))) (ew_or (et_not (et_val (ev_fn (ok_is_will h) hr (by decide) (takes_of rfl rfl rfl rfl) (len_cons len_nil) (ea_cons (eo_ev (ev_tup (el_cons ev_int (el_cons ev_int (el_cons ev_int (el_cons ev_int (el_cons ev_int (el_cons ev_int el_nil)))))))) ea_nil)))) (ew_or1 (et_cmp (op_neD (u64 hr)) s_ne (eo_ev (ev_fn (ok_led h) hr (by decide) (takes_of rfl rfl rfl rfl) (len_cons (len_cons (len_cons len_nil))) (ea_cons (eo_nam 0) (ea_cons (eo_ev (ev_tup (el_cons ev_int el_nil))) (ea_cons (eo_ev ev_int) ea_nil))))) (eo_ev (ev_tup (el_cons (ev_tup (el_cons ev_int (el_cons ev_int (el_cons ev_int el_nil)))) (el_cons ev_bl el_nil))))))))) (ess_one (es_ret ev_bl)) ess_nil)
  (ess_cons (es_if (EW.et (ew_or (et_cmp (op_neD (u64 hr)) s_ne (eo_ev (ev_fn (ok_led h) hr (by decide) (takes_of rfl rfl rfl rfl) (len_cons (len_cons (len_cons len_nil))) (ea_cons (eo_nam 0) (ea_cons (eo_ev (ev_tup (el_cons ev_int el_nil))) (ea_cons (eo_ev ev_int) ea_nil))))) (eo_ev (ev_tup (el_cons (ev_tup (el_cons ev_int (el_cons ev_int el_nil))) (el_cons ev_bl el_nil))))) (ew_or1 (et_cmp (op_neD (u64 hr)) s_ne (eo_ev (ev_fn (ok_led_calendar h) hr (by decide) (takes_of rfl rfl rfl rfl) (len_cons (len_cons len_nil)) (ea_cons (eo_nam 0) (ea_cons (eo_ev (ev_tup (el_cons ev_int (el_cons ev_int el_nil)))) ea_nil)))) (eo_ev (ev_tup (el_cons (ev_tup (el_cons ev_int (el_cons ev_int (el_cons ev_int el_nil)))) (el_cons (ev_tup (el_cons ev_int (el_cons ev_int (el_cons ev_int el_nil)))) (el_cons ev_int el_nil))))))))) (ess_one (es_ret ev_bl)) ess_nil)
  (ess_cons (es_if (EW.et (ew_or (et_cmp (op_neD (u64 hr)) s_ne (eo_ev (ev_fn (ok_led_calendar h) hr (by decide) (takes_of rfl rfl rfl rfl) (len_cons (len_cons len_nil)) (ea_cons (eo_nam 0) (ea_cons (eo_ev (ev_tup (el_cons ev_int (el_cons ev_int el_nil)))) ea_nil)))) (eo_ev (ev_tup (el_cons (ev_tup el_nil) (el_cons (ev_tup (el_cons ev_int (el_cons ev_int (el_cons ev_int el_nil)))) (el_cons ev_int el_nil)))))) (ew_or1 (et_cmp (op_neD (u64 hr)) s_ne (eo_ev (ev_fn (ok_led_calendar h) hr (by decide) (takes_of rfl rfl rfl rfl) (len_cons (len_cons len_nil)) (ea_cons (eo_nam 0) (ea_cons (eo_ev (ev_tup (el_cons ev_int el_nil))) ea_nil)))) (eo_ev (ev_tup (el_cons (ev_tup (el_cons ev_int (el_cons ev_int (el_cons ev_int el_nil)))) (el_cons (ev_tup (el_cons ev_non el_nil)) (el_cons ev_int el_nil))))))))) (ess_one (es_ret ev_bl)) ess_nil)
  (ess_cons (es_if (EW.et (ew_or (et_cmp (op_neD (u64 hr)) s_ne (eo_ev (ev_fn (ok_led_steps h) hr (by decide) (takes_of rfl rfl rfl rfl) (len_cons (len_cons (len_cons len_nil))) (ea_cons (eo_nam 0) (ea_cons (eo_ev (ev_tup (el_cons ev_int (el_cons ev_int el_nil)))) (ea_cons (eo_nam 1) ea_nil))))) (eo_ev (ev_op op_fdivW s_div (eo_ev (ev_op op_addA s_add (eo_ev (ev_op op_mul s_mul (eo_ev ev_int) (eo_nam 1))) (eo_ev ev_int))) (eo_ev ev_int)))) (ew_or1 (et_cmp op_notN s_notN (eo_ev (ev_fn (ok_led_steps h) hr (by decide) (takes_of rfl rfl rfl rfl) (len_cons (len_cons (len_cons len_nil))) (ea_cons (eo_nam 0) (ea_cons (eo_ev (ev_tup (el_cons ev_int el_nil))) (ea_cons (eo_nam 1) ea_nil))))) (eo_ev ev_non))))) (ess_one (es_ret ev_bl)) ess_nil)
  (ess_cons (es_if (et_cmp (op_neD (u64 hr)) s_ne (eo_ev (ev_en (en_lc [("will", 2)] (g := gName 2) rfl nd__law_written_right (ei_seq (ev_en (en_lst (el_cons (ev_tup (el_cons ev_int el_nil)) (el_cons (ev_tup (el_cons ev_int el_nil)) (el_cons (ev_tup (el_cons ev_int (el_cons ev_int el_nil))) (el_cons (ev_tup (el_cons ev_int el_nil)) el_nil))))))) (blkOk_by (by rfl)) (by decide) (fun s H C cl fp => (eg_nm nd__law_written_right)) (fun s H C cl fp => ets_nil) (fun s H C cl fp => (ev_fn (ok_stuck_at h) hr (by decide) L2.takes0 (len_cons (len_cons len_nil)) (ea_cons (eo_nam 0) (ea_cons (eo_nam 2) ea_nil))))))) (eo_ev (ev_en (en_lst (el_cons ev_int (el_cons ev_int (el_cons ev_non (el_cons ev_int el_nil)))))))) (ess_one (es_ret ev_bl)) ess_nil)
  (ess_cons (es_if (EW.et (ew_or (et_cmp (op_neD (u64 hr)) s_ne (eo_ev (ev_fn (ok_led h) hr (by decide) (takes_of rfl rfl rfl rfl) (len_cons (len_cons (len_cons len_nil))) (ea_cons (eo_ev (ev_tup (el_cons ev_int el_nil))) (ea_cons (eo_ev (ev_tup (el_cons ev_int (el_cons ev_int el_nil)))) (ea_cons (eo_ev ev_int) ea_nil))))) (eo_ev (ev_tup (el_cons (ev_tup (el_cons ev_int (el_cons ev_int el_nil))) (el_cons ev_bl el_nil))))) (ew_or1 (et_cmp (op_neD (u64 hr)) s_ne (eo_ev (ev_ix ix_seq s_ix (eo_ev (ev_fn (ok_led h) hr (by decide) (takes_of rfl rfl rfl rfl) (len_cons (len_cons (len_cons len_nil))) (ea_cons (eo_ev (ev_tup (el_cons ev_int el_nil))) (ea_cons (eo_ev (ev_tup (el_cons ev_int (el_cons ev_int el_nil)))) (ea_cons (eo_ev ev_int) ea_nil))))) (eo_ev ev_int))) (eo_ev (ev_op op_mulF s_repT (eo_ev (ev_tup (el_cons ev_int el_nil))) (eo_ev ev_int))))))) (ess_one (es_ret ev_bl)) ess_nil)
  (ess_one (es_ret (ev_cmp (op_eqD (u64 hr)) s_eq (eo_ev (ev_fn (ok_led h) hr (by decide) (takes_of rfl rfl rfl rfl) (len_cons (len_cons (len_cons len_nil))) (ea_cons (eo_ev (ev_tup (el_cons ev_int el_nil))) (ea_cons (eo_ev (ev_tup (el_cons ev_int el_nil))) (ea_cons (eo_ev ev_int) ea_nil))))) (eo_ev (ev_tup (el_cons (ev_tup (el_cons ev_int el_nil)) (el_cons ev_bl el_nil)))))))))))))))
/-! law -/
theorem nd_law : (["script", "k", "source", "turn", "odd"] : List Str).Nodup := by decide
theorem sc_law : FnScope ["script", "k", "source", "turn", "odd"] ["script"] (defScope S_law) := ⟨rfl, rfl, rfl, by decide +kernel, rfl, by decide +kernel, by decide +kernel⟩
noncomputable def L1_law : MS :=
  iteS (mNot ((callM m__law_right (mCons (nam 2) (mCons ((callM m__law_ford (mCons (nam 2) (mNil))).bind fun d => M.ret (.dat d)) (mCons ((callM m__law_will (mCons (nam 2) (mNil))).bind fun d => M.ret (.dat d)) (mNil))))).bind toB)) (retS (M.ret (.bool false))) (fun st => .nx st)
noncomputable def L2_law : MS :=
  iteS (mOr ((bin2 dNotB ((callM m_is_will (mCons (nam 4) (mNil))).bind fun d => M.ret (.dat d)) ((M.ret (.bool false)).bind fun d => M.ret (.dat d))).bind toB) ((bin2 dNe ((wordM false 3 [(2, "will"), (1, "width")] (callM m_led (mCons ((mTup (mCons (M.ret (.int 1)) (mNil))).bind fun d => M.ret (.dat d)) (mCons (nam 4) (mCons ((M.ret .none).bind fun d => M.ret (.dat d)) (mNil)))))).bind fun d => M.ret (.dat d)) ((M.ret (.str "will")).bind fun d => M.ret (.dat d))).bind toB)) (retS (M.ret (.bool false))) (fun st => .nx st)
noncomputable def L3_law : MS :=
  iteS ((bin2 dNe ((wordM false 3 [(2, "will"), (1, "width")] (callM m_led (mCons ((mTup (mCons (M.ret (.int 1)) (mNil))).bind fun d => M.ret (.dat d)) (mCons ((mTup (mCons (M.ret (.int 1)) (mNil))).bind fun d => M.ret (.dat d)) (mCons (nam 4) (mNil)))))).bind fun d => M.ret (.dat d)) ((M.ret (.str "width")).bind fun d => M.ret (.dat d))).bind toB) (retS (M.ret (.bool false))) (fun st => .nx st)
noncomputable def L4_law : MS :=
  seqS (setN 2 (callM m__law_source (mCons (nam 0) (mCons (nam 1) (mNil)))))
  (seqS (forS (.nm 3) (rng1M (M.ret (.int 4))) (L1_law) [])
  (seqS (forS (.nm 4) (seqM (mLst (mCons (M.ret .none) (mCons (mTup (mNil)) (mCons (mTup (mCons (M.ret (.int 0)) (mNil))) (mCons (mTup (mCons (M.ret (.int 7)) (mNil))) (mCons (mTup (mCons (M.ret (.int 1)) (mCons (M.ret (.int 1)) (mNil)))) (mCons (mLst (mCons (M.ret (.int 1)) (mNil))) (mCons (mTup (mCons (M.ret (.bool true)) (mNil))) (mCons (M.ret (.int 1)) (mNil))))))))))) (L2_law) [])
  (forS (.nm 4) (seqM (mLst (mCons (M.ret .none) (mCons (un1 dNeg ((M.ret (.int 1)).bind fun d => M.ret (.dat d))) (mCons (M.ret (.int 61)) (mCons (M.ret (.bool true)) (mNil))))))) (L3_law) [])))
noncomputable def b_law : MS :=
  seqS (forS (.nm 1) (rng1M (bin2 dAdd ((M.ret (.int 1)).bind fun d => M.ret (.dat d)) ((opA dMin2 (mCons ((lenS 0).bind fun d => M.ret (.dat d)) (mCons ((M.ret (.int 8)).bind fun d => M.ret (.dat d)) (mNil)))).bind fun d => M.ret (.dat d)))) (L4_law) [])
  (retS (callM m__law_written_right mNil))
noncomputable def m_law : M D := fnOf 4 [] b_law
theorem ok_law (h : FxI info K mg base Γ) : Fn Γ P w K mg base (rP K) 8 "law" ["script"] m_law := by
  obtain ⟨fd, F⟩ := h.fn 31 d_law rfl
  have hb := F.bindsN (ps := ["script"]) fun _ _ _ _ _ _ us hl => match us, hl with | [_], _ => rfl
  exact Sk.fn_of F (h.glo "law" (by decide)) hb (fn_okC (k := 7) F sc_law fun A outer s H E hr => (ess_cons (es_for (kill := []) (passes_of rfl) rfl (by decide) (ei_rng1 (ev_op op_addA s_add (eo_ev ev_int) (eo_ev (ev_cb (call_min2 rfl) sA_min (h.free "min" (by decide)) boot_min (ea_cons (eo_ev (ev_lenS 0 (h.free "len" (by decide)))) (ea_cons (eo_ev ev_int) ea_nil))))) (h.free "range" (by decide))) (eg_nm nd_law) (ess_cons (es_setN (i := 2) nd_law (by decide) (en_fn (ok__law_source h) hr (by decide) (takes_of rfl rfl rfl rfl) (len_cons (len_cons len_nil)) (ea_cons (eo_nam 0) (ea_cons (eo_nam 1) ea_nil))))
  (ess_cons (es_for (kill := []) (passes_of rfl) rfl (by decide) (ei_rng1 ev_int (h.free "range" (by decide))) (eg_nm nd_law) (ess_one (es_if (et_not (et_val (ev_fn (ok__law_right h) hr (by decide) (takes_of rfl rfl rfl rfl) (len_cons (len_cons (len_cons len_nil))) (ea_cons (eo_nam 2) (ea_cons (eo_ev (ev_fn (ok__law_ford h) hr (by decide) (takes_of rfl rfl rfl rfl) (len_cons len_nil) (ea_cons (eo_nam 2) ea_nil))) (ea_cons (eo_ev (ev_fn (ok__law_will h) hr (by decide) (takes_of rfl rfl rfl rfl) (len_cons len_nil) (ea_cons (eo_nam 2) ea_nil))) ea_nil)))))) (ess_one (es_ret ev_bl)) ess_nil)))
  (ess_cons (es_for (kill := []) (passes_of rfl) rfl (by decide) (ei_seq (ev_en (en_lst (el_cons ev_non (el_cons (ev_tup el_nil) (el_cons (ev_tup (el_cons ev_int el_nil)) (el_cons (ev_tup (el_cons ev_int el_nil)) (el_cons (ev_tup (el_cons ev_int (el_cons ev_int el_nil))) (el_cons (ev_en (en_lst (el_cons ev_int el_nil))) (el_cons (ev_tup (el_cons ev_bl el_nil)) (el_cons ev_int el_nil))))))))))) (eg_nm nd_law) (ess_one (es_if (EW.et (ew_or (et_cmp op_notBl s_notB (eo_ev (ev_fn (ok_is_will h) hr (by decide) (takes_of rfl rfl rfl rfl) (len_cons len_nil) (ea_cons (eo_nam 4) ea_nil))) (eo_ev ev_bl)) (ew_or1 (et_cmp (op_neD (u64 hr)) s_ne (eo_ev (ev_word (k := 5) (wf__law_word h) h.exm (by decide) (h.tb 0 "law" rfl) rfl (h.inT 0 "law" rfl) (h.uni 0 "law" rfl) (hr.mono (by decide)) (fun A outer s H E f c hr => (ev_fn (ok_led h) hr (by decide) (takes_of rfl rfl rfl rfl) (len_cons (len_cons (len_cons len_nil))) (ea_cons (eo_ev (ev_tup (el_cons ev_int el_nil))) (ea_cons (eo_nam 4) (ea_cons (eo_ev ev_non) ea_nil))))))) (eo_ev ev_str))))) (ess_one (es_ret ev_bl)) ess_nil)))
  (ess_one (es_for (kill := []) (passes_of rfl) rfl (by decide) (ei_seq (ev_en (en_lst (el_cons ev_non (el_cons (ev_un un_neg s_neg (eo_ev ev_int)) (el_cons ev_int (el_cons ev_bl el_nil))))))) (eg_nm nd_law) (ess_one (es_if (et_cmp (op_neD (u64 hr)) s_ne (eo_ev (ev_word (k := 5) (wf__law_word h) h.exm (by decide) (h.tb 0 "law" rfl) rfl (h.inT 0 "law" rfl) (h.uni 0 "law" rfl) (hr.mono (by decide)) (fun A outer s H E f c hr => (ev_fn (ok_led h) hr (by decide) (takes_of rfl rfl rfl rfl) (len_cons (len_cons (len_cons len_nil))) (ea_cons (eo_ev (ev_tup (el_cons ev_int el_nil))) (ea_cons (eo_ev (ev_tup (el_cons ev_int el_nil))) (ea_cons (eo_nam 4) ea_nil))))))) (eo_ev ev_str)) (ess_one (es_ret ev_bl)) ess_nil))))))))
  (ess_one (es_ret (ev_fn0 (ok__law_written_right h) hr (by decide) (takes_of rfl rfl rfl rfl))))))
end
end Zk07
set_option maxHeartbeats 0
namespace Zk07
open PySem PySem.Spec PyProof.Rows L2 Sk LamX
abbrev hkL : PySem.W.Hook := He.hookX 4 (faOf info) info.defs [] (tfOf info) (exOf info)
def obL (s : PySem.W.SharedT) : He.AlX := He.obsX 4 (faOf info) info.defs [] (tfOf info) (exOf info) (HandSHeadRun.getT s)
theorem obL_eq (s : PySem.W.SharedT) : obL s = hkL.obs s.abs := He.obsX_eq (HandSHeadRun.getT_eq s)
abbrev RL : PySem.W.OpenRow := PySem.W.OpenLaw.row PySem.Challenge.rw_sinkstones_k07_whole_walkers_with_a_will
def loose0 : List Str := ["rests", "plain", "item_at", "FordError", "InvalidFord", "InvalidWidth", "InvalidWill", "ROUND", "LENGTH", "BEARS", "GREAT", "NEAR", "is_from", "is_tuple", "is_ford", "need_ford", "need_width", "strength", "is_will", "need_will", "gone", "wide_way", "calendar_by", "led", "led_calendar"]
def loose1 : List Str := ["led_steps", "stuck_at", "_law_source", "_law_draw", "_law_choice", "_law_ford", "_law_stone", "_law_told", "_law_least", "_law_will", "_law_led", "_law_far_steps", "_law_right", "_law_word", "_law_written_right"]
def looseL : List Str := loose0 ++ loose1
theorem runL (w : World) : HandSHeadRun.RunEq RL (PySem.W.view RL.prog [45]) hkL obL 6000 looseL w := by
  intro os
  kernel_rfl
end Zk07
set_option maxHeartbeats 1000000
namespace Zk07
open PySem PySem.Spec PyProof.Rows L2 Sk LamX
def isFrom (l m : Int) : D → Bool
  | .int i => decide (l ≤ i) && decide (i ≤ m)
  | _ => false
theorem r_is_from (v : D) (l m : Int) : m_is_from [.dat v, .dat (.int l), .dat (.int m)] = .ok (.bool (isFrom l m v)) [.dat v, .dat (.int l), .dat (.int m)] := by
  cases v <;> simp [m_is_from, b_is_from, -List.map_map, -List.map_drop, -List.map_take, -List.map_append, -List.map_dropLast, th_ok, th_ex, th_ite, e_bind, e_ret, e_opt, ts_ok, ts_ex, ts_ite, e_bindS, sq_nx, sq_rt, sq_ex, sq_bk, sq_ct, sq_ite, e_seqS, fin_nx, fin_rt, fin_ex, fin_ite, e_fnOf, wb_ok, wb_ex, wb_ite, vA1_b, e_vAnd, vO1_b, e_vOr, vN1_b, e_vNot, ch1_b, e_chM, e_toB, e_mAnd, e_mOr, e_mNot, e_mIte, e_iteS, lp_nx, lp_ct, lp_bk, lp_rt, lp_ex, lp_ite, forL_nil, forL_nm, e_forS, okArgs, isOwn, outs, nam, frz, look, lookAll, ap1, ap2, apA, un1, bin2, opA, isiM, retS, drpS, setS, setN, putS, put, unpS, asg, mCons, mNil, e_mTup, mt1_ok, e_mLst, ml1_ok, callM, argsOf, argOf, ownIx, Sk.wb, List.getElem?_cons_zero, List.getElem?_cons_succ, List.getElem?_nil, List.set_cons_zero, List.set_cons_succ, List.replicate_succ, List.replicate_zero, List.cons_append, List.nil_append, List.foldl_cons, List.foldl_nil, List.getD_cons_zero, List.getD_cons_succ, List.all_cons, List.all_nil, isiD, tyN, dLt, dLe, dGt, dGe, dAdd_i, dEq_i, dNe_i, dSub, iOp, dLen_t, dLen_l, e_seqM, sq1_l, sq1_t, e_partM, pa1_i, sliM, isN_none, notN_none, isN_int, notN_int, isN_bool, notN_bool, isN_str, notN_str, isN_list, notN_list, isN_tup, notN_tup, isN_dict, notN_dict, raiseS, mDat, mNew, e_callAt, cal_some, wbl_ok, wbl_ex, wbl_ite, e_lcM, e_rng1, e_rng2, e_enuM, en1_l, en1_t, e_zipM, zi1_l, dMnN_i, dMx_l, dMx_t, asg_nm, asg_tp, put, e_appM, isOwnL_l, e_apd, apo_l, notN_OI, isN_OI, dNe_n0, dTup_l, dTup_t, dNeg_i, dCutT_t, dCutL_l, isFrom]
  split <;> simp [*]
def isTup (l m : Int) : D → Bool
  | .tuple xs => decide (l ≤ (xs.length : Int)) && decide ((xs.length : Int) ≤ m)
  | _ => false
theorem r_is_tuple (v : D) (l m : Int) : m_is_tuple [.dat v, .dat (.int l), .dat (.int m)] = .ok (.bool (isTup l m v)) [.dat v, .dat (.int l), .dat (.int m)] := by
  cases v <;> simp [m_is_tuple, b_is_tuple, -List.map_map, -List.map_drop, -List.map_take, -List.map_append, -List.map_dropLast, th_ok, th_ex, th_ite, e_bind, e_ret, e_opt, ts_ok, ts_ex, ts_ite, e_bindS, sq_nx, sq_rt, sq_ex, sq_bk, sq_ct, sq_ite, e_seqS, fin_nx, fin_rt, fin_ex, fin_ite, e_fnOf, wb_ok, wb_ex, wb_ite, vA1_b, e_vAnd, vO1_b, e_vOr, vN1_b, e_vNot, ch1_b, e_chM, e_toB, e_mAnd, e_mOr, e_mNot, e_mIte, e_iteS, lp_nx, lp_ct, lp_bk, lp_rt, lp_ex, lp_ite, forL_nil, forL_nm, e_forS, okArgs, isOwn, outs, nam, frz, look, lookAll, ap1, ap2, apA, un1, bin2, opA, isiM, retS, drpS, setS, setN, putS, put, unpS, asg, mCons, mNil, e_mTup, mt1_ok, e_mLst, ml1_ok, callM, argsOf, argOf, ownIx, Sk.wb, List.getElem?_cons_zero, List.getElem?_cons_succ, List.getElem?_nil, List.set_cons_zero, List.set_cons_succ, List.replicate_succ, List.replicate_zero, List.cons_append, List.nil_append, List.foldl_cons, List.foldl_nil, List.getD_cons_zero, List.getD_cons_succ, List.all_cons, List.all_nil, isiD, tyN, dLt, dLe, dGt, dGe, dAdd_i, dEq_i, dNe_i, dSub, iOp, dLen_t, dLen_l, e_seqM, sq1_l, sq1_t, e_partM, pa1_i, sliM, isN_none, notN_none, isN_int, notN_int, isN_bool, notN_bool, isN_str, notN_str, isN_list, notN_list, isN_tup, notN_tup, isN_dict, notN_dict, raiseS, mDat, mNew, e_callAt, cal_some, wbl_ok, wbl_ex, wbl_ite, e_lcM, e_rng1, e_rng2, e_enuM, en1_l, en1_t, e_zipM, zi1_l, dMnN_i, dMx_l, dMx_t, asg_nm, asg_tp, put, e_appM, isOwnL_l, e_apd, apo_l, notN_OI, isN_OI, dNe_n0, dTup_l, dTup_t, dNeg_i, dCutT_t, dCutL_l, isTup]
  split <;> simp [*]
theorem lcap {n : Int} {k : Nat} (h : (k : Int) ≤ n) (c : n ≤ 1000000) : k ≤ cap := by
  unfold cap
  omega
def isFord : D → Bool
  | .tuple xs => decide (1 ≤ (xs.length : Int)) && decide ((xs.length : Int) ≤ 8) && xs.all (isFrom 0 3)
  | _ => false
theorem r_is_ford (v : D) : m_is_ford [.dat v] = .ok (.bool (isFord v)) [.dat v] := by
  cases v with
  | tuple xs =>
    simp [m_is_ford, b_is_ford, -List.map_map, -List.map_drop, -List.map_take, -List.map_append, -List.map_dropLast, th_ok, th_ex, th_ite, e_bind, e_ret, e_opt, ts_ok, ts_ex, ts_ite, e_bindS, sq_nx, sq_rt, sq_ex, sq_bk, sq_ct, sq_ite, e_seqS, fin_nx, fin_rt, fin_ex, fin_ite, e_fnOf, wb_ok, wb_ex, wb_ite, vA1_b, e_vAnd, vO1_b, e_vOr, vN1_b, e_vNot, ch1_b, e_chM, e_toB, e_mAnd, e_mOr, e_mNot, e_mIte, e_iteS, lp_nx, lp_ct, lp_bk, lp_rt, lp_ex, lp_ite, forL_nil, forL_nm, e_forS, okArgs, isOwn, outs, nam, frz, look, lookAll, ap1, ap2, apA, un1, bin2, opA, isiM, retS, drpS, setS, setN, putS, put, unpS, asg, mCons, mNil, e_mTup, mt1_ok, e_mLst, ml1_ok, callM, argsOf, argOf, ownIx, Sk.wb, List.getElem?_cons_zero, List.getElem?_cons_succ, List.getElem?_nil, List.set_cons_zero, List.set_cons_succ, List.replicate_succ, List.replicate_zero, List.cons_append, List.nil_append, List.foldl_cons, List.foldl_nil, List.getD_cons_zero, List.getD_cons_succ, List.all_cons, List.all_nil, isiD, tyN, dLt, dLe, dGt, dGe, dAdd_i, dEq_i, dNe_i, dSub, iOp, dLen_t, dLen_l, e_seqM, sq1_l, sq1_t, e_partM, pa1_i, sliM, isN_none, notN_none, isN_int, notN_int, isN_bool, notN_bool, isN_str, notN_str, isN_list, notN_list, isN_tup, notN_tup, isN_dict, notN_dict, raiseS, mDat, mNew, e_callAt, cal_some, wbl_ok, wbl_ex, wbl_ite, e_lcM, e_rng1, e_rng2, e_enuM, en1_l, en1_t, e_zipM, zi1_l, dMnN_i, dMx_l, dMx_t, asg_nm, asg_tp, put, e_appM, isOwnL_l, e_apd, apo_l, notN_OI, isN_OI, dNe_n0, dTup_l, dTup_t, dNeg_i, dCutT_t, dCutL_l, r_is_tuple, isTup]
    split
    · rename_i h
      rw [lc_map (g := fun d => .bool (isFrom 0 3 d)) (by simp) (lcap h.2 (by decide))]
      · simp [-List.map_map, -List.map_drop, -List.map_take, -List.map_append, -List.map_dropLast, th_ok, th_ex, th_ite, e_bind, e_ret, e_opt, ts_ok, ts_ex, ts_ite, e_bindS, sq_nx, sq_rt, sq_ex, sq_bk, sq_ct, sq_ite, e_seqS, fin_nx, fin_rt, fin_ex, fin_ite, e_fnOf, wb_ok, wb_ex, wb_ite, vA1_b, e_vAnd, vO1_b, e_vOr, vN1_b, e_vNot, ch1_b, e_chM, e_toB, e_mAnd, e_mOr, e_mNot, e_mIte, e_iteS, lp_nx, lp_ct, lp_bk, lp_rt, lp_ex, lp_ite, forL_nil, forL_nm, e_forS, okArgs, isOwn, outs, nam, frz, look, lookAll, ap1, ap2, apA, un1, bin2, opA, isiM, retS, drpS, setS, setN, putS, put, unpS, asg, mCons, mNil, e_mTup, mt1_ok, e_mLst, ml1_ok, callM, argsOf, argOf, ownIx, Sk.wb, List.getElem?_cons_zero, List.getElem?_cons_succ, List.getElem?_nil, List.set_cons_zero, List.set_cons_succ, List.replicate_succ, List.replicate_zero, List.cons_append, List.nil_append, List.foldl_cons, List.foldl_nil, List.getD_cons_zero, List.getD_cons_succ, List.all_cons, List.all_nil, isiD, tyN, dLt, dLe, dGt, dGe, dAdd_i, dEq_i, dNe_i, dSub, iOp, dLen_t, dLen_l, e_seqM, sq1_l, sq1_t, e_partM, pa1_i, sliM, isN_none, notN_none, isN_int, notN_int, isN_bool, notN_bool, isN_str, notN_str, isN_list, notN_list, isN_tup, notN_tup, isN_dict, notN_dict, raiseS, mDat, mNew, e_callAt, cal_some, wbl_ok, wbl_ex, wbl_ite, e_lcM, e_rng1, e_rng2, e_enuM, en1_l, en1_t, e_zipM, zi1_l, dMnN_i, dMx_l, dMx_t, asg_nm, asg_tp, put, e_appM, isOwnL_l, e_apd, apo_l, notN_OI, isN_OI, dNe_n0, dTup_l, dTup_t, dNeg_i, dCutT_t, dCutL_l, notin_falseF, isFord, h]
      · intro d _
        simp [C1_is_ford, -List.map_map, -List.map_drop, -List.map_take, -List.map_append, -List.map_dropLast, th_ok, th_ex, th_ite, e_bind, e_ret, e_opt, ts_ok, ts_ex, ts_ite, e_bindS, sq_nx, sq_rt, sq_ex, sq_bk, sq_ct, sq_ite, e_seqS, fin_nx, fin_rt, fin_ex, fin_ite, e_fnOf, wb_ok, wb_ex, wb_ite, vA1_b, e_vAnd, vO1_b, e_vOr, vN1_b, e_vNot, ch1_b, e_chM, e_toB, e_mAnd, e_mOr, e_mNot, e_mIte, e_iteS, lp_nx, lp_ct, lp_bk, lp_rt, lp_ex, lp_ite, forL_nil, forL_nm, e_forS, okArgs, isOwn, outs, nam, frz, look, lookAll, ap1, ap2, apA, un1, bin2, opA, isiM, retS, drpS, setS, setN, putS, put, unpS, asg, mCons, mNil, e_mTup, mt1_ok, e_mLst, ml1_ok, callM, argsOf, argOf, ownIx, Sk.wb, List.getElem?_cons_zero, List.getElem?_cons_succ, List.getElem?_nil, List.set_cons_zero, List.set_cons_succ, List.replicate_succ, List.replicate_zero, List.cons_append, List.nil_append, List.foldl_cons, List.foldl_nil, List.getD_cons_zero, List.getD_cons_succ, List.all_cons, List.all_nil, isiD, tyN, dLt, dLe, dGt, dGe, dAdd_i, dEq_i, dNe_i, dSub, iOp, dLen_t, dLen_l, e_seqM, sq1_l, sq1_t, e_partM, pa1_i, sliM, isN_none, notN_none, isN_int, notN_int, isN_bool, notN_bool, isN_str, notN_str, isN_list, notN_list, isN_tup, notN_tup, isN_dict, notN_dict, raiseS, mDat, mNew, e_callAt, cal_some, wbl_ok, wbl_ex, wbl_ite, e_lcM, e_rng1, e_rng2, e_enuM, en1_l, en1_t, e_zipM, zi1_l, dMnN_i, dMx_l, dMx_t, asg_nm, asg_tp, put, e_appM, isOwnL_l, e_apd, apo_l, notN_OI, isN_OI, dNe_n0, dTup_l, dTup_t, dNeg_i, dCutT_t, dCutL_l, r_is_from]
    · rename_i h
      simp [isFord]
      omega
  | _ => simp [m_is_ford, b_is_ford, -List.map_map, -List.map_drop, -List.map_take, -List.map_append, -List.map_dropLast, th_ok, th_ex, th_ite, e_bind, e_ret, e_opt, ts_ok, ts_ex, ts_ite, e_bindS, sq_nx, sq_rt, sq_ex, sq_bk, sq_ct, sq_ite, e_seqS, fin_nx, fin_rt, fin_ex, fin_ite, e_fnOf, wb_ok, wb_ex, wb_ite, vA1_b, e_vAnd, vO1_b, e_vOr, vN1_b, e_vNot, ch1_b, e_chM, e_toB, e_mAnd, e_mOr, e_mNot, e_mIte, e_iteS, lp_nx, lp_ct, lp_bk, lp_rt, lp_ex, lp_ite, forL_nil, forL_nm, e_forS, okArgs, isOwn, outs, nam, frz, look, lookAll, ap1, ap2, apA, un1, bin2, opA, isiM, retS, drpS, setS, setN, putS, put, unpS, asg, mCons, mNil, e_mTup, mt1_ok, e_mLst, ml1_ok, callM, argsOf, argOf, ownIx, Sk.wb, List.getElem?_cons_zero, List.getElem?_cons_succ, List.getElem?_nil, List.set_cons_zero, List.set_cons_succ, List.replicate_succ, List.replicate_zero, List.cons_append, List.nil_append, List.foldl_cons, List.foldl_nil, List.getD_cons_zero, List.getD_cons_succ, List.all_cons, List.all_nil, isiD, tyN, dLt, dLe, dGt, dGe, dAdd_i, dEq_i, dNe_i, dSub, iOp, dLen_t, dLen_l, e_seqM, sq1_l, sq1_t, e_partM, pa1_i, sliM, isN_none, notN_none, isN_int, notN_int, isN_bool, notN_bool, isN_str, notN_str, isN_list, notN_list, isN_tup, notN_tup, isN_dict, notN_dict, raiseS, mDat, mNew, e_callAt, cal_some, wbl_ok, wbl_ex, wbl_ite, e_lcM, e_rng1, e_rng2, e_enuM, en1_l, en1_t, e_zipM, zi1_l, dMnN_i, dMx_l, dMx_t, asg_nm, asg_tp, put, e_appM, isOwnL_l, e_apd, apo_l, notN_OI, isN_OI, dNe_n0, dTup_l, dTup_t, dNeg_i, dCutT_t, dCutL_l, r_is_tuple, isTup, isFord]
end Zk07
set_option maxHeartbeats 1000000
namespace Zk07
open PySem PySem.Spec PyProof.Rows L2 Sk LamX
theorem r_need_ford (v : D) : m_need_ford [.dat v] = if isFord v = true then .ok .none [.dat v] else .ex ⟨0, none⟩ [.dat v] := by
  simp [m_need_ford, b_need_ford, -List.map_map, -List.map_drop, -List.map_take, -List.map_append, -List.map_dropLast, th_ok, th_ex, th_ite, e_bind, e_ret, e_opt, ts_ok, ts_ex, ts_ite, e_bindS, sq_nx, sq_rt, sq_ex, sq_bk, sq_ct, sq_ite, e_seqS, fin_nx, fin_rt, fin_ex, fin_ite, e_fnOf, wb_ok, wb_ex, wb_ite, vA1_b, e_vAnd, vO1_b, e_vOr, vN1_b, e_vNot, ch1_b, e_chM, e_toB, e_mAnd, e_mOr, e_mNot, e_mIte, e_iteS, lp_nx, lp_ct, lp_bk, lp_rt, lp_ex, lp_ite, forL_nil, forL_nm, e_forS, okArgs, isOwn, outs, nam, frz, look, lookAll, ap1, ap2, apA, un1, bin2, opA, isiM, retS, drpS, setS, setN, putS, put, unpS, asg, mCons, mNil, e_mTup, mt1_ok, e_mLst, ml1_ok, callM, argsOf, argOf, ownIx, Sk.wb, List.getElem?_cons_zero, List.getElem?_cons_succ, List.getElem?_nil, List.set_cons_zero, List.set_cons_succ, List.replicate_succ, List.replicate_zero, List.cons_append, List.nil_append, List.foldl_cons, List.foldl_nil, List.getD_cons_zero, List.getD_cons_succ, List.all_cons, List.all_nil, isiD, tyN, dLt, dLe, dGt, dGe, dAdd_i, dEq_i, dNe_i, dSub, iOp, dLen_t, dLen_l, e_seqM, sq1_l, sq1_t, e_partM, pa1_i, sliM, isN_none, notN_none, isN_int, notN_int, isN_bool, notN_bool, isN_str, notN_str, isN_list, notN_list, isN_tup, notN_tup, isN_dict, notN_dict, raiseS, mDat, mNew, e_callAt, cal_some, wbl_ok, wbl_ex, wbl_ite, e_lcM, e_rng1, e_rng2, e_enuM, en1_l, en1_t, e_zipM, zi1_l, dMnN_i, dMx_l, dMx_t, asg_nm, asg_tp, put, e_appM, isOwnL_l, e_apd, apo_l, notN_OI, isN_OI, dNe_n0, dTup_l, dTup_t, dNeg_i, dCutT_t, dCutL_l, r_is_ford]
  cases isFord v <;> simp
theorem r_need_width (v : D) (m : Int) : m_need_width [.dat v, .dat (.int m)] = if isFrom 0 m v = true then .ok .none [.dat v, .dat (.int m)] else .ex ⟨1, none⟩ [.dat v, .dat (.int m)] := by
  simp [m_need_width, b_need_width, -List.map_map, -List.map_drop, -List.map_take, -List.map_append, -List.map_dropLast, th_ok, th_ex, th_ite, e_bind, e_ret, e_opt, ts_ok, ts_ex, ts_ite, e_bindS, sq_nx, sq_rt, sq_ex, sq_bk, sq_ct, sq_ite, e_seqS, fin_nx, fin_rt, fin_ex, fin_ite, e_fnOf, wb_ok, wb_ex, wb_ite, vA1_b, e_vAnd, vO1_b, e_vOr, vN1_b, e_vNot, ch1_b, e_chM, e_toB, e_mAnd, e_mOr, e_mNot, e_mIte, e_iteS, lp_nx, lp_ct, lp_bk, lp_rt, lp_ex, lp_ite, forL_nil, forL_nm, e_forS, okArgs, isOwn, outs, nam, frz, look, lookAll, ap1, ap2, apA, un1, bin2, opA, isiM, retS, drpS, setS, setN, putS, put, unpS, asg, mCons, mNil, e_mTup, mt1_ok, e_mLst, ml1_ok, callM, argsOf, argOf, ownIx, Sk.wb, List.getElem?_cons_zero, List.getElem?_cons_succ, List.getElem?_nil, List.set_cons_zero, List.set_cons_succ, List.replicate_succ, List.replicate_zero, List.cons_append, List.nil_append, List.foldl_cons, List.foldl_nil, List.getD_cons_zero, List.getD_cons_succ, List.all_cons, List.all_nil, isiD, tyN, dLt, dLe, dGt, dGe, dAdd_i, dEq_i, dNe_i, dSub, iOp, dLen_t, dLen_l, e_seqM, sq1_l, sq1_t, e_partM, pa1_i, sliM, isN_none, notN_none, isN_int, notN_int, isN_bool, notN_bool, isN_str, notN_str, isN_list, notN_list, isN_tup, notN_tup, isN_dict, notN_dict, raiseS, mDat, mNew, e_callAt, cal_some, wbl_ok, wbl_ex, wbl_ite, e_lcM, e_rng1, e_rng2, e_enuM, en1_l, en1_t, e_zipM, zi1_l, dMnN_i, dMx_l, dMx_t, asg_nm, asg_tp, put, e_appM, isOwnL_l, e_apd, apo_l, notN_OI, isN_OI, dNe_n0, dTup_l, dTup_t, dNeg_i, dCutT_t, dCutL_l, r_is_from]
  cases isFrom 0 m v <;> simp
/-! fords, gaits as numbers -/
def encI (xs : List Int) : D := .tuple (xs.map .int)
def encG (g : List (Int × Int)) : D := .tuple (g.map fun p => .tuple [.int p.1, .int p.2])
def stone (f : List Int) (p : Int) : Int := f.getD ((p - 1) % (f.length : Int)).toNat 0
theorem dIx_encI {f : List Int} {p : Int} (hf : f ≠ []) : dIx (.tuple (f.map .int)) (.int ((p - 1) % (f.length : Int))) = some (.int (stone f p)) := by
  have l : 0 < (f.length : Int) := by
    cases f with
    | nil => exact absurd rfl hf
    | cons _ _ => simp
  have h0 := Int.emod_nonneg (p - 1) (show (f.length : Int) ≠ 0 by omega)
  have h1 := Int.emod_lt_of_pos (p - 1) l
  have h2 : ((p - 1) % (f.length : Int)).toNat < f.length := by omega
  rw [dIx_tup h0 (by simpa using h1)]
  simp [stone, h2]
theorem r_strength (f : List Int) (p : Int) (hf : f ≠ []) : m_strength [.dat (encI f), .dat (.int p)] = .ok (.int (stone f p)) [.dat (encI f), .dat (.int p)] := by
  have l : 0 < (f.length : Int) := by
    cases f with
    | nil => exact absurd rfl hf
    | cons _ _ => simp
  have e : dMod (.int (p - 1)) (.int (f.length : Int)) = some (.int ((p - 1) % (f.length : Int))) := e_chk l
  simp [m_strength, b_strength, encI, -List.map_map, -List.map_drop, -List.map_take, -List.map_append, -List.map_dropLast, th_ok, th_ex, th_ite, e_bind, e_ret, e_opt, ts_ok, ts_ex, ts_ite, e_bindS, sq_nx, sq_rt, sq_ex, sq_bk, sq_ct, sq_ite, e_seqS, fin_nx, fin_rt, fin_ex, fin_ite, e_fnOf, wb_ok, wb_ex, wb_ite, vA1_b, e_vAnd, vO1_b, e_vOr, vN1_b, e_vNot, ch1_b, e_chM, e_toB, e_mAnd, e_mOr, e_mNot, e_mIte, e_iteS, lp_nx, lp_ct, lp_bk, lp_rt, lp_ex, lp_ite, forL_nil, forL_nm, e_forS, okArgs, isOwn, outs, nam, frz, look, lookAll, ap1, ap2, apA, un1, bin2, opA, isiM, retS, drpS, setS, setN, putS, put, unpS, asg, mCons, mNil, e_mTup, mt1_ok, e_mLst, ml1_ok, callM, argsOf, argOf, ownIx, Sk.wb, List.getElem?_cons_zero, List.getElem?_cons_succ, List.getElem?_nil, List.set_cons_zero, List.set_cons_succ, List.replicate_succ, List.replicate_zero, List.cons_append, List.nil_append, List.foldl_cons, List.foldl_nil, List.getD_cons_zero, List.getD_cons_succ, List.all_cons, List.all_nil, isiD, tyN, dLt, dLe, dGt, dGe, dAdd_i, dEq_i, dNe_i, dSub, iOp, dLen_t, dLen_l, e_seqM, sq1_l, sq1_t, e_partM, pa1_i, sliM, isN_none, notN_none, isN_int, notN_int, isN_bool, notN_bool, isN_str, notN_str, isN_list, notN_list, isN_tup, notN_tup, isN_dict, notN_dict, raiseS, mDat, mNew, e_callAt, cal_some, wbl_ok, wbl_ex, wbl_ite, e_lcM, e_rng1, e_rng2, e_enuM, en1_l, en1_t, e_zipM, zi1_l, dMnN_i, dMx_l, dMx_t, asg_nm, asg_tp, put, e_appM, isOwnL_l, e_apd, apo_l, notN_OI, isN_OI, dNe_n0, dTup_l, dTup_t, dNeg_i, dCutT_t, dCutL_l, e, dIx_encI hf]
def inL (g : List (Int × Int)) (l : Int) : Bool := g.any fun p => p.1 == l
def encL (xs : List Int) : D := .list (xs.map .int)
theorem sh_ints {n : Nat} (xs : List Int) : Sh (n + 1) (.list (xs.map .int)) := sh_lst fun x h => by
  obtain ⟨i, _, rfl⟩ := List.mem_map.mp h
  exact sh_int
theorem any_int (l : Int) : ∀ xs : List Int, ((xs.map PyData.int).any fun z => PyData.eqv z (.int l)) = xs.any fun x => x == l
  | [] => rfl
  | x :: xs => by
    rw [List.map_cons, List.any_cons, List.any_cons, any_int l xs]
    rfl
theorem notin_ints (l : Int) (xs : List Int) : dNotInL (.int l) (.list (xs.map .int)) = some (.bool (!xs.any fun x => x == l)) := by
  show chk _ _ = _
  rw [e_chk ⟨sh_int.shaped (n := 0) (by decide), (sh_ints (n := 0) xs).shaped (by decide)⟩, any_int]
theorem eq_ints (i j : Int) : dEq (.int i) (.int j) = some (.bool (i == j)) := by
  show chk _ _ = _
  rw [e_chk ⟨sh_int.shaped (n := 0) (by decide), sh_int.shaped (n := 0) (by decide)⟩]
  rfl
end Zk07
set_option maxHeartbeats 1000000
namespace Zk07
open PySem PySem.Spec PyProof.Rows L2 Sk LamX
/-! draws -/
abbrev Src : Type := Int × Int
def encS (s : Src) : D := .list [.int s.1, .int s.2]
def OkS (s : Src) : Prop := 0 ≤ s.2 ∧ s.2 < 2147483237
def nx2 (s : Src) : Int := (s.2 * 48271 + 83) % 2147483237
def wideOf (s : Src) : Int := (nx2 s * (nx2 s / 41 + 26)) % 2147483179
def drV (s : Src) (many : Int) : Int := if 0 < s.1 then s.1 % many else wideOf s / 32 % many
def drS (s : Src) (many : Int) : Src := if 0 < s.1 then (s.1 / many, s.2) else (s.1, nx2 s)
theorem drV_0 {s : Src} {many : Int} (h : 0 < many) : 0 ≤ drV s many := by
  unfold drV
  split <;> exact Int.emod_nonneg _ (by omega)
theorem drV_lt {s : Src} {many : Int} (h : 0 < many) : drV s many < many := by
  unfold drV
  split <;> exact Int.emod_lt_of_pos _ h
theorem nx2_ok (s : Src) : 0 ≤ nx2 s ∧ nx2 s < 2147483237 := ⟨Int.emod_nonneg _ (by omega), Int.emod_lt_of_pos _ (by omega)⟩
theorem drS_ok {s : Src} {many : Int} (h : OkS s) : OkS (drS s many) := by
  unfold drS
  split
  · exact h
  · exact nx2_ok s
theorem set_0 {a b : D} {k : Int} (h : k = 0) : ixN [a, b].length k = some 0 := by subst h; rfl
theorem set_1 {a b : D} {k : Int} (h : k = 1) : ixN [a, b].length k = some 1 := by subst h; rfl
theorem dIx_0 {a b : D} : dIx (.list [a, b]) (.int 0) = some a := rfl
theorem dIx_1 {a b : D} : dIx (.list [a, b]) (.int 1) = some b := rfl
theorem dMod_ok {i j : Int} (h : 0 < j) : dMod (.int i) (.int j) = some (.int (i % j)) := e_chk h
theorem dDiv_ok {i j : Int} (h : 0 < j) (h2 : j ≤ 1000000000000000000000000000000) : dDiv (.int i) (.int j) = some (.int (i / j)) := e_chk ⟨h, by omega⟩
theorem dMul_ok {i j : Int} (h : -10000000000 < j ∧ j < 10000000000) : dMul (.int i) (.int j) = some (.int (i * j)) := e_chk (.inr (by omega))
theorem dMul_ok1 {i j : Int} (h : -10000000000 < i ∧ i < 10000000000) : dMul (.int i) (.int j) = some (.int (i * j)) := e_chk (.inl (by omega))
theorem r_draw (s : Src) (many : Int) (hs : OkS s) (h0 : 0 < many) (h1 : many ≤ 1000000000000000000000000000000) : m__law_draw [.own (encS s), .dat (.int many)] = .ok (.int (drV s many)) [.own (encS (drS s many)), .dat (.int many)] := by
  by_cases hp : 0 < s.1
  · simp [m__law_draw, b__law_draw, -List.map_map, -List.map_drop, -List.map_take, -List.map_append, -List.map_dropLast, th_ok, th_ex, th_ite, e_bind, e_ret, e_opt, ts_ok, ts_ex, ts_ite, e_bindS, sq_nx, sq_rt, sq_ex, sq_bk, sq_ct, sq_ite, e_seqS, fin_nx, fin_rt, fin_ex, fin_ite, e_fnOf, wb_ok, wb_ex, wb_ite, vA1_b, e_vAnd, vO1_b, e_vOr, vN1_b, e_vNot, ch1_b, e_chM, e_toB, e_mAnd, e_mOr, e_mNot, e_mIte, e_iteS, lp_nx, lp_ct, lp_bk, lp_rt, lp_ex, lp_ite, forL_nil, forL_nm, e_forS, okArgs, isOwn, outs, nam, frz, look, lookAll, ap1, ap2, apA, un1, bin2, opA, isiM, retS, drpS, setS, setN, putS, put, unpS, asg, mCons, mNil, e_mTup, mt1_ok, e_mLst, ml1_ok, callM, argsOf, argOf, ownIx, Sk.wb, List.getElem?_cons_zero, List.getElem?_cons_succ, List.getElem?_nil, List.set_cons_zero, List.set_cons_succ, List.replicate_succ, List.replicate_zero, List.cons_append, List.nil_append, List.foldl_cons, List.foldl_nil, List.getD_cons_zero, List.getD_cons_succ, List.all_cons, List.all_nil, isiD, tyN, dLt, dLe, dGt, dGe, dAdd_i, dEq_i, dNe_i, dSub, iOp, dLen_t, dLen_l, e_seqM, sq1_l, sq1_t, e_partM, pa1_i, sliM, isN_none, notN_none, isN_int, notN_int, isN_bool, notN_bool, isN_str, notN_str, isN_list, notN_list, isN_tup, notN_tup, isN_dict, notN_dict, raiseS, mDat, mNew, e_callAt, cal_some, wbl_ok, wbl_ex, wbl_ite, e_lcM, e_rng1, e_rng2, e_enuM, en1_l, en1_t, e_zipM, zi1_l, dMnN_i, dMx_l, dMx_t, asg_nm, asg_tp, put, e_appM, isOwnL_l, e_apd, apo_l, notN_OI, isN_OI, dNe_n0, dTup_l, dTup_t, dNeg_i, dCutT_t, dCutL_l, encS, dIx_0, hp, dInt, dMod_ok h0, putIx, isOwnL, dDiv_ok h0 h1, L2.ixN, drV, drS]
  · have n := nx2_ok s
    have m1 : dMul (.int s.2) (.int 48271) = some (.int (s.2 * 48271)) := dMul_ok (by omega)
    have m2 : dMod (.int (s.2 * 48271 + 83)) (.int 2147483237) = some (.int (nx2 s)) := dMod_ok (by omega)
    have m3 : dDiv (.int (nx2 s)) (.int 41) = some (.int (nx2 s / 41)) := dDiv_ok (by omega) (by omega)
    have m4 : dMul (.int (nx2 s)) (.int (nx2 s / 41 + 26)) = some (.int (nx2 s * (nx2 s / 41 + 26))) := dMul_ok1 (by omega)
    have m5 : dMod (.int (nx2 s * (nx2 s / 41 + 26))) (.int 2147483179) = some (.int (wideOf s)) := dMod_ok (by omega)
    have m6 : dDiv (.int (wideOf s)) (.int 32) = some (.int (wideOf s / 32)) := dDiv_ok (by omega) (by omega)
    simp [m__law_draw, b__law_draw, -List.map_map, -List.map_drop, -List.map_take, -List.map_append, -List.map_dropLast, th_ok, th_ex, th_ite, e_bind, e_ret, e_opt, ts_ok, ts_ex, ts_ite, e_bindS, sq_nx, sq_rt, sq_ex, sq_bk, sq_ct, sq_ite, e_seqS, fin_nx, fin_rt, fin_ex, fin_ite, e_fnOf, wb_ok, wb_ex, wb_ite, vA1_b, e_vAnd, vO1_b, e_vOr, vN1_b, e_vNot, ch1_b, e_chM, e_toB, e_mAnd, e_mOr, e_mNot, e_mIte, e_iteS, lp_nx, lp_ct, lp_bk, lp_rt, lp_ex, lp_ite, forL_nil, forL_nm, e_forS, okArgs, isOwn, outs, nam, frz, look, lookAll, ap1, ap2, apA, un1, bin2, opA, isiM, retS, drpS, setS, setN, putS, put, unpS, asg, mCons, mNil, e_mTup, mt1_ok, e_mLst, ml1_ok, callM, argsOf, argOf, ownIx, Sk.wb, List.getElem?_cons_zero, List.getElem?_cons_succ, List.getElem?_nil, List.set_cons_zero, List.set_cons_succ, List.replicate_succ, List.replicate_zero, List.cons_append, List.nil_append, List.foldl_cons, List.foldl_nil, List.getD_cons_zero, List.getD_cons_succ, List.all_cons, List.all_nil, isiD, tyN, dLt, dLe, dGt, dGe, dAdd_i, dEq_i, dNe_i, dSub, iOp, dLen_t, dLen_l, e_seqM, sq1_l, sq1_t, e_partM, pa1_i, sliM, isN_none, notN_none, isN_int, notN_int, isN_bool, notN_bool, isN_str, notN_str, isN_list, notN_list, isN_tup, notN_tup, isN_dict, notN_dict, raiseS, mDat, mNew, e_callAt, cal_some, wbl_ok, wbl_ex, wbl_ite, e_lcM, e_rng1, e_rng2, e_enuM, en1_l, en1_t, e_zipM, zi1_l, dMnN_i, dMx_l, dMx_t, asg_nm, asg_tp, put, e_appM, isOwnL_l, e_apd, apo_l, notN_OI, isN_OI, dNe_n0, dTup_l, dTup_t, dNeg_i, dCutT_t, dCutL_l, encS, dIx_0, dIx_1, hp, dInt, m1, m2, m3, m4, m5, m6, dMod_ok h0, putIx, isOwnL, L2.ixN, drV, drS]
/-- one of some -/
def pick (s : Src) (xs : List D) : D := xs.getD (drV s (xs.length : Int)).toNat .none
def pickS (s : Src) (xs : List D) : Src := drS s (xs.length : Int)
theorem pick_mem {s : Src} {xs : List D} (h : xs ≠ []) : pick s xs ∈ xs := by
  have l : 0 < (xs.length : Int) := by
    cases xs with
    | nil => exact absurd rfl h
    | cons _ _ => simp
  have a := drV_0 (s := s) l
  have b := drV_lt (s := s) l
  have c : (drV s (xs.length : Int)).toNat < xs.length := by omega
  unfold pick
  rw [List.getD_eq_getElem?_getD, List.getElem?_eq_getElem c]
  exact List.getElem_mem c
theorem r_choice (s : Src) (xs : List D) (hs : OkS s) (h : xs ≠ []) (hc : xs.length ≤ 1000000) : m__law_choice [.own (encS s), .dat (.list xs)] = .ok (pick s xs) [.own (encS (pickS s xs)), .dat (.list xs)] := by
  have l : 0 < (xs.length : Int) := by
    cases xs with
    | nil => exact absurd rfl h
    | cons _ _ => simp
  have a := drV_0 (s := s) l
  have b := drV_lt (s := s) l
  have c : (drV s (xs.length : Int)).toNat < xs.length := by omega
  have e : dIx (.list xs) (.int (drV s (xs.length : Int))) = some (pick s xs) := by
    rw [dIx_lst a b]
    unfold pick
    rw [List.getD_eq_getElem?_getD, List.getElem?_eq_getElem c]
    rfl
  simp [m__law_choice, b__law_choice, -List.map_map, -List.map_drop, -List.map_take, -List.map_append, -List.map_dropLast, th_ok, th_ex, th_ite, e_bind, e_ret, e_opt, ts_ok, ts_ex, ts_ite, e_bindS, sq_nx, sq_rt, sq_ex, sq_bk, sq_ct, sq_ite, e_seqS, fin_nx, fin_rt, fin_ex, fin_ite, e_fnOf, wb_ok, wb_ex, wb_ite, vA1_b, e_vAnd, vO1_b, e_vOr, vN1_b, e_vNot, ch1_b, e_chM, e_toB, e_mAnd, e_mOr, e_mNot, e_mIte, e_iteS, lp_nx, lp_ct, lp_bk, lp_rt, lp_ex, lp_ite, forL_nil, forL_nm, e_forS, okArgs, isOwn, outs, nam, frz, look, lookAll, ap1, ap2, apA, un1, bin2, opA, isiM, retS, drpS, setS, setN, putS, put, unpS, asg, mCons, mNil, e_mTup, mt1_ok, e_mLst, ml1_ok, callM, argsOf, argOf, ownIx, Sk.wb, List.getElem?_cons_zero, List.getElem?_cons_succ, List.getElem?_nil, List.set_cons_zero, List.set_cons_succ, List.replicate_succ, List.replicate_zero, List.cons_append, List.nil_append, List.foldl_cons, List.foldl_nil, List.getD_cons_zero, List.getD_cons_succ, List.all_cons, List.all_nil, isiD, tyN, dLt, dLe, dGt, dGe, dAdd_i, dEq_i, dNe_i, dSub, iOp, dLen_t, dLen_l, e_seqM, sq1_l, sq1_t, e_partM, pa1_i, sliM, isN_none, notN_none, isN_int, notN_int, isN_bool, notN_bool, isN_str, notN_str, isN_list, notN_list, isN_tup, notN_tup, isN_dict, notN_dict, raiseS, mDat, mNew, e_callAt, cal_some, wbl_ok, wbl_ex, wbl_ite, e_lcM, e_rng1, e_rng2, e_enuM, en1_l, en1_t, e_zipM, zi1_l, dMnN_i, dMx_l, dMx_t, asg_nm, asg_tp, put, e_appM, isOwnL_l, e_apd, apo_l, notN_OI, isN_OI, dNe_n0, dTup_l, dTup_t, dNeg_i, dCutT_t, dCutL_l, r_draw s (xs.length : Int) hs l (by omega), e, pickS]
/-! what every law has -/
def srcOf (ns : List Int) (k : Nat) : Src :=
  let cell : Int := if h : k < ns.length then ((if ns[k] < 0 then -ns[k] else ns[k]) : Int) else 131 * k + 71
  (if 100000000000000000 < cell then cell else 0, (cell * 16807 + 10067 * k + 89) % 2147483237)
theorem src_ok (ns : List Int) (k : Nat) : OkS (srcOf ns k) := ⟨Int.emod_nonneg _ (by omega), Int.emod_lt_of_pos _ (by omega)⟩
theorem r_source (ns : List Int) (k : Nat) (hk : k < 1000000) : m__law_source [.scr ns, .dat (.int (k : Int))] = .ok (encS (srcOf ns k)) [.scr ns, .dat (.int (k : Int))] := by
  have p : dPow (.int 10) (.int 17) = some (.int 100000000000000000) := by
    simp [dPow, iOp, chk]
  have m1 : dMul (.int 131) (.int (k : Int)) = some (.int (131 * k)) := dMul_ok1 (by omega)
  have m2 : dMul (.int 10067) (.int (k : Int)) = some (.int (10067 * k)) := dMul_ok1 (by omega)
  have m3 : ∀ i : Int, dMul (.int i) (.int 16807) = some (.int (i * 16807)) := fun i => dMul_ok (by omega)
  have m4 : ∀ i : Int, dMod (.int i) (.int 2147483237) = some (.int (i % 2147483237)) := fun i => dMod_ok (by omega)
  by_cases h : k < ns.length
  · have hi : L2.atI ns (k : Int) = some ns[k] := atI_pos (by omega) (by omega)
    by_cases hc : (100000000000000000 : Int) < (if ns[k] < 0 then -ns[k] else ns[k])
    · simp [m__law_source, fnNew, -List.map_map, -List.map_drop, -List.map_take, -List.map_append, -List.map_dropLast, th_ok, th_ex, th_ite, e_bind, e_ret, e_opt, ts_ok, ts_ex, ts_ite, e_bindS, sq_nx, sq_rt, sq_ex, sq_bk, sq_ct, sq_ite, e_seqS, fin_nx, fin_rt, fin_ex, fin_ite, e_fnOf, wb_ok, wb_ex, wb_ite, vA1_b, e_vAnd, vO1_b, e_vOr, vN1_b, e_vNot, ch1_b, e_chM, e_toB, e_mAnd, e_mOr, e_mNot, e_mIte, e_iteS, lp_nx, lp_ct, lp_bk, lp_rt, lp_ex, lp_ite, forL_nil, forL_nm, e_forS, okArgs, isOwn, outs, nam, frz, look, lookAll, ap1, ap2, apA, un1, bin2, opA, isiM, retS, drpS, setS, setN, putS, put, unpS, asg, mCons, mNil, e_mTup, mt1_ok, e_mLst, ml1_ok, callM, argsOf, argOf, ownIx, Sk.wb, List.getElem?_cons_zero, List.getElem?_cons_succ, List.getElem?_nil, List.set_cons_zero, List.set_cons_succ, List.replicate_succ, List.replicate_zero, List.cons_append, List.nil_append, List.foldl_cons, List.foldl_nil, List.getD_cons_zero, List.getD_cons_succ, List.all_cons, List.all_nil, isiD, tyN, dLt, dLe, dGt, dGe, dAdd_i, dEq_i, dNe_i, dSub, iOp, dLen_t, dLen_l, e_seqM, sq1_l, sq1_t, e_partM, pa1_i, sliM, isN_none, notN_none, isN_int, notN_int, isN_bool, notN_bool, isN_str, notN_str, isN_list, notN_list, isN_tup, notN_tup, isN_dict, notN_dict, raiseS, mDat, mNew, e_callAt, cal_some, wbl_ok, wbl_ex, wbl_ite, e_lcM, e_rng1, e_rng2, e_enuM, en1_l, en1_t, e_zipM, zi1_l, dMnN_i, dMx_l, dMx_t, asg_nm, asg_tp, put, e_appM, isOwnL_l, e_apd, apo_l, notN_OI, isN_OI, dNe_n0, dTup_l, dTup_t, dNeg_i, dCutT_t, dCutL_l, lenS, ixS, h, hi, dInt, dAbs, p, m1, m2, m3, m4, encS, srcOf, hc]
    · simp [m__law_source, fnNew, -List.map_map, -List.map_drop, -List.map_take, -List.map_append, -List.map_dropLast, th_ok, th_ex, th_ite, e_bind, e_ret, e_opt, ts_ok, ts_ex, ts_ite, e_bindS, sq_nx, sq_rt, sq_ex, sq_bk, sq_ct, sq_ite, e_seqS, fin_nx, fin_rt, fin_ex, fin_ite, e_fnOf, wb_ok, wb_ex, wb_ite, vA1_b, e_vAnd, vO1_b, e_vOr, vN1_b, e_vNot, ch1_b, e_chM, e_toB, e_mAnd, e_mOr, e_mNot, e_mIte, e_iteS, lp_nx, lp_ct, lp_bk, lp_rt, lp_ex, lp_ite, forL_nil, forL_nm, e_forS, okArgs, isOwn, outs, nam, frz, look, lookAll, ap1, ap2, apA, un1, bin2, opA, isiM, retS, drpS, setS, setN, putS, put, unpS, asg, mCons, mNil, e_mTup, mt1_ok, e_mLst, ml1_ok, callM, argsOf, argOf, ownIx, Sk.wb, List.getElem?_cons_zero, List.getElem?_cons_succ, List.getElem?_nil, List.set_cons_zero, List.set_cons_succ, List.replicate_succ, List.replicate_zero, List.cons_append, List.nil_append, List.foldl_cons, List.foldl_nil, List.getD_cons_zero, List.getD_cons_succ, List.all_cons, List.all_nil, isiD, tyN, dLt, dLe, dGt, dGe, dAdd_i, dEq_i, dNe_i, dSub, iOp, dLen_t, dLen_l, e_seqM, sq1_l, sq1_t, e_partM, pa1_i, sliM, isN_none, notN_none, isN_int, notN_int, isN_bool, notN_bool, isN_str, notN_str, isN_list, notN_list, isN_tup, notN_tup, isN_dict, notN_dict, raiseS, mDat, mNew, e_callAt, cal_some, wbl_ok, wbl_ex, wbl_ite, e_lcM, e_rng1, e_rng2, e_enuM, en1_l, en1_t, e_zipM, zi1_l, dMnN_i, dMx_l, dMx_t, asg_nm, asg_tp, put, e_appM, isOwnL_l, e_apd, apo_l, notN_OI, isN_OI, dNe_n0, dTup_l, dTup_t, dNeg_i, dCutT_t, dCutL_l, lenS, ixS, h, hi, dInt, dAbs, p, m1, m2, m3, m4, encS, srcOf, hc]
  · by_cases hc : (100000000000000000 : Int) < 131 * (k : Int) + 71
    · simp [m__law_source, fnNew, -List.map_map, -List.map_drop, -List.map_take, -List.map_append, -List.map_dropLast, th_ok, th_ex, th_ite, e_bind, e_ret, e_opt, ts_ok, ts_ex, ts_ite, e_bindS, sq_nx, sq_rt, sq_ex, sq_bk, sq_ct, sq_ite, e_seqS, fin_nx, fin_rt, fin_ex, fin_ite, e_fnOf, wb_ok, wb_ex, wb_ite, vA1_b, e_vAnd, vO1_b, e_vOr, vN1_b, e_vNot, ch1_b, e_chM, e_toB, e_mAnd, e_mOr, e_mNot, e_mIte, e_iteS, lp_nx, lp_ct, lp_bk, lp_rt, lp_ex, lp_ite, forL_nil, forL_nm, e_forS, okArgs, isOwn, outs, nam, frz, look, lookAll, ap1, ap2, apA, un1, bin2, opA, isiM, retS, drpS, setS, setN, putS, put, unpS, asg, mCons, mNil, e_mTup, mt1_ok, e_mLst, ml1_ok, callM, argsOf, argOf, ownIx, Sk.wb, List.getElem?_cons_zero, List.getElem?_cons_succ, List.getElem?_nil, List.set_cons_zero, List.set_cons_succ, List.replicate_succ, List.replicate_zero, List.cons_append, List.nil_append, List.foldl_cons, List.foldl_nil, List.getD_cons_zero, List.getD_cons_succ, List.all_cons, List.all_nil, isiD, tyN, dLt, dLe, dGt, dGe, dAdd_i, dEq_i, dNe_i, dSub, iOp, dLen_t, dLen_l, e_seqM, sq1_l, sq1_t, e_partM, pa1_i, sliM, isN_none, notN_none, isN_int, notN_int, isN_bool, notN_bool, isN_str, notN_str, isN_list, notN_list, isN_tup, notN_tup, isN_dict, notN_dict, raiseS, mDat, mNew, e_callAt, cal_some, wbl_ok, wbl_ex, wbl_ite, e_lcM, e_rng1, e_rng2, e_enuM, en1_l, en1_t, e_zipM, zi1_l, dMnN_i, dMx_l, dMx_t, asg_nm, asg_tp, put, e_appM, isOwnL_l, e_apd, apo_l, notN_OI, isN_OI, dNe_n0, dTup_l, dTup_t, dNeg_i, dCutT_t, dCutL_l, lenS, ixS, h, dInt, dAbs, p, m1, m2, m3, m4, encS, srcOf, hc]
    · simp [m__law_source, fnNew, -List.map_map, -List.map_drop, -List.map_take, -List.map_append, -List.map_dropLast, th_ok, th_ex, th_ite, e_bind, e_ret, e_opt, ts_ok, ts_ex, ts_ite, e_bindS, sq_nx, sq_rt, sq_ex, sq_bk, sq_ct, sq_ite, e_seqS, fin_nx, fin_rt, fin_ex, fin_ite, e_fnOf, wb_ok, wb_ex, wb_ite, vA1_b, e_vAnd, vO1_b, e_vOr, vN1_b, e_vNot, ch1_b, e_chM, e_toB, e_mAnd, e_mOr, e_mNot, e_mIte, e_iteS, lp_nx, lp_ct, lp_bk, lp_rt, lp_ex, lp_ite, forL_nil, forL_nm, e_forS, okArgs, isOwn, outs, nam, frz, look, lookAll, ap1, ap2, apA, un1, bin2, opA, isiM, retS, drpS, setS, setN, putS, put, unpS, asg, mCons, mNil, e_mTup, mt1_ok, e_mLst, ml1_ok, callM, argsOf, argOf, ownIx, Sk.wb, List.getElem?_cons_zero, List.getElem?_cons_succ, List.getElem?_nil, List.set_cons_zero, List.set_cons_succ, List.replicate_succ, List.replicate_zero, List.cons_append, List.nil_append, List.foldl_cons, List.foldl_nil, List.getD_cons_zero, List.getD_cons_succ, List.all_cons, List.all_nil, isiD, tyN, dLt, dLe, dGt, dGe, dAdd_i, dEq_i, dNe_i, dSub, iOp, dLen_t, dLen_l, e_seqM, sq1_l, sq1_t, e_partM, pa1_i, sliM, isN_none, notN_none, isN_int, notN_int, isN_bool, notN_bool, isN_str, notN_str, isN_list, notN_list, isN_tup, notN_tup, isN_dict, notN_dict, raiseS, mDat, mNew, e_callAt, cal_some, wbl_ok, wbl_ex, wbl_ite, e_lcM, e_rng1, e_rng2, e_enuM, en1_l, en1_t, e_zipM, zi1_l, dMnN_i, dMx_l, dMx_t, asg_nm, asg_tp, put, e_appM, isOwnL_l, e_apd, apo_l, notN_OI, isN_OI, dNe_n0, dTup_l, dTup_t, dNeg_i, dCutT_t, dCutL_l, lenS, ixS, h, dInt, dAbs, p, m1, m2, m3, m4, encS, srcOf, hc]
theorem r_lstone (f : List Int) (p : Int) (hf : f ≠ []) : m__law_stone [.dat (encI f), .dat (.int p)] = .ok (.int (stone f p)) [.dat (encI f), .dat (.int p)] := by
  have l : 0 < (f.length : Int) := by
    cases f with
    | nil => exact absurd rfl hf
    | cons _ _ => simp
  have e : dMod (.int (p - 1)) (.int (f.length : Int)) = some (.int ((p - 1) % (f.length : Int))) := e_chk l
  simp [m__law_stone, b__law_stone, encI, -List.map_map, -List.map_drop, -List.map_take, -List.map_append, -List.map_dropLast, th_ok, th_ex, th_ite, e_bind, e_ret, e_opt, ts_ok, ts_ex, ts_ite, e_bindS, sq_nx, sq_rt, sq_ex, sq_bk, sq_ct, sq_ite, e_seqS, fin_nx, fin_rt, fin_ex, fin_ite, e_fnOf, wb_ok, wb_ex, wb_ite, vA1_b, e_vAnd, vO1_b, e_vOr, vN1_b, e_vNot, ch1_b, e_chM, e_toB, e_mAnd, e_mOr, e_mNot, e_mIte, e_iteS, lp_nx, lp_ct, lp_bk, lp_rt, lp_ex, lp_ite, forL_nil, forL_nm, e_forS, okArgs, isOwn, outs, nam, frz, look, lookAll, ap1, ap2, apA, un1, bin2, opA, isiM, retS, drpS, setS, setN, putS, put, unpS, asg, mCons, mNil, e_mTup, mt1_ok, e_mLst, ml1_ok, callM, argsOf, argOf, ownIx, Sk.wb, List.getElem?_cons_zero, List.getElem?_cons_succ, List.getElem?_nil, List.set_cons_zero, List.set_cons_succ, List.replicate_succ, List.replicate_zero, List.cons_append, List.nil_append, List.foldl_cons, List.foldl_nil, List.getD_cons_zero, List.getD_cons_succ, List.all_cons, List.all_nil, isiD, tyN, dLt, dLe, dGt, dGe, dAdd_i, dEq_i, dNe_i, dSub, iOp, dLen_t, dLen_l, e_seqM, sq1_l, sq1_t, e_partM, pa1_i, sliM, isN_none, notN_none, isN_int, notN_int, isN_bool, notN_bool, isN_str, notN_str, isN_list, notN_list, isN_tup, notN_tup, isN_dict, notN_dict, raiseS, mDat, mNew, e_callAt, cal_some, wbl_ok, wbl_ex, wbl_ite, e_lcM, e_rng1, e_rng2, e_enuM, en1_l, en1_t, e_zipM, zi1_l, dMnN_i, dMx_l, dMx_t, asg_nm, asg_tp, put, e_appM, isOwnL_l, e_apd, apo_l, notN_OI, isN_OI, dNe_n0, dTup_l, dTup_t, dNeg_i, dCutT_t, dCutL_l, e, dIx_encI hf]
/-- a comprehension that draws -/
theorem lc_draw {i : Nat} {fe : M D} {lo : Int} {Ok : Src → Prop} {Good : D → Prop} (mk : Src → List Sl) (hi : ∀ s, i < (mk s).length) (hf : ∀ (s : Src) (k : Int), Ok s → ∃ d s', Good d ∧ Ok s' ∧ fe ((mk s).set i (.dat (.int k))) = .ok d ((mk s').set i (.dat (.int k))))
    (hb : ∀ (s s' : Src) (k : Int), (mk s)[i]? = (mk s')[i]?) : ∀ (n : Nat) (j : Nat) (acc : List D) (s : Src), Ok s → acc.length + n ≤ cap → ∃ ds s', ds.length = n ∧ (∀ d ∈ ds, Good d) ∧ Ok s' ∧
      lcL (.nm i) (M.ret true) fe [i] acc ((List.range' j n).map fun k : Nat => .int (lo + (k : Int))) (mk s) = .ok (.list (acc ++ ds)) (mk s')
  | 0, j, acc, s, hs, _ => ⟨[], s, rfl, fun d hd => by simp at hd, hs, by simp [lcL]⟩
  | n + 1, j, acc, s, hs, hc => by
    obtain ⟨d, s1, g1, o1, e1⟩ := hf s (lo + (j : Int)) hs
    obtain ⟨ds, s2, l2, g2, o2, e2⟩ := lc_draw (lo := lo) mk hi hf hb n (j + 1) (acc ++ [d]) s1 o1 (by rw [List.length_append]; simp; omega)
    refine ⟨d :: ds, s2, by rw [List.length_cons, l2], fun x hx => (List.mem_cons.mp hx).elim (fun z => z ▸ g1) (g2 x), o2, ?_⟩
    rw [List.range'_succ, List.map_cons]
    have e0 : asg (.nm i) (.int (lo + (j : Int))) (killS [i] (mk s)) = some ((mk s).set i (.dat (.int (lo + (j : Int))))) := by simp [asg, killS]
    unfold lcL
    rw [e0]
    simp only [e_ret]
    rw [e1]
    simp only
    have bk : back [i] (mk s) ((mk s1).set i (.dat (.int (lo + (j : Int))))) = mk s1 := by
      have e : (mk s).getD i .un = (mk s1).getD i .un := by rw [List.getD_eq_getElem?_getD, List.getD_eq_getElem?_getD, hb s s1 0]
      have := set_back (st := mk s1) (s := .dat (.int (lo + (j : Int)))) (hi s1)
      unfold back at this ⊢
      simp only [List.foldl_cons, List.foldl_nil] at this ⊢
      rw [e]
      exact this
    rw [if_pos (by omega), bk, e2]
    simp
theorem rngL' (lo : Int) (n : Nat) : rngL lo n = (List.range' 0 n).map fun k : Nat => .int (lo + (k : Int)) := by
  unfold rngL
  rw [List.range_eq_range']
def IntIn (l m : Int) (d : D) : Prop := ∃ i : Int, d = .int i ∧ l ≤ i ∧ i ≤ m
theorem ints_form {l m : Int} : ∀ {ds : List D}, (∀ d ∈ ds, IntIn l m d) → ∃ xs : List Int, ds = xs.map .int ∧ ∀ x ∈ xs, l ≤ x ∧ x ≤ m
  | [], _ => ⟨[], rfl, fun x hx => by simp at hx⟩
  | d :: ds, h => by
    obtain ⟨i, rfl, hi⟩ := h d (List.mem_cons_self ..)
    obtain ⟨xs, e, hx⟩ := ints_form fun x hx => h x (List.mem_cons_of_mem _ hx)
    exact ⟨i :: xs, by rw [e]; rfl, fun x q => (List.mem_cons.mp q).elim (fun z => z ▸ hi) (hx x)⟩
theorem good_ford {xs : List Int} (h1 : 1 ≤ xs.length) (h2 : xs.length ≤ 8) (h : ∀ x ∈ xs, 0 ≤ x ∧ x ≤ 3) : isFord (encI xs) = true := by
  unfold encI isFord
  simp only [List.length_map, Bool.and_eq_true, decide_eq_true_eq]
  refine ⟨by omega, List.all_eq_true.mpr fun d hd => ?_⟩
  obtain ⟨x, hx, rfl⟩ := List.mem_map.mp hd
  have := h x hx
  simp [isFrom]
  omega
theorem some_ok {s : Src} {xs : List (List Int)} (h : xs ≠ []) : ∃ ys ∈ xs, pick s (xs.map fun ys => .list (ys.map .int)) = .list (ys.map .int) := by
  have := pick_mem (s := s) (xs := xs.map fun ys => PyData.list (ys.map .int)) (by simpa using h)
  obtain ⟨ys, hy, e⟩ := List.mem_map.mp this
  exact ⟨ys, hy, e.symm⟩
/-- a random ford -/
theorem r_lford (s : Src) (hs : OkS s) : ∃ f s', isFord (encI f) = true ∧ OkS s' ∧ m__law_ford [.own (encS s)] = .ok (encI f) [.own (encS s')] := by
  obtain ⟨ys, hy, ey⟩ := some_ok (s := s) (xs := [[0, 1], [0, 1, 1, 2], [1, 2, 3, 0], [1, 1, 1, 0]]) (by simp)
  have rc := r_choice s ([[0, 1], [0, 1, 1, 2], [1, 2, 3, 0], [1, 1, 1, 0]].map fun ys : List Int => PyData.list (ys.map .int)) hs (by simp) (by simp)
  rw [ey] at rc
  generalize hs1 : pickS s ([[0, 1], [0, 1, 1, 2], [1, 2, 3, 0], [1, 1, 1, 0]].map fun ys : List Int => PyData.list (ys.map .int)) = s1 at rc
  have os1 : OkS s1 := hs1 ▸ drS_ok hs
  have rd := r_draw s1 8 os1 (by omega) (by omega)
  have d0 := drV_0 (s := s1) (many := 8) (by omega)
  have d1 := drV_lt (s := s1) (many := 8) (by omega)
  have hy2 : ∀ y ∈ ys, 0 ≤ y ∧ y ≤ 3 := by
    simp at hy
    rcases hy with rfl | rfl | rfl | rfl <;> simp
  have hy3 : ys ≠ [] := by
    simp at hy
    rcases hy with rfl | rfl | rfl | rfl <;> simp
  have hy4 : ys.length ≤ 4 := by
    simp at hy
    rcases hy with rfl | rfl | rfl | rfl <;> simp
  obtain ⟨ds, s3, l3, g3, o3, e3⟩ := lc_draw (i := 2) (fe := C1__law_ford) (lo := 0) (Ok := OkS) (Good := IntIn 0 3) (fun s => [.own (encS s), .dat (.list (ys.map .int)), .un]) (fun _ => by simp) (fun s k hs => by
    have m := pick_mem (s := s) (xs := ys.map PyData.int) (by simpa using hy3)
    obtain ⟨y, hy', e⟩ := List.mem_map.mp m
    have r := r_choice s (ys.map .int) hs (by simpa using hy3) (by rw [List.length_map]; omega)
    rw [← e] at r
    exact ⟨.int y, pickS s (ys.map .int), ⟨y, rfl, hy2 y hy'⟩, drS_ok hs, by simp [C1__law_ford, -List.map_map, -List.map_drop, -List.map_take, -List.map_append, -List.map_dropLast, th_ok, th_ex, th_ite, e_bind, e_ret, e_opt, ts_ok, ts_ex, ts_ite, e_bindS, sq_nx, sq_rt, sq_ex, sq_bk, sq_ct, sq_ite, e_seqS, fin_nx, fin_rt, fin_ex, fin_ite, e_fnOf, wb_ok, wb_ex, wb_ite, vA1_b, e_vAnd, vO1_b, e_vOr, vN1_b, e_vNot, ch1_b, e_chM, e_toB, e_mAnd, e_mOr, e_mNot, e_mIte, e_iteS, lp_nx, lp_ct, lp_bk, lp_rt, lp_ex, lp_ite, forL_nil, forL_nm, e_forS, okArgs, isOwn, outs, nam, frz, look, lookAll, ap1, ap2, apA, un1, bin2, opA, isiM, retS, drpS, setS, setN, putS, put, unpS, asg, mCons, mNil, e_mTup, mt1_ok, e_mLst, ml1_ok, callM, argsOf, argOf, ownIx, Sk.wb, List.getElem?_cons_zero, List.getElem?_cons_succ, List.getElem?_nil, List.set_cons_zero, List.set_cons_succ, List.replicate_succ, List.replicate_zero, List.cons_append, List.nil_append, List.foldl_cons, List.foldl_nil, List.getD_cons_zero, List.getD_cons_succ, List.all_cons, List.all_nil, isiD, tyN, dLt, dLe, dGt, dGe, dAdd_i, dEq_i, dNe_i, dSub, iOp, dLen_t, dLen_l, e_seqM, sq1_l, sq1_t, e_partM, pa1_i, sliM, isN_none, notN_none, isN_int, notN_int, isN_bool, notN_bool, isN_str, notN_str, isN_list, notN_list, isN_tup, notN_tup, isN_dict, notN_dict, raiseS, mDat, mNew, e_callAt, cal_some, wbl_ok, wbl_ex, wbl_ite, e_lcM, e_rng1, e_rng2, e_enuM, en1_l, en1_t, e_zipM, zi1_l, dMnN_i, dMx_l, dMx_t, asg_nm, asg_tp, put, e_appM, isOwnL_l, e_apd, apo_l, notN_OI, isN_OI, dNe_n0, dTup_l, dTup_t, dNeg_i, dCutT_t, dCutL_l, r]⟩) (fun _ _ _ => rfl) (1 + drV s1 8).toNat 0 [] (drS s1 8) (drS_ok os1) (by simp; unfold cap; omega)
  obtain ⟨f, ef, hf⟩ := ints_form g3
  have lf : f.length = (1 + drV s1 8).toNat := by rw [← l3, ef, List.length_map]
  refine ⟨f, s3, good_ford (by omega) (by omega) hf, o3, ?_⟩
  have sm : Sml 0 (1 + drV s1 8) := sml (by omega)
  rw [List.nil_append, ef, ← rngL'] at e3
  simp only [List.map_cons, List.map_nil] at rc
  simp [m__law_ford, b__law_ford, -List.map_map, -List.map_drop, -List.map_take, -List.map_append, -List.map_dropLast, th_ok, th_ex, th_ite, e_bind, e_ret, e_opt, ts_ok, ts_ex, ts_ite, e_bindS, sq_nx, sq_rt, sq_ex, sq_bk, sq_ct, sq_ite, e_seqS, fin_nx, fin_rt, fin_ex, fin_ite, e_fnOf, wb_ok, wb_ex, wb_ite, vA1_b, e_vAnd, vO1_b, e_vOr, vN1_b, e_vNot, ch1_b, e_chM, e_toB, e_mAnd, e_mOr, e_mNot, e_mIte, e_iteS, lp_nx, lp_ct, lp_bk, lp_rt, lp_ex, lp_ite, forL_nil, forL_nm, e_forS, okArgs, isOwn, outs, nam, frz, look, lookAll, ap1, ap2, apA, un1, bin2, opA, isiM, retS, drpS, setS, setN, putS, put, unpS, asg, mCons, mNil, e_mTup, mt1_ok, e_mLst, ml1_ok, callM, argsOf, argOf, ownIx, Sk.wb, List.getElem?_cons_zero, List.getElem?_cons_succ, List.getElem?_nil, List.set_cons_zero, List.set_cons_succ, List.replicate_succ, List.replicate_zero, List.cons_append, List.nil_append, List.foldl_cons, List.foldl_nil, List.getD_cons_zero, List.getD_cons_succ, List.all_cons, List.all_nil, isiD, tyN, dLt, dLe, dGt, dGe, dAdd_i, dEq_i, dNe_i, dSub, iOp, dLen_t, dLen_l, e_seqM, sq1_l, sq1_t, e_partM, pa1_i, sliM, isN_none, notN_none, isN_int, notN_int, isN_bool, notN_bool, isN_str, notN_str, isN_list, notN_list, isN_tup, notN_tup, isN_dict, notN_dict, raiseS, mDat, mNew, e_callAt, cal_some, wbl_ok, wbl_ex, wbl_ite, e_lcM, e_rng1, e_rng2, e_enuM, en1_l, en1_t, e_zipM, zi1_l, dMnN_i, dMx_l, dMx_t, asg_nm, asg_tp, put, e_appM, isOwnL_l, e_apd, apo_l, notN_OI, isN_OI, dNe_n0, dTup_l, dTup_t, dNeg_i, dCutT_t, dCutL_l, rc, rd, rn1_ok sm, e3, dTup, encI]
end Zk07
set_option maxHeartbeats 1000000
namespace Zk07
open PySem PySem.Spec PyProof.Rows L2 Sk LamX
/-! dict(gait) -/
abbrev kvG (g : List (Int × Int)) : List (D × D) := g.map fun p => (.int p.1, .int p.2)
theorem pairs_G : ∀ g : List (Int × Int), pairsD (g.map fun p => .tuple [.int p.1, .int p.2]) = some (g.map fun p => (.inl p.1, .int p.2))
  | [] => rfl
  | p :: g => by
    rw [List.map_cons]
    unfold pairsD
    rw [pairs_G g]
    rfl
theorem has_G {k : Int} : ∀ {g : List (Int × Int)}, (∀ p ∈ g, p.1 ≠ k) → hasD (kvG g) (.inl k) = false
  | [], _ => rfl
  | p :: g, h => by
    have h1 := h p (List.mem_cons_self ..)
    have h2 : hasD (kvG g) (.inl k) = false := has_G fun q hq => h q (List.mem_cons_of_mem _ hq)
    show (if keyOf (.int p.1) = some (.inl k) then true else hasD (kvG g) (.inl k)) = false
    rw [h2, if_neg]
    intro z
    exact h1 (by simpa [keyOf] using z)
theorem merge_G : ∀ (g a : List (Int × Int)), (∀ p ∈ g, ∀ q ∈ a, q.1 ≠ p.1) → (g.map (·.1)).Nodup → mergeD (kvG a) (g.map fun p => (.inl p.1, .int p.2)) = kvG (a ++ g)
  | [], a, _, _ => by simp [mergeD]
  | p :: g, a, h, n => by
    rw [List.map_cons, List.nodup_cons] at n
    rw [List.map_cons]
    unfold mergeD putD
    rw [has_G (fun q hq => h p (List.mem_cons_self ..) q hq)]
    have e : kvG a ++ [(keyD (.inl p.1), .int p.2)] = kvG (a ++ [p]) := by simp [kvG, keyD]
    simp only [Bool.false_eq_true, if_false]
    rw [e, merge_G g (a ++ [p]) (fun q hq r hr => ?_) n.2]
    · simp
    · rcases List.mem_append.mp hr with hr | hr
      · exact h q (List.mem_cons_of_mem _ hq) r hr
      · have : r = p := by simpa using hr
        subst this
        intro z
        exact n.1 (List.mem_map.mpr ⟨q, hq, z.symm⟩)
def toilAt (g : List (Int × Int)) (l : Int) : Int := ((g.find? fun p => p.1 == l).map (·.2)).getD 0
theorem look_G {l : Int} : ∀ g : List (Int × Int), lookD (kvG g) (.inl l) = (g.find? fun p => p.1 == l).map fun p => .int p.2
  | [] => rfl
  | p :: g => by
    show (if keyOf (.int p.1) = some (.inl l) then some (.int p.2) else lookD (kvG g) (.inl l)) = _
    by_cases e : p.1 = l
    · simp [keyOf, e]
    · have e2 : ¬ keyOf (.int p.1) = some (.inl l) := fun z => e (by simpa [keyOf] using z)
      rw [if_neg e2, look_G g, List.find?_cons_of_neg (by simpa using e)]
theorem get_G {g : List (Int × Int)} {l : Int} (h : inL g l = true) : dkGet (.dict (kvG g)) (.int l) = some (.int (toilAt g l)) := by
  show lookD (kvG g) (.inl l) = _
  rw [look_G]
  unfold toilAt
  cases e : g.find? fun p => p.1 == l with
  | some p => rfl
  | none =>
    unfold inL at h
    obtain ⟨p, hp, q⟩ := List.any_eq_true.mp h
    exact absurd q (List.find?_eq_none.mp e p hp)
theorem in_G {g : List (Int × Int)} {l : Int} : dkNotIn (.int l) (.dict (kvG g)) = some (.bool (!inL g l)) := by
  show some (PyData.bool (!(lookD (kvG g) (.inl l)).isSome)) = _
  rw [look_G]
  congr 3
  unfold inL
  cases e : g.find? fun p => p.1 == l with
  | some p => exact (List.any_eq_true.mpr ⟨p, List.mem_of_find?_eq_some e, List.find?_some (p := fun p : Int × Int => p.1 == l) e⟩).symm
  | none =>
    refine (List.any_eq_false.mpr fun p hp => ?_).symm
    exact List.find?_eq_none.mp e p hp
theorem ints_int : ∀ xs : List Int, intsOf (xs.map .int) = some xs
  | [] => rfl
  | x :: xs => by
    rw [List.map_cons]
    unfold intsOf
    rw [ints_int xs]
    rfl
theorem sum_ints (xs : List Int) : dSum [.list (xs.map .int)] = some (.int xs.sum) := by
  show (intsOf (xs.map .int)).map _ = _
  rw [ints_int]
  rfl
end Zk07
set_option maxHeartbeats 1000000
/-! calendars: items for 0, 1, 2 .., the last ones again and again with a rise -/
namespace Cal
/-- again without an end -/
def ext (a : List Int) (r : Int) (i : Nat) : Int := a.getD (i % a.length) 0 + ((i / a.length : Nat) : Int) * r
def told (e : List Int) (a : List Int) (r : Int) (n : Nat) : Int := if n < e.length then e.getD n 0 else ext a r (n - e.length)
def rests (a : List Int) (r : Int) (s : Nat) : Bool :=
  decide ((a.length : Int) % s = 0) && (decide (r * s % a.length = 0) && (a.drop s ++ (a.take s).map (· + r) == a.map (· + r * s / a.length)))
def sizeOf' (a : List Int) (r : Int) : Option Nat := (List.range a.length).map (· + 1) |>.find? (rests a r)
def pull : Nat → List Int → List Int → Int → List Int × List Int
  | 0, e, a, _ => (e, a)
  | k + 1, e, a, r => match e.getLast? with
    | none => (e, a)
    | some x => if x + r = a.getLastD 0 then pull k e.dropLast (x :: a.dropLast) r else (e, a)
section
variable {a : List Int} {r : Int}
theorem ext_add (h : 0 < a.length) (i : Nat) : ext a r (i + a.length) = ext a r i + r := by
  unfold ext
  rw [Nat.add_mod_right, Nat.add_div_right _ h]
  have : ((i / a.length).succ : Int) * r = ((i / a.length : Nat) : Int) * r + r := by
    rw [Nat.succ_eq_add_one, Int.natCast_add, Int.add_mul]
    simp
  rw [this]
  omega
theorem ext_small {i : Nat} (h : i < a.length) : ext a r i = a.getD i 0 := by
  unfold ext
  rw [Nat.mod_eq_of_lt h, Nat.div_eq_of_lt h]
  simp
theorem ext_mul (h : 0 < a.length) (i k : Nat) : ext a r (i + k * a.length) = ext a r i + k * r := by
  induction k with
  | zero => simp
  | succ k ih =>
    have : i + (k + 1) * a.length = (i + k * a.length) + a.length := by rw [Nat.add_mul]; omega
    rw [this, ext_add h, ih]
    have e : ((k + 1 : Nat) : Int) * r = (k : Int) * r + r := by
      rw [Int.natCast_add, Int.add_mul]
      simp
    rw [e]
    omega
/-- what rests says -/
theorem rests_iff {s : Nat} (hs : 0 < s) (hl : s ≤ a.length) : rests a r s = true ↔ s ∣ a.length ∧ (a.length : Int) ∣ r * s ∧ ∀ i, ext a r (i + s) = ext a r i + r * s / a.length := by
  have ha : 0 < a.length := Nat.lt_of_lt_of_le hs hl
  unfold rests
  simp only [Bool.and_eq_true, decide_eq_true_eq, beq_iff_eq]
  have d1 : ((a.length : Int) % s = 0) ↔ s ∣ a.length := by
    rw [← Int.natCast_dvd_natCast]
    exact ⟨Int.dvd_of_emod_eq_zero, Int.emod_eq_zero_of_dvd⟩
  have d2 : (r * s % a.length = 0) ↔ (a.length : Int) ∣ r * s := ⟨Int.dvd_of_emod_eq_zero, Int.emod_eq_zero_of_dvd⟩
  rw [d1, d2]
  have key : (a.drop s ++ (a.take s).map (· + r) = a.map (· + r * s / a.length)) ↔ ∀ i, i < a.length → ext a r (i + s) = ext a r i + r * s / a.length := by
    have len : (a.drop s ++ (a.take s).map (· + r)).length = a.length := by simp; omega
    have lft : ∀ i, i < a.length → (a.drop s ++ (a.take s).map (· + r))[i]? = some (ext a r (i + s)) := by
      intro i hi
      by_cases c : i + s < a.length
      · rw [List.getElem?_append_left (by simp; omega), List.getElem?_drop, ext_small c, Nat.add_comm s i]
        rw [List.getD_eq_getElem?_getD, List.getElem?_eq_getElem c]
        rfl
      · rw [List.getElem?_append_right (by simp; omega)]
        have e1 : i + s = (i + s - a.length) + a.length := by omega
        have e2 : i - (a.drop s).length = i + s - a.length := by simp; omega
        have c2 : i + s - a.length < a.length := by omega
        rw [e1, ext_add ha, ext_small c2, e2, List.getElem?_map, List.getElem?_take]
        rw [if_pos (by omega), List.getD_eq_getElem?_getD, List.getElem?_eq_getElem c2]
        rfl
    have rgt : ∀ i, i < a.length → (a.map (· + r * s / a.length))[i]? = some (ext a r i + r * s / a.length) := by
      intro i hi
      rw [List.getElem?_map, ext_small hi, List.getD_eq_getElem?_getD, List.getElem?_eq_getElem hi]
      rfl
    constructor
    · intro h i hi
      have := lft i hi
      rw [h, rgt i hi] at this
      exact (Option.some.inj this).symm
    · intro h
      apply List.ext_getElem?
      intro i
      by_cases hi : i < a.length
      · rw [lft i hi, rgt i hi, h i hi]
      · rw [List.getElem?_eq_none (by rw [len]; omega), List.getElem?_eq_none (by simp; omega)]
  rw [key]
  constructor
  · rintro ⟨h1, h2, h3⟩
    refine ⟨h1, h2, fun i => ?_⟩
    have e : i = i % a.length + i / a.length * a.length := by rw [Nat.mul_comm]; exact (Nat.mod_add_div i a.length).symm
    have m := Nat.mod_lt i ha
    have := h3 _ m
    rw [e]
    have e2 : i % a.length + i / a.length * a.length + s = (i % a.length + s) + i / a.length * a.length := by omega
    rw [e2, ext_mul ha, ext_mul ha, this]
    omega
  · rintro ⟨h1, h2, h3⟩
    exact ⟨h1, h2, fun i _ => h3 i⟩
theorem rests_all (h : 0 < a.length) : rests a r a.length = true := by
  rw [rests_iff h (Nat.le_refl _)]
  refine ⟨Nat.dvd_refl _, Int.dvd_mul_left .., fun i => ?_⟩
  rw [ext_add h, Int.mul_ediv_cancel _ (by omega)]
/-- the size that is found is the least -/
theorem size_spec (h : 0 < a.length) : ∃ s, sizeOf' a r = some s ∧ 0 < s ∧ s ≤ a.length ∧ rests a r s = true ∧ ∀ t, 0 < t → t < s → rests a r t = false := by
  unfold sizeOf'
  cases e : ((List.range a.length).map (· + 1)).find? (rests a r) with
  | none =>
    have := List.find?_eq_none.mp e a.length (List.mem_map.mpr ⟨a.length - 1, List.mem_range.mpr (by omega), by omega⟩)
    exact absurd (rests_all h) this
  | some s =>
    obtain ⟨as, bs, e1, h1⟩ := List.find?_eq_some_iff_append.mp e |>.2
    have hs := (List.find?_eq_some_iff_append.mp e).1
    have m : s ∈ (List.range a.length).map (· + 1) := List.mem_of_find?_eq_some e
    obtain ⟨k, hk, rfl⟩ := List.mem_map.mp m
    have hk := List.mem_range.mp hk
    refine ⟨k + 1, rfl, by omega, by omega, hs, fun t t0 tl => ?_⟩
    have pw : ((List.range a.length).map (· + 1)).Pairwise (· < ·) := by
      rw [List.pairwise_map]
      exact List.pairwise_lt_range.imp fun h => by omega
    rw [e1] at pw
    have mt : t ∈ as ++ (k + 1) :: bs := by rw [← e1]; exact List.mem_map.mpr ⟨t - 1, List.mem_range.mpr (by omega), by omega⟩
    rcases List.mem_append.mp mt with q | q
    · simpa using h1 t q
    · rcases List.mem_cons.mp q with q | q
      · omega
      · have := (List.pairwise_append.mp pw).2.1
        have := (List.pairwise_cons.mp this).1 t q
        omega
/-- cut to a size that rests -/
theorem cut_ext {s : Nat} (hs : 0 < s) (hl : s ≤ a.length) (h : rests a r s = true) : ∀ i, ext (a.take s) (r * s / a.length) i = ext a r i := by
  obtain ⟨_, _, h3⟩ := (rests_iff hs hl).mp h
  have ls : (a.take s).length = s := by simp; omega
  intro i
  induction i using Nat.strongRecOn with
  | ind i ih =>
    by_cases c : i < s
    · rw [ext_small (by rw [ls]; exact c), ext_small (by omega), List.getD_eq_getElem?_getD, List.getD_eq_getElem?_getD, List.getElem?_take, if_pos c]
    · have e : i = (i - s) + s := by omega
      have e1 := ext_add (a := a.take s) (r := r * s / a.length) (by omega) (i - s)
      rw [ls, ← e, ih (i - s) (by omega)] at e1
      rw [e1, ← h3, ← e]
theorem cut_least {s t : Nat} (hs : 0 < s) (hl : s ≤ a.length) (h : rests a r s = true) (ht : 0 < t) (hts : t < s) (no : rests a r t = false) : rests (a.take s) (r * s / a.length) t = false := by
  cases q : rests (a.take s) (r * s / a.length) t with
  | false => rfl
  | true =>
    have ls : (a.take s).length = s := by simp; omega
    obtain ⟨h1, h2, h3⟩ := (rests_iff hs hl).mp h
    obtain ⟨q1, q2, q3⟩ := (rests_iff ht (by omega)).mp q
    rw [ls] at q1 q2 q3
    have : rests a r t = true := by
      rw [rests_iff ht (by omega)]
      obtain ⟨m, hm⟩ := h1
      obtain ⟨k, hk⟩ := h2
      have m0 : (0 : Int) < m := by
        rcases Nat.eq_zero_or_pos m with z | z
        · rw [z] at hm; omega
        · omega
      have s0 : (0 : Int) < s := by omega
      have la : (a.length : Int) = s * m := by rw [hm, Int.natCast_mul]
      have l0 : (a.length : Int) ≠ 0 := by omega
      have ek : r * s / a.length = k := by rw [hk, Int.mul_ediv_cancel_left _ l0]
      rw [ek] at q2 q3
      -- r = k * m
      have er : r = k * m := by
        have : r * s = (k * m) * s := by rw [hk, la]; simp only [Int.mul_assoc, Int.mul_comm, Int.mul_left_comm]
        exact Int.eq_of_mul_eq_mul_right (by omega) this
      obtain ⟨j, hj⟩ := q2
      have e2 : r * t = a.length * j := by
        rw [er, la]
        have : k * m * t = (k * t) * m := by simp only [Int.mul_assoc, Int.mul_comm, Int.mul_left_comm]
        rw [this, hj]
        simp only [Int.mul_assoc, Int.mul_comm, Int.mul_left_comm]
      refine ⟨Nat.dvd_trans q1 ⟨m, hm⟩, ⟨j, e2⟩, fun i => ?_⟩
      have := q3 i
      rw [← ek, cut_ext hs hl h, cut_ext hs hl h, ek] at this
      rw [this, e2, Int.mul_ediv_cancel_left _ l0, hj, Int.mul_ediv_cancel_left _ (by omega)]
    rw [this] at no
    cases no
/-- one item pulled -/
theorem pull_ext (h : 0 < a.length) {x : Int} (hx : x + r = a.getLastD 0) : (x :: a.dropLast).length = a.length ∧ ext (x :: a.dropLast) r 0 = x ∧ ∀ i, ext (x :: a.dropLast) r (i + 1) = ext a r i := by
  have len : (x :: a.dropLast).length = a.length := by simp; omega
  refine ⟨len, ?_, fun i => ?_⟩
  · rw [ext_small (by omega)]
    rfl
  · induction i using Nat.strongRecOn with
    | ind i ih =>
      by_cases c : i + 1 < a.length
      · rw [ext_small (by omega), ext_small (by omega), List.getD_cons_succ, List.getD_eq_getElem?_getD, List.getD_eq_getElem?_getD, List.getElem?_dropLast]
        rw [if_pos (by omega)]
      · by_cases c2 : i + 1 = a.length
        · have e := ext_add (a := x :: a.dropLast) (r := r) (by omega) 0
          rw [len, Nat.zero_add, ← c2] at e
          rw [e, ext_small (by omega), ext_small (by omega), List.getD_cons_zero, hx]
          have hn : a ≠ [] := by intro z; rw [z] at h; simp at h
          rw [List.getLastD_eq_getLast?, List.getLast?_eq_getElem?, List.getD_eq_getElem?_getD]
          have : a.length - 1 = i := by omega
          rw [this]
        · have e : i = (i - a.length) + a.length := by omega
          have e1 := ext_add (a := x :: a.dropLast) (r := r) (by omega) (i - a.length + 1)
          have e2 := ext_add (a := a) (r := r) h (i - a.length)
          rw [len, ih (i - a.length) (by omega)] at e1
          rw [← e] at e2
          have e3 : i - a.length + 1 + a.length = i + 1 := by omega
          rw [e3] at e1
          rw [e1, e2]
theorem pull_least (h : 0 < a.length) {x : Int} (hx : x + r = a.getLastD 0) {t : Nat} (ht : 0 < t) (htl : t < a.length) (no : rests a r t = false) : rests (x :: a.dropLast) r t = false := by
  cases q : rests (x :: a.dropLast) r t with
  | false => rfl
  | true =>
    obtain ⟨len, _, e⟩ := pull_ext (r := r) h hx
    obtain ⟨q1, q2, q3⟩ := (rests_iff ht (by omega)).mp q
    rw [len] at q1 q2 q3
    have : rests a r t = true := (rests_iff ht (by omega)).mpr ⟨q1, q2, fun i => by
      have := q3 (i + 1)
      rw [show i + 1 + t = (i + t) + 1 by omega, e, e] at this
      exact this⟩
    rw [this] at no
    cases no
theorem pull_spec : ∀ (k : Nat) (e a : List Int), e.length ≤ k → 0 < a.length → (∀ t, 0 < t → t < a.length → rests a r t = false) →
    0 < (pull k e a r).2.length ∧ (pull k e a r).2.length = a.length ∧ (∀ t, 0 < t → t < (pull k e a r).2.length → rests (pull k e a r).2 r t = false) ∧ ((pull k e a r).1 = [] ∨ (pull k e a r).1.getLastD 0 + r ≠ (pull k e a r).2.getLastD 0) ∧
    (∀ n, told (pull k e a r).1 (pull k e a r).2 r n = told e a r n) ∧ (pull k e a r).1.length ≤ e.length ∧ ∀ x ∈ (pull k e a r).1, x ∈ e
  | 0, e, a, hk, ha, hl => by
    have : e = [] := List.length_eq_zero_iff.mp (by omega)
    subst this
    exact ⟨ha, rfl, hl, .inl rfl, fun _ => rfl, Nat.le_refl _, fun _ h => h⟩
  | k + 1, e, a, hk, ha, hl => by
    unfold pull
    cases q : e.getLast? with
    | none =>
      have := List.getLast?_eq_none_iff.mp q
      subst this
      exact ⟨ha, rfl, hl, .inl rfl, fun _ => rfl, Nat.le_refl _, fun _ h => h⟩
    | some x =>
      simp only
      by_cases c : x + r = a.getLastD 0
      · rw [if_pos c]
        obtain ⟨len, e0, e1⟩ := pull_ext (r := r) ha c
        have ne : e ≠ [] := by intro z; rw [z] at q; cases q
        have el : 0 < e.length := List.length_pos_iff.mpr ne
        obtain ⟨p1, p2, p3, p4, p5, p6, p7⟩ := pull_spec k e.dropLast (x :: a.dropLast) (by simp; omega) (by omega) fun t t0 tl => pull_least ha c t0 (by omega) (hl t t0 (by omega))
        refine ⟨p1, by omega, p3, p4, fun n => ?_, by simp at p6; omega, fun y hy => (List.dropLast_sublist _).subset (p7 y hy)⟩
        rw [p5 n]
        unfold told
        have dl : e.dropLast.length = e.length - 1 := by simp
        rw [dl]
        by_cases n1 : n < e.length - 1
        · rw [if_pos n1, if_pos (by omega), List.getD_eq_getElem?_getD, List.getD_eq_getElem?_getD, List.getElem?_dropLast, if_pos n1]
        · rw [if_neg n1]
          by_cases n2 : n = e.length - 1
          · rw [if_pos (by omega), n2, Nat.sub_self, e0, List.getD_eq_getElem?_getD, ← List.getLast?_eq_getElem?, q]
            rfl
          · rw [if_neg (by omega), show n - (e.length - 1) = (n - e.length) + 1 by omega, e1]
      · rw [if_neg c]
        refine ⟨ha, rfl, hl, .inr ?_, fun _ => rfl, Nat.le_refl _, fun _ h => h⟩
        rw [List.getLastD_eq_getLast?, q]
        exact c
/-- the shortest calendar -/
def plain (e a : List Int) (r : Int) : List Int × List Int × Int := match sizeOf' a r with
  | none => (e, a, r)
  | some s => let p := pull e.length e (a.take s) (r * s / a.length); (p.1, p.2, r * s / a.length)
structure Least (e a : List Int) (r : Int) : Prop where
  pos : 0 < a.length
  no : ∀ t, 0 < t → t < a.length → rests a r t = false
  last : e = [] ∨ e.getLastD 0 + r ≠ a.getLastD 0
theorem plain_spec {e a : List Int} {r : Int} (h : 0 < a.length) : Least (plain e a r).1 (plain e a r).2.1 (plain e a r).2.2 ∧ (∀ n, told (plain e a r).1 (plain e a r).2.1 (plain e a r).2.2 n = told e a r n) ∧ (plain e a r).1.length ≤ e.length ∧ (plain e a r).2.1.length ≤ a.length := by
  obtain ⟨s, es, s0, sl, sr, sm⟩ := size_spec (r := r) h
  have ls : (a.take s).length = s := by simp; omega
  unfold plain
  rw [es]
  simp only
  obtain ⟨p1, p2, p3, p4, p5, p6, p7⟩ := pull_spec (r := r * s / a.length) e.length e (a.take s) (Nat.le_refl _) (by omega) fun t t0 tl => cut_least s0 sl sr t0 (by omega) (sm t t0 (by omega))
  refine ⟨⟨p1, p3, p4⟩, fun n => ?_, p6, by omega⟩
  rw [p5 n]
  unfold told
  split
  · rfl
  · exact cut_ext s0 sl sr _
end
end Cal
set_option maxHeartbeats 1000000
namespace Zk07
open PySem PySem.Spec PyProof.Rows L2 Sk LamX
/-! calendars as data -/
abbrev CalT := Option (List Int × Int)
def encC (e : List Int) : CalT → D
  | none => .tuple [.tuple (e.map .int), .tuple [.none], .int 0]
  | some (a, r) => .tuple [.tuple (e.map .int), .tuple (a.map .int), .int r]
def toldC (e : List Int) : CalT → Nat → Option Int
  | none, n => if n < e.length then some (e.getD n 0) else none
  | some (a, r), n => some (Cal.told e a r n)
structure OkC (e : List Int) (c : CalT) : Prop where
  le : e.length ≤ 10000000
  la : ∀ a r, c = some (a, r) → 0 < a.length ∧ a.length ≤ 10000000 ∧ -1000000000 < r ∧ r < 1000000000
theorem r_rests (a : List Int) (r : Int) (s : Nat) (hs : 0 < s) (hl : s ≤ a.length) (hc : a.length ≤ 10000000) : m_rests [.dat (.tuple (a.map .int)), .dat (.int r), .dat (.int (s : Int))] = .ok (.bool (Cal.rests a r s)) [.dat (.tuple (a.map .int)), .dat (.int r), .dat (.int (s : Int))] := by
  have e1 := dMod_i (i := (a.length : Int)) (j := (s : Int)) (by omega)
  have e2 := dMul_r (i := r) (j := (s : Int)) (by omega)
  have e3 := dMod_i (i := r * s) (j := (a.length : Int)) (by omega)
  have e4 := dDiv_i (i := r * s) (j := (a.length : Int)) (by omega) (by omega)
  have k1 : cutD (a.map PyData.int) (some (s : Int)) none = (a.drop s).map .int := by rw [cut_from rfl, List.map_drop]
  have k2 : cutD (a.map PyData.int) none (some (s : Int)) = (a.take s).map .int := by rw [cut_to rfl, List.map_take]
  unfold Cal.rests
  by_cases c1 : (a.length : Int) % s = 0
  · by_cases c2 : r * s % a.length = 0
    · have l1 := lc_ints (i := 5) (fe := C1_rests) (g := (· + r)) (xs := a.take s) (st := [.dat (.tuple (a.map .int)), .dat (.int r), .dat (.int (s : Int)), .dat (.int (r * s / a.length)), .un, .un]) (by simp) (by rw [List.length_take]; unfold cap; omega) (fun x _ => by simp [C1_rests, -List.map_map, -List.map_drop, -List.map_take, -List.map_append, -List.map_dropLast, th_ok, th_ex, th_ite, e_bind, e_ret, e_opt, ts_ok, ts_ex, ts_ite, e_bindS, sq_nx, sq_rt, sq_ex, sq_bk, sq_ct, sq_ite, e_seqS, fin_nx, fin_rt, fin_ex, fin_ite, e_fnOf, wb_ok, wb_ex, wb_ite, vA1_b, e_vAnd, vO1_b, e_vOr, vN1_b, e_vNot, ch1_b, e_chM, e_toB, e_mAnd, e_mOr, e_mNot, e_mIte, e_iteS, lp_nx, lp_ct, lp_bk, lp_rt, lp_ex, lp_ite, forL_nil, forL_nm, e_forS, okArgs, isOwn, outs, nam, frz, look, lookAll, ap1, ap2, apA, un1, bin2, opA, isiM, retS, drpS, setS, setN, putS, put, unpS, asg, mCons, mNil, e_mTup, mt1_ok, e_mLst, ml1_ok, callM, argsOf, argOf, ownIx, Sk.wb, List.getElem?_cons_zero, List.getElem?_cons_succ, List.getElem?_nil, List.set_cons_zero, List.set_cons_succ, List.replicate_succ, List.replicate_zero, List.cons_append, List.nil_append, List.foldl_cons, List.foldl_nil, List.getD_cons_zero, List.getD_cons_succ, List.all_cons, List.all_nil, isiD, tyN, dLt, dLe, dGt, dGe, dAdd_i, dEq_i, dNe_i, dSub, iOp, dLen_t, dLen_l, e_seqM, sq1_l, sq1_t, e_partM, pa1_i, sliM, isN_none, notN_none, isN_int, notN_int, isN_bool, notN_bool, isN_str, notN_str, isN_list, notN_list, isN_tup, notN_tup, isN_dict, notN_dict, raiseS, mDat, mNew, e_callAt, cal_some, wbl_ok, wbl_ex, wbl_ite, e_lcM, e_rng1, e_rng2, e_enuM, en1_l, en1_t, e_zipM, zi1_l, dMnN_i, dMx_l, dMx_t, asg_nm, asg_tp, put, e_appM, isOwnL_l, e_apd, apo_l, notN_OI, isN_OI, dNe_n0, dTup_l, dTup_t, dNeg_i, dCutT_t, dCutL_l, dNe_t0, dEq_t0, dEq_l0])
      have l2 := lc_ints (i := 5) (fe := C2_rests) (g := (· + r * s / a.length)) (xs := a) (st := [.dat (.tuple (a.map .int)), .dat (.int r), .dat (.int (s : Int)), .dat (.int (r * s / a.length)), .dat (.tuple ((a.drop s ++ (a.take s).map (· + r)).map .int)), .un]) (by simp) (by unfold cap; omega) (fun x _ => by simp [C2_rests, -List.map_map, -List.map_drop, -List.map_take, -List.map_append, -List.map_dropLast, th_ok, th_ex, th_ite, e_bind, e_ret, e_opt, ts_ok, ts_ex, ts_ite, e_bindS, sq_nx, sq_rt, sq_ex, sq_bk, sq_ct, sq_ite, e_seqS, fin_nx, fin_rt, fin_ex, fin_ite, e_fnOf, wb_ok, wb_ex, wb_ite, vA1_b, e_vAnd, vO1_b, e_vOr, vN1_b, e_vNot, ch1_b, e_chM, e_toB, e_mAnd, e_mOr, e_mNot, e_mIte, e_iteS, lp_nx, lp_ct, lp_bk, lp_rt, lp_ex, lp_ite, forL_nil, forL_nm, e_forS, okArgs, isOwn, outs, nam, frz, look, lookAll, ap1, ap2, apA, un1, bin2, opA, isiM, retS, drpS, setS, setN, putS, put, unpS, asg, mCons, mNil, e_mTup, mt1_ok, e_mLst, ml1_ok, callM, argsOf, argOf, ownIx, Sk.wb, List.getElem?_cons_zero, List.getElem?_cons_succ, List.getElem?_nil, List.set_cons_zero, List.set_cons_succ, List.replicate_succ, List.replicate_zero, List.cons_append, List.nil_append, List.foldl_cons, List.foldl_nil, List.getD_cons_zero, List.getD_cons_succ, List.all_cons, List.all_nil, isiD, tyN, dLt, dLe, dGt, dGe, dAdd_i, dEq_i, dNe_i, dSub, iOp, dLen_t, dLen_l, e_seqM, sq1_l, sq1_t, e_partM, pa1_i, sliM, isN_none, notN_none, isN_int, notN_int, isN_bool, notN_bool, isN_str, notN_str, isN_list, notN_list, isN_tup, notN_tup, isN_dict, notN_dict, raiseS, mDat, mNew, e_callAt, cal_some, wbl_ok, wbl_ex, wbl_ite, e_lcM, e_rng1, e_rng2, e_enuM, en1_l, en1_t, e_zipM, zi1_l, dMnN_i, dMx_l, dMx_t, asg_nm, asg_tp, put, e_appM, isOwnL_l, e_apd, apo_l, notN_OI, isN_OI, dNe_n0, dTup_l, dTup_t, dNeg_i, dCutT_t, dCutL_l, dNe_t0, dEq_t0, dEq_l0])
      have ad : dAdd (.tuple ((a.drop s).map .int)) (.tuple (((a.take s).map (· + r)).map .int)) = some (.tuple ((a.drop s ++ (a.take s).map (· + r)).map .int)) := by
        rw [dAdd_tt (by simp; unfold cap; omega), ← List.map_append]
      have ee := dEq_T (a.drop s ++ (a.take s).map (· + r)) (a.map (· + r * s / a.length))
      simp [m_rests, b_rests, -List.map_map, -List.map_drop, -List.map_take, -List.map_append, -List.map_dropLast, th_ok, th_ex, th_ite, e_bind, e_ret, e_opt, ts_ok, ts_ex, ts_ite, e_bindS, sq_nx, sq_rt, sq_ex, sq_bk, sq_ct, sq_ite, e_seqS, fin_nx, fin_rt, fin_ex, fin_ite, e_fnOf, wb_ok, wb_ex, wb_ite, vA1_b, e_vAnd, vO1_b, e_vOr, vN1_b, e_vNot, ch1_b, e_chM, e_toB, e_mAnd, e_mOr, e_mNot, e_mIte, e_iteS, lp_nx, lp_ct, lp_bk, lp_rt, lp_ex, lp_ite, forL_nil, forL_nm, e_forS, okArgs, isOwn, outs, nam, frz, look, lookAll, ap1, ap2, apA, un1, bin2, opA, isiM, retS, drpS, setS, setN, putS, put, unpS, asg, mCons, mNil, e_mTup, mt1_ok, e_mLst, ml1_ok, callM, argsOf, argOf, ownIx, Sk.wb, List.getElem?_cons_zero, List.getElem?_cons_succ, List.getElem?_nil, List.set_cons_zero, List.set_cons_succ, List.replicate_succ, List.replicate_zero, List.cons_append, List.nil_append, List.foldl_cons, List.foldl_nil, List.getD_cons_zero, List.getD_cons_succ, List.all_cons, List.all_nil, isiD, tyN, dLt, dLe, dGt, dGe, dAdd_i, dEq_i, dNe_i, dSub, iOp, dLen_t, dLen_l, e_seqM, sq1_l, sq1_t, e_partM, pa1_i, sliM, isN_none, notN_none, isN_int, notN_int, isN_bool, notN_bool, isN_str, notN_str, isN_list, notN_list, isN_tup, notN_tup, isN_dict, notN_dict, raiseS, mDat, mNew, e_callAt, cal_some, wbl_ok, wbl_ex, wbl_ite, e_lcM, e_rng1, e_rng2, e_enuM, en1_l, en1_t, e_zipM, zi1_l, dMnN_i, dMx_l, dMx_t, asg_nm, asg_tp, put, e_appM, isOwnL_l, e_apd, apo_l, notN_OI, isN_OI, dNe_n0, dTup_l, dTup_t, dNeg_i, dCutT_t, dCutL_l, dNe_t0, dEq_t0, dEq_l0, e1, e2, e3, e4, c1, c2, k1, k2, l1, ad, l2, ee]
    · simp [m_rests, b_rests, -List.map_map, -List.map_drop, -List.map_take, -List.map_append, -List.map_dropLast, th_ok, th_ex, th_ite, e_bind, e_ret, e_opt, ts_ok, ts_ex, ts_ite, e_bindS, sq_nx, sq_rt, sq_ex, sq_bk, sq_ct, sq_ite, e_seqS, fin_nx, fin_rt, fin_ex, fin_ite, e_fnOf, wb_ok, wb_ex, wb_ite, vA1_b, e_vAnd, vO1_b, e_vOr, vN1_b, e_vNot, ch1_b, e_chM, e_toB, e_mAnd, e_mOr, e_mNot, e_mIte, e_iteS, lp_nx, lp_ct, lp_bk, lp_rt, lp_ex, lp_ite, forL_nil, forL_nm, e_forS, okArgs, isOwn, outs, nam, frz, look, lookAll, ap1, ap2, apA, un1, bin2, opA, isiM, retS, drpS, setS, setN, putS, put, unpS, asg, mCons, mNil, e_mTup, mt1_ok, e_mLst, ml1_ok, callM, argsOf, argOf, ownIx, Sk.wb, List.getElem?_cons_zero, List.getElem?_cons_succ, List.getElem?_nil, List.set_cons_zero, List.set_cons_succ, List.replicate_succ, List.replicate_zero, List.cons_append, List.nil_append, List.foldl_cons, List.foldl_nil, List.getD_cons_zero, List.getD_cons_succ, List.all_cons, List.all_nil, isiD, tyN, dLt, dLe, dGt, dGe, dAdd_i, dEq_i, dNe_i, dSub, iOp, dLen_t, dLen_l, e_seqM, sq1_l, sq1_t, e_partM, pa1_i, sliM, isN_none, notN_none, isN_int, notN_int, isN_bool, notN_bool, isN_str, notN_str, isN_list, notN_list, isN_tup, notN_tup, isN_dict, notN_dict, raiseS, mDat, mNew, e_callAt, cal_some, wbl_ok, wbl_ex, wbl_ite, e_lcM, e_rng1, e_rng2, e_enuM, en1_l, en1_t, e_zipM, zi1_l, dMnN_i, dMx_l, dMx_t, asg_nm, asg_tp, put, e_appM, isOwnL_l, e_apd, apo_l, notN_OI, isN_OI, dNe_n0, dTup_l, dTup_t, dNeg_i, dCutT_t, dCutL_l, dNe_t0, dEq_t0, dEq_l0, e1, e2, e3, c1, c2]
  · simp [m_rests, b_rests, -List.map_map, -List.map_drop, -List.map_take, -List.map_append, -List.map_dropLast, th_ok, th_ex, th_ite, e_bind, e_ret, e_opt, ts_ok, ts_ex, ts_ite, e_bindS, sq_nx, sq_rt, sq_ex, sq_bk, sq_ct, sq_ite, e_seqS, fin_nx, fin_rt, fin_ex, fin_ite, e_fnOf, wb_ok, wb_ex, wb_ite, vA1_b, e_vAnd, vO1_b, e_vOr, vN1_b, e_vNot, ch1_b, e_chM, e_toB, e_mAnd, e_mOr, e_mNot, e_mIte, e_iteS, lp_nx, lp_ct, lp_bk, lp_rt, lp_ex, lp_ite, forL_nil, forL_nm, e_forS, okArgs, isOwn, outs, nam, frz, look, lookAll, ap1, ap2, apA, un1, bin2, opA, isiM, retS, drpS, setS, setN, putS, put, unpS, asg, mCons, mNil, e_mTup, mt1_ok, e_mLst, ml1_ok, callM, argsOf, argOf, ownIx, Sk.wb, List.getElem?_cons_zero, List.getElem?_cons_succ, List.getElem?_nil, List.set_cons_zero, List.set_cons_succ, List.replicate_succ, List.replicate_zero, List.cons_append, List.nil_append, List.foldl_cons, List.foldl_nil, List.getD_cons_zero, List.getD_cons_succ, List.all_cons, List.all_nil, isiD, tyN, dLt, dLe, dGt, dGe, dAdd_i, dEq_i, dNe_i, dSub, iOp, dLen_t, dLen_l, e_seqM, sq1_l, sq1_t, e_partM, pa1_i, sliM, isN_none, notN_none, isN_int, notN_int, isN_bool, notN_bool, isN_str, notN_str, isN_list, notN_list, isN_tup, notN_tup, isN_dict, notN_dict, raiseS, mDat, mNew, e_callAt, cal_some, wbl_ok, wbl_ex, wbl_ite, e_lcM, e_rng1, e_rng2, e_enuM, en1_l, en1_t, e_zipM, zi1_l, dMnN_i, dMx_l, dMx_t, asg_nm, asg_tp, put, e_appM, isOwnL_l, e_apd, apo_l, notN_OI, isN_OI, dNe_n0, dTup_l, dTup_t, dNeg_i, dCutT_t, dCutL_l, dNe_t0, dEq_t0, dEq_l0, e1, c1]
theorem head_ix {xs : List Int} {s : Int} (h : xs.head? = some s) : dIx (.list (xs.map .int)) (.int 0) = some (.int s) := by
  cases xs with
  | nil => cases h
  | cons x xs => cases h; exact dIx_atL (xs := s :: xs) (i := 0) (k := 0) rfl (by simp)
theorem size_head (a : List Int) (r : Int) : (((List.range a.length).map fun k : Nat => (1 + (k : Int))).filter fun z => Cal.rests a r z.toNat).head? = (Cal.sizeOf' a r).map fun s : Nat => (s : Int) := by
  unfold Cal.sizeOf'
  rw [List.head?_filter, List.find?_map, List.find?_map]
  have e1 : ((fun z : Int => Cal.rests a r z.toNat) ∘ fun k : Nat => 1 + (k : Int)) = (Cal.rests a r ∘ fun x : Nat => x + 1) := by
    funext k
    simp only [Function.comp]
    congr 1
    omega
  rw [e1]
  cases (List.range a.length).find? (Cal.rests a r ∘ fun x : Nat => x + 1) with
  | none => rfl
  | some k =>
    simp only [Option.map_some]
    congr 1
    omega
theorem pull_step (e a : List Int) (r : Int) : Cal.pull e.length e a r = if e = [] then (e, a) else if e.getLastD 0 + r = a.getLastD 0 then Cal.pull e.dropLast.length e.dropLast (e.getLastD 0 :: a.dropLast) r else (e, a) := by
  cases q : e.getLast? with
  | none =>
    have := List.getLast?_eq_none_iff.mp q
    subst this
    rfl
  | some x =>
    have ne : e ≠ [] := by intro z; rw [z] at q; cases q
    have el : 0 < e.length := List.length_pos_iff.mpr ne
    have ex : e.getLastD 0 = x := by rw [List.getLastD_eq_getLast?, q]; rfl
    rw [if_neg ne, ex]
    have dl : e.dropLast.length = e.length - 1 := by simp
    obtain ⟨k, hk⟩ : ∃ k, e.length = k + 1 := ⟨e.length - 1, by omega⟩
    rw [dl, hk]
    show (match e.getLast? with | none => (e, a) | some x => if x + r = a.getLastD 0 then Cal.pull k e.dropLast (x :: a.dropLast) r else (e, a)) = _
    rw [q]
    rfl
theorem r_plain (e a : List Int) (r : Int) (ha : 0 < a.length) (hl : a.length ≤ 10000000) (he : e.length ≤ 10000000) : m_plain [.dat (.tuple (e.map .int)), .dat (.tuple (a.map .int)), .dat (.int r)] = .ok (encC (Cal.plain e a r).1 (some ((Cal.plain e a r).2.1, (Cal.plain e a r).2.2))) [.dat (.tuple (e.map .int)), .dat (.tuple (a.map .int)), .dat (.int r)] := by
  have ane : a ≠ [] := List.length_pos_iff.mp ha
  have n0 := dNe_N a
  obtain ⟨s, es, s0, sl, sr, _⟩ := Cal.size_spec (r := r) ha
  have sm : Sml 1 ((a.length : Int) + 1) := sml (by omega)
  have rg : rngL 1 ((a.length : Int) + 1 - 1).toNat = ((List.range a.length).map fun k : Nat => (1 + (k : Int))).map .int := by
    have : ((a.length : Int) + 1 - 1).toNat = a.length := by omega
    rw [this]
    unfold rngL
    rw [List.map_map]
    rfl
  have lc := lc_intsF (i := 3) (p := F1_plain) (fe := C1_plain) (q := fun z => Cal.rests a r z.toNat) (g := fun z => z) (xs := (List.range a.length).map fun k : Nat => (1 + (k : Int))) (st := [.dat (.tuple (e.map .int)), .dat (.tuple (a.map .int)), .dat (.int r), .un]) (by simp) (by simp; unfold cap; omega) (fun x hx => by
    obtain ⟨k, hk, rfl⟩ := List.mem_map.mp hx
    have hk := List.mem_range.mp hk
    have e1 : (1 + (k : Int)).toNat = k + 1 := by omega
    have e2 : (1 + (k : Int)) = ((k + 1 : Nat) : Int) := by omega
    have rr := r_rests a r (k + 1) (by omega) (by omega) hl
    rw [← e2] at rr
    rw [e1]
    simp [F1_plain, -List.map_map, -List.map_drop, -List.map_take, -List.map_append, -List.map_dropLast, th_ok, th_ex, th_ite, e_bind, e_ret, e_opt, ts_ok, ts_ex, ts_ite, e_bindS, sq_nx, sq_rt, sq_ex, sq_bk, sq_ct, sq_ite, e_seqS, fin_nx, fin_rt, fin_ex, fin_ite, e_fnOf, wb_ok, wb_ex, wb_ite, vA1_b, e_vAnd, vO1_b, e_vOr, vN1_b, e_vNot, ch1_b, e_chM, e_toB, e_mAnd, e_mOr, e_mNot, e_mIte, e_iteS, lp_nx, lp_ct, lp_bk, lp_rt, lp_ex, lp_ite, forL_nil, forL_nm, e_forS, okArgs, isOwn, outs, nam, frz, look, lookAll, ap1, ap2, apA, un1, bin2, opA, isiM, retS, drpS, setS, setN, putS, put, unpS, asg, mCons, mNil, e_mTup, mt1_ok, e_mLst, ml1_ok, callM, argsOf, argOf, ownIx, Sk.wb, List.getElem?_cons_zero, List.getElem?_cons_succ, List.getElem?_nil, List.set_cons_zero, List.set_cons_succ, List.replicate_succ, List.replicate_zero, List.cons_append, List.nil_append, List.foldl_cons, List.foldl_nil, List.getD_cons_zero, List.getD_cons_succ, List.all_cons, List.all_nil, isiD, tyN, dLt, dLe, dGt, dGe, dAdd_i, dEq_i, dNe_i, dSub, iOp, dLen_t, dLen_l, e_seqM, sq1_l, sq1_t, e_partM, pa1_i, sliM, isN_none, notN_none, isN_int, notN_int, isN_bool, notN_bool, isN_str, notN_str, isN_list, notN_list, isN_tup, notN_tup, isN_dict, notN_dict, raiseS, mDat, mNew, e_callAt, cal_some, wbl_ok, wbl_ex, wbl_ite, e_lcM, e_rng1, e_rng2, e_enuM, en1_l, en1_t, e_zipM, zi1_l, dMnN_i, dMx_l, dMx_t, asg_nm, asg_tp, put, e_appM, isOwnL_l, e_apd, apo_l, notN_OI, isN_OI, dNe_n0, dTup_l, dTup_t, dNeg_i, dCutT_t, dCutL_l, dNe_t0, dEq_t0, dEq_l0, rr]) (fun x hx _ => by simp [C1_plain, -List.map_map, -List.map_drop, -List.map_take, -List.map_append, -List.map_dropLast, th_ok, th_ex, th_ite, e_bind, e_ret, e_opt, ts_ok, ts_ex, ts_ite, e_bindS, sq_nx, sq_rt, sq_ex, sq_bk, sq_ct, sq_ite, e_seqS, fin_nx, fin_rt, fin_ex, fin_ite, e_fnOf, wb_ok, wb_ex, wb_ite, vA1_b, e_vAnd, vO1_b, e_vOr, vN1_b, e_vNot, ch1_b, e_chM, e_toB, e_mAnd, e_mOr, e_mNot, e_mIte, e_iteS, lp_nx, lp_ct, lp_bk, lp_rt, lp_ex, lp_ite, forL_nil, forL_nm, e_forS, okArgs, isOwn, outs, nam, frz, look, lookAll, ap1, ap2, apA, un1, bin2, opA, isiM, retS, drpS, setS, setN, putS, put, unpS, asg, mCons, mNil, e_mTup, mt1_ok, e_mLst, ml1_ok, callM, argsOf, argOf, ownIx, Sk.wb, List.getElem?_cons_zero, List.getElem?_cons_succ, List.getElem?_nil, List.set_cons_zero, List.set_cons_succ, List.replicate_succ, List.replicate_zero, List.cons_append, List.nil_append, List.foldl_cons, List.foldl_nil, List.getD_cons_zero, List.getD_cons_succ, List.all_cons, List.all_nil, isiD, tyN, dLt, dLe, dGt, dGe, dAdd_i, dEq_i, dNe_i, dSub, iOp, dLen_t, dLen_l, e_seqM, sq1_l, sq1_t, e_partM, pa1_i, sliM, isN_none, notN_none, isN_int, notN_int, isN_bool, notN_bool, isN_str, notN_str, isN_list, notN_list, isN_tup, notN_tup, isN_dict, notN_dict, raiseS, mDat, mNew, e_callAt, cal_some, wbl_ok, wbl_ex, wbl_ite, e_lcM, e_rng1, e_rng2, e_enuM, en1_l, en1_t, e_zipM, zi1_l, dMnN_i, dMx_l, dMx_t, asg_nm, asg_tp, put, e_appM, isOwnL_l, e_apd, apo_l, notN_OI, isN_OI, dNe_n0, dTup_l, dTup_t, dNeg_i, dCutT_t, dCutL_l, dNe_t0, dEq_t0, dEq_l0])
  have hd := size_head a r
  rw [es] at hd
  have ix := head_ix hd
  have e2 := dMul_r (i := r) (j := (s : Int)) (by omega)
  have e4 := dDiv_i (i := r * s) (j := (a.length : Int)) (by omega) (by omega)
  have k2 : cutD (a.map PyData.int) none (some (s : Int)) = (a.take s).map .int := by rw [cut_to rfl, List.map_take]
  generalize hr' : r * s / a.length = r' at e4
  have P : Cal.plain e a r = ((Cal.pull e.length e (a.take s) r').1, (Cal.pull e.length e (a.take s) r').2, r') := by
    unfold Cal.plain
    rw [es]
    simp only [hr']
  have tne : a.take s ≠ [] := fun z => by
    have z2 : (a.take s).length = 0 := by rw [z]; rfl
    rw [List.length_take] at z2
    omega
  have lp : ∃ x3 : Sl, whlS W1_plain L1_plain [] [.dat (.tuple (e.map .int)), .dat (.tuple ((a.take s).map .int)), .dat (.int r'), .dat (.int (s : Int))] = .nx [.dat (.tuple ((Cal.pull e.length e (a.take s) r').1.map .int)), .dat (.tuple ((Cal.pull e.length e (a.take s) r').2.map .int)), .dat (.int r'), x3] := by
    refine whl_inv (fun m st => ∃ e' a' : List Int, st = [.dat (.tuple (e'.map .int)), .dat (.tuple (a'.map .int)), .dat (.int r'), .dat (.int (s : Int))] ∧ m = e'.length ∧ a' ≠ [] ∧ e'.length ≤ 10000000 ∧ a'.length ≤ 10000000 ∧ Cal.pull e'.length e' a' r' = Cal.pull e.length e (a.take s) r') (fun o => ∃ x3 : Sl, o = .nx [.dat (.tuple ((Cal.pull e.length e (a.take s) r').1.map .int)), .dat (.tuple ((Cal.pull e.length e (a.take s) r').2.map .int)), .dat (.int r'), x3])
      (fun h => by obtain ⟨_, h⟩ := h; cases h) (fun m st h => ?_) (m := e.length) ⟨e, a.take s, rfl, rfl, tne, he, by simp; omega, rfl⟩
    obtain ⟨e', a', rfl, rfl, na, le, la, hp⟩ := h
    rw [pull_step] at hp
    have nt := dNe_tnil e'
    by_cases c1 : e' = []
    · subst c1
      rw [if_pos rfl] at hp
      left
      refine ⟨[.dat (.tuple []), .dat (.tuple (a'.map .int)), .dat (.int r'), .dat (.int (s : Int))], by simp [W1_plain, -List.map_map, -List.map_drop, -List.map_take, -List.map_append, -List.map_dropLast, th_ok, th_ex, th_ite, e_bind, e_ret, e_opt, ts_ok, ts_ex, ts_ite, e_bindS, sq_nx, sq_rt, sq_ex, sq_bk, sq_ct, sq_ite, e_seqS, fin_nx, fin_rt, fin_ex, fin_ite, e_fnOf, wb_ok, wb_ex, wb_ite, vA1_b, e_vAnd, vO1_b, e_vOr, vN1_b, e_vNot, ch1_b, e_chM, e_toB, e_mAnd, e_mOr, e_mNot, e_mIte, e_iteS, lp_nx, lp_ct, lp_bk, lp_rt, lp_ex, lp_ite, forL_nil, forL_nm, e_forS, okArgs, isOwn, outs, nam, frz, look, lookAll, ap1, ap2, apA, un1, bin2, opA, isiM, retS, drpS, setS, setN, putS, put, unpS, asg, mCons, mNil, e_mTup, mt1_ok, e_mLst, ml1_ok, callM, argsOf, argOf, ownIx, Sk.wb, List.getElem?_cons_zero, List.getElem?_cons_succ, List.getElem?_nil, List.set_cons_zero, List.set_cons_succ, List.replicate_succ, List.replicate_zero, List.cons_append, List.nil_append, List.foldl_cons, List.foldl_nil, List.getD_cons_zero, List.getD_cons_succ, List.all_cons, List.all_nil, isiD, tyN, dLt, dLe, dGt, dGe, dAdd_i, dEq_i, dNe_i, dSub, iOp, dLen_t, dLen_l, e_seqM, sq1_l, sq1_t, e_partM, pa1_i, sliM, isN_none, notN_none, isN_int, notN_int, isN_bool, notN_bool, isN_str, notN_str, isN_list, notN_list, isN_tup, notN_tup, isN_dict, notN_dict, raiseS, mDat, mNew, e_callAt, cal_some, wbl_ok, wbl_ex, wbl_ite, e_lcM, e_rng1, e_rng2, e_enuM, en1_l, en1_t, e_zipM, zi1_l, dMnN_i, dMx_l, dMx_t, asg_nm, asg_tp, put, e_appM, isOwnL_l, e_apd, apo_l, notN_OI, isN_OI, dNe_n0, dTup_l, dTup_t, dNeg_i, dCutT_t, dCutL_l, dNe_t0, dEq_t0, dEq_l0, nt], .dat (.int (s : Int)), ?_⟩
      rw [← hp]
      rfl
    · rw [if_neg c1] at hp
      have ne : e'.isEmpty = false := by cases e' with | nil => exact absurd rfl c1 | cons _ _ => rfl
      have il := dIx_lastT e' c1
      have ia := dIx_lastT a' na
      generalize e'.getLastD 0 = x at il hp
      generalize a'.getLastD 0 = y at ia hp
      by_cases c2 : x + r' = y
      · rw [if_pos c2] at hp
        right
        have d1 : cutD (a'.map PyData.int) none (some (-1)) = a'.dropLast.map .int := by rw [cut_last, List.map_dropLast]
        have d2 : cutD (e'.map PyData.int) none (some (-1)) = e'.dropLast.map .int := by rw [cut_last, List.map_dropLast]
        have ad : dAdd (.tuple [.int (x)]) (.tuple (a'.dropLast.map .int)) = some (.tuple ((x :: a'.dropLast).map .int)) := dAdd_tt (by simp; unfold cap; omega)
        have lel : 0 < e'.length := List.length_pos_iff.mpr c1
        have lal : 0 < a'.length := List.length_pos_iff.mpr na
        refine ⟨[.dat (.tuple (e'.map .int)), .dat (.tuple (a'.map .int)), .dat (.int r'), .dat (.int (s : Int))], ?_, .inl ⟨[.dat (.tuple (e'.dropLast.map .int)), .dat (.tuple ((x :: a'.dropLast).map .int)), .dat (.int r'), .dat (.int (s : Int))], .inl ?_, e'.dropLast.length, by simp; omega, e'.dropLast, x :: a'.dropLast, rfl, rfl, by simp, by simp; omega, by simp; omega, hp⟩⟩
        · simp [W1_plain, -List.map_map, -List.map_drop, -List.map_take, -List.map_append, -List.map_dropLast, th_ok, th_ex, th_ite, e_bind, e_ret, e_opt, ts_ok, ts_ex, ts_ite, e_bindS, sq_nx, sq_rt, sq_ex, sq_bk, sq_ct, sq_ite, e_seqS, fin_nx, fin_rt, fin_ex, fin_ite, e_fnOf, wb_ok, wb_ex, wb_ite, vA1_b, e_vAnd, vO1_b, e_vOr, vN1_b, e_vNot, ch1_b, e_chM, e_toB, e_mAnd, e_mOr, e_mNot, e_mIte, e_iteS, lp_nx, lp_ct, lp_bk, lp_rt, lp_ex, lp_ite, forL_nil, forL_nm, e_forS, okArgs, isOwn, outs, nam, frz, look, lookAll, ap1, ap2, apA, un1, bin2, opA, isiM, retS, drpS, setS, setN, putS, put, unpS, asg, mCons, mNil, e_mTup, mt1_ok, e_mLst, ml1_ok, callM, argsOf, argOf, ownIx, Sk.wb, List.getElem?_cons_zero, List.getElem?_cons_succ, List.getElem?_nil, List.set_cons_zero, List.set_cons_succ, List.replicate_succ, List.replicate_zero, List.cons_append, List.nil_append, List.foldl_cons, List.foldl_nil, List.getD_cons_zero, List.getD_cons_succ, List.all_cons, List.all_nil, isiD, tyN, dLt, dLe, dGt, dGe, dAdd_i, dEq_i, dNe_i, dSub, iOp, dLen_t, dLen_l, e_seqM, sq1_l, sq1_t, e_partM, pa1_i, sliM, isN_none, notN_none, isN_int, notN_int, isN_bool, notN_bool, isN_str, notN_str, isN_list, notN_list, isN_tup, notN_tup, isN_dict, notN_dict, raiseS, mDat, mNew, e_callAt, cal_some, wbl_ok, wbl_ex, wbl_ite, e_lcM, e_rng1, e_rng2, e_enuM, en1_l, en1_t, e_zipM, zi1_l, dMnN_i, dMx_l, dMx_t, asg_nm, asg_tp, put, e_appM, isOwnL_l, e_apd, apo_l, notN_OI, isN_OI, dNe_n0, dTup_l, dTup_t, dNeg_i, dCutT_t, dCutL_l, dNe_t0, dEq_t0, dEq_l0, nt, ne, il, ia, c2]
        · simp [L1_plain, -List.map_map, -List.map_drop, -List.map_take, -List.map_append, -List.map_dropLast, th_ok, th_ex, th_ite, e_bind, e_ret, e_opt, ts_ok, ts_ex, ts_ite, e_bindS, sq_nx, sq_rt, sq_ex, sq_bk, sq_ct, sq_ite, e_seqS, fin_nx, fin_rt, fin_ex, fin_ite, e_fnOf, wb_ok, wb_ex, wb_ite, vA1_b, e_vAnd, vO1_b, e_vOr, vN1_b, e_vNot, ch1_b, e_chM, e_toB, e_mAnd, e_mOr, e_mNot, e_mIte, e_iteS, lp_nx, lp_ct, lp_bk, lp_rt, lp_ex, lp_ite, forL_nil, forL_nm, e_forS, okArgs, isOwn, outs, nam, frz, look, lookAll, ap1, ap2, apA, un1, bin2, opA, isiM, retS, drpS, setS, setN, putS, put, unpS, asg, mCons, mNil, e_mTup, mt1_ok, e_mLst, ml1_ok, callM, argsOf, argOf, ownIx, Sk.wb, List.getElem?_cons_zero, List.getElem?_cons_succ, List.getElem?_nil, List.set_cons_zero, List.set_cons_succ, List.replicate_succ, List.replicate_zero, List.cons_append, List.nil_append, List.foldl_cons, List.foldl_nil, List.getD_cons_zero, List.getD_cons_succ, List.all_cons, List.all_nil, isiD, tyN, dLt, dLe, dGt, dGe, dAdd_i, dEq_i, dNe_i, dSub, iOp, dLen_t, dLen_l, e_seqM, sq1_l, sq1_t, e_partM, pa1_i, sliM, isN_none, notN_none, isN_int, notN_int, isN_bool, notN_bool, isN_str, notN_str, isN_list, notN_list, isN_tup, notN_tup, isN_dict, notN_dict, raiseS, mDat, mNew, e_callAt, cal_some, wbl_ok, wbl_ex, wbl_ite, e_lcM, e_rng1, e_rng2, e_enuM, en1_l, en1_t, e_zipM, zi1_l, dMnN_i, dMx_l, dMx_t, asg_nm, asg_tp, put, e_appM, isOwnL_l, e_apd, apo_l, notN_OI, isN_OI, dNe_n0, dTup_l, dTup_t, dNeg_i, dCutT_t, dCutL_l, dNe_t0, dEq_t0, dEq_l0, il, d1, d2, ad]
      · rw [if_neg c2] at hp
        left
        refine ⟨[.dat (.tuple (e'.map .int)), .dat (.tuple (a'.map .int)), .dat (.int r'), .dat (.int (s : Int))], by simp [W1_plain, -List.map_map, -List.map_drop, -List.map_take, -List.map_append, -List.map_dropLast, th_ok, th_ex, th_ite, e_bind, e_ret, e_opt, ts_ok, ts_ex, ts_ite, e_bindS, sq_nx, sq_rt, sq_ex, sq_bk, sq_ct, sq_ite, e_seqS, fin_nx, fin_rt, fin_ex, fin_ite, e_fnOf, wb_ok, wb_ex, wb_ite, vA1_b, e_vAnd, vO1_b, e_vOr, vN1_b, e_vNot, ch1_b, e_chM, e_toB, e_mAnd, e_mOr, e_mNot, e_mIte, e_iteS, lp_nx, lp_ct, lp_bk, lp_rt, lp_ex, lp_ite, forL_nil, forL_nm, e_forS, okArgs, isOwn, outs, nam, frz, look, lookAll, ap1, ap2, apA, un1, bin2, opA, isiM, retS, drpS, setS, setN, putS, put, unpS, asg, mCons, mNil, e_mTup, mt1_ok, e_mLst, ml1_ok, callM, argsOf, argOf, ownIx, Sk.wb, List.getElem?_cons_zero, List.getElem?_cons_succ, List.getElem?_nil, List.set_cons_zero, List.set_cons_succ, List.replicate_succ, List.replicate_zero, List.cons_append, List.nil_append, List.foldl_cons, List.foldl_nil, List.getD_cons_zero, List.getD_cons_succ, List.all_cons, List.all_nil, isiD, tyN, dLt, dLe, dGt, dGe, dAdd_i, dEq_i, dNe_i, dSub, iOp, dLen_t, dLen_l, e_seqM, sq1_l, sq1_t, e_partM, pa1_i, sliM, isN_none, notN_none, isN_int, notN_int, isN_bool, notN_bool, isN_str, notN_str, isN_list, notN_list, isN_tup, notN_tup, isN_dict, notN_dict, raiseS, mDat, mNew, e_callAt, cal_some, wbl_ok, wbl_ex, wbl_ite, e_lcM, e_rng1, e_rng2, e_enuM, en1_l, en1_t, e_zipM, zi1_l, dMnN_i, dMx_l, dMx_t, asg_nm, asg_tp, put, e_appM, isOwnL_l, e_apd, apo_l, notN_OI, isN_OI, dNe_n0, dTup_l, dTup_t, dNeg_i, dCutT_t, dCutL_l, dNe_t0, dEq_t0, dEq_l0, nt, ne, il, ia, c2], .dat (.int (s : Int)), ?_⟩
        rw [← hp]
  obtain ⟨x3, lp⟩ := lp
  rw [P]
  unfold encC
  have rg0 : rngL 1 a.length = ((List.range a.length).map fun k : Nat => (1 + (k : Int))).map .int := by
    unfold rngL
    rw [List.map_map]
    rfl
  rw [← rg0, filter_map_id] at lc
  simp [m_plain, b_plain, -List.map_map, -List.map_drop, -List.map_take, -List.map_append, -List.map_dropLast, th_ok, th_ex, th_ite, e_bind, e_ret, e_opt, ts_ok, ts_ex, ts_ite, e_bindS, sq_nx, sq_rt, sq_ex, sq_bk, sq_ct, sq_ite, e_seqS, fin_nx, fin_rt, fin_ex, fin_ite, e_fnOf, wb_ok, wb_ex, wb_ite, vA1_b, e_vAnd, vO1_b, e_vOr, vN1_b, e_vNot, ch1_b, e_chM, e_toB, e_mAnd, e_mOr, e_mNot, e_mIte, e_iteS, lp_nx, lp_ct, lp_bk, lp_rt, lp_ex, lp_ite, forL_nil, forL_nm, e_forS, okArgs, isOwn, outs, nam, frz, look, lookAll, ap1, ap2, apA, un1, bin2, opA, isiM, retS, drpS, setS, setN, putS, put, unpS, asg, mCons, mNil, e_mTup, mt1_ok, e_mLst, ml1_ok, callM, argsOf, argOf, ownIx, Sk.wb, List.getElem?_cons_zero, List.getElem?_cons_succ, List.getElem?_nil, List.set_cons_zero, List.set_cons_succ, List.replicate_succ, List.replicate_zero, List.cons_append, List.nil_append, List.foldl_cons, List.foldl_nil, List.getD_cons_zero, List.getD_cons_succ, List.all_cons, List.all_nil, isiD, tyN, dLt, dLe, dGt, dGe, dAdd_i, dEq_i, dNe_i, dSub, iOp, dLen_t, dLen_l, e_seqM, sq1_l, sq1_t, e_partM, pa1_i, sliM, isN_none, notN_none, isN_int, notN_int, isN_bool, notN_bool, isN_str, notN_str, isN_list, notN_list, isN_tup, notN_tup, isN_dict, notN_dict, raiseS, mDat, mNew, e_callAt, cal_some, wbl_ok, wbl_ex, wbl_ite, e_lcM, e_rng1, e_rng2, e_enuM, en1_l, en1_t, e_zipM, zi1_l, dMnN_i, dMx_l, dMx_t, asg_nm, asg_tp, put, e_appM, isOwnL_l, e_apd, apo_l, notN_OI, isN_OI, dNe_n0, dTup_l, dTup_t, dNeg_i, dCutT_t, dCutL_l, dNe_t0, dEq_t0, dEq_l0, n0, rn2_ok sm, lc, ix, e2, e4, k2, lp]
end Zk07
set_option maxHeartbeats 1000000
namespace Zk07
open PySem PySem.Spec PyProof.Rows L2 Sk LamX
theorem told_late (e a : List Int) (r : Int) (n : Nat) (ha : 0 < a.length) (h : ¬ n < e.length) : Cal.told e a r n = a.getD ((n - e.length) % a.length) 0 + ((n - e.length) / a.length : Nat) * r := by
  unfold Cal.told
  rw [if_neg h]
  rfl
theorem div_parts {n l m : Nat} (h : ¬ n < l) : (((n : Int) - (l : Int)) / (m : Int) = (((n - l) / m : Nat) : Int)) ∧ (((n : Int) - (l : Int)) % (m : Int) = (((n - l) % m : Nat) : Int)) := by
  have e : (n : Int) - (l : Int) = ((n - l : Nat) : Int) := by omega
  rw [e]
  exact ⟨(Int.natCast_ediv ..).symm, (Int.natCast_emod ..).symm⟩
theorem r_item_at (e : List Int) (c : CalT) (n : Nat) (ok : OkC e c) (hn : (n : Int) < 10 ^ 40) : m_item_at [.dat (encC e c), .dat (.int (n : Int))] = .ok (encOI (toldC e c n)) [.dat (encC e c), .dat (.int (n : Int))] := by
  by_cases c1 : n < e.length
  · have ix := dIx_atT (xs := e) (i := (n : Int)) (k := n) rfl c1
    have c1' : (n : Int) < (e.length : Int) := by omega
    cases c with
    | none =>
      have t : toldC e none n = some (e.getD n 0) := if_pos c1
      rw [t]
      simp [m_item_at, b_item_at, -List.map_map, -List.map_drop, -List.map_take, -List.map_append, -List.map_dropLast, th_ok, th_ex, th_ite, e_bind, e_ret, e_opt, ts_ok, ts_ex, ts_ite, e_bindS, sq_nx, sq_rt, sq_ex, sq_bk, sq_ct, sq_ite, e_seqS, fin_nx, fin_rt, fin_ex, fin_ite, e_fnOf, wb_ok, wb_ex, wb_ite, vA1_b, e_vAnd, vO1_b, e_vOr, vN1_b, e_vNot, ch1_b, e_chM, e_toB, e_mAnd, e_mOr, e_mNot, e_mIte, e_iteS, lp_nx, lp_ct, lp_bk, lp_rt, lp_ex, lp_ite, forL_nil, forL_nm, e_forS, okArgs, isOwn, outs, nam, frz, look, lookAll, ap1, ap2, apA, un1, bin2, opA, isiM, retS, drpS, setS, setN, putS, put, unpS, asg, mCons, mNil, e_mTup, mt1_ok, e_mLst, ml1_ok, callM, argsOf, argOf, ownIx, Sk.wb, List.getElem?_cons_zero, List.getElem?_cons_succ, List.getElem?_nil, List.set_cons_zero, List.set_cons_succ, List.replicate_succ, List.replicate_zero, List.cons_append, List.nil_append, List.foldl_cons, List.foldl_nil, List.getD_cons_zero, List.getD_cons_succ, List.all_cons, List.all_nil, isiD, tyN, dLt, dLe, dGt, dGe, dAdd_i, dEq_i, dNe_i, dSub, iOp, dLen_t, dLen_l, e_seqM, sq1_l, sq1_t, e_partM, pa1_i, sliM, isN_none, notN_none, isN_int, notN_int, isN_bool, notN_bool, isN_str, notN_str, isN_list, notN_list, isN_tup, notN_tup, isN_dict, notN_dict, raiseS, mDat, mNew, e_callAt, cal_some, wbl_ok, wbl_ex, wbl_ite, e_lcM, e_rng1, e_rng2, e_enuM, en1_l, en1_t, e_zipM, zi1_l, dMnN_i, dMx_l, dMx_t, asg_nm, asg_tp, put, e_appM, isOwnL_l, e_apd, apo_l, notN_OI, isN_OI, dNe_n0, dTup_l, dTup_t, dNeg_i, dCutT_t, dCutL_l, dNe_t0, dEq_t0, dEq_l0, encC, c1', ix, encOI]
    | some v =>
      obtain ⟨a, r⟩ := v
      have t : toldC e (some (a, r)) n = some (e.getD n 0) := congrArg some (if_pos c1)
      rw [t]
      simp [m_item_at, b_item_at, -List.map_map, -List.map_drop, -List.map_take, -List.map_append, -List.map_dropLast, th_ok, th_ex, th_ite, e_bind, e_ret, e_opt, ts_ok, ts_ex, ts_ite, e_bindS, sq_nx, sq_rt, sq_ex, sq_bk, sq_ct, sq_ite, e_seqS, fin_nx, fin_rt, fin_ex, fin_ite, e_fnOf, wb_ok, wb_ex, wb_ite, vA1_b, e_vAnd, vO1_b, e_vOr, vN1_b, e_vNot, ch1_b, e_chM, e_toB, e_mAnd, e_mOr, e_mNot, e_mIte, e_iteS, lp_nx, lp_ct, lp_bk, lp_rt, lp_ex, lp_ite, forL_nil, forL_nm, e_forS, okArgs, isOwn, outs, nam, frz, look, lookAll, ap1, ap2, apA, un1, bin2, opA, isiM, retS, drpS, setS, setN, putS, put, unpS, asg, mCons, mNil, e_mTup, mt1_ok, e_mLst, ml1_ok, callM, argsOf, argOf, ownIx, Sk.wb, List.getElem?_cons_zero, List.getElem?_cons_succ, List.getElem?_nil, List.set_cons_zero, List.set_cons_succ, List.replicate_succ, List.replicate_zero, List.cons_append, List.nil_append, List.foldl_cons, List.foldl_nil, List.getD_cons_zero, List.getD_cons_succ, List.all_cons, List.all_nil, isiD, tyN, dLt, dLe, dGt, dGe, dAdd_i, dEq_i, dNe_i, dSub, iOp, dLen_t, dLen_l, e_seqM, sq1_l, sq1_t, e_partM, pa1_i, sliM, isN_none, notN_none, isN_int, notN_int, isN_bool, notN_bool, isN_str, notN_str, isN_list, notN_list, isN_tup, notN_tup, isN_dict, notN_dict, raiseS, mDat, mNew, e_callAt, cal_some, wbl_ok, wbl_ex, wbl_ite, e_lcM, e_rng1, e_rng2, e_enuM, en1_l, en1_t, e_zipM, zi1_l, dMnN_i, dMx_l, dMx_t, asg_nm, asg_tp, put, e_appM, isOwnL_l, e_apd, apo_l, notN_OI, isN_OI, dNe_n0, dTup_l, dTup_t, dNeg_i, dCutT_t, dCutL_l, dNe_t0, dEq_t0, dEq_l0, encC, c1', ix, encOI]
  · have c1' : ¬ (n : Int) < (e.length : Int) := by omega
    cases c with
    | none =>
      have t : toldC e none n = none := if_neg c1
      rw [t]
      simp [m_item_at, b_item_at, -List.map_map, -List.map_drop, -List.map_take, -List.map_append, -List.map_dropLast, th_ok, th_ex, th_ite, e_bind, e_ret, e_opt, ts_ok, ts_ex, ts_ite, e_bindS, sq_nx, sq_rt, sq_ex, sq_bk, sq_ct, sq_ite, e_seqS, fin_nx, fin_rt, fin_ex, fin_ite, e_fnOf, wb_ok, wb_ex, wb_ite, vA1_b, e_vAnd, vO1_b, e_vOr, vN1_b, e_vNot, ch1_b, e_chM, e_toB, e_mAnd, e_mOr, e_mNot, e_mIte, e_iteS, lp_nx, lp_ct, lp_bk, lp_rt, lp_ex, lp_ite, forL_nil, forL_nm, e_forS, okArgs, isOwn, outs, nam, frz, look, lookAll, ap1, ap2, apA, un1, bin2, opA, isiM, retS, drpS, setS, setN, putS, put, unpS, asg, mCons, mNil, e_mTup, mt1_ok, e_mLst, ml1_ok, callM, argsOf, argOf, ownIx, Sk.wb, List.getElem?_cons_zero, List.getElem?_cons_succ, List.getElem?_nil, List.set_cons_zero, List.set_cons_succ, List.replicate_succ, List.replicate_zero, List.cons_append, List.nil_append, List.foldl_cons, List.foldl_nil, List.getD_cons_zero, List.getD_cons_succ, List.all_cons, List.all_nil, isiD, tyN, dLt, dLe, dGt, dGe, dAdd_i, dEq_i, dNe_i, dSub, iOp, dLen_t, dLen_l, e_seqM, sq1_l, sq1_t, e_partM, pa1_i, sliM, isN_none, notN_none, isN_int, notN_int, isN_bool, notN_bool, isN_str, notN_str, isN_list, notN_list, isN_tup, notN_tup, isN_dict, notN_dict, raiseS, mDat, mNew, e_callAt, cal_some, wbl_ok, wbl_ex, wbl_ite, e_lcM, e_rng1, e_rng2, e_enuM, en1_l, en1_t, e_zipM, zi1_l, dMnN_i, dMx_l, dMx_t, asg_nm, asg_tp, put, e_appM, isOwnL_l, e_apd, apo_l, notN_OI, isN_OI, dNe_n0, dTup_l, dTup_t, dNeg_i, dCutT_t, dCutL_l, dNe_t0, dEq_t0, dEq_l0, encC, c1', encOI, dEq_NN]
    | some v =>
      obtain ⟨a, r⟩ := v
      obtain ⟨a0, al, r0, r1⟩ := ok.la a r rfl
      have t : toldC e (some (a, r)) n = some (a.getD ((n - e.length) % a.length) 0 + ((n - e.length) / a.length : Nat) * r) := congrArg some (told_late e a r n a0 c1)
      rw [t]
      obtain ⟨d1, d2⟩ := div_parts (m := a.length) c1
      have dv : dDvm [.int ((n : Int) - (e.length : Int)), .int (a.length : Int)] = some (.tuple [.int (((n - e.length) / a.length : Nat) : Int), .int (((n - e.length) % a.length : Nat) : Int)]) := by
        unfold dDvm
        simp only
        rw [e_chk (by
          refine ⟨by omega, ?_⟩
          have : ((n : Int) - (e.length : Int)).natAbs < 10 ^ 40 := by omega
          exact Nat.lt_trans this (by decide)), d1, d2]
      have ml := Nat.mod_lt (n - e.length) a0
      have ix := dIx_atT (xs := a) (k := (n - e.length) % a.length) rfl ml
      have mu := dMul_r (i := (((n - e.length) / a.length : Nat) : Int)) (j := r) (by omega)
      have nn := dEq_N a
      generalize (((n - e.length) / a.length : Nat) : Int) = qd at dv mu
      generalize hm : (((n - e.length) % a.length : Nat) : Int) = md at dv ix
      generalize a.getD ((n - e.length) % a.length) 0 = v at ix
      simp [m_item_at, b_item_at, -List.map_map, -List.map_drop, -List.map_take, -List.map_append, -List.map_dropLast, th_ok, th_ex, th_ite, e_bind, e_ret, e_opt, ts_ok, ts_ex, ts_ite, e_bindS, sq_nx, sq_rt, sq_ex, sq_bk, sq_ct, sq_ite, e_seqS, fin_nx, fin_rt, fin_ex, fin_ite, e_fnOf, wb_ok, wb_ex, wb_ite, vA1_b, e_vAnd, vO1_b, e_vOr, vN1_b, e_vNot, ch1_b, e_chM, e_toB, e_mAnd, e_mOr, e_mNot, e_mIte, e_iteS, lp_nx, lp_ct, lp_bk, lp_rt, lp_ex, lp_ite, forL_nil, forL_nm, e_forS, okArgs, isOwn, outs, nam, frz, look, lookAll, ap1, ap2, apA, un1, bin2, opA, isiM, retS, drpS, setS, setN, putS, put, unpS, asg, mCons, mNil, e_mTup, mt1_ok, e_mLst, ml1_ok, callM, argsOf, argOf, ownIx, Sk.wb, List.getElem?_cons_zero, List.getElem?_cons_succ, List.getElem?_nil, List.set_cons_zero, List.set_cons_succ, List.replicate_succ, List.replicate_zero, List.cons_append, List.nil_append, List.foldl_cons, List.foldl_nil, List.getD_cons_zero, List.getD_cons_succ, List.all_cons, List.all_nil, isiD, tyN, dLt, dLe, dGt, dGe, dAdd_i, dEq_i, dNe_i, dSub, iOp, dLen_t, dLen_l, e_seqM, sq1_l, sq1_t, e_partM, pa1_i, sliM, isN_none, notN_none, isN_int, notN_int, isN_bool, notN_bool, isN_str, notN_str, isN_list, notN_list, isN_tup, notN_tup, isN_dict, notN_dict, raiseS, mDat, mNew, e_callAt, cal_some, wbl_ok, wbl_ex, wbl_ite, e_lcM, e_rng1, e_rng2, e_enuM, en1_l, en1_t, e_zipM, zi1_l, dMnN_i, dMx_l, dMx_t, asg_nm, asg_tp, put, e_appM, isOwnL_l, e_apd, apo_l, notN_OI, isN_OI, dNe_n0, dTup_l, dTup_t, dNeg_i, dCutT_t, dCutL_l, dNe_t0, dEq_t0, dEq_l0, encC, c1', nn, dv, ix, mu, encOI]
theorem r_ltold (e : List Int) (c : CalT) (n : Nat) (ok : OkC e c) : m__law_told [.dat (encC e c), .dat (.int (n : Int))] = .ok (encOI (toldC e c n)) [.dat (encC e c), .dat (.int (n : Int))] := by
  by_cases c1 : n < e.length
  · have ix := dIx_atT (xs := e) (i := (n : Int)) (k := n) rfl c1
    have c1' : (n : Int) < (e.length : Int) := by omega
    cases c with
    | none =>
      have t : toldC e none n = some (e.getD n 0) := if_pos c1
      rw [t]
      simp [m__law_told, b__law_told, -List.map_map, -List.map_drop, -List.map_take, -List.map_append, -List.map_dropLast, th_ok, th_ex, th_ite, e_bind, e_ret, e_opt, ts_ok, ts_ex, ts_ite, e_bindS, sq_nx, sq_rt, sq_ex, sq_bk, sq_ct, sq_ite, e_seqS, fin_nx, fin_rt, fin_ex, fin_ite, e_fnOf, wb_ok, wb_ex, wb_ite, vA1_b, e_vAnd, vO1_b, e_vOr, vN1_b, e_vNot, ch1_b, e_chM, e_toB, e_mAnd, e_mOr, e_mNot, e_mIte, e_iteS, lp_nx, lp_ct, lp_bk, lp_rt, lp_ex, lp_ite, forL_nil, forL_nm, e_forS, okArgs, isOwn, outs, nam, frz, look, lookAll, ap1, ap2, apA, un1, bin2, opA, isiM, retS, drpS, setS, setN, putS, put, unpS, asg, mCons, mNil, e_mTup, mt1_ok, e_mLst, ml1_ok, callM, argsOf, argOf, ownIx, Sk.wb, List.getElem?_cons_zero, List.getElem?_cons_succ, List.getElem?_nil, List.set_cons_zero, List.set_cons_succ, List.replicate_succ, List.replicate_zero, List.cons_append, List.nil_append, List.foldl_cons, List.foldl_nil, List.getD_cons_zero, List.getD_cons_succ, List.all_cons, List.all_nil, isiD, tyN, dLt, dLe, dGt, dGe, dAdd_i, dEq_i, dNe_i, dSub, iOp, dLen_t, dLen_l, e_seqM, sq1_l, sq1_t, e_partM, pa1_i, sliM, isN_none, notN_none, isN_int, notN_int, isN_bool, notN_bool, isN_str, notN_str, isN_list, notN_list, isN_tup, notN_tup, isN_dict, notN_dict, raiseS, mDat, mNew, e_callAt, cal_some, wbl_ok, wbl_ex, wbl_ite, e_lcM, e_rng1, e_rng2, e_enuM, en1_l, en1_t, e_zipM, zi1_l, dMnN_i, dMx_l, dMx_t, asg_nm, asg_tp, put, e_appM, isOwnL_l, e_apd, apo_l, notN_OI, isN_OI, dNe_n0, dTup_l, dTup_t, dNeg_i, dCutT_t, dCutL_l, dNe_t0, dEq_t0, dEq_l0, encC, c1', ix, encOI]
    | some v =>
      obtain ⟨a, r⟩ := v
      have t : toldC e (some (a, r)) n = some (e.getD n 0) := congrArg some (if_pos c1)
      rw [t]
      simp [m__law_told, b__law_told, -List.map_map, -List.map_drop, -List.map_take, -List.map_append, -List.map_dropLast, th_ok, th_ex, th_ite, e_bind, e_ret, e_opt, ts_ok, ts_ex, ts_ite, e_bindS, sq_nx, sq_rt, sq_ex, sq_bk, sq_ct, sq_ite, e_seqS, fin_nx, fin_rt, fin_ex, fin_ite, e_fnOf, wb_ok, wb_ex, wb_ite, vA1_b, e_vAnd, vO1_b, e_vOr, vN1_b, e_vNot, ch1_b, e_chM, e_toB, e_mAnd, e_mOr, e_mNot, e_mIte, e_iteS, lp_nx, lp_ct, lp_bk, lp_rt, lp_ex, lp_ite, forL_nil, forL_nm, e_forS, okArgs, isOwn, outs, nam, frz, look, lookAll, ap1, ap2, apA, un1, bin2, opA, isiM, retS, drpS, setS, setN, putS, put, unpS, asg, mCons, mNil, e_mTup, mt1_ok, e_mLst, ml1_ok, callM, argsOf, argOf, ownIx, Sk.wb, List.getElem?_cons_zero, List.getElem?_cons_succ, List.getElem?_nil, List.set_cons_zero, List.set_cons_succ, List.replicate_succ, List.replicate_zero, List.cons_append, List.nil_append, List.foldl_cons, List.foldl_nil, List.getD_cons_zero, List.getD_cons_succ, List.all_cons, List.all_nil, isiD, tyN, dLt, dLe, dGt, dGe, dAdd_i, dEq_i, dNe_i, dSub, iOp, dLen_t, dLen_l, e_seqM, sq1_l, sq1_t, e_partM, pa1_i, sliM, isN_none, notN_none, isN_int, notN_int, isN_bool, notN_bool, isN_str, notN_str, isN_list, notN_list, isN_tup, notN_tup, isN_dict, notN_dict, raiseS, mDat, mNew, e_callAt, cal_some, wbl_ok, wbl_ex, wbl_ite, e_lcM, e_rng1, e_rng2, e_enuM, en1_l, en1_t, e_zipM, zi1_l, dMnN_i, dMx_l, dMx_t, asg_nm, asg_tp, put, e_appM, isOwnL_l, e_apd, apo_l, notN_OI, isN_OI, dNe_n0, dTup_l, dTup_t, dNeg_i, dCutT_t, dCutL_l, dNe_t0, dEq_t0, dEq_l0, encC, c1', ix, encOI]
  · have c1' : ¬ (n : Int) < (e.length : Int) := by omega
    cases c with
    | none =>
      have t : toldC e none n = none := if_neg c1
      rw [t]
      have d : dMod (.int ((n : Int) - (e.length : Int))) (.int 1) = some (.int 0) := by
        rw [dMod_i (by omega), Int.emod_one]
      have ix : dIx (.tuple [.none]) (.int 0) = some .none := rfl
      simp [m__law_told, b__law_told, -List.map_map, -List.map_drop, -List.map_take, -List.map_append, -List.map_dropLast, th_ok, th_ex, th_ite, e_bind, e_ret, e_opt, ts_ok, ts_ex, ts_ite, e_bindS, sq_nx, sq_rt, sq_ex, sq_bk, sq_ct, sq_ite, e_seqS, fin_nx, fin_rt, fin_ex, fin_ite, e_fnOf, wb_ok, wb_ex, wb_ite, vA1_b, e_vAnd, vO1_b, e_vOr, vN1_b, e_vNot, ch1_b, e_chM, e_toB, e_mAnd, e_mOr, e_mNot, e_mIte, e_iteS, lp_nx, lp_ct, lp_bk, lp_rt, lp_ex, lp_ite, forL_nil, forL_nm, e_forS, okArgs, isOwn, outs, nam, frz, look, lookAll, ap1, ap2, apA, un1, bin2, opA, isiM, retS, drpS, setS, setN, putS, put, unpS, asg, mCons, mNil, e_mTup, mt1_ok, e_mLst, ml1_ok, callM, argsOf, argOf, ownIx, Sk.wb, List.getElem?_cons_zero, List.getElem?_cons_succ, List.getElem?_nil, List.set_cons_zero, List.set_cons_succ, List.replicate_succ, List.replicate_zero, List.cons_append, List.nil_append, List.foldl_cons, List.foldl_nil, List.getD_cons_zero, List.getD_cons_succ, List.all_cons, List.all_nil, isiD, tyN, dLt, dLe, dGt, dGe, dAdd_i, dEq_i, dNe_i, dSub, iOp, dLen_t, dLen_l, e_seqM, sq1_l, sq1_t, e_partM, pa1_i, sliM, isN_none, notN_none, isN_int, notN_int, isN_bool, notN_bool, isN_str, notN_str, isN_list, notN_list, isN_tup, notN_tup, isN_dict, notN_dict, raiseS, mDat, mNew, e_callAt, cal_some, wbl_ok, wbl_ex, wbl_ite, e_lcM, e_rng1, e_rng2, e_enuM, en1_l, en1_t, e_zipM, zi1_l, dMnN_i, dMx_l, dMx_t, asg_nm, asg_tp, put, e_appM, isOwnL_l, e_apd, apo_l, notN_OI, isN_OI, dNe_n0, dTup_l, dTup_t, dNeg_i, dCutT_t, dCutL_l, dNe_t0, dEq_t0, dEq_l0, encC, c1', encOI, d, ix]
    | some v =>
      obtain ⟨a, r⟩ := v
      obtain ⟨a0, al, r0, r1⟩ := ok.la a r rfl
      have t : toldC e (some (a, r)) n = some (a.getD ((n - e.length) % a.length) 0 + ((n - e.length) / a.length : Nat) * r) := congrArg some (told_late e a r n a0 c1)
      rw [t]
      obtain ⟨d1, d2⟩ := div_parts (m := a.length) c1
      have dm := dMod_i (i := (n : Int) - (e.length : Int)) (j := (a.length : Int)) (by omega)
      have dd := dDiv_i (i := (n : Int) - (e.length : Int)) (j := (a.length : Int)) (by omega) (by omega)
      rw [d2] at dm
      rw [d1] at dd
      have ml := Nat.mod_lt (n - e.length) a0
      have ix := dIx_atT (xs := a) (k := (n - e.length) % a.length) rfl ml
      have mu := dMul_r (i := (((n - e.length) / a.length : Nat) : Int)) (j := r) (by omega)
      generalize (((n - e.length) / a.length : Nat) : Int) = qd at dd mu
      generalize hm : (((n - e.length) % a.length : Nat) : Int) = md at dm ix
      generalize a.getD ((n - e.length) % a.length) 0 = v at ix
      simp [m__law_told, b__law_told, -List.map_map, -List.map_drop, -List.map_take, -List.map_append, -List.map_dropLast, th_ok, th_ex, th_ite, e_bind, e_ret, e_opt, ts_ok, ts_ex, ts_ite, e_bindS, sq_nx, sq_rt, sq_ex, sq_bk, sq_ct, sq_ite, e_seqS, fin_nx, fin_rt, fin_ex, fin_ite, e_fnOf, wb_ok, wb_ex, wb_ite, vA1_b, e_vAnd, vO1_b, e_vOr, vN1_b, e_vNot, ch1_b, e_chM, e_toB, e_mAnd, e_mOr, e_mNot, e_mIte, e_iteS, lp_nx, lp_ct, lp_bk, lp_rt, lp_ex, lp_ite, forL_nil, forL_nm, e_forS, okArgs, isOwn, outs, nam, frz, look, lookAll, ap1, ap2, apA, un1, bin2, opA, isiM, retS, drpS, setS, setN, putS, put, unpS, asg, mCons, mNil, e_mTup, mt1_ok, e_mLst, ml1_ok, callM, argsOf, argOf, ownIx, Sk.wb, List.getElem?_cons_zero, List.getElem?_cons_succ, List.getElem?_nil, List.set_cons_zero, List.set_cons_succ, List.replicate_succ, List.replicate_zero, List.cons_append, List.nil_append, List.foldl_cons, List.foldl_nil, List.getD_cons_zero, List.getD_cons_succ, List.all_cons, List.all_nil, isiD, tyN, dLt, dLe, dGt, dGe, dAdd_i, dEq_i, dNe_i, dSub, iOp, dLen_t, dLen_l, e_seqM, sq1_l, sq1_t, e_partM, pa1_i, sliM, isN_none, notN_none, isN_int, notN_int, isN_bool, notN_bool, isN_str, notN_str, isN_list, notN_list, isN_tup, notN_tup, isN_dict, notN_dict, raiseS, mDat, mNew, e_callAt, cal_some, wbl_ok, wbl_ex, wbl_ite, e_lcM, e_rng1, e_rng2, e_enuM, en1_l, en1_t, e_zipM, zi1_l, dMnN_i, dMx_l, dMx_t, asg_nm, asg_tp, put, e_appM, isOwnL_l, e_apd, apo_l, notN_OI, isN_OI, dNe_n0, dTup_l, dTup_t, dNeg_i, dCutT_t, dCutL_l, dNe_t0, dEq_t0, dEq_l0, encC, c1', dm, dd, ix, mu, encOI]
theorem ll1 (e a : List Int) (r : Int) (hl : a.length ≤ 10000000) (CC : D) (x5 : Sl) (s : Nat) (hs : 0 < s) (hsl : s < a.length) (no : Cal.rests a r s = false) : ∃ y5 : Sl,
    L1__law_least [.dat CC, .dat (.tuple (e.map .int)), .dat (.tuple (a.map .int)), .dat (.int r), .dat (.int (s : Int)), x5, .un] = .nx [.dat CC, .dat (.tuple (e.map .int)), .dat (.tuple (a.map .int)), .dat (.int r), .dat (.int (s : Int)), y5, .un] := by
  have e1 := dMod_i (i := (a.length : Int)) (j := (s : Int)) (by omega)
  have e2 := dMul_r (i := r) (j := (s : Int)) (by omega)
  have e3 := dMod_i (i := r * s) (j := (a.length : Int)) (by omega)
  have e4 := dDiv_i (i := r * s) (j := (a.length : Int)) (by omega) (by omega)
  have k1 : cutD (a.map PyData.int) (some (s : Int)) none = (a.drop s).map .int := by rw [cut_from rfl, List.map_drop]
  have k2 : cutD (a.map PyData.int) none (some (s : Int)) = (a.take s).map .int := by rw [cut_to rfl, List.map_take]
  unfold Cal.rests at no
  by_cases c1 : (a.length : Int) % s = 0
  · by_cases c2 : r * s % a.length = 0
    · have l1 := lc_ints (i := 6) (fe := C1__law_least) (g := (· + r)) (xs := a.take s) (st := [.dat CC, .dat (.tuple (e.map .int)), .dat (.tuple (a.map .int)), .dat (.int r), .dat (.int (s : Int)), x5, .un]) (by simp) (by rw [List.length_take]; unfold cap; omega) (fun x _ => by simp [C1__law_least, -List.map_map, -List.map_drop, -List.map_take, -List.map_append, -List.map_dropLast, th_ok, th_ex, th_ite, e_bind, e_ret, e_opt, ts_ok, ts_ex, ts_ite, e_bindS, sq_nx, sq_rt, sq_ex, sq_bk, sq_ct, sq_ite, e_seqS, fin_nx, fin_rt, fin_ex, fin_ite, e_fnOf, wb_ok, wb_ex, wb_ite, vA1_b, e_vAnd, vO1_b, e_vOr, vN1_b, e_vNot, ch1_b, e_chM, e_toB, e_mAnd, e_mOr, e_mNot, e_mIte, e_iteS, lp_nx, lp_ct, lp_bk, lp_rt, lp_ex, lp_ite, forL_nil, forL_nm, e_forS, okArgs, isOwn, outs, nam, frz, look, lookAll, ap1, ap2, apA, un1, bin2, opA, isiM, retS, drpS, setS, setN, putS, put, unpS, asg, mCons, mNil, e_mTup, mt1_ok, e_mLst, ml1_ok, callM, argsOf, argOf, ownIx, Sk.wb, List.getElem?_cons_zero, List.getElem?_cons_succ, List.getElem?_nil, List.set_cons_zero, List.set_cons_succ, List.replicate_succ, List.replicate_zero, List.cons_append, List.nil_append, List.foldl_cons, List.foldl_nil, List.getD_cons_zero, List.getD_cons_succ, List.all_cons, List.all_nil, isiD, tyN, dLt, dLe, dGt, dGe, dAdd_i, dEq_i, dNe_i, dSub, iOp, dLen_t, dLen_l, e_seqM, sq1_l, sq1_t, e_partM, pa1_i, sliM, isN_none, notN_none, isN_int, notN_int, isN_bool, notN_bool, isN_str, notN_str, isN_list, notN_list, isN_tup, notN_tup, isN_dict, notN_dict, raiseS, mDat, mNew, e_callAt, cal_some, wbl_ok, wbl_ex, wbl_ite, e_lcM, e_rng1, e_rng2, e_enuM, en1_l, en1_t, e_zipM, zi1_l, dMnN_i, dMx_l, dMx_t, asg_nm, asg_tp, put, e_appM, isOwnL_l, e_apd, apo_l, notN_OI, isN_OI, dNe_n0, dTup_l, dTup_t, dNeg_i, dCutT_t, dCutL_l, dNe_t0, dEq_t0, dEq_l0])
      have l2 := lc_ints (i := 6) (fe := C2__law_least) (g := (· + r * s / a.length)) (xs := a) (st := [.dat CC, .dat (.tuple (e.map .int)), .dat (.tuple (a.map .int)), .dat (.int r), .dat (.int (s : Int)), .dat (.tuple ((a.drop s ++ (a.take s).map (· + r)).map .int)), .un]) (by simp) (by unfold cap; omega) (fun x _ => by simp [C2__law_least, -List.map_map, -List.map_drop, -List.map_take, -List.map_append, -List.map_dropLast, th_ok, th_ex, th_ite, e_bind, e_ret, e_opt, ts_ok, ts_ex, ts_ite, e_bindS, sq_nx, sq_rt, sq_ex, sq_bk, sq_ct, sq_ite, e_seqS, fin_nx, fin_rt, fin_ex, fin_ite, e_fnOf, wb_ok, wb_ex, wb_ite, vA1_b, e_vAnd, vO1_b, e_vOr, vN1_b, e_vNot, ch1_b, e_chM, e_toB, e_mAnd, e_mOr, e_mNot, e_mIte, e_iteS, lp_nx, lp_ct, lp_bk, lp_rt, lp_ex, lp_ite, forL_nil, forL_nm, e_forS, okArgs, isOwn, outs, nam, frz, look, lookAll, ap1, ap2, apA, un1, bin2, opA, isiM, retS, drpS, setS, setN, putS, put, unpS, asg, mCons, mNil, e_mTup, mt1_ok, e_mLst, ml1_ok, callM, argsOf, argOf, ownIx, Sk.wb, List.getElem?_cons_zero, List.getElem?_cons_succ, List.getElem?_nil, List.set_cons_zero, List.set_cons_succ, List.replicate_succ, List.replicate_zero, List.cons_append, List.nil_append, List.foldl_cons, List.foldl_nil, List.getD_cons_zero, List.getD_cons_succ, List.all_cons, List.all_nil, isiD, tyN, dLt, dLe, dGt, dGe, dAdd_i, dEq_i, dNe_i, dSub, iOp, dLen_t, dLen_l, e_seqM, sq1_l, sq1_t, e_partM, pa1_i, sliM, isN_none, notN_none, isN_int, notN_int, isN_bool, notN_bool, isN_str, notN_str, isN_list, notN_list, isN_tup, notN_tup, isN_dict, notN_dict, raiseS, mDat, mNew, e_callAt, cal_some, wbl_ok, wbl_ex, wbl_ite, e_lcM, e_rng1, e_rng2, e_enuM, en1_l, en1_t, e_zipM, zi1_l, dMnN_i, dMx_l, dMx_t, asg_nm, asg_tp, put, e_appM, isOwnL_l, e_apd, apo_l, notN_OI, isN_OI, dNe_n0, dTup_l, dTup_t, dNeg_i, dCutT_t, dCutL_l, dNe_t0, dEq_t0, dEq_l0, e2, e4])
      have ad : dAdd (.tuple ((a.drop s).map .int)) (.tuple (((a.take s).map (· + r)).map .int)) = some (.tuple ((a.drop s ++ (a.take s).map (· + r)).map .int)) := by
        rw [dAdd_tt (by simp; unfold cap; omega), ← List.map_append]
      have ee := dEq_T (a.drop s ++ (a.take s).map (· + r)) (a.map (· + r * s / a.length))
      have nb : (a.drop s ++ (a.take s).map (· + r) == a.map (· + r * s / a.length)) = false := by
        simp only [c1, c2, decide_true, Bool.true_and] at no
        exact no
      rw [nb] at ee
      exact ⟨.dat (.tuple ((a.drop s ++ (a.take s).map (· + r)).map .int)), by simp [L1__law_least, -List.map_map, -List.map_drop, -List.map_take, -List.map_append, -List.map_dropLast, th_ok, th_ex, th_ite, e_bind, e_ret, e_opt, ts_ok, ts_ex, ts_ite, e_bindS, sq_nx, sq_rt, sq_ex, sq_bk, sq_ct, sq_ite, e_seqS, fin_nx, fin_rt, fin_ex, fin_ite, e_fnOf, wb_ok, wb_ex, wb_ite, vA1_b, e_vAnd, vO1_b, e_vOr, vN1_b, e_vNot, ch1_b, e_chM, e_toB, e_mAnd, e_mOr, e_mNot, e_mIte, e_iteS, lp_nx, lp_ct, lp_bk, lp_rt, lp_ex, lp_ite, forL_nil, forL_nm, e_forS, okArgs, isOwn, outs, nam, frz, look, lookAll, ap1, ap2, apA, un1, bin2, opA, isiM, retS, drpS, setS, setN, putS, put, unpS, asg, mCons, mNil, e_mTup, mt1_ok, e_mLst, ml1_ok, callM, argsOf, argOf, ownIx, Sk.wb, List.getElem?_cons_zero, List.getElem?_cons_succ, List.getElem?_nil, List.set_cons_zero, List.set_cons_succ, List.replicate_succ, List.replicate_zero, List.cons_append, List.nil_append, List.foldl_cons, List.foldl_nil, List.getD_cons_zero, List.getD_cons_succ, List.all_cons, List.all_nil, isiD, tyN, dLt, dLe, dGt, dGe, dAdd_i, dEq_i, dNe_i, dSub, iOp, dLen_t, dLen_l, e_seqM, sq1_l, sq1_t, e_partM, pa1_i, sliM, isN_none, notN_none, isN_int, notN_int, isN_bool, notN_bool, isN_str, notN_str, isN_list, notN_list, isN_tup, notN_tup, isN_dict, notN_dict, raiseS, mDat, mNew, e_callAt, cal_some, wbl_ok, wbl_ex, wbl_ite, e_lcM, e_rng1, e_rng2, e_enuM, en1_l, en1_t, e_zipM, zi1_l, dMnN_i, dMx_l, dMx_t, asg_nm, asg_tp, put, e_appM, isOwnL_l, e_apd, apo_l, notN_OI, isN_OI, dNe_n0, dTup_l, dTup_t, dNeg_i, dCutT_t, dCutL_l, dNe_t0, dEq_t0, dEq_l0, e1, e2, e3, c1, c2, k1, k2, l1, ad, l2, ee]⟩
    · exact ⟨x5, by simp [L1__law_least, -List.map_map, -List.map_drop, -List.map_take, -List.map_append, -List.map_dropLast, th_ok, th_ex, th_ite, e_bind, e_ret, e_opt, ts_ok, ts_ex, ts_ite, e_bindS, sq_nx, sq_rt, sq_ex, sq_bk, sq_ct, sq_ite, e_seqS, fin_nx, fin_rt, fin_ex, fin_ite, e_fnOf, wb_ok, wb_ex, wb_ite, vA1_b, e_vAnd, vO1_b, e_vOr, vN1_b, e_vNot, ch1_b, e_chM, e_toB, e_mAnd, e_mOr, e_mNot, e_mIte, e_iteS, lp_nx, lp_ct, lp_bk, lp_rt, lp_ex, lp_ite, forL_nil, forL_nm, e_forS, okArgs, isOwn, outs, nam, frz, look, lookAll, ap1, ap2, apA, un1, bin2, opA, isiM, retS, drpS, setS, setN, putS, put, unpS, asg, mCons, mNil, e_mTup, mt1_ok, e_mLst, ml1_ok, callM, argsOf, argOf, ownIx, Sk.wb, List.getElem?_cons_zero, List.getElem?_cons_succ, List.getElem?_nil, List.set_cons_zero, List.set_cons_succ, List.replicate_succ, List.replicate_zero, List.cons_append, List.nil_append, List.foldl_cons, List.foldl_nil, List.getD_cons_zero, List.getD_cons_succ, List.all_cons, List.all_nil, isiD, tyN, dLt, dLe, dGt, dGe, dAdd_i, dEq_i, dNe_i, dSub, iOp, dLen_t, dLen_l, e_seqM, sq1_l, sq1_t, e_partM, pa1_i, sliM, isN_none, notN_none, isN_int, notN_int, isN_bool, notN_bool, isN_str, notN_str, isN_list, notN_list, isN_tup, notN_tup, isN_dict, notN_dict, raiseS, mDat, mNew, e_callAt, cal_some, wbl_ok, wbl_ex, wbl_ite, e_lcM, e_rng1, e_rng2, e_enuM, en1_l, en1_t, e_zipM, zi1_l, dMnN_i, dMx_l, dMx_t, asg_nm, asg_tp, put, e_appM, isOwnL_l, e_apd, apo_l, notN_OI, isN_OI, dNe_n0, dTup_l, dTup_t, dNeg_i, dCutT_t, dCutL_l, dNe_t0, dEq_t0, dEq_l0, e1, e2, e3, c1, c2]⟩
  · exact ⟨x5, by simp [L1__law_least, -List.map_map, -List.map_drop, -List.map_take, -List.map_append, -List.map_dropLast, th_ok, th_ex, th_ite, e_bind, e_ret, e_opt, ts_ok, ts_ex, ts_ite, e_bindS, sq_nx, sq_rt, sq_ex, sq_bk, sq_ct, sq_ite, e_seqS, fin_nx, fin_rt, fin_ex, fin_ite, e_fnOf, wb_ok, wb_ex, wb_ite, vA1_b, e_vAnd, vO1_b, e_vOr, vN1_b, e_vNot, ch1_b, e_chM, e_toB, e_mAnd, e_mOr, e_mNot, e_mIte, e_iteS, lp_nx, lp_ct, lp_bk, lp_rt, lp_ex, lp_ite, forL_nil, forL_nm, e_forS, okArgs, isOwn, outs, nam, frz, look, lookAll, ap1, ap2, apA, un1, bin2, opA, isiM, retS, drpS, setS, setN, putS, put, unpS, asg, mCons, mNil, e_mTup, mt1_ok, e_mLst, ml1_ok, callM, argsOf, argOf, ownIx, Sk.wb, List.getElem?_cons_zero, List.getElem?_cons_succ, List.getElem?_nil, List.set_cons_zero, List.set_cons_succ, List.replicate_succ, List.replicate_zero, List.cons_append, List.nil_append, List.foldl_cons, List.foldl_nil, List.getD_cons_zero, List.getD_cons_succ, List.all_cons, List.all_nil, isiD, tyN, dLt, dLe, dGt, dGe, dAdd_i, dEq_i, dNe_i, dSub, iOp, dLen_t, dLen_l, e_seqM, sq1_l, sq1_t, e_partM, pa1_i, sliM, isN_none, notN_none, isN_int, notN_int, isN_bool, notN_bool, isN_str, notN_str, isN_list, notN_list, isN_tup, notN_tup, isN_dict, notN_dict, raiseS, mDat, mNew, e_callAt, cal_some, wbl_ok, wbl_ex, wbl_ite, e_lcM, e_rng1, e_rng2, e_enuM, en1_l, en1_t, e_zipM, zi1_l, dMnN_i, dMx_l, dMx_t, asg_nm, asg_tp, put, e_appM, isOwnL_l, e_apd, apo_l, notN_OI, isN_OI, dNe_n0, dTup_l, dTup_t, dNeg_i, dCutT_t, dCutL_l, dNe_t0, dEq_t0, dEq_l0, e1, e2, e3, c1]⟩
def LeastC (e : List Int) : CalT → Prop
  | none => True
  | some (a, r) => Cal.Least e a r
theorem r_lleast (e : List Int) (c : CalT) (ok : OkC e c) (h : LeastC e c) : m__law_least [.dat (encC e c)] = .ok (.bool true) [.dat (encC e c)] := by
  cases c with
  | none =>
    have nn := notin_N e
    simp [m__law_least, b__law_least, -List.map_map, -List.map_drop, -List.map_take, -List.map_append, -List.map_dropLast, th_ok, th_ex, th_ite, e_bind, e_ret, e_opt, ts_ok, ts_ex, ts_ite, e_bindS, sq_nx, sq_rt, sq_ex, sq_bk, sq_ct, sq_ite, e_seqS, fin_nx, fin_rt, fin_ex, fin_ite, e_fnOf, wb_ok, wb_ex, wb_ite, vA1_b, e_vAnd, vO1_b, e_vOr, vN1_b, e_vNot, ch1_b, e_chM, e_toB, e_mAnd, e_mOr, e_mNot, e_mIte, e_iteS, lp_nx, lp_ct, lp_bk, lp_rt, lp_ex, lp_ite, forL_nil, forL_nm, e_forS, okArgs, isOwn, outs, nam, frz, look, lookAll, ap1, ap2, apA, un1, bin2, opA, isiM, retS, drpS, setS, setN, putS, put, unpS, asg, mCons, mNil, e_mTup, mt1_ok, e_mLst, ml1_ok, callM, argsOf, argOf, ownIx, Sk.wb, List.getElem?_cons_zero, List.getElem?_cons_succ, List.getElem?_nil, List.set_cons_zero, List.set_cons_succ, List.replicate_succ, List.replicate_zero, List.cons_append, List.nil_append, List.foldl_cons, List.foldl_nil, List.getD_cons_zero, List.getD_cons_succ, List.all_cons, List.all_nil, isiD, tyN, dLt, dLe, dGt, dGe, dAdd_i, dEq_i, dNe_i, dSub, iOp, dLen_t, dLen_l, e_seqM, sq1_l, sq1_t, e_partM, pa1_i, sliM, isN_none, notN_none, isN_int, notN_int, isN_bool, notN_bool, isN_str, notN_str, isN_list, notN_list, isN_tup, notN_tup, isN_dict, notN_dict, raiseS, mDat, mNew, e_callAt, cal_some, wbl_ok, wbl_ex, wbl_ite, e_lcM, e_rng1, e_rng2, e_enuM, en1_l, en1_t, e_zipM, zi1_l, dMnN_i, dMx_l, dMx_t, asg_nm, asg_tp, put, e_appM, isOwnL_l, e_apd, apo_l, notN_OI, isN_OI, dNe_n0, dTup_l, dTup_t, dNeg_i, dCutT_t, dCutL_l, dNe_t0, dEq_t0, dEq_l0, encC, dEq_NN, nn]
  | some v =>
    obtain ⟨a, r⟩ := v
    obtain ⟨a0, al, r0, r1⟩ := ok.la a r rfl
    have h : Cal.Least e a r := h
    have nn := dEq_N a
    obtain ⟨st', e1, x4, x5, rfl⟩ := for_rng (i := 4) (body := L1__law_least) 1 (a.length - 1) (fun k st => ∃ x4 x5 : Sl, st = [.dat (encC e (some (a, r))), .dat (.tuple (e.map .int)), .dat (.tuple (a.map .int)), .dat (.int r), x4, x5, .un]) (fun k st hk h' => by
      obtain ⟨x4, x5, rfl⟩ := h'
      obtain ⟨y5, e2⟩ := ll1 e a r al (encC e (some (a, r))) x5 (1 + k) (by omega) (by omega) (h.no _ (by omega) (by omega))
      have ek : (1 : Int) + (k : Int) = ((1 + k : Nat) : Int) := by omega
      rw [ek]
      exact ⟨_, e2, _, _, rfl⟩) (st := [.dat (encC e (some (a, r))), .dat (.tuple (e.map .int)), .dat (.tuple (a.map .int)), .dat (.int r), .un, .un, .un]) ⟨_, _, rfl⟩
    have sm : Sml 1 (a.length : Int) := sml (by omega)
    have n1 : ((a.length : Int) - 1).toNat = a.length - 1 := by omega
    have et := dEq_tnil e
    have ane : a ≠ [] := List.length_pos_iff.mp a0
    have ia := dIx_lastT a ane
    unfold encC at e1 ⊢
    by_cases c : e = []
    · subst c
      simp only [List.map_nil] at e1
      simp [m__law_least, b__law_least, -List.map_map, -List.map_drop, -List.map_take, -List.map_append, -List.map_dropLast, th_ok, th_ex, th_ite, e_bind, e_ret, e_opt, ts_ok, ts_ex, ts_ite, e_bindS, sq_nx, sq_rt, sq_ex, sq_bk, sq_ct, sq_ite, e_seqS, fin_nx, fin_rt, fin_ex, fin_ite, e_fnOf, wb_ok, wb_ex, wb_ite, vA1_b, e_vAnd, vO1_b, e_vOr, vN1_b, e_vNot, ch1_b, e_chM, e_toB, e_mAnd, e_mOr, e_mNot, e_mIte, e_iteS, lp_nx, lp_ct, lp_bk, lp_rt, lp_ex, lp_ite, forL_nil, forL_nm, e_forS, okArgs, isOwn, outs, nam, frz, look, lookAll, ap1, ap2, apA, un1, bin2, opA, isiM, retS, drpS, setS, setN, putS, put, unpS, asg, mCons, mNil, e_mTup, mt1_ok, e_mLst, ml1_ok, callM, argsOf, argOf, ownIx, Sk.wb, List.getElem?_cons_zero, List.getElem?_cons_succ, List.getElem?_nil, List.set_cons_zero, List.set_cons_succ, List.replicate_succ, List.replicate_zero, List.cons_append, List.nil_append, List.foldl_cons, List.foldl_nil, List.getD_cons_zero, List.getD_cons_succ, List.all_cons, List.all_nil, isiD, tyN, dLt, dLe, dGt, dGe, dAdd_i, dEq_i, dNe_i, dSub, iOp, dLen_t, dLen_l, e_seqM, sq1_l, sq1_t, e_partM, pa1_i, sliM, isN_none, notN_none, isN_int, notN_int, isN_bool, notN_bool, isN_str, notN_str, isN_list, notN_list, isN_tup, notN_tup, isN_dict, notN_dict, raiseS, mDat, mNew, e_callAt, cal_some, wbl_ok, wbl_ex, wbl_ite, e_lcM, e_rng1, e_rng2, e_enuM, en1_l, en1_t, e_zipM, zi1_l, dMnN_i, dMx_l, dMx_t, asg_nm, asg_tp, put, e_appM, isOwnL_l, e_apd, apo_l, notN_OI, isN_OI, dNe_n0, dTup_l, dTup_t, dNeg_i, dCutT_t, dCutL_l, dNe_t0, dEq_t0, dEq_l0, nn, rn2_ok sm, n1, e1]
    · have il := dIx_lastT e c
      have ne := h.last.resolve_left c
      have ie : e.isEmpty = false := by cases e with | nil => exact absurd rfl c | cons _ _ => rfl
      generalize e.getLastD 0 = x at il ne
      generalize a.getLastD 0 = y at ia ne
      simp [m__law_least, b__law_least, -List.map_map, -List.map_drop, -List.map_take, -List.map_append, -List.map_dropLast, th_ok, th_ex, th_ite, e_bind, e_ret, e_opt, ts_ok, ts_ex, ts_ite, e_bindS, sq_nx, sq_rt, sq_ex, sq_bk, sq_ct, sq_ite, e_seqS, fin_nx, fin_rt, fin_ex, fin_ite, e_fnOf, wb_ok, wb_ex, wb_ite, vA1_b, e_vAnd, vO1_b, e_vOr, vN1_b, e_vNot, ch1_b, e_chM, e_toB, e_mAnd, e_mOr, e_mNot, e_mIte, e_iteS, lp_nx, lp_ct, lp_bk, lp_rt, lp_ex, lp_ite, forL_nil, forL_nm, e_forS, okArgs, isOwn, outs, nam, frz, look, lookAll, ap1, ap2, apA, un1, bin2, opA, isiM, retS, drpS, setS, setN, putS, put, unpS, asg, mCons, mNil, e_mTup, mt1_ok, e_mLst, ml1_ok, callM, argsOf, argOf, ownIx, Sk.wb, List.getElem?_cons_zero, List.getElem?_cons_succ, List.getElem?_nil, List.set_cons_zero, List.set_cons_succ, List.replicate_succ, List.replicate_zero, List.cons_append, List.nil_append, List.foldl_cons, List.foldl_nil, List.getD_cons_zero, List.getD_cons_succ, List.all_cons, List.all_nil, isiD, tyN, dLt, dLe, dGt, dGe, dAdd_i, dEq_i, dNe_i, dSub, iOp, dLen_t, dLen_l, e_seqM, sq1_l, sq1_t, e_partM, pa1_i, sliM, isN_none, notN_none, isN_int, notN_int, isN_bool, notN_bool, isN_str, notN_str, isN_list, notN_list, isN_tup, notN_tup, isN_dict, notN_dict, raiseS, mDat, mNew, e_callAt, cal_some, wbl_ok, wbl_ex, wbl_ite, e_lcM, e_rng1, e_rng2, e_enuM, en1_l, en1_t, e_zipM, zi1_l, dMnN_i, dMx_l, dMx_t, asg_nm, asg_tp, put, e_appM, isOwnL_l, e_apd, apo_l, notN_OI, isN_OI, dNe_n0, dTup_l, dTup_t, dNeg_i, dCutT_t, dCutL_l, dNe_t0, dEq_t0, dEq_l0, nn, rn2_ok sm, n1, e1, et, ie, il, ia, ne]
end Zk07
set_option maxHeartbeats 1000000
namespace Zk07
open PySem PySem.Spec PyProof.Rows L2 Sk LamX
/-! wills -/
def isWill : D → Bool
  | .tuple xs => decide (1 ≤ (xs.length : Int)) && decide ((xs.length : Int) ≤ 6) && xs.all (isFrom 1 6) && decide ((xs.map keyI).Nodup)
  | _ => false
where keyI : D → Int
  | .int i => i
  | _ => 0
theorem keys_of {xs : List D} (h : xs.all (isFrom 1 6) = true) : xs = (xs.map isWill.keyI).map .int := by
  induction xs with
  | nil => rfl
  | cons d xs ih =>
    rw [List.all_cons, Bool.and_eq_true] at h
    rw [List.map_cons, List.map_cons, ← ih h.2]
    congr 1
    cases d <;> simp [isFrom] at h
    rfl
def kvW (w : List Int) (v : D) : List (D × D) := w.map fun l => (.int l, v)
theorem pairs_W (v : D) : ∀ w : List Int, pairsD (w.map fun l => .tuple [.int l, v]) = some (w.map fun l => (.inl l, v))
  | [] => rfl
  | p :: g => by
    rw [List.map_cons]
    unfold pairsD
    rw [pairs_W v g]
    rfl
theorem has_W {v : D} {k : Int} : ∀ {w : List Int}, hasD (kvW w v) (.inl k) = decide (k ∈ w)
  | [] => by simp [kvW, hasD]
  | p :: g => by
    show (if keyOf (.int p) = some (.inl k) then true else hasD (kvW g v) (.inl k)) = _
    rw [has_W]
    by_cases c : p = k
    · subst c; simp [keyOf]
    · have : ¬ keyOf (.int p) = some (.inl k) := fun z => c (by simpa [keyOf] using z)
      rw [if_neg this]
      simp [Ne.symm c]
theorem swap_W {v : D} {k : Int} : ∀ {w : List Int}, swapD (kvW w v) (.inl k) v = kvW w v
  | [] => rfl
  | p :: g => by
    have ih := swap_W (v := v) (k := k) (w := g)
    unfold kvW at ih ⊢
    rw [List.map_cons]
    unfold swapD
    rw [ih]
    by_cases c : keyOf (.int p) = some (.inl k)
    · rw [if_pos c]
    · rw [if_neg c]
def addW (a : List Int) (l : Int) : List Int := if l ∈ a then a else a ++ [l]
theorem merge_W {v : D} : ∀ (w a : List Int), mergeD (kvW a v) (w.map fun l => (.inl l, v)) = kvW (w.foldl addW a) v
  | [], a => by simp [mergeD]
  | p :: g, a => by
    rw [List.map_cons, List.foldl_cons]
    unfold mergeD putD
    rw [has_W]
    by_cases c : p ∈ a
    · simp only [c, decide_true, if_true]
      rw [swap_W, merge_W]
      simp [addW, c]
    · simp only [c, decide_false, Bool.false_eq_true, if_false]
      have e : kvW a v ++ [(keyD (.inl p), v)] = kvW (a ++ [p]) v := by simp [kvW, keyD]
      rw [e, merge_W]
      simp [addW, c]
theorem addW_len : ∀ (w a : List Int), a.Nodup → ((w.foldl addW a).length = a.length + w.length ↔ (a ++ w).Nodup) ∧ (w.foldl addW a).length ≤ a.length + w.length
  | [], a, h => by simp [h]
  | p :: g, a, h => by
    rw [List.foldl_cons]
    by_cases c : p ∈ a
    · have e : addW a p = a := by simp [addW, c]
      rw [e]
      obtain ⟨_, h2⟩ := addW_len g a h
      rw [List.length_cons]
      refine ⟨⟨fun z => by omega, fun z => ?_⟩, by omega⟩
      rw [List.nodup_append] at z
      exact absurd rfl (z.2.2 p c p (List.mem_cons_self ..))
    · have e : addW a p = a ++ [p] := by simp [addW, c]
      rw [e]
      have h' : (a ++ [p]).Nodup := by
        rw [List.nodup_append]
        refine ⟨h, by simp, fun x hx y hy => ?_⟩
        have : y = p := by simpa using hy
        rintro rfl
        exact c (this ▸ hx)
      obtain ⟨h1, h2⟩ := addW_len g (a ++ [p]) h'
      rw [List.length_append, List.append_assoc] at h1
      rw [List.length_append] at h2
      rw [List.length_cons]
      simp only [List.length_cons, List.length_nil, List.singleton_append] at h1 h2
      exact ⟨⟨fun z => h1.mp (by omega), fun z => by have := h1.mpr z; omega⟩, by omega⟩
theorem dict_W (v : D) (w : List Int) (h : w.length ≤ cap) : dDict [.list (w.map fun l => .tuple [.int l, v])] = some (.dict (kvW (w.foldl addW []) v)) := by
  show (if (w.map fun l => PyData.tuple [.int l, v]).length ≤ cap then (pairsD (w.map fun l => .tuple [.int l, v])).map fun l => PyData.dict (mergeD [] l) else none) = _
  rw [if_pos (by simpa using h), pairs_W, Option.map_some]
  have := merge_W (v := v) w []
  exact congrArg (fun z => some (PyData.dict z)) this
theorem addW_nodup : ∀ (w a : List Int), (a ++ w).Nodup → w.foldl addW a = a ++ w
  | [], a, _ => by simp
  | p :: g, a, h => by
    rw [List.foldl_cons]
    have c : p ∉ a := fun z => by
      rw [List.nodup_append] at h
      exact h.2.2 p z p (List.mem_cons_self ..) rfl
    have e : addW a p = a ++ [p] := by simp [addW, c]
    rw [e, addW_nodup g (a ++ [p]) (by simpa using h)]
    simp
/-- a comprehension of pairs -/
theorem lc_pairs {i : Nat} {fe : M D} {v : D} {xs : List Int} {st : List Sl} (hi : i < st.length) (hc : xs.length ≤ cap) (hf : ∀ x ∈ xs, fe (st.set i (.dat (.int x))) = .ok (.tuple [.int x, v]) (st.set i (.dat (.int x)))) :
    lcL (.nm i) (M.ret true) fe [i] [] (xs.map .int) st = .ok (.list (xs.map fun l => .tuple [.int l, v])) st := by
  have h := lc_map (fe := fe) (g := fun d => .tuple [d, v]) (ds := xs.map .int) hi (by rw [List.length_map]; exact hc) (fun d hd => by
    obtain ⟨x, hx, rfl⟩ := List.mem_map.mp hd
    exact hf x hx)
  rw [h, List.map_map]
  rfl
theorem r_is_will (v : D) : m_is_will [.dat v] = .ok (.bool (isWill v)) [.dat v] := by
  cases v with
  | tuple xs =>
    by_cases h : 1 ≤ (xs.length : Int) ∧ (xs.length : Int) ≤ 6
    · have lc1 := lc_map (i := 1) (fe := C1_is_will) (g := fun d => .bool (isFrom 1 6 d)) (ds := xs) (st := [.dat (.tuple xs), .un]) (by simp) (by unfold cap; omega) (fun d _ => by simp [C1_is_will, -List.map_map, -List.map_drop, -List.map_take, -List.map_append, -List.map_dropLast, th_ok, th_ex, th_ite, e_bind, e_ret, e_opt, ts_ok, ts_ex, ts_ite, e_bindS, sq_nx, sq_rt, sq_ex, sq_bk, sq_ct, sq_ite, e_seqS, fin_nx, fin_rt, fin_ex, fin_ite, e_fnOf, wb_ok, wb_ex, wb_ite, vA1_b, e_vAnd, vO1_b, e_vOr, vN1_b, e_vNot, ch1_b, e_chM, e_toB, e_mAnd, e_mOr, e_mNot, e_mIte, e_iteS, lp_nx, lp_ct, lp_bk, lp_rt, lp_ex, lp_ite, forL_nil, forL_nm, e_forS, okArgs, isOwn, outs, nam, frz, look, lookAll, ap1, ap2, apA, un1, bin2, opA, isiM, retS, drpS, setS, setN, putS, put, unpS, asg, mCons, mNil, e_mTup, mt1_ok, e_mLst, ml1_ok, callM, argsOf, argOf, ownIx, Sk.wb, List.getElem?_cons_zero, List.getElem?_cons_succ, List.getElem?_nil, List.set_cons_zero, List.set_cons_succ, List.replicate_succ, List.replicate_zero, List.cons_append, List.nil_append, List.foldl_cons, List.foldl_nil, List.getD_cons_zero, List.getD_cons_succ, List.all_cons, List.all_nil, isiD, tyN, dLt, dLe, dGt, dGe, dAdd_i, dEq_i, dNe_i, dSub, iOp, dLen_t, dLen_l, e_seqM, sq1_l, sq1_t, e_partM, pa1_i, sliM, isN_none, notN_none, isN_int, notN_int, isN_bool, notN_bool, isN_str, notN_str, isN_list, notN_list, isN_tup, notN_tup, isN_dict, notN_dict, raiseS, mDat, mNew, e_callAt, cal_some, wbl_ok, wbl_ex, wbl_ite, e_lcM, e_rng1, e_rng2, e_enuM, en1_l, en1_t, e_zipM, zi1_l, dMnN_i, dMx_l, dMx_t, asg_nm, asg_tp, put, e_appM, isOwnL_l, e_apd, apo_l, notN_OI, isN_OI, dNe_n0, dTup_l, dTup_t, dNeg_i, dCutT_t, dCutL_l, dNe_t0, dEq_t0, dEq_l0, r_is_from])
      cases al : xs.all (isFrom 1 6) with
      | false => simp [m_is_will, b_is_will, -List.map_map, -List.map_drop, -List.map_take, -List.map_append, -List.map_dropLast, th_ok, th_ex, th_ite, e_bind, e_ret, e_opt, ts_ok, ts_ex, ts_ite, e_bindS, sq_nx, sq_rt, sq_ex, sq_bk, sq_ct, sq_ite, e_seqS, fin_nx, fin_rt, fin_ex, fin_ite, e_fnOf, wb_ok, wb_ex, wb_ite, vA1_b, e_vAnd, vO1_b, e_vOr, vN1_b, e_vNot, ch1_b, e_chM, e_toB, e_mAnd, e_mOr, e_mNot, e_mIte, e_iteS, lp_nx, lp_ct, lp_bk, lp_rt, lp_ex, lp_ite, forL_nil, forL_nm, e_forS, okArgs, isOwn, outs, nam, frz, look, lookAll, ap1, ap2, apA, un1, bin2, opA, isiM, retS, drpS, setS, setN, putS, put, unpS, asg, mCons, mNil, e_mTup, mt1_ok, e_mLst, ml1_ok, callM, argsOf, argOf, ownIx, Sk.wb, List.getElem?_cons_zero, List.getElem?_cons_succ, List.getElem?_nil, List.set_cons_zero, List.set_cons_succ, List.replicate_succ, List.replicate_zero, List.cons_append, List.nil_append, List.foldl_cons, List.foldl_nil, List.getD_cons_zero, List.getD_cons_succ, List.all_cons, List.all_nil, isiD, tyN, dLt, dLe, dGt, dGe, dAdd_i, dEq_i, dNe_i, dSub, iOp, dLen_t, dLen_l, e_seqM, sq1_l, sq1_t, e_partM, pa1_i, sliM, isN_none, notN_none, isN_int, notN_int, isN_bool, notN_bool, isN_str, notN_str, isN_list, notN_list, isN_tup, notN_tup, isN_dict, notN_dict, raiseS, mDat, mNew, e_callAt, cal_some, wbl_ok, wbl_ex, wbl_ite, e_lcM, e_rng1, e_rng2, e_enuM, en1_l, en1_t, e_zipM, zi1_l, dMnN_i, dMx_l, dMx_t, asg_nm, asg_tp, put, e_appM, isOwnL_l, e_apd, apo_l, notN_OI, isN_OI, dNe_n0, dTup_l, dTup_t, dNeg_i, dCutT_t, dCutL_l, dNe_t0, dEq_t0, dEq_l0, r_is_tuple, isTup, h, lc1, in_falseF, al, isWill]
      | true =>
        have ex := keys_of al
        have lc2 := lc_pairs (i := 1) (fe := C2_is_will) (v := .bool true) (xs := xs.map isWill.keyI) (st := [.dat (.tuple xs), .un]) (by simp) (by simp; unfold cap; omega) (fun d _ => by simp [C2_is_will, -List.map_map, -List.map_drop, -List.map_take, -List.map_append, -List.map_dropLast, th_ok, th_ex, th_ite, e_bind, e_ret, e_opt, ts_ok, ts_ex, ts_ite, e_bindS, sq_nx, sq_rt, sq_ex, sq_bk, sq_ct, sq_ite, e_seqS, fin_nx, fin_rt, fin_ex, fin_ite, e_fnOf, wb_ok, wb_ex, wb_ite, vA1_b, e_vAnd, vO1_b, e_vOr, vN1_b, e_vNot, ch1_b, e_chM, e_toB, e_mAnd, e_mOr, e_mNot, e_mIte, e_iteS, lp_nx, lp_ct, lp_bk, lp_rt, lp_ex, lp_ite, forL_nil, forL_nm, e_forS, okArgs, isOwn, outs, nam, frz, look, lookAll, ap1, ap2, apA, un1, bin2, opA, isiM, retS, drpS, setS, setN, putS, put, unpS, asg, mCons, mNil, e_mTup, mt1_ok, e_mLst, ml1_ok, callM, argsOf, argOf, ownIx, Sk.wb, List.getElem?_cons_zero, List.getElem?_cons_succ, List.getElem?_nil, List.set_cons_zero, List.set_cons_succ, List.replicate_succ, List.replicate_zero, List.cons_append, List.nil_append, List.foldl_cons, List.foldl_nil, List.getD_cons_zero, List.getD_cons_succ, List.all_cons, List.all_nil, isiD, tyN, dLt, dLe, dGt, dGe, dAdd_i, dEq_i, dNe_i, dSub, iOp, dLen_t, dLen_l, e_seqM, sq1_l, sq1_t, e_partM, pa1_i, sliM, isN_none, notN_none, isN_int, notN_int, isN_bool, notN_bool, isN_str, notN_str, isN_list, notN_list, isN_tup, notN_tup, isN_dict, notN_dict, raiseS, mDat, mNew, e_callAt, cal_some, wbl_ok, wbl_ex, wbl_ite, e_lcM, e_rng1, e_rng2, e_enuM, en1_l, en1_t, e_zipM, zi1_l, dMnN_i, dMx_l, dMx_t, asg_nm, asg_tp, put, e_appM, isOwnL_l, e_apd, apo_l, notN_OI, isN_OI, dNe_n0, dTup_l, dTup_t, dNeg_i, dCutT_t, dCutL_l, dNe_t0, dEq_t0, dEq_l0])
        rw [← ex] at lc2
        have dw := dict_W (.bool true) (xs.map isWill.keyI) (by simp; unfold cap; omega)
        have ln := (addW_len (xs.map isWill.keyI) [] List.nodup_nil).1
        have dl : dLenK [.dict (kvW ((xs.map isWill.keyI).foldl addW []) (.bool true))] = some (.int ((((xs.map isWill.keyI).foldl addW []).length : Nat) : Int)) := by
          show some (PyData.int _) = _
          rw [kvW, List.length_map]
        generalize hk : (xs.map isWill.keyI).foldl addW [] = K at dw dl ln
        have e1 : ((K.length : Int) == (xs.length : Int)) = decide ((xs.map isWill.keyI).Nodup) := by
          rw [List.nil_append] at ln
          by_cases c : (xs.map isWill.keyI).Nodup
          · have := ln.mpr c
            simp at this
            simp [c, this]
          · have : ¬ K.length = xs.length := fun z => c (ln.mp (by simpa using z))
            simp [c]
            omega
        simp [m_is_will, b_is_will, -List.map_map, -List.map_drop, -List.map_take, -List.map_append, -List.map_dropLast, th_ok, th_ex, th_ite, e_bind, e_ret, e_opt, ts_ok, ts_ex, ts_ite, e_bindS, sq_nx, sq_rt, sq_ex, sq_bk, sq_ct, sq_ite, e_seqS, fin_nx, fin_rt, fin_ex, fin_ite, e_fnOf, wb_ok, wb_ex, wb_ite, vA1_b, e_vAnd, vO1_b, e_vOr, vN1_b, e_vNot, ch1_b, e_chM, e_toB, e_mAnd, e_mOr, e_mNot, e_mIte, e_iteS, lp_nx, lp_ct, lp_bk, lp_rt, lp_ex, lp_ite, forL_nil, forL_nm, e_forS, okArgs, isOwn, outs, nam, frz, look, lookAll, ap1, ap2, apA, un1, bin2, opA, isiM, retS, drpS, setS, setN, putS, put, unpS, asg, mCons, mNil, e_mTup, mt1_ok, e_mLst, ml1_ok, callM, argsOf, argOf, ownIx, Sk.wb, List.getElem?_cons_zero, List.getElem?_cons_succ, List.getElem?_nil, List.set_cons_zero, List.set_cons_succ, List.replicate_succ, List.replicate_zero, List.cons_append, List.nil_append, List.foldl_cons, List.foldl_nil, List.getD_cons_zero, List.getD_cons_succ, List.all_cons, List.all_nil, isiD, tyN, dLt, dLe, dGt, dGe, dAdd_i, dEq_i, dNe_i, dSub, iOp, dLen_t, dLen_l, e_seqM, sq1_l, sq1_t, e_partM, pa1_i, sliM, isN_none, notN_none, isN_int, notN_int, isN_bool, notN_bool, isN_str, notN_str, isN_list, notN_list, isN_tup, notN_tup, isN_dict, notN_dict, raiseS, mDat, mNew, e_callAt, cal_some, wbl_ok, wbl_ex, wbl_ite, e_lcM, e_rng1, e_rng2, e_enuM, en1_l, en1_t, e_zipM, zi1_l, dMnN_i, dMx_l, dMx_t, asg_nm, asg_tp, put, e_appM, isOwnL_l, e_apd, apo_l, notN_OI, isN_OI, dNe_n0, dTup_l, dTup_t, dNeg_i, dCutT_t, dCutL_l, dNe_t0, dEq_t0, dEq_l0, r_is_tuple, isTup, h, lc1, in_falseF, al, lc2, dw, dl, e1, isWill]
    · have h' : (decide (1 ≤ (xs.length : Int)) && decide ((xs.length : Int) ≤ 6)) = false := by
        simp
        omega
      have e : isWill (.tuple xs) = false := by
        unfold isWill
        simp only
        rw [h']
        rfl
      rw [e]
      have rt : m_is_tuple [.dat (.tuple xs), .dat (.int 1), .dat (.int 6)] = .ok (.bool false) [.dat (.tuple xs), .dat (.int 1), .dat (.int 6)] := by
        rw [r_is_tuple]
        unfold isTup
        simp only
        rw [h']
      simp [m_is_will, b_is_will, -List.map_map, -List.map_drop, -List.map_take, -List.map_append, -List.map_dropLast, th_ok, th_ex, th_ite, e_bind, e_ret, e_opt, ts_ok, ts_ex, ts_ite, e_bindS, sq_nx, sq_rt, sq_ex, sq_bk, sq_ct, sq_ite, e_seqS, fin_nx, fin_rt, fin_ex, fin_ite, e_fnOf, wb_ok, wb_ex, wb_ite, vA1_b, e_vAnd, vO1_b, e_vOr, vN1_b, e_vNot, ch1_b, e_chM, e_toB, e_mAnd, e_mOr, e_mNot, e_mIte, e_iteS, lp_nx, lp_ct, lp_bk, lp_rt, lp_ex, lp_ite, forL_nil, forL_nm, e_forS, okArgs, isOwn, outs, nam, frz, look, lookAll, ap1, ap2, apA, un1, bin2, opA, isiM, retS, drpS, setS, setN, putS, put, unpS, asg, mCons, mNil, e_mTup, mt1_ok, e_mLst, ml1_ok, callM, argsOf, argOf, ownIx, Sk.wb, List.getElem?_cons_zero, List.getElem?_cons_succ, List.getElem?_nil, List.set_cons_zero, List.set_cons_succ, List.replicate_succ, List.replicate_zero, List.cons_append, List.nil_append, List.foldl_cons, List.foldl_nil, List.getD_cons_zero, List.getD_cons_succ, List.all_cons, List.all_nil, isiD, tyN, dLt, dLe, dGt, dGe, dAdd_i, dEq_i, dNe_i, dSub, iOp, dLen_t, dLen_l, e_seqM, sq1_l, sq1_t, e_partM, pa1_i, sliM, isN_none, notN_none, isN_int, notN_int, isN_bool, notN_bool, isN_str, notN_str, isN_list, notN_list, isN_tup, notN_tup, isN_dict, notN_dict, raiseS, mDat, mNew, e_callAt, cal_some, wbl_ok, wbl_ex, wbl_ite, e_lcM, e_rng1, e_rng2, e_enuM, en1_l, en1_t, e_zipM, zi1_l, dMnN_i, dMx_l, dMx_t, asg_nm, asg_tp, put, e_appM, isOwnL_l, e_apd, apo_l, notN_OI, isN_OI, dNe_n0, dTup_l, dTup_t, dNeg_i, dCutT_t, dCutL_l, dNe_t0, dEq_t0, dEq_l0, rt]
  | _ => simp [m_is_will, b_is_will, -List.map_map, -List.map_drop, -List.map_take, -List.map_append, -List.map_dropLast, th_ok, th_ex, th_ite, e_bind, e_ret, e_opt, ts_ok, ts_ex, ts_ite, e_bindS, sq_nx, sq_rt, sq_ex, sq_bk, sq_ct, sq_ite, e_seqS, fin_nx, fin_rt, fin_ex, fin_ite, e_fnOf, wb_ok, wb_ex, wb_ite, vA1_b, e_vAnd, vO1_b, e_vOr, vN1_b, e_vNot, ch1_b, e_chM, e_toB, e_mAnd, e_mOr, e_mNot, e_mIte, e_iteS, lp_nx, lp_ct, lp_bk, lp_rt, lp_ex, lp_ite, forL_nil, forL_nm, e_forS, okArgs, isOwn, outs, nam, frz, look, lookAll, ap1, ap2, apA, un1, bin2, opA, isiM, retS, drpS, setS, setN, putS, put, unpS, asg, mCons, mNil, e_mTup, mt1_ok, e_mLst, ml1_ok, callM, argsOf, argOf, ownIx, Sk.wb, List.getElem?_cons_zero, List.getElem?_cons_succ, List.getElem?_nil, List.set_cons_zero, List.set_cons_succ, List.replicate_succ, List.replicate_zero, List.cons_append, List.nil_append, List.foldl_cons, List.foldl_nil, List.getD_cons_zero, List.getD_cons_succ, List.all_cons, List.all_nil, isiD, tyN, dLt, dLe, dGt, dGe, dAdd_i, dEq_i, dNe_i, dSub, iOp, dLen_t, dLen_l, e_seqM, sq1_l, sq1_t, e_partM, pa1_i, sliM, isN_none, notN_none, isN_int, notN_int, isN_bool, notN_bool, isN_str, notN_str, isN_list, notN_list, isN_tup, notN_tup, isN_dict, notN_dict, raiseS, mDat, mNew, e_callAt, cal_some, wbl_ok, wbl_ex, wbl_ite, e_lcM, e_rng1, e_rng2, e_enuM, en1_l, en1_t, e_zipM, zi1_l, dMnN_i, dMx_l, dMx_t, asg_nm, asg_tp, put, e_appM, isOwnL_l, e_apd, apo_l, notN_OI, isN_OI, dNe_n0, dTup_l, dTup_t, dNeg_i, dCutT_t, dCutL_l, dNe_t0, dEq_t0, dEq_l0, r_is_tuple, isTup, isWill]
theorem r_need_will (v : D) : m_need_will [.dat v] = if isWill v = true then .ok .none [.dat v] else .ex ⟨2, none⟩ [.dat v] := by
  simp [m_need_will, b_need_will, -List.map_map, -List.map_drop, -List.map_take, -List.map_append, -List.map_dropLast, th_ok, th_ex, th_ite, e_bind, e_ret, e_opt, ts_ok, ts_ex, ts_ite, e_bindS, sq_nx, sq_rt, sq_ex, sq_bk, sq_ct, sq_ite, e_seqS, fin_nx, fin_rt, fin_ex, fin_ite, e_fnOf, wb_ok, wb_ex, wb_ite, vA1_b, e_vAnd, vO1_b, e_vOr, vN1_b, e_vNot, ch1_b, e_chM, e_toB, e_mAnd, e_mOr, e_mNot, e_mIte, e_iteS, lp_nx, lp_ct, lp_bk, lp_rt, lp_ex, lp_ite, forL_nil, forL_nm, e_forS, okArgs, isOwn, outs, nam, frz, look, lookAll, ap1, ap2, apA, un1, bin2, opA, isiM, retS, drpS, setS, setN, putS, put, unpS, asg, mCons, mNil, e_mTup, mt1_ok, e_mLst, ml1_ok, callM, argsOf, argOf, ownIx, Sk.wb, List.getElem?_cons_zero, List.getElem?_cons_succ, List.getElem?_nil, List.set_cons_zero, List.set_cons_succ, List.replicate_succ, List.replicate_zero, List.cons_append, List.nil_append, List.foldl_cons, List.foldl_nil, List.getD_cons_zero, List.getD_cons_succ, List.all_cons, List.all_nil, isiD, tyN, dLt, dLe, dGt, dGe, dAdd_i, dEq_i, dNe_i, dSub, iOp, dLen_t, dLen_l, e_seqM, sq1_l, sq1_t, e_partM, pa1_i, sliM, isN_none, notN_none, isN_int, notN_int, isN_bool, notN_bool, isN_str, notN_str, isN_list, notN_list, isN_tup, notN_tup, isN_dict, notN_dict, raiseS, mDat, mNew, e_callAt, cal_some, wbl_ok, wbl_ex, wbl_ite, e_lcM, e_rng1, e_rng2, e_enuM, en1_l, en1_t, e_zipM, zi1_l, dMnN_i, dMx_l, dMx_t, asg_nm, asg_tp, put, e_appM, isOwnL_l, e_apd, apo_l, notN_OI, isN_OI, dNe_n0, dTup_l, dTup_t, dNeg_i, dCutT_t, dCutL_l, dNe_t0, dEq_t0, dEq_l0, r_is_will]
  cases isWill v <;> simp
structure GoodW (w : List Int) : Prop where
  ne : w ≠ []
  ln : w.length ≤ 6
  lo : ∀ l ∈ w, 1 ≤ l ∧ l ≤ 6
  nd : w.Nodup
theorem will_of {w : List Int} (h : GoodW w) : isWill (encI w) = true := by
  unfold encI isWill
  simp only
  have l1 : 0 < w.length := List.length_pos_iff.mpr h.ne
  have l2 := h.ln
  have e : (w.map PyData.int).map isWill.keyI = w := by
    rw [List.map_map]
    exact List.map_id' w
  have al : (w.map PyData.int).all (isFrom 1 6) = true := by
    rw [List.all_eq_true]
    intro d hd
    obtain ⟨l, hl, rfl⟩ := List.mem_map.mp hd
    have := h.lo l hl
    simp [isFrom]
    omega
  rw [al, e]
  simp [h.nd]
  omega
theorem will_form {v : D} (h : isWill v = true) : ∃ w, v = encI w ∧ GoodW w := by
  unfold isWill at h
  split at h
  · rename_i xs
    simp only [Bool.and_eq_true, decide_eq_true_eq] at h
    obtain ⟨⟨⟨h1, h2⟩, h3⟩, h4⟩ := h
    refine ⟨xs.map isWill.keyI, ?_, ?_, by simp; omega, ?_, h4⟩
    · unfold encI
      rw [← keys_of h3]
    · intro z
      have := congrArg List.length z
      simp at this
      subst this
      simp at h1
    · intro l hl
      obtain ⟨d, hd, rfl⟩ := List.mem_map.mp hl
      have := List.all_eq_true.mp h3 d hd
      cases d <;> simp [isFrom] at this
      simp [isWill.keyI]
      omega
  · cases h
end Zk07
set_option maxHeartbeats 1000000
namespace Zk07
open PySem PySem.Spec PyProof.Rows L2 Sk LamX
/-! a walker with a will -/
def canL (f : List Int) (n p : Int) (l : Int) : Bool := decide (n < p + l) || decide (0 < stone f (p + l))
def firstL (f w : List Int) (n p : Int) : Option Int := (w.filter (canL f n p)).head?
def goF (f w : List Int) (n : Int) : Nat → Int → List Int × Bool
  | 0, _ => ([], true)
  | k + 1, p => if p ≤ n then match firstL f w n p with
      | none => ([], false)
      | some l => (l :: (goF f w n k (p + l)).1, (goF f w n k (p + l)).2)
    else ([], true)
def goW (f w : List Int) (n p : Int) : List Int × Bool := goF f w n (n + 1 - p).toNat p
section
variable {f w : List Int} (hw : ∀ l ∈ w, 1 ≤ l)
include hw
theorem first_in {n p l : Int} (h : firstL f w n p = some l) : l ∈ w ∧ canL f n p l = true := by
  unfold firstL at h
  have := List.mem_of_mem_head? h
  exact List.mem_filter.mp this
theorem go_fuel (n : Int) : ∀ (m k : Nat) (p : Int), (n + 1 - p).toNat ≤ m → (n + 1 - p).toNat ≤ k → goF f w n k p = goW f w n p
  | 0, k, p, h, hk => by
    have c : ¬ p ≤ n := by omega
    have z : (n + 1 - p).toNat = 0 := by omega
    unfold goW
    rw [z]
    cases k with
    | zero => rfl
    | succ k =>
      show (if p ≤ n then _ else _) = _
      rw [if_neg c]
      rfl
  | m + 1, k, p, h, hk => by
    by_cases c : p ≤ n
    · obtain ⟨j, hj⟩ : ∃ j, (n + 1 - p).toNat = j + 1 := ⟨(n + 1 - p).toNat - 1, by omega⟩
      obtain ⟨i, rfl⟩ : ∃ i, k = i + 1 := ⟨k - 1, by omega⟩
      unfold goW
      rw [hj]
      unfold goF
      rw [if_pos c, if_pos c]
      cases e : firstL f w n p with
      | none => rfl
      | some l =>
        have l1 := hw l (first_in hw e).1
        simp only
        rw [go_fuel n m i (p + l) (by omega) (by omega), go_fuel n m j (p + l) (by omega) (by omega)]
    · have z : (n + 1 - p).toNat = 0 := by omega
      unfold goW
      rw [z]
      cases k with
      | zero => rfl
      | succ k =>
        show (if p ≤ n then _ else _) = _
        rw [if_neg c]
        rfl
theorem go_end {n p : Int} (h : n < p) : goW f w n p = ([], true) := by
  unfold goW
  have z : (n + 1 - p).toNat = 0 := by omega
  rw [z]
  rfl
theorem go_step {n p : Int} (h : p ≤ n) : goW f w n p = match firstL f w n p with
    | none => ([], false)
    | some l => (l :: (goW f w n (p + l)).1, (goW f w n (p + l)).2) := by
  have e := go_fuel (f := f) hw n (n + 1 - p).toNat ((n + 1 - p).toNat + 1) p (Nat.le_refl _) (by omega)
  rw [← e]
  unfold goF
  rw [if_pos h]
  cases c : firstL f w n p with
  | none => rfl
  | some l =>
    have l1 := hw l (first_in hw c).1
    simp only
    rw [go_fuel hw n _ _ (p + l) (Nat.le_refl _) (by omega)]
theorem go_len (n : Int) : ∀ (m : Nat) (p : Int), (n + 1 - p).toNat ≤ m → ((goW f w n p).1.length : Int) ≤ m
  | 0, p, h => by
    rw [go_end hw (by omega)]
    simp
  | m + 1, p, h => by
    by_cases c : p ≤ n
    · rw [go_step hw c]
      cases e : firstL f w n p with
      | none => simp; omega
      | some l =>
        have l1 := hw l (first_in hw e).1
        have := go_len n m (p + l) (by omega)
        simp
        omega
    · rw [go_end hw (by omega)]
      simp
      omega
theorem go_mem (n : Int) : ∀ (m : Nat) (p : Int), (n + 1 - p).toNat ≤ m → ∀ l ∈ (goW f w n p).1, l ∈ w
  | 0, p, h, l, hl => by
    rw [go_end hw (by omega)] at hl
    cases hl
  | m + 1, p, h, l, hl => by
    by_cases c : p ≤ n
    · rw [go_step hw c] at hl
      cases e : firstL f w n p with
      | none => rw [e] at hl; cases hl
      | some l' =>
        rw [e] at hl
        have l1 := hw l' (first_in hw e).1
        rcases List.mem_cons.mp hl with rfl | hl
        · exact (first_in hw e).1
        · exact go_mem n m (p + l') (by omega) l hl
    · rw [go_end hw (by omega)] at hl
      cases hl
end
section
variable {f w : List Int} (hf : f ≠ []) (hw : GoodW w)
include hf hw
theorem GoodW.one : ∀ l ∈ w, 1 ≤ l := fun l h => (hw.lo l h).1
theorem somes_len {q : Int → Bool} : (w.filter q).length ≤ cap := Nat.le_trans (List.length_filter_le ..) (by have := hw.ln; unfold cap; omega)
theorem head_some {xs : List Int} {l : Int} (h : xs.head? = some l) : dIx (.list (xs.map .int)) (.int 0) = some (.int l) ∧ xs.isEmpty = false := by
  cases xs with
  | nil => cases h
  | cons x xs => cases h; exact ⟨dIx_atL (xs := l :: xs) (i := 0) (k := 0) rfl (by simp), rfl⟩
theorem head_none {xs : List Int} (h : xs.head? = none) : xs = [] := by
  cases xs with
  | nil => rfl
  | cons x xs => cases h
theorem r_gone (n : Nat) (hn : n ≤ 1000000) : m_gone [.dat (encI f), .dat (encI w), .dat (.int (n : Int))] = .ok (.tuple [encL (goW f w n 0).1, .bool (goW f w n 0).2]) [.dat (encI f), .dat (encI w), .dat (.int (n : Int))] := by
  have one := GoodW.one hf hw
  have gl := go_len (f := f) one (n : Int) ((n : Int) + 1 - 0).toNat 0 (Nat.le_refl _)
  generalize hR : goW f w (n : Int) 0 = R at gl ⊢
  have sw : sq1 (encI w) = M.ret (w.map .int) := rfl
  have lp : (R.2 = true → ∃ x3 x5 : Sl, whlS W1_gone L1_gone [] [.dat (encI f), .dat (encI w), .dat (.int (n : Int)), .dat (.int 0), .own (.list []), .un, .un] = .nx [.dat (encI f), .dat (encI w), .dat (.int (n : Int)), x3, .own (encL R.1), x5, .un]) ∧
      (R.2 = false → ∃ st' : List Sl, whlS W1_gone L1_gone [] [.dat (encI f), .dat (encI w), .dat (.int (n : Int)), .dat (.int 0), .own (.list []), .un, .un] = .rt (.tuple [encL R.1, .bool false]) st') := by
    refine whl_inv (fun m st => ∃ (p : Int) (acc : List Int) (x5 : Sl), st = [.dat (encI f), .dat (encI w), .dat (.int (n : Int)), .dat (.int p), .own (.list (acc.map .int)), x5, .un] ∧ m = ((n : Int) + 1 - p).toNat ∧ 0 ≤ p ∧ acc ++ (goW f w n p).1 = R.1 ∧ (goW f w n p).2 = R.2)
      (fun o => (R.2 = true → ∃ x3 x5 : Sl, o = .nx [.dat (encI f), .dat (encI w), .dat (.int (n : Int)), x3, .own (encL R.1), x5, .un]) ∧ (R.2 = false → ∃ st' : List Sl, o = .rt (.tuple [encL R.1, .bool false]) st')) ?_ (fun m st h => ?_) (m := ((n : Int) + 1 - 0).toNat) ⟨0, [], .un, rfl, rfl, by omega, by rw [hR]; rfl, by rw [hR]⟩
    · rintro ⟨h1, h2⟩
      cases c : R.2 with
      | true => obtain ⟨_, _, h⟩ := h1 c; cases h
      | false => obtain ⟨_, h⟩ := h2 c; cases h
    · obtain ⟨p, acc, x5, rfl, rfl, p0, e1, e2⟩ := h
      by_cases c : p ≤ n
      · right
        refine ⟨[.dat (encI f), .dat (encI w), .dat (.int (n : Int)), .dat (.int p), .own (.list (acc.map .int)), x5, .un], by simp [W1_gone, -List.map_map, -List.map_drop, -List.map_take, -List.map_append, -List.map_dropLast, th_ok, th_ex, th_ite, e_bind, e_ret, e_opt, ts_ok, ts_ex, ts_ite, e_bindS, sq_nx, sq_rt, sq_ex, sq_bk, sq_ct, sq_ite, e_seqS, fin_nx, fin_rt, fin_ex, fin_ite, e_fnOf, wb_ok, wb_ex, wb_ite, vA1_b, e_vAnd, vO1_b, e_vOr, vN1_b, e_vNot, ch1_b, e_chM, e_toB, e_mAnd, e_mOr, e_mNot, e_mIte, e_iteS, lp_nx, lp_ct, lp_bk, lp_rt, lp_ex, lp_ite, forL_nil, forL_nm, e_forS, okArgs, isOwn, outs, nam, frz, look, lookAll, ap1, ap2, apA, un1, bin2, opA, isiM, retS, drpS, setS, setN, putS, put, unpS, asg, mCons, mNil, e_mTup, mt1_ok, e_mLst, ml1_ok, callM, argsOf, argOf, ownIx, Sk.wb, List.getElem?_cons_zero, List.getElem?_cons_succ, List.getElem?_nil, List.set_cons_zero, List.set_cons_succ, List.replicate_succ, List.replicate_zero, List.cons_append, List.nil_append, List.foldl_cons, List.foldl_nil, List.getD_cons_zero, List.getD_cons_succ, List.all_cons, List.all_nil, isiD, tyN, dLt, dLe, dGt, dGe, dAdd_i, dEq_i, dNe_i, dSub, iOp, dLen_t, dLen_l, e_seqM, sq1_l, sq1_t, e_partM, pa1_i, sliM, isN_none, notN_none, isN_int, notN_int, isN_bool, notN_bool, isN_str, notN_str, isN_list, notN_list, isN_tup, notN_tup, isN_dict, notN_dict, raiseS, mDat, mNew, e_callAt, cal_some, wbl_ok, wbl_ex, wbl_ite, e_lcM, e_rng1, e_rng2, e_enuM, en1_l, en1_t, e_zipM, zi1_l, dMnN_i, dMx_l, dMx_t, asg_nm, asg_tp, put, e_appM, isOwnL_l, e_apd, apo_l, notN_OI, isN_OI, dNe_n0, dTup_l, dTup_t, dNeg_i, dCutT_t, dCutL_l, dNe_t0, dEq_t0, dEq_l0, c], ?_⟩
        have lc := lc_intsF (i := 6) (p := F1_gone) (fe := C1_gone) (q := canL f n p) (g := fun x => x) (xs := w) (st := [.dat (encI f), .dat (encI w), .dat (.int (n : Int)), .dat (.int p), .own (.list (acc.map .int)), x5, .un]) (by simp) (by have := hw.ln; unfold cap; omega) (fun l _ => by
          have rs := r_strength f (p + l) hf
          by_cases c1 : (n : Int) < p + l
          · simp [F1_gone, -List.map_map, -List.map_drop, -List.map_take, -List.map_append, -List.map_dropLast, th_ok, th_ex, th_ite, e_bind, e_ret, e_opt, ts_ok, ts_ex, ts_ite, e_bindS, sq_nx, sq_rt, sq_ex, sq_bk, sq_ct, sq_ite, e_seqS, fin_nx, fin_rt, fin_ex, fin_ite, e_fnOf, wb_ok, wb_ex, wb_ite, vA1_b, e_vAnd, vO1_b, e_vOr, vN1_b, e_vNot, ch1_b, e_chM, e_toB, e_mAnd, e_mOr, e_mNot, e_mIte, e_iteS, lp_nx, lp_ct, lp_bk, lp_rt, lp_ex, lp_ite, forL_nil, forL_nm, e_forS, okArgs, isOwn, outs, nam, frz, look, lookAll, ap1, ap2, apA, un1, bin2, opA, isiM, retS, drpS, setS, setN, putS, put, unpS, asg, mCons, mNil, e_mTup, mt1_ok, e_mLst, ml1_ok, callM, argsOf, argOf, ownIx, Sk.wb, List.getElem?_cons_zero, List.getElem?_cons_succ, List.getElem?_nil, List.set_cons_zero, List.set_cons_succ, List.replicate_succ, List.replicate_zero, List.cons_append, List.nil_append, List.foldl_cons, List.foldl_nil, List.getD_cons_zero, List.getD_cons_succ, List.all_cons, List.all_nil, isiD, tyN, dLt, dLe, dGt, dGe, dAdd_i, dEq_i, dNe_i, dSub, iOp, dLen_t, dLen_l, e_seqM, sq1_l, sq1_t, e_partM, pa1_i, sliM, isN_none, notN_none, isN_int, notN_int, isN_bool, notN_bool, isN_str, notN_str, isN_list, notN_list, isN_tup, notN_tup, isN_dict, notN_dict, raiseS, mDat, mNew, e_callAt, cal_some, wbl_ok, wbl_ex, wbl_ite, e_lcM, e_rng1, e_rng2, e_enuM, en1_l, en1_t, e_zipM, zi1_l, dMnN_i, dMx_l, dMx_t, asg_nm, asg_tp, put, e_appM, isOwnL_l, e_apd, apo_l, notN_OI, isN_OI, dNe_n0, dTup_l, dTup_t, dNeg_i, dCutT_t, dCutL_l, dNe_t0, dEq_t0, dEq_l0, c1, canL]
          · simp [F1_gone, -List.map_map, -List.map_drop, -List.map_take, -List.map_append, -List.map_dropLast, th_ok, th_ex, th_ite, e_bind, e_ret, e_opt, ts_ok, ts_ex, ts_ite, e_bindS, sq_nx, sq_rt, sq_ex, sq_bk, sq_ct, sq_ite, e_seqS, fin_nx, fin_rt, fin_ex, fin_ite, e_fnOf, wb_ok, wb_ex, wb_ite, vA1_b, e_vAnd, vO1_b, e_vOr, vN1_b, e_vNot, ch1_b, e_chM, e_toB, e_mAnd, e_mOr, e_mNot, e_mIte, e_iteS, lp_nx, lp_ct, lp_bk, lp_rt, lp_ex, lp_ite, forL_nil, forL_nm, e_forS, okArgs, isOwn, outs, nam, frz, look, lookAll, ap1, ap2, apA, un1, bin2, opA, isiM, retS, drpS, setS, setN, putS, put, unpS, asg, mCons, mNil, e_mTup, mt1_ok, e_mLst, ml1_ok, callM, argsOf, argOf, ownIx, Sk.wb, List.getElem?_cons_zero, List.getElem?_cons_succ, List.getElem?_nil, List.set_cons_zero, List.set_cons_succ, List.replicate_succ, List.replicate_zero, List.cons_append, List.nil_append, List.foldl_cons, List.foldl_nil, List.getD_cons_zero, List.getD_cons_succ, List.all_cons, List.all_nil, isiD, tyN, dLt, dLe, dGt, dGe, dAdd_i, dEq_i, dNe_i, dSub, iOp, dLen_t, dLen_l, e_seqM, sq1_l, sq1_t, e_partM, pa1_i, sliM, isN_none, notN_none, isN_int, notN_int, isN_bool, notN_bool, isN_str, notN_str, isN_list, notN_list, isN_tup, notN_tup, isN_dict, notN_dict, raiseS, mDat, mNew, e_callAt, cal_some, wbl_ok, wbl_ex, wbl_ite, e_lcM, e_rng1, e_rng2, e_enuM, en1_l, en1_t, e_zipM, zi1_l, dMnN_i, dMx_l, dMx_t, asg_nm, asg_tp, put, e_appM, isOwnL_l, e_apd, apo_l, notN_OI, isN_OI, dNe_n0, dTup_l, dTup_t, dNeg_i, dCutT_t, dCutL_l, dNe_t0, dEq_t0, dEq_l0, c1, canL, rs]) (fun l _ _ => by simp [C1_gone, -List.map_map, -List.map_drop, -List.map_take, -List.map_append, -List.map_dropLast, th_ok, th_ex, th_ite, e_bind, e_ret, e_opt, ts_ok, ts_ex, ts_ite, e_bindS, sq_nx, sq_rt, sq_ex, sq_bk, sq_ct, sq_ite, e_seqS, fin_nx, fin_rt, fin_ex, fin_ite, e_fnOf, wb_ok, wb_ex, wb_ite, vA1_b, e_vAnd, vO1_b, e_vOr, vN1_b, e_vNot, ch1_b, e_chM, e_toB, e_mAnd, e_mOr, e_mNot, e_mIte, e_iteS, lp_nx, lp_ct, lp_bk, lp_rt, lp_ex, lp_ite, forL_nil, forL_nm, e_forS, okArgs, isOwn, outs, nam, frz, look, lookAll, ap1, ap2, apA, un1, bin2, opA, isiM, retS, drpS, setS, setN, putS, put, unpS, asg, mCons, mNil, e_mTup, mt1_ok, e_mLst, ml1_ok, callM, argsOf, argOf, ownIx, Sk.wb, List.getElem?_cons_zero, List.getElem?_cons_succ, List.getElem?_nil, List.set_cons_zero, List.set_cons_succ, List.replicate_succ, List.replicate_zero, List.cons_append, List.nil_append, List.foldl_cons, List.foldl_nil, List.getD_cons_zero, List.getD_cons_succ, List.all_cons, List.all_nil, isiD, tyN, dLt, dLe, dGt, dGe, dAdd_i, dEq_i, dNe_i, dSub, iOp, dLen_t, dLen_l, e_seqM, sq1_l, sq1_t, e_partM, pa1_i, sliM, isN_none, notN_none, isN_int, notN_int, isN_bool, notN_bool, isN_str, notN_str, isN_list, notN_list, isN_tup, notN_tup, isN_dict, notN_dict, raiseS, mDat, mNew, e_callAt, cal_some, wbl_ok, wbl_ex, wbl_ite, e_lcM, e_rng1, e_rng2, e_enuM, en1_l, en1_t, e_zipM, zi1_l, dMnN_i, dMx_l, dMx_t, asg_nm, asg_tp, put, e_appM, isOwnL_l, e_apd, apo_l, notN_OI, isN_OI, dNe_n0, dTup_l, dTup_t, dNeg_i, dCutT_t, dCutL_l, dNe_t0, dEq_t0, dEq_l0])
        rw [filter_map_id] at lc
        rw [go_step one c] at e1 e2
        cases e : firstL f w n p with
        | none =>
          rw [e] at e1 e2
          right; right
          have en := head_none hf hw e
          rw [en] at lc
          have ea : acc = R.1 := by simpa using e1
          simp only [List.map_nil] at lc
          have e2 : false = R.2 := e2
          subst ea
          refine ⟨.tuple [.list (R.1.map .int), .bool false], [.dat (encI f), .dat (encI w), .dat (.int (n : Int)), .dat (.int p), .dat (.list (R.1.map .int)), .own (.list []), .un], by simp [L1_gone, -List.map_map, -List.map_drop, -List.map_take, -List.map_append, -List.map_dropLast, th_ok, th_ex, th_ite, e_bind, e_ret, e_opt, ts_ok, ts_ex, ts_ite, e_bindS, sq_nx, sq_rt, sq_ex, sq_bk, sq_ct, sq_ite, e_seqS, fin_nx, fin_rt, fin_ex, fin_ite, e_fnOf, wb_ok, wb_ex, wb_ite, vA1_b, e_vAnd, vO1_b, e_vOr, vN1_b, e_vNot, ch1_b, e_chM, e_toB, e_mAnd, e_mOr, e_mNot, e_mIte, e_iteS, lp_nx, lp_ct, lp_bk, lp_rt, lp_ex, lp_ite, forL_nil, forL_nm, e_forS, okArgs, isOwn, outs, nam, frz, look, lookAll, ap1, ap2, apA, un1, bin2, opA, isiM, retS, drpS, setS, setN, putS, put, unpS, asg, mCons, mNil, e_mTup, mt1_ok, e_mLst, ml1_ok, callM, argsOf, argOf, ownIx, Sk.wb, List.getElem?_cons_zero, List.getElem?_cons_succ, List.getElem?_nil, List.set_cons_zero, List.set_cons_succ, List.replicate_succ, List.replicate_zero, List.cons_append, List.nil_append, List.foldl_cons, List.foldl_nil, List.getD_cons_zero, List.getD_cons_succ, List.all_cons, List.all_nil, isiD, tyN, dLt, dLe, dGt, dGe, dAdd_i, dEq_i, dNe_i, dSub, iOp, dLen_t, dLen_l, e_seqM, sq1_l, sq1_t, e_partM, pa1_i, sliM, isN_none, notN_none, isN_int, notN_int, isN_bool, notN_bool, isN_str, notN_str, isN_list, notN_list, isN_tup, notN_tup, isN_dict, notN_dict, raiseS, mDat, mNew, e_callAt, cal_some, wbl_ok, wbl_ex, wbl_ite, e_lcM, e_rng1, e_rng2, e_enuM, en1_l, en1_t, e_zipM, zi1_l, dMnN_i, dMx_l, dMx_t, asg_nm, asg_tp, put, e_appM, isOwnL_l, e_apd, apo_l, notN_OI, isN_OI, dNe_n0, dTup_l, dTup_t, dNeg_i, dCutT_t, dCutL_l, dNe_t0, dEq_t0, dEq_l0, sw, lc], ⟨fun z => (by rw [← e2] at z; cases z), fun _ => ⟨_, rfl⟩⟩⟩
        | some l =>
          rw [e] at e1 e2
          simp only at e1 e2
          left
          obtain ⟨i0, ie⟩ := head_some hf hw e
          have l1 := one l (first_in one e).1
          have dn := dEq_lnil (w.filter (canL f n p))
          rw [ie] at dn
          have al : acc.length < cap := by
            have := congrArg List.length e1
            simp at this
            unfold cap
            omega
          refine ⟨[.dat (encI f), .dat (encI w), .dat (.int (n : Int)), .dat (.int (p + l)), .own (.list ((acc ++ [l]).map .int)), .own (.list ((w.filter (canL f n p)).map .int)), .un], .inl ?_, ((n : Int) + 1 - (p + l)).toNat, by omega, p + l, acc ++ [l], _, rfl, rfl, by omega, by simpa using e1, e2⟩
          generalize w.filter (canL f n p) = S at lc i0 dn
          have mp : acc.map PyData.int ++ [PyData.int l] = (acc ++ [l]).map .int := by simp
          simp [L1_gone, -List.map_map, -List.map_drop, -List.map_take, -List.map_append, -List.map_dropLast, th_ok, th_ex, th_ite, e_bind, e_ret, e_opt, ts_ok, ts_ex, ts_ite, e_bindS, sq_nx, sq_rt, sq_ex, sq_bk, sq_ct, sq_ite, e_seqS, fin_nx, fin_rt, fin_ex, fin_ite, e_fnOf, wb_ok, wb_ex, wb_ite, vA1_b, e_vAnd, vO1_b, e_vOr, vN1_b, e_vNot, ch1_b, e_chM, e_toB, e_mAnd, e_mOr, e_mNot, e_mIte, e_iteS, lp_nx, lp_ct, lp_bk, lp_rt, lp_ex, lp_ite, forL_nil, forL_nm, e_forS, okArgs, isOwn, outs, nam, frz, look, lookAll, ap1, ap2, apA, un1, bin2, opA, isiM, retS, drpS, setS, setN, putS, put, unpS, asg, mCons, mNil, e_mTup, mt1_ok, e_mLst, ml1_ok, callM, argsOf, argOf, ownIx, Sk.wb, List.getElem?_cons_zero, List.getElem?_cons_succ, List.getElem?_nil, List.set_cons_zero, List.set_cons_succ, List.replicate_succ, List.replicate_zero, List.cons_append, List.nil_append, List.foldl_cons, List.foldl_nil, List.getD_cons_zero, List.getD_cons_succ, List.all_cons, List.all_nil, isiD, tyN, dLt, dLe, dGt, dGe, dAdd_i, dEq_i, dNe_i, dSub, iOp, dLen_t, dLen_l, e_seqM, sq1_l, sq1_t, e_partM, pa1_i, sliM, isN_none, notN_none, isN_int, notN_int, isN_bool, notN_bool, isN_str, notN_str, isN_list, notN_list, isN_tup, notN_tup, isN_dict, notN_dict, raiseS, mDat, mNew, e_callAt, cal_some, wbl_ok, wbl_ex, wbl_ite, e_lcM, e_rng1, e_rng2, e_enuM, en1_l, en1_t, e_zipM, zi1_l, dMnN_i, dMx_l, dMx_t, asg_nm, asg_tp, put, e_appM, isOwnL_l, e_apd, apo_l, notN_OI, isN_OI, dNe_n0, dTup_l, dTup_t, dNeg_i, dCutT_t, dCutL_l, dNe_t0, dEq_t0, dEq_l0, sw, lc, dn, i0, al, mp]
      · left
        rw [go_end one (by omega)] at e1 e2
        have ea : acc = R.1 := by simpa using e1
        subst ea
        have e2 : true = R.2 := e2
        refine ⟨[.dat (encI f), .dat (encI w), .dat (.int (n : Int)), .dat (.int p), .own (.list (R.1.map .int)), x5, .un], by simp [W1_gone, -List.map_map, -List.map_drop, -List.map_take, -List.map_append, -List.map_dropLast, th_ok, th_ex, th_ite, e_bind, e_ret, e_opt, ts_ok, ts_ex, ts_ite, e_bindS, sq_nx, sq_rt, sq_ex, sq_bk, sq_ct, sq_ite, e_seqS, fin_nx, fin_rt, fin_ex, fin_ite, e_fnOf, wb_ok, wb_ex, wb_ite, vA1_b, e_vAnd, vO1_b, e_vOr, vN1_b, e_vNot, ch1_b, e_chM, e_toB, e_mAnd, e_mOr, e_mNot, e_mIte, e_iteS, lp_nx, lp_ct, lp_bk, lp_rt, lp_ex, lp_ite, forL_nil, forL_nm, e_forS, okArgs, isOwn, outs, nam, frz, look, lookAll, ap1, ap2, apA, un1, bin2, opA, isiM, retS, drpS, setS, setN, putS, put, unpS, asg, mCons, mNil, e_mTup, mt1_ok, e_mLst, ml1_ok, callM, argsOf, argOf, ownIx, Sk.wb, List.getElem?_cons_zero, List.getElem?_cons_succ, List.getElem?_nil, List.set_cons_zero, List.set_cons_succ, List.replicate_succ, List.replicate_zero, List.cons_append, List.nil_append, List.foldl_cons, List.foldl_nil, List.getD_cons_zero, List.getD_cons_succ, List.all_cons, List.all_nil, isiD, tyN, dLt, dLe, dGt, dGe, dAdd_i, dEq_i, dNe_i, dSub, iOp, dLen_t, dLen_l, e_seqM, sq1_l, sq1_t, e_partM, pa1_i, sliM, isN_none, notN_none, isN_int, notN_int, isN_bool, notN_bool, isN_str, notN_str, isN_list, notN_list, isN_tup, notN_tup, isN_dict, notN_dict, raiseS, mDat, mNew, e_callAt, cal_some, wbl_ok, wbl_ex, wbl_ite, e_lcM, e_rng1, e_rng2, e_enuM, en1_l, en1_t, e_zipM, zi1_l, dMnN_i, dMx_l, dMx_t, asg_nm, asg_tp, put, e_appM, isOwnL_l, e_apd, apo_l, notN_OI, isN_OI, dNe_n0, dTup_l, dTup_t, dNeg_i, dCutT_t, dCutL_l, dNe_t0, dEq_t0, dEq_l0, c], ⟨fun _ => ⟨_, _, rfl⟩, fun z => by rw [← e2] at z; cases z⟩⟩
  cases c : R.2 with
  | true =>
    obtain ⟨x3, x5, e⟩ := lp.1 c
    simp [m_gone, b_gone, -List.map_map, -List.map_drop, -List.map_take, -List.map_append, -List.map_dropLast, th_ok, th_ex, th_ite, e_bind, e_ret, e_opt, ts_ok, ts_ex, ts_ite, e_bindS, sq_nx, sq_rt, sq_ex, sq_bk, sq_ct, sq_ite, e_seqS, fin_nx, fin_rt, fin_ex, fin_ite, e_fnOf, wb_ok, wb_ex, wb_ite, vA1_b, e_vAnd, vO1_b, e_vOr, vN1_b, e_vNot, ch1_b, e_chM, e_toB, e_mAnd, e_mOr, e_mNot, e_mIte, e_iteS, lp_nx, lp_ct, lp_bk, lp_rt, lp_ex, lp_ite, forL_nil, forL_nm, e_forS, okArgs, isOwn, outs, nam, frz, look, lookAll, ap1, ap2, apA, un1, bin2, opA, isiM, retS, drpS, setS, setN, putS, put, unpS, asg, mCons, mNil, e_mTup, mt1_ok, e_mLst, ml1_ok, callM, argsOf, argOf, ownIx, Sk.wb, List.getElem?_cons_zero, List.getElem?_cons_succ, List.getElem?_nil, List.set_cons_zero, List.set_cons_succ, List.replicate_succ, List.replicate_zero, List.cons_append, List.nil_append, List.foldl_cons, List.foldl_nil, List.getD_cons_zero, List.getD_cons_succ, List.all_cons, List.all_nil, isiD, tyN, dLt, dLe, dGt, dGe, dAdd_i, dEq_i, dNe_i, dSub, iOp, dLen_t, dLen_l, e_seqM, sq1_l, sq1_t, e_partM, pa1_i, sliM, isN_none, notN_none, isN_int, notN_int, isN_bool, notN_bool, isN_str, notN_str, isN_list, notN_list, isN_tup, notN_tup, isN_dict, notN_dict, raiseS, mDat, mNew, e_callAt, cal_some, wbl_ok, wbl_ex, wbl_ite, e_lcM, e_rng1, e_rng2, e_enuM, en1_l, en1_t, e_zipM, zi1_l, dMnN_i, dMx_l, dMx_t, asg_nm, asg_tp, put, e_appM, isOwnL_l, e_apd, apo_l, notN_OI, isN_OI, dNe_n0, dTup_l, dTup_t, dNeg_i, dCutT_t, dCutL_l, dNe_t0, dEq_t0, dEq_l0, e]
  | false =>
    obtain ⟨st', e⟩ := lp.2 c
    simp [m_gone, b_gone, -List.map_map, -List.map_drop, -List.map_take, -List.map_append, -List.map_dropLast, th_ok, th_ex, th_ite, e_bind, e_ret, e_opt, ts_ok, ts_ex, ts_ite, e_bindS, sq_nx, sq_rt, sq_ex, sq_bk, sq_ct, sq_ite, e_seqS, fin_nx, fin_rt, fin_ex, fin_ite, e_fnOf, wb_ok, wb_ex, wb_ite, vA1_b, e_vAnd, vO1_b, e_vOr, vN1_b, e_vNot, ch1_b, e_chM, e_toB, e_mAnd, e_mOr, e_mNot, e_mIte, e_iteS, lp_nx, lp_ct, lp_bk, lp_rt, lp_ex, lp_ite, forL_nil, forL_nm, e_forS, okArgs, isOwn, outs, nam, frz, look, lookAll, ap1, ap2, apA, un1, bin2, opA, isiM, retS, drpS, setS, setN, putS, put, unpS, asg, mCons, mNil, e_mTup, mt1_ok, e_mLst, ml1_ok, callM, argsOf, argOf, ownIx, Sk.wb, List.getElem?_cons_zero, List.getElem?_cons_succ, List.getElem?_nil, List.set_cons_zero, List.set_cons_succ, List.replicate_succ, List.replicate_zero, List.cons_append, List.nil_append, List.foldl_cons, List.foldl_nil, List.getD_cons_zero, List.getD_cons_succ, List.all_cons, List.all_nil, isiD, tyN, dLt, dLe, dGt, dGe, dAdd_i, dEq_i, dNe_i, dSub, iOp, dLen_t, dLen_l, e_seqM, sq1_l, sq1_t, e_partM, pa1_i, sliM, isN_none, notN_none, isN_int, notN_int, isN_bool, notN_bool, isN_str, notN_str, isN_list, notN_list, isN_tup, notN_tup, isN_dict, notN_dict, raiseS, mDat, mNew, e_callAt, cal_some, wbl_ok, wbl_ex, wbl_ite, e_lcM, e_rng1, e_rng2, e_enuM, en1_l, en1_t, e_zipM, zi1_l, dMnN_i, dMx_l, dMx_t, asg_nm, asg_tp, put, e_appM, isOwnL_l, e_apd, apo_l, notN_OI, isN_OI, dNe_n0, dTup_l, dTup_t, dNeg_i, dCutT_t, dCutL_l, dNe_t0, dEq_t0, dEq_l0, e]
theorem r_lled (n : Nat) (hn : n ≤ 1000000) : m__law_led [.dat (encI f), .dat (encI w), .dat (.int (n : Int))] = .ok (.tuple [encI (goW f w n 0).1, .bool (goW f w n 0).2]) [.dat (encI f), .dat (encI w), .dat (.int (n : Int))] := by
  have one := GoodW.one hf hw
  have gl := go_len (f := f) one (n : Int) ((n : Int) + 1 - 0).toNat 0 (Nat.le_refl _)
  generalize hR : goW f w (n : Int) 0 = R at gl ⊢
  have sw : sq1 (encI w) = M.ret (w.map .int) := rfl
  have lp : (R.2 = true → ∃ x3 x5 : Sl, whlS W1__law_led L1__law_led [] [.dat (encI f), .dat (encI w), .dat (.int (n : Int)), .dat (.int 0), .dat (.tuple []), .un, .un] = .nx [.dat (encI f), .dat (encI w), .dat (.int (n : Int)), x3, .dat (encI R.1), x5, .un]) ∧
      (R.2 = false → ∃ st' : List Sl, whlS W1__law_led L1__law_led [] [.dat (encI f), .dat (encI w), .dat (.int (n : Int)), .dat (.int 0), .dat (.tuple []), .un, .un] = .rt (.tuple [encI R.1, .bool false]) st') := by
    refine whl_inv (fun m st => ∃ (p : Int) (acc : List Int) (x5 : Sl), st = [.dat (encI f), .dat (encI w), .dat (.int (n : Int)), .dat (.int p), .dat (.tuple (acc.map .int)), x5, .un] ∧ m = ((n : Int) + 1 - p).toNat ∧ 0 ≤ p ∧ acc ++ (goW f w n p).1 = R.1 ∧ (goW f w n p).2 = R.2)
      (fun o => (R.2 = true → ∃ x3 x5 : Sl, o = .nx [.dat (encI f), .dat (encI w), .dat (.int (n : Int)), x3, .dat (encI R.1), x5, .un]) ∧ (R.2 = false → ∃ st' : List Sl, o = .rt (.tuple [encI R.1, .bool false]) st')) ?_ (fun m st h => ?_) (m := ((n : Int) + 1 - 0).toNat) ⟨0, [], .un, rfl, rfl, by omega, by rw [hR]; rfl, by rw [hR]⟩
    · rintro ⟨h1, h2⟩
      cases c : R.2 with
      | true => obtain ⟨_, _, h⟩ := h1 c; cases h
      | false => obtain ⟨_, h⟩ := h2 c; cases h
    · obtain ⟨p, acc, x5, rfl, rfl, p0, e1, e2⟩ := h
      by_cases c : p ≤ n
      · right
        refine ⟨[.dat (encI f), .dat (encI w), .dat (.int (n : Int)), .dat (.int p), .dat (.tuple (acc.map .int)), x5, .un], by simp [W1__law_led, -List.map_map, -List.map_drop, -List.map_take, -List.map_append, -List.map_dropLast, th_ok, th_ex, th_ite, e_bind, e_ret, e_opt, ts_ok, ts_ex, ts_ite, e_bindS, sq_nx, sq_rt, sq_ex, sq_bk, sq_ct, sq_ite, e_seqS, fin_nx, fin_rt, fin_ex, fin_ite, e_fnOf, wb_ok, wb_ex, wb_ite, vA1_b, e_vAnd, vO1_b, e_vOr, vN1_b, e_vNot, ch1_b, e_chM, e_toB, e_mAnd, e_mOr, e_mNot, e_mIte, e_iteS, lp_nx, lp_ct, lp_bk, lp_rt, lp_ex, lp_ite, forL_nil, forL_nm, e_forS, okArgs, isOwn, outs, nam, frz, look, lookAll, ap1, ap2, apA, un1, bin2, opA, isiM, retS, drpS, setS, setN, putS, put, unpS, asg, mCons, mNil, e_mTup, mt1_ok, e_mLst, ml1_ok, callM, argsOf, argOf, ownIx, Sk.wb, List.getElem?_cons_zero, List.getElem?_cons_succ, List.getElem?_nil, List.set_cons_zero, List.set_cons_succ, List.replicate_succ, List.replicate_zero, List.cons_append, List.nil_append, List.foldl_cons, List.foldl_nil, List.getD_cons_zero, List.getD_cons_succ, List.all_cons, List.all_nil, isiD, tyN, dLt, dLe, dGt, dGe, dAdd_i, dEq_i, dNe_i, dSub, iOp, dLen_t, dLen_l, e_seqM, sq1_l, sq1_t, e_partM, pa1_i, sliM, isN_none, notN_none, isN_int, notN_int, isN_bool, notN_bool, isN_str, notN_str, isN_list, notN_list, isN_tup, notN_tup, isN_dict, notN_dict, raiseS, mDat, mNew, e_callAt, cal_some, wbl_ok, wbl_ex, wbl_ite, e_lcM, e_rng1, e_rng2, e_enuM, en1_l, en1_t, e_zipM, zi1_l, dMnN_i, dMx_l, dMx_t, asg_nm, asg_tp, put, e_appM, isOwnL_l, e_apd, apo_l, notN_OI, isN_OI, dNe_n0, dTup_l, dTup_t, dNeg_i, dCutT_t, dCutL_l, dNe_t0, dEq_t0, dEq_l0, c], ?_⟩
        have lc := lc_intsF (i := 6) (p := F1__law_led) (fe := C1__law_led) (q := canL f n p) (g := fun x => x) (xs := w) (st := [.dat (encI f), .dat (encI w), .dat (.int (n : Int)), .dat (.int p), .dat (.tuple (acc.map .int)), x5, .un]) (by simp) (by have := hw.ln; unfold cap; omega) (fun l _ => by
          have rs := r_lstone f (p + l) hf
          by_cases c1 : (n : Int) < p + l
          · simp [F1__law_led, -List.map_map, -List.map_drop, -List.map_take, -List.map_append, -List.map_dropLast, th_ok, th_ex, th_ite, e_bind, e_ret, e_opt, ts_ok, ts_ex, ts_ite, e_bindS, sq_nx, sq_rt, sq_ex, sq_bk, sq_ct, sq_ite, e_seqS, fin_nx, fin_rt, fin_ex, fin_ite, e_fnOf, wb_ok, wb_ex, wb_ite, vA1_b, e_vAnd, vO1_b, e_vOr, vN1_b, e_vNot, ch1_b, e_chM, e_toB, e_mAnd, e_mOr, e_mNot, e_mIte, e_iteS, lp_nx, lp_ct, lp_bk, lp_rt, lp_ex, lp_ite, forL_nil, forL_nm, e_forS, okArgs, isOwn, outs, nam, frz, look, lookAll, ap1, ap2, apA, un1, bin2, opA, isiM, retS, drpS, setS, setN, putS, put, unpS, asg, mCons, mNil, e_mTup, mt1_ok, e_mLst, ml1_ok, callM, argsOf, argOf, ownIx, Sk.wb, List.getElem?_cons_zero, List.getElem?_cons_succ, List.getElem?_nil, List.set_cons_zero, List.set_cons_succ, List.replicate_succ, List.replicate_zero, List.cons_append, List.nil_append, List.foldl_cons, List.foldl_nil, List.getD_cons_zero, List.getD_cons_succ, List.all_cons, List.all_nil, isiD, tyN, dLt, dLe, dGt, dGe, dAdd_i, dEq_i, dNe_i, dSub, iOp, dLen_t, dLen_l, e_seqM, sq1_l, sq1_t, e_partM, pa1_i, sliM, isN_none, notN_none, isN_int, notN_int, isN_bool, notN_bool, isN_str, notN_str, isN_list, notN_list, isN_tup, notN_tup, isN_dict, notN_dict, raiseS, mDat, mNew, e_callAt, cal_some, wbl_ok, wbl_ex, wbl_ite, e_lcM, e_rng1, e_rng2, e_enuM, en1_l, en1_t, e_zipM, zi1_l, dMnN_i, dMx_l, dMx_t, asg_nm, asg_tp, put, e_appM, isOwnL_l, e_apd, apo_l, notN_OI, isN_OI, dNe_n0, dTup_l, dTup_t, dNeg_i, dCutT_t, dCutL_l, dNe_t0, dEq_t0, dEq_l0, c1, canL]
          · simp [F1__law_led, -List.map_map, -List.map_drop, -List.map_take, -List.map_append, -List.map_dropLast, th_ok, th_ex, th_ite, e_bind, e_ret, e_opt, ts_ok, ts_ex, ts_ite, e_bindS, sq_nx, sq_rt, sq_ex, sq_bk, sq_ct, sq_ite, e_seqS, fin_nx, fin_rt, fin_ex, fin_ite, e_fnOf, wb_ok, wb_ex, wb_ite, vA1_b, e_vAnd, vO1_b, e_vOr, vN1_b, e_vNot, ch1_b, e_chM, e_toB, e_mAnd, e_mOr, e_mNot, e_mIte, e_iteS, lp_nx, lp_ct, lp_bk, lp_rt, lp_ex, lp_ite, forL_nil, forL_nm, e_forS, okArgs, isOwn, outs, nam, frz, look, lookAll, ap1, ap2, apA, un1, bin2, opA, isiM, retS, drpS, setS, setN, putS, put, unpS, asg, mCons, mNil, e_mTup, mt1_ok, e_mLst, ml1_ok, callM, argsOf, argOf, ownIx, Sk.wb, List.getElem?_cons_zero, List.getElem?_cons_succ, List.getElem?_nil, List.set_cons_zero, List.set_cons_succ, List.replicate_succ, List.replicate_zero, List.cons_append, List.nil_append, List.foldl_cons, List.foldl_nil, List.getD_cons_zero, List.getD_cons_succ, List.all_cons, List.all_nil, isiD, tyN, dLt, dLe, dGt, dGe, dAdd_i, dEq_i, dNe_i, dSub, iOp, dLen_t, dLen_l, e_seqM, sq1_l, sq1_t, e_partM, pa1_i, sliM, isN_none, notN_none, isN_int, notN_int, isN_bool, notN_bool, isN_str, notN_str, isN_list, notN_list, isN_tup, notN_tup, isN_dict, notN_dict, raiseS, mDat, mNew, e_callAt, cal_some, wbl_ok, wbl_ex, wbl_ite, e_lcM, e_rng1, e_rng2, e_enuM, en1_l, en1_t, e_zipM, zi1_l, dMnN_i, dMx_l, dMx_t, asg_nm, asg_tp, put, e_appM, isOwnL_l, e_apd, apo_l, notN_OI, isN_OI, dNe_n0, dTup_l, dTup_t, dNeg_i, dCutT_t, dCutL_l, dNe_t0, dEq_t0, dEq_l0, c1, canL, rs]) (fun l _ _ => by simp [C1__law_led, -List.map_map, -List.map_drop, -List.map_take, -List.map_append, -List.map_dropLast, th_ok, th_ex, th_ite, e_bind, e_ret, e_opt, ts_ok, ts_ex, ts_ite, e_bindS, sq_nx, sq_rt, sq_ex, sq_bk, sq_ct, sq_ite, e_seqS, fin_nx, fin_rt, fin_ex, fin_ite, e_fnOf, wb_ok, wb_ex, wb_ite, vA1_b, e_vAnd, vO1_b, e_vOr, vN1_b, e_vNot, ch1_b, e_chM, e_toB, e_mAnd, e_mOr, e_mNot, e_mIte, e_iteS, lp_nx, lp_ct, lp_bk, lp_rt, lp_ex, lp_ite, forL_nil, forL_nm, e_forS, okArgs, isOwn, outs, nam, frz, look, lookAll, ap1, ap2, apA, un1, bin2, opA, isiM, retS, drpS, setS, setN, putS, put, unpS, asg, mCons, mNil, e_mTup, mt1_ok, e_mLst, ml1_ok, callM, argsOf, argOf, ownIx, Sk.wb, List.getElem?_cons_zero, List.getElem?_cons_succ, List.getElem?_nil, List.set_cons_zero, List.set_cons_succ, List.replicate_succ, List.replicate_zero, List.cons_append, List.nil_append, List.foldl_cons, List.foldl_nil, List.getD_cons_zero, List.getD_cons_succ, List.all_cons, List.all_nil, isiD, tyN, dLt, dLe, dGt, dGe, dAdd_i, dEq_i, dNe_i, dSub, iOp, dLen_t, dLen_l, e_seqM, sq1_l, sq1_t, e_partM, pa1_i, sliM, isN_none, notN_none, isN_int, notN_int, isN_bool, notN_bool, isN_str, notN_str, isN_list, notN_list, isN_tup, notN_tup, isN_dict, notN_dict, raiseS, mDat, mNew, e_callAt, cal_some, wbl_ok, wbl_ex, wbl_ite, e_lcM, e_rng1, e_rng2, e_enuM, en1_l, en1_t, e_zipM, zi1_l, dMnN_i, dMx_l, dMx_t, asg_nm, asg_tp, put, e_appM, isOwnL_l, e_apd, apo_l, notN_OI, isN_OI, dNe_n0, dTup_l, dTup_t, dNeg_i, dCutT_t, dCutL_l, dNe_t0, dEq_t0, dEq_l0])
        rw [filter_map_id] at lc
        rw [go_step one c] at e1 e2
        cases e : firstL f w n p with
        | none =>
          rw [e] at e1 e2
          right; right
          have en := head_none hf hw e
          rw [en] at lc
          have ea : acc = R.1 := by simpa using e1
          simp only [List.map_nil] at lc
          have e2 : false = R.2 := e2
          subst ea
          refine ⟨.tuple [.tuple (R.1.map .int), .bool false], [.dat (encI f), .dat (encI w), .dat (.int (n : Int)), .dat (.int p), .dat (.tuple (R.1.map .int)), .own (.list []), .un], by simp [L1__law_led, -List.map_map, -List.map_drop, -List.map_take, -List.map_append, -List.map_dropLast, th_ok, th_ex, th_ite, e_bind, e_ret, e_opt, ts_ok, ts_ex, ts_ite, e_bindS, sq_nx, sq_rt, sq_ex, sq_bk, sq_ct, sq_ite, e_seqS, fin_nx, fin_rt, fin_ex, fin_ite, e_fnOf, wb_ok, wb_ex, wb_ite, vA1_b, e_vAnd, vO1_b, e_vOr, vN1_b, e_vNot, ch1_b, e_chM, e_toB, e_mAnd, e_mOr, e_mNot, e_mIte, e_iteS, lp_nx, lp_ct, lp_bk, lp_rt, lp_ex, lp_ite, forL_nil, forL_nm, e_forS, okArgs, isOwn, outs, nam, frz, look, lookAll, ap1, ap2, apA, un1, bin2, opA, isiM, retS, drpS, setS, setN, putS, put, unpS, asg, mCons, mNil, e_mTup, mt1_ok, e_mLst, ml1_ok, callM, argsOf, argOf, ownIx, Sk.wb, List.getElem?_cons_zero, List.getElem?_cons_succ, List.getElem?_nil, List.set_cons_zero, List.set_cons_succ, List.replicate_succ, List.replicate_zero, List.cons_append, List.nil_append, List.foldl_cons, List.foldl_nil, List.getD_cons_zero, List.getD_cons_succ, List.all_cons, List.all_nil, isiD, tyN, dLt, dLe, dGt, dGe, dAdd_i, dEq_i, dNe_i, dSub, iOp, dLen_t, dLen_l, e_seqM, sq1_l, sq1_t, e_partM, pa1_i, sliM, isN_none, notN_none, isN_int, notN_int, isN_bool, notN_bool, isN_str, notN_str, isN_list, notN_list, isN_tup, notN_tup, isN_dict, notN_dict, raiseS, mDat, mNew, e_callAt, cal_some, wbl_ok, wbl_ex, wbl_ite, e_lcM, e_rng1, e_rng2, e_enuM, en1_l, en1_t, e_zipM, zi1_l, dMnN_i, dMx_l, dMx_t, asg_nm, asg_tp, put, e_appM, isOwnL_l, e_apd, apo_l, notN_OI, isN_OI, dNe_n0, dTup_l, dTup_t, dNeg_i, dCutT_t, dCutL_l, dNe_t0, dEq_t0, dEq_l0, sw, lc], ⟨fun z => (by rw [← e2] at z; cases z), fun _ => ⟨_, rfl⟩⟩⟩
        | some l =>
          rw [e] at e1 e2
          simp only at e1 e2
          left
          obtain ⟨i0, ie⟩ := head_some hf hw e
          have l1 := one l (first_in one e).1
          have dn := dEq_lnil (w.filter (canL f n p))
          rw [ie] at dn
          have ad : dAdd (.tuple (acc.map .int)) (.tuple [.int l]) = some (.tuple ((acc ++ [l]).map .int)) := by
            have := congrArg List.length e1
            simp at this
            rw [dAdd_tt (by simp; unfold cap; omega)]
            simp
          refine ⟨[.dat (encI f), .dat (encI w), .dat (.int (n : Int)), .dat (.int (p + l)), .dat (.tuple ((acc ++ [l]).map .int)), .own (.list ((w.filter (canL f n p)).map .int)), .un], .inl ?_, ((n : Int) + 1 - (p + l)).toNat, by omega, p + l, acc ++ [l], _, rfl, rfl, by omega, by simpa using e1, e2⟩
          generalize w.filter (canL f n p) = S at lc i0 dn
          simp [L1__law_led, -List.map_map, -List.map_drop, -List.map_take, -List.map_append, -List.map_dropLast, th_ok, th_ex, th_ite, e_bind, e_ret, e_opt, ts_ok, ts_ex, ts_ite, e_bindS, sq_nx, sq_rt, sq_ex, sq_bk, sq_ct, sq_ite, e_seqS, fin_nx, fin_rt, fin_ex, fin_ite, e_fnOf, wb_ok, wb_ex, wb_ite, vA1_b, e_vAnd, vO1_b, e_vOr, vN1_b, e_vNot, ch1_b, e_chM, e_toB, e_mAnd, e_mOr, e_mNot, e_mIte, e_iteS, lp_nx, lp_ct, lp_bk, lp_rt, lp_ex, lp_ite, forL_nil, forL_nm, e_forS, okArgs, isOwn, outs, nam, frz, look, lookAll, ap1, ap2, apA, un1, bin2, opA, isiM, retS, drpS, setS, setN, putS, put, unpS, asg, mCons, mNil, e_mTup, mt1_ok, e_mLst, ml1_ok, callM, argsOf, argOf, ownIx, Sk.wb, List.getElem?_cons_zero, List.getElem?_cons_succ, List.getElem?_nil, List.set_cons_zero, List.set_cons_succ, List.replicate_succ, List.replicate_zero, List.cons_append, List.nil_append, List.foldl_cons, List.foldl_nil, List.getD_cons_zero, List.getD_cons_succ, List.all_cons, List.all_nil, isiD, tyN, dLt, dLe, dGt, dGe, dAdd_i, dEq_i, dNe_i, dSub, iOp, dLen_t, dLen_l, e_seqM, sq1_l, sq1_t, e_partM, pa1_i, sliM, isN_none, notN_none, isN_int, notN_int, isN_bool, notN_bool, isN_str, notN_str, isN_list, notN_list, isN_tup, notN_tup, isN_dict, notN_dict, raiseS, mDat, mNew, e_callAt, cal_some, wbl_ok, wbl_ex, wbl_ite, e_lcM, e_rng1, e_rng2, e_enuM, en1_l, en1_t, e_zipM, zi1_l, dMnN_i, dMx_l, dMx_t, asg_nm, asg_tp, put, e_appM, isOwnL_l, e_apd, apo_l, notN_OI, isN_OI, dNe_n0, dTup_l, dTup_t, dNeg_i, dCutT_t, dCutL_l, dNe_t0, dEq_t0, dEq_l0, sw, lc, dn, i0, ad]
      · left
        rw [go_end one (by omega)] at e1 e2
        have ea : acc = R.1 := by simpa using e1
        subst ea
        have e2 : true = R.2 := e2
        refine ⟨[.dat (encI f), .dat (encI w), .dat (.int (n : Int)), .dat (.int p), .dat (.tuple (R.1.map .int)), x5, .un], by simp [W1__law_led, -List.map_map, -List.map_drop, -List.map_take, -List.map_append, -List.map_dropLast, th_ok, th_ex, th_ite, e_bind, e_ret, e_opt, ts_ok, ts_ex, ts_ite, e_bindS, sq_nx, sq_rt, sq_ex, sq_bk, sq_ct, sq_ite, e_seqS, fin_nx, fin_rt, fin_ex, fin_ite, e_fnOf, wb_ok, wb_ex, wb_ite, vA1_b, e_vAnd, vO1_b, e_vOr, vN1_b, e_vNot, ch1_b, e_chM, e_toB, e_mAnd, e_mOr, e_mNot, e_mIte, e_iteS, lp_nx, lp_ct, lp_bk, lp_rt, lp_ex, lp_ite, forL_nil, forL_nm, e_forS, okArgs, isOwn, outs, nam, frz, look, lookAll, ap1, ap2, apA, un1, bin2, opA, isiM, retS, drpS, setS, setN, putS, put, unpS, asg, mCons, mNil, e_mTup, mt1_ok, e_mLst, ml1_ok, callM, argsOf, argOf, ownIx, Sk.wb, List.getElem?_cons_zero, List.getElem?_cons_succ, List.getElem?_nil, List.set_cons_zero, List.set_cons_succ, List.replicate_succ, List.replicate_zero, List.cons_append, List.nil_append, List.foldl_cons, List.foldl_nil, List.getD_cons_zero, List.getD_cons_succ, List.all_cons, List.all_nil, isiD, tyN, dLt, dLe, dGt, dGe, dAdd_i, dEq_i, dNe_i, dSub, iOp, dLen_t, dLen_l, e_seqM, sq1_l, sq1_t, e_partM, pa1_i, sliM, isN_none, notN_none, isN_int, notN_int, isN_bool, notN_bool, isN_str, notN_str, isN_list, notN_list, isN_tup, notN_tup, isN_dict, notN_dict, raiseS, mDat, mNew, e_callAt, cal_some, wbl_ok, wbl_ex, wbl_ite, e_lcM, e_rng1, e_rng2, e_enuM, en1_l, en1_t, e_zipM, zi1_l, dMnN_i, dMx_l, dMx_t, asg_nm, asg_tp, put, e_appM, isOwnL_l, e_apd, apo_l, notN_OI, isN_OI, dNe_n0, dTup_l, dTup_t, dNeg_i, dCutT_t, dCutL_l, dNe_t0, dEq_t0, dEq_l0, c], ⟨fun _ => ⟨_, _, rfl⟩, fun z => by rw [← e2] at z; cases z⟩⟩
  cases c : R.2 with
  | true =>
    obtain ⟨x3, x5, e⟩ := lp.1 c
    simp [m__law_led, b__law_led, -List.map_map, -List.map_drop, -List.map_take, -List.map_append, -List.map_dropLast, th_ok, th_ex, th_ite, e_bind, e_ret, e_opt, ts_ok, ts_ex, ts_ite, e_bindS, sq_nx, sq_rt, sq_ex, sq_bk, sq_ct, sq_ite, e_seqS, fin_nx, fin_rt, fin_ex, fin_ite, e_fnOf, wb_ok, wb_ex, wb_ite, vA1_b, e_vAnd, vO1_b, e_vOr, vN1_b, e_vNot, ch1_b, e_chM, e_toB, e_mAnd, e_mOr, e_mNot, e_mIte, e_iteS, lp_nx, lp_ct, lp_bk, lp_rt, lp_ex, lp_ite, forL_nil, forL_nm, e_forS, okArgs, isOwn, outs, nam, frz, look, lookAll, ap1, ap2, apA, un1, bin2, opA, isiM, retS, drpS, setS, setN, putS, put, unpS, asg, mCons, mNil, e_mTup, mt1_ok, e_mLst, ml1_ok, callM, argsOf, argOf, ownIx, Sk.wb, List.getElem?_cons_zero, List.getElem?_cons_succ, List.getElem?_nil, List.set_cons_zero, List.set_cons_succ, List.replicate_succ, List.replicate_zero, List.cons_append, List.nil_append, List.foldl_cons, List.foldl_nil, List.getD_cons_zero, List.getD_cons_succ, List.all_cons, List.all_nil, isiD, tyN, dLt, dLe, dGt, dGe, dAdd_i, dEq_i, dNe_i, dSub, iOp, dLen_t, dLen_l, e_seqM, sq1_l, sq1_t, e_partM, pa1_i, sliM, isN_none, notN_none, isN_int, notN_int, isN_bool, notN_bool, isN_str, notN_str, isN_list, notN_list, isN_tup, notN_tup, isN_dict, notN_dict, raiseS, mDat, mNew, e_callAt, cal_some, wbl_ok, wbl_ex, wbl_ite, e_lcM, e_rng1, e_rng2, e_enuM, en1_l, en1_t, e_zipM, zi1_l, dMnN_i, dMx_l, dMx_t, asg_nm, asg_tp, put, e_appM, isOwnL_l, e_apd, apo_l, notN_OI, isN_OI, dNe_n0, dTup_l, dTup_t, dNeg_i, dCutT_t, dCutL_l, dNe_t0, dEq_t0, dEq_l0, e]
  | false =>
    obtain ⟨st', e⟩ := lp.2 c
    simp [m__law_led, b__law_led, -List.map_map, -List.map_drop, -List.map_take, -List.map_append, -List.map_dropLast, th_ok, th_ex, th_ite, e_bind, e_ret, e_opt, ts_ok, ts_ex, ts_ite, e_bindS, sq_nx, sq_rt, sq_ex, sq_bk, sq_ct, sq_ite, e_seqS, fin_nx, fin_rt, fin_ex, fin_ite, e_fnOf, wb_ok, wb_ex, wb_ite, vA1_b, e_vAnd, vO1_b, e_vOr, vN1_b, e_vNot, ch1_b, e_chM, e_toB, e_mAnd, e_mOr, e_mNot, e_mIte, e_iteS, lp_nx, lp_ct, lp_bk, lp_rt, lp_ex, lp_ite, forL_nil, forL_nm, e_forS, okArgs, isOwn, outs, nam, frz, look, lookAll, ap1, ap2, apA, un1, bin2, opA, isiM, retS, drpS, setS, setN, putS, put, unpS, asg, mCons, mNil, e_mTup, mt1_ok, e_mLst, ml1_ok, callM, argsOf, argOf, ownIx, Sk.wb, List.getElem?_cons_zero, List.getElem?_cons_succ, List.getElem?_nil, List.set_cons_zero, List.set_cons_succ, List.replicate_succ, List.replicate_zero, List.cons_append, List.nil_append, List.foldl_cons, List.foldl_nil, List.getD_cons_zero, List.getD_cons_succ, List.all_cons, List.all_nil, isiD, tyN, dLt, dLe, dGt, dGe, dAdd_i, dEq_i, dNe_i, dSub, iOp, dLen_t, dLen_l, e_seqM, sq1_l, sq1_t, e_partM, pa1_i, sliM, isN_none, notN_none, isN_int, notN_int, isN_bool, notN_bool, isN_str, notN_str, isN_list, notN_list, isN_tup, notN_tup, isN_dict, notN_dict, raiseS, mDat, mNew, e_callAt, cal_some, wbl_ok, wbl_ex, wbl_ite, e_lcM, e_rng1, e_rng2, e_enuM, en1_l, en1_t, e_zipM, zi1_l, dMnN_i, dMx_l, dMx_t, asg_nm, asg_tp, put, e_appM, isOwnL_l, e_apd, apo_l, notN_OI, isN_OI, dNe_n0, dTup_l, dTup_t, dNeg_i, dCutT_t, dCutL_l, dNe_t0, dEq_t0, dEq_l0, e]
end
end Zk07
set_option maxHeartbeats 1000000
namespace Zk07
open PySem PySem.Spec PyProof.Rows L2 Sk LamX
/-! the way in wide rivers -/
def wideL (f w : List Int) (p : Int) : Option Int := (w.filter fun l => decide (0 < stone f (p + l))).head?
def at' (ps : List Int) (i : Nat) : Int := ps.getD i 0
def resid (f : List Int) (p : Int) : Int := p % (f.length : Int)
structure Way (f w ps : List Int) : Prop where
  ne : 0 < ps.length
  z : at' ps 0 = 0
  st : ∀ i, i + 1 < ps.length → ∃ l, wideL f w (at' ps i) = some l ∧ at' ps (i + 1) = at' ps i + l
def lastI (ps : List Int) : Nat := ps.length - 1
def WayEnd (f w ps : List Int) : Option Nat → Prop
  | none => wideL f w (at' ps (lastI ps)) = none
  | some j => 1 ≤ j ∧ j < lastI ps ∧ resid f (at' ps j) = resid f (at' ps (lastI ps))
def encJ : Option Nat → D
  | none => .none
  | some j => .int (j : Nat)
theorem wide_in {f w : List Int} {p l : Int} (h : wideL f w p = some l) : l ∈ w ∧ 0 < stone f (p + l) := by
  unfold wideL at h
  have := List.mem_filter.mp (List.mem_of_mem_head? h)
  exact ⟨this.1, by simpa using this.2⟩
theorem at_snoc {ps : List Int} {x : Int} {i : Nat} : at' (ps ++ [x]) i = if i < ps.length then at' ps i else if i = ps.length then x else 0 := by
  unfold at'
  rw [List.getD_eq_getElem?_getD, List.getD_eq_getElem?_getD]
  by_cases h : i < ps.length
  · rw [if_pos h, List.getElem?_append_left h]
  · rw [if_neg h, List.getElem?_append_right (by omega)]
    by_cases h2 : i = ps.length
    · subst h2; simp
    · rw [if_neg h2, List.getElem?_eq_none (by simp; omega)]
      rfl
section
variable {f w : List Int}
theorem Way.up (W : Way f w ps) (hw : GoodW w) : ∀ i, i < ps.length → (i : Int) ≤ at' ps i ∧ at' ps i ≤ 6 * i
  | 0, h => by rw [W.z]; omega
  | i + 1, h => by
    obtain ⟨l, e, e2⟩ := W.st i h
    have := hw.lo l (wide_in e).1
    have := Way.up W hw i (by omega)
    omega
theorem Way.snoc {ps : List Int} (W : Way f w ps) {l : Int} (h : wideL f w (at' ps (lastI ps)) = some l) : Way f w (ps ++ [at' ps (lastI ps) + l]) := by
  have n0 := W.ne
  refine ⟨by simp, ?_, fun i hi => ?_⟩
  · rw [at_snoc, if_pos n0]
    exact W.z
  · rw [List.length_append] at hi
    simp only [List.length_cons, List.length_nil] at hi
    by_cases c : i + 1 < ps.length
    · rw [at_snoc, at_snoc, if_pos (by omega), if_pos c]
      exact W.st i c
    · have e : i = lastI ps := by unfold lastI; omega
      have e2 : i + 1 = ps.length := by omega
      rw [at_snoc, at_snoc, if_pos (by omega), if_neg c, if_pos e2, e]
      exact ⟨l, h, rfl⟩
/-- what has been seen -/
def seenI (f ps : List Int) (k : Nat) : List (Int × Int) := (List.range' 1 k).map fun i => (resid f (at' ps i), (i : Int))
theorem seen_find {ps : List Int} {k : Nat} {r : Int} {q : Int × Int} (h : (seenI f ps k).find? (fun p => p.1 == r) = some q) : ∃ i, 1 ≤ i ∧ i ≤ k ∧ resid f (at' ps i) = r ∧ q.2 = (i : Int) := by
  have h1 := List.mem_of_find?_eq_some h
  have h2 := List.find?_some h
  obtain ⟨i, hi, rfl⟩ := List.mem_map.mp h1
  have := List.mem_range'_1.mp hi
  exact ⟨i, by omega, by omega, by simpa using h2, rfl⟩
theorem seen_none {ps : List Int} {k : Nat} {r : Int} (h : (seenI f ps k).find? (fun p => p.1 == r) = none) : ∀ i, 1 ≤ i → i ≤ k → resid f (at' ps i) ≠ r := fun i h1 h2 e => by
  have := List.find?_eq_none.mp h (resid f (at' ps i), (i : Int)) (List.mem_map.mpr ⟨i, List.mem_range'_1.mpr (by omega), rfl⟩)
  simp [e] at this
theorem seen_succ {ps : List Int} {k : Nat} : seenI f ps (k + 1) = seenI f ps k ++ [(resid f (at' ps (k + 1)), ((k + 1 : Nat) : Int))] := by
  unfold seenI
  rw [List.range'_1_concat, List.map_append]
  congr 2
  simp [Nat.add_comm]
theorem seen_snoc {ps : List Int} {k : Nat} {x : Int} (h : k < ps.length) : seenI f (ps ++ [x]) k = seenI f ps k := by
  unfold seenI
  apply List.map_congr_left
  intro i hi
  have := List.mem_range'_1.mp hi
  rw [at_snoc, if_pos (by omega)]
/-- residues that differ are few -/
theorem seen_few (hf : f ≠ []) {ps : List Int} {k : Nat} (h : ((List.range' 1 k).map fun i => resid f (at' ps i)).Nodup) : k ≤ f.length := by
  have l : 0 < f.length := List.length_pos_iff.mpr hf
  have := List.Nodup.length_le_of_subset h (l₂ := (List.range f.length).map fun i : Nat => (i : Int)) (fun x hx => by
    obtain ⟨i, _, rfl⟩ := List.mem_map.mp hx
    have h0 := Int.emod_nonneg (at' ps i) (show (f.length : Int) ≠ 0 by omega)
    have h1 := Int.emod_lt_of_pos (at' ps i) (show (0 : Int) < (f.length : Int) by omega)
    unfold resid
    exact List.mem_map.mpr ⟨(at' ps i % (f.length : Int)).toNat, List.mem_range.mpr (by omega), by omega⟩)
  simpa using this
end
noncomputable def tailW : MS := seqS (setN 5 (lcM (.nm 6) (seqM ((nam 1).bind frz)) (F1_wide_way) (C1_wide_way) [6]))
  (seqS (iteS ((bin2 dEq (nam 5) ((mLst (mNil)).bind fun d => M.ret (.dat d))).bind toB) (retS (mTup (mCons ((nam 2).bind frz) (mCons (M.ret .none) (mNil))))) (fun st => .nx st))
  (drpS (appM 2 (bin2 dAdd (nam 4) ((bin2 dIx (nam 5) ((M.ret (.int 0)).bind fun d => M.ret (.dat d))).bind fun d => M.ret (.dat d))))))
theorem split_W : L1_wide_way = seqS (setS 4 (bin2 dIx (nam 2) ((un1 dNeg ((M.ret (.int 1)).bind fun d => M.ret (.dat d))).bind fun d => M.ret (.dat d))))
  (seqS (iteS ((bin2 dGt (nam 4) ((M.ret (.int 0)).bind fun d => M.ret (.dat d))).bind toB) (seqS (iteS ((bin2 dkIn ((bin2 dMod (nam 4) ((opA dLen (mCons (nam 0) (mNil))).bind fun d => M.ret (.dat d))).bind fun d => M.ret (.dat d)) (nam 3)).bind toB) (retS (mTup (mCons ((nam 2).bind frz) (mCons (bin2 dkGet (nam 3) ((bin2 dMod (nam 4) ((opA dLen (mCons (nam 0) (mNil))).bind fun d => M.ret (.dat d))).bind fun d => M.ret (.dat d))) (mNil))))) (fun st => .nx st))
  (dputS 3 (bin2 dSub ((opA dLen (mCons (nam 2) (mNil))).bind fun d => M.ret (.dat d)) ((M.ret (.int 1)).bind fun d => M.ret (.dat d))) (bin2 dMod (nam 4) ((opA dLen (mCons (nam 0) (mNil))).bind fun d => M.ret (.dat d))))) (fun st => .nx st))
  tailW) := rfl
section
variable {f w : List Int} (hf : f ≠ []) (hl8 : f.length ≤ 8) (hw : GoodW w)
include hf hl8 hw
theorem r_wide_way : ∃ (ps : List Int) (j : Option Nat), Way f w ps ∧ WayEnd f w ps j ∧ ps.length ≤ 10 ∧ m_wide_way [.dat (encI f), .dat (encI w)] = .ok (.tuple [encL ps, encJ j]) [.dat (encI f), .dat (encI w)] := by
  have l0 : 0 < f.length := List.length_pos_iff.mpr hf
  have sw : sq1 (encI w) = M.ret (w.map .int) := rfl
  have lp : ∃ (ps : List Int) (j : Option Nat) (st' : List Sl), Way f w ps ∧ WayEnd f w ps j ∧ ps.length ≤ 10 ∧ whlS W1_wide_way L1_wide_way [] [.dat (encI f), .dat (encI w), .own (.list [.int 0]), .own (.dict []), .un, .un, .un] = .rt (.tuple [encL ps, encJ j]) st' := by
    refine whl_inv (fun m st => ∃ (ps : List Int) (x4 x5 : Sl), st = [.dat (encI f), .dat (encI w), .own (.list (ps.map .int)), .own (.dict (kvG (seenI f ps (ps.length - 2)))), x4, x5, .un] ∧ m = 20 - ps.length ∧ Way f w ps ∧ ((List.range' 1 (ps.length - 2)).map fun i => resid f (at' ps i)).Nodup)
      (fun o => ∃ (ps : List Int) (j : Option Nat) (st' : List Sl), Way f w ps ∧ WayEnd f w ps j ∧ ps.length ≤ 10 ∧ o = .rt (.tuple [encL ps, encJ j]) st') (fun h => by obtain ⟨_, _, _, _, _, _, h⟩ := h; cases h) (fun m st h => ?_) (m := 19) ⟨[0], .un, .un, rfl, rfl, ⟨by simp, rfl, fun i h => by simp at h⟩, by simp⟩
    obtain ⟨ps, x4, x5, rfl, rfl, W, nd⟩ := h
    have few := seen_few hf nd
    have n0 := W.ne
    right
    refine ⟨[.dat (encI f), .dat (encI w), .own (.list (ps.map .int)), .own (.dict (kvG (seenI f ps (ps.length - 2)))), x4, x5, .un], by simp [W1_wide_way, -List.map_map, -List.map_drop, -List.map_take, -List.map_append, -List.map_dropLast, th_ok, th_ex, th_ite, e_bind, e_ret, e_opt, ts_ok, ts_ex, ts_ite, e_bindS, sq_nx, sq_rt, sq_ex, sq_bk, sq_ct, sq_ite, e_seqS, fin_nx, fin_rt, fin_ex, fin_ite, e_fnOf, wb_ok, wb_ex, wb_ite, vA1_b, e_vAnd, vO1_b, e_vOr, vN1_b, e_vNot, ch1_b, e_chM, e_toB, e_mAnd, e_mOr, e_mNot, e_mIte, e_iteS, lp_nx, lp_ct, lp_bk, lp_rt, lp_ex, lp_ite, forL_nil, forL_nm, e_forS, okArgs, isOwn, outs, nam, frz, look, lookAll, ap1, ap2, apA, un1, bin2, opA, isiM, retS, drpS, setS, setN, putS, put, unpS, asg, mCons, mNil, e_mTup, mt1_ok, e_mLst, ml1_ok, callM, argsOf, argOf, ownIx, Sk.wb, List.getElem?_cons_zero, List.getElem?_cons_succ, List.getElem?_nil, List.set_cons_zero, List.set_cons_succ, List.replicate_succ, List.replicate_zero, List.cons_append, List.nil_append, List.foldl_cons, List.foldl_nil, List.getD_cons_zero, List.getD_cons_succ, List.all_cons, List.all_nil, isiD, tyN, dLt, dLe, dGt, dGe, dAdd_i, dEq_i, dNe_i, dSub, iOp, dLen_t, dLen_l, e_seqM, sq1_l, sq1_t, e_partM, pa1_i, sliM, isN_none, notN_none, isN_int, notN_int, isN_bool, notN_bool, isN_str, notN_str, isN_list, notN_list, isN_tup, notN_tup, isN_dict, notN_dict, raiseS, mDat, mNew, e_callAt, cal_some, wbl_ok, wbl_ex, wbl_ite, e_lcM, e_rng1, e_rng2, e_enuM, en1_l, en1_t, e_zipM, zi1_l, dMnN_i, dMx_l, dMx_t, asg_nm, asg_tp, put, e_appM, isOwnL_l, e_apd, apo_l, notN_OI, isN_OI, dNe_n0, dTup_l, dTup_t, dNeg_i, dCutT_t, dCutL_l, dNe_t0, dEq_t0, dEq_l0], ?_⟩
    have ne : ps ≠ [] := List.length_pos_iff.mp n0
    have lf : dLen [encI f] = some (.int (f.length : Nat)) := by
      unfold encI
      rw [dLen_t, List.length_map]
    have il := dIx_lastL ps ne
    have el : ps.getLastD 0 = at' ps (lastI ps) := by
      unfold at' lastI
      rw [List.getLastD_eq_getLast?, List.getLast?_eq_getElem?, List.getD_eq_getElem?_getD]
    rw [el] at il
    have up := W.up hw (lastI ps) (by unfold lastI; omega)
    generalize hp : at' ps (lastI ps) = p at il up
    have md := dMod_i (i := p) (j := (f.length : Int)) (by omega)
    -- the step, once what is seen is noted
    have lc : ∀ (S2 : Sl) (x5 : Sl), lcL (.nm 6) F1_wide_way C1_wide_way [6] [] (w.map .int) [.dat (encI f), .dat (encI w), .own (.list (ps.map .int)), S2, .dat (.int p), x5, .un] = .ok (.list ((w.filter fun l => decide (0 < stone f (p + l))).map .int)) [.dat (encI f), .dat (encI w), .own (.list (ps.map .int)), S2, .dat (.int p), x5, .un] := fun S2 x5 => by
      have := lc_intsF (i := 6) (p := F1_wide_way) (fe := C1_wide_way) (q := fun l => decide (0 < stone f (p + l))) (g := fun x => x) (xs := w) (st := [.dat (encI f), .dat (encI w), .own (.list (ps.map .int)), S2, .dat (.int p), x5, .un]) (by simp) (by have := hw.ln; unfold cap; omega) (fun l _ => by
        have rs := r_strength f (p + l) hf
        simp [F1_wide_way, -List.map_map, -List.map_drop, -List.map_take, -List.map_append, -List.map_dropLast, th_ok, th_ex, th_ite, e_bind, e_ret, e_opt, ts_ok, ts_ex, ts_ite, e_bindS, sq_nx, sq_rt, sq_ex, sq_bk, sq_ct, sq_ite, e_seqS, fin_nx, fin_rt, fin_ex, fin_ite, e_fnOf, wb_ok, wb_ex, wb_ite, vA1_b, e_vAnd, vO1_b, e_vOr, vN1_b, e_vNot, ch1_b, e_chM, e_toB, e_mAnd, e_mOr, e_mNot, e_mIte, e_iteS, lp_nx, lp_ct, lp_bk, lp_rt, lp_ex, lp_ite, forL_nil, forL_nm, e_forS, okArgs, isOwn, outs, nam, frz, look, lookAll, ap1, ap2, apA, un1, bin2, opA, isiM, retS, drpS, setS, setN, putS, put, unpS, asg, mCons, mNil, e_mTup, mt1_ok, e_mLst, ml1_ok, callM, argsOf, argOf, ownIx, Sk.wb, List.getElem?_cons_zero, List.getElem?_cons_succ, List.getElem?_nil, List.set_cons_zero, List.set_cons_succ, List.replicate_succ, List.replicate_zero, List.cons_append, List.nil_append, List.foldl_cons, List.foldl_nil, List.getD_cons_zero, List.getD_cons_succ, List.all_cons, List.all_nil, isiD, tyN, dLt, dLe, dGt, dGe, dAdd_i, dEq_i, dNe_i, dSub, iOp, dLen_t, dLen_l, e_seqM, sq1_l, sq1_t, e_partM, pa1_i, sliM, isN_none, notN_none, isN_int, notN_int, isN_bool, notN_bool, isN_str, notN_str, isN_list, notN_list, isN_tup, notN_tup, isN_dict, notN_dict, raiseS, mDat, mNew, e_callAt, cal_some, wbl_ok, wbl_ex, wbl_ite, e_lcM, e_rng1, e_rng2, e_enuM, en1_l, en1_t, e_zipM, zi1_l, dMnN_i, dMx_l, dMx_t, asg_nm, asg_tp, put, e_appM, isOwnL_l, e_apd, apo_l, notN_OI, isN_OI, dNe_n0, dTup_l, dTup_t, dNeg_i, dCutT_t, dCutL_l, dNe_t0, dEq_t0, dEq_l0, rs]) (fun l _ _ => by simp [C1_wide_way, -List.map_map, -List.map_drop, -List.map_take, -List.map_append, -List.map_dropLast, th_ok, th_ex, th_ite, e_bind, e_ret, e_opt, ts_ok, ts_ex, ts_ite, e_bindS, sq_nx, sq_rt, sq_ex, sq_bk, sq_ct, sq_ite, e_seqS, fin_nx, fin_rt, fin_ex, fin_ite, e_fnOf, wb_ok, wb_ex, wb_ite, vA1_b, e_vAnd, vO1_b, e_vOr, vN1_b, e_vNot, ch1_b, e_chM, e_toB, e_mAnd, e_mOr, e_mNot, e_mIte, e_iteS, lp_nx, lp_ct, lp_bk, lp_rt, lp_ex, lp_ite, forL_nil, forL_nm, e_forS, okArgs, isOwn, outs, nam, frz, look, lookAll, ap1, ap2, apA, un1, bin2, opA, isiM, retS, drpS, setS, setN, putS, put, unpS, asg, mCons, mNil, e_mTup, mt1_ok, e_mLst, ml1_ok, callM, argsOf, argOf, ownIx, Sk.wb, List.getElem?_cons_zero, List.getElem?_cons_succ, List.getElem?_nil, List.set_cons_zero, List.set_cons_succ, List.replicate_succ, List.replicate_zero, List.cons_append, List.nil_append, List.foldl_cons, List.foldl_nil, List.getD_cons_zero, List.getD_cons_succ, List.all_cons, List.all_nil, isiD, tyN, dLt, dLe, dGt, dGe, dAdd_i, dEq_i, dNe_i, dSub, iOp, dLen_t, dLen_l, e_seqM, sq1_l, sq1_t, e_partM, pa1_i, sliM, isN_none, notN_none, isN_int, notN_int, isN_bool, notN_bool, isN_str, notN_str, isN_list, notN_list, isN_tup, notN_tup, isN_dict, notN_dict, raiseS, mDat, mNew, e_callAt, cal_some, wbl_ok, wbl_ex, wbl_ite, e_lcM, e_rng1, e_rng2, e_enuM, en1_l, en1_t, e_zipM, zi1_l, dMnN_i, dMx_l, dMx_t, asg_nm, asg_tp, put, e_appM, isOwnL_l, e_apd, apo_l, notN_OI, isN_OI, dNe_n0, dTup_l, dTup_t, dNeg_i, dCutT_t, dCutL_l, dNe_t0, dEq_t0, dEq_l0])
      rw [filter_map_id] at this
      exact this
    have go : ∀ (S2 : List (D × D)), (wideL f w p = none → ∃ st', tailW [.dat (encI f), .dat (encI w), .own (.list (ps.map .int)), .own (.dict S2), .dat (.int p), x5, .un] = .rt (.tuple [.list (ps.map .int), .none]) st') ∧
        ∀ l, wideL f w p = some l → ∃ y5, tailW [.dat (encI f), .dat (encI w), .own (.list (ps.map .int)), .own (.dict S2), .dat (.int p), x5, .un] = .nx [.dat (encI f), .dat (encI w), .own (.list ((ps ++ [p + l]).map .int)), .own (.dict S2), .dat (.int p), y5, .un] := fun S2 => by
      have lc := lc (.own (.dict S2)) x5
      refine ⟨fun e => ?_, fun l e => ?_⟩
      · have en := head_none hf hw e
        rw [en] at lc
        simp only [List.map_nil] at lc
        exact ⟨[.dat (encI f), .dat (encI w), .dat (.list (ps.map .int)), .own (.dict S2), .dat (.int p), .own (.list []), .un], by simp [tailW, -List.map_map, -List.map_drop, -List.map_take, -List.map_append, -List.map_dropLast, th_ok, th_ex, th_ite, e_bind, e_ret, e_opt, ts_ok, ts_ex, ts_ite, e_bindS, sq_nx, sq_rt, sq_ex, sq_bk, sq_ct, sq_ite, e_seqS, fin_nx, fin_rt, fin_ex, fin_ite, e_fnOf, wb_ok, wb_ex, wb_ite, vA1_b, e_vAnd, vO1_b, e_vOr, vN1_b, e_vNot, ch1_b, e_chM, e_toB, e_mAnd, e_mOr, e_mNot, e_mIte, e_iteS, lp_nx, lp_ct, lp_bk, lp_rt, lp_ex, lp_ite, forL_nil, forL_nm, e_forS, okArgs, isOwn, outs, nam, frz, look, lookAll, ap1, ap2, apA, un1, bin2, opA, isiM, retS, drpS, setS, setN, putS, put, unpS, asg, mCons, mNil, e_mTup, mt1_ok, e_mLst, ml1_ok, callM, argsOf, argOf, ownIx, Sk.wb, List.getElem?_cons_zero, List.getElem?_cons_succ, List.getElem?_nil, List.set_cons_zero, List.set_cons_succ, List.replicate_succ, List.replicate_zero, List.cons_append, List.nil_append, List.foldl_cons, List.foldl_nil, List.getD_cons_zero, List.getD_cons_succ, List.all_cons, List.all_nil, isiD, tyN, dLt, dLe, dGt, dGe, dAdd_i, dEq_i, dNe_i, dSub, iOp, dLen_t, dLen_l, e_seqM, sq1_l, sq1_t, e_partM, pa1_i, sliM, isN_none, notN_none, isN_int, notN_int, isN_bool, notN_bool, isN_str, notN_str, isN_list, notN_list, isN_tup, notN_tup, isN_dict, notN_dict, raiseS, mDat, mNew, e_callAt, cal_some, wbl_ok, wbl_ex, wbl_ite, e_lcM, e_rng1, e_rng2, e_enuM, en1_l, en1_t, e_zipM, zi1_l, dMnN_i, dMx_l, dMx_t, asg_nm, asg_tp, put, e_appM, isOwnL_l, e_apd, apo_l, notN_OI, isN_OI, dNe_n0, dTup_l, dTup_t, dNeg_i, dCutT_t, dCutL_l, dNe_t0, dEq_t0, dEq_l0, sw, lc]⟩
      · obtain ⟨i0, ie⟩ := head_some hf hw e
        have dn := dEq_lnil (w.filter fun l => decide (0 < stone f (p + l)))
        rw [ie] at dn
        have al : ps.length < cap := by unfold cap; omega
        have mp : ps.map PyData.int ++ [PyData.int (p + l)] = (ps ++ [p + l]).map .int := by simp
        refine ⟨.own (.list ((w.filter fun l => decide (0 < stone f (p + l))).map .int)), ?_⟩
        generalize (w.filter fun l => decide (0 < stone f (p + l))) = S at lc i0 dn
        simp [tailW, -List.map_map, -List.map_drop, -List.map_take, -List.map_append, -List.map_dropLast, th_ok, th_ex, th_ite, e_bind, e_ret, e_opt, ts_ok, ts_ex, ts_ite, e_bindS, sq_nx, sq_rt, sq_ex, sq_bk, sq_ct, sq_ite, e_seqS, fin_nx, fin_rt, fin_ex, fin_ite, e_fnOf, wb_ok, wb_ex, wb_ite, vA1_b, e_vAnd, vO1_b, e_vOr, vN1_b, e_vNot, ch1_b, e_chM, e_toB, e_mAnd, e_mOr, e_mNot, e_mIte, e_iteS, lp_nx, lp_ct, lp_bk, lp_rt, lp_ex, lp_ite, forL_nil, forL_nm, e_forS, okArgs, isOwn, outs, nam, frz, look, lookAll, ap1, ap2, apA, un1, bin2, opA, isiM, retS, drpS, setS, setN, putS, put, unpS, asg, mCons, mNil, e_mTup, mt1_ok, e_mLst, ml1_ok, callM, argsOf, argOf, ownIx, Sk.wb, List.getElem?_cons_zero, List.getElem?_cons_succ, List.getElem?_nil, List.set_cons_zero, List.set_cons_succ, List.replicate_succ, List.replicate_zero, List.cons_append, List.nil_append, List.foldl_cons, List.foldl_nil, List.getD_cons_zero, List.getD_cons_succ, List.all_cons, List.all_nil, isiD, tyN, dLt, dLe, dGt, dGe, dAdd_i, dEq_i, dNe_i, dSub, iOp, dLen_t, dLen_l, e_seqM, sq1_l, sq1_t, e_partM, pa1_i, sliM, isN_none, notN_none, isN_int, notN_int, isN_bool, notN_bool, isN_str, notN_str, isN_list, notN_list, isN_tup, notN_tup, isN_dict, notN_dict, raiseS, mDat, mNew, e_callAt, cal_some, wbl_ok, wbl_ex, wbl_ite, e_lcM, e_rng1, e_rng2, e_enuM, en1_l, en1_t, e_zipM, zi1_l, dMnN_i, dMx_l, dMx_t, asg_nm, asg_tp, put, e_appM, isOwnL_l, e_apd, apo_l, notN_OI, isN_OI, dNe_n0, dTup_l, dTup_t, dNeg_i, dCutT_t, dCutL_l, dNe_t0, dEq_t0, dEq_l0, sw, lc, dn, i0, al, mp]
    -- how a turn ends behind the look-up
    have fin : ∀ (S2 : List (D × D)) (st0 : List Sl), (L1_wide_way st0 = tailW [.dat (encI f), .dat (encI w), .own (.list (ps.map .int)), .own (.dict S2), .dat (.int p), x5, .un]) → S2 = kvG (seenI f ps (ps.length - 1)) → ((List.range' 1 (ps.length - 1)).map fun i => resid f (at' ps i)).Nodup →
        ((∃ st2, Goes (L1_wide_way st0) st2 ∧ ∃ m', m' < 20 - ps.length ∧ ∃ (ps : List Int) (x4 x5 : Sl), st2 = [.dat (encI f), .dat (encI w), .own (.list (ps.map .int)), .own (.dict (kvG (seenI f ps (ps.length - 2)))), x4, x5, .un] ∧ m' = 20 - ps.length ∧ Way f w ps ∧ ((List.range' 1 (ps.length - 2)).map fun i => resid f (at' ps i)).Nodup) ∨
          (∃ st2, L1_wide_way st0 = .bk st2 ∧ ∃ (ps : List Int) (j : Option Nat) (st' : List Sl), Way f w ps ∧ WayEnd f w ps j ∧ ps.length ≤ 10 ∧ SOut.nx st2 = .rt (.tuple [encL ps, encJ j]) st') ∨
          ∃ v st2, L1_wide_way st0 = .rt v st2 ∧ ∃ (ps : List Int) (j : Option Nat) (st' : List Sl), Way f w ps ∧ WayEnd f w ps j ∧ ps.length ≤ 10 ∧ SOut.rt v st2 = .rt (.tuple [encL ps, encJ j]) st') := fun S2 st0 e1 e2 nd2 => by
      have few2 := seen_few hf nd2
      obtain ⟨g1, g2⟩ := go S2
      rw [e1]
      cases hl : wideL f w p with
      | none =>
        right; right
        obtain ⟨st', e⟩ := g1 hl
        refine ⟨_, st', e, ps, none, st', W, ?_, by omega, rfl⟩
        show wideL f w (at' ps (lastI ps)) = none
        rw [hp]
        exact hl
      | some l =>
        left
        obtain ⟨y5, e⟩ := g2 l hl
        have W2 := W.snoc (l := l) (by rw [hp]; exact hl)
        rw [hp] at W2
        have ll : (ps ++ [p + l]).length - 2 = ps.length - 1 := by simp
        refine ⟨_, .inl e, 20 - (ps ++ [p + l]).length, by simp; omega, ps ++ [p + l], .dat (.int p), y5, ?_, rfl, W2, ?_⟩
        · rw [ll, seen_snoc (by omega), e2]
        · rw [ll]
          have : ((List.range' 1 (ps.length - 1)).map fun i => resid f (at' (ps ++ [p + l]) i)) = (List.range' 1 (ps.length - 1)).map fun i => resid f (at' ps i) := by
            apply List.map_congr_left
            intro i hi
            have := List.mem_range'_1.mp hi
            rw [at_snoc, if_pos (by omega)]
          rw [this]
          exact nd2
    by_cases c0 : 0 < p
    · have k2 : 2 ≤ ps.length := by
        unfold lastI at up
        by_cases c : ps.length = 1
        · have : lastI ps = 0 := by unfold lastI; omega
          rw [this, W.z] at hp
          omega
        · omega
      have lk : dkIn (.int (p % (f.length : Int))) (.dict (kvG (seenI f ps (ps.length - 2)))) = some (.bool (((seenI f ps (ps.length - 2)).find? fun q => q.1 == p % (f.length : Int)).isSome)) := by
        show some (PyData.bool (lookD _ _).isSome) = _
        rw [look_G]
        cases (seenI f ps (ps.length - 2)).find? fun q => q.1 == p % (f.length : Int) <;> rfl
      cases hq : (seenI f ps (ps.length - 2)).find? fun q => q.1 == p % (f.length : Int) with
      | some q =>
        right; right
        obtain ⟨i, i1, i2, ir, iq⟩ := seen_find hq
        have gt : dkGet (.dict (kvG (seenI f ps (ps.length - 2)))) (.int (p % (f.length : Int))) = some (.int (i : Nat)) := by
          show lookD _ _ = _
          rw [look_G, hq]
          show some (PyData.int q.2) = _
          rw [iq]
        rw [hq] at lk
        refine ⟨.tuple [.list (ps.map .int), .int (i : Nat)], [.dat (encI f), .dat (encI w), .dat (.list (ps.map .int)), .own (.dict (kvG (seenI f ps (ps.length - 2)))), .dat (.int p), x5, .un], by simp [split_W, -List.map_map, -List.map_drop, -List.map_take, -List.map_append, -List.map_dropLast, th_ok, th_ex, th_ite, e_bind, e_ret, e_opt, ts_ok, ts_ex, ts_ite, e_bindS, sq_nx, sq_rt, sq_ex, sq_bk, sq_ct, sq_ite, e_seqS, fin_nx, fin_rt, fin_ex, fin_ite, e_fnOf, wb_ok, wb_ex, wb_ite, vA1_b, e_vAnd, vO1_b, e_vOr, vN1_b, e_vNot, ch1_b, e_chM, e_toB, e_mAnd, e_mOr, e_mNot, e_mIte, e_iteS, lp_nx, lp_ct, lp_bk, lp_rt, lp_ex, lp_ite, forL_nil, forL_nm, e_forS, okArgs, isOwn, outs, nam, frz, look, lookAll, ap1, ap2, apA, un1, bin2, opA, isiM, retS, drpS, setS, setN, putS, put, unpS, asg, mCons, mNil, e_mTup, mt1_ok, e_mLst, ml1_ok, callM, argsOf, argOf, ownIx, Sk.wb, List.getElem?_cons_zero, List.getElem?_cons_succ, List.getElem?_nil, List.set_cons_zero, List.set_cons_succ, List.replicate_succ, List.replicate_zero, List.cons_append, List.nil_append, List.foldl_cons, List.foldl_nil, List.getD_cons_zero, List.getD_cons_succ, List.all_cons, List.all_nil, isiD, tyN, dLt, dLe, dGt, dGe, dAdd_i, dEq_i, dNe_i, dSub, iOp, dLen_t, dLen_l, e_seqM, sq1_l, sq1_t, e_partM, pa1_i, sliM, isN_none, notN_none, isN_int, notN_int, isN_bool, notN_bool, isN_str, notN_str, isN_list, notN_list, isN_tup, notN_tup, isN_dict, notN_dict, raiseS, mDat, mNew, e_callAt, cal_some, wbl_ok, wbl_ex, wbl_ite, e_lcM, e_rng1, e_rng2, e_enuM, en1_l, en1_t, e_zipM, zi1_l, dMnN_i, dMx_l, dMx_t, asg_nm, asg_tp, put, e_appM, isOwnL_l, e_apd, apo_l, notN_OI, isN_OI, dNe_n0, dTup_l, dTup_t, dNeg_i, dCutT_t, dCutL_l, dNe_t0, dEq_t0, dEq_l0, lf, il, c0, md, lk, gt], ⟨ps, some i, _, W, ⟨i1, by unfold lastI; omega, ?_⟩, by omega, rfl⟩⟩
        rw [hp, ir]
        rfl
      | none =>
        have sn := seen_none hq
        rw [hq] at lk
        have hs : hasD (kvG (seenI f ps (ps.length - 2))) (.inl (p % (f.length : Int))) = false := has_G fun z hz e => by
          have := List.find?_eq_none.mp hq z hz
          simp [e] at this
        have pt : putD (kvG (seenI f ps (ps.length - 2))) (.inl (p % (f.length : Int))) (.int ((ps.length : Int) - 1)) = kvG (seenI f ps (ps.length - 1)) := by
          have e1 : ps.length - 1 = (ps.length - 2) + 1 := by omega
          unfold putD
          rw [hs, if_neg Bool.false_ne_true, e1, seen_succ]
          have e2 : ps.length - 2 + 1 = lastI ps := by unfold lastI; omega
          have e3 : ((ps.length - 2 + 1 : Nat) : Int) = (ps.length : Int) - 1 := by omega
          rw [kvG, kvG, List.map_append, e3, e2, hp]
          rfl
        have nd2 : ((List.range' 1 (ps.length - 1)).map fun i => resid f (at' ps i)).Nodup := by
          have e1 : ps.length - 1 = (ps.length - 2) + 1 := by omega
          rw [e1, List.range'_1_concat, List.map_append, List.nodup_append]
          refine ⟨nd, by simp, fun x hx y hy => ?_⟩
          obtain ⟨i, hi, rfl⟩ := List.mem_map.mp hx
          have := List.mem_range'_1.mp hi
          have e2 : 1 + (ps.length - 2) = lastI ps := by unfold lastI; omega
          rw [e2] at hy
          have : y = resid f p := by simpa [hp] using hy
          rw [this]
          exact sn i (by omega) (by omega)
        have dc : (seenI f ps (ps.length - 2)).length < cap := by
          unfold seenI
          simp
          unfold cap
          omega
        refine fin _ _ ?_ rfl nd2
        rw [← pt]
        simp [split_W, -List.map_map, -List.map_drop, -List.map_take, -List.map_append, -List.map_dropLast, th_ok, th_ex, th_ite, e_bind, e_ret, e_opt, ts_ok, ts_ex, ts_ite, e_bindS, sq_nx, sq_rt, sq_ex, sq_bk, sq_ct, sq_ite, e_seqS, fin_nx, fin_rt, fin_ex, fin_ite, e_fnOf, wb_ok, wb_ex, wb_ite, vA1_b, e_vAnd, vO1_b, e_vOr, vN1_b, e_vNot, ch1_b, e_chM, e_toB, e_mAnd, e_mOr, e_mNot, e_mIte, e_iteS, lp_nx, lp_ct, lp_bk, lp_rt, lp_ex, lp_ite, forL_nil, forL_nm, e_forS, okArgs, isOwn, outs, nam, frz, look, lookAll, ap1, ap2, apA, un1, bin2, opA, isiM, retS, drpS, setS, setN, putS, put, unpS, asg, mCons, mNil, e_mTup, mt1_ok, e_mLst, ml1_ok, callM, argsOf, argOf, ownIx, Sk.wb, List.getElem?_cons_zero, List.getElem?_cons_succ, List.getElem?_nil, List.set_cons_zero, List.set_cons_succ, List.replicate_succ, List.replicate_zero, List.cons_append, List.nil_append, List.foldl_cons, List.foldl_nil, List.getD_cons_zero, List.getD_cons_succ, List.all_cons, List.all_nil, isiD, tyN, dLt, dLe, dGt, dGe, dAdd_i, dEq_i, dNe_i, dSub, iOp, dLen_t, dLen_l, e_seqM, sq1_l, sq1_t, e_partM, pa1_i, sliM, isN_none, notN_none, isN_int, notN_int, isN_bool, notN_bool, isN_str, notN_str, isN_list, notN_list, isN_tup, notN_tup, isN_dict, notN_dict, raiseS, mDat, mNew, e_callAt, cal_some, wbl_ok, wbl_ex, wbl_ite, e_lcM, e_rng1, e_rng2, e_enuM, en1_l, en1_t, e_zipM, zi1_l, dMnN_i, dMx_l, dMx_t, asg_nm, asg_tp, put, e_appM, isOwnL_l, e_apd, apo_l, notN_OI, isN_OI, dNe_n0, dTup_l, dTup_t, dNeg_i, dCutT_t, dCutL_l, dNe_t0, dEq_t0, dEq_l0, lf, il, c0, md, lk, dputS, isOwnD, keyOf, dc]
    · have p1 : ps.length = 1 := by
        unfold lastI at up
        omega
      have p0 : p = 0 := by omega
      refine fin (kvG (seenI f ps (ps.length - 2))) _ ?_ ?_ ?_
      · simp [split_W, -List.map_map, -List.map_drop, -List.map_take, -List.map_append, -List.map_dropLast, th_ok, th_ex, th_ite, e_bind, e_ret, e_opt, ts_ok, ts_ex, ts_ite, e_bindS, sq_nx, sq_rt, sq_ex, sq_bk, sq_ct, sq_ite, e_seqS, fin_nx, fin_rt, fin_ex, fin_ite, e_fnOf, wb_ok, wb_ex, wb_ite, vA1_b, e_vAnd, vO1_b, e_vOr, vN1_b, e_vNot, ch1_b, e_chM, e_toB, e_mAnd, e_mOr, e_mNot, e_mIte, e_iteS, lp_nx, lp_ct, lp_bk, lp_rt, lp_ex, lp_ite, forL_nil, forL_nm, e_forS, okArgs, isOwn, outs, nam, frz, look, lookAll, ap1, ap2, apA, un1, bin2, opA, isiM, retS, drpS, setS, setN, putS, put, unpS, asg, mCons, mNil, e_mTup, mt1_ok, e_mLst, ml1_ok, callM, argsOf, argOf, ownIx, Sk.wb, List.getElem?_cons_zero, List.getElem?_cons_succ, List.getElem?_nil, List.set_cons_zero, List.set_cons_succ, List.replicate_succ, List.replicate_zero, List.cons_append, List.nil_append, List.foldl_cons, List.foldl_nil, List.getD_cons_zero, List.getD_cons_succ, List.all_cons, List.all_nil, isiD, tyN, dLt, dLe, dGt, dGe, dAdd_i, dEq_i, dNe_i, dSub, iOp, dLen_t, dLen_l, e_seqM, sq1_l, sq1_t, e_partM, pa1_i, sliM, isN_none, notN_none, isN_int, notN_int, isN_bool, notN_bool, isN_str, notN_str, isN_list, notN_list, isN_tup, notN_tup, isN_dict, notN_dict, raiseS, mDat, mNew, e_callAt, cal_some, wbl_ok, wbl_ex, wbl_ite, e_lcM, e_rng1, e_rng2, e_enuM, en1_l, en1_t, e_zipM, zi1_l, dMnN_i, dMx_l, dMx_t, asg_nm, asg_tp, put, e_appM, isOwnL_l, e_apd, apo_l, notN_OI, isN_OI, dNe_n0, dTup_l, dTup_t, dNeg_i, dCutT_t, dCutL_l, dNe_t0, dEq_t0, dEq_l0, il, c0]
      · rw [p1]
      · rw [p1]
        simp
  obtain ⟨ps, j, st', W, E, l, e⟩ := lp
  exact ⟨ps, j, W, E, l, by simp [m_wide_way, b_wide_way, -List.map_map, -List.map_drop, -List.map_take, -List.map_append, -List.map_dropLast, th_ok, th_ex, th_ite, e_bind, e_ret, e_opt, ts_ok, ts_ex, ts_ite, e_bindS, sq_nx, sq_rt, sq_ex, sq_bk, sq_ct, sq_ite, e_seqS, fin_nx, fin_rt, fin_ex, fin_ite, e_fnOf, wb_ok, wb_ex, wb_ite, vA1_b, e_vAnd, vO1_b, e_vOr, vN1_b, e_vNot, ch1_b, e_chM, e_toB, e_mAnd, e_mOr, e_mNot, e_mIte, e_iteS, lp_nx, lp_ct, lp_bk, lp_rt, lp_ex, lp_ite, forL_nil, forL_nm, e_forS, okArgs, isOwn, outs, nam, frz, look, lookAll, ap1, ap2, apA, un1, bin2, opA, isiM, retS, drpS, setS, setN, putS, put, unpS, asg, mCons, mNil, e_mTup, mt1_ok, e_mLst, ml1_ok, callM, argsOf, argOf, ownIx, Sk.wb, List.getElem?_cons_zero, List.getElem?_cons_succ, List.getElem?_nil, List.set_cons_zero, List.set_cons_succ, List.replicate_succ, List.replicate_zero, List.cons_append, List.nil_append, List.foldl_cons, List.foldl_nil, List.getD_cons_zero, List.getD_cons_succ, List.all_cons, List.all_nil, isiD, tyN, dLt, dLe, dGt, dGe, dAdd_i, dEq_i, dNe_i, dSub, iOp, dLen_t, dLen_l, e_seqM, sq1_l, sq1_t, e_partM, pa1_i, sliM, isN_none, notN_none, isN_int, notN_int, isN_bool, notN_bool, isN_str, notN_str, isN_list, notN_list, isN_tup, notN_tup, isN_dict, notN_dict, raiseS, mDat, mNew, e_callAt, cal_some, wbl_ok, wbl_ex, wbl_ite, e_lcM, e_rng1, e_rng2, e_enuM, en1_l, en1_t, e_zipM, zi1_l, dMnN_i, dMx_l, dMx_t, asg_nm, asg_tp, put, e_appM, isOwnL_l, e_apd, apo_l, notN_OI, isN_OI, dNe_n0, dTup_l, dTup_t, dNeg_i, dCutT_t, dCutL_l, dNe_t0, dEq_t0, dEq_l0, e]⟩
end
end Zk07
set_option maxHeartbeats 1000000
namespace Zk07
open PySem PySem.Spec PyProof.Rows L2 Sk LamX
/-! what a walker with a will comes to, over all widths -/
theorem find_first {α : Type} {p q : α → Bool} {l : List α} {x : α} (h : l.find? p = some x) (hq : q x = true) (hpq : ∀ y ∈ l, q y = true → p y = true) : l.find? q = some x := by
  induction l with
  | nil => cases h
  | cons y ys ih =>
    by_cases c : p y = true
    · rw [List.find?_cons_of_pos c] at h
      cases h
      rw [List.find?_cons_of_pos hq]
    · rw [List.find?_cons_of_neg c] at h
      have : ¬ q y = true := fun z => c (hpq y (List.mem_cons_self ..) z)
      rw [List.find?_cons_of_neg this]
      exact ih h fun z hz => hpq z (List.mem_cons_of_mem _ hz)
theorem first_find (f w : List Int) (n p : Int) : firstL f w n p = w.find? (canL f n p) := by
  unfold firstL
  rw [List.head?_filter]
theorem wide_find (f w : List Int) (p : Int) : wideL f w p = w.find? fun l => decide (0 < stone f (p + l)) := by
  unfold wideL
  rw [List.head?_filter]
section
variable {f w : List Int}
/-- within the river the way is the wide one -/
theorem first_wide {n p : Int} (h : ∀ l ∈ w, p + l ≤ n) : firstL f w n p = wideL f w p := by
  rw [first_find, wide_find]
  have : ∀ l ∈ w, canL f n p l = decide (0 < stone f (p + l)) := fun l hl => by
    have := h l hl
    unfold canL
    rw [decide_eq_false (by omega), Bool.false_or]
  clear h
  induction w with
  | nil => rfl
  | cons l w ih =>
    have e := this l (List.mem_cons_self ..)
    rw [List.find?_cons, List.find?_cons, e, ih fun x hx => this x (List.mem_cons_of_mem _ hx)]
/-- a step leads over, or it is the wide one -/
theorem first_or {n p l : Int} (h : firstL f w n p = some l) : n < p + l ∨ wideL f w p = some l := by
  by_cases c : n < p + l
  · exact .inl c
  · right
    have hc := (first_in (f := f) (w := w) (n := n) (p := p) (l := l))
    rw [first_find] at h
    rw [wide_find]
    have h2 := List.find?_some h
    refine find_first h ?_ fun y hy hq => ?_
    · unfold canL at h2
      simpa [c] using h2
    · unfold canL
      rw [hq, Bool.or_true]
theorem first_none {n p : Int} (h : firstL f w n p = none) : (∀ l ∈ w, p + l ≤ n) ∧ wideL f w p = none := by
  rw [first_find] at h
  have h := List.find?_eq_none.mp h
  refine ⟨fun l hl => ?_, ?_⟩
  · have := h l hl
    unfold canL at this
    simp at this
    omega
  · rw [wide_find]
    refine List.find?_eq_none.mpr fun l hl => ?_
    have := h l hl
    unfold canL at this
    simp at this
    simp
    omega
theorem stone_shift {p t : Int} (h : (f.length : Int) ∣ t) : stone f (p + t) = stone f p := by
  unfold stone
  obtain ⟨k, rfl⟩ := h
  have : (p + (f.length : Int) * k - 1) % (f.length : Int) = (p - 1) % (f.length : Int) := by
    rw [show p + (f.length : Int) * k - 1 = (p - 1) + (f.length : Int) * k by omega, Int.add_mul_emod_self_left]
  rw [this]
theorem wide_shift {p t : Int} (h : (f.length : Int) ∣ t) : wideL f w (p + t) = wideL f w p := by
  unfold wideL
  congr 1
  apply List.filter_congr
  intro l _
  rw [show p + t + l = (p + l) + t by omega, stone_shift h]
theorem first_shift {n p t : Int} (h : (f.length : Int) ∣ t) : firstL f w (n + t) (p + t) = firstL f w n p := by
  unfold firstL
  congr 1
  apply List.filter_congr
  intro l _
  unfold canL
  rw [show p + t + l = (p + l) + t by omega, stone_shift h]
  congr 1
  simp
variable (one : ∀ l ∈ w, 1 ≤ l)
include one
theorem go_shift {t : Int} (h : (f.length : Int) ∣ t) : ∀ (m : Nat) (n p : Int), (n + 1 - p).toNat ≤ m → goW f w (n + t) (p + t) = goW f w n p
  | 0, n, p, hm => by rw [go_end one (by omega), go_end one (by omega)]
  | m + 1, n, p, hm => by
    by_cases c : p ≤ n
    · rw [go_step one c, go_step one (by omega), first_shift h]
      cases e : firstL f w n p with
      | none => rfl
      | some l =>
        have l1 := one l (first_in one e).1
        simp only
        rw [show p + t + l = (p + l) + t by omega, go_shift h m n (p + l) (by omega)]
    · rw [go_end one (by omega), go_end one (by omega)]
/-- the steps along the places from i, k of them -/
def segs (ps : List Int) (i k : Nat) : List Int := (List.range' i k).map fun j => at' ps (j + 1) - at' ps j
theorem go_along {ps : List Int} (W : Way f w ps) {n : Int} (i : Nat) : ∀ k, i + k < ps.length → (∀ j, i ≤ j → j < i + k → ∀ l ∈ w, at' ps j + l ≤ n) → goW f w n (at' ps i) = (segs ps i k ++ (goW f w n (at' ps (i + k))).1, (goW f w n (at' ps (i + k))).2)
  | 0, _, _ => by simp [segs]
  | k + 1, hl, hn => by
    have ih := go_along W i k (by omega) fun j h1 h2 => hn j h1 (by omega)
    obtain ⟨l, e1, e2⟩ := W.st (i + k) (by omega)
    have hh := hn (i + k) (by omega) (by omega)
    have l1 := (wide_in e1).1
    have b := hh l l1
    have b1 := one l l1
    rw [ih, go_step (f := f) (n := n) (p := at' ps (i + k)) one (by omega), first_wide hh, e1]
    simp only
    have e3 : i + (k + 1) = (i + k) + 1 := rfl
    rw [e3, e2]
    have sg : segs ps i (k + 1) = segs ps i k ++ [l] := by
      unfold segs
      rw [List.range'_1_concat, List.map_append]
      congr 1
      simp only [List.map_cons, List.map_nil]
      congr 1
      rw [e2]
      omega
    rw [sg, List.append_assoc]
    rfl
end
section
variable {f w ps : List Int} (hw : GoodW w) (W : Way f w ps)
/-- stuck: beyond the last place there is no stone to come to -/
theorem stuck_far (E : WayEnd f w ps none) {n : Int} (hn : ∀ l ∈ w, at' ps (lastI ps) + l ≤ n) (hw : GoodW w) (W : Way f w ps) : (goW f w n 0).2 = false ∧ (goW f w n 0).1 = segs ps 0 (lastI ps) := by
  have one : ∀ l ∈ w, 1 ≤ l := fun l h => (hw.lo l h).1
  have n0 := W.ne
  have mono : ∀ j, j ≤ lastI ps → at' ps j ≤ at' ps (lastI ps) := by
    have key : ∀ d j, j + d = lastI ps → at' ps j ≤ at' ps (lastI ps) := by
      intro d
      induction d with
      | zero => intro j h; have : j = lastI ps := by omega
                rw [this]; exact Int.le_refl _
      | succ d ih =>
        intro j h
        obtain ⟨l, e1, e2⟩ := W.st j (by unfold lastI at h; omega)
        have := one l (wide_in e1).1
        have := ih (j + 1) (by omega)
        omega
    intro j h
    exact key (lastI ps - j) j (by omega)
  have g := go_along (f := f) (w := w) one W (n := n) 0 (lastI ps) (by unfold lastI; omega) fun j _ h2 l hl => by
    have := mono j (by omega)
    have := hn l hl
    omega
  rw [W.z, Nat.zero_add] at g
  have nl : at' ps (lastI ps) ≤ n := by
    obtain ⟨l, hl⟩ := List.exists_mem_of_ne_nil w hw.ne
    have := hn l hl
    have := one l hl
    omega
  have s := go_step (f := f) (n := n) (p := at' ps (lastI ps)) one nl
  have E : wideL f w (at' ps (lastI ps)) = none := E
  rw [first_wide hn, E] at s
  rw [g, s]
  simp
/-- who comes along the way and is not stuck -/
theorem comes (hw : GoodW w) (P : Int → Prop) (hP : ∀ p l, P p → wideL f w p = some l → P (p + l)) (n : Int) (hs : ∀ p, P p → wideL f w p = none → ∃ l ∈ w, n < p + l) : ∀ (m : Nat) (p : Int), (n + 1 - p).toNat ≤ m → P p → (goW f w n p).2 = true
  | 0, p, hm, hp => by rw [go_end (fun l h => (hw.lo l h).1) (by omega)]
  | m + 1, p, hm, hp => by
    have one : ∀ l ∈ w, 1 ≤ l := fun l h => (hw.lo l h).1
    by_cases c : p ≤ n
    · rw [go_step one c]
      cases e : firstL f w n p with
      | none =>
        obtain ⟨h1, h2⟩ := first_none e
        obtain ⟨l, hl, h3⟩ := hs p hp h2
        have := h1 l hl
        omega
      | some l =>
        have l1 := one l (first_in one e).1
        simp only
        rcases first_or e with h | h
        · rw [go_end one h]
        · exact comes hw P hP n hs m (p + l) (by omega) (hP p l hp h)
    · rw [go_end one (by omega)]
theorem stuck_near (E : WayEnd f w ps none) (hw : GoodW w) (W : Way f w ps) {n : Int} {l : Int} (hl : l ∈ w) (hn : n < at' ps (lastI ps) + l) : (goW f w n 0).2 = true := by
  have n0 := W.ne
  refine comes hw (fun p => ∃ i, i < ps.length ∧ p = at' ps i) (fun p l' ⟨i, hi, e⟩ h => ?_) n (fun p ⟨i, hi, e⟩ h => ?_) (n + 1 - 0).toNat 0 (Nat.le_refl _) ⟨0, n0, W.z.symm⟩
  · by_cases c : i + 1 < ps.length
    · obtain ⟨l2, e1, e2⟩ := W.st i c
      rw [← e, h] at e1
      cases e1
      exact ⟨i + 1, c, by rw [e2, e]⟩
    · have : i = lastI ps := by unfold lastI; omega
      have E : wideL f w (at' ps (lastI ps)) = none := E
      rw [← this, ← e, h] at E
      cases E
  · by_cases c : i + 1 < ps.length
    · obtain ⟨l2, e1, e2⟩ := W.st i c
      rw [← e, h] at e1
      cases e1
    · have : i = lastI ps := by unfold lastI; omega
      exact ⟨l, hl, by rw [e, this]; exact hn⟩
/-- round: nobody is stuck -/
theorem round_comes (hf : f ≠ []) (hw : GoodW w) (W : Way f w ps) {j : Nat} (E : WayEnd f w ps (some j)) (n : Int) : (goW f w n 0).2 = true := by
  have l0 : 0 < f.length := List.length_pos_iff.mpr hf
  obtain ⟨j1, jl, je⟩ := E
  have dv : ∀ p q : Int, resid f p = resid f q → (f.length : Int) ∣ p - q := fun p q h => by
    unfold resid at h
    exact Int.dvd_of_emod_eq_zero (by rw [Int.sub_emod, h]; simp)
  have wr : ∀ p q : Int, resid f p = resid f q → wideL f w p = wideL f w q := fun p q h => by
    have := wide_shift (f := f) (w := w) (p := q) (dv p q h)
    rw [← this]
    congr 1
    omega
  have rr : ∀ p q l : Int, resid f p = resid f q → resid f (p + l) = resid f (q + l) := fun p q l h => by
    unfold resid at h ⊢
    rw [Int.add_emod, h, ← Int.add_emod]
  refine comes hw (fun p => ∃ i, i < lastI ps ∧ resid f p = resid f (at' ps i)) (fun p l' ⟨i, hi, e⟩ h => ?_) n (fun p ⟨i, hi, e⟩ h => ?_) (n + 1 - 0).toNat 0 (Nat.le_refl _) ⟨0, by omega, by rw [W.z]⟩
  · obtain ⟨l2, e1, e2⟩ := W.st i (by unfold lastI at hi; omega)
    rw [wr p _ e, e1] at h
    cases h
    by_cases c : i + 1 < lastI ps
    · exact ⟨i + 1, c, by rw [e2]; exact rr p _ _ e⟩
    · have : i + 1 = lastI ps := by omega
      refine ⟨j, jl, ?_⟩
      rw [je, ← this, e2]
      exact rr p _ _ e
  · obtain ⟨l2, e1, e2⟩ := W.st i (by unfold lastI at hi; omega)
    rw [wr p _ e, e1] at h
    cases h
theorem sum_append (xs ys : List Int) : (xs ++ ys).sum = xs.sum + ys.sum := by
  induction xs with
  | nil => simp
  | cons x xs ih => rw [List.cons_append, List.sum_cons, List.sum_cons, ih]; omega
/-- over rivers that are wider by a round there is one round more -/
theorem round_more (hf : f ≠ []) (hw : GoodW w) (W : Way f w ps) {j : Nat} (E : WayEnd f w ps (some j)) {n : Int} (hn : at' ps j + 6 ≤ n) (τ : Int → Int) :
    ((goW f w (n + (at' ps (lastI ps) - at' ps j)) 0).1.map τ).sum = ((goW f w n 0).1.map τ).sum + ((segs ps j (lastI ps - j)).map τ).sum := by
  obtain ⟨j1, jl, je⟩ := E
  have one : ∀ l ∈ w, 1 ≤ l := fun l h => (hw.lo l h).1
  have mono : ∀ i d, i + d ≤ lastI ps → at' ps i ≤ at' ps (i + d) := by
    intro i d
    induction d with
    | zero => intro _; exact Int.le_refl _
    | succ d ih =>
      intro h
      obtain ⟨l, e1, e2⟩ := W.st (i + d) (by unfold lastI at h; omega)
      have := one l (wide_in e1).1
      have := ih (by omega)
      have e3 : i + (d + 1) = i + d + 1 := rfl
      rw [e3]
      omega
  have mono' : ∀ i k, i ≤ k → k ≤ lastI ps → at' ps i ≤ at' ps k := fun i k h1 h2 => by
    have := mono i (k - i) (by omega)
    rw [show i + (k - i) = k by omega] at this
    exact this
  generalize hs : at' ps (lastI ps) - at' ps j = size
  have dvd : (f.length : Int) ∣ size := by
    unfold resid at je
    rw [← hs]
    exact Int.dvd_of_emod_eq_zero (by rw [Int.sub_emod, je]; simp)
  have lt' : ∀ i, i < lastI ps → at' ps i < at' ps (lastI ps) := fun i h => by
    obtain ⟨l, e1, e2⟩ := W.st i (by unfold lastI at h; omega)
    have := one l (wide_in e1).1
    have := mono' (i + 1) (lastI ps) (by omega) (Nat.le_refl _)
    omega
  have n0 := W.ne
  have g1 := go_along (f := f) (w := w) one W (n := n + size) 0 (lastI ps) (by unfold lastI; omega) fun i _ h2 l hl => by
    have := lt' i (by omega)
    have := (hw.lo l hl).2
    omega
  have g2 := go_along (f := f) (w := w) one W (n := n) 0 j (by unfold lastI at jl; omega) fun i _ h2 l hl => by
    have := mono' i j (by omega) (by omega)
    have := (hw.lo l hl).2
    omega
  rw [W.z, Nat.zero_add] at g1 g2
  have sh := go_shift (f := f) (w := w) one dvd (n + 1 - at' ps j).toNat n (at' ps j) (Nat.le_refl _)
  have e1 : at' ps j + size = at' ps (lastI ps) := by omega
  rw [e1] at sh
  rw [g1, g2, sh]
  simp only [List.map_append, sum_append]
  have sg : segs ps 0 (lastI ps) = segs ps 0 j ++ segs ps j (lastI ps - j) := by
    unfold segs
    rw [← List.map_append]
    congr 1
    have : List.range' 0 (lastI ps) = List.range' 0 (j + (lastI ps - j)) := by congr 1; omega
    rw [this, ← List.range'_append_1, Nat.zero_add]
  rw [sg, List.map_append, sum_append]
  omega
end
end Zk07
set_option maxHeartbeats 1000000
namespace Zk07
open PySem PySem.Spec PyProof.Rows L2 Sk LamX
/-! the calendar of a walker with a will -/
def VW (f w : List Int) (τ : Int → Int) (n : Nat) : Int := ((goW f w (n : Int) 0).1.map τ).sum
/-- what is told over a width -/
def tellW (f w : List Int) (τ : Int → Int) (n : Nat) : Option Int := if (goW f w (n : Int) 0).2 = true then some (VW f w τ n) else none
theorem max_fold (x : Int) (xs : List Int) : (xs.foldl max x ∈ x :: xs) ∧ ∀ y ∈ x :: xs, y ≤ xs.foldl max x := by
  induction xs generalizing x with
  | nil => exact ⟨by simp, fun y h => by simp at h; simp [h]⟩
  | cons k xs ih =>
    obtain ⟨h1, h2⟩ := ih (max x k)
    rw [List.foldl_cons]
    refine ⟨?_, fun y hy => ?_⟩
    · rcases List.mem_cons.mp h1 with h | h
      · rw [h]
        have : max x k = x ∨ max x k = k := by omega
        rcases this with z | z <;> rw [z] <;> simp
      · exact List.mem_cons_of_mem _ (List.mem_cons_of_mem _ h)
    · have h0 := h2 (max x k) (List.mem_cons_self ..)
      rcases List.mem_cons.mp hy with rfl | hy
      · omega
      · rcases List.mem_cons.mp hy with rfl | hy
        · omega
        · exact h2 y (List.mem_cons_of_mem _ hy)
def maxW : List Int → Int
  | [] => 0
  | x :: xs => xs.foldl max x
theorem maxW_spec {w : List Int} (h : w ≠ []) : maxW w ∈ w ∧ (∀ l ∈ w, l ≤ maxW w) ∧ dMx max [encI w] = some (.int (maxW w)) := by
  cases w with
  | nil => exact absurd rfl h
  | cons x xs =>
    obtain ⟨a, b⟩ := max_fold x xs
    exact ⟨a, b, dMx_t⟩
/-- the calendar that is told -/
def calW (f w : List Int) (τ : Int → Int) (ps : List Int) : Option Nat → List Int × CalT
  | none => ((List.range (at' ps (lastI ps) + maxW w).toNat).map (VW f w τ), none)
  | some j =>
    let size := (at' ps (lastI ps) - at' ps j).toNat
    let first := (at' ps j + 6).toNat
    let vs := (List.range (first + size)).map (VW f w τ)
    let p := Cal.plain (vs.take first) ((vs.drop first).take size) ((segs ps j (lastI ps - j)).map τ).sum
    (p.1, some (p.2.1, p.2.2))
theorem getD_map {g : Nat → Int} {n i : Nat} (h : i < n) : ((List.range n).map g).getD i 0 = g i := by
  rw [List.getD_eq_getElem?_getD, List.getElem?_map, List.getElem?_range h]
  rfl
theorem calW_ok {f w ps : List Int} (hf : f ≠ []) (hw : GoodW w) (W : Way f w ps) (hl : ps.length ≤ 10) {j : Option Nat} (E : WayEnd f w ps j) (τ : Int → Int) (hτ : ∀ l ∈ w, 0 ≤ τ l ∧ τ l ≤ 9) :
    OkC (calW f w τ ps j).1 (calW f w τ ps j).2 ∧ LeastC (calW f w τ ps j).1 (calW f w τ ps j).2 ∧ ((calW f w τ ps j).1.length ≤ 200 ∧ ∀ a r, (calW f w τ ps j).2 = some (a, r) → a.length ≤ 200) ∧ ∀ n : Nat, toldC (calW f w τ ps j).1 (calW f w τ ps j).2 n = tellW f w τ n := by
  have n0 := W.ne
  have up := W.up hw
  have ul := up (lastI ps) (by unfold lastI; omega)
  obtain ⟨m1, m2, _⟩ := maxW_spec hw.ne
  have mb := hw.lo _ m1
  have ll : lastI ps ≤ 9 := by unfold lastI; omega
  cases j with
  | none =>
    have len : (calW f w τ ps none).1.length = (at' ps (lastI ps) + maxW w).toNat := by simp [calW]
    refine ⟨⟨by omega, fun a r h => by cases h⟩, trivial, ⟨by omega, fun a r h => by cases h⟩, fun n => ?_⟩
    show (if n < (calW f w τ ps none).1.length then some ((calW f w τ ps none).1.getD n 0) else none) = _
    rw [len]
    unfold tellW
    by_cases c : n < (at' ps (lastI ps) + maxW w).toNat
    · rw [if_pos c, stuck_near E hw W m1 (by omega), if_pos rfl]
      congr 1
      exact getD_map c
    · rw [if_neg c, (stuck_far (f := f) E (n := (n : Int)) (fun l hl => by have := m2 l hl; omega) hw W).1]
      rfl
  | some j =>
    have E' := E
    obtain ⟨j1, jl, je⟩ := E'
    have uj := up j (by unfold lastI at jl; omega)
    have lt : at' ps j < at' ps (lastI ps) := by
      have key : ∀ d i, i + d + 1 ≤ lastI ps → at' ps i < at' ps (i + d + 1) := by
        intro d
        induction d with
        | zero =>
          intro i h
          obtain ⟨l, e1, e2⟩ := W.st i (by unfold lastI at h; omega)
          have := (hw.lo l (wide_in e1).1).1
          rw [Nat.add_zero, e2]
          omega
        | succ d ih =>
          intro i h
          have := ih i (by omega)
          obtain ⟨l, e1, e2⟩ := W.st (i + d + 1) (by unfold lastI at h; omega)
          have := (hw.lo l (wide_in e1).1).1
          have e3 : i + (d + 1) + 1 = i + d + 1 + 1 := by omega
          rw [e3, e2]
          omega
      have := key (lastI ps - j - 1) j (by omega)
      rw [show j + (lastI ps - j - 1) + 1 = lastI ps by omega] at this
      exact this
    have more := fun (n : Int) (hn : at' ps j + 6 ≤ n) => round_more hf hw W E (n := n) hn τ
    have comes := round_comes hf hw W E
    generalize hsz : (at' ps (lastI ps) - at' ps j).toNat = size
    generalize hfi : (at' ps j + 6).toNat = first
    have esz : at' ps (lastI ps) - at' ps j = (size : Int) := by omega
    rw [esz] at more
    have efi : at' ps j + 6 = (first : Int) := by omega
    rw [efi] at more
    have rb : 0 ≤ ((segs ps j (lastI ps - j)).map τ).sum ∧ ((segs ps j (lastI ps - j)).map τ).sum ≤ 9 * 10 := by
      have key : ∀ k, j + k < ps.length → 0 ≤ ((segs ps j k).map τ).sum ∧ ((segs ps j k).map τ).sum ≤ 9 * k := by
        intro k
        induction k with
        | zero => intro _; simp [segs]
        | succ k ih =>
          intro h
          obtain ⟨h1, h2⟩ := ih (by omega)
          obtain ⟨l, e1, e2⟩ := W.st (j + k) (by omega)
          have sg : segs ps j (k + 1) = segs ps j k ++ [l] := by
            unfold segs
            rw [List.range'_1_concat, List.map_append]
            congr 1
            simp only [List.map_cons, List.map_nil]
            congr 1
            rw [e2]
            omega
          have := hτ l (wide_in e1).1
          rw [sg, List.map_append, sum_append]
          simp
          omega
      obtain ⟨h1, h2⟩ := key (lastI ps - j) (by unfold lastI; unfold lastI at jl; omega)
      omega
    generalize hri : ((segs ps j (lastI ps - j)).map τ).sum = rise at more rb
    have s0 : 0 < size := by omega
    generalize hvs : (List.range (first + size)).map (VW f w τ) = vs
    have lv : vs.length = first + size := by rw [← hvs]; simp
    have la : ((vs.drop first).take size).length = size := by simp [lv]
    have le : (vs.take first).length = first := by simp [lv]
    have eq : calW f w τ ps (some j) = ((Cal.plain (vs.take first) ((vs.drop first).take size) rise).1, some ((Cal.plain (vs.take first) ((vs.drop first).take size) rise).2.1, (Cal.plain (vs.take first) ((vs.drop first).take size) rise).2.2)) := by
      unfold calW
      simp only [hsz, hfi, hri, hvs]
    obtain ⟨p1, p2, p3, p4⟩ := Cal.plain_spec (e := vs.take first) (a := (vs.drop first).take size) (r := rise) (by omega)
    have pr : -1000000000 < (Cal.plain (vs.take first) ((vs.drop first).take size) rise).2.2 ∧ (Cal.plain (vs.take first) ((vs.drop first).take size) rise).2.2 < 1000000000 := by
      unfold Cal.plain
      cases es : Cal.sizeOf' ((vs.drop first).take size) rise with
      | none => simp only; omega
      | some s =>
        simp only
        rw [la]
        obtain ⟨s', e', s1, s2, _⟩ := Cal.size_spec (a := (vs.drop first).take size) (r := rise) (by omega)
        rw [es] at e'
        cases e'
        rw [la] at s2
        have a1 : 0 ≤ rise * (s : Int) := Int.mul_nonneg rb.1 (by omega)
        have a2 : rise * (s : Int) ≤ 90 * 60 := Int.mul_le_mul (by omega) (by omega) (by omega) (by omega)
        have a3 : 0 ≤ rise * (s : Int) / (size : Int) := Int.ediv_nonneg a1 (by omega)
        have a4 : rise * (s : Int) / (size : Int) ≤ rise * (s : Int) := Int.ediv_le_self _ a1
        omega
    rw [eq]
    refine ⟨⟨by simp only; omega, fun a r h => ?_⟩, p1, ⟨by simp only; omega, fun a r h => by cases h; omega⟩, fun n => ?_⟩
    · cases h
      exact ⟨p1.pos, by omega, pr.1, pr.2⟩
    · show some (Cal.told _ _ _ n) = _
      rw [p2 n]
      unfold tellW
      rw [comes, if_pos rfl]
      congr 1
      induction n using Nat.strongRecOn with
      | ind n ih =>
        unfold Cal.told
        rw [le]
        by_cases c : n < first
        · rw [if_pos c, List.getD_eq_getElem?_getD, List.getElem?_take, if_pos c, ← List.getD_eq_getElem?_getD, ← hvs, getD_map (by omega)]
        · rw [if_neg c]
          by_cases c2 : n < first + size
          · rw [Cal.ext_small (by omega), List.getD_eq_getElem?_getD, List.getElem?_take, if_pos (by omega), List.getElem?_drop, show first + (n - first) = n by omega, ← List.getD_eq_getElem?_getD, ← hvs, getD_map c2]
          · have e1 := Cal.ext_add (a := (vs.drop first).take size) (r := rise) (by omega) (n - size - first)
            rw [la, show n - size - first + size = n - first by omega] at e1
            rw [e1]
            have ih := ih (n - size) (by omega)
            unfold Cal.told at ih
            rw [le, if_neg (by omega)] at ih
            rw [ih]
            have m := more ((n - size : Nat) : Int) (by omega)
            have e2 : ((n - size : Nat) : Int) + (size : Int) = (n : Int) := by omega
            rw [e2] at m
            unfold VW
            omega
end Zk07
set_option maxHeartbeats 1000000
namespace Zk07
open PySem PySem.Spec PyProof.Rows L2 Sk LamX
theorem at_get {ps : List Int} {i : Nat} (h : i < ps.length) : ps[i]? = some (at' ps i) := by
  unfold at'
  rw [List.getD_eq_getElem?_getD, List.getElem?_eq_getElem h]
  rfl
theorem zip_next (ps : List Int) (j : Nat) : zipD ((ps.drop j).map .int) ((ps.drop (j + 1)).map .int) = (List.range' j (lastI ps - j)).map fun i => .tuple [.int (at' ps i), .int (at' ps (i + 1))] := by
  have ln : (zipD ((ps.drop j).map .int) ((ps.drop (j + 1)).map .int)).length = lastI ps - j := by
    rw [zipD_len]
    simp
    unfold lastI
    omega
  apply List.ext_getElem?
  intro i
  by_cases h : i < lastI ps - j
  · have hi : i < (zipD ((ps.drop j).map .int) ((ps.drop (j + 1)).map .int)).length := by rw [ln]; exact h
    have e := List.getElem?_eq_getElem hi
    obtain ⟨x, y, hx, hy, hd⟩ := zipD_get _ _ _ _ e
    rw [e, hd, List.getElem?_map, List.getElem?_range' h]
    rw [List.getElem?_map, List.getElem?_drop, at_get (by unfold lastI at h; omega)] at hx hy
    cases hx
    cases hy
    simp only [Option.map_some, Nat.one_mul]
    rw [show j + 1 + i = j + i + 1 by omega]
  · rw [List.getElem?_eq_none (by rw [ln]; omega), List.getElem?_eq_none (by simp; omega)]
section
variable {f w : List Int} (hf : f ≠ []) (hl8 : f.length ≤ 8) (hw : GoodW w) (TD : D) (τ : Int → Int) (hT : ∀ l ∈ w, dkGet TD (.int l) = some (.int (τ l)))
include hf hl8 hw hT
theorem cby1 (ps : List Int) (j : Option Nat) (M8 : D) (most : Nat) (hm : most ≤ 1000) (x9 x10 x11 x12 x13 : Sl) : ∃ x7 x8 : Sl, forL (.nm 7) L1_calendar_by [] (rngL 0 most) [.dat (encI f), .dat (encI w), .dat TD, .dat (encL ps), .dat (encJ j), .own (.list []), .dat M8, .un, .un, x9, x10, x11, x12, x13, .un] =
    .nx [.dat (encI f), .dat (encI w), .dat TD, .dat (encL ps), .dat (encJ j), .own (.list (((List.range most).map (VW f w τ)).map .int)), .dat M8, x7, x8, x9, x10, x11, x12, x13, .un] := by
  have one := GoodW.one hf hw
  obtain ⟨st', e, x7, x8, rfl⟩ := for_rng (i := 7) (body := L1_calendar_by) 0 most (fun k st => ∃ x7 x8 : Sl, st = [.dat (encI f), .dat (encI w), .dat TD, .dat (encL ps), .dat (encJ j), .own (.list (((List.range k).map (VW f w τ)).map .int)), .dat M8, x7, x8, x9, x10, x11, x12, x13, .un]) (fun k st hk h => by
    obtain ⟨x7, x8, rfl⟩ := h
    have rg := r_gone hf hw k (by omega)
    rw [Int.zero_add]
    have mem := go_mem (f := f) one (k : Int) ((k : Int) + 1 - 0).toNat 0 (Nat.le_refl _)
    have gl := go_len (f := f) one (k : Int) ((k : Int) + 1 - 0).toNat 0 (Nat.le_refl _)
    have ev : ((goW f w (k : Int) 0).1.map τ).sum = VW f w τ k := rfl
    generalize goW f w (k : Int) 0 = R at rg mem gl ev
    have ix : dIx (.tuple [encL R.1, .bool R.2]) (.int 0) = some (.list (R.1.map .int)) := rfl
    have lc := lc_ints (i := 14) (fe := C1_calendar_by) (g := τ) (xs := R.1) (st := [.dat (encI f), .dat (encI w), .dat TD, .dat (encL ps), .dat (encJ j), .own (.list (((List.range k).map (VW f w τ)).map .int)), .dat M8, .dat (.int (k : Int)), .dat (.list (R.1.map .int)), x9, x10, x11, x12, x13, .un]) (by simp) (by unfold cap; omega) (fun x hx => by simp [C1_calendar_by, -List.map_map, -List.map_drop, -List.map_take, -List.map_append, -List.map_dropLast, th_ok, th_ex, th_ite, e_bind, e_ret, e_opt, ts_ok, ts_ex, ts_ite, e_bindS, sq_nx, sq_rt, sq_ex, sq_bk, sq_ct, sq_ite, e_seqS, fin_nx, fin_rt, fin_ex, fin_ite, e_fnOf, wb_ok, wb_ex, wb_ite, vA1_b, e_vAnd, vO1_b, e_vOr, vN1_b, e_vNot, ch1_b, e_chM, e_toB, e_mAnd, e_mOr, e_mNot, e_mIte, e_iteS, lp_nx, lp_ct, lp_bk, lp_rt, lp_ex, lp_ite, forL_nil, forL_nm, e_forS, okArgs, isOwn, outs, nam, frz, look, lookAll, ap1, ap2, apA, un1, bin2, opA, isiM, retS, drpS, setS, setN, putS, put, unpS, asg, mCons, mNil, e_mTup, mt1_ok, e_mLst, ml1_ok, callM, argsOf, argOf, ownIx, Sk.wb, List.getElem?_cons_zero, List.getElem?_cons_succ, List.getElem?_nil, List.set_cons_zero, List.set_cons_succ, List.replicate_succ, List.replicate_zero, List.cons_append, List.nil_append, List.foldl_cons, List.foldl_nil, List.getD_cons_zero, List.getD_cons_succ, List.all_cons, List.all_nil, isiD, tyN, dLt, dLe, dGt, dGe, dAdd_i, dEq_i, dNe_i, dSub, iOp, dLen_t, dLen_l, e_seqM, sq1_l, sq1_t, e_partM, pa1_i, sliM, isN_none, notN_none, isN_int, notN_int, isN_bool, notN_bool, isN_str, notN_str, isN_list, notN_list, isN_tup, notN_tup, isN_dict, notN_dict, raiseS, mDat, mNew, e_callAt, cal_some, wbl_ok, wbl_ex, wbl_ite, e_lcM, e_rng1, e_rng2, e_enuM, en1_l, en1_t, e_zipM, zi1_l, dMnN_i, dMx_l, dMx_t, asg_nm, asg_tp, put, e_appM, isOwnL_l, e_apd, apo_l, notN_OI, isN_OI, dNe_n0, dTup_l, dTup_t, dNeg_i, dCutT_t, dCutL_l, dNe_t0, dEq_t0, dEq_l0, hT x (mem x hx)])
    have sm := sum_ints (R.1.map τ)
    rw [ev] at sm
    have kc : k < cap := by unfold cap; omega
    refine ⟨[.dat (encI f), .dat (encI w), .dat TD, .dat (encL ps), .dat (encJ j), .own (.list (((List.range k).map (VW f w τ)).map .int ++ [.int (VW f w τ k)])), .dat M8, .dat (.int (k : Int)), .dat (.list (R.1.map .int)), x9, x10, x11, x12, x13, .un], ?_, .dat (.int (k : Int)), .dat (.list (R.1.map .int)), ?_⟩
    · simp [L1_calendar_by, -List.map_map, -List.map_drop, -List.map_take, -List.map_append, -List.map_dropLast, th_ok, th_ex, th_ite, e_bind, e_ret, e_opt, ts_ok, ts_ex, ts_ite, e_bindS, sq_nx, sq_rt, sq_ex, sq_bk, sq_ct, sq_ite, e_seqS, fin_nx, fin_rt, fin_ex, fin_ite, e_fnOf, wb_ok, wb_ex, wb_ite, vA1_b, e_vAnd, vO1_b, e_vOr, vN1_b, e_vNot, ch1_b, e_chM, e_toB, e_mAnd, e_mOr, e_mNot, e_mIte, e_iteS, lp_nx, lp_ct, lp_bk, lp_rt, lp_ex, lp_ite, forL_nil, forL_nm, e_forS, okArgs, isOwn, outs, nam, frz, look, lookAll, ap1, ap2, apA, un1, bin2, opA, isiM, retS, drpS, setS, setN, putS, put, unpS, asg, mCons, mNil, e_mTup, mt1_ok, e_mLst, ml1_ok, callM, argsOf, argOf, ownIx, Sk.wb, List.getElem?_cons_zero, List.getElem?_cons_succ, List.getElem?_nil, List.set_cons_zero, List.set_cons_succ, List.replicate_succ, List.replicate_zero, List.cons_append, List.nil_append, List.foldl_cons, List.foldl_nil, List.getD_cons_zero, List.getD_cons_succ, List.all_cons, List.all_nil, isiD, tyN, dLt, dLe, dGt, dGe, dAdd_i, dEq_i, dNe_i, dSub, iOp, dLen_t, dLen_l, e_seqM, sq1_l, sq1_t, e_partM, pa1_i, sliM, isN_none, notN_none, isN_int, notN_int, isN_bool, notN_bool, isN_str, notN_str, isN_list, notN_list, isN_tup, notN_tup, isN_dict, notN_dict, raiseS, mDat, mNew, e_callAt, cal_some, wbl_ok, wbl_ex, wbl_ite, e_lcM, e_rng1, e_rng2, e_enuM, en1_l, en1_t, e_zipM, zi1_l, dMnN_i, dMx_l, dMx_t, asg_nm, asg_tp, put, e_appM, isOwnL_l, e_apd, apo_l, notN_OI, isN_OI, dNe_n0, dTup_l, dTup_t, dNeg_i, dCutT_t, dCutL_l, dNe_t0, dEq_t0, dEq_l0, rg, ix, lc, sm, kc]
    · rw [List.range_succ, List.map_append, List.map_append]
      rfl) (st := [.dat (encI f), .dat (encI w), .dat TD, .dat (encL ps), .dat (encJ j), .own (.list (((List.range 0).map (VW f w τ)).map .int)), .dat M8, .un, .un, x9, x10, x11, x12, x13, .un]) ⟨_, _, rfl⟩
  exact ⟨x7, x8, e⟩
theorem cby2 (ps : List Int) (W : Way f w ps) (j : Nat) (s5 M8 x7 x8 x9 x10 : Sl) (hj : j ≤ lastI ps) : ∃ x12 x13 : Sl, forL (.tp [12, 13]) L2_calendar_by [] ((List.range' j (lastI ps - j)).map fun i => .tuple [.int (at' ps i), .int (at' ps (i + 1))]) [.dat (encI f), .dat (encI w), .dat TD, .dat (encL ps), .dat (.int (j : Int)), s5, M8, x7, x8, x9, x10, .dat (.int 0), .un, .un, .un] =
    .nx [.dat (encI f), .dat (encI w), .dat TD, .dat (encL ps), .dat (.int (j : Int)), s5, M8, x7, x8, x9, x10, .dat (.int ((segs ps j (lastI ps - j)).map τ).sum), x12, x13, .un] := by
  obtain ⟨st', e, k, x12, x13, hk, ek, rfl⟩ := for_all (t := .tp [12, 13]) (body := L2_calendar_by) (fun ds st => ∃ (k : Nat) (x12 x13 : Sl), j + k ≤ lastI ps ∧ ds = ((List.range' (j + k) (lastI ps - (j + k))).map fun i => .tuple [.int (at' ps i), .int (at' ps (i + 1))]) ∧ st = [.dat (encI f), .dat (encI w), .dat TD, .dat (encL ps), .dat (.int (j : Int)), s5, M8, x7, x8, x9, x10, .dat (.int ((segs ps j k).map τ).sum), x12, x13, .un]) (fun d ds st h => by
    obtain ⟨k, x12, x13, hk, e, rfl⟩ := h
    cases q : lastI ps - (j + k) with
    | zero => rw [q] at e; cases e
    | succ m =>
      rw [q, List.range'_succ, List.map_cons] at e
      cases e
      obtain ⟨l, e1, e2⟩ := W.st (j + k) (by unfold lastI at q; omega)
      have lw := (wide_in e1).1
      have tl := hT l lw
      have ed : at' ps (j + k + 1) - at' ps (j + k) = l := by omega
      have sg : segs ps j (k + 1) = segs ps j k ++ [l] := by
        unfold segs
        rw [List.range'_1_concat, List.map_append]
        congr 1
        simp only [List.map_cons, List.map_nil]
        rw [ed]
      refine ⟨_, [.dat (encI f), .dat (encI w), .dat TD, .dat (encL ps), .dat (.int (j : Int)), s5, M8, x7, x8, x9, x10, .dat (.int (((segs ps j k).map τ).sum + τ l)), .dat (.int (at' ps (j + k))), .dat (.int (at' ps (j + k + 1))), .un], rfl, ?_, k + 1, .dat (.int (at' ps (j + k))), .dat (.int (at' ps (j + k + 1))), by omega, by rw [show j + (k + 1) = j + k + 1 by omega, show lastI ps - (j + k + 1) = m by omega], ?_⟩
      · simp [L2_calendar_by, -List.map_map, -List.map_drop, -List.map_take, -List.map_append, -List.map_dropLast, th_ok, th_ex, th_ite, e_bind, e_ret, e_opt, ts_ok, ts_ex, ts_ite, e_bindS, sq_nx, sq_rt, sq_ex, sq_bk, sq_ct, sq_ite, e_seqS, fin_nx, fin_rt, fin_ex, fin_ite, e_fnOf, wb_ok, wb_ex, wb_ite, vA1_b, e_vAnd, vO1_b, e_vOr, vN1_b, e_vNot, ch1_b, e_chM, e_toB, e_mAnd, e_mOr, e_mNot, e_mIte, e_iteS, lp_nx, lp_ct, lp_bk, lp_rt, lp_ex, lp_ite, forL_nil, forL_nm, e_forS, okArgs, isOwn, outs, nam, frz, look, lookAll, ap1, ap2, apA, un1, bin2, opA, isiM, retS, drpS, setS, setN, putS, put, unpS, asg, mCons, mNil, e_mTup, mt1_ok, e_mLst, ml1_ok, callM, argsOf, argOf, ownIx, Sk.wb, List.getElem?_cons_zero, List.getElem?_cons_succ, List.getElem?_nil, List.set_cons_zero, List.set_cons_succ, List.replicate_succ, List.replicate_zero, List.cons_append, List.nil_append, List.foldl_cons, List.foldl_nil, List.getD_cons_zero, List.getD_cons_succ, List.all_cons, List.all_nil, isiD, tyN, dLt, dLe, dGt, dGe, dAdd_i, dEq_i, dNe_i, dSub, iOp, dLen_t, dLen_l, e_seqM, sq1_l, sq1_t, e_partM, pa1_i, sliM, isN_none, notN_none, isN_int, notN_int, isN_bool, notN_bool, isN_str, notN_str, isN_list, notN_list, isN_tup, notN_tup, isN_dict, notN_dict, raiseS, mDat, mNew, e_callAt, cal_some, wbl_ok, wbl_ex, wbl_ite, e_lcM, e_rng1, e_rng2, e_enuM, en1_l, en1_t, e_zipM, zi1_l, dMnN_i, dMx_l, dMx_t, asg_nm, asg_tp, put, e_appM, isOwnL_l, e_apd, apo_l, notN_OI, isN_OI, dNe_n0, dTup_l, dTup_t, dNeg_i, dCutT_t, dCutL_l, dNe_t0, dEq_t0, dEq_l0, ed, tl]
      · rw [sg, List.map_append, sum_append]
        simp) (ds := (List.range' j (lastI ps - j)).map fun i => .tuple [.int (at' ps i), .int (at' ps (i + 1))]) (st := [.dat (encI f), .dat (encI w), .dat TD, .dat (encL ps), .dat (.int (j : Int)), s5, M8, x7, x8, x9, x10, .dat (.int 0), .un, .un, .un]) ⟨0, .un, .un, hj, rfl, rfl⟩
  have : lastI ps - (j + k) = 0 := by
    cases q : lastI ps - (j + k) with
    | zero => rfl
    | succ m => rw [q, List.range'_succ] at ek; cases ek
  have : k = lastI ps - j := by omega
  subst this
  exact ⟨x12, x13, e⟩
theorem r_calendar_by : ∃ (ps : List Int) (j : Option Nat), Way f w ps ∧ WayEnd f w ps j ∧ ps.length ≤ 10 ∧ m_calendar_by [.dat (encI f), .dat (encI w), .dat TD] = .ok (encC (calW f w τ ps j).1 (calW f w τ ps j).2) [.dat (encI f), .dat (encI w), .dat TD] := by
  obtain ⟨ps, j, W, E, hl, rw_⟩ := r_wide_way hf hl8 hw
  refine ⟨ps, j, W, E, hl, ?_⟩
  have n0 := W.ne
  have up := W.up hw
  have ul := up (lastI ps) (by unfold lastI; omega)
  obtain ⟨m1, m2, m3⟩ := maxW_spec hw.ne
  have mb := hw.lo _ m1
  have ll : lastI ps ≤ 9 := by unfold lastI; omega
  have ne : ps ≠ [] := List.length_pos_iff.mp n0
  have il := dIx_lastL ps ne
  have el : ps.getLastD 0 = at' ps (lastI ps) := by
    unfold at' lastI
    rw [List.getLastD_eq_getLast?, List.getLast?_eq_getElem?, List.getD_eq_getElem?_getD]
  rw [el] at il
  have il : dIx (encL ps) (.int (-1)) = some (.int (at' ps (lastI ps))) := il
  have m3 : dMx max [encI w] = some (.int (maxW w)) := m3
  cases j with
  | none =>
    obtain ⟨x7, x8, e1⟩ := cby1 hf hl8 hw TD τ hT ps none (.int (at' ps (lastI ps) + maxW w)) (at' ps (lastI ps) + maxW w).toNat (by omega) .un .un .un .un .un
    have ej : encJ none = .none := rfl
    have sm : Sml 0 (at' ps (lastI ps) + maxW w) := sml (by omega)
    rw [ej] at e1 rw_
    simp [m_calendar_by, b_calendar_by, -List.map_map, -List.map_drop, -List.map_take, -List.map_append, -List.map_dropLast, th_ok, th_ex, th_ite, e_bind, e_ret, e_opt, ts_ok, ts_ex, ts_ite, e_bindS, sq_nx, sq_rt, sq_ex, sq_bk, sq_ct, sq_ite, e_seqS, fin_nx, fin_rt, fin_ex, fin_ite, e_fnOf, wb_ok, wb_ex, wb_ite, vA1_b, e_vAnd, vO1_b, e_vOr, vN1_b, e_vNot, ch1_b, e_chM, e_toB, e_mAnd, e_mOr, e_mNot, e_mIte, e_iteS, lp_nx, lp_ct, lp_bk, lp_rt, lp_ex, lp_ite, forL_nil, forL_nm, e_forS, okArgs, isOwn, outs, nam, frz, look, lookAll, ap1, ap2, apA, un1, bin2, opA, isiM, retS, drpS, setS, setN, putS, put, unpS, asg, mCons, mNil, e_mTup, mt1_ok, e_mLst, ml1_ok, callM, argsOf, argOf, ownIx, Sk.wb, List.getElem?_cons_zero, List.getElem?_cons_succ, List.getElem?_nil, List.set_cons_zero, List.set_cons_succ, List.replicate_succ, List.replicate_zero, List.cons_append, List.nil_append, List.foldl_cons, List.foldl_nil, List.getD_cons_zero, List.getD_cons_succ, List.all_cons, List.all_nil, isiD, tyN, dLt, dLe, dGt, dGe, dAdd_i, dEq_i, dNe_i, dSub, iOp, dLen_t, dLen_l, e_seqM, sq1_l, sq1_t, e_partM, pa1_i, sliM, isN_none, notN_none, isN_int, notN_int, isN_bool, notN_bool, isN_str, notN_str, isN_list, notN_list, isN_tup, notN_tup, isN_dict, notN_dict, raiseS, mDat, mNew, e_callAt, cal_some, wbl_ok, wbl_ex, wbl_ite, e_lcM, e_rng1, e_rng2, e_enuM, en1_l, en1_t, e_zipM, zi1_l, dMnN_i, dMx_l, dMx_t, asg_nm, asg_tp, put, e_appM, isOwnL_l, e_apd, apo_l, notN_OI, isN_OI, dNe_n0, dTup_l, dTup_t, dNeg_i, dCutT_t, dCutL_l, dNe_t0, dEq_t0, dEq_l0, rw_, il, m3, rn1_ok sm, e1, calW, encC]
  | some j =>
    obtain ⟨j1, jl, je⟩ := E
    have uj := up j (by unfold lastI at jl; omega)
    have ij : dIx (encL ps) (.int (j : Int)) = some (.int (at' ps j)) := by
      have := dIx_atL (xs := ps) (i := (j : Int)) (k := j) rfl (by unfold lastI at jl; omega)
      exact this
    have lt : at' ps j ≤ at' ps (lastI ps) := by
      have key : ∀ d i, i + d ≤ lastI ps → at' ps i ≤ at' ps (i + d) := by
        intro d
        induction d with
        | zero => intro i h; exact Int.le_refl _
        | succ d ih =>
          intro i h
          have := ih i (by omega)
          obtain ⟨l, e1, e2⟩ := W.st (i + d) (by unfold lastI at h; omega)
          have := (hw.lo l (wide_in e1).1).1
          rw [show i + (d + 1) = i + d + 1 by omega, e2]
          omega
      have := key (lastI ps - j) j (by omega)
      rw [show j + (lastI ps - j) = lastI ps by omega] at this
      exact this
    obtain ⟨x7, x8, e1⟩ := cby1 hf hl8 hw TD τ hT ps (some j) (.int (at' ps (lastI ps) + 6)) (at' ps (lastI ps) + 6).toNat (by omega) .un .un .un .un .un
    have ej : encJ (some j) = .int (j : Int) := rfl
    have sm : Sml 0 (at' ps (lastI ps) + 6) := sml (by omega)
    rw [ej] at e1 rw_
    generalize hsz : (at' ps (lastI ps) - at' ps j).toNat = size
    generalize hfi : (at' ps j + 6).toNat = first
    have emo : (at' ps (lastI ps) + 6).toNat = first + size := by omega
    rw [emo] at e1
    generalize hvs : (List.range (first + size)).map (VW f w τ) = vs at e1
    have lv : vs.length = first + size := by rw [← hvs]; simp
    obtain ⟨x12, x13, e2⟩ := cby2 hf hl8 hw TD τ hT ps W j (.own (.list (vs.map .int))) (.dat (.int (at' ps (lastI ps) + 6))) x7 x8 (.dat (.int (at' ps (lastI ps) - at' ps j))) (.dat (.int (at' ps j + 6))) (by omega)
    rw [← zip_next] at e2
    generalize hri : ((segs ps j (lastI ps - j)).map τ).sum = rise at e2
    have c1 : dCutL (encL ps) (some (j : Int)) none = some (.list ((ps.drop j).map .int)) := by
      show some (PyData.list (cutD (ps.map PyData.int) (some (j : Int)) none)) = _
      rw [cut_from rfl, List.map_drop]
    have c2 : dCutL (encL ps) (some ((j : Int) + 1)) none = some (.list ((ps.drop (j + 1)).map .int)) := by
      show some (PyData.list (cutD (ps.map PyData.int) (some ((j : Int) + 1)) none)) = _
      rw [cut_from (k := j + 1) (by omega), List.map_drop]
    have c3 : cutD (vs.map PyData.int) none (some (at' ps j + 6)) = (vs.take first).map .int := by rw [cut_to (k := first) (by omega), List.map_take]
    have c4 : cutD (vs.map PyData.int) (some (at' ps j + 6)) (some (at' ps j + 6 + (at' ps (lastI ps) - at' ps j))) = ((vs.drop first).take size).map .int := by
      rw [cut_mid (k := first) (m := first + size) (by omega) (by omega) (by omega) (by rw [List.length_map]; omega), show first + size - first = size by omega, List.map_take, List.map_drop]
    have lt2 : at' ps j < at' ps (lastI ps) := by
      obtain ⟨l, q1, q2⟩ := W.st (lastI ps - 1) (by unfold lastI at jl ⊢; omega)
      have := (hw.lo l (wide_in q1).1).1
      have key : ∀ d i, i + d ≤ lastI ps → at' ps i ≤ at' ps (i + d) := by
        intro d
        induction d with
        | zero => intro i h; exact Int.le_refl _
        | succ d ih =>
          intro i h
          have := ih i (by omega)
          obtain ⟨l, e1, e2⟩ := W.st (i + d) (by unfold lastI at h; omega)
          have := (hw.lo l (wide_in e1).1).1
          rw [show i + (d + 1) = i + d + 1 by omega, e2]
          omega
      have := key (lastI ps - 1 - j) j (by omega)
      rw [show j + (lastI ps - 1 - j) = lastI ps - 1 by omega] at this
      rw [show lastI ps - 1 + 1 = lastI ps by omega] at q2
      omega
    have rp := r_plain (vs.take first) ((vs.drop first).take size) rise (by simp [lv]; omega) (by simp [lv]; omega) (by simp [lv]; omega)
    have eq : calW f w τ ps (some j) = ((Cal.plain (vs.take first) ((vs.drop first).take size) rise).1, some ((Cal.plain (vs.take first) ((vs.drop first).take size) rise).2.1, (Cal.plain (vs.take first) ((vs.drop first).take size) rise).2.2)) := by
      unfold calW
      simp only [hsz, hfi, hri, hvs]
    rw [eq]
    generalize Cal.plain (vs.take first) ((vs.drop first).take size) rise = R at rp
    simp only
    generalize encC R.1 (some (R.2.1, R.2.2)) = RC at rp
    have rg : rngL 0 (at' ps (lastI ps) + 6).toNat = rngL 0 (first + size) := by rw [emo]
    simp [m_calendar_by, b_calendar_by, -List.map_map, -List.map_drop, -List.map_take, -List.map_append, -List.map_dropLast, th_ok, th_ex, th_ite, e_bind, e_ret, e_opt, ts_ok, ts_ex, ts_ite, e_bindS, sq_nx, sq_rt, sq_ex, sq_bk, sq_ct, sq_ite, e_seqS, fin_nx, fin_rt, fin_ex, fin_ite, e_fnOf, wb_ok, wb_ex, wb_ite, vA1_b, e_vAnd, vO1_b, e_vOr, vN1_b, e_vNot, ch1_b, e_chM, e_toB, e_mAnd, e_mOr, e_mNot, e_mIte, e_iteS, lp_nx, lp_ct, lp_bk, lp_rt, lp_ex, lp_ite, forL_nil, forL_nm, e_forS, okArgs, isOwn, outs, nam, frz, look, lookAll, ap1, ap2, apA, un1, bin2, opA, isiM, retS, drpS, setS, setN, putS, put, unpS, asg, mCons, mNil, e_mTup, mt1_ok, e_mLst, ml1_ok, callM, argsOf, argOf, ownIx, Sk.wb, List.getElem?_cons_zero, List.getElem?_cons_succ, List.getElem?_nil, List.set_cons_zero, List.set_cons_succ, List.replicate_succ, List.replicate_zero, List.cons_append, List.nil_append, List.foldl_cons, List.foldl_nil, List.getD_cons_zero, List.getD_cons_succ, List.all_cons, List.all_nil, isiD, tyN, dLt, dLe, dGt, dGe, dAdd_i, dEq_i, dNe_i, dSub, iOp, dLen_t, dLen_l, e_seqM, sq1_l, sq1_t, e_partM, pa1_i, sliM, isN_none, notN_none, isN_int, notN_int, isN_bool, notN_bool, isN_str, notN_str, isN_list, notN_list, isN_tup, notN_tup, isN_dict, notN_dict, raiseS, mDat, mNew, e_callAt, cal_some, wbl_ok, wbl_ex, wbl_ite, e_lcM, e_rng1, e_rng2, e_enuM, en1_l, en1_t, e_zipM, zi1_l, dMnN_i, dMx_l, dMx_t, asg_nm, asg_tp, put, e_appM, isOwnL_l, e_apd, apo_l, notN_OI, isN_OI, dNe_n0, dTup_l, dTup_t, dNeg_i, dCutT_t, dCutL_l, dNe_t0, dEq_t0, dEq_l0, rw_, il, m3, rn1_ok sm, rg, e1, ij, c1, c2, e2, c3, c4, rp]
end
end Zk07
set_option maxHeartbeats 1000000
namespace Zk07
open PySem PySem.Spec PyProof.Rows L2 Sk LamX
theorem look_W {v : D} {k : Int} : ∀ {w : List Int}, k ∈ w → lookD (kvW w v) (.inl k) = some v
  | p :: g, h => by
    show (if keyOf (.int p) = some (.inl k) then some v else lookD (kvW g v) (.inl k)) = _
    by_cases c : p = k
    · rw [if_pos (by rw [c]; rfl)]
    · rw [if_neg (fun z => c (by simpa [keyOf] using z))]
      exact look_W ((List.mem_cons.mp h).resolve_left (Ne.symm c))
def τ1 : Int → Int := fun _ => 1
theorem VW_one (f w : List Int) (n : Nat) : VW f w τ1 n = ((goW f w (n : Int) 0).1.length : Nat) := by
  unfold VW τ1
  induction (goW f w (n : Int) 0).1 with
  | nil => rfl
  | cons x xs ih => rw [List.map_cons, List.sum_cons, ih, List.length_cons]; omega
theorem encI_len (xs : List Int) : dLen [encI xs] = some (.int (xs.length : Nat)) := by
  unfold encI
  rw [dLen_t, List.length_map]
section
variable {f w : List Int} (hf : isFord (encI f) = true) (hw : GoodW w)
include hf hw
theorem fne : f ≠ [] := by
  intro z
  subst z
  simp [encI, isFord] at hf
theorem fl8 : f.length ≤ 8 := by
  have := hf
  simp [encI, isFord] at this
  omega
theorem ones_dict (i : Nat) (fe : M D) (st : List Sl) (hi : i < st.length) (h : ∀ x ∈ w, fe (st.set i (.dat (.int x))) = .ok (.tuple [.int x, .int 1]) (st.set i (.dat (.int x)))) :
    lcL (.nm i) (M.ret true) fe [i] [] (w.map .int) st = .ok (.list (w.map fun l => .tuple [.int l, .int 1])) st ∧ dDict [.list (w.map fun l => .tuple [.int l, .int 1])] = some (.dict (kvW w (.int 1))) := by
  refine ⟨lc_pairs hi (by have := hw.ln; unfold cap; omega) h, ?_⟩
  rw [dict_W (.int 1) w (by have := hw.ln; unfold cap; omega), addW_nodup w [] (by simpa using hw.nd)]
  rfl
theorem ones_get : ∀ l ∈ w, dkGet (.dict (kvW w (.int 1))) (.int l) = some (.int (τ1 l)) := fun l hl => look_W hl
theorem r_led (n : Nat) (hn : n ≤ 60) : m_led [.dat (encI f), .dat (encI w), .dat (.int (n : Int))] = .ok (.tuple [encI (goW f w n 0).1, .bool (goW f w n 0).2]) [.dat (encI f), .dat (encI w), .dat (.int (n : Int))] := by
  have wi := will_of hw
  have f0 : isFrom 0 60 (.int (n : Int)) = true := by simp [isFrom]; omega
  have rg := r_gone (fne hf hw) hw n (by omega)
  generalize goW f w (n : Int) 0 = R at rg ⊢
  have tp : dTup [encL R.1] = some (encI R.1) := rfl
  simp [m_led, b_led, -List.map_map, -List.map_drop, -List.map_take, -List.map_append, -List.map_dropLast, th_ok, th_ex, th_ite, e_bind, e_ret, e_opt, ts_ok, ts_ex, ts_ite, e_bindS, sq_nx, sq_rt, sq_ex, sq_bk, sq_ct, sq_ite, e_seqS, fin_nx, fin_rt, fin_ex, fin_ite, e_fnOf, wb_ok, wb_ex, wb_ite, vA1_b, e_vAnd, vO1_b, e_vOr, vN1_b, e_vNot, ch1_b, e_chM, e_toB, e_mAnd, e_mOr, e_mNot, e_mIte, e_iteS, lp_nx, lp_ct, lp_bk, lp_rt, lp_ex, lp_ite, forL_nil, forL_nm, e_forS, okArgs, isOwn, outs, nam, frz, look, lookAll, ap1, ap2, apA, un1, bin2, opA, isiM, retS, drpS, setS, setN, putS, put, unpS, asg, mCons, mNil, e_mTup, mt1_ok, e_mLst, ml1_ok, callM, argsOf, argOf, ownIx, Sk.wb, List.getElem?_cons_zero, List.getElem?_cons_succ, List.getElem?_nil, List.set_cons_zero, List.set_cons_succ, List.replicate_succ, List.replicate_zero, List.cons_append, List.nil_append, List.foldl_cons, List.foldl_nil, List.getD_cons_zero, List.getD_cons_succ, List.all_cons, List.all_nil, isiD, tyN, dLt, dLe, dGt, dGe, dAdd_i, dEq_i, dNe_i, dSub, iOp, dLen_t, dLen_l, e_seqM, sq1_l, sq1_t, e_partM, pa1_i, sliM, isN_none, notN_none, isN_int, notN_int, isN_bool, notN_bool, isN_str, notN_str, isN_list, notN_list, isN_tup, notN_tup, isN_dict, notN_dict, raiseS, mDat, mNew, e_callAt, cal_some, wbl_ok, wbl_ex, wbl_ite, e_lcM, e_rng1, e_rng2, e_enuM, en1_l, en1_t, e_zipM, zi1_l, dMnN_i, dMx_l, dMx_t, asg_nm, asg_tp, put, e_appM, isOwnL_l, e_apd, apo_l, notN_OI, isN_OI, dNe_n0, dTup_l, dTup_t, dNeg_i, dCutT_t, dCutL_l, dNe_t0, dEq_t0, dEq_l0, r_need_ford, hf, r_need_will, wi, r_need_width, f0, rg, tp]
theorem r_led_calendar : ∃ (ps : List Int) (j : Option Nat), Way f w ps ∧ WayEnd f w ps j ∧ ps.length ≤ 10 ∧ m_led_calendar [.dat (encI f), .dat (encI w)] = .ok (encC (calW f w τ1 ps j).1 (calW f w τ1 ps j).2) [.dat (encI f), .dat (encI w)] := by
  obtain ⟨ps, j, W, E, hl, e⟩ := r_calendar_by (fne hf hw) (fl8 hf hw) hw (.dict (kvW w (.int 1))) τ1 (ones_get hf hw)
  refine ⟨ps, j, W, E, hl, ?_⟩
  have wi := will_of hw
  have sw : sq1 (encI w) = M.ret (w.map .int) := rfl
  obtain ⟨l1, l2⟩ := ones_dict hf hw 2 C1_led_calendar [.dat (encI f), .dat (encI w), .un] (by simp) (fun x _ => by simp [C1_led_calendar, -List.map_map, -List.map_drop, -List.map_take, -List.map_append, -List.map_dropLast, th_ok, th_ex, th_ite, e_bind, e_ret, e_opt, ts_ok, ts_ex, ts_ite, e_bindS, sq_nx, sq_rt, sq_ex, sq_bk, sq_ct, sq_ite, e_seqS, fin_nx, fin_rt, fin_ex, fin_ite, e_fnOf, wb_ok, wb_ex, wb_ite, vA1_b, e_vAnd, vO1_b, e_vOr, vN1_b, e_vNot, ch1_b, e_chM, e_toB, e_mAnd, e_mOr, e_mNot, e_mIte, e_iteS, lp_nx, lp_ct, lp_bk, lp_rt, lp_ex, lp_ite, forL_nil, forL_nm, e_forS, okArgs, isOwn, outs, nam, frz, look, lookAll, ap1, ap2, apA, un1, bin2, opA, isiM, retS, drpS, setS, setN, putS, put, unpS, asg, mCons, mNil, e_mTup, mt1_ok, e_mLst, ml1_ok, callM, argsOf, argOf, ownIx, Sk.wb, List.getElem?_cons_zero, List.getElem?_cons_succ, List.getElem?_nil, List.set_cons_zero, List.set_cons_succ, List.replicate_succ, List.replicate_zero, List.cons_append, List.nil_append, List.foldl_cons, List.foldl_nil, List.getD_cons_zero, List.getD_cons_succ, List.all_cons, List.all_nil, isiD, tyN, dLt, dLe, dGt, dGe, dAdd_i, dEq_i, dNe_i, dSub, iOp, dLen_t, dLen_l, e_seqM, sq1_l, sq1_t, e_partM, pa1_i, sliM, isN_none, notN_none, isN_int, notN_int, isN_bool, notN_bool, isN_str, notN_str, isN_list, notN_list, isN_tup, notN_tup, isN_dict, notN_dict, raiseS, mDat, mNew, e_callAt, cal_some, wbl_ok, wbl_ex, wbl_ite, e_lcM, e_rng1, e_rng2, e_enuM, en1_l, en1_t, e_zipM, zi1_l, dMnN_i, dMx_l, dMx_t, asg_nm, asg_tp, put, e_appM, isOwnL_l, e_apd, apo_l, notN_OI, isN_OI, dNe_n0, dTup_l, dTup_t, dNeg_i, dCutT_t, dCutL_l, dNe_t0, dEq_t0, dEq_l0])
  generalize encC (calW f w τ1 ps j).1 (calW f w τ1 ps j).2 = C at e ⊢
  simp [m_led_calendar, b_led_calendar, -List.map_map, -List.map_drop, -List.map_take, -List.map_append, -List.map_dropLast, th_ok, th_ex, th_ite, e_bind, e_ret, e_opt, ts_ok, ts_ex, ts_ite, e_bindS, sq_nx, sq_rt, sq_ex, sq_bk, sq_ct, sq_ite, e_seqS, fin_nx, fin_rt, fin_ex, fin_ite, e_fnOf, wb_ok, wb_ex, wb_ite, vA1_b, e_vAnd, vO1_b, e_vOr, vN1_b, e_vNot, ch1_b, e_chM, e_toB, e_mAnd, e_mOr, e_mNot, e_mIte, e_iteS, lp_nx, lp_ct, lp_bk, lp_rt, lp_ex, lp_ite, forL_nil, forL_nm, e_forS, okArgs, isOwn, outs, nam, frz, look, lookAll, ap1, ap2, apA, un1, bin2, opA, isiM, retS, drpS, setS, setN, putS, put, unpS, asg, mCons, mNil, e_mTup, mt1_ok, e_mLst, ml1_ok, callM, argsOf, argOf, ownIx, Sk.wb, List.getElem?_cons_zero, List.getElem?_cons_succ, List.getElem?_nil, List.set_cons_zero, List.set_cons_succ, List.replicate_succ, List.replicate_zero, List.cons_append, List.nil_append, List.foldl_cons, List.foldl_nil, List.getD_cons_zero, List.getD_cons_succ, List.all_cons, List.all_nil, isiD, tyN, dLt, dLe, dGt, dGe, dAdd_i, dEq_i, dNe_i, dSub, iOp, dLen_t, dLen_l, e_seqM, sq1_l, sq1_t, e_partM, pa1_i, sliM, isN_none, notN_none, isN_int, notN_int, isN_bool, notN_bool, isN_str, notN_str, isN_list, notN_list, isN_tup, notN_tup, isN_dict, notN_dict, raiseS, mDat, mNew, e_callAt, cal_some, wbl_ok, wbl_ex, wbl_ite, e_lcM, e_rng1, e_rng2, e_enuM, en1_l, en1_t, e_zipM, zi1_l, dMnN_i, dMx_l, dMx_t, asg_nm, asg_tp, put, e_appM, isOwnL_l, e_apd, apo_l, notN_OI, isN_OI, dNe_n0, dTup_l, dTup_t, dNeg_i, dCutT_t, dCutL_l, dNe_t0, dEq_t0, dEq_l0, r_need_ford, hf, r_need_will, wi, sw, l1, l2, e]
theorem r_led_steps (n : Nat) (hn : (n : Int) ≤ 1000000000000000000000000000000) : m_led_steps [.dat (encI f), .dat (encI w), .dat (.int (n : Int))] = .ok (encOI (tellW f w τ1 n)) [.dat (encI f), .dat (encI w), .dat (.int (n : Int))] := by
  obtain ⟨ps, j, W, E, hl, e⟩ := r_calendar_by (fne hf hw) (fl8 hf hw) hw (.dict (kvW w (.int 1))) τ1 (ones_get hf hw)
  obtain ⟨ok, _, _, tl⟩ := calW_ok (fne hf hw) hw W hl E τ1 (fun _ _ => by unfold τ1; omega)
  have wi := will_of hw
  have sw : sq1 (encI w) = M.ret (w.map .int) := rfl
  have f0 : isFrom 0 1000000000000000000000000000000 (.int (n : Int)) = true := by simp [isFrom]; omega
  obtain ⟨l1, l2⟩ := ones_dict hf hw 3 C1_led_steps [.dat (encI f), .dat (encI w), .dat (.int (n : Int)), .un] (by simp) (fun x _ => by simp [C1_led_steps, -List.map_map, -List.map_drop, -List.map_take, -List.map_append, -List.map_dropLast, th_ok, th_ex, th_ite, e_bind, e_ret, e_opt, ts_ok, ts_ex, ts_ite, e_bindS, sq_nx, sq_rt, sq_ex, sq_bk, sq_ct, sq_ite, e_seqS, fin_nx, fin_rt, fin_ex, fin_ite, e_fnOf, wb_ok, wb_ex, wb_ite, vA1_b, e_vAnd, vO1_b, e_vOr, vN1_b, e_vNot, ch1_b, e_chM, e_toB, e_mAnd, e_mOr, e_mNot, e_mIte, e_iteS, lp_nx, lp_ct, lp_bk, lp_rt, lp_ex, lp_ite, forL_nil, forL_nm, e_forS, okArgs, isOwn, outs, nam, frz, look, lookAll, ap1, ap2, apA, un1, bin2, opA, isiM, retS, drpS, setS, setN, putS, put, unpS, asg, mCons, mNil, e_mTup, mt1_ok, e_mLst, ml1_ok, callM, argsOf, argOf, ownIx, Sk.wb, List.getElem?_cons_zero, List.getElem?_cons_succ, List.getElem?_nil, List.set_cons_zero, List.set_cons_succ, List.replicate_succ, List.replicate_zero, List.cons_append, List.nil_append, List.foldl_cons, List.foldl_nil, List.getD_cons_zero, List.getD_cons_succ, List.all_cons, List.all_nil, isiD, tyN, dLt, dLe, dGt, dGe, dAdd_i, dEq_i, dNe_i, dSub, iOp, dLen_t, dLen_l, e_seqM, sq1_l, sq1_t, e_partM, pa1_i, sliM, isN_none, notN_none, isN_int, notN_int, isN_bool, notN_bool, isN_str, notN_str, isN_list, notN_list, isN_tup, notN_tup, isN_dict, notN_dict, raiseS, mDat, mNew, e_callAt, cal_some, wbl_ok, wbl_ex, wbl_ite, e_lcM, e_rng1, e_rng2, e_enuM, en1_l, en1_t, e_zipM, zi1_l, dMnN_i, dMx_l, dMx_t, asg_nm, asg_tp, put, e_appM, isOwnL_l, e_apd, apo_l, notN_OI, isN_OI, dNe_n0, dTup_l, dTup_t, dNeg_i, dCutT_t, dCutL_l, dNe_t0, dEq_t0, dEq_l0])
  have ri := r_item_at (calW f w τ1 ps j).1 (calW f w τ1 ps j).2 n ok (by omega)
  rw [tl] at ri
  generalize encC (calW f w τ1 ps j).1 (calW f w τ1 ps j).2 = C at e ri
  simp [m_led_steps, b_led_steps, -List.map_map, -List.map_drop, -List.map_take, -List.map_append, -List.map_dropLast, th_ok, th_ex, th_ite, e_bind, e_ret, e_opt, ts_ok, ts_ex, ts_ite, e_bindS, sq_nx, sq_rt, sq_ex, sq_bk, sq_ct, sq_ite, e_seqS, fin_nx, fin_rt, fin_ex, fin_ite, e_fnOf, wb_ok, wb_ex, wb_ite, vA1_b, e_vAnd, vO1_b, e_vOr, vN1_b, e_vNot, ch1_b, e_chM, e_toB, e_mAnd, e_mOr, e_mNot, e_mIte, e_iteS, lp_nx, lp_ct, lp_bk, lp_rt, lp_ex, lp_ite, forL_nil, forL_nm, e_forS, okArgs, isOwn, outs, nam, frz, look, lookAll, ap1, ap2, apA, un1, bin2, opA, isiM, retS, drpS, setS, setN, putS, put, unpS, asg, mCons, mNil, e_mTup, mt1_ok, e_mLst, ml1_ok, callM, argsOf, argOf, ownIx, Sk.wb, List.getElem?_cons_zero, List.getElem?_cons_succ, List.getElem?_nil, List.set_cons_zero, List.set_cons_succ, List.replicate_succ, List.replicate_zero, List.cons_append, List.nil_append, List.foldl_cons, List.foldl_nil, List.getD_cons_zero, List.getD_cons_succ, List.all_cons, List.all_nil, isiD, tyN, dLt, dLe, dGt, dGe, dAdd_i, dEq_i, dNe_i, dSub, iOp, dLen_t, dLen_l, e_seqM, sq1_l, sq1_t, e_partM, pa1_i, sliM, isN_none, notN_none, isN_int, notN_int, isN_bool, notN_bool, isN_str, notN_str, isN_list, notN_list, isN_tup, notN_tup, isN_dict, notN_dict, raiseS, mDat, mNew, e_callAt, cal_some, wbl_ok, wbl_ex, wbl_ite, e_lcM, e_rng1, e_rng2, e_enuM, en1_l, en1_t, e_zipM, zi1_l, dMnN_i, dMx_l, dMx_t, asg_nm, asg_tp, put, e_appM, isOwnL_l, e_apd, apo_l, notN_OI, isN_OI, dNe_n0, dTup_l, dTup_t, dNeg_i, dCutT_t, dCutL_l, dNe_t0, dEq_t0, dEq_l0, r_need_ford, hf, r_need_will, wi, r_need_width, f0, sw, l1, l2, e, ri]
theorem r_stuck_at : ∃ (ps : List Int) (j : Option Nat), Way f w ps ∧ WayEnd f w ps j ∧ ps.length ≤ 10 ∧ m_stuck_at [.dat (encI f), .dat (encI w)] = .ok (match j with | none => .int (at' ps (lastI ps)) | some _ => .none) [.dat (encI f), .dat (encI w)] := by
  obtain ⟨ps, j, W, E, hl, e⟩ := r_wide_way (fne hf hw) (fl8 hf hw) hw
  refine ⟨ps, j, W, E, hl, ?_⟩
  have wi := will_of hw
  have ne : ps ≠ [] := List.length_pos_iff.mp W.ne
  have il := dIx_lastL ps ne
  have el : ps.getLastD 0 = at' ps (lastI ps) := by
    unfold at' lastI
    rw [List.getLastD_eq_getLast?, List.getLast?_eq_getElem?, List.getD_eq_getElem?_getD]
  rw [el] at il
  have il : dIx (encL ps) (.int (-1)) = some (.int (at' ps (lastI ps))) := il
  cases j with
  | none =>
    have e : m_wide_way [.dat (encI f), .dat (encI w)] = .ok (.tuple [encL ps, .none]) [.dat (encI f), .dat (encI w)] := e
    simp [m_stuck_at, b_stuck_at, -List.map_map, -List.map_drop, -List.map_take, -List.map_append, -List.map_dropLast, th_ok, th_ex, th_ite, e_bind, e_ret, e_opt, ts_ok, ts_ex, ts_ite, e_bindS, sq_nx, sq_rt, sq_ex, sq_bk, sq_ct, sq_ite, e_seqS, fin_nx, fin_rt, fin_ex, fin_ite, e_fnOf, wb_ok, wb_ex, wb_ite, vA1_b, e_vAnd, vO1_b, e_vOr, vN1_b, e_vNot, ch1_b, e_chM, e_toB, e_mAnd, e_mOr, e_mNot, e_mIte, e_iteS, lp_nx, lp_ct, lp_bk, lp_rt, lp_ex, lp_ite, forL_nil, forL_nm, e_forS, okArgs, isOwn, outs, nam, frz, look, lookAll, ap1, ap2, apA, un1, bin2, opA, isiM, retS, drpS, setS, setN, putS, put, unpS, asg, mCons, mNil, e_mTup, mt1_ok, e_mLst, ml1_ok, callM, argsOf, argOf, ownIx, Sk.wb, List.getElem?_cons_zero, List.getElem?_cons_succ, List.getElem?_nil, List.set_cons_zero, List.set_cons_succ, List.replicate_succ, List.replicate_zero, List.cons_append, List.nil_append, List.foldl_cons, List.foldl_nil, List.getD_cons_zero, List.getD_cons_succ, List.all_cons, List.all_nil, isiD, tyN, dLt, dLe, dGt, dGe, dAdd_i, dEq_i, dNe_i, dSub, iOp, dLen_t, dLen_l, e_seqM, sq1_l, sq1_t, e_partM, pa1_i, sliM, isN_none, notN_none, isN_int, notN_int, isN_bool, notN_bool, isN_str, notN_str, isN_list, notN_list, isN_tup, notN_tup, isN_dict, notN_dict, raiseS, mDat, mNew, e_callAt, cal_some, wbl_ok, wbl_ex, wbl_ite, e_lcM, e_rng1, e_rng2, e_enuM, en1_l, en1_t, e_zipM, zi1_l, dMnN_i, dMx_l, dMx_t, asg_nm, asg_tp, put, e_appM, isOwnL_l, e_apd, apo_l, notN_OI, isN_OI, dNe_n0, dTup_l, dTup_t, dNeg_i, dCutT_t, dCutL_l, dNe_t0, dEq_t0, dEq_l0, r_need_ford, hf, r_need_will, wi, e, il]
  | some j =>
    have e : m_wide_way [.dat (encI f), .dat (encI w)] = .ok (.tuple [encL ps, .int (j : Int)]) [.dat (encI f), .dat (encI w)] := e
    simp [m_stuck_at, b_stuck_at, -List.map_map, -List.map_drop, -List.map_take, -List.map_append, -List.map_dropLast, th_ok, th_ex, th_ite, e_bind, e_ret, e_opt, ts_ok, ts_ex, ts_ite, e_bindS, sq_nx, sq_rt, sq_ex, sq_bk, sq_ct, sq_ite, e_seqS, fin_nx, fin_rt, fin_ex, fin_ite, e_fnOf, wb_ok, wb_ex, wb_ite, vA1_b, e_vAnd, vO1_b, e_vOr, vN1_b, e_vNot, ch1_b, e_chM, e_toB, e_mAnd, e_mOr, e_mNot, e_mIte, e_iteS, lp_nx, lp_ct, lp_bk, lp_rt, lp_ex, lp_ite, forL_nil, forL_nm, e_forS, okArgs, isOwn, outs, nam, frz, look, lookAll, ap1, ap2, apA, un1, bin2, opA, isiM, retS, drpS, setS, setN, putS, put, unpS, asg, mCons, mNil, e_mTup, mt1_ok, e_mLst, ml1_ok, callM, argsOf, argOf, ownIx, Sk.wb, List.getElem?_cons_zero, List.getElem?_cons_succ, List.getElem?_nil, List.set_cons_zero, List.set_cons_succ, List.replicate_succ, List.replicate_zero, List.cons_append, List.nil_append, List.foldl_cons, List.foldl_nil, List.getD_cons_zero, List.getD_cons_succ, List.all_cons, List.all_nil, isiD, tyN, dLt, dLe, dGt, dGe, dAdd_i, dEq_i, dNe_i, dSub, iOp, dLen_t, dLen_l, e_seqM, sq1_l, sq1_t, e_partM, pa1_i, sliM, isN_none, notN_none, isN_int, notN_int, isN_bool, notN_bool, isN_str, notN_str, isN_list, notN_list, isN_tup, notN_tup, isN_dict, notN_dict, raiseS, mDat, mNew, e_callAt, cal_some, wbl_ok, wbl_ex, wbl_ite, e_lcM, e_rng1, e_rng2, e_enuM, en1_l, en1_t, e_zipM, zi1_l, dMnN_i, dMx_l, dMx_t, asg_nm, asg_tp, put, e_appM, isOwnL_l, e_apd, apo_l, notN_OI, isN_OI, dNe_n0, dTup_l, dTup_t, dNeg_i, dCutT_t, dCutL_l, dNe_t0, dEq_t0, dEq_l0, r_need_ford, hf, r_need_will, wi, e]
/-- steps told together -/
theorem segs_sum {ps : List Int} (k : Nat) : (segs ps 0 k).sum = at' ps k - at' ps 0 := by
  induction k with
  | zero => simp [segs]
  | succ k ih =>
    have sg : segs ps 0 (k + 1) = segs ps 0 k ++ [at' ps (k + 1) - at' ps k] := by
      unfold segs
      rw [List.range'_1_concat, List.map_append]
      simp
    rw [sg, sum_append, ih]
    simp
    omega
/-- where who is stuck stands, by the steps over a wide river -/
theorem stuck_sum {ps : List Int} {j : Option Nat} (W : Way f w ps) (E : WayEnd f w ps j) (hl : ps.length ≤ 10) : match j with
    | none => (goW f w 300 0).2 = false ∧ (goW f w 300 0).1.sum = at' ps (lastI ps)
    | some _ => (goW f w 300 0).2 = true := by
  cases j with
  | some j => exact round_comes (fne hf hw) hw W E 300
  | none =>
    have ul := W.up hw (lastI ps) (by have := W.ne; unfold lastI; omega)
    have ll : lastI ps ≤ 9 := by unfold lastI; omega
    obtain ⟨h1, h2⟩ := stuck_far (f := f) E (n := 300) (fun l hl => by have := hw.lo l hl; omega) hw W
    refine ⟨h1, ?_⟩
    rw [h2, segs_sum hf hw, W.z]
    omega
end
end Zk07
set_option maxHeartbeats 1000000
namespace Zk07
open PySem PySem.Spec PyProof.Rows L2 Sk LamX
/-! dicts by what is looked up -/
theorem swap_none {k : Key} {v : D} : ∀ {r : List (D × D)}, hasD r k = false → swapD r k v = r
  | [], _ => rfl
  | q :: r, hr => by
    unfold hasD at hr
    by_cases cq : keyOf q.1 = some k
    · rw [if_pos cq] at hr; cases hr
    · rw [if_neg cq] at hr
      unfold swapD
      rw [if_neg cq, swap_none hr]
theorem look_swap {k k2 : Key} {v : D} : ∀ {kvs : List (D × D)}, hasD kvs k = true → lookD (swapD kvs k v) k2 = if k2 = k then some v else lookD kvs k2
  | [], h => by simp [hasD] at h
  | p :: r, h => by
    unfold swapD
    by_cases c : keyOf p.1 = some k
    · rw [if_pos c]
      by_cases c2 : k2 = k
      · subst c2
        rw [if_pos rfl]
        unfold lookD
        rw [if_pos c]
      · rw [if_neg c2]
        have e : keyOf p.1 ≠ some k2 := fun z => c2 (Option.some.inj (z.symm.trans c))
        have u : ∀ v, lookD ((p.1, v) :: swapD r k v) k2 = lookD (swapD r k v) k2 := fun v => by
          show (if keyOf p.1 = some k2 then some v else lookD (swapD r k v) k2) = _
          rw [if_neg e]
        rw [u]
        have u2 : lookD (p :: r) k2 = lookD r k2 := by
          show (if keyOf p.1 = some k2 then some p.2 else lookD r k2) = _
          rw [if_neg e]
        rw [u2]
        cases hr : hasD r k with
        | true =>
          have := look_swap (k2 := k2) (v := v) hr
          rw [if_neg c2] at this
          exact this
        | false =>
          have : swapD r k v = r := swap_none hr
          rw [this]
    · rw [if_neg c]
      have hr : hasD r k = true := by
        unfold hasD at h
        rw [if_neg c] at h
        exact h
      have := look_swap (k2 := k2) (v := v) hr
      show (if keyOf p.1 = some k2 then some p.2 else lookD (swapD r k v) k2) = _
      by_cases c3 : keyOf p.1 = some k2
      · have n : k2 ≠ k := fun z => c (by rw [← z]; exact c3)
        rw [if_pos c3, if_neg n]
        show _ = (if keyOf p.1 = some k2 then some p.2 else lookD r k2)
        rw [if_pos c3]
      · rw [if_neg c3, this]
        by_cases n : k2 = k
        · rw [if_pos n, if_pos n]
        · rw [if_neg n, if_neg n]
          show _ = (if keyOf p.1 = some k2 then some p.2 else lookD r k2)
          rw [if_neg c3]
theorem look_snoc {k k2 : Key} {v : D} : ∀ {kvs : List (D × D)}, hasD kvs k = false → lookD (kvs ++ [(keyD k, v)]) k2 = if k2 = k then some v else lookD kvs k2
  | [], h => by
    show (if keyOf (keyD k) = some k2 then some v else lookD [] k2) = _
    rw [keyOf_keyD]
    by_cases n : k2 = k
    · rw [if_pos (by rw [n]), if_pos n]
    · rw [if_neg (fun z => n (Option.some.inj z).symm), if_neg n]
  | p :: r, h => by
    unfold hasD at h
    by_cases c : keyOf p.1 = some k
    · rw [if_pos c] at h; cases h
    · rw [if_neg c] at h
      have := look_snoc (k2 := k2) (v := v) h
      show (if keyOf p.1 = some k2 then some p.2 else lookD (r ++ [(keyD k, v)]) k2) = (if k2 = k then some v else (if keyOf p.1 = some k2 then some p.2 else lookD r k2))
      rw [this]
      by_cases c3 : keyOf p.1 = some k2
      · have n : k2 ≠ k := fun z => c (by rw [← z]; exact c3)
        rw [if_pos c3, if_neg n, if_pos c3]
      · rw [if_neg c3, if_neg c3]
theorem look_put {k k2 : Key} {v : D} {kvs : List (D × D)} : lookD (putD kvs k v) k2 = if k2 = k then some v else lookD kvs k2 := by
  unfold putD
  cases h : hasD kvs k with
  | true => rw [if_pos rfl]; exact look_swap h
  | false => rw [if_neg Bool.false_ne_true]; exact look_snoc h
theorem keys_swap {k : Key} {v : D} : ∀ {kvs : List (D × D)}, (swapD kvs k v).map (·.1) = kvs.map (·.1)
  | [] => rfl
  | p :: r => by
    unfold swapD
    by_cases c : keyOf p.1 = some k
    · rw [if_pos c, List.map_cons, List.map_cons, keys_swap]
    · rw [if_neg c, List.map_cons, List.map_cons, keys_swap]
theorem has_key {k : Int} {S : List Int} : ∀ {kvs : List (D × D)}, kvs.map (·.1) = S.map .int → (hasD kvs (.inl k) = decide (k ∈ S)) := by
  induction S with
  | nil =>
    intro kvs h
    have : kvs = [] := by simpa using h
    subst this
    simp [hasD]
  | cons x S ih =>
    intro kvs h
    cases kvs with
    | nil => cases h
    | cons p r =>
      rw [List.map_cons, List.map_cons] at h
      injection h with h1 h2
      unfold hasD
      rw [h1, ih h2]
      by_cases c : x = k
      · subst c; simp [keyOf]
      · rw [if_neg (fun z => c (by simpa [keyOf] using z))]
        simp [Ne.symm c]
theorem keys_put {k : Int} {S : List Int} {v : D} {kvs : List (D × D)} (h : kvs.map (·.1) = S.map .int) : (putD kvs (.inl k) v).map (·.1) = (addW S k).map .int := by
  unfold putD addW
  rw [has_key h]
  by_cases c : k ∈ S
  · simp only [c, decide_true, if_true]
    rw [keys_swap, h]
  · simp only [c, decide_false, Bool.false_eq_true, if_false]
    rw [List.map_append, h, List.map_append]
    rfl
theorem addW_nd {S : List Int} {k : Int} (h : S.Nodup) : (addW S k).Nodup := by
  unfold addW
  by_cases c : k ∈ S
  · rw [if_pos c]; exact h
  · rw [if_neg c, List.nodup_append]
    refine ⟨h, by simp, fun x hx y hy => ?_⟩
    have : y = k := by simpa using hy
    rintro rfl
    exact c (this ▸ hx)
theorem addW_mem {S : List Int} {k x : Int} (h : x ∈ addW S k) : x ∈ S ∨ x = k := by
  unfold addW at h
  split at h
  · exact .inl h
  · rcases List.mem_append.mp h with h | h
    · exact .inl h
    · exact .inr (by simpa using h)
/-! steps one after another -/
section
variable {f w : List Int}
def sN (f w : List Int) (n : Int) : Nat → Int → Option Int
  | 0, p => some p
  | k + 1, p => match firstL f w n p with
    | none => none
    | some l => sN f w n k (p + l)
def wN (f w : List Int) : Nat → Int → Option Int
  | 0, p => some p
  | k + 1, p => match wideL f w p with
    | none => none
    | some l => wN f w k (p + l)
theorem sN_snoc {n : Int} : ∀ {k : Nat} {q p l : Int}, sN f w n k q = some p → firstL f w n p = some l → sN f w n (k + 1) q = some (p + l)
  | 0, q, p, l, h, e => by
    cases h
    unfold sN
    rw [e]
    rfl
  | k + 1, q, p, l, h, e => by
    unfold sN at h ⊢
    cases c : firstL f w n q with
    | none => rw [c] at h; cases h
    | some l' =>
      rw [c] at h
      exact sN_snoc h e
theorem wN_add : ∀ {k m : Nat} {q p r : Int}, wN f w k q = some p → wN f w m p = some r → wN f w (k + m) q = some r
  | 0, m, q, p, r, h, e => by
    cases h
    rw [Nat.zero_add]
    exact e
  | k + 1, m, q, p, r, h, e => by
    rw [show k + 1 + m = (k + m) + 1 by omega]
    unfold wN at h ⊢
    cases c : wideL f w q with
    | none => rw [c] at h; cases h
    | some l' =>
      rw [c] at h
      exact wN_add h e
theorem wN_shift {t : Int} (h : (f.length : Int) ∣ t) : ∀ {k : Nat} {q p : Int}, wN f w k q = some p → wN f w k (q + t) = some (p + t)
  | 0, q, p, e => by cases e; rfl
  | k + 1, q, p, e => by
    unfold wN at e ⊢
    rw [wide_shift h]
    cases c : wideL f w q with
    | none => rw [c] at e; cases e
    | some l' =>
      rw [c] at e
      simp only
      rw [show q + t + l' = q + l' + t by omega]
      exact wN_shift h e
variable (hw : GoodW w)
include hw
theorem sN_up {n : Int} : ∀ {k : Nat} {q p : Int}, sN f w n k q = some p → q + k ≤ p
  | 0, q, p, h => by cases h; omega
  | k + 1, q, p, h => by
    unfold sN at h
    cases c : firstL f w n q with
    | none => rw [c] at h; cases h
    | some l' =>
      rw [c] at h
      have := sN_up h
      have := (hw.lo l' (first_in (fun l h => (hw.lo l h).1) c).1).1
      omega
theorem wN_up : ∀ {k : Nat} {q p : Int}, wN f w k q = some p → q + k ≤ p
  | 0, q, p, h => by cases h; omega
  | k + 1, q, p, h => by
    unfold wN at h
    cases c : wideL f w q with
    | none => rw [c] at h; cases h
    | some l' =>
      rw [c] at h
      have := wN_up h
      have := (hw.lo l' (wide_in c).1).1
      omega
theorem sN_wide {n : Int} : ∀ {k : Nat} {q p : Int}, sN f w n k q = some p → p + 6 ≤ n → wN f w k q = some p
  | 0, q, p, h, _ => h
  | k + 1, q, p, h, hn => by
    have u := sN_up hw h
    unfold sN at h
    unfold wN
    rw [first_wide (fun l hl => by have := (hw.lo l hl).2; omega)] at h
    cases c : wideL f w q with
    | none => rw [c] at h; cases h
    | some l' =>
      rw [c] at h
      exact sN_wide h hn
theorem go_wN {n : Int} : ∀ {k : Nat} {q p : Int}, wN f w k q = some p → p + 6 ≤ n → (goW f w n q).2 = (goW f w n p).2 ∧ (goW f w n q).1.length = k + (goW f w n p).1.length
  | 0, q, p, h, _ => by cases h; simp
  | k + 1, q, p, h, hn => by
    have u := wN_up hw h
    unfold wN at h
    cases c : wideL f w q with
    | none => rw [c] at h; cases h
    | some l' =>
      rw [c] at h
      simp only at h
      have u2 := wN_up hw h
      have one : ∀ l ∈ w, 1 ≤ l := fun l h => (hw.lo l h).1
      have := one l' (wide_in c).1
      obtain ⟨h1, h2⟩ := go_wN h hn
      rw [go_step one (by omega), first_wide (fun l hl => by have := (hw.lo l hl).2; omega), c]
      simp only [List.length_cons]
      exact ⟨h1, by omega⟩
theorem wN_times {k : Nat} {q size : Int} (hd : (f.length : Int) ∣ size) (h : wN f w k q = some (q + size)) : ∀ t : Nat, wN f w (t * k) q = some (q + t * size)
  | 0 => by
    rw [Nat.zero_mul]
    show some q = _
    simp
  | t + 1 => by
    have ih := wN_times hd h t
    have sh := wN_shift (t := (t : Int) * size) (Int.dvd_trans hd (Int.dvd_mul_left ..)) h
    have := wN_add ih sh
    rw [show (t + 1) * k = t * k + k by rw [Nat.add_mul]; omega, this]
    congr 1
    have : ((t + 1 : Nat) : Int) * size = (t : Int) * size + size := by
      rw [Int.natCast_add, Int.add_mul]
      simp
    omega
end
end Zk07
set_option maxHeartbeats 1000000
namespace Zk07
open PySem PySem.Spec PyProof.Rows L2 Sk LamX
/-! far steps, round by round -/
noncomputable def tailF : MS :=
  (seqS (setN 10 (lcM (.nm 11) (seqM ((nam 1).bind frz)) (F1__law_far_steps) (C1__law_far_steps) [11]))
  (seqS (iteS ((bin2 dEq (nam 10) ((mLst (mNil)).bind fun d => M.ret (.dat d))).bind toB) (retS (M.ret .none)) (fun st => .nx st))
  (putS [3, 4] (mDat (bin2 dAdd (nam 3) ((bin2 dIx (nam 10) ((M.ret (.int 0)).bind fun d => M.ret (.dat d))).bind fun d => M.ret (.dat d))) (mDat (bin2 dAdd (nam 4) ((M.ret (.int 1)).bind fun d => M.ret (.dat d))) (mNil))))))
noncomputable def midF : MS :=
  (iteS (mAnd ((bin2 dGt (nam 3) ((M.ret (.int 0)).bind fun d => M.ret (.dat d))).bind toB) (mAnd ((bin2 dkIn (nam 6) (nam 5)).bind toB) ((bin2 dGt ((bin2 dSub (nam 2) (nam 3)).bind fun d => M.ret (.dat d)) ((M.ret (.int 100)).bind fun d => M.ret (.dat d))).bind toB))) (seqS (putS [7, 8] (mDat (bin2 dSub (nam 3) ((bin2 dIx ((bin2 dkGet (nam 5) (nam 6)).bind fun d => M.ret (.dat d)) ((M.ret (.int 0)).bind fun d => M.ret (.dat d))).bind fun d => M.ret (.dat d))) (mDat (bin2 dSub (nam 4) ((bin2 dIx ((bin2 dkGet (nam 5) (nam 6)).bind fun d => M.ret (.dat d)) ((M.ret (.int 1)).bind fun d => M.ret (.dat d))).bind fun d => M.ret (.dat d))) (mNil))))
  (seqS (setS 9 (bin2 dDiv ((bin2 dSub ((bin2 dSub (nam 2) (nam 3)).bind fun d => M.ret (.dat d)) ((M.ret (.int 50)).bind fun d => M.ret (.dat d))).bind fun d => M.ret (.dat d)) (nam 7)))
  (putS [3, 4, 5] (mDat (bin2 dAdd (nam 3) ((bin2 dMul (nam 9) (nam 7)).bind fun d => M.ret (.dat d))) (mDat (bin2 dAdd (nam 4) ((bin2 dMul (nam 9) (nam 8)).bind fun d => M.ret (.dat d))) (mNew (M.ret (.dict [])) (mNil))))))) (iteS ((bin2 dGt (nam 3) ((M.ret (.int 0)).bind fun d => M.ret (.dat d))).bind toB) (dputS 5 (mTup (mCons ((nam 3).bind frz) (mCons ((nam 4).bind frz) (mNil)))) ((nam 6).bind frz)) (fun st => .nx st)))
theorem split_F : L1__law_far_steps = seqS (setS 6 (bin2 dMod (nam 3) ((opA dLen (mCons (nam 0) (mNil))).bind fun d => M.ret (.dat d)))) (seqS midF tailF) := rfl
def SeenF (f w : List Int) (n p many : Int) (S : List Int) (kvs : List (D × D)) (lo : Nat) : Prop :=
  kvs.map (·.1) = S.map .int ∧ S.Nodup ∧ (∀ x ∈ S, 0 ≤ x ∧ x < (f.length : Int)) ∧
  ∀ r d, lookD kvs (.inl r) = some d → ∃ (q : Int) (k : Nat), d = .tuple [.int q, .int (many - k)] ∧ resid f q = r ∧ lo ≤ k ∧ sN f w n k q = some p ∧ (k + 1 ≤ S.length + lo ∨ n - p ≤ 100)
theorem seen_nil {f w : List Int} {n p many : Int} {lo : Nat} : SeenF f w n p many [] [] lo := ⟨rfl, List.nodup_nil, fun x h => by simp at h, fun r d h => by simp [lookD] at h⟩
theorem in_look {kvs : List (D × D)} {k : Key} : (lookD kvs k).isSome = hasD kvs k := by
  induction kvs with
  | nil => rfl
  | cons p r ih =>
    show (if keyOf p.1 = some k then some p.2 else lookD r k).isSome = (if keyOf p.1 = some k then true else hasD r k)
    by_cases c : keyOf p.1 = some k
    · rw [if_pos c, if_pos c]; rfl
    · rw [if_neg c, if_neg c]; exact ih
theorem addW_ne {S : List Int} {k : Int} : 1 ≤ (addW S k).length := by
  unfold addW
  split
  · rename_i h
    exact List.length_pos_of_mem h
  · simp
theorem few_in {S : List Int} {m : Nat} (h : S.Nodup) (hb : ∀ x ∈ S, 0 ≤ x ∧ x < (m : Int)) : S.length ≤ m := by
  have := List.Nodup.length_le_of_subset h (l₂ := (List.range m).map fun i : Nat => (i : Int)) (fun x hx => by
    have := hb x hx
    exact List.mem_map.mpr ⟨x.toNat, List.mem_range.mpr (by omega), by omega⟩)
  simpa using this
section
variable {f w : List Int} (hf : f ≠ []) (hl8 : f.length ≤ 8) (hw : GoodW w)
include hf hl8 hw
theorem tailF_ok (n : Int) (p many : Int) (S5 : List (D × D)) (x6 x7 x8 x9 x10 : Sl) :
    (firstL f w n p = none → ∃ st', tailF [.dat (encI f), .dat (encI w), .dat (.int n), .dat (.int p), .dat (.int many), .own (.dict S5), x6, x7, x8, x9, x10, .un] = .rt .none st') ∧
    ∀ l, firstL f w n p = some l → ∃ y10, tailF [.dat (encI f), .dat (encI w), .dat (.int n), .dat (.int p), .dat (.int many), .own (.dict S5), x6, x7, x8, x9, x10, .un] = .nx [.dat (encI f), .dat (encI w), .dat (.int n), .dat (.int (p + l)), .dat (.int (many + 1)), .own (.dict S5), x6, x7, x8, x9, y10, .un] := by
  have sw : sq1 (encI w) = M.ret (w.map .int) := rfl
  have lc := lc_intsF (i := 11) (p := F1__law_far_steps) (fe := C1__law_far_steps) (q := canL f n p) (g := fun x => x) (xs := w) (st := [.dat (encI f), .dat (encI w), .dat (.int n), .dat (.int p), .dat (.int many), .own (.dict S5), x6, x7, x8, x9, x10, .un]) (by simp) (by have := hw.ln; unfold cap; omega) (fun l _ => by
    have rs := r_lstone f (p + l) hf
    by_cases c1 : n < p + l
    · simp [F1__law_far_steps, -List.map_map, -List.map_drop, -List.map_take, -List.map_append, -List.map_dropLast, th_ok, th_ex, th_ite, e_bind, e_ret, e_opt, ts_ok, ts_ex, ts_ite, e_bindS, sq_nx, sq_rt, sq_ex, sq_bk, sq_ct, sq_ite, e_seqS, fin_nx, fin_rt, fin_ex, fin_ite, e_fnOf, wb_ok, wb_ex, wb_ite, vA1_b, e_vAnd, vO1_b, e_vOr, vN1_b, e_vNot, ch1_b, e_chM, e_toB, e_mAnd, e_mOr, e_mNot, e_mIte, e_iteS, lp_nx, lp_ct, lp_bk, lp_rt, lp_ex, lp_ite, forL_nil, forL_nm, e_forS, okArgs, isOwn, outs, nam, frz, look, lookAll, ap1, ap2, apA, un1, bin2, opA, isiM, retS, drpS, setS, setN, putS, put, unpS, asg, mCons, mNil, e_mTup, mt1_ok, e_mLst, ml1_ok, callM, argsOf, argOf, ownIx, Sk.wb, List.getElem?_cons_zero, List.getElem?_cons_succ, List.getElem?_nil, List.set_cons_zero, List.set_cons_succ, List.replicate_succ, List.replicate_zero, List.cons_append, List.nil_append, List.foldl_cons, List.foldl_nil, List.getD_cons_zero, List.getD_cons_succ, List.all_cons, List.all_nil, isiD, tyN, dLt, dLe, dGt, dGe, dAdd_i, dEq_i, dNe_i, dSub, iOp, dLen_t, dLen_l, e_seqM, sq1_l, sq1_t, e_partM, pa1_i, sliM, isN_none, notN_none, isN_int, notN_int, isN_bool, notN_bool, isN_str, notN_str, isN_list, notN_list, isN_tup, notN_tup, isN_dict, notN_dict, raiseS, mDat, mNew, e_callAt, cal_some, wbl_ok, wbl_ex, wbl_ite, e_lcM, e_rng1, e_rng2, e_enuM, en1_l, en1_t, e_zipM, zi1_l, dMnN_i, dMx_l, dMx_t, asg_nm, asg_tp, put, e_appM, isOwnL_l, e_apd, apo_l, notN_OI, isN_OI, dNe_n0, dTup_l, dTup_t, dNeg_i, dCutT_t, dCutL_l, dNe_t0, dEq_t0, dEq_l0, c1, canL]
    · simp [F1__law_far_steps, -List.map_map, -List.map_drop, -List.map_take, -List.map_append, -List.map_dropLast, th_ok, th_ex, th_ite, e_bind, e_ret, e_opt, ts_ok, ts_ex, ts_ite, e_bindS, sq_nx, sq_rt, sq_ex, sq_bk, sq_ct, sq_ite, e_seqS, fin_nx, fin_rt, fin_ex, fin_ite, e_fnOf, wb_ok, wb_ex, wb_ite, vA1_b, e_vAnd, vO1_b, e_vOr, vN1_b, e_vNot, ch1_b, e_chM, e_toB, e_mAnd, e_mOr, e_mNot, e_mIte, e_iteS, lp_nx, lp_ct, lp_bk, lp_rt, lp_ex, lp_ite, forL_nil, forL_nm, e_forS, okArgs, isOwn, outs, nam, frz, look, lookAll, ap1, ap2, apA, un1, bin2, opA, isiM, retS, drpS, setS, setN, putS, put, unpS, asg, mCons, mNil, e_mTup, mt1_ok, e_mLst, ml1_ok, callM, argsOf, argOf, ownIx, Sk.wb, List.getElem?_cons_zero, List.getElem?_cons_succ, List.getElem?_nil, List.set_cons_zero, List.set_cons_succ, List.replicate_succ, List.replicate_zero, List.cons_append, List.nil_append, List.foldl_cons, List.foldl_nil, List.getD_cons_zero, List.getD_cons_succ, List.all_cons, List.all_nil, isiD, tyN, dLt, dLe, dGt, dGe, dAdd_i, dEq_i, dNe_i, dSub, iOp, dLen_t, dLen_l, e_seqM, sq1_l, sq1_t, e_partM, pa1_i, sliM, isN_none, notN_none, isN_int, notN_int, isN_bool, notN_bool, isN_str, notN_str, isN_list, notN_list, isN_tup, notN_tup, isN_dict, notN_dict, raiseS, mDat, mNew, e_callAt, cal_some, wbl_ok, wbl_ex, wbl_ite, e_lcM, e_rng1, e_rng2, e_enuM, en1_l, en1_t, e_zipM, zi1_l, dMnN_i, dMx_l, dMx_t, asg_nm, asg_tp, put, e_appM, isOwnL_l, e_apd, apo_l, notN_OI, isN_OI, dNe_n0, dTup_l, dTup_t, dNeg_i, dCutT_t, dCutL_l, dNe_t0, dEq_t0, dEq_l0, c1, canL, rs]) (fun l _ _ => by simp [C1__law_far_steps, -List.map_map, -List.map_drop, -List.map_take, -List.map_append, -List.map_dropLast, th_ok, th_ex, th_ite, e_bind, e_ret, e_opt, ts_ok, ts_ex, ts_ite, e_bindS, sq_nx, sq_rt, sq_ex, sq_bk, sq_ct, sq_ite, e_seqS, fin_nx, fin_rt, fin_ex, fin_ite, e_fnOf, wb_ok, wb_ex, wb_ite, vA1_b, e_vAnd, vO1_b, e_vOr, vN1_b, e_vNot, ch1_b, e_chM, e_toB, e_mAnd, e_mOr, e_mNot, e_mIte, e_iteS, lp_nx, lp_ct, lp_bk, lp_rt, lp_ex, lp_ite, forL_nil, forL_nm, e_forS, okArgs, isOwn, outs, nam, frz, look, lookAll, ap1, ap2, apA, un1, bin2, opA, isiM, retS, drpS, setS, setN, putS, put, unpS, asg, mCons, mNil, e_mTup, mt1_ok, e_mLst, ml1_ok, callM, argsOf, argOf, ownIx, Sk.wb, List.getElem?_cons_zero, List.getElem?_cons_succ, List.getElem?_nil, List.set_cons_zero, List.set_cons_succ, List.replicate_succ, List.replicate_zero, List.cons_append, List.nil_append, List.foldl_cons, List.foldl_nil, List.getD_cons_zero, List.getD_cons_succ, List.all_cons, List.all_nil, isiD, tyN, dLt, dLe, dGt, dGe, dAdd_i, dEq_i, dNe_i, dSub, iOp, dLen_t, dLen_l, e_seqM, sq1_l, sq1_t, e_partM, pa1_i, sliM, isN_none, notN_none, isN_int, notN_int, isN_bool, notN_bool, isN_str, notN_str, isN_list, notN_list, isN_tup, notN_tup, isN_dict, notN_dict, raiseS, mDat, mNew, e_callAt, cal_some, wbl_ok, wbl_ex, wbl_ite, e_lcM, e_rng1, e_rng2, e_enuM, en1_l, en1_t, e_zipM, zi1_l, dMnN_i, dMx_l, dMx_t, asg_nm, asg_tp, put, e_appM, isOwnL_l, e_apd, apo_l, notN_OI, isN_OI, dNe_n0, dTup_l, dTup_t, dNeg_i, dCutT_t, dCutL_l, dNe_t0, dEq_t0, dEq_l0])
  rw [filter_map_id] at lc
  refine ⟨fun e => ?_, fun l e => ?_⟩
  · have en := head_none hf hw e
    rw [en] at lc
    simp only [List.map_nil] at lc
    exact ⟨[.dat (encI f), .dat (encI w), .dat (.int n), .dat (.int p), .dat (.int many), .own (.dict S5), x6, x7, x8, x9, .own (.list []), .un], by simp [tailF, -List.map_map, -List.map_drop, -List.map_take, -List.map_append, -List.map_dropLast, th_ok, th_ex, th_ite, e_bind, e_ret, e_opt, ts_ok, ts_ex, ts_ite, e_bindS, sq_nx, sq_rt, sq_ex, sq_bk, sq_ct, sq_ite, e_seqS, fin_nx, fin_rt, fin_ex, fin_ite, e_fnOf, wb_ok, wb_ex, wb_ite, vA1_b, e_vAnd, vO1_b, e_vOr, vN1_b, e_vNot, ch1_b, e_chM, e_toB, e_mAnd, e_mOr, e_mNot, e_mIte, e_iteS, lp_nx, lp_ct, lp_bk, lp_rt, lp_ex, lp_ite, forL_nil, forL_nm, e_forS, okArgs, isOwn, outs, nam, frz, look, lookAll, ap1, ap2, apA, un1, bin2, opA, isiM, retS, drpS, setS, setN, putS, put, unpS, asg, mCons, mNil, e_mTup, mt1_ok, e_mLst, ml1_ok, callM, argsOf, argOf, ownIx, Sk.wb, List.getElem?_cons_zero, List.getElem?_cons_succ, List.getElem?_nil, List.set_cons_zero, List.set_cons_succ, List.replicate_succ, List.replicate_zero, List.cons_append, List.nil_append, List.foldl_cons, List.foldl_nil, List.getD_cons_zero, List.getD_cons_succ, List.all_cons, List.all_nil, isiD, tyN, dLt, dLe, dGt, dGe, dAdd_i, dEq_i, dNe_i, dSub, iOp, dLen_t, dLen_l, e_seqM, sq1_l, sq1_t, e_partM, pa1_i, sliM, isN_none, notN_none, isN_int, notN_int, isN_bool, notN_bool, isN_str, notN_str, isN_list, notN_list, isN_tup, notN_tup, isN_dict, notN_dict, raiseS, mDat, mNew, e_callAt, cal_some, wbl_ok, wbl_ex, wbl_ite, e_lcM, e_rng1, e_rng2, e_enuM, en1_l, en1_t, e_zipM, zi1_l, dMnN_i, dMx_l, dMx_t, asg_nm, asg_tp, put, e_appM, isOwnL_l, e_apd, apo_l, notN_OI, isN_OI, dNe_n0, dTup_l, dTup_t, dNeg_i, dCutT_t, dCutL_l, dNe_t0, dEq_t0, dEq_l0, sw, lc]⟩
  · obtain ⟨i0, ie⟩ := head_some hf hw e
    have dn := dEq_lnil (w.filter (canL f n p))
    rw [ie] at dn
    refine ⟨.own (.list ((w.filter (canL f n p)).map .int)), ?_⟩
    generalize w.filter (canL f n p) = S at lc i0 dn
    simp [tailF, -List.map_map, -List.map_drop, -List.map_take, -List.map_append, -List.map_dropLast, th_ok, th_ex, th_ite, e_bind, e_ret, e_opt, ts_ok, ts_ex, ts_ite, e_bindS, sq_nx, sq_rt, sq_ex, sq_bk, sq_ct, sq_ite, e_seqS, fin_nx, fin_rt, fin_ex, fin_ite, e_fnOf, wb_ok, wb_ex, wb_ite, vA1_b, e_vAnd, vO1_b, e_vOr, vN1_b, e_vNot, ch1_b, e_chM, e_toB, e_mAnd, e_mOr, e_mNot, e_mIte, e_iteS, lp_nx, lp_ct, lp_bk, lp_rt, lp_ex, lp_ite, forL_nil, forL_nm, e_forS, okArgs, isOwn, outs, nam, frz, look, lookAll, ap1, ap2, apA, un1, bin2, opA, isiM, retS, drpS, setS, setN, putS, put, unpS, asg, mCons, mNil, e_mTup, mt1_ok, e_mLst, ml1_ok, callM, argsOf, argOf, ownIx, Sk.wb, List.getElem?_cons_zero, List.getElem?_cons_succ, List.getElem?_nil, List.set_cons_zero, List.set_cons_succ, List.replicate_succ, List.replicate_zero, List.cons_append, List.nil_append, List.foldl_cons, List.foldl_nil, List.getD_cons_zero, List.getD_cons_succ, List.all_cons, List.all_nil, isiD, tyN, dLt, dLe, dGt, dGe, dAdd_i, dEq_i, dNe_i, dSub, iOp, dLen_t, dLen_l, e_seqM, sq1_l, sq1_t, e_partM, pa1_i, sliM, isN_none, notN_none, isN_int, notN_int, isN_bool, notN_bool, isN_str, notN_str, isN_list, notN_list, isN_tup, notN_tup, isN_dict, notN_dict, raiseS, mDat, mNew, e_callAt, cal_some, wbl_ok, wbl_ex, wbl_ite, e_lcM, e_rng1, e_rng2, e_enuM, en1_l, en1_t, e_zipM, zi1_l, dMnN_i, dMx_l, dMx_t, asg_nm, asg_tp, put, e_appM, isOwnL_l, e_apd, apo_l, notN_OI, isN_OI, dNe_n0, dTup_l, dTup_t, dNeg_i, dCutT_t, dCutL_l, dNe_t0, dEq_t0, dEq_l0, sw, lc, dn, i0]
theorem seen_put {n p many : Int} {S : List Int} {kvs : List (D × D)} (h : SeenF f w n p many S kvs 1) (hn : ¬ (resid f p ∈ S ∧ 100 < n - p)) : SeenF f w n p many (addW S (resid f p)) (putD kvs (.inl (resid f p)) (.tuple [.int p, .int many])) 0 := by
  obtain ⟨h1, h2, h3, h4⟩ := h
  have l0 : 0 < (f.length : Int) := by have := List.length_pos_iff.mpr hf; omega
  refine ⟨keys_put h1, addW_nd h2, fun x hx => ?_, fun r d e => ?_⟩
  · rcases addW_mem hx with hx | rfl
    · exact h3 x hx
    · exact ⟨Int.emod_nonneg _ (by omega), Int.emod_lt_of_pos _ l0⟩
  · rw [look_put] at e
    by_cases c : (Sum.inl r : Key) = .inl (resid f p)
    · rw [if_pos c] at e
      cases e
      injection c with c
      subst c
      refine ⟨p, 0, by simp, rfl, by omega, rfl, ?_⟩
      have := addW_ne (S := S) (k := resid f p)
      omega
    · rw [if_neg c] at e
      obtain ⟨q, k, e1, e2, e3, e4, e5⟩ := h4 r d e
      refine ⟨q, k, e1, e2, by omega, e4, ?_⟩
      by_cases c2 : resid f p ∈ S
      · have : ¬ 100 < n - p := fun z => hn ⟨c2, z⟩
        omega
      · have : (addW S (resid f p)).length = S.length + 1 := by unfold addW; rw [if_neg c2]; simp
        omega
theorem seen_step {n p many l : Int} {S : List Int} {kvs : List (D × D)} (h : SeenF f w n p many S kvs 0) (e : firstL f w n p = some l) : SeenF f w n (p + l) (many + 1) S kvs 1 := by
  obtain ⟨h1, h2, h3, h4⟩ := h
  have l1 := (hw.lo l (first_in (fun l h => (hw.lo l h).1) e).1).1
  refine ⟨h1, h2, h3, fun r d e0 => ?_⟩
  obtain ⟨q, k, e1, e2, e3, e4, e5⟩ := h4 r d e0
  refine ⟨q, k + 1, ?_, e2, by omega, sN_snoc e4 e, by omega⟩
  rw [e1, show many + 1 - ((k + 1 : Nat) : Int) = many - k by omega]
theorem sN_hi {n : Int} : ∀ {k : Nat} {q p : Int}, sN f w n k q = some p → p ≤ q + 6 * k
  | 0, q, p, h => by cases h; omega
  | k + 1, q, p, h => by
    unfold sN at h
    cases c : firstL f w n q with
    | none => rw [c] at h; cases h
    | some l' =>
      rw [c] at h
      have := sN_hi h
      have := (hw.lo l' (first_in (fun l h => (hw.lo l h).1) c).1).2
      omega
theorem mid_skip {n p many : Int} {S : List Int} {kvs : List (D × D)} (h : SeenF f w n p many S kvs 1) (p0 : 0 < p) (hi : resid f p ∈ S) (hn : 100 < n - p) (x7 x8 x9 x10 : Sl) :
    ∃ (t k : Nat) (size : Int), 0 ≤ size ∧ p + t * size ≤ n - 50 ∧ (goW f w n p).2 = (goW f w n (p + t * size)).2 ∧ (goW f w n p).1.length = t * k + (goW f w n (p + t * size)).1.length ∧
    midF [.dat (encI f), .dat (encI w), .dat (.int n), .dat (.int p), .dat (.int many), .own (.dict kvs), .dat (.int (resid f p)), x7, x8, x9, x10, .un] = .nx [.dat (encI f), .dat (encI w), .dat (.int n), .dat (.int (p + t * size)), .dat (.int (many + t * k)), .own (.dict []), .dat (.int (resid f p)), .dat (.int size), .dat (.int k), .dat (.int t), x10, .un] := by
  obtain ⟨h1, h2, h3, h4⟩ := h
  have hh : (lookD kvs (.inl (resid f p))).isSome = true := by rw [in_look, has_key h1]; simpa using hi
  have hk : dkIn (.int (resid f p)) (.dict kvs) = some (.bool true) := by
    show some (PyData.bool (lookD _ _).isSome) = _
    rw [hh]
  obtain ⟨d, hd⟩ := Option.isSome_iff_exists.mp hh
  obtain ⟨q, k, rfl, e2, e3, e4, e5⟩ := h4 _ _ hd
  have hg : dkGet (.dict kvs) (.int (resid f p)) = some (.tuple [.int q, .int (many - k)]) := hd
  have sl := few_in h2 h3
  have u1 := sN_up hw e4
  have u2 := sN_hi hf hl8 hw e4
  generalize hs : p - q = size
  have s1 : 1 ≤ size := by omega
  have s2 : size ≤ 48 := by omega
  have dv : (f.length : Int) ∣ size := by
    unfold resid at e2
    rw [← hs]
    exact Int.dvd_of_emod_eq_zero (by rw [Int.sub_emod, e2, Int.sub_self]; rfl)
  have t0 : 0 ≤ (n - p - 50) / size := Int.ediv_nonneg (by omega) (by omega)
  obtain ⟨t, ht⟩ := Int.eq_ofNat_of_zero_le t0
  have t1 : (t : Int) * size ≤ n - p - 50 := by rw [← ht]; exact Int.ediv_mul_le _ (by omega)
  have wq := sN_wide hw e4 (by omega)
  have wp := wN_shift dv wq
  rw [show q + size = p by omega] at wp
  have wt := wN_times hw dv wp t
  obtain ⟨g1, g2⟩ := go_wN (n := n) hw wt (by omega)
  refine ⟨t, k, size, by omega, by omega, g1, g2, ?_⟩
  have i0 : dIx (.tuple [.int q, .int (many - k)]) (.int 0) = some (.int q) := rfl
  have i1 : dIx (.tuple [.int q, .int (many - k)]) (.int 1) = some (.int (many - k)) := rfl
  have dd : dDiv (.int (n - p - 50)) (.int size) = some (.int t) := by rw [dDiv_i (by omega) (by omega), ht]
  have m1 : dMul (.int (t : Int)) (.int size) = some (.int (t * size)) := dMul_r (by omega)
  have m2 : dMul (.int (t : Int)) (.int (k : Int)) = some (.int (t * k)) := dMul_r (by omega)
  have sk : many - (many - (k : Int)) = k := by omega
  simp [midF, -List.map_map, -List.map_drop, -List.map_take, -List.map_append, -List.map_dropLast, th_ok, th_ex, th_ite, e_bind, e_ret, e_opt, ts_ok, ts_ex, ts_ite, e_bindS, sq_nx, sq_rt, sq_ex, sq_bk, sq_ct, sq_ite, e_seqS, fin_nx, fin_rt, fin_ex, fin_ite, e_fnOf, wb_ok, wb_ex, wb_ite, vA1_b, e_vAnd, vO1_b, e_vOr, vN1_b, e_vNot, ch1_b, e_chM, e_toB, e_mAnd, e_mOr, e_mNot, e_mIte, e_iteS, lp_nx, lp_ct, lp_bk, lp_rt, lp_ex, lp_ite, forL_nil, forL_nm, e_forS, okArgs, isOwn, outs, nam, frz, look, lookAll, ap1, ap2, apA, un1, bin2, opA, isiM, retS, drpS, setS, setN, putS, put, unpS, asg, mCons, mNil, e_mTup, mt1_ok, e_mLst, ml1_ok, callM, argsOf, argOf, ownIx, Sk.wb, List.getElem?_cons_zero, List.getElem?_cons_succ, List.getElem?_nil, List.set_cons_zero, List.set_cons_succ, List.replicate_succ, List.replicate_zero, List.cons_append, List.nil_append, List.foldl_cons, List.foldl_nil, List.getD_cons_zero, List.getD_cons_succ, List.all_cons, List.all_nil, isiD, tyN, dLt, dLe, dGt, dGe, dAdd_i, dEq_i, dNe_i, dSub, iOp, dLen_t, dLen_l, e_seqM, sq1_l, sq1_t, e_partM, pa1_i, sliM, isN_none, notN_none, isN_int, notN_int, isN_bool, notN_bool, isN_str, notN_str, isN_list, notN_list, isN_tup, notN_tup, isN_dict, notN_dict, raiseS, mDat, mNew, e_callAt, cal_some, wbl_ok, wbl_ex, wbl_ite, e_lcM, e_rng1, e_rng2, e_enuM, en1_l, en1_t, e_zipM, zi1_l, dMnN_i, dMx_l, dMx_t, asg_nm, asg_tp, put, e_appM, isOwnL_l, e_apd, apo_l, notN_OI, isN_OI, dNe_n0, dTup_l, dTup_t, dNeg_i, dCutT_t, dCutL_l, dNe_t0, dEq_t0, dEq_l0, p0, hk, hn, hg, i0, i1, hs, sk, dd, m1, m2]
theorem mid_put {n p many : Int} {S : List Int} {kvs : List (D × D)} (h : SeenF f w n p many S kvs 1) (p0 : 0 < p) (hn : ¬ (resid f p ∈ S ∧ 100 < n - p)) (x7 x8 x9 x10 : Sl) :
    midF [.dat (encI f), .dat (encI w), .dat (.int n), .dat (.int p), .dat (.int many), .own (.dict kvs), .dat (.int (resid f p)), x7, x8, x9, x10, .un] = .nx [.dat (encI f), .dat (encI w), .dat (.int n), .dat (.int p), .dat (.int many), .own (.dict (putD kvs (.inl (resid f p)) (.tuple [.int p, .int many]))), .dat (.int (resid f p)), x7, x8, x9, x10, .un] := by
  obtain ⟨h1, h2, h3, h4⟩ := h
  have sl := few_in h2 h3
  have kl : kvs.length < cap := by
    have := congrArg List.length h1
    simp at this
    unfold cap
    omega
  have hk : dkIn (.int (resid f p)) (.dict kvs) = some (.bool (decide (resid f p ∈ S))) := by
    show some (PyData.bool (lookD _ _).isSome) = _
    rw [in_look, has_key h1]
  by_cases c : resid f p ∈ S
  · have : ¬ 100 < n - p := fun z => hn ⟨c, z⟩
    simp [midF, -List.map_map, -List.map_drop, -List.map_take, -List.map_append, -List.map_dropLast, th_ok, th_ex, th_ite, e_bind, e_ret, e_opt, ts_ok, ts_ex, ts_ite, e_bindS, sq_nx, sq_rt, sq_ex, sq_bk, sq_ct, sq_ite, e_seqS, fin_nx, fin_rt, fin_ex, fin_ite, e_fnOf, wb_ok, wb_ex, wb_ite, vA1_b, e_vAnd, vO1_b, e_vOr, vN1_b, e_vNot, ch1_b, e_chM, e_toB, e_mAnd, e_mOr, e_mNot, e_mIte, e_iteS, lp_nx, lp_ct, lp_bk, lp_rt, lp_ex, lp_ite, forL_nil, forL_nm, e_forS, okArgs, isOwn, outs, nam, frz, look, lookAll, ap1, ap2, apA, un1, bin2, opA, isiM, retS, drpS, setS, setN, putS, put, unpS, asg, mCons, mNil, e_mTup, mt1_ok, e_mLst, ml1_ok, callM, argsOf, argOf, ownIx, Sk.wb, List.getElem?_cons_zero, List.getElem?_cons_succ, List.getElem?_nil, List.set_cons_zero, List.set_cons_succ, List.replicate_succ, List.replicate_zero, List.cons_append, List.nil_append, List.foldl_cons, List.foldl_nil, List.getD_cons_zero, List.getD_cons_succ, List.all_cons, List.all_nil, isiD, tyN, dLt, dLe, dGt, dGe, dAdd_i, dEq_i, dNe_i, dSub, iOp, dLen_t, dLen_l, e_seqM, sq1_l, sq1_t, e_partM, pa1_i, sliM, isN_none, notN_none, isN_int, notN_int, isN_bool, notN_bool, isN_str, notN_str, isN_list, notN_list, isN_tup, notN_tup, isN_dict, notN_dict, raiseS, mDat, mNew, e_callAt, cal_some, wbl_ok, wbl_ex, wbl_ite, e_lcM, e_rng1, e_rng2, e_enuM, en1_l, en1_t, e_zipM, zi1_l, dMnN_i, dMx_l, dMx_t, asg_nm, asg_tp, put, e_appM, isOwnL_l, e_apd, apo_l, notN_OI, isN_OI, dNe_n0, dTup_l, dTup_t, dNeg_i, dCutT_t, dCutL_l, dNe_t0, dEq_t0, dEq_l0, p0, hk, c, this, dputS, bindS, isOwnD, keyOf, kl]
  · simp [midF, -List.map_map, -List.map_drop, -List.map_take, -List.map_append, -List.map_dropLast, th_ok, th_ex, th_ite, e_bind, e_ret, e_opt, ts_ok, ts_ex, ts_ite, e_bindS, sq_nx, sq_rt, sq_ex, sq_bk, sq_ct, sq_ite, e_seqS, fin_nx, fin_rt, fin_ex, fin_ite, e_fnOf, wb_ok, wb_ex, wb_ite, vA1_b, e_vAnd, vO1_b, e_vOr, vN1_b, e_vNot, ch1_b, e_chM, e_toB, e_mAnd, e_mOr, e_mNot, e_mIte, e_iteS, lp_nx, lp_ct, lp_bk, lp_rt, lp_ex, lp_ite, forL_nil, forL_nm, e_forS, okArgs, isOwn, outs, nam, frz, look, lookAll, ap1, ap2, apA, un1, bin2, opA, isiM, retS, drpS, setS, setN, putS, put, unpS, asg, mCons, mNil, e_mTup, mt1_ok, e_mLst, ml1_ok, callM, argsOf, argOf, ownIx, Sk.wb, List.getElem?_cons_zero, List.getElem?_cons_succ, List.getElem?_nil, List.set_cons_zero, List.set_cons_succ, List.replicate_succ, List.replicate_zero, List.cons_append, List.nil_append, List.foldl_cons, List.foldl_nil, List.getD_cons_zero, List.getD_cons_succ, List.all_cons, List.all_nil, isiD, tyN, dLt, dLe, dGt, dGe, dAdd_i, dEq_i, dNe_i, dSub, iOp, dLen_t, dLen_l, e_seqM, sq1_l, sq1_t, e_partM, pa1_i, sliM, isN_none, notN_none, isN_int, notN_int, isN_bool, notN_bool, isN_str, notN_str, isN_list, notN_list, isN_tup, notN_tup, isN_dict, notN_dict, raiseS, mDat, mNew, e_callAt, cal_some, wbl_ok, wbl_ex, wbl_ite, e_lcM, e_rng1, e_rng2, e_enuM, en1_l, en1_t, e_zipM, zi1_l, dMnN_i, dMx_l, dMx_t, asg_nm, asg_tp, put, e_appM, isOwnL_l, e_apd, apo_l, notN_OI, isN_OI, dNe_n0, dTup_l, dTup_t, dNeg_i, dCutT_t, dCutL_l, dNe_t0, dEq_t0, dEq_l0, p0, hk, c, dputS, bindS, isOwnD, keyOf, kl]
end
end Zk07
set_option maxHeartbeats 1000000
namespace Zk07
open PySem PySem.Spec PyProof.Rows L2 Sk LamX
section
variable {f w : List Int} (hf : f ≠ []) (hl8 : f.length ≤ 8) (hw : GoodW w)
include hf hl8 hw
theorem r_lfar (n : Nat) (hn : (n : Int) ≤ 1000000000000000000000000000000) : m__law_far_steps [.dat (encI f), .dat (encI w), .dat (.int (n : Int))] = .ok (encOI (tellW f w τ1 n)) [.dat (encI f), .dat (encI w), .dat (.int (n : Int))] := by
  have one := GoodW.one hf hw
  have l0 : 0 < f.length := List.length_pos_iff.mpr hf
  have lf : dLen [encI f] = some (.int (f.length : Nat)) := by
    unfold encI
    rw [dLen_t, List.length_map]
  have tw : tellW f w τ1 n = if (goW f w n 0).2 = true then some ((goW f w (n : Int) 0).1.length : Int) else none := by
    unfold tellW
    rw [VW_one]
  rw [tw]
  generalize hR : goW f w (n : Int) 0 = R
  have lp : (R.2 = true → ∃ x3 x5 x6 x7 x8 x9 x10 : Sl, whlS W1__law_far_steps L1__law_far_steps [] [.dat (encI f), .dat (encI w), .dat (.int (n : Int)), .dat (.int 0), .dat (.int 0), .own (.dict []), .un, .un, .un, .un, .un, .un] = .nx [.dat (encI f), .dat (encI w), .dat (.int (n : Int)), x3, .dat (.int (R.1.length : Int)), x5, x6, x7, x8, x9, x10, .un]) ∧
      (R.2 = false → ∃ st' : List Sl, whlS W1__law_far_steps L1__law_far_steps [] [.dat (encI f), .dat (encI w), .dat (.int (n : Int)), .dat (.int 0), .dat (.int 0), .own (.dict []), .un, .un, .un, .un, .un, .un] = .rt .none st') := by
    refine whl_inv (fun m st => ∃ (p many : Int) (kvs : List (D × D)) (S : List Int) (x6 x7 x8 x9 x10 : Sl), st = [.dat (encI f), .dat (encI w), .dat (.int (n : Int)), .dat (.int p), .dat (.int many), .own (.dict kvs), x6, x7, x8, x9, x10, .un] ∧ m = ((n : Int) + 1 - p).toNat ∧ 0 ≤ p ∧ (goW f w n p).2 = R.2 ∧ many + ((goW f w n p).1.length : Int) = R.1.length ∧ SeenF f w n p many S kvs 1 ∧ (0 < p ∨ kvs = []))
      (fun o => (R.2 = true → ∃ x3 x5 x6 x7 x8 x9 x10 : Sl, o = .nx [.dat (encI f), .dat (encI w), .dat (.int (n : Int)), x3, .dat (.int (R.1.length : Int)), x5, x6, x7, x8, x9, x10, .un]) ∧ (R.2 = false → ∃ st' : List Sl, o = .rt .none st')) ?_ (fun m st h => ?_) (m := ((n : Int) + 1 - 0).toNat) ⟨0, 0, [], [], .un, .un, .un, .un, .un, rfl, rfl, by omega, by rw [hR], by rw [hR]; omega, seen_nil, .inr rfl⟩
    · rintro ⟨h1, h2⟩
      cases c : R.2 with
      | true => obtain ⟨_, _, _, _, _, _, _, h⟩ := h1 c; cases h
      | false => obtain ⟨_, h⟩ := h2 c; cases h
    · obtain ⟨p, many, kvs, S, x6, x7, x8, x9, x10, rfl, rfl, p0, e1, e2, hs, hz⟩ := h
      by_cases c : p ≤ n
      · right
        refine ⟨[.dat (encI f), .dat (encI w), .dat (.int (n : Int)), .dat (.int p), .dat (.int many), .own (.dict kvs), x6, x7, x8, x9, x10, .un], by simp [W1__law_far_steps, -List.map_map, -List.map_drop, -List.map_take, -List.map_append, -List.map_dropLast, th_ok, th_ex, th_ite, e_bind, e_ret, e_opt, ts_ok, ts_ex, ts_ite, e_bindS, sq_nx, sq_rt, sq_ex, sq_bk, sq_ct, sq_ite, e_seqS, fin_nx, fin_rt, fin_ex, fin_ite, e_fnOf, wb_ok, wb_ex, wb_ite, vA1_b, e_vAnd, vO1_b, e_vOr, vN1_b, e_vNot, ch1_b, e_chM, e_toB, e_mAnd, e_mOr, e_mNot, e_mIte, e_iteS, lp_nx, lp_ct, lp_bk, lp_rt, lp_ex, lp_ite, forL_nil, forL_nm, e_forS, okArgs, isOwn, outs, nam, frz, look, lookAll, ap1, ap2, apA, un1, bin2, opA, isiM, retS, drpS, setS, setN, putS, put, unpS, asg, mCons, mNil, e_mTup, mt1_ok, e_mLst, ml1_ok, callM, argsOf, argOf, ownIx, Sk.wb, List.getElem?_cons_zero, List.getElem?_cons_succ, List.getElem?_nil, List.set_cons_zero, List.set_cons_succ, List.replicate_succ, List.replicate_zero, List.cons_append, List.nil_append, List.foldl_cons, List.foldl_nil, List.getD_cons_zero, List.getD_cons_succ, List.all_cons, List.all_nil, isiD, tyN, dLt, dLe, dGt, dGe, dAdd_i, dEq_i, dNe_i, dSub, iOp, dLen_t, dLen_l, e_seqM, sq1_l, sq1_t, e_partM, pa1_i, sliM, isN_none, notN_none, isN_int, notN_int, isN_bool, notN_bool, isN_str, notN_str, isN_list, notN_list, isN_tup, notN_tup, isN_dict, notN_dict, raiseS, mDat, mNew, e_callAt, cal_some, wbl_ok, wbl_ex, wbl_ite, e_lcM, e_rng1, e_rng2, e_enuM, en1_l, en1_t, e_zipM, zi1_l, dMnN_i, dMx_l, dMx_t, asg_nm, asg_tp, put, e_appM, isOwnL_l, e_apd, apo_l, notN_OI, isN_OI, dNe_n0, dTup_l, dTup_t, dNeg_i, dCutT_t, dCutL_l, dNe_t0, dEq_t0, dEq_l0, c], ?_⟩
        have md := dMod_i (i := p) (j := (f.length : Int)) (by omega)
        have first : ∀ rest : MS, seqS (setS 6 (bin2 dMod (nam 3) ((opA dLen (mCons (nam 0) (mNil))).bind fun d => M.ret (.dat d)))) rest [.dat (encI f), .dat (encI w), .dat (.int (n : Int)), .dat (.int p), .dat (.int many), .own (.dict kvs), x6, x7, x8, x9, x10, .un] = rest [.dat (encI f), .dat (encI w), .dat (.int (n : Int)), .dat (.int p), .dat (.int many), .own (.dict kvs), .dat (.int (resid f p)), x7, x8, x9, x10, .un] := fun rest => by
          simp [-List.map_map, -List.map_drop, -List.map_take, -List.map_append, -List.map_dropLast, th_ok, th_ex, th_ite, e_bind, e_ret, e_opt, ts_ok, ts_ex, ts_ite, e_bindS, sq_nx, sq_rt, sq_ex, sq_bk, sq_ct, sq_ite, e_seqS, fin_nx, fin_rt, fin_ex, fin_ite, e_fnOf, wb_ok, wb_ex, wb_ite, vA1_b, e_vAnd, vO1_b, e_vOr, vN1_b, e_vNot, ch1_b, e_chM, e_toB, e_mAnd, e_mOr, e_mNot, e_mIte, e_iteS, lp_nx, lp_ct, lp_bk, lp_rt, lp_ex, lp_ite, forL_nil, forL_nm, e_forS, okArgs, isOwn, outs, nam, frz, look, lookAll, ap1, ap2, apA, un1, bin2, opA, isiM, retS, drpS, setS, setN, putS, put, unpS, asg, mCons, mNil, e_mTup, mt1_ok, e_mLst, ml1_ok, callM, argsOf, argOf, ownIx, Sk.wb, List.getElem?_cons_zero, List.getElem?_cons_succ, List.getElem?_nil, List.set_cons_zero, List.set_cons_succ, List.replicate_succ, List.replicate_zero, List.cons_append, List.nil_append, List.foldl_cons, List.foldl_nil, List.getD_cons_zero, List.getD_cons_succ, List.all_cons, List.all_nil, isiD, tyN, dLt, dLe, dGt, dGe, dAdd_i, dEq_i, dNe_i, dSub, iOp, dLen_t, dLen_l, e_seqM, sq1_l, sq1_t, e_partM, pa1_i, sliM, isN_none, notN_none, isN_int, notN_int, isN_bool, notN_bool, isN_str, notN_str, isN_list, notN_list, isN_tup, notN_tup, isN_dict, notN_dict, raiseS, mDat, mNew, e_callAt, cal_some, wbl_ok, wbl_ex, wbl_ite, e_lcM, e_rng1, e_rng2, e_enuM, en1_l, en1_t, e_zipM, zi1_l, dMnN_i, dMx_l, dMx_t, asg_nm, asg_tp, put, e_appM, isOwnL_l, e_apd, apo_l, notN_OI, isN_OI, dNe_n0, dTup_l, dTup_t, dNeg_i, dCutT_t, dCutL_l, dNe_t0, dEq_t0, dEq_l0, lf, md, resid]
        -- what the middle leaves
        have mid : ∃ (p2 many2 : Int) (kvs2 : List (D × D)) (S2 : List Int) (y7 y8 y9 : Sl), p ≤ p2 ∧ p2 ≤ n ∧ (goW f w n p2).2 = R.2 ∧ many2 + ((goW f w n p2).1.length : Int) = R.1.length ∧ SeenF f w n p2 many2 S2 kvs2 0 ∧
            midF [.dat (encI f), .dat (encI w), .dat (.int (n : Int)), .dat (.int p), .dat (.int many), .own (.dict kvs), .dat (.int (resid f p)), x7, x8, x9, x10, .un] = .nx [.dat (encI f), .dat (encI w), .dat (.int (n : Int)), .dat (.int p2), .dat (.int many2), .own (.dict kvs2), .dat (.int (resid f p)), y7, y8, y9, x10, .un] := by
          by_cases c0 : 0 < p
          · by_cases cs : resid f p ∈ S ∧ 100 < (n : Int) - p
            · obtain ⟨t, k, size, s0, u1, u2, u3, u4⟩ := mid_skip hf hl8 hw hs c0 cs.1 cs.2 x7 x8 x9 x10
              have : 0 ≤ (t : Int) * size := Int.mul_nonneg (by omega) s0
              refine ⟨p + t * size, many + t * k, [], [], _, _, _, by omega, by omega, by rw [← u2]; exact e1, ?_, seen_nil, u4⟩
              rw [u3] at e2
              rw [← e2, Int.natCast_add, Int.natCast_mul]
              omega
            · exact ⟨p, many, _, _, x7, x8, x9, Int.le_refl _, c, e1, e2, seen_put hf hl8 hw hs cs, mid_put hf hl8 hw hs c0 cs x7 x8 x9 x10⟩
          · refine ⟨p, many, kvs, S, x7, x8, x9, Int.le_refl _, c, e1, e2, ?_, by simp [midF, -List.map_map, -List.map_drop, -List.map_take, -List.map_append, -List.map_dropLast, th_ok, th_ex, th_ite, e_bind, e_ret, e_opt, ts_ok, ts_ex, ts_ite, e_bindS, sq_nx, sq_rt, sq_ex, sq_bk, sq_ct, sq_ite, e_seqS, fin_nx, fin_rt, fin_ex, fin_ite, e_fnOf, wb_ok, wb_ex, wb_ite, vA1_b, e_vAnd, vO1_b, e_vOr, vN1_b, e_vNot, ch1_b, e_chM, e_toB, e_mAnd, e_mOr, e_mNot, e_mIte, e_iteS, lp_nx, lp_ct, lp_bk, lp_rt, lp_ex, lp_ite, forL_nil, forL_nm, e_forS, okArgs, isOwn, outs, nam, frz, look, lookAll, ap1, ap2, apA, un1, bin2, opA, isiM, retS, drpS, setS, setN, putS, put, unpS, asg, mCons, mNil, e_mTup, mt1_ok, e_mLst, ml1_ok, callM, argsOf, argOf, ownIx, Sk.wb, List.getElem?_cons_zero, List.getElem?_cons_succ, List.getElem?_nil, List.set_cons_zero, List.set_cons_succ, List.replicate_succ, List.replicate_zero, List.cons_append, List.nil_append, List.foldl_cons, List.foldl_nil, List.getD_cons_zero, List.getD_cons_succ, List.all_cons, List.all_nil, isiD, tyN, dLt, dLe, dGt, dGe, dAdd_i, dEq_i, dNe_i, dSub, iOp, dLen_t, dLen_l, e_seqM, sq1_l, sq1_t, e_partM, pa1_i, sliM, isN_none, notN_none, isN_int, notN_int, isN_bool, notN_bool, isN_str, notN_str, isN_list, notN_list, isN_tup, notN_tup, isN_dict, notN_dict, raiseS, mDat, mNew, e_callAt, cal_some, wbl_ok, wbl_ex, wbl_ite, e_lcM, e_rng1, e_rng2, e_enuM, en1_l, en1_t, e_zipM, zi1_l, dMnN_i, dMx_l, dMx_t, asg_nm, asg_tp, put, e_appM, isOwnL_l, e_apd, apo_l, notN_OI, isN_OI, dNe_n0, dTup_l, dTup_t, dNeg_i, dCutT_t, dCutL_l, dNe_t0, dEq_t0, dEq_l0, c0]⟩
            have hz : kvs = [] := hz.resolve_left c0
            subst hz
            refine ⟨hs.1, hs.2.1, hs.2.2.1, fun r d e => ?_⟩
            simp [lookD] at e
        obtain ⟨p2, many2, kvs2, S2, y7, y8, y9, v1, v2, v3, v4, v5, v6⟩ := mid
        have bd : ∀ {o}, tailF [.dat (encI f), .dat (encI w), .dat (.int (n : Int)), .dat (.int p2), .dat (.int many2), .own (.dict kvs2), .dat (.int (resid f p)), y7, y8, y9, x10, .un] = o → L1__law_far_steps [.dat (encI f), .dat (encI w), .dat (.int (n : Int)), .dat (.int p), .dat (.int many), .own (.dict kvs), x6, x7, x8, x9, x10, .un] = o := fun h => by
          rw [split_F, first, e_seqS, v6, sq_nx]
          exact h
        obtain ⟨t1, t2⟩ := tailF_ok hf hl8 hw n p2 many2 kvs2 (.dat (.int (resid f p))) y7 y8 y9 x10
        rw [go_step one v2] at v3 v4
        cases e : firstL f w n p2 with
        | none =>
          rw [e] at v3 v4
          have v3 : false = R.2 := v3
          right; right
          obtain ⟨st', h⟩ := t1 e
          exact ⟨.none, st', bd h, fun z => (by rw [← v3] at z; cases z), fun _ => ⟨_, rfl⟩⟩
        | some l =>
          rw [e] at v3 v4
          simp only [List.length_cons] at v3 v4
          left
          obtain ⟨y10, h⟩ := t2 l e
          have l1 := one l (first_in one e).1
          refine ⟨_, .inl (bd h), ((n : Int) + 1 - (p2 + l)).toNat, by omega, p2 + l, many2 + 1, kvs2, S2, _, _, _, _, _, rfl, rfl, by omega, v3, by omega, seen_step hf hl8 hw v5 e, .inl (by omega)⟩
      · left
        rw [go_end one (by omega)] at e1 e2
        have e1 : true = R.2 := e1
        have e2 : many = R.1.length := by simpa using e2
        subst e2
        refine ⟨[.dat (encI f), .dat (encI w), .dat (.int (n : Int)), .dat (.int p), .dat (.int (R.1.length : Int)), .own (.dict kvs), x6, x7, x8, x9, x10, .un], by simp [W1__law_far_steps, -List.map_map, -List.map_drop, -List.map_take, -List.map_append, -List.map_dropLast, th_ok, th_ex, th_ite, e_bind, e_ret, e_opt, ts_ok, ts_ex, ts_ite, e_bindS, sq_nx, sq_rt, sq_ex, sq_bk, sq_ct, sq_ite, e_seqS, fin_nx, fin_rt, fin_ex, fin_ite, e_fnOf, wb_ok, wb_ex, wb_ite, vA1_b, e_vAnd, vO1_b, e_vOr, vN1_b, e_vNot, ch1_b, e_chM, e_toB, e_mAnd, e_mOr, e_mNot, e_mIte, e_iteS, lp_nx, lp_ct, lp_bk, lp_rt, lp_ex, lp_ite, forL_nil, forL_nm, e_forS, okArgs, isOwn, outs, nam, frz, look, lookAll, ap1, ap2, apA, un1, bin2, opA, isiM, retS, drpS, setS, setN, putS, put, unpS, asg, mCons, mNil, e_mTup, mt1_ok, e_mLst, ml1_ok, callM, argsOf, argOf, ownIx, Sk.wb, List.getElem?_cons_zero, List.getElem?_cons_succ, List.getElem?_nil, List.set_cons_zero, List.set_cons_succ, List.replicate_succ, List.replicate_zero, List.cons_append, List.nil_append, List.foldl_cons, List.foldl_nil, List.getD_cons_zero, List.getD_cons_succ, List.all_cons, List.all_nil, isiD, tyN, dLt, dLe, dGt, dGe, dAdd_i, dEq_i, dNe_i, dSub, iOp, dLen_t, dLen_l, e_seqM, sq1_l, sq1_t, e_partM, pa1_i, sliM, isN_none, notN_none, isN_int, notN_int, isN_bool, notN_bool, isN_str, notN_str, isN_list, notN_list, isN_tup, notN_tup, isN_dict, notN_dict, raiseS, mDat, mNew, e_callAt, cal_some, wbl_ok, wbl_ex, wbl_ite, e_lcM, e_rng1, e_rng2, e_enuM, en1_l, en1_t, e_zipM, zi1_l, dMnN_i, dMx_l, dMx_t, asg_nm, asg_tp, put, e_appM, isOwnL_l, e_apd, apo_l, notN_OI, isN_OI, dNe_n0, dTup_l, dTup_t, dNeg_i, dCutT_t, dCutL_l, dNe_t0, dEq_t0, dEq_l0, c], ⟨fun _ => ⟨_, _, _, _, _, _, _, rfl⟩, fun z => by rw [← e1] at z; cases z⟩⟩
  cases c : R.2 with
  | true =>
    obtain ⟨x3, x5, x6, x7, x8, x9, x10, e⟩ := lp.1 c
    simp [m__law_far_steps, b__law_far_steps, -List.map_map, -List.map_drop, -List.map_take, -List.map_append, -List.map_dropLast, th_ok, th_ex, th_ite, e_bind, e_ret, e_opt, ts_ok, ts_ex, ts_ite, e_bindS, sq_nx, sq_rt, sq_ex, sq_bk, sq_ct, sq_ite, e_seqS, fin_nx, fin_rt, fin_ex, fin_ite, e_fnOf, wb_ok, wb_ex, wb_ite, vA1_b, e_vAnd, vO1_b, e_vOr, vN1_b, e_vNot, ch1_b, e_chM, e_toB, e_mAnd, e_mOr, e_mNot, e_mIte, e_iteS, lp_nx, lp_ct, lp_bk, lp_rt, lp_ex, lp_ite, forL_nil, forL_nm, e_forS, okArgs, isOwn, outs, nam, frz, look, lookAll, ap1, ap2, apA, un1, bin2, opA, isiM, retS, drpS, setS, setN, putS, put, unpS, asg, mCons, mNil, e_mTup, mt1_ok, e_mLst, ml1_ok, callM, argsOf, argOf, ownIx, Sk.wb, List.getElem?_cons_zero, List.getElem?_cons_succ, List.getElem?_nil, List.set_cons_zero, List.set_cons_succ, List.replicate_succ, List.replicate_zero, List.cons_append, List.nil_append, List.foldl_cons, List.foldl_nil, List.getD_cons_zero, List.getD_cons_succ, List.all_cons, List.all_nil, isiD, tyN, dLt, dLe, dGt, dGe, dAdd_i, dEq_i, dNe_i, dSub, iOp, dLen_t, dLen_l, e_seqM, sq1_l, sq1_t, e_partM, pa1_i, sliM, isN_none, notN_none, isN_int, notN_int, isN_bool, notN_bool, isN_str, notN_str, isN_list, notN_list, isN_tup, notN_tup, isN_dict, notN_dict, raiseS, mDat, mNew, e_callAt, cal_some, wbl_ok, wbl_ex, wbl_ite, e_lcM, e_rng1, e_rng2, e_enuM, en1_l, en1_t, e_zipM, zi1_l, dMnN_i, dMx_l, dMx_t, asg_nm, asg_tp, put, e_appM, isOwnL_l, e_apd, apo_l, notN_OI, isN_OI, dNe_n0, dTup_l, dTup_t, dNeg_i, dCutT_t, dCutL_l, dNe_t0, dEq_t0, dEq_l0, e, encOI]
  | false =>
    obtain ⟨st', e⟩ := lp.2 c
    simp [m__law_far_steps, b__law_far_steps, -List.map_map, -List.map_drop, -List.map_take, -List.map_append, -List.map_dropLast, th_ok, th_ex, th_ite, e_bind, e_ret, e_opt, ts_ok, ts_ex, ts_ite, e_bindS, sq_nx, sq_rt, sq_ex, sq_bk, sq_ct, sq_ite, e_seqS, fin_nx, fin_rt, fin_ex, fin_ite, e_fnOf, wb_ok, wb_ex, wb_ite, vA1_b, e_vAnd, vO1_b, e_vOr, vN1_b, e_vNot, ch1_b, e_chM, e_toB, e_mAnd, e_mOr, e_mNot, e_mIte, e_iteS, lp_nx, lp_ct, lp_bk, lp_rt, lp_ex, lp_ite, forL_nil, forL_nm, e_forS, okArgs, isOwn, outs, nam, frz, look, lookAll, ap1, ap2, apA, un1, bin2, opA, isiM, retS, drpS, setS, setN, putS, put, unpS, asg, mCons, mNil, e_mTup, mt1_ok, e_mLst, ml1_ok, callM, argsOf, argOf, ownIx, Sk.wb, List.getElem?_cons_zero, List.getElem?_cons_succ, List.getElem?_nil, List.set_cons_zero, List.set_cons_succ, List.replicate_succ, List.replicate_zero, List.cons_append, List.nil_append, List.foldl_cons, List.foldl_nil, List.getD_cons_zero, List.getD_cons_succ, List.all_cons, List.all_nil, isiD, tyN, dLt, dLe, dGt, dGe, dAdd_i, dEq_i, dNe_i, dSub, iOp, dLen_t, dLen_l, e_seqM, sq1_l, sq1_t, e_partM, pa1_i, sliM, isN_none, notN_none, isN_int, notN_int, isN_bool, notN_bool, isN_str, notN_str, isN_list, notN_list, isN_tup, notN_tup, isN_dict, notN_dict, raiseS, mDat, mNew, e_callAt, cal_some, wbl_ok, wbl_ex, wbl_ite, e_lcM, e_rng1, e_rng2, e_enuM, en1_l, en1_t, e_zipM, zi1_l, dMnN_i, dMx_l, dMx_t, asg_nm, asg_tp, put, e_appM, isOwnL_l, e_apd, apo_l, notN_OI, isN_OI, dNe_n0, dTup_l, dTup_t, dNeg_i, dCutT_t, dCutL_l, dNe_t0, dEq_t0, dEq_l0, e, encOI]
end
/-! a drawn will -/
def lens6 : List Int := [1, 2, 3, 4, 5, 6]
def left6 (w : List Int) : List Int := lens6.filter fun x => decide (x ∉ w)
theorem left6_ne {w : List Int} (h : w.length < 6) : left6 w ≠ [] := fun e => by
  have sub : lens6 ⊆ w := fun x hx => by
    by_cases c : x ∈ w
    · exact c
    · have : x ∈ left6 w := List.mem_filter.mpr ⟨hx, by simpa using c⟩
      rw [e] at this
      cases this
  have nd : lens6.Nodup := by decide
  have := List.Nodup.length_le_of_subset nd sub
  have : lens6.length = 6 := rfl
  omega
theorem left6_snoc (w : List Int) (l : Int) : (left6 w).filter (fun x => !(x == l)) = left6 (w ++ [l]) := by
  unfold left6
  rw [List.filter_filter]
  apply List.filter_congr
  intro x _
  by_cases c : x = l <;> by_cases c2 : x ∈ w <;> simp [c, c2]
theorem left6_len (w : List Int) : (left6 w).length ≤ 6 := List.length_filter_le ..
def WillTo (w : List Int) : Prop := w.Nodup ∧ ∀ l ∈ w, 1 ≤ l ∧ l ≤ 6
theorem will_step (s : Src) (w : List Int) (x1 x3 x4 : Sl) (hs : OkS s) (hl : w.length < 6) (hw : WillTo w) (h1 : x1 = .dat (.list ((left6 w).map .int)) ∨ x1 = .own (.list ((left6 w).map .int))) :
    ∃ l s', OkS s' ∧ WillTo (w ++ [l]) ∧ L1__law_will [.own (encS s), x1, .dat (encI w), x3, x4, .un] = .nx [.own (encS s'), .own (.list ((left6 (w ++ [l])).map .int)), .dat (encI (w ++ [l])), x3, .dat (.int l), .un] := by
  have ne := left6_ne hl
  have ln := left6_len w
  have pm := pick_mem (s := s) (xs := (left6 w).map PyData.int) (by simpa using ne)
  obtain ⟨l, hl', el⟩ := List.mem_map.mp pm
  have rc := r_choice s ((left6 w).map .int) hs (by simpa using ne) (by rw [List.length_map]; omega)
  rw [← el] at rc
  have hl2 := List.mem_filter.mp hl'
  have nw : l ∉ w := by simpa using hl2.2
  have lb : 1 ≤ l ∧ l ≤ 6 := by
    have := hl2.1
    simp [lens6] at this
    omega
  have lc := lc_intsF (i := 5) (p := F1__law_will) (fe := C1__law_will) (q := fun x => !(x == l)) (g := fun x => x) (xs := left6 w) (st := [.own (encS (pickS s ((left6 w).map .int))), .dat (.list ((left6 w).map .int)), .dat (encI w), x3, .dat (.int l), .un]) (by simp) (by unfold cap; omega) (fun x _ => by
    simp [F1__law_will, -List.map_map, -List.map_drop, -List.map_take, -List.map_append, -List.map_dropLast, th_ok, th_ex, th_ite, e_bind, e_ret, e_opt, ts_ok, ts_ex, ts_ite, e_bindS, sq_nx, sq_rt, sq_ex, sq_bk, sq_ct, sq_ite, e_seqS, fin_nx, fin_rt, fin_ex, fin_ite, e_fnOf, wb_ok, wb_ex, wb_ite, vA1_b, e_vAnd, vO1_b, e_vOr, vN1_b, e_vNot, ch1_b, e_chM, e_toB, e_mAnd, e_mOr, e_mNot, e_mIte, e_iteS, lp_nx, lp_ct, lp_bk, lp_rt, lp_ex, lp_ite, forL_nil, forL_nm, e_forS, okArgs, isOwn, outs, nam, frz, look, lookAll, ap1, ap2, apA, un1, bin2, opA, isiM, retS, drpS, setS, setN, putS, put, unpS, asg, mCons, mNil, e_mTup, mt1_ok, e_mLst, ml1_ok, callM, argsOf, argOf, ownIx, Sk.wb, List.getElem?_cons_zero, List.getElem?_cons_succ, List.getElem?_nil, List.set_cons_zero, List.set_cons_succ, List.replicate_succ, List.replicate_zero, List.cons_append, List.nil_append, List.foldl_cons, List.foldl_nil, List.getD_cons_zero, List.getD_cons_succ, List.all_cons, List.all_nil, isiD, tyN, dLt, dLe, dGt, dGe, dAdd_i, dEq_i, dNe_i, dSub, iOp, dLen_t, dLen_l, e_seqM, sq1_l, sq1_t, e_partM, pa1_i, sliM, isN_none, notN_none, isN_int, notN_int, isN_bool, notN_bool, isN_str, notN_str, isN_list, notN_list, isN_tup, notN_tup, isN_dict, notN_dict, raiseS, mDat, mNew, e_callAt, cal_some, wbl_ok, wbl_ex, wbl_ite, e_lcM, e_rng1, e_rng2, e_enuM, en1_l, en1_t, e_zipM, zi1_l, dMnN_i, dMx_l, dMx_t, asg_nm, asg_tp, put, e_appM, isOwnL_l, e_apd, apo_l, notN_OI, isN_OI, dNe_n0, dTup_l, dTup_t, dNeg_i, dCutT_t, dCutL_l, dNe_t0, dEq_t0, dEq_l0]) (fun x _ _ => by simp [C1__law_will, -List.map_map, -List.map_drop, -List.map_take, -List.map_append, -List.map_dropLast, th_ok, th_ex, th_ite, e_bind, e_ret, e_opt, ts_ok, ts_ex, ts_ite, e_bindS, sq_nx, sq_rt, sq_ex, sq_bk, sq_ct, sq_ite, e_seqS, fin_nx, fin_rt, fin_ex, fin_ite, e_fnOf, wb_ok, wb_ex, wb_ite, vA1_b, e_vAnd, vO1_b, e_vOr, vN1_b, e_vNot, ch1_b, e_chM, e_toB, e_mAnd, e_mOr, e_mNot, e_mIte, e_iteS, lp_nx, lp_ct, lp_bk, lp_rt, lp_ex, lp_ite, forL_nil, forL_nm, e_forS, okArgs, isOwn, outs, nam, frz, look, lookAll, ap1, ap2, apA, un1, bin2, opA, isiM, retS, drpS, setS, setN, putS, put, unpS, asg, mCons, mNil, e_mTup, mt1_ok, e_mLst, ml1_ok, callM, argsOf, argOf, ownIx, Sk.wb, List.getElem?_cons_zero, List.getElem?_cons_succ, List.getElem?_nil, List.set_cons_zero, List.set_cons_succ, List.replicate_succ, List.replicate_zero, List.cons_append, List.nil_append, List.foldl_cons, List.foldl_nil, List.getD_cons_zero, List.getD_cons_succ, List.all_cons, List.all_nil, isiD, tyN, dLt, dLe, dGt, dGe, dAdd_i, dEq_i, dNe_i, dSub, iOp, dLen_t, dLen_l, e_seqM, sq1_l, sq1_t, e_partM, pa1_i, sliM, isN_none, notN_none, isN_int, notN_int, isN_bool, notN_bool, isN_str, notN_str, isN_list, notN_list, isN_tup, notN_tup, isN_dict, notN_dict, raiseS, mDat, mNew, e_callAt, cal_some, wbl_ok, wbl_ex, wbl_ite, e_lcM, e_rng1, e_rng2, e_enuM, en1_l, en1_t, e_zipM, zi1_l, dMnN_i, dMx_l, dMx_t, asg_nm, asg_tp, put, e_appM, isOwnL_l, e_apd, apo_l, notN_OI, isN_OI, dNe_n0, dTup_l, dTup_t, dNeg_i, dCutT_t, dCutL_l, dNe_t0, dEq_t0, dEq_l0])
  rw [filter_map_id, left6_snoc] at lc
  have ad : dAdd (encI w) (.tuple [.int l]) = some (encI (w ++ [l])) := by
    unfold encI
    rw [dAdd_tt (by simp; unfold cap; omega)]
    simp
  refine ⟨l, pickS s ((left6 w).map .int), drS_ok hs, ⟨?_, fun x hx => ?_⟩, ?_⟩
  · rw [List.nodup_append]
    refine ⟨hw.1, by simp, fun x hx y hy => ?_⟩
    have : y = l := by simpa using hy
    rintro rfl
    exact nw (this ▸ hx)
  · rcases List.mem_append.mp hx with hx | hx
    · exact hw.2 x hx
    · have : x = l := by simpa using hx
      rw [this]; exact lb
  · generalize left6 (w ++ [l]) = T2 at lc
    rcases h1 with rfl | rfl <;> simp [L1__law_will, -List.map_map, -List.map_drop, -List.map_take, -List.map_append, -List.map_dropLast, th_ok, th_ex, th_ite, e_bind, e_ret, e_opt, ts_ok, ts_ex, ts_ite, e_bindS, sq_nx, sq_rt, sq_ex, sq_bk, sq_ct, sq_ite, e_seqS, fin_nx, fin_rt, fin_ex, fin_ite, e_fnOf, wb_ok, wb_ex, wb_ite, vA1_b, e_vAnd, vO1_b, e_vOr, vN1_b, e_vNot, ch1_b, e_chM, e_toB, e_mAnd, e_mOr, e_mNot, e_mIte, e_iteS, lp_nx, lp_ct, lp_bk, lp_rt, lp_ex, lp_ite, forL_nil, forL_nm, e_forS, okArgs, isOwn, outs, nam, frz, look, lookAll, ap1, ap2, apA, un1, bin2, opA, isiM, retS, drpS, setS, setN, putS, put, unpS, asg, mCons, mNil, e_mTup, mt1_ok, e_mLst, ml1_ok, callM, argsOf, argOf, ownIx, Sk.wb, List.getElem?_cons_zero, List.getElem?_cons_succ, List.getElem?_nil, List.set_cons_zero, List.set_cons_succ, List.replicate_succ, List.replicate_zero, List.cons_append, List.nil_append, List.foldl_cons, List.foldl_nil, List.getD_cons_zero, List.getD_cons_succ, List.all_cons, List.all_nil, isiD, tyN, dLt, dLe, dGt, dGe, dAdd_i, dEq_i, dNe_i, dSub, iOp, dLen_t, dLen_l, e_seqM, sq1_l, sq1_t, e_partM, pa1_i, sliM, isN_none, notN_none, isN_int, notN_int, isN_bool, notN_bool, isN_str, notN_str, isN_list, notN_list, isN_tup, notN_tup, isN_dict, notN_dict, raiseS, mDat, mNew, e_callAt, cal_some, wbl_ok, wbl_ex, wbl_ite, e_lcM, e_rng1, e_rng2, e_enuM, en1_l, en1_t, e_zipM, zi1_l, dMnN_i, dMx_l, dMx_t, asg_nm, asg_tp, put, e_appM, isOwnL_l, e_apd, apo_l, notN_OI, isN_OI, dNe_n0, dTup_l, dTup_t, dNeg_i, dCutT_t, dCutL_l, dNe_t0, dEq_t0, dEq_l0, rc, lc, ad]
theorem will_loop : ∀ (n j : Nat) (s : Src) (w : List Int) (x1 x3 x4 : Sl), OkS s → w.length + n ≤ 6 → WillTo w → (x1 = .dat (.list ((left6 w).map .int)) ∨ x1 = .own (.list ((left6 w).map .int))) →
    ∃ w' s' x1' x3' x4', OkS s' ∧ WillTo w' ∧ w'.length = w.length + n ∧ forL (.nm 3) L1__law_will [] ((List.range' j n).map fun k : Nat => .int (0 + (k : Int))) [.own (encS s), x1, .dat (encI w), x3, x4, .un] = .nx [.own (encS s'), x1', .dat (encI w'), x3', x4', .un]
  | 0, j, s, w, x1, x3, x4, hs, _, hw, _ => ⟨w, s, x1, x3, x4, hs, hw, rfl, rfl⟩
  | n + 1, j, s, w, x1, x3, x4, hs, hl, hw, h1 => by
    obtain ⟨l, s1, o1, hw1, e1⟩ := will_step s w x1 (.dat (.int (0 + (j : Int)))) x4 hs (by omega) hw h1
    obtain ⟨w', s', x1', x3', x4', o2, hw2, l2, e2⟩ := will_loop n (j + 1) s1 (w ++ [l]) _ (.dat (.int (0 + (j : Int)))) (.dat (.int l)) o1 (by simp; omega) hw1 (.inr rfl)
    refine ⟨w', s', x1', x3', x4', o2, hw2, by rw [l2]; simp; omega, ?_⟩
    rw [List.range'_succ, List.map_cons, forL_nm]
    show (L1__law_will [.own (encS s), x1, .dat (encI w), .dat (.int (0 + (j : Int))), x4, .un]).lp _ = _
    rw [e1, lp_nx]
    exact e2
theorem r_lwill (s : Src) (hs : OkS s) : ∃ w s', GoodW w ∧ OkS s' ∧ m__law_will [.own (encS s)] = .ok (encI w) [.own (encS s')] := by
  have rd := r_draw s 3 hs (by omega) (by omega)
  have d0 := drV_0 (s := s) (many := 3) (by omega)
  have d1 := drV_lt (s := s) (many := 3) (by omega)
  have sm : Sml 0 (1 + drV s 3) := sml (by omega)
  obtain ⟨w', s', x1', x3', x4', o2, hw2, l2, e2⟩ := will_loop (1 + drV s 3).toNat 0 (drS s 3) [] (.dat (.list ((left6 []).map .int))) .un .un (drS_ok hs) (by simp; omega) ⟨List.nodup_nil, fun l h => by simp at h⟩ (.inl rfl)
  rw [← rngL'] at e2
  refine ⟨w', s', ⟨fun z => by rw [z] at l2; simp at l2; omega, by simp at l2; omega, hw2.2, hw2.1⟩, o2, ?_⟩
  have e6 : (left6 []).map PyData.int = [.int 1, .int 2, .int 3, .int 4, .int 5, .int 6] := rfl
  rw [e6] at e2
  have e2 : forL (.nm 3) L1__law_will [] (rngL 0 (1 + drV s 3).toNat) [.own (encS (drS s 3)), .dat (.list [.int 1, .int 2, .int 3, .int 4, .int 5, .int 6]), .dat (.tuple []), .un, .un, .un] = _ := e2
  simp [m__law_will, b__law_will, -List.map_map, -List.map_drop, -List.map_take, -List.map_append, -List.map_dropLast, th_ok, th_ex, th_ite, e_bind, e_ret, e_opt, ts_ok, ts_ex, ts_ite, e_bindS, sq_nx, sq_rt, sq_ex, sq_bk, sq_ct, sq_ite, e_seqS, fin_nx, fin_rt, fin_ex, fin_ite, e_fnOf, wb_ok, wb_ex, wb_ite, vA1_b, e_vAnd, vO1_b, e_vOr, vN1_b, e_vNot, ch1_b, e_chM, e_toB, e_mAnd, e_mOr, e_mNot, e_mIte, e_iteS, lp_nx, lp_ct, lp_bk, lp_rt, lp_ex, lp_ite, forL_nil, forL_nm, e_forS, okArgs, isOwn, outs, nam, frz, look, lookAll, ap1, ap2, apA, un1, bin2, opA, isiM, retS, drpS, setS, setN, putS, put, unpS, asg, mCons, mNil, e_mTup, mt1_ok, e_mLst, ml1_ok, callM, argsOf, argOf, ownIx, Sk.wb, List.getElem?_cons_zero, List.getElem?_cons_succ, List.getElem?_nil, List.set_cons_zero, List.set_cons_succ, List.replicate_succ, List.replicate_zero, List.cons_append, List.nil_append, List.foldl_cons, List.foldl_nil, List.getD_cons_zero, List.getD_cons_succ, List.all_cons, List.all_nil, isiD, tyN, dLt, dLe, dGt, dGe, dAdd_i, dEq_i, dNe_i, dSub, iOp, dLen_t, dLen_l, e_seqM, sq1_l, sq1_t, e_partM, pa1_i, sliM, isN_none, notN_none, isN_int, notN_int, isN_bool, notN_bool, isN_str, notN_str, isN_list, notN_list, isN_tup, notN_tup, isN_dict, notN_dict, raiseS, mDat, mNew, e_callAt, cal_some, wbl_ok, wbl_ex, wbl_ite, e_lcM, e_rng1, e_rng2, e_enuM, en1_l, en1_t, e_zipM, zi1_l, dMnN_i, dMx_l, dMx_t, asg_nm, asg_tp, put, e_appM, isOwnL_l, e_apd, apo_l, notN_OI, isN_OI, dNe_n0, dTup_l, dTup_t, dNeg_i, dCutT_t, dCutL_l, dNe_t0, dEq_t0, dEq_l0, rd, rn1_ok sm, e2]
end Zk07
set_option maxHeartbeats 1000000
namespace Zk07
open PySem PySem.Spec PyProof.Rows L2 Sk LamX
theorem dNe_pair (xs : List Int) (b : Bool) : dNe (.tuple [encI xs, .bool b]) (.tuple [encI xs, .bool b]) = some (.bool false) := by
  have sh : Sh 2 (.tuple [encI xs, .bool b]) := sh_tup fun x hx => by
    simp at hx
    rcases hx with rfl | rfl
    · exact sh_tup fun y hy => by
        obtain ⟨i, _, rfl⟩ := List.mem_map.mp hy
        exact sh_int
    · exact sh_bool
  show chk _ _ = _
  rw [e_chk ⟨sh.shaped (by decide), sh.shaped (by decide)⟩]
  simp [PyData.eqv, PyData.eqvAll, encI, eqvAll_ints]
def lenOf (R : List Int × Bool) : Option Int := if R.2 = true then some (R.1.length : Int) else none
theorem tell_one (f w : List Int) (n : Nat) : tellW f w τ1 n = lenOf (goW f w (n : Int) 0) := by
  unfold tellW lenOf
  rw [VW_one]
theorem encOI_len (R : List Int × Bool) : encOI (lenOf R) = if R.2 = true then .int (R.1.length : Nat) else .none := by
  unfold lenOf
  cases R.2 <;> rfl
theorem dNe_OIs (a : Option Int) : dNe (encOI a) (encOI a) = some (.bool false) := by
  rw [dNe_OI]
  simp
theorem encC_tup (e : List Int) (c : CalT) : ∃ a r, encC e c = .tuple [encI e, a, r] := by
  cases c with
  | none => exact ⟨_, _, rfl⟩
  | some ar => exact ⟨_, _, rfl⟩
section
variable {f w : List Int} (hf : isFord (encI f) = true) (hw : GoodW w)
include hf hw
theorem lr1 (s : Src) (e : List Int) (c : CalT) (ok : OkC e c) (tl : ∀ n : Nat, toldC e c n = tellW f w τ1 n) (k : Nat) (hk : k ≤ 100000) (x5 x6 x7 : Sl) :
    ∃ y5 y6, L1__law_right [.own (encS s), .dat (encI f), .dat (encI w), .dat (encC e c), .dat (.int (k : Int)), x5, x6, x7] = .nx [.own (encS s), .dat (encI f), .dat (encI w), .dat (encC e c), .dat (.int (k : Int)), y5, y6, x7] := by
  have r1 := r_lled (fne hf hw) hw k (by omega)
  have r2 := r_ltold e c k ok
  rw [tl, tell_one, encOI_len] at r2
  have r3 : k ≤ 60 → m_led [.dat (encI f), .dat (encI w), .dat (.int (k : Int))] = _ := fun h => r_led hf hw k h
  generalize goW f w (k : Int) 0 = R at r1 r2 r3
  have ne := dNe_pair R.1 R.2
  have nn := dNe_OIs (lenOf R)
  rw [encOI_len] at nn
  have el := encI_len R.1
  refine ⟨.dat (encI R.1), .dat (.bool R.2), ?_⟩
  generalize encI R.1 = ER at r1 ne el r3
  generalize encC e c = C at r2
  cases hb : R.2 with
  | true =>
    rw [hb] at r1 ne nn r2 r3
    simp only [if_true] at r2 nn
    by_cases c6 : k ≤ 60
    · have c6' : (k : Int) ≤ 60 := by omega
      simp [L1__law_right, -List.map_map, -List.map_drop, -List.map_take, -List.map_append, -List.map_dropLast, th_ok, th_ex, th_ite, e_bind, e_ret, e_opt, ts_ok, ts_ex, ts_ite, e_bindS, sq_nx, sq_rt, sq_ex, sq_bk, sq_ct, sq_ite, e_seqS, fin_nx, fin_rt, fin_ex, fin_ite, e_fnOf, wb_ok, wb_ex, wb_ite, vA1_b, e_vAnd, vO1_b, e_vOr, vN1_b, e_vNot, ch1_b, e_chM, e_toB, e_mAnd, e_mOr, e_mNot, e_mIte, e_iteS, lp_nx, lp_ct, lp_bk, lp_rt, lp_ex, lp_ite, forL_nil, forL_nm, e_forS, okArgs, isOwn, outs, nam, frz, look, lookAll, ap1, ap2, apA, un1, bin2, opA, isiM, retS, drpS, setS, setN, putS, put, unpS, asg, mCons, mNil, e_mTup, mt1_ok, e_mLst, ml1_ok, callM, argsOf, argOf, ownIx, Sk.wb, List.getElem?_cons_zero, List.getElem?_cons_succ, List.getElem?_nil, List.set_cons_zero, List.set_cons_succ, List.replicate_succ, List.replicate_zero, List.cons_append, List.nil_append, List.foldl_cons, List.foldl_nil, List.getD_cons_zero, List.getD_cons_succ, List.all_cons, List.all_nil, isiD, tyN, dLt, dLe, dGt, dGe, dAdd_i, dEq_i, dNe_i, dSub, iOp, dLen_t, dLen_l, e_seqM, sq1_l, sq1_t, e_partM, pa1_i, sliM, isN_none, notN_none, isN_int, notN_int, isN_bool, notN_bool, isN_str, notN_str, isN_list, notN_list, isN_tup, notN_tup, isN_dict, notN_dict, raiseS, mDat, mNew, e_callAt, cal_some, wbl_ok, wbl_ex, wbl_ite, e_lcM, e_rng1, e_rng2, e_enuM, en1_l, en1_t, e_zipM, zi1_l, dMnN_i, dMx_l, dMx_t, asg_nm, asg_tp, put, e_appM, isOwnL_l, e_apd, apo_l, notN_OI, isN_OI, dNe_n0, dTup_l, dTup_t, dNeg_i, dCutT_t, dCutL_l, dNe_t0, dEq_t0, dEq_l0, r1, r2, el, nn, c6', r3 c6, ne]
    · have c6' : ¬ (k : Int) ≤ 60 := by omega
      simp [L1__law_right, -List.map_map, -List.map_drop, -List.map_take, -List.map_append, -List.map_dropLast, th_ok, th_ex, th_ite, e_bind, e_ret, e_opt, ts_ok, ts_ex, ts_ite, e_bindS, sq_nx, sq_rt, sq_ex, sq_bk, sq_ct, sq_ite, e_seqS, fin_nx, fin_rt, fin_ex, fin_ite, e_fnOf, wb_ok, wb_ex, wb_ite, vA1_b, e_vAnd, vO1_b, e_vOr, vN1_b, e_vNot, ch1_b, e_chM, e_toB, e_mAnd, e_mOr, e_mNot, e_mIte, e_iteS, lp_nx, lp_ct, lp_bk, lp_rt, lp_ex, lp_ite, forL_nil, forL_nm, e_forS, okArgs, isOwn, outs, nam, frz, look, lookAll, ap1, ap2, apA, un1, bin2, opA, isiM, retS, drpS, setS, setN, putS, put, unpS, asg, mCons, mNil, e_mTup, mt1_ok, e_mLst, ml1_ok, callM, argsOf, argOf, ownIx, Sk.wb, List.getElem?_cons_zero, List.getElem?_cons_succ, List.getElem?_nil, List.set_cons_zero, List.set_cons_succ, List.replicate_succ, List.replicate_zero, List.cons_append, List.nil_append, List.foldl_cons, List.foldl_nil, List.getD_cons_zero, List.getD_cons_succ, List.all_cons, List.all_nil, isiD, tyN, dLt, dLe, dGt, dGe, dAdd_i, dEq_i, dNe_i, dSub, iOp, dLen_t, dLen_l, e_seqM, sq1_l, sq1_t, e_partM, pa1_i, sliM, isN_none, notN_none, isN_int, notN_int, isN_bool, notN_bool, isN_str, notN_str, isN_list, notN_list, isN_tup, notN_tup, isN_dict, notN_dict, raiseS, mDat, mNew, e_callAt, cal_some, wbl_ok, wbl_ex, wbl_ite, e_lcM, e_rng1, e_rng2, e_enuM, en1_l, en1_t, e_zipM, zi1_l, dMnN_i, dMx_l, dMx_t, asg_nm, asg_tp, put, e_appM, isOwnL_l, e_apd, apo_l, notN_OI, isN_OI, dNe_n0, dTup_l, dTup_t, dNeg_i, dCutT_t, dCutL_l, dNe_t0, dEq_t0, dEq_l0, r1, r2, el, nn, c6']
  | false =>
    rw [hb] at r1 ne nn r2 r3
    simp only [Bool.false_eq_true, if_false] at r2 nn
    by_cases c6 : k ≤ 60
    · have c6' : (k : Int) ≤ 60 := by omega
      simp [L1__law_right, -List.map_map, -List.map_drop, -List.map_take, -List.map_append, -List.map_dropLast, th_ok, th_ex, th_ite, e_bind, e_ret, e_opt, ts_ok, ts_ex, ts_ite, e_bindS, sq_nx, sq_rt, sq_ex, sq_bk, sq_ct, sq_ite, e_seqS, fin_nx, fin_rt, fin_ex, fin_ite, e_fnOf, wb_ok, wb_ex, wb_ite, vA1_b, e_vAnd, vO1_b, e_vOr, vN1_b, e_vNot, ch1_b, e_chM, e_toB, e_mAnd, e_mOr, e_mNot, e_mIte, e_iteS, lp_nx, lp_ct, lp_bk, lp_rt, lp_ex, lp_ite, forL_nil, forL_nm, e_forS, okArgs, isOwn, outs, nam, frz, look, lookAll, ap1, ap2, apA, un1, bin2, opA, isiM, retS, drpS, setS, setN, putS, put, unpS, asg, mCons, mNil, e_mTup, mt1_ok, e_mLst, ml1_ok, callM, argsOf, argOf, ownIx, Sk.wb, List.getElem?_cons_zero, List.getElem?_cons_succ, List.getElem?_nil, List.set_cons_zero, List.set_cons_succ, List.replicate_succ, List.replicate_zero, List.cons_append, List.nil_append, List.foldl_cons, List.foldl_nil, List.getD_cons_zero, List.getD_cons_succ, List.all_cons, List.all_nil, isiD, tyN, dLt, dLe, dGt, dGe, dAdd_i, dEq_i, dNe_i, dSub, iOp, dLen_t, dLen_l, e_seqM, sq1_l, sq1_t, e_partM, pa1_i, sliM, isN_none, notN_none, isN_int, notN_int, isN_bool, notN_bool, isN_str, notN_str, isN_list, notN_list, isN_tup, notN_tup, isN_dict, notN_dict, raiseS, mDat, mNew, e_callAt, cal_some, wbl_ok, wbl_ex, wbl_ite, e_lcM, e_rng1, e_rng2, e_enuM, en1_l, en1_t, e_zipM, zi1_l, dMnN_i, dMx_l, dMx_t, asg_nm, asg_tp, put, e_appM, isOwnL_l, e_apd, apo_l, notN_OI, isN_OI, dNe_n0, dTup_l, dTup_t, dNeg_i, dCutT_t, dCutL_l, dNe_t0, dEq_t0, dEq_l0, r1, r2, el, nn, c6', r3 c6, ne]
    · have c6' : ¬ (k : Int) ≤ 60 := by omega
      simp [L1__law_right, -List.map_map, -List.map_drop, -List.map_take, -List.map_append, -List.map_dropLast, th_ok, th_ex, th_ite, e_bind, e_ret, e_opt, ts_ok, ts_ex, ts_ite, e_bindS, sq_nx, sq_rt, sq_ex, sq_bk, sq_ct, sq_ite, e_seqS, fin_nx, fin_rt, fin_ex, fin_ite, e_fnOf, wb_ok, wb_ex, wb_ite, vA1_b, e_vAnd, vO1_b, e_vOr, vN1_b, e_vNot, ch1_b, e_chM, e_toB, e_mAnd, e_mOr, e_mNot, e_mIte, e_iteS, lp_nx, lp_ct, lp_bk, lp_rt, lp_ex, lp_ite, forL_nil, forL_nm, e_forS, okArgs, isOwn, outs, nam, frz, look, lookAll, ap1, ap2, apA, un1, bin2, opA, isiM, retS, drpS, setS, setN, putS, put, unpS, asg, mCons, mNil, e_mTup, mt1_ok, e_mLst, ml1_ok, callM, argsOf, argOf, ownIx, Sk.wb, List.getElem?_cons_zero, List.getElem?_cons_succ, List.getElem?_nil, List.set_cons_zero, List.set_cons_succ, List.replicate_succ, List.replicate_zero, List.cons_append, List.nil_append, List.foldl_cons, List.foldl_nil, List.getD_cons_zero, List.getD_cons_succ, List.all_cons, List.all_nil, isiD, tyN, dLt, dLe, dGt, dGe, dAdd_i, dEq_i, dNe_i, dSub, iOp, dLen_t, dLen_l, e_seqM, sq1_l, sq1_t, e_partM, pa1_i, sliM, isN_none, notN_none, isN_int, notN_int, isN_bool, notN_bool, isN_str, notN_str, isN_list, notN_list, isN_tup, notN_tup, isN_dict, notN_dict, raiseS, mDat, mNew, e_callAt, cal_some, wbl_ok, wbl_ex, wbl_ite, e_lcM, e_rng1, e_rng2, e_enuM, en1_l, en1_t, e_zipM, zi1_l, dMnN_i, dMx_l, dMx_t, asg_nm, asg_tp, put, e_appM, isOwnL_l, e_apd, apo_l, notN_OI, isN_OI, dNe_n0, dTup_l, dTup_t, dNeg_i, dCutT_t, dCutL_l, dNe_t0, dEq_t0, dEq_l0, r1, r2, el, nn, c6']
theorem lr2 (s : Src) (e : List Int) (c : CalT) (ok : OkC e c) (tl : ∀ n : Nat, toldC e c n = tellW f w τ1 n) (k : Nat) (hk : (k : Int) ≤ 1000000000000000000000000000000) (x5 x6 x7 : Sl) :
    ∃ y7, L2__law_right [.own (encS s), .dat (encI f), .dat (encI w), .dat (encC e c), .dat (.int (k : Int)), x5, x6, x7] = .nx [.own (encS s), .dat (encI f), .dat (encI w), .dat (encC e c), .dat (.int (k : Int)), x5, x6, y7] := by
  have r1 := r_lfar (fne hf hw) (fl8 hf hw) hw k hk
  have r2 := r_ltold e c k ok
  rw [tl] at r2
  have r3 := r_led_steps hf hw k hk
  have nn := dNe_OIs (tellW f w τ1 k)
  refine ⟨.dat (encOI (tellW f w τ1 k)), ?_⟩
  generalize encOI (tellW f w τ1 k) = T at r1 r2 r3 nn
  generalize encC e c = C at r2
  simp [L2__law_right, -List.map_map, -List.map_drop, -List.map_take, -List.map_append, -List.map_dropLast, th_ok, th_ex, th_ite, e_bind, e_ret, e_opt, ts_ok, ts_ex, ts_ite, e_bindS, sq_nx, sq_rt, sq_ex, sq_bk, sq_ct, sq_ite, e_seqS, fin_nx, fin_rt, fin_ex, fin_ite, e_fnOf, wb_ok, wb_ex, wb_ite, vA1_b, e_vAnd, vO1_b, e_vOr, vN1_b, e_vNot, ch1_b, e_chM, e_toB, e_mAnd, e_mOr, e_mNot, e_mIte, e_iteS, lp_nx, lp_ct, lp_bk, lp_rt, lp_ex, lp_ite, forL_nil, forL_nm, e_forS, okArgs, isOwn, outs, nam, frz, look, lookAll, ap1, ap2, apA, un1, bin2, opA, isiM, retS, drpS, setS, setN, putS, put, unpS, asg, mCons, mNil, e_mTup, mt1_ok, e_mLst, ml1_ok, callM, argsOf, argOf, ownIx, Sk.wb, List.getElem?_cons_zero, List.getElem?_cons_succ, List.getElem?_nil, List.set_cons_zero, List.set_cons_succ, List.replicate_succ, List.replicate_zero, List.cons_append, List.nil_append, List.foldl_cons, List.foldl_nil, List.getD_cons_zero, List.getD_cons_succ, List.all_cons, List.all_nil, isiD, tyN, dLt, dLe, dGt, dGe, dAdd_i, dEq_i, dNe_i, dSub, iOp, dLen_t, dLen_l, e_seqM, sq1_l, sq1_t, e_partM, pa1_i, sliM, isN_none, notN_none, isN_int, notN_int, isN_bool, notN_bool, isN_str, notN_str, isN_list, notN_list, isN_tup, notN_tup, isN_dict, notN_dict, raiseS, mDat, mNew, e_callAt, cal_some, wbl_ok, wbl_ex, wbl_ite, e_lcM, e_rng1, e_rng2, e_enuM, en1_l, en1_t, e_zipM, zi1_l, dMnN_i, dMx_l, dMx_t, asg_nm, asg_tp, put, e_appM, isOwnL_l, e_apd, apo_l, notN_OI, isN_OI, dNe_n0, dTup_l, dTup_t, dNeg_i, dCutT_t, dCutL_l, dNe_t0, dEq_t0, dEq_l0, r1, r2, r3, nn]
theorem r_lright (s : Src) (hs : OkS s) : ∃ s', OkS s' ∧ m__law_right [.own (encS s), .dat (encI f), .dat (encI w)] = .ok (.bool true) [.own (encS s'), .dat (encI f), .dat (encI w)] := by
  obtain ⟨ps, j, W, E, hl, rc⟩ := r_led_calendar hf hw
  obtain ⟨ok, ls, sz, tl⟩ := calW_ok (fne hf hw) hw W hl E τ1 (fun _ _ => by unfold τ1; omega)
  generalize (calW f w τ1 ps j).1 = e at rc ok ls sz tl
  generalize (calW f w τ1 ps j).2 = c at rc ok ls sz tl
  have rl := r_lleast e c ok ls
  obtain ⟨a, r, ec⟩ := encC_tup e c
  have i0 : dIx (encC e c) (.int 0) = some (encI e) := by rw [ec]; rfl
  have l3 : dLen [encC e c] = some (.int 3) := by rw [ec]; rfl
  have it : isiD "tuple" (encC e c) = true := by rw [ec]; rfl
  have el := encI_len e
  have sm : Sml 0 ((e.length : Int) + 40) := sml (by omega)
  obtain ⟨st1, f1, y4, y5, y6, rfl⟩ := for_rng (i := 4) (body := L1__law_right) 0 (e.length + 40) (fun k st => ∃ y4 y5 y6, st = [.own (encS s), .dat (encI f), .dat (encI w), .dat (encC e c), y4, y5, y6, .un]) (fun k st hk h => by
    obtain ⟨y4, y5, y6, rfl⟩ := h
    obtain ⟨z5, z6, q⟩ := lr1 hf hw s e c ok tl k (by omega) y5 y6 .un
    refine ⟨[.own (encS s), .dat (encI f), .dat (encI w), .dat (encC e c), .dat (.int (k : Int)), z5, z6, .un], ?_, _, _, _, rfl⟩
    rw [Int.zero_add]
    exact q) (st := [.own (encS s), .dat (encI f), .dat (encI w), .dat (encC e c), .un, .un, .un, .un]) ⟨_, _, _, rfl⟩
  have el40 : ((e.length : Int) + 40).toNat = e.length + 40 := by omega
  -- the two far widths
  have d1 := r_draw s 99 hs (by omega) (by omega)
  have o1 : OkS (drS s 99) := drS_ok hs
  have a0 := drV_0 (s := s) (many := 99) (by omega)
  have a1 := drV_lt (s := s) (many := 99) (by omega)
  generalize drV s 99 = v1 at d1 a0 a1
  generalize drS s 99 = s1 at d1 o1
  have d2 := r_draw s1 99 o1 (by omega) (by omega)
  have o2 : OkS (drS s1 99) := drS_ok o1
  have b0 := drV_0 (s := s1) (many := 99) (by omega)
  have b1 := drV_lt (s := s1) (many := 99) (by omega)
  generalize drV s1 99 = v2 at d2 b0 b1
  generalize drS s1 99 = s2 at d2 o2
  have p30 : dPow (.int 10) (.int 30) = some (.int 1000000000000000000000000000000) := by simp [dPow, iOp, chk]
  obtain ⟨n1, hn1⟩ := Int.eq_ofNat_of_zero_le a0
  obtain ⟨n2, hn2⟩ := Int.eq_ofNat_of_zero_le (show 0 ≤ 1000000000000000000000000000000 - v2 by omega)
  obtain ⟨y7, g1⟩ := lr2 hf hw s2 e c ok tl n1 (by omega) y5 y6 .un
  obtain ⟨z7, g2⟩ := lr2 hf hw s2 e c ok tl n2 (by omega) y5 y6 y7
  rw [← hn1] at g1
  rw [← hn2] at g2
  have f2 : forL (.nm 4) L2__law_right [] [.int v1, .int (1000000000000000000000000000000 - v2)] [.own (encS s2), .dat (encI f), .dat (encI w), .dat (encC e c), y4, y5, y6, .un] = .nx [.own (encS s2), .dat (encI f), .dat (encI w), .dat (encC e c), .dat (.int (1000000000000000000000000000000 - v2)), y5, y6, z7] := by
    rw [forL_nm]
    show (L2__law_right [.own (encS s2), .dat (encI f), .dat (encI w), .dat (encC e c), .dat (.int v1), y5, y6, .un]).lp _ = _
    rw [g1, lp_nx, forL_nm]
    show (L2__law_right [.own (encS s2), .dat (encI f), .dat (encI w), .dat (encC e c), .dat (.int (1000000000000000000000000000000 - v2)), y5, y6, y7]).lp _ = _
    rw [g2, lp_nx, forL_nil]
  -- where who is stuck stands
  have r3 : m__law_led [.dat (encI f), .dat (encI w), .dat (.int 300)] = .ok (.tuple [encI (goW f w 300 0).1, .bool (goW f w 300 0).2]) [.dat (encI f), .dat (encI w), .dat (.int 300)] := r_lled (fne hf hw) hw 300 (by omega)
  obtain ⟨ps2, j2, W2, E2, hl2, rs⟩ := r_stuck_at hf hw
  have ss := stuck_sum hf hw W2 E2 hl2
  have sI : dSum [encI (goW f w 300 0).1] = some (.int (goW f w 300 0).1.sum) := by
    show (intsOf ((goW f w 300 0).1.map .int)).map _ = _
    rw [ints_int]
    rfl
  generalize goW f w 300 0 = R at r3 ss sI
  refine ⟨s2, o2, ?_⟩
  generalize encI e = EE at i0 el
  generalize hE : encI R.1 = ER at r3 sI
  generalize encC e c = C at *
  subst ec
  cases j2 with
  | none =>
    obtain ⟨q1, q2⟩ := ss
    rw [q1] at r3
    rw [q2] at sI
    simp only at rs
    simp [m__law_right, b__law_right, -List.map_map, -List.map_drop, -List.map_take, -List.map_append, -List.map_dropLast, th_ok, th_ex, th_ite, e_bind, e_ret, e_opt, ts_ok, ts_ex, ts_ite, e_bindS, sq_nx, sq_rt, sq_ex, sq_bk, sq_ct, sq_ite, e_seqS, fin_nx, fin_rt, fin_ex, fin_ite, e_fnOf, wb_ok, wb_ex, wb_ite, vA1_b, e_vAnd, vO1_b, e_vOr, vN1_b, e_vNot, ch1_b, e_chM, e_toB, e_mAnd, e_mOr, e_mNot, e_mIte, e_iteS, lp_nx, lp_ct, lp_bk, lp_rt, lp_ex, lp_ite, forL_nil, e_forS, okArgs, isOwn, outs, nam, frz, look, lookAll, ap1, ap2, apA, un1, bin2, opA, isiM, retS, drpS, setS, setN, putS, put, unpS, asg, mCons, mNil, e_mTup, mt1_ok, e_mLst, ml1_ok, callM, argsOf, argOf, ownIx, Sk.wb, List.getElem?_cons_zero, List.getElem?_cons_succ, List.getElem?_nil, List.set_cons_zero, List.set_cons_succ, List.replicate_zero, List.cons_append, List.nil_append, List.foldl_cons, List.foldl_nil, List.getD_cons_zero, List.getD_cons_succ, List.all_cons, List.all_nil, isiD, tyN, dLt, dLe, dGt, dGe, dAdd_i, dEq_i, dNe_i, dSub, iOp, dLen_t, dLen_l, e_seqM, sq1_l, sq1_t, e_partM, pa1_i, sliM, isN_none, notN_none, isN_int, notN_int, isN_bool, notN_bool, isN_str, notN_str, isN_list, notN_list, isN_tup, notN_tup, isN_dict, notN_dict, raiseS, mDat, mNew, e_callAt, cal_some, wbl_ok, wbl_ex, wbl_ite, e_lcM, e_rng1, e_rng2, e_enuM, en1_l, en1_t, e_zipM, zi1_l, dMnN_i, dMx_l, dMx_t, asg_nm, asg_tp, put, e_appM, isOwnL_l, e_apd, apo_l, notN_OI, isN_OI, dNe_n0, dTup_l, dTup_t, dNeg_i, dCutT_t, dCutL_l, dNe_t0, dEq_t0, dEq_l0, List.replicate_succ, rc, l3, rl, i0, el, rn1_ok sm, el40, f1, d1, d2, p30, f2, r3, rs, sI]
  | some j =>
    have q1 : R.2 = true := ss
    rw [q1] at r3
    simp only at rs
    have nn : dEq .none .none = some (.bool true) := rfl
    simp [m__law_right, b__law_right, -List.map_map, -List.map_drop, -List.map_take, -List.map_append, -List.map_dropLast, th_ok, th_ex, th_ite, e_bind, e_ret, e_opt, ts_ok, ts_ex, ts_ite, e_bindS, sq_nx, sq_rt, sq_ex, sq_bk, sq_ct, sq_ite, e_seqS, fin_nx, fin_rt, fin_ex, fin_ite, e_fnOf, wb_ok, wb_ex, wb_ite, vA1_b, e_vAnd, vO1_b, e_vOr, vN1_b, e_vNot, ch1_b, e_chM, e_toB, e_mAnd, e_mOr, e_mNot, e_mIte, e_iteS, lp_nx, lp_ct, lp_bk, lp_rt, lp_ex, lp_ite, forL_nil, e_forS, okArgs, isOwn, outs, nam, frz, look, lookAll, ap1, ap2, apA, un1, bin2, opA, isiM, retS, drpS, setS, setN, putS, put, unpS, asg, mCons, mNil, e_mTup, mt1_ok, e_mLst, ml1_ok, callM, argsOf, argOf, ownIx, Sk.wb, List.getElem?_cons_zero, List.getElem?_cons_succ, List.getElem?_nil, List.set_cons_zero, List.set_cons_succ, List.replicate_zero, List.cons_append, List.nil_append, List.foldl_cons, List.foldl_nil, List.getD_cons_zero, List.getD_cons_succ, List.all_cons, List.all_nil, isiD, tyN, dLt, dLe, dGt, dGe, dAdd_i, dEq_i, dNe_i, dSub, iOp, dLen_t, dLen_l, e_seqM, sq1_l, sq1_t, e_partM, pa1_i, sliM, isN_none, notN_none, isN_int, notN_int, isN_bool, notN_bool, isN_str, notN_str, isN_list, notN_list, isN_tup, notN_tup, isN_dict, notN_dict, raiseS, mDat, mNew, e_callAt, cal_some, wbl_ok, wbl_ex, wbl_ite, e_lcM, e_rng1, e_rng2, e_enuM, en1_l, en1_t, e_zipM, zi1_l, dMnN_i, dMx_l, dMx_t, asg_nm, asg_tp, put, e_appM, isOwnL_l, e_apd, apo_l, notN_OI, isN_OI, dNe_n0, dTup_l, dTup_t, dNeg_i, dCutT_t, dCutL_l, dNe_t0, dEq_t0, dEq_l0, List.replicate_succ, rc, l3, rl, i0, el, rn1_ok sm, el40, f1, d1, d2, p30, f2, r3, rs, nn]
end
end Zk07
set_option maxHeartbeats 1000000
namespace Zk07
open PySem PySem.Spec PyProof.Rows L2 Sk LamX
/-! ways reckoned -/
def posW (f w : List Int) : Nat → Int
  | 0 => 0
  | i + 1 => posW f w i + (wideL f w (posW f w i)).getD 0
def wayN (f w : List Int) (n : Nat) : List Int := (List.range n).map (posW f w)
theorem way_at {f w ps : List Int} (W : Way f w ps) : ∀ i, i < ps.length → at' ps i = posW f w i
  | 0, _ => W.z
  | i + 1, h => by
    obtain ⟨l, e1, e2⟩ := W.st i h
    have ih := way_at W i (by omega)
    rw [e2, ih]
    show _ = posW f w i + (wideL f w (posW f w i)).getD 0
    rw [← ih, e1]
    rfl
theorem way_eq {f w ps : List Int} (W : Way f w ps) : ps = wayN f w ps.length := by
  apply List.ext_getElem?
  intro i
  by_cases h : i < ps.length
  · rw [at_get h, way_at W i h]
    unfold wayN
    rw [List.getElem?_map, List.getElem?_range h]
    rfl
  · rw [List.getElem?_eq_none (by omega), List.getElem?_eq_none (by unfold wayN; simp; omega)]
def endB (f w ps : List Int) : Option Nat → Bool
  | none => (wideL f w (at' ps (lastI ps))).isNone
  | some j => decide (1 ≤ j) && decide (j < lastI ps) && decide (resid f (at' ps j) = resid f (at' ps (lastI ps)))
def okN (f w : List Int) (n : Nat) : Bool := (List.range (n - 1)).all fun i => (wideL f w (posW f w i)).isSome
def all10 (f w : List Int) (P : List Int → Option Nat → Bool) : Bool := (List.range 11).all fun n => !okN f w n || ((!endB f w (wayN f w n) none || P (wayN f w n) none) && (List.range 10).all fun j => !endB f w (wayN f w n) (some j) || P (wayN f w n) (some j))
theorem of_all {f w ps : List Int} {j : Option Nat} {P : List Int → Option Nat → Bool} (h : all10 f w P = true) (W : Way f w ps) (E : WayEnd f w ps j) (hl : ps.length ≤ 10) : P ps j = true := by
  have h1 := List.all_eq_true.mp h ps.length (List.mem_range.mpr (by omega))
  have ok : okN f w ps.length = true := List.all_eq_true.mpr fun i hi => by
    have hi := List.mem_range.mp hi
    obtain ⟨l, e1, _⟩ := W.st i (by omega)
    rw [way_at W i (by omega)] at e1
    rw [e1]; rfl
  rw [ok, ← way_eq W] at h1
  simp only [Bool.not_true, Bool.false_or, Bool.and_eq_true] at h1
  cases j with
  | none =>
    have e : endB f w ps none = true := by
      show (wideL f w (at' ps (lastI ps))).isNone = true
      rw [show wideL f w (at' ps (lastI ps)) = none from E]; rfl
    have := h1.1
    rw [e] at this
    simpa using this
  | some j =>
    obtain ⟨a, b, c⟩ := E
    have e : endB f w ps (some j) = true := by simp [endB, a, b, c]
    have := List.all_eq_true.mp h1.2 j (List.mem_range.mpr (by unfold lastI at b; omega))
    rw [e] at this
    simpa using this
section
variable {f w : List Int}
theorem led_is (n : Nat) (xs : List Int) (b : Bool) (hf : isFord (encI f) = true) (hw : GoodW w) (hn : n ≤ 60) (h : goW f w (n : Int) 0 = (xs, b)) : m_led [.dat (encI f), .dat (encI w), .dat (.int (n : Int))] = .ok (.tuple [encI xs, .bool b]) [.dat (encI f), .dat (encI w), .dat (.int (n : Int))] := by
  rw [r_led hf hw n hn, h]
theorem cal_is (e : List Int) (c : CalT) (hf : isFord (encI f) = true) (hw : GoodW w) (h : all10 f w (fun ps j => decide (calW f w τ1 ps j = (e, c))) = true) : m_led_calendar [.dat (encI f), .dat (encI w)] = .ok (encC e c) [.dat (encI f), .dat (encI w)] ∧ ∀ n : Nat, tellW f w τ1 n = toldC e c n := by
  obtain ⟨ps, j, W, E, hl, rc⟩ := r_led_calendar hf hw
  obtain ⟨_, _, _, tl⟩ := calW_ok (fne hf hw) hw W hl E τ1 (fun _ _ => by unfold τ1; omega)
  have := of_all h W E hl
  simp only [decide_eq_true_eq] at this
  rw [this] at rc tl
  exact ⟨rc, fun n => (tl n).symm⟩
theorem stuck_is (x : Option Int) (hf : isFord (encI f) = true) (hw : GoodW w) (h : all10 f w (fun ps j => match j with
    | none => decide (x = some (at' ps (lastI ps)))
    | some _ => decide (x = none)) = true) : m_stuck_at [.dat (encI f), .dat (encI w)] = .ok (encOI x) [.dat (encI f), .dat (encI w)] := by
  obtain ⟨ps, j, W, E, hl, rc⟩ := r_stuck_at hf hw
  have := of_all h W E hl
  rw [rc]
  cases j with
  | none => simp only [decide_eq_true_eq] at this; rw [this]; rfl
  | some j => simp only [decide_eq_true_eq] at this; rw [this]; rfl
end
theorem gw (w : List Int) (h1 : w ≠ []) (h2 : w.length ≤ 6) (h3 : w.all (fun l => decide (1 ≤ l) && decide (l ≤ 6)) = true) (h4 : w.Nodup) : GoodW w := ⟨h1, h2, fun l hl => by
  have := List.all_eq_true.mp h3 l hl
  simpa using this, h4⟩
theorem gw1 : GoodW [1] := gw _ (by decide) (by decide) (by decide) (by decide)
theorem gw2 : GoodW [2] := gw _ (by decide) (by decide) (by decide) (by decide)
theorem gw3 : GoodW [3] := gw _ (by decide) (by decide) (by decide) (by decide)
theorem gw21 : GoodW [2, 1] := gw _ (by decide) (by decide) (by decide) (by decide)
theorem gw12 : GoodW [1, 2] := gw _ (by decide) (by decide) (by decide) (by decide)
theorem gw61 : GoodW [6, 1] := gw _ (by decide) (by decide) (by decide) (by decide)
theorem gw16 : GoodW [1, 6] := gw _ (by decide) (by decide) (by decide) (by decide)
theorem gw6 : GoodW [6, 5, 4, 3, 2, 1] := gw _ (by decide) (by decide) (by decide) (by decide)
theorem fd110 : isFord (encI [1, 1, 0]) = true := by decide +kernel
theorem fd1 : isFord (encI [1]) = true := by decide +kernel
theorem fd0 : isFord (encI [0]) = true := by decide +kernel
theorem ne_led (xs : List Int) (b : Bool) : dNe (.tuple [.tuple (xs.map .int), .bool b]) (.tuple [.tuple (xs.map .int), .bool b]) = some (.bool false) := dNe_pair xs b
theorem r_lwritten : m__law_written_right [] = .ok (.bool true) [] := by
  have l1 : m_led [.dat (.tuple [.int 1, .int 1, .int 0]), .dat (.tuple [.int 2]), .dat (.int 5)] = .ok (.tuple [.tuple [.int 2, .int 2, .int 2], .bool true]) [.dat (.tuple [.int 1, .int 1, .int 0]), .dat (.tuple [.int 2]), .dat (.int 5)] := led_is 5 [2, 2, 2] true fd110 gw2 (by omega) (by decide +kernel)
  have l2 : m_led [.dat (.tuple [.int 1, .int 1, .int 0]), .dat (.tuple [.int 2]), .dat (.int 6)] = .ok (.tuple [.tuple [.int 2, .int 2], .bool false]) [.dat (.tuple [.int 1, .int 1, .int 0]), .dat (.tuple [.int 2]), .dat (.int 6)] := led_is 6 [2, 2] false fd110 gw2 (by omega) (by decide +kernel)
  have l3 : m_led [.dat (.tuple [.int 1]), .dat (.tuple [.int 6, .int 1]), .dat (.int 7)] = .ok (.tuple [.tuple [.int 6, .int 6], .bool true]) [.dat (.tuple [.int 1]), .dat (.tuple [.int 6, .int 1]), .dat (.int 7)] := led_is 7 [6, 6] true fd1 gw61 (by omega) (by decide +kernel)
  have l4 : m_led [.dat (.tuple [.int 1]), .dat (.tuple [.int 1, .int 6]), .dat (.int 7)] = .ok (.tuple [.tuple [.int 1, .int 1, .int 1, .int 1, .int 1, .int 1, .int 1, .int 1], .bool true]) [.dat (.tuple [.int 1]), .dat (.tuple [.int 1, .int 6]), .dat (.int 7)] := led_is 7 [1, 1, 1, 1, 1, 1, 1, 1] true fd1 gw16 (by omega) (by decide +kernel)
  have l5 : m_led [.dat (.tuple [.int 0]), .dat (.tuple [.int 2]), .dat (.int 0)] = .ok (.tuple [.tuple [.int 2], .bool true]) [.dat (.tuple [.int 0]), .dat (.tuple [.int 2]), .dat (.int 0)] := led_is 0 [2] true fd0 gw2 (by omega) (by decide +kernel)
  obtain ⟨c1, t1⟩ := cal_is (f := [1, 1, 0]) (w := [2, 1]) [1, 1, 2] (some ([2, 3, 3], 2)) fd110 gw21 (by decide +kernel)
  obtain ⟨c2, t2⟩ := cal_is (f := [1, 1, 0]) (w := [1, 2]) [] (some ([1, 2, 3], 2)) fd110 gw12 (by decide +kernel)
  obtain ⟨c3, t3⟩ := cal_is (f := [1, 1, 0]) (w := [1]) [1, 2, 3] none fd110 gw1 (by decide +kernel)
  obtain ⟨c4, t4⟩ := cal_is (f := [1, 1, 0]) (w := [2]) [1, 1, 2, 2, 3, 3] none fd110 gw2 (by decide +kernel)
  have k1 : m_led_calendar [.dat (.tuple [.int 1, .int 1, .int 0]), .dat (.tuple [.int 2, .int 1])] = .ok (.tuple [(.tuple [.int 1, .int 1, .int 2]), (.tuple [.int 2, .int 3, .int 3]), .int 2]) [.dat (.tuple [.int 1, .int 1, .int 0]), .dat (.tuple [.int 2, .int 1])] := c1
  have k2 : m_led_calendar [.dat (.tuple [.int 1, .int 1, .int 0]), .dat (.tuple [.int 1, .int 2])] = .ok (.tuple [.tuple [], (.tuple [.int 1, .int 2, .int 3]), .int 2]) [.dat (.tuple [.int 1, .int 1, .int 0]), .dat (.tuple [.int 1, .int 2])] := c2
  have k3 : m_led_calendar [.dat (.tuple [.int 1, .int 1, .int 0]), .dat (.tuple [.int 1])] = .ok (.tuple [(.tuple [.int 1, .int 2, .int 3]), .tuple [.none], .int 0]) [.dat (.tuple [.int 1, .int 1, .int 0]), .dat (.tuple [.int 1])] := c3
  have s1 : m_led_steps [.dat (.tuple [.int 1, .int 1, .int 0]), .dat (.tuple [.int 2, .int 1]), .dat (.int 1000000000000000000000000000000)] = .ok (.int 666666666666666666666666666667) [.dat (.tuple [.int 1, .int 1, .int 0]), .dat (.tuple [.int 2, .int 1]), .dat (.int 1000000000000000000000000000000)] := by
    have := r_led_steps fd110 gw21 1000000000000000000000000000000 (by omega)
    rw [t1, show toldC [1, 1, 2] (some ([2, 3, 3], 2)) 1000000000000000000000000000000 = some 666666666666666666666666666667 by decide +kernel] at this
    exact this
  have s2 : m_led_steps [.dat (.tuple [.int 1, .int 1, .int 0]), .dat (.tuple [.int 2]), .dat (.int 1000000000000000000000000000000)] = .ok .none [.dat (.tuple [.int 1, .int 1, .int 0]), .dat (.tuple [.int 2]), .dat (.int 1000000000000000000000000000000)] := by
    have := r_led_steps fd110 gw2 1000000000000000000000000000000 (by omega)
    rw [t4, show toldC [1, 1, 2, 2, 3, 3] none 1000000000000000000000000000000 = none by decide +kernel] at this
    exact this
  have u1 : m_stuck_at [.dat (.tuple [.int 1, .int 1, .int 0]), .dat (.tuple [.int 1])] = .ok (.int 2) [.dat (.tuple [.int 1, .int 1, .int 0]), .dat (.tuple [.int 1])] := stuck_is (f := [1, 1, 0]) (w := [1]) (some 2) fd110 gw1 (by decide +kernel)
  have u2 : m_stuck_at [.dat (.tuple [.int 1, .int 1, .int 0]), .dat (.tuple [.int 2])] = .ok (.int 4) [.dat (.tuple [.int 1, .int 1, .int 0]), .dat (.tuple [.int 2])] := stuck_is (f := [1, 1, 0]) (w := [2]) (some 4) fd110 gw2 (by decide +kernel)
  have u3 : m_stuck_at [.dat (.tuple [.int 1, .int 1, .int 0]), .dat (.tuple [.int 2, .int 1])] = .ok (.none) [.dat (.tuple [.int 1, .int 1, .int 0]), .dat (.tuple [.int 2, .int 1])] := stuck_is (f := [1, 1, 0]) (w := [2, 1]) (none) fd110 gw21 (by decide +kernel)
  have u4 : m_stuck_at [.dat (.tuple [.int 1, .int 1, .int 0]), .dat (.tuple [.int 3])] = .ok (.int 0) [.dat (.tuple [.int 1, .int 1, .int 0]), .dat (.tuple [.int 3])] := stuck_is (f := [1, 1, 0]) (w := [3]) (some 0) fd110 gw3 (by decide +kernel)
  have w1 : m_is_will [.dat (.tuple [.int 2, .int 1])] = .ok (.bool true) [.dat (.tuple [.int 2, .int 1])] := by
    have := r_is_will (encI [2, 1])
    rw [will_of gw21] at this
    exact this
  have w2 : m_is_will [.dat (.tuple [.int 6, .int 5, .int 4, .int 3, .int 2, .int 1])] = .ok (.bool true) [.dat (.tuple [.int 6, .int 5, .int 4, .int 3, .int 2, .int 1])] := by
    have := r_is_will (encI [6, 5, 4, 3, 2, 1])
    rw [will_of gw6] at this
    exact this
  have p30 : dPow (.int 10) (.int 30) = some (.int 1000000000000000000000000000000) := by simp [dPow, iOp, chk]
  have m1 : dMul (.int 2) (.int 1000000000000000000000000000000) = some (.int 2000000000000000000000000000000) := dMul_l (by omega)
  have d1 : dDiv (.int 2000000000000000000000000000001) (.int 3) = some (.int 666666666666666666666666666667) := dDiv_i (by omega) (by omega)
  have n1 : dNe (.tuple [(.tuple [.int 2, .int 2, .int 2]), .bool true]) (.tuple [(.tuple [.int 2, .int 2, .int 2]), .bool true]) = some (.bool false) := by kernel_rfl
  have n2 : dNe (.tuple [(.tuple [.int 2, .int 2]), .bool false]) (.tuple [(.tuple [.int 2, .int 2]), .bool false]) = some (.bool false) := by kernel_rfl
  have n3 : dNe (.tuple [(.tuple [.int 1, .int 1, .int 2]), (.tuple [.int 2, .int 3, .int 3]), .int 2]) (.tuple [(.tuple [.int 1, .int 1, .int 2]), (.tuple [.int 2, .int 3, .int 3]), .int 2]) = some (.bool false) := by kernel_rfl
  have n4 : dNe (.tuple [.tuple [], (.tuple [.int 1, .int 2, .int 3]), .int 2]) (.tuple [.tuple [], (.tuple [.int 1, .int 2, .int 3]), .int 2]) = some (.bool false) := by kernel_rfl
  have n5 : dNe (.tuple [(.tuple [.int 1, .int 2, .int 3]), .tuple [.none], .int 0]) (.tuple [(.tuple [.int 1, .int 2, .int 3]), .tuple [.none], .int 0]) = some (.bool false) := by kernel_rfl
  have n6 : dNe (.list [.int 2, .int 4, .none, .int 0]) (.list [.int 2, .int 4, .none, .int 0]) = some (.bool false) := by kernel_rfl
  have n7 : dNe (.tuple [(.tuple [.int 6, .int 6]), .bool true]) (.tuple [(.tuple [.int 6, .int 6]), .bool true]) = some (.bool false) := by kernel_rfl
  have n8 : dNe (.tuple [.int 1, .int 1, .int 1, .int 1, .int 1, .int 1, .int 1, .int 1]) (.tuple [.int 1, .int 1, .int 1, .int 1, .int 1, .int 1, .int 1, .int 1]) = some (.bool false) := by kernel_rfl
  have n9 : dEq (.tuple [(.tuple [.int 2]), .bool true]) (.tuple [(.tuple [.int 2]), .bool true]) = some (.bool true) := by kernel_rfl
  have rp : dRepT (.tuple [.int 1]) (.int 8) = some (.tuple [.int 1, .int 1, .int 1, .int 1, .int 1, .int 1, .int 1, .int 1]) := rfl
  have ix : dIx (.tuple [(.tuple [.int 1, .int 1, .int 1, .int 1, .int 1, .int 1, .int 1, .int 1]), .bool true]) (.int 0) = some (.tuple [.int 1, .int 1, .int 1, .int 1, .int 1, .int 1, .int 1, .int 1]) := rfl
  have lc := lc_map (i := 2) (fe := C1__law_written_right) (g := fun d => match d with | .tuple [.int 1] => .int 2 | .tuple [.int 2] => .int 4 | .tuple [.int 2, .int 1] => .none | _ => .int 0) (ds := [(.tuple [.int 1]), (.tuple [.int 2]), (.tuple [.int 2, .int 1]), (.tuple [.int 3])]) (st := [.dat (.tuple [.int 1, .int 1, .int 0]), .dat (.int 1000000000000000000000000000000), .un]) (by simp) (by simp; unfold cap; omega) (fun d hd => by
    simp at hd
    rcases hd with rfl | rfl | rfl | rfl <;> simp [C1__law_written_right, -List.map_map, -List.map_drop, -List.map_take, -List.map_append, -List.map_dropLast, th_ok, th_ex, th_ite, e_bind, e_ret, e_opt, ts_ok, ts_ex, ts_ite, e_bindS, sq_nx, sq_rt, sq_ex, sq_bk, sq_ct, sq_ite, e_seqS, fin_nx, fin_rt, fin_ex, fin_ite, e_fnOf, wb_ok, wb_ex, wb_ite, vA1_b, e_vAnd, vO1_b, e_vOr, vN1_b, e_vNot, ch1_b, e_chM, e_toB, e_mAnd, e_mOr, e_mNot, e_mIte, e_iteS, lp_nx, lp_ct, lp_bk, lp_rt, lp_ex, lp_ite, forL_nil, forL_nm, e_forS, okArgs, isOwn, outs, nam, frz, look, lookAll, ap1, ap2, apA, un1, bin2, opA, isiM, retS, drpS, setS, setN, putS, put, unpS, asg, mCons, mNil, e_mTup, mt1_ok, e_mLst, ml1_ok, callM, argsOf, argOf, ownIx, Sk.wb, List.getElem?_cons_zero, List.getElem?_cons_succ, List.getElem?_nil, List.set_cons_zero, List.set_cons_succ, List.replicate_succ, List.replicate_zero, List.cons_append, List.nil_append, List.foldl_cons, List.foldl_nil, List.getD_cons_zero, List.getD_cons_succ, List.all_cons, List.all_nil, isiD, tyN, dLt, dLe, dGt, dGe, dAdd_i, dEq_i, dNe_i, dSub, iOp, dLen_t, dLen_l, e_seqM, sq1_l, sq1_t, e_partM, pa1_i, sliM, isN_none, notN_none, isN_int, notN_int, isN_bool, notN_bool, isN_str, notN_str, isN_list, notN_list, isN_tup, notN_tup, isN_dict, notN_dict, raiseS, mDat, mNew, e_callAt, cal_some, wbl_ok, wbl_ex, wbl_ite, e_lcM, e_rng1, e_rng2, e_enuM, en1_l, en1_t, e_zipM, zi1_l, dMnN_i, dMx_l, dMx_t, asg_nm, asg_tp, put, e_appM, isOwnL_l, e_apd, apo_l, notN_OI, isN_OI, dNe_n0, dTup_l, dTup_t, dNeg_i, dCutT_t, dCutL_l, dNe_t0, dEq_t0, dEq_l0, u1, u2, u3, u4])
  have nn : dNotN .none .none = some (.bool false) := rfl
  simp only [List.map_cons, List.map_nil] at lc
  simp [m__law_written_right, b__law_written_right, -List.map_map, -List.map_drop, -List.map_take, -List.map_append, -List.map_dropLast, th_ok, th_ex, th_ite, e_bind, e_ret, e_opt, ts_ok, ts_ex, ts_ite, e_bindS, sq_nx, sq_rt, sq_ex, sq_bk, sq_ct, sq_ite, e_seqS, fin_nx, fin_rt, fin_ex, fin_ite, e_fnOf, wb_ok, wb_ex, wb_ite, vA1_b, e_vAnd, vO1_b, e_vOr, vN1_b, e_vNot, ch1_b, e_chM, e_toB, e_mAnd, e_mOr, e_mNot, e_mIte, e_iteS, lp_nx, lp_ct, lp_bk, lp_rt, lp_ex, lp_ite, forL_nil, forL_nm, e_forS, okArgs, isOwn, outs, nam, frz, look, lookAll, ap1, ap2, apA, un1, bin2, opA, isiM, retS, drpS, setS, setN, putS, put, unpS, asg, mCons, mNil, e_mTup, mt1_ok, e_mLst, ml1_ok, callM, argsOf, argOf, ownIx, Sk.wb, List.getElem?_cons_zero, List.getElem?_cons_succ, List.getElem?_nil, List.set_cons_zero, List.set_cons_succ, List.replicate_succ, List.replicate_zero, List.cons_append, List.nil_append, List.foldl_cons, List.foldl_nil, List.getD_cons_zero, List.getD_cons_succ, List.all_cons, List.all_nil, isiD, tyN, dLt, dLe, dGt, dGe, dAdd_i, dEq_i, dNe_i, dSub, iOp, dLen_t, dLen_l, e_seqM, sq1_l, sq1_t, e_partM, pa1_i, sliM, isN_none, notN_none, isN_int, notN_int, isN_bool, notN_bool, isN_str, notN_str, isN_list, notN_list, isN_tup, notN_tup, isN_dict, notN_dict, raiseS, mDat, mNew, e_callAt, cal_some, wbl_ok, wbl_ex, wbl_ite, e_lcM, e_rng1, e_rng2, e_enuM, en1_l, en1_t, e_zipM, zi1_l, dMnN_i, dMx_l, dMx_t, asg_nm, asg_tp, put, e_appM, isOwnL_l, e_apd, apo_l, notN_OI, isN_OI, dNe_n0, dTup_l, dTup_t, dNeg_i, dCutT_t, dCutL_l, dNe_t0, dEq_t0, dEq_l0, l1, l2, l3, l4, l5, k1, k2, k3, s1, s2, w1, w2, p30, m1, d1, n1, n2, n3, n4, n5, n6, n7, n8, n9, rp, ix, lc, nn]
end Zk07
set_option maxHeartbeats 4000000
namespace Zk07
open PySem PySem.Spec PyProof.Rows L2 Sk LamX
theorem led_w (V N : D) (h : isWill V = false) : m_led [.dat (.tuple [.int 1]), .dat V, .dat N] = .ex ⟨2, none⟩ [.dat (.tuple [.int 1]), .dat V, .dat N] := by
  have f1 : isFord (.tuple [.int 1]) = true := by decide +kernel
  simp [m_led, b_led, -List.map_map, -List.map_drop, -List.map_take, -List.map_append, -List.map_dropLast, th_ok, th_ex, th_ite, e_bind, e_ret, e_opt, ts_ok, ts_ex, ts_ite, e_bindS, sq_nx, sq_rt, sq_ex, sq_bk, sq_ct, sq_ite, e_seqS, fin_nx, fin_rt, fin_ex, fin_ite, e_fnOf, wb_ok, wb_ex, wb_ite, vA1_b, e_vAnd, vO1_b, e_vOr, vN1_b, e_vNot, ch1_b, e_chM, e_toB, e_mAnd, e_mOr, e_mNot, e_mIte, e_iteS, lp_nx, lp_ct, lp_bk, lp_rt, lp_ex, lp_ite, forL_nil, forL_nm, e_forS, okArgs, isOwn, outs, nam, frz, look, lookAll, ap1, ap2, apA, un1, bin2, opA, isiM, retS, drpS, setS, setN, putS, put, unpS, asg, mCons, mNil, e_mTup, mt1_ok, e_mLst, ml1_ok, callM, argsOf, argOf, ownIx, Sk.wb, List.getElem?_cons_zero, List.getElem?_cons_succ, List.getElem?_nil, List.set_cons_zero, List.set_cons_succ, List.replicate_succ, List.replicate_zero, List.cons_append, List.nil_append, List.foldl_cons, List.foldl_nil, List.getD_cons_zero, List.getD_cons_succ, List.all_cons, List.all_nil, isiD, tyN, dLt, dLe, dGt, dGe, dAdd_i, dEq_i, dNe_i, dSub, iOp, dLen_t, dLen_l, e_seqM, sq1_l, sq1_t, e_partM, pa1_i, sliM, isN_none, notN_none, isN_int, notN_int, isN_bool, notN_bool, isN_str, notN_str, isN_list, notN_list, isN_tup, notN_tup, isN_dict, notN_dict, raiseS, mDat, mNew, e_callAt, cal_some, wbl_ok, wbl_ex, wbl_ite, e_lcM, e_rng1, e_rng2, e_enuM, en1_l, en1_t, e_zipM, zi1_l, dMnN_i, dMx_l, dMx_t, asg_nm, asg_tp, put, e_appM, isOwnL_l, e_apd, apo_l, notN_OI, isN_OI, dNe_n0, dTup_l, dTup_t, dNeg_i, dCutT_t, dCutL_l, dNe_t0, dEq_t0, dEq_l0, r_need_ford, f1, r_need_will, h]
theorem led_n (N : D) (h : isFrom 0 60 N = false) : m_led [.dat (.tuple [.int 1]), .dat (.tuple [.int 1]), .dat N] = .ex ⟨1, none⟩ [.dat (.tuple [.int 1]), .dat (.tuple [.int 1]), .dat N] := by
  have f1 : isFord (.tuple [.int 1]) = true := by decide +kernel
  have w1 : isWill (.tuple [.int 1]) = true := will_of gw1
  simp [m_led, b_led, -List.map_map, -List.map_drop, -List.map_take, -List.map_append, -List.map_dropLast, th_ok, th_ex, th_ite, e_bind, e_ret, e_opt, ts_ok, ts_ex, ts_ite, e_bindS, sq_nx, sq_rt, sq_ex, sq_bk, sq_ct, sq_ite, e_seqS, fin_nx, fin_rt, fin_ex, fin_ite, e_fnOf, wb_ok, wb_ex, wb_ite, vA1_b, e_vAnd, vO1_b, e_vOr, vN1_b, e_vNot, ch1_b, e_chM, e_toB, e_mAnd, e_mOr, e_mNot, e_mIte, e_iteS, lp_nx, lp_ct, lp_bk, lp_rt, lp_ex, lp_ite, forL_nil, forL_nm, e_forS, okArgs, isOwn, outs, nam, frz, look, lookAll, ap1, ap2, apA, un1, bin2, opA, isiM, retS, drpS, setS, setN, putS, put, unpS, asg, mCons, mNil, e_mTup, mt1_ok, e_mLst, ml1_ok, callM, argsOf, argOf, ownIx, Sk.wb, List.getElem?_cons_zero, List.getElem?_cons_succ, List.getElem?_nil, List.set_cons_zero, List.set_cons_succ, List.replicate_succ, List.replicate_zero, List.cons_append, List.nil_append, List.foldl_cons, List.foldl_nil, List.getD_cons_zero, List.getD_cons_succ, List.all_cons, List.all_nil, isiD, tyN, dLt, dLe, dGt, dGe, dAdd_i, dEq_i, dNe_i, dSub, iOp, dLen_t, dLen_l, e_seqM, sq1_l, sq1_t, e_partM, pa1_i, sliM, isN_none, notN_none, isN_int, notN_int, isN_bool, notN_bool, isN_str, notN_str, isN_list, notN_list, isN_tup, notN_tup, isN_dict, notN_dict, raiseS, mDat, mNew, e_callAt, cal_some, wbl_ok, wbl_ex, wbl_ite, e_lcM, e_rng1, e_rng2, e_enuM, en1_l, en1_t, e_zipM, zi1_l, dMnN_i, dMx_l, dMx_t, asg_nm, asg_tp, put, e_appM, isOwnL_l, e_apd, apo_l, notN_OI, isN_OI, dNe_n0, dTup_l, dTup_t, dNeg_i, dCutT_t, dCutL_l, dNe_t0, dEq_t0, dEq_l0, r_need_ford, f1, r_need_will, w1, r_need_width, h]
def odds8 : List D := [.none, .tuple [], .tuple [.int 0], .tuple [.int 7], .tuple [.int 1, .int 1], .list [.int 1], .tuple [.bool true], .int 1]
def odds4 : List D := [.none, .int (-1), .int 61, .bool true]
theorem ne_will : dNe (.str "will") (.str "will") = some (.bool false) := by kernel_rfl
theorem ne_width : dNe (.str "width") (.str "width") = some (.bool false) := by kernel_rfl
theorem law2 (a0 a1 a2 a3 : Sl) (d : D) (hd : isWill d = false) : L2_law [a0, a1, a2, a3, .dat d] = .nx [a0, a1, a2, a3, .dat d] := by
  have rw_ := r_is_will d
  rw [hd] at rw_
  have nb : dNotB (.bool false) (.bool false) = some (.bool false) := rfl
  simp [L2_law, -List.map_map, -List.map_drop, -List.map_take, -List.map_append, -List.map_dropLast, th_ok, th_ex, th_ite, e_bind, e_ret, e_opt, ts_ok, ts_ex, ts_ite, e_bindS, sq_nx, sq_rt, sq_ex, sq_bk, sq_ct, sq_ite, e_seqS, fin_nx, fin_rt, fin_ex, fin_ite, e_fnOf, wb_ok, wb_ex, wb_ite, vA1_b, e_vAnd, vO1_b, e_vOr, vN1_b, e_vNot, ch1_b, e_chM, e_toB, e_mAnd, e_mOr, e_mNot, e_mIte, e_iteS, lp_nx, lp_ct, lp_bk, lp_rt, lp_ex, lp_ite, forL_nil, forL_nm, e_forS, okArgs, isOwn, outs, nam, frz, look, lookAll, ap1, ap2, apA, un1, bin2, opA, isiM, retS, drpS, setS, setN, putS, put, unpS, asg, mCons, mNil, e_mTup, mt1_ok, e_mLst, ml1_ok, callM, argsOf, argOf, ownIx, Sk.wb, List.getElem?_cons_zero, List.getElem?_cons_succ, List.getElem?_nil, List.set_cons_zero, List.set_cons_succ, List.replicate_succ, List.replicate_zero, List.cons_append, List.nil_append, List.foldl_cons, List.foldl_nil, List.getD_cons_zero, List.getD_cons_succ, List.all_cons, List.all_nil, isiD, tyN, dLt, dLe, dGt, dGe, dAdd_i, dEq_i, dNe_i, dSub, iOp, dLen_t, dLen_l, e_seqM, sq1_l, sq1_t, e_partM, pa1_i, sliM, isN_none, notN_none, isN_int, notN_int, isN_bool, notN_bool, isN_str, notN_str, isN_list, notN_list, isN_tup, notN_tup, isN_dict, notN_dict, raiseS, mDat, mNew, e_callAt, cal_some, wbl_ok, wbl_ex, wbl_ite, e_lcM, e_rng1, e_rng2, e_enuM, en1_l, en1_t, e_zipM, zi1_l, dMnN_i, dMx_l, dMx_t, asg_nm, asg_tp, put, e_appM, isOwnL_l, e_apd, apo_l, notN_OI, isN_OI, dNe_n0, dTup_l, dTup_t, dNeg_i, dCutT_t, dCutL_l, dNe_t0, dEq_t0, dEq_l0, rw_, nb, wordM, led_w d .none hd, ne_will]
theorem law3 (a0 a1 a2 a3 : Sl) (d : D) (hd : isFrom 0 60 d = false) : L3_law [a0, a1, a2, a3, .dat d] = .nx [a0, a1, a2, a3, .dat d] := by
  simp [L3_law, -List.map_map, -List.map_drop, -List.map_take, -List.map_append, -List.map_dropLast, th_ok, th_ex, th_ite, e_bind, e_ret, e_opt, ts_ok, ts_ex, ts_ite, e_bindS, sq_nx, sq_rt, sq_ex, sq_bk, sq_ct, sq_ite, e_seqS, fin_nx, fin_rt, fin_ex, fin_ite, e_fnOf, wb_ok, wb_ex, wb_ite, vA1_b, e_vAnd, vO1_b, e_vOr, vN1_b, e_vNot, ch1_b, e_chM, e_toB, e_mAnd, e_mOr, e_mNot, e_mIte, e_iteS, lp_nx, lp_ct, lp_bk, lp_rt, lp_ex, lp_ite, forL_nil, forL_nm, e_forS, okArgs, isOwn, outs, nam, frz, look, lookAll, ap1, ap2, apA, un1, bin2, opA, isiM, retS, drpS, setS, setN, putS, put, unpS, asg, mCons, mNil, e_mTup, mt1_ok, e_mLst, ml1_ok, callM, argsOf, argOf, ownIx, Sk.wb, List.getElem?_cons_zero, List.getElem?_cons_succ, List.getElem?_nil, List.set_cons_zero, List.set_cons_succ, List.replicate_succ, List.replicate_zero, List.cons_append, List.nil_append, List.foldl_cons, List.foldl_nil, List.getD_cons_zero, List.getD_cons_succ, List.all_cons, List.all_nil, isiD, tyN, dLt, dLe, dGt, dGe, dAdd_i, dEq_i, dNe_i, dSub, iOp, dLen_t, dLen_l, e_seqM, sq1_l, sq1_t, e_partM, pa1_i, sliM, isN_none, notN_none, isN_int, notN_int, isN_bool, notN_bool, isN_str, notN_str, isN_list, notN_list, isN_tup, notN_tup, isN_dict, notN_dict, raiseS, mDat, mNew, e_callAt, cal_some, wbl_ok, wbl_ex, wbl_ite, e_lcM, e_rng1, e_rng2, e_enuM, en1_l, en1_t, e_zipM, zi1_l, dMnN_i, dMx_l, dMx_t, asg_nm, asg_tp, put, e_appM, isOwnL_l, e_apd, apo_l, notN_OI, isN_OI, dNe_n0, dTup_l, dTup_t, dNeg_i, dCutT_t, dCutL_l, dNe_t0, dEq_t0, dEq_l0, wordM, led_n d hd, ne_width]
theorem loop4 {L : MS} (a0 a1 a2 a3 : Sl) : ∀ (ds : List D) (a4 : Sl), (∀ d ∈ ds, L [a0, a1, a2, a3, .dat d] = .nx [a0, a1, a2, a3, .dat d]) → ∃ b4 : Sl, forL (.nm 4) L [] ds [a0, a1, a2, a3, a4] = .nx [a0, a1, a2, a3, b4]
  | [], a4, _ => ⟨a4, rfl⟩
  | d :: ds, a4, h => by
    obtain ⟨b, e2⟩ := loop4 a0 a1 a2 a3 ds (.dat d) fun x hx => h x (List.mem_cons_of_mem _ hx)
    refine ⟨b, ?_⟩
    rw [forL_nm]
    show (L [a0, a1, a2, a3, .dat d]).lp _ = _
    rw [h d (List.mem_cons_self ..), lp_nx]
    exact e2
theorem law1 (a0 a1 a3 a4 : Sl) (s : Src) (hs : OkS s) : ∃ s', OkS s' ∧ L1_law [a0, a1, .own (encS s), a3, a4] = .nx [a0, a1, .own (encS s'), a3, a4] := by
  obtain ⟨f, s1, hf, o1, r1⟩ := r_lford s hs
  obtain ⟨w, s2, hw, o2, r2⟩ := r_lwill s1 o1
  obtain ⟨s3, o3, r3⟩ := r_lright hf hw s2 o2
  exact ⟨s3, o3, by simp [L1_law, -List.map_map, -List.map_drop, -List.map_take, -List.map_append, -List.map_dropLast, th_ok, th_ex, th_ite, e_bind, e_ret, e_opt, ts_ok, ts_ex, ts_ite, e_bindS, sq_nx, sq_rt, sq_ex, sq_bk, sq_ct, sq_ite, e_seqS, fin_nx, fin_rt, fin_ex, fin_ite, e_fnOf, wb_ok, wb_ex, wb_ite, vA1_b, e_vAnd, vO1_b, e_vOr, vN1_b, e_vNot, ch1_b, e_chM, e_toB, e_mAnd, e_mOr, e_mNot, e_mIte, e_iteS, lp_nx, lp_ct, lp_bk, lp_rt, lp_ex, lp_ite, forL_nil, forL_nm, e_forS, okArgs, isOwn, outs, nam, frz, look, lookAll, ap1, ap2, apA, un1, bin2, opA, isiM, retS, drpS, setS, setN, putS, put, unpS, asg, mCons, mNil, e_mTup, mt1_ok, e_mLst, ml1_ok, callM, argsOf, argOf, ownIx, Sk.wb, List.getElem?_cons_zero, List.getElem?_cons_succ, List.getElem?_nil, List.set_cons_zero, List.set_cons_succ, List.replicate_succ, List.replicate_zero, List.cons_append, List.nil_append, List.foldl_cons, List.foldl_nil, List.getD_cons_zero, List.getD_cons_succ, List.all_cons, List.all_nil, isiD, tyN, dLt, dLe, dGt, dGe, dAdd_i, dEq_i, dNe_i, dSub, iOp, dLen_t, dLen_l, e_seqM, sq1_l, sq1_t, e_partM, pa1_i, sliM, isN_none, notN_none, isN_int, notN_int, isN_bool, notN_bool, isN_str, notN_str, isN_list, notN_list, isN_tup, notN_tup, isN_dict, notN_dict, raiseS, mDat, mNew, e_callAt, cal_some, wbl_ok, wbl_ex, wbl_ite, e_lcM, e_rng1, e_rng2, e_enuM, en1_l, en1_t, e_zipM, zi1_l, dMnN_i, dMx_l, dMx_t, asg_nm, asg_tp, put, e_appM, isOwnL_l, e_apd, apo_l, notN_OI, isN_OI, dNe_n0, dTup_l, dTup_t, dNeg_i, dCutT_t, dCutL_l, dNe_t0, dEq_t0, dEq_l0, r1, r2, r3]⟩
theorem law4 (ns : List Int) (k : Nat) (hk : k < 1000000) (a2 a3 a4 : Sl) : ∃ b2 b3 b4 : Sl, L4_law [.scr ns, .dat (.int (k : Int)), a2, a3, a4] = .nx [.scr ns, .dat (.int (k : Int)), b2, b3, b4] := by
  have rs := r_source ns k hk
  have os := src_ok ns k
  generalize srcOf ns k = s at rs os
  obtain ⟨st1, f1, s', b3, o', rfl⟩ := for_rng (i := 3) (body := L1_law) 0 4 (fun _ st => ∃ s' b3, OkS s' ∧ st = [.scr ns, .dat (.int (k : Int)), .own (encS s'), b3, a4]) (fun j st _ h => by
    obtain ⟨s1, b3, o1, rfl⟩ := h
    obtain ⟨s2, o2, e⟩ := law1 (.scr ns) (.dat (.int (k : Int))) (.dat (.int (0 + (j : Int)))) a4 s1 o1
    exact ⟨_, e, s2, _, o2, rfl⟩) (st := [.scr ns, .dat (.int (k : Int)), .own (encS s), a3, a4]) ⟨s, a3, os, rfl⟩
  obtain ⟨b4, f2⟩ := loop4 (L := L2_law) (.scr ns) (.dat (.int (k : Int))) (.own (encS s')) b3 odds8 a4 (fun d hd => law2 _ _ _ _ d (by
    simp [odds8] at hd
    rcases hd with rfl | rfl | rfl | rfl | rfl | rfl | rfl | rfl <;> decide +kernel))
  obtain ⟨c4, f3⟩ := loop4 (L := L3_law) (.scr ns) (.dat (.int (k : Int))) (.own (encS s')) b3 odds4 b4 (fun d hd => law3 _ _ _ _ d (by
    simp [odds4] at hd
    rcases hd with rfl | rfl | rfl | rfl <;> decide +kernel))
  have sm : Sml 0 4 := sml (by omega)
  have ng : dNeg (.int 1) = some (.int (-1)) := rfl
  refine ⟨_, _, _, Eq.trans ?_ f3⟩
  simp only [odds8, odds4] at f2 f3 ⊢
  simp [L4_law, -List.map_map, -List.map_drop, -List.map_take, -List.map_append, -List.map_dropLast, th_ok, th_ex, th_ite, e_bind, e_ret, e_opt, ts_ok, ts_ex, ts_ite, e_bindS, sq_nx, sq_rt, sq_ex, sq_bk, sq_ct, sq_ite, e_seqS, fin_nx, fin_rt, fin_ex, fin_ite, e_fnOf, wb_ok, wb_ex, wb_ite, vA1_b, e_vAnd, vO1_b, e_vOr, vN1_b, e_vNot, ch1_b, e_chM, e_toB, e_mAnd, e_mOr, e_mNot, e_mIte, e_iteS, lp_nx, lp_ct, lp_bk, lp_rt, lp_ex, lp_ite, forL_nil, e_forS, okArgs, isOwn, outs, nam, frz, look, lookAll, ap1, ap2, apA, un1, bin2, opA, isiM, retS, drpS, setS, setN, putS, put, unpS, asg, mCons, mNil, e_mTup, mt1_ok, e_mLst, ml1_ok, callM, argsOf, argOf, ownIx, Sk.wb, List.getElem?_cons_zero, List.getElem?_cons_succ, List.getElem?_nil, List.set_cons_zero, List.set_cons_succ, List.replicate_zero, List.cons_append, List.nil_append, List.foldl_cons, List.foldl_nil, List.getD_cons_zero, List.getD_cons_succ, List.all_cons, List.all_nil, isiD, tyN, dLt, dLe, dGt, dGe, dAdd_i, dEq_i, dNe_i, dSub, iOp, dLen_t, dLen_l, e_seqM, sq1_l, sq1_t, e_partM, pa1_i, sliM, isN_none, notN_none, isN_int, notN_int, isN_bool, notN_bool, isN_str, notN_str, isN_list, notN_list, isN_tup, notN_tup, isN_dict, notN_dict, raiseS, mDat, mNew, e_callAt, cal_some, wbl_ok, wbl_ex, wbl_ite, e_lcM, e_rng1, e_rng2, e_enuM, en1_l, en1_t, e_zipM, zi1_l, dMnN_i, dMx_l, dMx_t, asg_nm, asg_tp, put, e_appM, isOwnL_l, e_apd, apo_l, notN_OI, isN_OI, dNe_n0, dTup_l, dTup_t, dNeg_i, dCutT_t, dCutL_l, dNe_t0, dEq_t0, dEq_l0, rs, rn1_ok sm, f1, f2, ng]
theorem lawK (ns : List Int) : ∀ (n j : Nat) (a1 a2 a3 a4 : Sl), j + n < 1000000 → ∃ b1 b2 b3 b4 : Sl,
    forL (.nm 1) L4_law [] ((List.range' j n).map fun k : Nat => .int (0 + (k : Int))) [.scr ns, a1, a2, a3, a4] = .nx [.scr ns, b1, b2, b3, b4]
  | 0, j, a1, a2, a3, a4, _ => ⟨_, _, _, _, rfl⟩
  | n + 1, j, a1, a2, a3, a4, h => by
    obtain ⟨b2, b3, b4, e⟩ := law4 ns j (by omega) a2 a3 a4
    obtain ⟨c1, c2, c3, c4, e2⟩ := lawK ns n (j + 1) (.dat (.int (j : Int))) b2 b3 b4 (by omega)
    refine ⟨c1, c2, c3, c4, ?_⟩
    rw [List.range'_succ, List.map_cons, forL_nm, Int.zero_add]
    show (L4_law [.scr ns, .dat (.int (j : Int)), a2, a3, a4]).lp _ = _
    rw [e, lp_nx]
    exact e2
theorem good : ∀ ns : List Int, ns.length ≤ 63 → (∀ z ∈ ns, Builtin.Int.intBits z ≤ 1048576) → ∃ st, m_law [.scr ns] = .ok (.bool true) st := by
  intro ns hl _
  have mn : dMin2 [.int (ns.length : Int), .int 8] = some (.int (if (8 : Int) < ns.length then 8 else ns.length)) := rfl
  generalize hm : (if (8 : Int) < ns.length then (8 : Int) else ns.length) = m at mn
  have hm2 : 0 ≤ m ∧ m ≤ 63 := by
    split at hm <;> omega
  have sm : Sml 0 (1 + m) := sml (by omega)
  obtain ⟨b1, b2, b3, b4, e⟩ := lawK ns (1 + m).toNat 0 .un .un .un .un (by omega)
  rw [← rngL'] at e
  refine ⟨[.scr ns], ?_⟩
  simp [m_law, b_law, -List.map_map, -List.map_drop, -List.map_take, -List.map_append, -List.map_dropLast, th_ok, th_ex, th_ite, e_bind, e_ret, e_opt, ts_ok, ts_ex, ts_ite, e_bindS, sq_nx, sq_rt, sq_ex, sq_bk, sq_ct, sq_ite, e_seqS, fin_nx, fin_rt, fin_ex, fin_ite, e_fnOf, wb_ok, wb_ex, wb_ite, vA1_b, e_vAnd, vO1_b, e_vOr, vN1_b, e_vNot, ch1_b, e_chM, e_toB, e_mAnd, e_mOr, e_mNot, e_mIte, e_iteS, lp_nx, lp_ct, lp_bk, lp_rt, lp_ex, lp_ite, forL_nil, e_forS, okArgs, isOwn, outs, nam, frz, look, lookAll, ap1, ap2, apA, un1, bin2, opA, isiM, retS, drpS, setS, setN, putS, put, unpS, asg, mCons, mNil, e_mTup, mt1_ok, e_mLst, ml1_ok, callM, argsOf, argOf, ownIx, Sk.wb, List.getElem?_cons_zero, List.getElem?_cons_succ, List.getElem?_nil, List.set_cons_zero, List.set_cons_succ, List.replicate_zero, List.cons_append, List.nil_append, List.foldl_cons, List.foldl_nil, List.getD_cons_zero, List.getD_cons_succ, List.all_cons, List.all_nil, isiD, tyN, dLt, dLe, dGt, dGe, dAdd_i, dEq_i, dNe_i, dSub, iOp, dLen_t, dLen_l, e_seqM, sq1_l, sq1_t, e_partM, pa1_i, sliM, isN_none, notN_none, isN_int, notN_int, isN_bool, notN_bool, isN_str, notN_str, isN_list, notN_list, isN_tup, notN_tup, isN_dict, notN_dict, raiseS, mDat, mNew, e_callAt, cal_some, wbl_ok, wbl_ex, wbl_ite, e_lcM, e_rng1, e_rng2, e_enuM, en1_l, en1_t, e_zipM, zi1_l, dMnN_i, dMx_l, dMx_t, asg_nm, asg_tp, put, e_appM, isOwnL_l, e_apd, apo_l, notN_OI, isN_OI, dNe_n0, dTup_l, dTup_t, dNeg_i, dCutT_t, dCutL_l, dNe_t0, dEq_t0, dEq_l0, List.replicate_succ, lenS, mn, rn1_ok sm, e, r_lwritten]
end Zk07
open PySem PySem.W PySem.Calls PyProof.Rows
theorem PySem.Challenge.cw_sinkstones_k07_whole_walkers_with_a_will_holds : PySem.Challenge.rw_sinkstones_k07_whole_walkers_with_a_will.Holds := by
  w_on; o_law
  refine HandSHeadRun.head_any (r := OpenLaw.row PySem.Challenge.rw_sinkstones_k07_whole_walkers_with_a_will) (q := view (OpenLaw.row PySem.Challenge.rw_sinkstones_k07_whole_walkers_with_a_will).prog [45]) (H := Zk07.hkL) (ob := Zk07.obL) (M := 6000) (loose := Zk07.looseL) (d := HandSHeadRun.topDef (OpenLaw.row PySem.Challenge.rw_sinkstones_k07_whole_walkers_with_a_will).prog 45) (kwd := [])
    Zk07.obL_eq (by kernel_rfl) (fun s => by kernel_rfl) Zk07.runL (by kernel_rfl) (by kernel_rfl) (by kernel_rfl) (by rfl) (by first | assumption | decide +kernel) (by decide +kernel) ⟨rfl, rfl, rfl, rfl, rfl, by decide +kernel⟩ ?hw ?hc
  case hw => w_witness2
  case hc =>
    refine LamX.walk_ofTsE (l := PySem.Challenge.rw_sinkstones_k07_whole_walkers_with_a_will) (n := 63) (k := 8) (x := "script") (CX := fun w => L2.CX PySem.Challenge.rw_sinkstones_k07_whole_walkers_with_a_will.prog w) rfl (by decide) (by kernel_rfl) ⟨rfl, by decide, by decide⟩ ?F (fun _ _ _ _ _ z => by
      obtain ⟨_, _, _, _, _, _, _, _, _, _, _, _, _, z⟩ := z)
    intro w mg fa h ⟨K, KX, c⟩ G hmg0
    have hmg : mg Zk07.d_law.name = some (.ref fa) := by
      have e : (HandSHeadRun.topDef (OpenLaw.row PySem.Challenge.rw_sinkstones_k07_whole_walkers_with_a_will).prog 45).name = Zk07.d_law.name := by kernel_rfl
      rw [← e]
      exact hmg0
    exact ⟨K, KX, Sk.law_at (iL := 31) (d := Zk07.d_law) c KX G rfl rfl rfl rfl hmg (fun _ _ _ _ _ _ us hl => match us, hl with | [_], _ => rfl) (fun base hx => Zk07.ok_law hx) fun ns hl hb => Zk07.good ns hl hb⟩
