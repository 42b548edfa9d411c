import PyProof.Rows.All
import Wide.All
import OpenK.AllK
import Wide.FinOn
import HandS.ForMost
import HandS.ForExc
import HandS.Lambda
import HandS.TupAny
import HandS.TupMul
import PyProof.FactsAll.tuple_2
import PyProof.ListMulRoad
import HandS.Deep
import HandS.Style
import HandS.Wide
import HandS.IsInst
import HandS.Defaults
import HandS.TryMany
import HandS.SortInts
import KE.KDictPairs
import HandS.HeadHook1
import HandS.HeadHook2
import HandS.TryOnly
import HandS.HeadHook4
import HandS.EndTab
import PyProof.ExcBaseAll.ValueError
import HandS.Head0
import HandS.Head1
import HandS.Head2
import HandS.HeadEnd
import HandS.HeadHook3
import HandS.HeadWalk
import HandS.EndBits
import HandS.NestedK
import KE.GoesMore
import KE.GoesEnum
import KE.DataMinMax
import HandS.Conv
import HandS.SortKw
import HandS.WideBits
import PySem.Challenge.RW_sinkstones_k03_whole_walks_with_least_to
import HandS.Head4
set_option Elab.async false
set_option linter.all false
set_option maxRecDepth 100000
set_option maxHeartbeats 1000000
/-! tuples whose object is known whole -/
namespace Sk
open PySem PySem.Spec PyProof.Rows L2
/-- a tuple that is a plain object -/
def TupF (F : Hp) (a : Addr) (xs : List V) : Prop := ∃ o : Obj, F a = some (.frz o (.tup xs)) ∧ o.dict = none
theorem TupF.sq {K : PySem.W.Frag} {F : Hp} {a : Addr} {xs : List V} (t : TupF F a xs) : SqT K F a xs :=
  let ⟨o, e, _⟩ := t
  .inl (.inr ⟨o, e⟩)
theorem TupF.mono {F F' : Hp} (h : ∀ a o, F a = some o → F' a = some o) {a : Addr} {xs : List V} (t : TupF F a xs) : TupF F' a xs :=
  let ⟨o, e, n⟩ := t
  ⟨o, h _ _ e, n⟩
/-- what a new tuple leads to -/
def NewT (xs : List V) (H : Hp) (Q : VK) : Prop := ∀ (p : Addr) (o : Obj), H p = none → o.dict = none → Q (.ref p) (upd H p (.frz o (.tup xs)))
section
variable {X : Cx} {pins : List (Addr × Obj)} {σ : L2.St} {H : Hp} {s : Shared}
theorem new_tup {ws : List V} {vals : List Value} {Q : VK} (I : Inv X pins σ H s) (r : Vals ws vals) (small : ws.length ≤ sizeLine) (q : NewT ws H Q) {tk : Nat} :
    EP X pins σ Q (.ref s.heap.objs.size) { s with toks := tk, heap := s.heap.push { cls := .type "tuple", data := .seq vals.toArray } } := by
  have here : (s.heap.push { cls := .type "tuple", data := .seq vals.toArray }).get? s.heap.objs.size = some { cls := .type "tuple", data := .seq vals.toArray } := Heap.get?_push_size _ rfl
  have free := I.hok.fresh (Nat.le_refl s.heap.objs.size)
  refine ⟨.ref s.heap.objs.size, upd H s.heap.objs.size (.frz { cls := .type "tuple", data := .seq vals.toArray } (.tup ws)), ?_, rfl, q _ _ free rfl⟩
  refine I.laid (fun _ _ => Heap.get?_push_of_some _) (Nat.le_refl _) ?_
  exact ⟨here, small, vals, r, _, here, rfl, _, rfl⟩
theorem pe_tupF {es : List Expr} {t : TA} {c : Nat} {pos : Pos} (ha : PA X es t) : PE X (.Tuple es c pos) (fun σ H Q => t σ H fun xs H1 => xs.length ≤ sizeLine ∧ NewT xs H1 Q) := by
  constructor
  intro pins s σ H Q I hq
  have run := ha.run pos pins s σ H _ I hq
  refine wpAny_Tuple_spliced (thn run ?_)
  rintro us s1 ⟨xs, H1, I1, r, small, q⟩
  exact ⟨r.length ▸ small, new_tup (tk := s1.toks) I1 r small q⟩
def rCatF (K : PySem.W.Frag) : R2 := fun x y H Q => ∃ a b xs ys, x = .ref a ∧ y = .ref b ∧ SqT K H a xs ∧ SqT K H b ys ∧ xs.length + ys.length ≤ sizeLine ∧
  (xs = [] → Q (.ref b) H) ∧ (ys = [] → Q (.ref a) H) ∧ NewT (xs ++ ys) H Q
theorem op_catF : OpR X (binaryOp .Add) (rCatF X.K) := by
  intro pins s σ H x y v u Q I rx ry h
  obtain ⟨a, b, xs, ys, e1, e2, ta, tb, small, q0, q1, q2⟩ := h
  subst e1 e2
  cases xs with
  | nil => exact op_catA pins s σ H (.ref a) (.ref b) v u Q I rx ry ⟨a, b, [], ys, rfl, rfl, ta, tb, small, q0, (fun z => absurd rfl z), (fun z => absurd rfl z)⟩
  | cons x0 xs =>
    cases rx
    cases ry
    obtain ⟨us, ru, pu, _⟩ := I.tuple ta
    obtain ⟨vs, rv, pv, _⟩ := I.tuple tb
    have nu : us ≠ [] := by rintro rfl; cases ru
    have small' : us.length + vs.length ≤ sizeLine := by rw [← ru.length, ← rv.length]; exact small
    refine HT.cat_tup pu pv nu (fun z => ?_) (fun _ => ?_) small'
    · subst z
      cases rv
      exact ⟨.ref a, H, I, rfl, q1 rfl⟩
    · exact new_tup (tk := s.toks) I (ru.append rv) (by rw [List.length_append]; exact small) q2
def rCutF (K : PySem.W.Frag) : V → Option Int → Option Int → Hp → VK → Prop := fun x lo hi H Q => ∃ a xs, x = .ref a ∧ SqT K H a xs ∧ (cutV xs lo hi = xs → Q (.ref a) H) ∧ NewT (cutV xs lo hi) H Q
theorem sl_tupF : SlR X (rCutF X.K) := by
  intro pins s σ H x v vl vu lo hi sl Q I rx hs pl pu h
  obtain ⟨a, xs, e, tx, q0, q1⟩ := h
  subst e
  by_cases whole : HT.sIx xs.length 0 lo = 0 ∧ HT.sIx xs.length xs.length hi = xs.length
  · refine sl_tupA pins s σ H (.ref a) v vl vu lo hi sl Q I rx hs pl pu ⟨a, xs, rfl, tx, fun _ => q0 ?_, fun z => absurd whole z⟩
    unfold cutV
    rw [whole.1, whole.2]
    simp
  · cases rx
    obtain ⟨us, ru, pu', small⟩ := I.tuple tx
    have len : us.toArray.size = xs.length := by simpa using ru.length.symm
    refine ⟨"tuple", _, slot_tuple_getitem.lookup, pu'.typeIs, HT.getItem_tuple_cut pu' hs pl pu (len.symm ▸ whole) ?_ (len.symm ▸ small)⟩
    have r2 : Vals (cutV xs lo hi) ((us.drop (HT.sIx us.toArray.size 0 lo)).take (HT.sIx us.toArray.size us.toArray.size hi - HT.sIx us.toArray.size 0 lo)) := by
      rw [len]
      exact (ru.drop _).take _
    exact new_tup (tk := s.toks) I r2 (Nat.le_trans (cutV_length xs lo hi) small) q1
theorem call_tupF : CallR X (.type "tuple") (fun xs H Q => ∃ p ys, xs = [.ref p] ∧ ((SqL X.K H p ys ∧ NewT ys H Q) ∨ (SqT X.K H p ys ∧ Q (.ref p) H))) := by
  intro pins s σ H xs us Q I r h
  obtain ⟨p, ys, e, h⟩ := h
  cases h with
  | inr h => exact call_tuple_of pins s σ H xs us Q I r ⟨p, ys, e, .inr h⟩
  | inl h =>
    subst e
    obtain ⟨u, eu, rx⟩ := vals1 r
    subst eu
    cases rx
    obtain ⟨its, rv, pl, small⟩ := I.list h.1
    have len : its.toArray.size ≤ sizeLine := by simpa [← rv.length] using small
    refine call_tuple_list pl.isList (fun h' keep => ?_) len
    exact new_tup (s := { s with heap := h' }) (tk := s.toks) (I.kept (t' := s.toks) keep) rv small h.2
/-- a tuple once is itself -/
theorem mul_same (l : Addr) (its : Array Value) (n : Nat) (dd : Option Addr) (sl : Array (Option Value)) (k : Int) (tk : Tok) (big : (decide (k < -(2 ^ 63)) || decide (k ≥ 2 ^ 63)) = false) (one : (its.isEmpty || k == 1) = true) :
    Meets (Builtin.«tuple.__mul__» ⟨[.ref l, .int k tk], []⟩) (fun _ R s => s.heap.get? l = some { cls := .type "tuple", dict := dd, data := .seq its n, slots := sl } ∧ R (.ok (.ret (.ref l))) s) :=
  .of_wp fun prog w A R s h => by
    obtain ⟨hp, g, d, tk', os⟩ := s
    have hl := h.1
    have f1 := AutoSeq1.idx_int
    wp_walk using wpAny_loadPart' hl
    repeat (first
      | (refine wpAny_ite_false (decide_eq_false (by rw [big]; exact Bool.false_ne_true)) ?_
         wp_walk using wpAny_loadPart' hl)
      | (refine wpAny_ite_true (decide_eq_true one) ?_
         wp_walk using wpAny_loadPart' hl))
    exact ⟨_, rfl, h.2⟩
theorem mul_none (l : Addr) (its : Array Value) (n : Nat) (dd : Option Addr) (sl : Array (Option Value)) (k : Int) (tk : Tok) (big : (decide (k < -(2 ^ 63)) || decide (k ≥ 2 ^ 63)) = false) (one : (its.isEmpty || k == 1) = false) (low : (decide (k ≤ 0) || its.isEmpty) = true) :
    Meets (Builtin.«tuple.__mul__» ⟨[.ref l, .int k tk], []⟩) (fun _ R s => s.heap.get? l = some { cls := .type "tuple", dict := dd, data := .seq its n, slots := sl } ∧
      R (.ok (.ret (.ref s.heap.objs.size))) { s with heap := s.heap.push { cls := .type "tuple", data := .seq #[] } }) :=
  .of_wp fun prog w A R s h => by
    obtain ⟨hp, g, d, tk', os⟩ := s
    have hl := h.1
    have f1 := AutoSeq1.idx_int
    wp_walk using wpAny_loadPart' hl
    repeat (first
      | (refine wpAny_ite_false (decide_eq_false (by rw [big]; exact Bool.false_ne_true)) ?_
         wp_walk using wpAny_loadPart' hl)
      | (refine wpAny_ite_false (decide_eq_false (by rw [one]; exact Bool.false_ne_true)) ?_
         wp_walk using wpAny_loadPart' hl)
      | (refine wpAny_ite_true (decide_eq_true low) ?_
         wp_walk using wpAny_loadPart' hl))
    exact ⟨_, rfl, h.2⟩
def rMulF (K : PySem.W.Frag) : R2 := fun x y H Q => ∃ l k xs, x = .ref l ∧ y = .int k ∧ SqT K H l xs ∧ -1000 ≤ k ∧ k ≤ 1000 ∧ xs.length ≤ 1000 ∧ (xs = [] ∨ k = 1 → Q (.ref l) H) ∧ NewT (List.replicate k.toNat xs).flatten H Q
theorem op_mulF : OpR X (binaryOp .Mult) (rMulF X.K) := by
  intro pins s σ H x y v u Q I rx ry h
  obtain ⟨l, k, xs, e1, e2, tx, k0, k1, small, q0, q1⟩ := h
  subst e1 e2
  cases rx
  obtain ⟨tk, rfl⟩ := ry
  obtain ⟨us, ru, ⟨⟨cls, dd, data, sl⟩, ho, hc, n, hd⟩, line⟩ := I.tuple tx
  simp only at hc hd
  subst hc hd
  have len : us.length = xs.length := ru.length.symm
  have big : (decide (k < -(2 ^ 63)) || decide (k ≥ 2 ^ 63)) = false := by simp; omega
  have road : wpAny (model X.prog X.w) X.A (call (.builtin "tuple.__mul__") [.ref l, .int k tk]) (EP X pins σ Q) X.xe s → wpAny (model X.prog X.w) X.A (binaryOp .Mult (.ref l) (.int k tk)) (EP X pins σ Q) X.xe s := fun w =>
    wpAny_binaryOp_repeat_ref (T := "tuple") (U := "int") (by decide) ⟨_, ho, rfl⟩ (fun s' => typeIs_int s' k tk) noFill_tuple_mul F.fills_int_mul F.slot_int_rmul repeat_tuple F.slot_int_index.lookup
      (call_meets F.slot_int_rmul (typeIs_int s k tk) F.entry_int_rmul (F.args_int_rmul_2 _ _) (int_rmul_tuple k tk l us.toArray n dd sl) ⟨ho, rfl, ⟨_, ho, rfl⟩, w⟩)
  refine road ?_
  have empt : us.toArray.isEmpty = true → xs = [] := fun z => by
    cases ru with
    | nil => rfl
    | cons _ _ => simp at z
  cases one : (us.toArray.isEmpty || k == 1) with
  | true =>
    refine call_meets F.slot_tuple_mul ⟨_, ho, rfl⟩ F.entry_tuple_mul (F.args_tuple_mul_2 _ _) (mul_same l us.toArray n dd sl k tk big one) ⟨ho, ?_⟩
    refine ⟨.ref l, H, I, rfl, q0 ?_⟩
    rcases Bool.or_eq_true_iff.mp one with z | z
    · exact .inl (empt z)
    · exact .inr (by simpa using z)
  | false =>
    have ne := (Bool.or_eq_false_iff.mp one).1
    cases low : (decide (k ≤ 0) || us.toArray.isEmpty) with
    | true =>
      refine call_meets F.slot_tuple_mul ⟨_, ho, rfl⟩ F.entry_tuple_mul (F.args_tuple_mul_2 _ _) (mul_none l us.toArray n dd sl k tk big one low) ⟨ho, ?_⟩
      rw [ne, Bool.or_false] at low
      have kz : k.toNat = 0 := by have := of_decide_eq_true low; omega
      rw [kz] at q1
      exact new_tup (tk := s.toks) (ws := []) (vals := []) I .nil (by simp) q1
    | false =>
      have fl : ∀ m : Nat, List.foldl (fun x1 x2 => x1 ++ x2) #[] (List.replicate m us.toArray) = (List.replicate m us).flatten.toArray := size_rep us
      have bound : k.toNat * xs.length ≤ 1000 * 1000 := Nat.mul_le_mul (by omega) small
      have m1 : ((us.toArray.size : Nat) : Int) * k ≤ 1000000 := by
        rw [List.size_toArray, len]
        have p0 : 0 ≤ k := by
          have := (Bool.or_eq_false_iff.mp low).1
          have := of_decide_eq_false this
          omega
        have := Int.ofNat_le.mpr bound
        rw [Int.natCast_mul, Int.toNat_of_nonneg p0, Int.mul_comm] at this
        simpa using this
      have fine : Builtin.Tuple.tupleTooMany (((us.toArray.size : Nat) : Int) * k) = false := by
        unfold Builtin.Tuple.tupleTooMany
        rw [sizeLine_eq]
        exact decide_eq_false (by omega)
      have flat : (List.replicate k.toNat us).flatten.length ≤ sizeLine := by
        rw [lm_len_rep_flat, len, sizeLine_eq]
        omega
      refine call_meets F.slot_tuple_mul ⟨_, ho, rfl⟩ F.entry_tuple_mul (F.args_tuple_mul_2 _ _) (tuple_mulW l us.toArray n dd sl k tk big one low (by omega) fine (by rw [fl, List.size_toArray]; exact flat)) ⟨ho, ?_⟩
      rw [fl]
      exact new_tup (tk := s.toks) I (ru.rep k.toNat) (by rw [lm_len_rep_flat, sizeLine_eq]; omega) q1
end
end Sk
set_option maxHeartbeats 1000000
namespace Sk
open PySem PySem.Spec PyProof.Rows L2
abbrev D := PyData
/-- what a slot of a def holds: nothing, data that never changes, or a list or dict that this slot alone holds -/
inductive Sl where
  | un
  | dat (d : D)
  | own (d : D)
  | scr (ns : List Int)
/-- a key of a dict as data -/
def keyD : Key → D
  | .inl i => .int i
  | .inr x => .str x
mutual
inductive Rp (K : PySem.W.Frag) (F : Hp) : D → V → Prop
  | non : Rp K F .none .non
  | bl (b : Bool) : Rp K F (.bool b) (.bl b)
  | int (i : Int) : Rp K F (.int i) (.int i)
  | str (x : Str) : Rp K F (.str x) (.str x)
  | lst {a : Addr} {xs : List V} {ds : List D} : F a = some (.lst xs) → RpA K F ds xs → Rp K F (.list ds) (.ref a)
  | tup {a : Addr} {xs : List V} {ds : List D} : TupF F a xs → RpA K F ds xs → Rp K F (.tuple ds) (.ref a)
  | dct {a : Addr} {o : HO} {kvs : List (D × D)} : F a = some o → RpD K F kvs o → Rp K F (.dict kvs) (.ref a)
inductive RpA (K : PySem.W.Frag) (F : Hp) : List D → List V → Prop
  | nil : RpA K F [] []
  | cons {d : D} {v : V} {ds : List D} {vs : List V} : Rp K F d v → RpA K F ds vs → RpA K F (d :: ds) (v :: vs)
inductive RpK (K : PySem.W.Frag) (F : Hp) : List (D × D) → List (Key × V) → Prop
  | nil : RpK K F [] []
  | cons {k : Key} {d : D} {v : V} {kds : List (D × D)} {kvs : List (Key × V)} : Rp K F d v → RpK K F kds kvs → RpK K F ((keyD k, d) :: kds) ((k, v) :: kvs)
inductive RpD (K : PySem.W.Frag) (F : Hp) : List (D × D) → HO → Prop
  | dk {kvs : List (D × D)} {ks : List (Key × V)} : RpK K F kvs ks → RpD K F kvs (.dK ks)
end
/-- what an own object holds -/
inductive RpC (K : PySem.W.Frag) (F : Hp) : D → HO → Prop
  | lst {ds : List D} {xs : List V} : RpA K F ds xs → RpC K F (.list ds) (.lst xs)
  | dct {kvs : List (D × D)} {o : HO} : RpD K F kvs o → RpC K F (.dict kvs) o
section
variable {K : PySem.W.Frag} {F F' : Hp}
theorem sqL_mono (h : ∀ a o, F a = some o → F' a = some o) {a : Addr} {xs : List V} (r : SqL K F a xs) : SqL K F' a xs := by
  rcases r with (r | ⟨o, r⟩) | r
  · exact .inl (.inl (h _ _ r))
  · exact .inl (.inr ⟨o, h _ _ r⟩)
  · exact .inr r
theorem sqT_mono (h : ∀ a o, F a = some o → F' a = some o) {a : Addr} {xs : List V} (r : SqT K F a xs) : SqT K F' a xs := by
  rcases r with (r | ⟨o, r⟩) | r
  · exact .inl (.inl (h _ _ r))
  · exact .inl (.inr ⟨o, h _ _ r⟩)
  · exact .inr r
mutual
theorem Rp.mono (h : ∀ a o, F a = some o → F' a = some o) : ∀ {d : D} {v : V}, Rp K F d v → Rp K F' d v
  | _, _, .non => .non
  | _, _, .bl b => .bl b
  | _, _, .int i => .int i
  | _, _, .str x => .str x
  | _, _, .lst s r => .lst (h _ _ s) (RpA.mono h r)
  | _, _, .tup s r => .tup (s.mono h) (RpA.mono h r)
  | _, _, .dct s r => .dct (h _ _ s) (RpD.mono h r)
theorem RpA.mono (h : ∀ a o, F a = some o → F' a = some o) : ∀ {ds : List D} {vs : List V}, RpA K F ds vs → RpA K F' ds vs
  | _, _, .nil => .nil
  | _, _, .cons r t => .cons (Rp.mono h r) (RpA.mono h t)
theorem RpK.mono (h : ∀ a o, F a = some o → F' a = some o) : ∀ {kvs : List (D × D)} {ks : List (Key × V)}, RpK K F kvs ks → RpK K F' kvs ks
  | _, _, .nil => .nil
  | _, _, .cons r t => .cons (Rp.mono h r) (RpK.mono h t)
theorem RpD.mono (h : ∀ a o, F a = some o → F' a = some o) : ∀ {kvs : List (D × D)} {o : HO}, RpD K F kvs o → RpD K F' kvs o
  | _, _, .dk r => .dk (RpK.mono h r)
end
theorem RpC.mono (h : ∀ a o, F a = some o → F' a = some o) {d : D} {o : HO} (r : RpC K F d o) : RpC K F' d o := by
  cases r with
  | lst r => exact .lst (r.mono h)
  | dct r => exact .dct (r.mono h)
theorem RpA.length {ds : List D} {vs : List V} (r : RpA K F ds vs) : ds.length = vs.length := by
  induction ds generalizing vs with
  | nil => cases r; rfl
  | cons d ds ih => cases r with | cons _ t => simp [ih t]
theorem RpA.get {ds : List D} {vs : List V} (r : RpA K F ds vs) {i : Nat} {d : D} (h : ds[i]? = some d) : ∃ v, vs[i]? = some v ∧ Rp K F d v := by
  induction ds generalizing vs i with
  | nil => simp at h
  | cons e ds ih =>
    cases r with
    | cons q t =>
      cases i with
      | zero => simp at h; subst h; exact ⟨_, rfl, q⟩
      | succ i => simpa using ih t (by simpa using h)
theorem RpA.getV {ds : List D} {vs : List V} (r : RpA K F ds vs) {i : Nat} {v : V} (h : vs[i]? = some v) : ∃ d, ds[i]? = some d ∧ Rp K F d v := by
  induction ds generalizing vs i with
  | nil => cases r; simp at h
  | cons e ds ih =>
    cases r with
    | cons q t =>
      cases i with
      | zero => simp at h; subst h; exact ⟨_, rfl, q⟩
      | succ i => simpa using ih t (by simpa using h)
theorem RpA.append {ds es : List D} {vs ws : List V} (r : RpA K F ds vs) (q : RpA K F es ws) : RpA K F (ds ++ es) (vs ++ ws) := by
  induction ds generalizing vs with
  | nil => cases r; simpa using q
  | cons d ds ih => cases r with | cons a t => exact .cons a (ih t)
theorem RpA.drop {ds : List D} {vs : List V} (r : RpA K F ds vs) (n : Nat) : RpA K F (ds.drop n) (vs.drop n) := by
  induction n generalizing ds vs with
  | zero => simpa using r
  | succ n ih => cases r with
    | nil => simpa using RpA.nil
    | cons a t => simpa using ih t
theorem RpA.take {ds : List D} {vs : List V} (r : RpA K F ds vs) (n : Nat) : RpA K F (ds.take n) (vs.take n) := by
  induction n generalizing ds vs with
  | zero => simpa using RpA.nil
  | succ n ih => cases r with
    | nil => simpa using RpA.nil
    | cons a t => simpa using RpA.cons a (ih t)
theorem RpA.set {ds : List D} {vs : List V} (r : RpA K F ds vs) (n : Nat) {d : D} {v : V} (q : Rp K F d v) : RpA K F (ds.set n d) (vs.set n v) := by
  induction n generalizing ds vs with
  | zero => cases r with
    | nil => exact .nil
    | cons a t => exact .cons q t
  | succ n ih => cases r with
    | nil => exact .nil
    | cons a t => exact .cons a (ih t)
theorem RpA.one {d : D} {v : V} (r : Rp K F d v) : RpA K F [d] [v] := .cons r .nil
end
/-! ### what a def knows -/
structure Gm where
  /-- tables of code objects that lambdas write -/
  T : List (Addr × Str)
  /-- the classes of errors by number -/
  ca : Nat → Addr
/-- an error: its class, what it bears -/
structure Er where
  cls : Nat
  arg : Option D := none
structure Sim (K : PySem.W.Frag) (T : List (Addr × Str)) (F : Hp) (st : List Sl) (σ : L2.St) (H : Hp) : Prop where
  len : st.length = σ.length
  sub : ∀ a o, F a = some o → H a = some o ∧ ∀ ps, o ≠ .tbl ps
  dat : ∀ (i : Nat) d, st[i]? = some (.dat d) → ∃ v, σ[i]? = some (some v) ∧ Rp K F d v
  own : ∀ (i : Nat) d, st[i]? = some (.own d) → ∃ a o, σ[i]? = some (some (.ref a)) ∧ F a = none ∧ H a = some o ∧ RpC K F d o
  scr : ∀ (i : Nat) ns, st[i]? = some (.scr ns) → ∃ a, σ[i]? = some (some (.ref a)) ∧ SqL K F a (ns.map .int)
  inj : ∀ (i j : Nat) d e a, st[i]? = some (.own d) → st[j]? = some (.own e) → σ[i]? = some (some (.ref a)) → σ[j]? = some (some (.ref a)) → i = j
  tab : LamX.Tabs T H
def OwnA (st : List Sl) (σ : L2.St) (a : Addr) : Prop := ∃ (i : Nat) (d : D), st[i]? = some (.own d) ∧ σ[i]? = some (some (.ref a))
/-- free, or a table that the defs write -/
def Fr (H : Hp) (a : Addr) : Prop := H a = none ∨ ∃ ps, H a = some (.tbl ps)
theorem Fr.no {H : Hp} {a : Addr} {o : HO} (f : Fr H a) (e : H a = some o) (nt : ∀ ps, o ≠ .tbl ps) : False := by
  rcases f with z | ⟨ps, z⟩
  · rw [e] at z; cases z
  · rw [e] at z; exact nt ps (Option.some.inj z)
theorem Fr.keep {H H' : Hp} {a : Addr} (k : ∀ o, H a = some o → H' a = some o) (f : Fr H' a) : Fr H a := by
  cases q : H a with
  | none => exact .inl q
  | some o =>
    have e := k o q
    rcases f with z | ⟨ps, z⟩
    · rw [e] at z; cases z
    · rw [e] at z; exact .inr ⟨ps, q.trans z⟩
structure Grow (F : Hp) (st : List Sl) (σ : L2.St) (H : Hp) (F' : Hp) (st' : List Sl) (σ' : L2.St) (H' : Hp) : Prop where
  gF : ∀ a o, F a = some o → F' a = some o
  gH : ∀ a o, H a = some o → ¬ OwnA st σ a → (∀ ps, o ≠ .tbl ps) → H' a = some o
  gN : ∀ a o, F' a = some o → F a = some o ∨ OwnA st σ a ∨ Fr H a
  gO : ∀ a, OwnA st' σ' a → OwnA st σ a ∨ Fr H a
  gD : ∀ a, Fr H' a → Fr H a
theorem Grow.refl {F H : Hp} {st : List Sl} {σ : L2.St} : Grow F st σ H F st σ H :=
  ⟨fun _ _ h => h, fun _ _ h _ _ => h, fun _ _ h => .inl h, fun _ h => .inl h, fun _ h => h⟩
theorem Grow.trans {F H F1 H1 F2 H2 : Hp} {st st1 st2 : List Sl} {σ σ1 σ2 : L2.St} (a : Grow F st σ H F1 st1 σ1 H1) (b : Grow F1 st1 σ1 H1 F2 st2 σ2 H2) : Grow F st σ H F2 st2 σ2 H2 where
  gF := fun x o h => b.gF x o (a.gF x o h)
  gH := fun x o h n nt => b.gH x o (a.gH x o h n nt) (fun z => by
    rcases a.gO x z with q | q
    · exact n q
    · exact q.no h nt) nt
  gN := fun x o h => by
    rcases b.gN x o h with q | q | q
    · exact a.gN x o q
    · exact .inr (a.gO x q)
    · exact .inr (.inr (a.gD x q))
  gO := fun x h => by
    rcases b.gO x h with q | q
    · exact a.gO x q
    · exact .inr (a.gD x q)
  gD := fun x h => a.gD x (b.gD x h)
/-- the same within an expression: no slot comes to hold an object -/
structure GrowE (F : Hp) (st : List Sl) (σ : L2.St) (H : Hp) (F' : Hp) (st' : List Sl) (H' : Hp) : Prop where
  g : Grow F st σ H F' st' σ H'
  os : ∀ a, OwnA st' σ a → OwnA st σ a
theorem GrowE.refl {F H : Hp} {st : List Sl} {σ : L2.St} : GrowE F st σ H F st H := ⟨.refl, fun _ h => h⟩
theorem GrowE.trans {F H F1 H1 F2 H2 : Hp} {st st1 st2 : List Sl} {σ : L2.St} (a : GrowE F st σ H F1 st1 H1) (b : GrowE F1 st1 σ H1 F2 st2 H2) : GrowE F st σ H F2 st2 H2 :=
  ⟨a.g.trans b.g, fun x h => a.os x (b.os x h)⟩
/-! ### results -/
inductive Out (α : Type) where
  | ok (a : α) (st : List Sl)
  | ex (x : Er) (st : List Sl)
  | no
abbrev M (α : Type) := List Sl → Out α
def M.bind {α β : Type} (f : M α) (g : α → M β) : M β := fun st => match f st with
  | .ok a st1 => g a st1
  | .ex x st1 => .ex x st1
  | .no => .no
def M.ret {α : Type} (a : α) : M α := fun st => .ok a st
def M.fail {α : Type} : M α := fun _ => .no
def M.opt {α : Type} : Option α → M α
  | some a => fun st => .ok a st
  | none => fun _ => .no
def ErR (Γ : Gm) (K : PySem.W.Frag) (F' H' : Hp) (x : Er) (cls : Value) (dx : Option Addr) : Prop :=
  cls = .ref (Γ.ca x.cls) ∧ match x.arg with
    | none => True
    | some d => ∃ p f v, dx = some p ∧ H' p = some (.xd [(f, v)]) ∧ Rp K F' d v
/-- how a value stands for a result: by the heap ahead, the frozen part and the heap behind -/
abbrev Rel (α β : Type) := Hp → Hp → Hp → α → β → Prop
section
variable (Γ : Gm) (K : PySem.W.Frag) (W : WX) {α β : Type} (R : Rel α β)
def fin (F : Hp) (st : List Sl) (σ : L2.St) (H : Hp) (o : Out α) (Q : β → Hp → Prop) : Prop := match o with
  | .ok d st' => ∀ v H' F', Sim K Γ.T F' st' σ H' → GrowE F st σ H F' st' H' → R H F' H' d v → Q v H'
  | .ex x st' => ∀ cls dx H' F', Sim K Γ.T F' st' σ H' → GrowE F st σ H F' st' H' → ErR Γ K F' H' x cls dx → W cls dx σ H'
  | .no => False
def rd (f : M α) (σ : L2.St) (H : Hp) (Q : β → Hp → Prop) : Prop := ∃ st F, Sim K Γ.T F st σ H ∧ fin Γ K W R F st σ H (f st) Q
end
/-- fits any earlier heap that has less -/
def RelMono {α β : Type} (R : Rel α β) : Prop := ∀ H H1 F' H' d v, (∀ a, Fr H1 a → Fr H a) → R H1 F' H' d v → R H F' H' d v
section
variable {Γ : Gm} {K : PySem.W.Frag} {W : WX} {α β γ δ : Type} {R : Rel α β} {R2 : Rel γ δ}
theorem fin_mono {F H F1 H1 : Hp} {st st1 : List Sl} {σ : L2.St} {o : Out α} {Q : β → Hp → Prop} (hR : RelMono R) (G : GrowE F st σ H F1 st1 H1) (h : fin Γ K W R F st σ H o Q) : fin Γ K W R F1 st1 σ H1 o Q := by
  cases o with
  | ok d st' => exact fun v H' F' S G' r => h v H' F' S (G.trans G') (hR _ _ _ _ _ _ G.g.gD r)
  | ex x st' => exact fun cls dx H' F' S G' r => h cls dx H' F' S (G.trans G') r
  | no => exact h
theorem fin_imp {F H : Hp} {st : List Sl} {σ : L2.St} {o : Out α} {Q Q' : β → Hp → Prop} (h : fin Γ K W R F st σ H o Q) (i : ∀ v H', Q v H' → Q' v H') : fin Γ K W R F st σ H o Q' := by
  cases o with
  | ok d st' => exact fun v H' F' S G' r => i _ _ (h v H' F' S G' r)
  | ex x st' => exact h
  | no => exact h
/-- one after another -/
theorem fin_bind {F H : Hp} {st : List Sl} {σ : L2.St} {f : M α} {g : α → M γ} {Q : δ → Hp → Prop} {Q1 : β → Hp → Prop} (hR : RelMono R2) (S : Sim K Γ.T F st σ H) (h : fin Γ K W R2 F st σ H (f.bind g st) Q)
    (k : ∀ d st1 v H1 F1, Sim K Γ.T F1 st1 σ H1 → GrowE F st σ H F1 st1 H1 → R H F1 H1 d v → fin Γ K W R2 F1 st1 σ H1 (g d st1) Q → Q1 v H1) : rd Γ K W R f σ H Q1 := by
  refine ⟨st, F, S, ?_⟩
  unfold M.bind at h
  cases e : f st with
  | ok d st1 =>
    rw [e] at h
    exact fun v H' F' S1 G r => k d st1 v H' F' S1 G r (fin_mono hR G h)
  | ex x st1 =>
    rw [e] at h
    exact h
  | no =>
    rw [e] at h
    exact h
/-- the end: a plain result at the state as it is -/
theorem fin_ret {F H : Hp} {st : List Sl} {σ : L2.St} {d : α} {v : β} {Q : β → Hp → Prop} (S : Sim K Γ.T F st σ H) (h : fin Γ K W R F st σ H (.ok d st) Q) (r : R H F H d v) : Q v H := h v H F S GrowE.refl r
end
/-- plain data -/
def rP (K : PySem.W.Frag) : Rel D V := fun _ F' _ d v => Rp K F' d v
theorem rP_mono {K : PySem.W.Frag} : RelMono (rP K) := fun _ _ _ _ _ _ _ r => r
/-- the same value -/
def rE (α : Type) : Rel α α := fun _ _ _ d v => v = d
theorem rE_mono {α : Type} : RelMono (rE α) := fun _ _ _ _ _ _ _ r => r
/-- a new object that nobody else holds -/
def rN (K : PySem.W.Frag) : Rel D V := fun H F' H' d v => ∃ a o, v = .ref a ∧ Fr H a ∧ F' a = none ∧ H' a = some o ∧ RpC K F' d o
theorem rN_mono {K : PySem.W.Frag} : RelMono (rN K) := fun _ _ _ _ _ _ g ⟨a, o, e, n, r⟩ => ⟨a, o, e, g a n, r⟩
/-- an operand: data, or the object of a slot -/
inductive Op where
  | dat (d : D)
  | own (i : Nat)
def RpO (K : PySem.W.Frag) (F : Hp) (σ : L2.St) : Op → V → Prop
  | .dat d, v => Rp K F d v
  | .own i, v => σ[i]? = some (some v)
def rO (K : PySem.W.Frag) (σ : L2.St) : Rel Op V := fun _ F' _ d v => RpO K F' σ d v
theorem rO_mono {K : PySem.W.Frag} {σ : L2.St} : RelMono (rO K σ) := fun _ _ _ _ _ _ _ r => r
theorem RpO.mono {K : PySem.W.Frag} {F F' : Hp} {σ : L2.St} (h : ∀ a o, F a = some o → F' a = some o) {d : Op} {v : V} (r : RpO K F σ d v) : RpO K F' σ d v := by
  cases d with
  | dat d => exact Rp.mono h r
  | own i => exact r
/-- what an operand is now -/
def look (st : List Sl) : Op → Option D
  | .dat d => some d
  | .own i => match st[i]? with
    | some (.own d) => some d
    | some (.dat d) => some d
    | _ => none
/-- how data is read off the heap -/
inductive RdR (K : PySem.W.Frag) (F H : Hp) : D → V → Prop
  | non : RdR K F H .none .non
  | bl (b : Bool) : RdR K F H (.bool b) (.bl b)
  | int (i : Int) : RdR K F H (.int i) (.int i)
  | str (x : Str) : RdR K F H (.str x) (.str x)
  | lst {a : Addr} {xs : List V} {ds : List D} : H a = some (.lst xs) → RpA K F ds xs → RdR K F H (.list ds) (.ref a)
  | tup {a : Addr} {xs : List V} {ds : List D} : TupF F a xs → RpA K F ds xs → RdR K F H (.tuple ds) (.ref a)
  | dct {a : Addr} {o : HO} {kvs : List (D × D)} : H a = some o → RpD K F kvs o → RdR K F H (.dict kvs) (.ref a)
section
variable {K : PySem.W.Frag} {T : List (Addr × Str)} {F H : Hp} {st : List Sl} {σ : L2.St}
theorem Rp.rdR (sub : ∀ a o, F a = some o → H a = some o) {d : D} {v : V} (r : Rp K F d v) : RdR K F H d v := by
  cases r with
  | non => exact .non
  | bl b => exact .bl b
  | int i => exact .int i
  | str x => exact .str x
  | lst s r => exact .lst (sub _ _ s) r
  | tup s r => exact .tup s r
  | dct s r => exact .dct (sub _ _ s) r
theorem Sim.sub1 (S : Sim K T F st σ H) : ∀ a o, F a = some o → H a = some o := fun a o h => (S.sub a o h).1
theorem Sim.look (S : Sim K T F st σ H) {x : Op} {v : V} {d : D} (r : RpO K F σ x v) (h : look st x = some d) : RdR K F H d v := by
  cases x with
  | dat e =>
    simp only [Sk.look, Option.some.injEq] at h
    subst h
    exact Rp.rdR S.sub1 r
  | own i =>
    simp only [Sk.look] at h
    have r : σ[i]? = some (some v) := r
    split at h
    · rename_i d' e
      cases h
      obtain ⟨a, o, e1, _, e3, c⟩ := S.own i d e
      rw [r] at e1
      cases e1
      cases c with
      | lst q => exact .lst e3 q
      | dct q => exact .dct e3 q
    · rename_i d' e
      cases h
      obtain ⟨u, e1, q⟩ := S.dat i d e
      rw [r] at e1
      cases e1
      exact Rp.rdR S.sub1 q
    · cases h
end
/-! ### data is one -/
section
variable {K : PySem.W.Frag} {F H : Hp}
mutual
theorem Rp.dp (sub : ∀ a o, F a = some o → H a = some o) : ∀ {d : D} {v : V}, d.canLay0 = true → Rp K F d v → Dp K H v d
  | _, _, _, .non => .non
  | _, _, _, .bl b => .bl b
  | _, _, _, .int i => .int i
  | _, _, _, .str x => .str x
  | _, _, c, .lst s r => .lst (.inl (.inl (sub _ _ s))) (RpA.dp sub (by simpa [PyData.canLay0] using c) r)
  | _, _, c, .tup s r => .tup (sqT_mono sub s.sq) (RpA.dp sub (by simpa [PyData.canLay0] using c) r)
  | _, _, c, .dct s r => by simp [PyData.canLay0] at c
theorem RpA.dp (sub : ∀ a o, F a = some o → H a = some o) : ∀ {ds : List D} {vs : List V}, PyData.canLayAll0 ds = true → RpA K F ds vs → DpAll K H vs ds
  | _, _, _, .nil => .nil
  | _, _, c, .cons r t => by
    simp only [PyData.canLayAll0, Bool.and_eq_true] at c
    exact .cons (Rp.dp sub c.1 r) (RpA.dp sub c.2 t)
end
theorem RdR.dp (sub : ∀ a o, F a = some o → H a = some o) {d : D} {v : V} (c : d.canLay0 = true) (r : RdR K F H d v) : Dp K H v d := by
  cases r with
  | non => exact .non
  | bl b => exact .bl b
  | int i => exact .int i
  | str x => exact .str x
  | lst s r => exact .lst (.inl (.inl s)) (RpA.dp sub (by simpa [PyData.canLay0] using c) r)
  | tup s r => exact .tup (sqT_mono sub s.sq) (RpA.dp sub (by simpa [PyData.canLay0] using c) r)
  | dct s r => simp [PyData.canLay0] at c
end
end Sk
set_option maxHeartbeats 1000000
namespace Sk
open PySem PySem.Spec PyProof.Rows L2
/-- only new things come -/
structure Add (F H F' H' : Hp) : Prop where
  fF : ∀ a o, F a = some o → F' a = some o
  fH : ∀ a o, H a = some o → H' a = some o
  fN : ∀ a o, F' a = some o → F a = some o ∨ H a = none
  fS : ∀ a o, F' a = some o → H' a = some o ∧ ∀ ps, o ≠ .tbl ps
section
variable {K : PySem.W.Frag} {T : List (Addr × Str)} {F H F' H' : Hp} {st : List Sl} {σ : L2.St}
theorem Add.refl (h : ∀ a o, F a = some o → H a = some o ∧ ∀ ps, o ≠ .tbl ps) : Add F H F H := ⟨fun _ _ h => h, fun _ _ h => h, fun _ _ h => .inl h, h⟩
theorem Add.new {a : Addr} {o : HO} (h : ∀ a o, F a = some o → H a = some o ∧ ∀ ps, o ≠ .tbl ps) (n : H a = none) (nt : ∀ ps, o ≠ .tbl ps) : Add F H (upd F a o) (upd H a o) where
  fF := fun b u e => by
    have nb : b ≠ a := fun z => by
      subst z
      rw [(h _ _ e).1] at n
      cases n
    rw [upd_ne nb]; exact e
  fH := fun b u e => by
    have nb : b ≠ a := fun z => by
      subst z
      rw [e] at n
      cases n
    rw [upd_ne nb]; exact e
  fN := fun b u e => by
    by_cases z : b = a
    · subst z; exact .inr n
    · rw [upd_ne z] at e; exact .inl e
  fS := fun b u e => by
    by_cases z : b = a
    · subst z; rw [upd_same] at e ⊢; cases e; exact ⟨rfl, nt⟩
    · rw [upd_ne z] at e ⊢; exact h b u e
theorem Sim.add (S : Sim K T F st σ H) (A : Add F H F' H') : Sim K T F' st σ H' where
  len := S.len
  sub := A.fS
  dat := fun i d e => by
    obtain ⟨v, e1, r⟩ := S.dat i d e
    exact ⟨v, e1, r.mono A.fF⟩
  own := fun i d e => by
    obtain ⟨a, o, e1, e2, e3, r⟩ := S.own i d e
    refine ⟨a, o, e1, ?_, A.fH _ _ e3, r.mono A.fF⟩
    cases q : F' a with
    | none => rfl
    | some u =>
      rcases A.fN a u q with z | z
      · rw [e2] at z; cases z
      · rw [e3] at z; cases z
  scr := fun i ns e => by
    obtain ⟨a, e1, r⟩ := S.scr i ns e
    exact ⟨a, e1, sqL_mono A.fF r⟩
  inj := S.inj
  tab := S.tab.ext A.fH
theorem Add.grow (A : Add F H F' H') : GrowE F st σ H F' st H' :=
  ⟨⟨A.fF, fun a o e _ _ => A.fH a o e, fun a o e => (A.fN a o e).imp id fun z => .inr (.inl z), fun a e => .inl e, fun a e => e.keep (A.fH a)⟩, fun _ h => h⟩
/-- a new object that nobody holds -/
theorem Sim.new (S : Sim K T F st σ H) {a : Addr} {o : HO} (n : H a = none) : Sim K T F st σ (upd H a o) where
  len := S.len
  sub := fun b u e => by
    have nb : b ≠ a := fun z => by
      subst z
      rw [S.sub1 _ _ e] at n
      cases n
    rw [upd_ne nb]; exact S.sub b u e
  dat := S.dat
  own := fun i d e => by
    obtain ⟨b, u, e1, e2, e3, r⟩ := S.own i d e
    refine ⟨b, u, e1, e2, ?_, r⟩
    rw [upd_ne (ne_of_none e3 n)]; exact e3
  scr := S.scr
  inj := S.inj
  tab := S.tab.ext fun b u e => by rw [upd_ne (ne_of_none e n)]; exact e
theorem grow_new {a : Addr} {o : HO} (n : H a = none) : GrowE F st σ H F st (upd H a o) :=
  ⟨⟨fun _ _ h => h, fun b u e _ _ => by rw [upd_ne (ne_of_none e n)]; exact e, fun b u e => .inl e, fun b e => .inl e, fun b e => e.keep fun u k => by rw [upd_ne (ne_of_none k n)]; exact k⟩, fun _ h => h⟩
theorem RpC.nt {d : D} {o : HO} (r : RpC K F d o) : ∀ ps, o ≠ .tbl ps := by
  cases r with
  | lst _ => intro ps z; cases z
  | dct q => cases q with
    | dk _ => intro ps z; cases z
theorem RpC.rp {d : D} {o : HO} {a : Addr} (h : F a = some o) (r : RpC K F d o) : Rp K F d (.ref a) := by
  cases r with
  | lst q => exact .lst h q
  | dct q => exact .dct h q
/-- an object that stands alone becomes data -/
theorem Sim.froz {a : Addr} {o : HO} (S : Sim K T F st σ H) (e : H a = some o) (n : F a = none) (nt : ∀ ps, o ≠ .tbl ps) (no : ¬ OwnA st σ a) : Sim K T (upd F a o) st σ H where
  len := S.len
  sub := fun b u q => by
    by_cases z : b = a
    · subst z; rw [upd_same] at q; cases q; exact ⟨e, nt⟩
    · rw [upd_ne z] at q; exact S.sub b u q
  dat := fun i d q => by
    obtain ⟨v, e1, r⟩ := S.dat i d q
    exact ⟨v, e1, r.mono fun b u h => by rw [upd_ne (ne_of_none h n)]; exact h⟩
  own := fun i d q => by
    obtain ⟨b, u, e1, e2, e3, r⟩ := S.own i d q
    have nb : b ≠ a := fun z => no ⟨i, d, q, by rw [← z]; exact e1⟩
    exact ⟨b, u, e1, by rw [upd_ne nb]; exact e2, e3, r.mono fun b u h => by rw [upd_ne (ne_of_none h n)]; exact h⟩
  scr := fun i ns q => by
    obtain ⟨b, e1, r⟩ := S.scr i ns q
    exact ⟨b, e1, sqL_mono (fun b u h => by rw [upd_ne (ne_of_none h n)]; exact h) r⟩
  inj := S.inj
  tab := S.tab
end
/-! ### the judgements -/
structure EV (Γ : Gm) (X : Cx) (W : WX) (e : Expr) (f : M D) : Prop where
  pe : PE X e (rd Γ X.K W (rP X.K) f)
structure EO (Γ : Gm) (X : Cx) (W : WX) (e : Expr) (f : M Op) : Prop where
  pe : PE X e (fun σ => rd Γ X.K W (rO X.K σ) f σ)
structure EN (Γ : Gm) (X : Cx) (W : WX) (e : Expr) (f : M D) : Prop where
  pe : PE X e (rd Γ X.K W (rN X.K) f)
structure ET (Γ : Gm) (X : Cx) (W : WX) (e : Expr) (f : M Bool) : Prop where
  pt : PT X e (rd Γ X.K W (rE Bool) f)
inductive RpOs (K : PySem.W.Frag) (F : Hp) (σ : L2.St) : List Op → List V → Prop
  | nil : RpOs K F σ [] []
  | cons {d : Op} {v : V} {ds : List Op} {vs : List V} : RpO K F σ d v → RpOs K F σ ds vs → RpOs K F σ (d :: ds) (v :: vs)
def rOs (K : PySem.W.Frag) (σ : L2.St) : Rel (List Op) (List V) := fun _ F' _ d v => RpOs K F' σ d v
theorem rOs_mono {K : PySem.W.Frag} {σ : L2.St} : RelMono (rOs K σ) := fun _ _ _ _ _ _ _ r => r
structure EA (Γ : Gm) (X : Cx) (W : WX) (es : List Expr) (f : M (List Op)) : Prop where
  pa : PA X es (fun σ => rd Γ X.K W (rOs X.K σ) f σ)
theorem PE.imp {X : Cx} {e : Expr} {t t' : TE} (h : PE X e t) (i : ∀ σ H Q, t' σ H Q → t σ H Q) : PE X e t' := ⟨fun pins s σ H Q I q => h.run pins s σ H Q I (i σ H Q q)⟩
theorem PT.imp {X : Cx} {e : Expr} {t t' : TT} (h : PT X e t) (i : ∀ σ H Q, t' σ H Q → t σ H Q) : PT X e t' := ⟨fun pins s σ H Q I q => h.run pins s σ H Q I (i σ H Q q)⟩
theorem PA.imp {X : Cx} {es : List Expr} {t t' : TA} (h : PA X es t) (i : ∀ σ H Q, t' σ H Q → t σ H Q) : PA X es t' := ⟨fun pos pins s σ H Q I q => h.run pos pins s σ H Q I (i σ H Q q)⟩
theorem PS.imp {X : Cx} {s : Stmt} {t t' : TS} (h : PS X s t) (i : ∀ D σ H, t' D σ H → t D σ H) : PS X s t' := ⟨fun pins s σ H D I q => h.run pins s σ H D I (i D σ H q)⟩
theorem PSs.imp {X : Cx} {s : List Stmt} {t t' : TS} (h : PSs X s t) (i : ∀ D σ H, t' D σ H → t D σ H) : PSs X s t' := ⟨fun pins s σ H D I q => h.run pins s σ H D I (i D σ H q)⟩
section
variable {Γ : Gm} {X : Cx} {W : WX} {pos : Pos}
/-! ### constants, names -/
theorem ev_int {i j} : EV Γ X W (.Constant (.int i) j pos) (M.ret (.int i)) := ⟨PE.imp pe_int fun σ H Q ⟨st, F, S, h⟩ => fin_ret S h (.int i)⟩
theorem ev_bl {i j} : EV Γ X W (.Constant (.bool i) j pos) (M.ret (.bool i)) := ⟨PE.imp pe_bl fun σ H Q ⟨st, F, S, h⟩ => fin_ret S h (.bl i)⟩
theorem ev_non {j} : EV Γ X W (.Constant .none j pos) (M.ret .none) := ⟨PE.imp pe_non fun σ H Q ⟨st, F, S, h⟩ => fin_ret S h .non⟩
theorem ev_str {i j} : EV Γ X W (.Constant (.str i) j pos) (M.ret (.str i)) := ⟨PE.imp pe_str fun σ H Q ⟨st, F, S, h⟩ => fin_ret S h (.str i)⟩
/-- a name's slot -/
def nam (i : Nat) : M Op := fun st => match st[i]? with
  | some (.dat d) => .ok (.dat d) st
  | some (.own _) => .ok (.own i) st
  | some (.scr _) => .ok (.own i) st
  | _ => .no
theorem eo_nam (i : Nat) {x : Str} (hN : X.N[i]? = some x := by rfl) (hv : Vis X.env.scope x := by first | exact Or.inl rfl | exact Or.inr (Or.inl rfl) | exact Or.inr (Or.inr rfl)) (hd : (x == ("__debug__" : Str)) = false := by decide)
    (hcd : (x == ("__classdict__" : Str)) = false := by decide) : EO Γ X W (.Name x pos) (nam i) := by
  refine ⟨PE.imp (pe_var hN hv hd hcd) fun σ H Q ⟨st, F, S, h⟩ => ?_⟩
  unfold nam at h
  split at h
  · rename_i d e
    obtain ⟨v, e1, r⟩ := S.dat i d e
    exact ⟨v, e1, fin_ret S h r⟩
  · rename_i d e
    obtain ⟨a, o, e1, _⟩ := S.own i d e
    exact ⟨.ref a, e1, fin_ret S h e1⟩
  · rename_i d e
    obtain ⟨a, e1, _⟩ := S.scr i d e
    exact ⟨.ref a, e1, fin_ret S h e1⟩
  · exact h.elim
/-- an int of the module -/
theorem ev_gint {x : Str} {i : Int} {u : Value} (hg : Gl X x) (hm : X.mg x = some u) (r : RelV (.int i) u) (hd : (x == ("__debug__" : Str)) = false := by decide) : EV Γ X W (.Name x pos) (M.ret (.int i)) :=
  ⟨PE.imp (pe_glob hg hm r hd) fun σ H Q ⟨st, F, S, h⟩ => fin_ret S h (.int i)⟩
/-! ### from one kind to another -/
theorem eo_ev {e : Expr} {f : M D} (h : EV Γ X W e f) : EO Γ X W e (f.bind fun d => M.ret (.dat d)) :=
  ⟨PE.imp h.pe fun σ H Q ⟨st, F, S, q⟩ => fin_bind rO_mono S q fun d st1 v H1 F1 S1 G r q1 => fin_ret S1 q1 r⟩
def frz : Op → M D
  | .dat d => M.ret d
  | .own i => fun st => match st[i]? with
    | some (.own d) => .ok d (st.set i (.dat d))
    | some (.dat d) => .ok d st
    | _ => .no
theorem get_set_self {α : Type} {l : List α} {i : Nat} {a b : α} (h : l[i]? = some a) : (l.set i b)[i]? = some b := by
  have := (List.getElem?_eq_some_iff.mp h).1
  rw [List.getElem?_set_self this]
/-- the slot's object becomes data -/
theorem Sim.frzSlot {K : PySem.W.Frag} {T : List (Addr × Str)} {F H : Hp} {st : List Sl} {σ : L2.St} (S : Sim K T F st σ H) {i : Nat} {d : D} {a : Addr} {o : HO} (e : st[i]? = some (.own d)) (e1 : σ[i]? = some (some (.ref a))) (e2 : F a = none) (e3 : H a = some o) (r : RpC K F d o) :
    Sim K T (upd F a o) (st.set i (.dat d)) σ H ∧ GrowE F st σ H (upd F a o) (st.set i (.dat d)) H ∧ Rp K (upd F a o) d (.ref a) := by
  have mono : ∀ b u, F b = some u → upd F a o b = some u := fun b u h => by rw [upd_ne (ne_of_none h e2)]; exact h
  have own' : ∀ (j : Nat) c, (st.set i (.dat d))[j]? = some (.own c) → st[j]? = some (.own c) ∧ j ≠ i := fun j c q => by
    by_cases z : j = i
    · subst z; rw [get_set_self e] at q; cases q
    · rw [List.getElem?_set_ne (Ne.symm z)] at q; exact ⟨q, z⟩
  refine ⟨⟨by rw [List.length_set]; exact S.len, fun b u q => ?_, fun j c q => ?_, fun j c q => ?_, fun j c q => ?_, fun j k c c' b h1 h2 h3 h4 => S.inj j k c c' b (own' _ _ h1).1 (own' _ _ h2).1 h3 h4, S.tab⟩, ⟨⟨mono, fun b u q _ _ => q, fun b u q => ?_, fun b q => ?_, fun b q => q⟩, fun b ⟨j, c, h1, h2⟩ => ⟨j, c, (own' _ _ h1).1, h2⟩⟩, (r.mono mono).rp upd_same⟩
  · by_cases z : b = a
    · subst z; rw [upd_same] at q; cases q; exact ⟨e3, r.nt⟩
    · rw [upd_ne z] at q; exact S.sub b u q
  · by_cases z : j = i
    · subst z; rw [get_set_self e] at q; cases q
      exact ⟨_, e1, (r.mono mono).rp upd_same⟩
    · rw [List.getElem?_set_ne (Ne.symm z)] at q
      obtain ⟨v, h1, h2⟩ := S.dat j c q
      exact ⟨v, h1, h2.mono mono⟩
  · obtain ⟨q1, z⟩ := own' j c q
    obtain ⟨b, u, h1, h2, h3, h4⟩ := S.own j c q1
    have nb : b ≠ a := fun q2 => z (S.inj j i c d a q1 e (by rw [← q2]; exact h1) e1)
    exact ⟨b, u, h1, by rw [upd_ne nb]; exact h2, h3, h4.mono mono⟩
  · by_cases z : j = i
    · subst z; rw [get_set_self e] at q; cases q
    · rw [List.getElem?_set_ne (Ne.symm z)] at q
      obtain ⟨b, h1, h2⟩ := S.scr j c q
      exact ⟨b, h1, sqL_mono mono h2⟩
  · by_cases z : b = a
    · subst z; exact .inr (.inl ⟨i, d, e, e1⟩)
    · rw [upd_ne z] at q; exact .inl q
  · obtain ⟨j, c, h1, h2⟩ := q
    exact .inl ⟨j, c, (own' _ _ h1).1, h2⟩
theorem ev_eo {e : Expr} {f : M Op} (h : EO Γ X W e f) : EV Γ X W e (f.bind frz) := by
  refine ⟨PE.imp h.pe fun σ H Q ⟨st, F, S, q⟩ => fin_bind rP_mono S q fun d st1 v H1 F1 S1 G r q1 => ?_⟩
  cases d with
  | dat d => exact fin_ret S1 q1 r
  | own i =>
    have r : σ[i]? = some (some v) := r
    simp only [frz] at q1
    split at q1
    · rename_i d e
      obtain ⟨a, o, e1, e2, e3, c⟩ := S1.own i d e
      rw [r] at e1
      cases e1
      obtain ⟨S2, G2, R2⟩ := S1.frzSlot e r e2 e3 c
      exact q1 _ _ _ S2 G2 R2
    · rename_i d e
      obtain ⟨u, e1, c⟩ := S1.dat i d e
      rw [r] at e1
      cases e1
      exact fin_ret S1 q1 c
    · exact q1.elim
/-- a plain value of a name -/
theorem ev_nam (i : Nat) {x : Str} (hN : X.N[i]? = some x := by rfl) (hv : Vis X.env.scope x := by first | exact Or.inl rfl | exact Or.inr (Or.inl rfl) | exact Or.inr (Or.inr rfl)) (hd : (x == ("__debug__" : Str)) = false := by decide)
    (hcd : (x == ("__classdict__" : Str)) = false := by decide) : EV Γ X W (.Name x pos) ((nam i).bind frz) := ev_eo (eo_nam i hN hv hd hcd)
/-- a new object as data -/
theorem ev_en {e : Expr} {f : M D} (h : EN Γ X W e f) : EV Γ X W e f := by
  refine ⟨PE.imp h.pe fun σ H Q ⟨st, F, S, q⟩ => ⟨st, F, S, ?_⟩⟩
  cases hf : f st with
  | ok d st1 =>
    rw [hf] at q
    intro v H1 F1 S1 G r
    obtain ⟨a, o, e, n, n2, e3, c⟩ := r
    subst e
    have no : ¬ OwnA st1 σ a := fun z => by
      obtain ⟨i, d', h1, h2⟩ := G.os a z
      obtain ⟨b, u, h3, _, h5, hc⟩ := S.own i d' h1
      rw [h2] at h3
      cases h3
      exact n.no h5 hc.nt
    have mono : ∀ b u, F1 b = some u → upd F1 a o b = some u := fun b u h => by rw [upd_ne (ne_of_none h n2)]; exact h
    refine q _ _ (upd F1 a o) (S1.froz e3 n2 c.nt no) ⟨⟨fun b u h => mono b u (G.g.gF b u h), G.g.gH, fun b u h => ?_, G.g.gO, G.g.gD⟩, G.os⟩ ((c.mono mono).rp upd_same)
    by_cases z : b = a
    · subst z; exact .inr (.inr n)
    · rw [upd_ne z] at h; exact G.g.gN b u h
  | ex x st1 => rw [hf] at q; exact q
  | no => rw [hf] at q; exact q
end
end Sk
set_option maxHeartbeats 1000000
namespace Sk
open PySem PySem.Spec PyProof.Rows L2
abbrev FS (F H : Hp) : Prop := ∀ a o, F a = some o → H a = some o ∧ ∀ ps, o ≠ .tbl ps
/-- an operator by values: data in, data out -/
def S2 (K : PySem.W.Frag) (r : R2) (op : D → D → Option D) : Prop :=
  ∀ (F H : Hp) (d e z : D) (x y : V) (Q : VK), FS F H → RdR K F H d x → RdR K F H e y → op d e = some z → (∀ v H' F', Add F H F' H' → Rp K F' z v → Q v H') → r x y H Q
/-- .. a new object out -/
def S2N (K : PySem.W.Frag) (r : R2) (op : D → D → Option D) : Prop :=
  ∀ (F H : Hp) (d e z : D) (x y : V) (Q : VK), FS F H → RdR K F H d x → RdR K F H e y → op d e = some z → (∀ a o, H a = none → RpC K F z o → Q (.ref a) (upd H a o)) → r x y H Q
def S1 (K : PySem.W.Frag) (r : V → Hp → VK → Prop) (op : D → Option D) : Prop :=
  ∀ (F H : Hp) (d z : D) (x : V) (Q : VK), FS F H → RdR K F H d x → op d = some z → (∀ v H' F', Add F H F' H' → Rp K F' z v → Q v H') → r x H Q
inductive RdA (K : PySem.W.Frag) (F H : Hp) : List D → List V → Prop
  | nil : RdA K F H [] []
  | cons {d : D} {v : V} {ds : List D} {vs : List V} : RdR K F H d v → RdA K F H ds vs → RdA K F H (d :: ds) (v :: vs)
def SA (K : PySem.W.Frag) (r : List V → Hp → VK → Prop) (op : List D → Option D) : Prop :=
  ∀ (F H : Hp) (ds : List D) (z : D) (xs : List V) (Q : VK), FS F H → RdA K F H ds xs → op ds = some z → (∀ v H' F', Add F H F' H' → Rp K F' z v → Q v H') → r xs H Q
def SAN (K : PySem.W.Frag) (r : List V → Hp → VK → Prop) (op : List D → Option D) : Prop :=
  ∀ (F H : Hp) (ds : List D) (z : D) (xs : List V) (Q : VK), FS F H → RdA K F H ds xs → op ds = some z → (∀ a o, H a = none → RpC K F z o → Q (.ref a) (upd H a o)) → r xs H Q
def lookAll (st : List Sl) : List Op → Option (List D)
  | [] => some []
  | x :: xs => match look st x, lookAll st xs with
    | some d, some ds => some (d :: ds)
    | _, _ => none
/-- the result of an operator at operands -/
def ap1 (op : D → Option D) (x : Op) : M D := fun st => match look st x with
  | some d => M.opt (op d) st
  | none => .no
def ap2 (op : D → D → Option D) (x y : Op) : M D := fun st => match look st x, look st y with
  | some d, some e => M.opt (op d e) st
  | _, _ => .no
def apA (op : List D → Option D) (xs : List Op) : M D := fun st => match lookAll st xs with
  | some ds => M.opt (op ds) st
  | none => .no
def un1 (op : D → Option D) (f : M Op) : M D := f.bind fun x => ap1 op x
def bin2 (op : D → D → Option D) (f g : M Op) : M D := f.bind fun x => g.bind fun y => ap2 op x y
def opA (op : List D → Option D) (f : M (List Op)) : M D := f.bind fun x => apA op x
def toB : D → M Bool
  | .bool b => M.ret b
  | _ => M.fail
section
variable {K : PySem.W.Frag} {T : List (Addr × Str)} {F H : Hp} {st : List Sl} {σ : L2.St}
theorem Sim.lookAll (S : Sim K T F st σ H) : ∀ {xs : List Op} {vs : List V} {ds : List D}, RpOs K F σ xs vs → Sk.lookAll st xs = some ds → RdA K F H ds vs
  | [], _, ds, .nil, h => by
    simp only [Sk.lookAll, Option.some.injEq] at h
    subst h
    exact .nil
  | x :: xs, _, ds, .cons r t, h => by
    simp only [Sk.lookAll] at h
    split at h
    · rename_i d ds' e1 e2
      cases h
      exact .cons (S.look r e1) (S.lookAll t e2)
    · cases h
theorem RpOs.mono {F' : Hp} (h : ∀ a o, F a = some o → F' a = some o) : ∀ {xs : List Op} {vs : List V}, RpOs K F σ xs vs → RpOs K F' σ xs vs
  | _, _, .nil => .nil
  | _, _, .cons r t => .cons (r.mono h) (RpOs.mono h t)
end
section
variable {Γ : Gm} {X : Cx} {W : WX} {pos : Pos} {a b : Expr} {f g : M Op} {o : Operator} {r : R2} {op : D → D → Option D}
theorem ap2_ok {F H : Hp} {st : List Sl} {σ : L2.St} {x y : V} {d e : Op} {Q : VK} (hs : S2 X.K r op) (S : Sim X.K Γ.T F st σ H) (h : fin Γ X.K W (rP X.K) F st σ H (ap2 op d e st) Q) (rx : RpO X.K F σ d x) (ry : RpO X.K F σ e y) : r x y H Q := by
  unfold ap2 at h
  split at h
  · rename_i d' e' h1 h2
    cases ho : op d' e' with
    | none => rw [ho] at h; exact h.elim
    | some z =>
      rw [ho] at h
      exact hs F H _ _ _ _ _ _ S.sub (S.look rx h1) (S.look ry h2) ho fun v H' F' A q => h v H' F' (S.add A) A.grow q
  · exact h.elim
theorem ap2N_ok {F H : Hp} {st : List Sl} {σ : L2.St} {x y : V} {d e : Op} {Q : VK} (hs : S2N X.K r op) (S : Sim X.K Γ.T F st σ H) (h : fin Γ X.K W (rN X.K) F st σ H (ap2 op d e st) Q) (rx : RpO X.K F σ d x) (ry : RpO X.K F σ e y) : r x y H Q := by
  unfold ap2 at h
  split at h
  · rename_i d' e' h1 h2
    cases ho : op d' e' with
    | none => rw [ho] at h; exact h.elim
    | some z =>
      rw [ho] at h
      refine hs F H _ _ _ _ _ _ S.sub (S.look rx h1) (S.look ry h2) ho fun p u n q => h _ _ F (S.new n) (grow_new n) ⟨p, u, rfl, .inl n, ?_, upd_same, q⟩
      cases w : F p with
      | none => rfl
      | some k => rw [S.sub1 _ _ w] at n; cases n
  · exact h.elim
theorem tOp_ok {R : Rel D V} (hR : RelMono R) (hs : ∀ {F H : Hp} {st : List Sl} {σ : L2.St} {x y : V} {d e : Op} {Q : VK}, Sim X.K Γ.T F st σ H → fin Γ X.K W R F st σ H (ap2 op d e st) Q → RpO X.K F σ d x → RpO X.K F σ e y → r x y H Q) :
    ∀ σ H Q, rd Γ X.K W R (bin2 op f g) σ H Q → tOp r (fun σ => rd Γ X.K W (rO X.K σ) f σ) (fun σ => rd Γ X.K W (rO X.K σ) g σ) σ H Q := by
  intro σ H Q ⟨st, F, S, h⟩
  refine fin_bind hR S h fun d st1 x H1 F1 S1 G1 r1 h1 => ?_
  refine fin_bind hR S1 h1 fun e st2 y H2 F2 S2 G2 r2 h2 => ?_
  exact hs S2 h2 (RpO.mono G2.g.gF r1) r2
theorem ev_op (ho : OpR X (binaryOp o) r) (hs : S2 X.K r op) (ha : EO Γ X W a f) (hb : EO Γ X W b g) : EV Γ X W (.BinOp a o b pos) (bin2 op f g) :=
  ⟨PE.imp (pe_op ho ha.pe hb.pe) (tOp_ok rP_mono fun S h rx ry => ap2_ok hs S h rx ry)⟩
theorem en_op (ho : OpR X (binaryOp o) r) (hs : S2N X.K r op) (ha : EO Γ X W a f) (hb : EO Γ X W b g) : EN Γ X W (.BinOp a o b pos) (bin2 op f g) :=
  ⟨PE.imp (pe_op ho ha.pe hb.pe) (tOp_ok rN_mono fun S h rx ry => ap2N_ok hs S h rx ry)⟩
variable {c : CmpOp}
theorem ev_cmp (ho : OpR X (compareOp c) r) (hs : S2 X.K r op) (ha : EO Γ X W a f) (hb : EO Γ X W b g) (hm : behindInMarks c b = false := by rfl) : EV Γ X W (.Compare a [c] [b] pos) (bin2 op f g) :=
  ⟨PE.imp (pe_cmpR ho ha.pe hb.pe hm) (tOp_ok rP_mono fun S h rx ry => ap2_ok hs S h rx ry)⟩
/-- from a value to a test's answer -/
theorem toB_ok {F H : Hp} {st : List Sl} {σ : L2.St} {f : M D} {Q : Bool → Hp → Prop} {t : TE} (ht : ∀ Q, rd Γ X.K W (rP X.K) f σ H Q → t σ H Q) (S : Sim X.K Γ.T F st σ H) (h : fin Γ X.K W (rE Bool) F st σ H (f.bind toB st) Q) : tTest t σ H Q := by
  refine ht _ ?_
  refine fin_bind rE_mono S h fun d st1 v H1 F1 S1 G1 r1 h1 => ?_
  cases d with
  | bool b =>
    cases (show Rp X.K F1 (.bool b) v from r1)
    exact ⟨b, rfl, fin_ret S1 h1 rfl⟩
  | _ => exact h1.elim
theorem et_cmp (ho : OpR X (compareOp c) r) (hs : S2 X.K r op) (ha : EO Γ X W a f) (hb : EO Γ X W b g) (hm : behindInMarks c b = false := by rfl) : ET Γ X W (.Compare a [c] [b] pos) ((bin2 op f g).bind toB) :=
  ⟨PT.imp (pt_cmpR ho ha.pe hb.pe hm) fun σ H Q ⟨st, F, S, h⟩ => toB_ok (fun Q h => tOp_ok rP_mono (fun S h rx ry => ap2_ok hs S h rx ry) σ H Q h) S h⟩
theorem et_val {e : Expr} {f : M D} (h : EV Γ X W e f) (he : ∀ whole, isTrue e X.env whole = (do let v ← whole; standAt e.pos; holding [v] (truthy v)) := by intro _; rfl) : ET Γ X W e (f.bind toB) :=
  ⟨PT.imp (pt_val h.pe he) fun σ H Q ⟨st, F, S, q⟩ => toB_ok (t := rd Γ X.K W (rP X.K) f) (fun Q h => h) S q⟩
/-! ### and, or, not, if else -/
variable {p q : M Bool} {rest : List Expr}
def mAnd (p q : M Bool) : M Bool := p.bind fun c => if c = true then q else M.ret false
def mOr (p q : M Bool) : M Bool := p.bind fun c => if c = true then M.ret true else q
def mNot (p : M Bool) : M Bool := p.bind fun c => M.ret (!c)
structure EW (Γ : Gm) (X : Cx) (W : WX) (e : Expr) (f : M Bool) : Prop where
  pw : PW X e (rd Γ X.K W (rE Bool) f)
theorem PW.imp {X : Cx} {e : Expr} {t t' : TT} (h : PW X e t) (i : ∀ σ H Q, t' σ H Q → t σ H Q) : PW X e t' := ⟨fun wh pins s σ H Q I q => h.run wh pins s σ H Q I (i σ H Q q)⟩
theorem EW.et {e : Expr} (h : EW Γ X W e p) : ET Γ X W e p := ⟨h.pw.pt⟩
theorem ew_and1 (ha : ET Γ X W a p) : EW Γ X W (.BoolOp .And [a] pos) p := ⟨pw_and1 ha.pt⟩
theorem ew_or1 (ha : ET Γ X W a p) : EW Γ X W (.BoolOp .Or [a] pos) p := ⟨pw_or1 ha.pt⟩
theorem ew_and (ha : ET Γ X W a p) (hb : EW Γ X W (.BoolOp .And (b :: rest) pos) q) : EW Γ X W (.BoolOp .And (a :: b :: rest) pos) (mAnd p q) := by
  refine ⟨PW.imp (pw_and ha.pt hb.pw) fun σ H Q ⟨st, F, S, h⟩ => fin_bind rE_mono S h fun c st1 v H1 F1 S1 G1 r1 h1 => ?_⟩
  have r1 : v = c := r1
  subst r1
  cases v with
  | true => exact ⟨st1, F1, S1, h1⟩
  | false => exact fin_ret S1 h1 rfl
theorem ew_or (ha : ET Γ X W a p) (hb : EW Γ X W (.BoolOp .Or (b :: rest) pos) q) : EW Γ X W (.BoolOp .Or (a :: b :: rest) pos) (mOr p q) := by
  refine ⟨PW.imp (pw_or ha.pt hb.pw) fun σ H Q ⟨st, F, S, h⟩ => fin_bind rE_mono S h fun c st1 v H1 F1 S1 G1 r1 h1 => ?_⟩
  have r1 : v = c := r1
  subst r1
  cases v with
  | false => exact ⟨st1, F1, S1, h1⟩
  | true => exact fin_ret S1 h1 rfl
theorem et_not (ha : ET Γ X W a p) : ET Γ X W (.UnaryOp .Not a pos) (mNot p) := by
  refine ⟨PT.imp (pt_not ha.pt) fun σ H Q ⟨st, F, S, h⟩ => fin_bind rE_mono S h fun c st1 v H1 F1 S1 G1 r1 h1 => ?_⟩
  have r1 : v = c := r1
  subst r1
  exact fin_ret S1 h1 rfl
/-- values that are truths -/
def vAnd (f g : M D) : M D := f.bind fun d => match d with
  | .bool true => g
  | .bool false => M.ret (.bool false)
  | _ => M.fail
def vOr (f g : M D) : M D := f.bind fun d => match d with
  | .bool true => M.ret (.bool true)
  | .bool false => g
  | _ => M.fail
def vNot (f : M D) : M D := f.bind fun d => match d with
  | .bool b => M.ret (.bool (!b))
  | _ => M.fail
variable {f' g' : M D}
theorem ev_one {op'} (h : EV Γ X W a f') : EV Γ X W (.BoolOp op' [a] pos) f' := ⟨pe_one h.pe⟩
theorem ev_and (ha : EV Γ X W a f') (hb : EV Γ X W (.BoolOp .And (b :: rest) pos) g') : EV Γ X W (.BoolOp .And (a :: b :: rest) pos) (vAnd f' g') := by
  refine ⟨PE.imp (pe_and ha.pe hb.pe) fun σ H Q ⟨st, F, S, h⟩ => fin_bind rP_mono S h fun c st1 v H1 F1 S1 G1 r1 h1 => ?_⟩
  cases c with
  | bool b =>
    cases (show Rp X.K F1 (.bool b) v from r1)
    refine ⟨b, rfl, ?_⟩
    cases b with
    | true => exact ⟨st1, F1, S1, h1⟩
    | false => exact fin_ret S1 h1 (.bl false)
  | _ => exact h1.elim
theorem ev_or (ha : EV Γ X W a f') (hb : EV Γ X W (.BoolOp .Or (b :: rest) pos) g') : EV Γ X W (.BoolOp .Or (a :: b :: rest) pos) (vOr f' g') := by
  refine ⟨PE.imp (pe_or ha.pe hb.pe) fun σ H Q ⟨st, F, S, h⟩ => fin_bind rP_mono S h fun c st1 v H1 F1 S1 G1 r1 h1 => ?_⟩
  cases c with
  | bool b =>
    cases (show Rp X.K F1 (.bool b) v from r1)
    refine ⟨b, rfl, ?_⟩
    cases b with
    | false => exact ⟨st1, F1, S1, h1⟩
    | true => exact fin_ret S1 h1 (.bl true)
  | _ => exact h1.elim
theorem ev_not (ha : EV Γ X W a f') : EV Γ X W (.UnaryOp .Not a pos) (vNot f') := by
  refine ⟨PE.imp (pe_not ha.pe) fun σ H Q ⟨st, F, S, h⟩ => fin_bind rP_mono S h fun c st1 v H1 F1 S1 G1 r1 h1 => ?_⟩
  cases c with
  | bool b =>
    cases (show Rp X.K F1 (.bool b) v from r1)
    exact ⟨b, rfl, fin_ret S1 h1 (.bl _)⟩
  | _ => exact h1.elim
def mIte {α : Type} (p : M Bool) (f g : M α) : M α := p.bind fun c => if c = true then f else g
variable {e : Expr}
theorem ev_ite (hc : ET Γ X W e p) (ha : EV Γ X W a f') (hb : EV Γ X W b g') : EV Γ X W (.IfExp e a b pos) (mIte p f' g') := by
  refine ⟨PE.imp (pe_ifExp hc.pt ha.pe hb.pe) fun σ H Q ⟨st, F, S, h⟩ => fin_bind rP_mono S h fun c st1 v H1 F1 S1 G1 r1 h1 => ?_⟩
  have r1 : v = c := r1
  subst r1
  cases v with
  | true => exact ⟨st1, F1, S1, h1⟩
  | false => exact ⟨st1, F1, S1, h1⟩
/-! ### argument lists, displays -/
def mNil {α : Type} : M (List α) := M.ret []
def mCons {α : Type} (f : M α) (g : M (List α)) : M (List α) := f.bind fun x => g.bind fun xs => M.ret (x :: xs)
theorem ea_nil : EA Γ X W [] mNil := ⟨PA.imp pa_nil fun σ H Q ⟨st, F, S, h⟩ => fin_ret S h .nil⟩
theorem ea_cons {es : List Expr} {fs : M (List Op)} (ha : EO Γ X W e f) (hr : EA Γ X W es fs) (hs : starEach (e :: es) X.env = (false, eval e X.env) :: starEach es X.env := by rfl) : EA Γ X W (e :: es) (mCons f fs) := by
  refine ⟨PA.imp (pa_cons ha.pe hr.pa hs) fun σ H Q ⟨st, F, S, h⟩ => fin_bind rOs_mono S h fun d st1 v H1 F1 S1 G1 r1 h1 => ?_⟩
  exact fin_bind rOs_mono S1 h1 fun ds st2 vs H2 F2 S2 G2 r2 h2 => fin_ret S2 h2 (.cons (RpO.mono G2.g.gF r1) r2)
/-- only data -/
inductive RpDs (K : PySem.W.Frag) (F : Hp) : List D → List V → Prop
  | mk {ds vs} : RpA K F ds vs → RpDs K F ds vs
structure EL (Γ : Gm) (X : Cx) (W : WX) (es : List Expr) (f : M (List D)) : Prop where
  pa : PA X es (rd Γ X.K W (fun _ F' _ d v => RpA X.K F' d v) f)
theorem rA_mono {K : PySem.W.Frag} : RelMono (fun _ F' _ d v => RpA K F' d v : Rel (List D) (List V)) := fun _ _ _ _ _ _ _ r => r
theorem el_nil : EL Γ X W [] mNil := ⟨PA.imp pa_nil fun σ H Q ⟨st, F, S, h⟩ => fin_ret S h .nil⟩
theorem el_cons {es : List Expr} {fs : M (List D)} (ha : EV Γ X W e f') (hr : EL Γ X W es fs) (hs : starEach (e :: es) X.env = (false, eval e X.env) :: starEach es X.env := by rfl) : EL Γ X W (e :: es) (mCons f' fs) := by
  refine ⟨PA.imp (pa_cons ha.pe hr.pa hs) fun σ H Q ⟨st, F, S, h⟩ => fin_bind rA_mono S h fun d st1 v H1 F1 S1 G1 r1 h1 => ?_⟩
  exact fin_bind rA_mono S1 h1 fun ds st2 vs H2 F2 S2 G2 r2 h2 => fin_ret S2 h2 (.cons (Rp.mono G2.g.gF r1) r2)
def mTup (f : M (List D)) : M D := f.bind fun ds => if ds.length ≤ 1000 then M.ret (.tuple ds) else M.fail
def mLst (f : M (List D)) : M D := f.bind fun ds => if ds.length ≤ 1000 then M.ret (.list ds) else M.fail
theorem line1000 {n : Nat} (h : n ≤ 1000) : n ≤ sizeLine := Nat.le_trans h (by decide)
theorem ev_tup {es : List Expr} {fs : M (List D)} {x1} (h : EL Γ X W es fs) : EV Γ X W (.Tuple es x1 pos) (mTup fs) := by
  refine ⟨PE.imp (pe_tupF h.pa) fun σ H Q ⟨st, F, S, h⟩ => fin_bind rP_mono S h fun ds st1 vs H1 F1 S1 G1 r1 h1 => ?_⟩
  have r1 : RpA X.K F1 ds vs := r1
  by_cases z : ds.length ≤ 1000
  · rw [if_pos z] at h1
    refine ⟨line1000 (by rw [← r1.length]; exact z), fun p ob hp nd => ?_⟩
    have A := Add.new (o := .frz ob (.tup vs)) S1.sub hp (by intro ps z; cases z)
    exact h1 _ _ _ (S1.add A) A.grow (.tup ⟨ob, upd_same, nd⟩ (r1.mono A.fF))
  · rw [if_neg z] at h1
    exact h1.elim
theorem Sim.fnone {K : PySem.W.Frag} {T : List (Addr × Str)} {F H : Hp} {st : List Sl} {σ : L2.St} (S : Sim K T F st σ H) {p : Addr} (n : H p = none) : F p = none := by
  cases w : F p with
  | none => rfl
  | some k => rw [S.sub1 _ _ w] at n; cases n
theorem en_lst {es : List Expr} {fs : M (List D)} (h : EL Γ X W es fs) : EN Γ X W (.List es pos) (mLst fs) := by
  refine ⟨PE.imp (pe_lst h.pa) fun σ H Q ⟨st, F, S, h⟩ => fin_bind rN_mono S h fun ds st1 vs H1 F1 S1 G1 r1 h1 => ?_⟩
  have r1 : RpA X.K F1 ds vs := r1
  by_cases z : ds.length ≤ 1000
  · rw [if_pos z] at h1
    refine ⟨line1000 (by rw [← r1.length]; exact z), fun p hp => ?_⟩
    exact h1 _ _ _ (S1.new hp) (grow_new hp) ⟨p, _, rfl, .inl hp, S1.fnone hp, upd_same, .lst r1⟩
  · rw [if_neg z] at h1
    exact h1.elim
/-! ### subscripts -/
theorem ev_ix (hr : IxR X r) (hs : S2 X.K r op) (ha : EO Γ X W a f) (hb : EO Γ X W b g) (hp : PlainIx b := by exact fun _ _ => rfl) : EV Γ X W (.Subscript a b pos) (bin2 op f g) :=
  ⟨PE.imp (pe_ix hr ha.pe hb.pe hp) (tOp_ok rP_mono fun S h rx ry => ap2_ok hs S h rx ry)⟩
/-! ### unary -/
theorem ev_un {u : UnaryOp} {r1 : V → Hp → VK → Prop} {op1 : D → Option D} (ho : UnR X (unaryOp u) r1) (hs : S1 X.K r1 op1) (ha : EO Γ X W a f) : EV Γ X W (.UnaryOp u a pos) (un1 op1 f) := by
  refine ⟨PE.imp (pe_un ho ha.pe) fun σ H Q ⟨st, F, S, h⟩ => fin_bind rP_mono S h fun d st1 v H1 F1 S1 G1 q1 h1 => ?_⟩
  unfold ap1 at h1
  split at h1
  · rename_i d' e1
    cases ho : op1 d' with
    | none => rw [ho] at h1; exact h1.elim
    | some z =>
      rw [ho] at h1
      exact hs F1 H1 _ _ _ _ S1.sub (S1.look q1 e1) ho fun v H' F' A q => h1 v H' F' (S1.add A) A.grow q
  · exact h1.elim
end
end Sk
set_option maxHeartbeats 1000000
namespace Sk
open PySem PySem.Spec PyProof.Rows L2
def cap : Nat := 1000000
theorem cap_line : cap ≤ sizeLine := by decide
theorem le_cap {n : Nat} (h : n ≤ cap) : n ≤ sizeLine := Nat.le_trans h cap_line
theorem lt_cap {n : Nat} (h : n < cap) : n < sizeLine := Nat.lt_of_lt_of_le h cap_line
/-- a check -/
def chk (c : Prop) [Decidable c] (d : D) : Option D := if c then some d else none
theorem chk_some {c : Prop} [Decidable c] {d z : D} (h : chk c d = some z) : c ∧ z = d := by
  unfold chk at h
  split at h
  · rename_i hc; cases h; exact ⟨hc, rfl⟩
  · cases h
/-! ### ints -/
def iOp (g : Int → Int → Option D) : D → D → Option D
  | .int i, .int j => g i j
  | _, _ => none
def dSub : D → D → Option D := iOp fun i j => some (.int (i - j))
def dMul : D → D → Option D := iOp fun i j => chk ((-(2 ^ 64) < i ∧ i < 2 ^ 64) ∨ (-(2 ^ 64) < j ∧ j < 2 ^ 64)) (.int (i * j))
def dDiv : D → D → Option D := iOp fun i j => chk (0 < j ∧ j < 2 ^ 200) (.int (i / j))
def dMod : D → D → Option D := iOp fun i j => chk (0 < j) (.int (i % j))
def dPow : D → D → Option D := iOp fun i j => chk (0 ≤ j ∧ j ≤ 1000000 ∧ i.natAbs < 2 ^ 64) (.int (i ^ j.toNat))
def dLt : D → D → Option D := iOp fun i j => some (.bool (decide (i < j)))
def dLe : D → D → Option D := iOp fun i j => some (.bool (decide (i ≤ j)))
def dGt : D → D → Option D := iOp fun i j => some (.bool (decide (j < i)))
def dGe : D → D → Option D := iOp fun i j => some (.bool (decide (j ≤ i)))
/-- + of ints, texts, tuples -/
def dAdd : D → D → Option D
  | .int i, .int j => some (.int (i + j))
  | .str x, .str y => chk (x.length + y.length ≤ cap) (.str (x ++ y))
  | .tuple xs, .tuple ys => chk (xs.length + ys.length ≤ cap) (.tuple (xs ++ ys))
  | _, _ => none
/-- + of lists -/
def dCat : D → D → Option D
  | .list xs, .list ys => chk (xs.length + ys.length ≤ cap) (.list (xs ++ ys))
  | _, _ => none
/-- list * n -/
def dRepL : D → D → Option D
  | .list xs, .int k => chk (0 ≤ k ∧ k ≤ 1000 ∧ xs.length ≤ 100) (.list (List.replicate k.toNat xs).flatten)
  | _, _ => none
/-- tuple * n, n from 2 on -/
def dRepT : D → D → Option D
  | .tuple xs, .int k => chk (-1000 ≤ k ∧ k ≤ 1000 ∧ xs.length ≤ 1000) (.tuple (List.replicate k.toNat xs).flatten)
  | _, _ => none
def dEq (d e : D) : Option D := chk (SeqAt.shaped d = true ∧ SeqAt.shaped e = true) (.bool (PyData.eqv d e))
def dNe (d e : D) : Option D := chk (SeqAt.shaped d = true ∧ SeqAt.shaped e = true) (.bool (!PyData.eqv d e))
def isNone : D → Bool
  | .none => true
  | _ => false
def dIsN : D → D → Option D
  | d, .none => some (.bool (isNone d))
  | _, _ => none
def dNotN : D → D → Option D
  | d, .none => some (.bool (!isNone d))
  | _, _ => none
def dIsB : D → D → Option D
  | .bool a, .bool b => some (.bool (decide (a = b)))
  | _, _ => none
def dNotB : D → D → Option D
  | .bool a, .bool b => some (.bool (!decide (a = b)))
  | _, _ => none
/-- items of a list or tuple -/
def items : D → Option (List D)
  | .list xs => some xs
  | .tuple xs => some xs
  | _ => none
def dInL : D → D → Option D
  | d, .list xs => chk (SeqAt.shaped d = true ∧ SeqAt.shaped (.list xs) = true) (.bool (xs.any fun z => PyData.eqv z d))
  | _, _ => none
def dNotInL : D → D → Option D
  | d, .list xs => chk (SeqAt.shaped d = true ∧ SeqAt.shaped (.list xs) = true) (.bool (!xs.any fun z => PyData.eqv z d))
  | _, _ => none
/-! ### they are the machine's -/
section
variable {X : Cx} {K : PySem.W.Frag}
theorem s2_int {g : Int → Int → V} {h : Int → Int → D} {C : Int → Int → Prop} {op : D → D → Option D} (ho : ∀ d e z, op d e = some z → ∃ i j, d = .int i ∧ e = .int j ∧ z = h i j ∧ C i j) (hr : ∀ F i j, Rp K F (h i j) (g i j)) : S2 K (rI C g) op := by
  intro F H d e z x y Q hF rx ry q k
  obtain ⟨i, j, rfl, rfl, rfl, c⟩ := ho d e z q
  cases rx
  cases ry
  exact ⟨i, j, rfl, rfl, c, k _ _ _ (Add.refl hF) (hr _ i j)⟩
theorem s2_int0 {g : Int → Int → V} {h : Int → Int → D} {op : D → D → Option D} (ho : ∀ d e z, op d e = some z → ∃ i j, d = .int i ∧ e = .int j ∧ z = h i j) (hr : ∀ F i j, Rp K F (h i j) (g i j)) : S2 K (rI0 g) op := by
  intro F H d e z x y Q hF rx ry q k
  obtain ⟨i, j, rfl, rfl, rfl⟩ := ho d e z q
  cases rx
  cases ry
  exact ⟨i, j, rfl, rfl, k _ _ _ (Add.refl hF) (hr _ i j)⟩
theorem iOp_some {g : Int → Int → Option D} {d e z : D} (h : iOp g d e = some z) : ∃ i j, d = .int i ∧ e = .int j ∧ g i j = some z := by
  unfold iOp at h
  split at h
  · exact ⟨_, _, rfl, rfl, h⟩
  · cases h
theorem s_sub : S2 K (rI0 fun i j => .int (i - j)) dSub := s2_int0 (h := fun i j => .int (i - j)) (fun d e z q => by
  obtain ⟨i, j, h1, h2, h3⟩ := iOp_some q; cases h3; exact ⟨i, j, h1, h2, rfl⟩) fun _ i j => .int _
theorem s_lt : S2 K (rI0 fun i j => .bl (decide (i < j))) dLt := s2_int0 (h := fun i j => .bool (decide (i < j))) (fun d e z q => by
  obtain ⟨i, j, h1, h2, h3⟩ := iOp_some q; cases h3; exact ⟨i, j, h1, h2, rfl⟩) fun _ i j => .bl _
theorem s_le : S2 K (rI0 fun i j => .bl (decide (i ≤ j))) dLe := s2_int0 (h := fun i j => .bool (decide (i ≤ j))) (fun d e z q => by
  obtain ⟨i, j, h1, h2, h3⟩ := iOp_some q; cases h3; exact ⟨i, j, h1, h2, rfl⟩) fun _ i j => .bl _
theorem s_gt : S2 K (rI0 fun i j => .bl (decide (j < i))) dGt := s2_int0 (h := fun i j => .bool (decide (j < i))) (fun d e z q => by
  obtain ⟨i, j, h1, h2, h3⟩ := iOp_some q; cases h3; exact ⟨i, j, h1, h2, rfl⟩) fun _ i j => .bl _
theorem s_ge : S2 K (rI0 fun i j => .bl (decide (j ≤ i))) dGe := s2_int0 (h := fun i j => .bool (decide (j ≤ i))) (fun d e z q => by
  obtain ⟨i, j, h1, h2, h3⟩ := iOp_some q; cases h3; exact ⟨i, j, h1, h2, rfl⟩) fun _ i j => .bl _
theorem s_mul : S2 K (rI CMul fun i j => .int (i * j)) dMul := s2_int (h := fun i j => .int (i * j)) (fun d e z q => by
  obtain ⟨i, j, h1, h2, h3⟩ := iOp_some q; obtain ⟨c, h4⟩ := chk_some h3; exact ⟨i, j, h1, h2, h4, c⟩) fun _ i j => .int _
theorem s_mod : S2 K (rI (fun _ j => 0 < j) fun i j => .int (i % j)) dMod := s2_int (h := fun i j => .int (i % j)) (fun d e z q => by
  obtain ⟨i, j, h1, h2, h3⟩ := iOp_some q; obtain ⟨c, h4⟩ := chk_some h3; exact ⟨i, j, h1, h2, h4, c⟩) fun _ i j => .int _
theorem s_pow : S2 K (rI CPow fun i j => .int (i ^ j.toNat)) dPow := s2_int (h := fun i j => .int (i ^ j.toNat)) (fun d e z q => by
  obtain ⟨i, j, h1, h2, h3⟩ := iOp_some q; obtain ⟨c, h4⟩ := chk_some h3; exact ⟨i, j, h1, h2, h4, c⟩) fun _ i j => .int _
theorem s_div : S2 K (rI CDivW fun i j => .int (i / j)) dDiv := s2_int (h := fun i j => .int (i / j)) (fun d e z q => by
  obtain ⟨i, j, h1, h2, h3⟩ := iOp_some q; obtain ⟨c, h4⟩ := chk_some h3
  refine ⟨i, j, h1, h2, h4, wide_div (i := i) c.1 (b := 200) ?_ (by decide) (by decide)⟩
  have c2 := c.2
  have c1 := c.1
  have e : ((2 : Int) ^ 200) = (((2 : Nat) ^ 200 : Nat) : Int) := by rw [Int.natCast_pow]; rfl
  rw [e] at c2
  generalize (2 : Nat) ^ 200 = m at c2 ⊢
  omega) fun _ i j => .int _
def rAddA (K : PySem.W.Frag) : R2 := fun x y H Q => (rI0 fun i j => .int (i + j)) x y H Q ∨ (∃ i j, x = .str i ∧ y = .str j ∧ i.length + j.length ≤ sizeLine ∧ Q (.str (i ++ j)) H) ∨ rCatF K x y H Q
theorem op_addA : OpR X (binaryOp .Add) (rAddA X.K) := OpR.or op_add (OpR.or op_add_str op_catF)
theorem s_add : S2 K (rAddA K) dAdd := by
  intro F H d e z x y Q hF rx ry q k
  unfold dAdd at q
  split at q
  · cases q
    cases rx
    cases ry
    exact .inl ⟨_, _, rfl, rfl, k _ _ _ (Add.refl hF) (.int _)⟩
  · obtain ⟨c, rfl⟩ := chk_some q
    cases rx
    cases ry
    exact .inr (.inl ⟨_, _, rfl, rfl, le_cap c, k _ _ _ (Add.refl hF) (.str _)⟩)
  · rename_i xs ys
    obtain ⟨c, rfl⟩ := chk_some q
    have hm : ∀ a o, F a = some o → H a = some o := fun a o e => (hF a o e).1
    cases rx with
    | tup sx qx =>
      rename_i a us
      cases ry with
      | tup sy qy =>
        rename_i b vs
        refine .inr (.inr ⟨a, b, us, vs, rfl, rfl, sqT_mono hm sx.sq, sqT_mono hm sy.sq, by rw [← qx.length, ← qy.length]; exact le_cap c, fun h0 => ?_, fun h0 => ?_, fun p ob hp nd => ?_⟩)
        · subst h0
          cases qx
          exact k _ _ _ (Add.refl hF) (.tup sy qy)
        · subst h0
          cases qy
          rw [List.append_nil] at k
          exact k _ _ _ (Add.refl hF) (.tup sx qx)
        · have A := Add.new (o := .frz ob (.tup (us ++ vs))) hF hp (by intro ps z; cases z)
          exact k _ _ _ A (.tup ⟨ob, upd_same, nd⟩ ((qx.append qy).mono A.fF))
  · cases q
theorem RpA.rep {F : Hp} {ds : List D} {vs : List V} (r : RpA K F ds vs) : ∀ k : Nat, RpA K F (List.replicate k ds).flatten (List.replicate k vs).flatten
  | 0 => .nil
  | k + 1 => by
    rw [List.replicate_succ, List.replicate_succ, List.flatten_cons, List.flatten_cons]
    exact r.append (RpA.rep r k)
theorem s_cat : S2N K rCat dCat := by
  intro F H d e z x y Q hF rx ry q k
  unfold dCat at q
  split at q
  · obtain ⟨c, rfl⟩ := chk_some q
    cases rx with
    | lst sx qx =>
      cases ry with
      | lst sy qy =>
        exact ⟨_, _, _, _, rfl, rfl, sx, sy, by rw [← qx.length, ← qy.length]; exact le_cap c, fun p hp => k _ _ hp (.lst (qx.append qy))⟩
  · cases q
theorem s_repL : S2N K rRep dRepL := by
  intro F H d e z x y Q hF rx ry q k
  unfold dRepL at q
  split at q
  · rename_i xs i
    obtain ⟨⟨c1, c2, c3⟩, rfl⟩ := chk_some q
    cases rx with
    | lst sx qx =>
      rename_i l us
      cases ry
      refine ⟨l, i, us, rfl, rfl, sx, by omega, by omega, ?_, fun p hp => ?_⟩
      · rw [← qx.length]
        have h1 : i.toNat ≤ 1000 := by omega
        have h2 := Nat.mul_le_mul c3 h1
        exact Nat.le_trans h2 (by decide)
      · exact k _ _ hp (.lst (qx.rep _))
  · cases q
theorem s_repT : S2 K (rMulF K) dRepT := by
  intro F H d e z x y Q hF rx ry q k
  unfold dRepT at q
  split at q
  · rename_i xs i
    obtain ⟨⟨c1, c2, c3⟩, rfl⟩ := chk_some q
    have hm : ∀ a o, F a = some o → H a = some o := fun a o e => (hF a o e).1
    cases rx with
    | tup sx qx =>
      rename_i l us
      cases ry
      refine ⟨l, i, us, rfl, rfl, sqT_mono hm sx.sq, c1, c2, by rw [← qx.length]; omega, fun z => ?_, fun p ob hp nd => ?_⟩
      · have e : (List.replicate i.toNat xs).flatten = xs := by
          rcases z with z | z
          · subst z
            cases qx
            simp
          · subst z
            simp
        rw [e] at k
        exact k _ _ _ (Add.refl hF) (.tup sx qx)
      · have A := Add.new (o := .frz ob (.tup (List.replicate i.toNat us).flatten)) hF hp (by intro ps z; cases z)
        exact k _ _ _ A (.tup ⟨ob, upd_same, nd⟩ ((qx.rep _).mono A.fF))
  · cases q
theorem lay_of {d : D} (h : SeqAt.shaped d = true) : d.canLay0 = true := SeqAt.canLay_of_shaped h
theorem s_eq : S2 K (rEqD K) dEq := by
  intro F H d e z x y Q hF rx ry q k
  obtain ⟨⟨c1, c2⟩, rfl⟩ := chk_some q
  have hm : ∀ a o, F a = some o → H a = some o := fun a o e => (hF a o e).1
  exact ⟨d, e, rx.dp hm (lay_of c1), ry.dp hm (lay_of c2), c1, c2, k _ _ _ (Add.refl hF) (.bl _)⟩
theorem s_ne : S2 K (rNeD K) dNe := by
  intro F H d e z x y Q hF rx ry q k
  obtain ⟨⟨c1, c2⟩, rfl⟩ := chk_some q
  have hm : ∀ a o, F a = some o → H a = some o := fun a o e => (hF a o e).1
  exact ⟨d, e, rx.dp hm (lay_of c1), ry.dp hm (lay_of c2), c1, c2, k _ _ _ (Add.refl hF) (.bl _)⟩
theorem isNone_of {F H : Hp} {d : D} {x : V} (r : RdR K F H d x) : decide (x = .non) = isNone d := by
  cases r <;> simp [isNone]
theorem s_isN : S2 K (fun x y H Q => y = .non ∧ Q (.bl (decide (x = .non))) H) dIsN := by
  intro F H d e z x y Q hF rx ry q k
  unfold dIsN at q
  split at q
  · cases q
    cases ry
    refine ⟨rfl, ?_⟩
    rw [isNone_of rx]
    exact k _ _ _ (Add.refl hF) (.bl _)
  · cases q
theorem s_notN : S2 K (fun x y H Q => y = .non ∧ Q (.bl (!decide (x = .non))) H) dNotN := by
  intro F H d e z x y Q hF rx ry q k
  unfold dNotN at q
  split at q
  · cases q
    cases ry
    refine ⟨rfl, ?_⟩
    rw [isNone_of rx]
    exact k _ _ _ (Add.refl hF) (.bl _)
  · cases q
theorem s_isB : S2 K rIsB dIsB := by
  intro F H d e z x y Q hF rx ry q k
  unfold dIsB at q
  split at q
  · cases q
    cases rx
    cases ry
    exact ⟨_, _, rfl, rfl, k _ _ _ (Add.refl hF) (.bl _)⟩
  · cases q
theorem s_notB : S2 K rNotB dNotB := by
  intro F H d e z x y Q hF rx ry q k
  unfold dNotB at q
  split at q
  · cases q
    cases rx
    cases ry
    exact ⟨_, _, rfl, rfl, k _ _ _ (Add.refl hF) (.bl _)⟩
  · cases q
theorem s_inL : S2 K (rInD K) dInL := by
  intro F H d e z x y Q hF rx ry q k
  unfold dInL at q
  split at q
  · obtain ⟨⟨c1, c2⟩, rfl⟩ := chk_some q
    have hm : ∀ a o, F a = some o → H a = some o := fun a o e => (hF a o e).1
    exact ⟨_, _, rx.dp hm (lay_of c1), ry.dp hm (lay_of c2), c1, c2, k _ _ _ (Add.refl hF) (.bl _)⟩
  · cases q
theorem s_notInL : S2 K (rNotInD K) dNotInL := by
  intro F H d e z x y Q hF rx ry q k
  unfold dNotInL at q
  split at q
  · obtain ⟨⟨c1, c2⟩, rfl⟩ := chk_some q
    have hm : ∀ a o, F a = some o → H a = some o := fun a o e => (hF a o e).1
    exact ⟨_, _, rx.dp hm (lay_of c1), ry.dp hm (lay_of c2), c1, c2, k _ _ _ (Add.refl hF) (.bl _)⟩
  · cases q
/-! ### items, parts -/
def dIx : D → D → Option D
  | .list xs, .int i => atI xs i
  | .tuple xs, .int i => atI xs i
  | .str x, .int i => if x.length ≤ cap then (atI x.cps.toList i).map fun c => .str ⟨#[c]⟩ else none
  | _, _ => none
theorem RpA.atI {F : Hp} {ds : List D} {vs : List V} (r : RpA K F ds vs) {i : Int} {d : D} (h : L2.atI ds i = some d) : ∃ v, L2.atI vs i = some v ∧ Rp K F d v := by
  unfold L2.atI at h ⊢
  rw [← r.length]
  cases e : ixN ds.length i with
  | none => rw [e] at h; cases h
  | some j =>
    rw [e] at h
    exact r.get h
theorem s_ix : S2 K (rIx K) dIx := by
  intro F H d e z x y Q hF rx ry q k
  have hm : ∀ a o, F a = some o → H a = some o := fun a o e => (hF a o e).1
  unfold dIx at q
  split at q
  · cases rx with
    | lst sx qx =>
      cases ry
      obtain ⟨v, h1, h2⟩ := qx.atI q
      exact .inl ⟨_, _, _, v, rfl, rfl, .inl (.inl sx), h1, k _ _ _ (Add.refl hF) h2⟩
  · cases rx with
    | tup sx qx =>
      cases ry
      obtain ⟨v, h1, h2⟩ := qx.atI q
      exact .inr (.inl ⟨_, _, _, v, rfl, rfl, sqT_mono hm sx.sq, h1, k _ _ _ (Add.refl hF) h2⟩)
  · rename_i x i
    split at q
    · rename_i c
      cases e : L2.atI x.cps.toList i with
      | none => rw [e] at q; cases q
      | some cc =>
        rw [e] at q
        cases q
        cases rx
        cases ry
        exact .inr (.inr ⟨_, _, cc, rfl, rfl, le_cap c, e, k _ _ _ (Add.refl hF) (.str _)⟩)
    · cases q
  · cases q
def dNeg : D → Option D
  | .int i => some (.int (-i))
  | _ => none
theorem s_neg : S1 K (rU fun i => .int (-i)) dNeg := by
  intro F H d z x Q hF rx q k
  unfold dNeg at q
  split at q
  · cases q
    cases rx
    exact ⟨_, rfl, k _ _ _ (Add.refl hF) (.int _)⟩
  · cases q
end
end Sk
set_option maxHeartbeats 1000000
namespace Sk
open PySem PySem.Spec PyProof.Rows L2
/-- one after another, told from an elder place -/
theorem fin_bindA {Γ : Gm} {K : PySem.W.Frag} {W : WX} {α β γ δ : Type} {R : Rel α β} {R2 : Rel γ δ} {F H F1 H1 : Hp} {st st1 : List Sl} {σ : L2.St} {f : M α} {g : α → M γ} {Q : δ → Hp → Prop} {Q1 : β → Hp → Prop} (S1 : Sim K Γ.T F1 st1 σ H1) (G1 : GrowE F st σ H F1 st1 H1)
    (h : fin Γ K W R2 F st σ H (f.bind g st1) Q)
    (k : ∀ d st2 v H2 F2, Sim K Γ.T F2 st2 σ H2 → GrowE F1 st1 σ H1 F2 st2 H2 → R H1 F2 H2 d v → fin Γ K W R2 F st σ H (g d st2) Q → Q1 v H2) : rd Γ K W R f σ H1 Q1 := by
  refine ⟨st1, F1, S1, ?_⟩
  unfold M.bind at h
  cases e : f st1 with
  | ok d st2 =>
    rw [e] at h
    exact fun v H' F' S2 G r => k d st2 v H' F' S2 G r h
  | ex x st2 =>
    rw [e] at h
    exact fun cls dx H' F' S' G' r => h cls dx H' F' S' (G1.trans G') r
  | no =>
    rw [e] at h
    exact h
/-! ### statements -/
inductive SOut where
  | nx (st : List Sl)
  | bk (st : List Sl)
  | ct (st : List Sl)
  | rt (d : D) (st : List Sl)
  | ex (x : Er) (st : List Sl)
  | no
abbrev MS := List Sl → SOut
def Keep (P : List Nat) (σ σ' : L2.St) : Prop := (∀ i ∈ P, σ'[i]? = σ[i]?) ∧ σ'.length = σ.length
theorem Keep.refl {P : List Nat} {σ : L2.St} : Keep P σ σ := ⟨fun _ _ => rfl, rfl⟩
theorem Keep.trans {P : List Nat} {σ σ1 σ2 : L2.St} (a : Keep P σ σ1) (b : Keep P σ1 σ2) : Keep P σ σ2 := ⟨fun i h => (b.1 i h).trans (a.1 i h), b.2.trans a.2⟩
theorem Keep.set {P : List Nat} {σ : L2.St} {i : Nat} {v : Option V} (h : i ∉ P) : Keep P σ (σ.set i v) := ⟨fun j hj => by
  rw [List.getElem?_set_ne]
  intro z
  subst z
  exact h hj, List.length_set ..⟩
section
variable (Γ : Gm) (K : PySem.W.Frag) (W : WX) (P : List Nat)
def finS (F : Hp) (st : List Sl) (σ : L2.St) (H : Hp) (o : SOut) (Dn : Ends) : Prop := match o with
  | .nx st' => ∀ σ' H' F', Sim K Γ.T F' st' σ' H' → Grow F st σ H F' st' σ' H' → Keep P σ σ' → Dn.nx σ' H'
  | .bk st' => ∀ σ' H' F', Sim K Γ.T F' st' σ' H' → Grow F st σ H F' st' σ' H' → Keep P σ σ' → Dn.bk σ' H'
  | .ct st' => ∀ σ' H' F', Sim K Γ.T F' st' σ' H' → Grow F st σ H F' st' σ' H' → Keep P σ σ' → Dn.ct σ' H'
  | .rt d st' => ∀ v σ' H' F', Sim K Γ.T F' st' σ' H' → Grow F st σ H F' st' σ' H' → Keep P σ σ' → Rp K F' d v → Dn.rt v H'
  | .ex x st' => ∀ cls dx σ' H' F', Sim K Γ.T F' st' σ' H' → Grow F st σ H F' st' σ' H' → Keep P σ σ' → ErR Γ K F' H' x cls dx → W cls dx σ' H'
  | .no => False
def rS (f : MS) : TS := fun Dn σ H => ∃ st F, Sim K Γ.T F st σ H ∧ finS Γ K W P F st σ H (f st) Dn
end
structure ES (Γ : Gm) (X : Cx) (W : WX) (P : List Nat) (s : Stmt) (f : MS) : Prop where
  ps : PS X s (rS Γ X.K W P f)
structure ESs (Γ : Gm) (X : Cx) (W : WX) (P : List Nat) (s : List Stmt) (f : MS) : Prop where
  ps : PSs X s (rS Γ X.K W P f)
def bindS {α : Type} (f : M α) (g : α → MS) : MS := fun st => match f st with
  | .ok a st1 => g a st1
  | .ex x st1 => .ex x st1
  | .no => .no
def seqS (f g : MS) : MS := fun st => match f st with
  | .nx st1 => g st1
  | o => o
section
variable {Γ : Gm} {K : PySem.W.Frag} {W : WX} {P : List Nat} {F H F1 H1 : Hp} {st st1 : List Sl} {σ σ1 : L2.St} {Dn : Ends} {α β : Type} {R : Rel α β}
theorem finS_mono {o : SOut} (G : Grow F st σ H F1 st1 σ1 H1) (k : Keep P σ σ1) (h : finS Γ K W P F st σ H o Dn) : finS Γ K W P F1 st1 σ1 H1 o Dn := by
  cases o with
  | nx st' => exact fun σ' H' F' S G' k' => h σ' H' F' S (G.trans G') (k.trans k')
  | bk st' => exact fun σ' H' F' S G' k' => h σ' H' F' S (G.trans G') (k.trans k')
  | ct st' => exact fun σ' H' F' S G' k' => h σ' H' F' S (G.trans G') (k.trans k')
  | rt d st' => exact fun v σ' H' F' S G' k' r => h v σ' H' F' S (G.trans G') (k.trans k') r
  | ex x st' => exact fun c dx σ' H' F' S G' k' r => h c dx σ' H' F' S (G.trans G') (k.trans k') r
  | no => exact h
theorem finS_bind {f : M α} {g : α → MS} {Q1 : β → Hp → Prop} (S : Sim K Γ.T F st σ H) (h : finS Γ K W P F st σ H (bindS f g st) Dn)
    (k : ∀ d st1 v H1 F1, Sim K Γ.T F1 st1 σ H1 → GrowE F st σ H F1 st1 H1 → R H F1 H1 d v → finS Γ K W P F st σ H (g d st1) Dn → Q1 v H1) : rd Γ K W R f σ H Q1 := by
  refine ⟨st, F, S, ?_⟩
  unfold bindS at h
  cases e : f st with
  | ok d st1 =>
    rw [e] at h
    exact fun v H' F' S1 G r => k d st1 v H' F' S1 G r h
  | ex x st1 =>
    rw [e] at h
    exact fun cls dx H' F' S' G' r => h cls dx σ H' F' S' G'.g Keep.refl r
  | no =>
    rw [e] at h
    exact h
end
section
variable {Γ : Gm} {X : Cx} {W : WX} {P : List Nat} {pos : Pos} {s : Stmt} {rest : List Stmt} {f g : MS} {fe : M D} {e : Expr}
theorem ess_nil : ESs Γ X W P [] (fun st => .nx st) := ⟨PSs.imp pss_nil fun D σ H ⟨st, F, S, h⟩ => h σ H F S .refl .refl⟩
theorem seq_ok : ∀ D σ H, rS Γ X.K W P (seqS f g) D σ H → tSeq (rS Γ X.K W P f) (rS Γ X.K W P g) D σ H := by
  intro D σ H ⟨st, F, S, h⟩
  refine ⟨st, F, S, ?_⟩
  unfold seqS at h
  cases q : f st with
  | nx st1 =>
    rw [q] at h
    exact fun σ' H' F' S1 G k => ⟨st1, F', S1, finS_mono G k h⟩
  | bk st1 => rw [q] at h; exact h
  | ct st1 => rw [q] at h; exact h
  | rt d st1 => rw [q] at h; exact h
  | ex x st1 => rw [q] at h; exact h
  | no => rw [q] at h; exact h
theorem ess_cons (h1 : ES Γ X W P s f) (h2 : ESs Γ X W P rest g) : ESs Γ X W P (s :: rest) (seqS f g) := ⟨PSs.imp (pss_cons h1.ps h2.ps) seq_ok⟩
theorem ess_one (h1 : ES Γ X W P s f) : ESs Γ X W P [s] f := ⟨pss_one h1.ps⟩
theorem es_pass : ES Γ X W P (.Pass pos) (fun st => .nx st) := ⟨PS.imp ps_pass fun D σ H ⟨st, F, S, h⟩ => h σ H F S .refl .refl⟩
theorem es_break : ES Γ X W P (.Break pos) (fun st => .bk st) := ⟨PS.imp ps_break fun D σ H ⟨st, F, S, h⟩ => h σ H F S .refl .refl⟩
theorem es_cont : ES Γ X W P (.Continue pos) (fun st => .ct st) := ⟨PS.imp ps_continue fun D σ H ⟨st, F, S, h⟩ => h σ H F S .refl .refl⟩
/-- a statement that is only its value's doing -/
def drpS (f : M D) : MS := bindS f fun _ st => .nx st
theorem es_expr (he : EV Γ X W e fe) (hs : swapsWith e none pos.line X.env = pure false := by rfl) : ES Γ X W P (.Expr e pos) (drpS fe) :=
  ⟨PS.imp (ps_expr he.pe hs) fun D σ H ⟨st, F, S, h⟩ => finS_bind S h fun d st1 v H1 F1 S1 G r q => q σ H1 F1 S1 G.g .refl⟩
def retS (f : M D) : MS := bindS f fun d st => .rt d st
theorem es_ret (he : EV Γ X W e fe) : ES Γ X W P (.Return (some e) pos) (retS fe) :=
  ⟨PS.imp (ps_ret he.pe) fun D σ H ⟨st, F, S, h⟩ => finS_bind S h fun d st1 v H1 F1 S1 G r q => q v σ H1 F1 S1 G.g .refl r⟩
theorem es_retN : ES Γ X W P (.Return none pos) (fun st => .rt .none st) := ⟨PS.imp ps_retN fun D σ H ⟨st, F, S, h⟩ => h .non σ H F S .refl .refl .non⟩
def iteS (p : M Bool) (f g : MS) : MS := bindS p fun c => if c = true then f else g
variable {p : M Bool} {a b : List Stmt}
theorem es_if (hc : ET Γ X W e p) (ha : ESs Γ X W P a f) (hb : ESs Γ X W P b g) : ES Γ X W P (.If e a b pos) (iteS p f g) := by
  refine ⟨PS.imp (ps_if hc.pt ha.ps hb.ps) fun D σ H ⟨st, F, S, h⟩ => finS_bind S h fun c st1 v H1 F1 S1 G r q => ?_⟩
  have r : v = c := r
  subst r
  cases v with
  | true => exact ⟨st1, F1, S1, finS_mono G.g .refl q⟩
  | false => exact ⟨st1, F1, S1, finS_mono G.g .refl q⟩
/-! ### slots stored -/
theorem own_there {K : PySem.W.Frag} {T : List (Addr × Str)} {F H : Hp} {st : List Sl} {σ : L2.St} (S : Sim K T F st σ H) {a : Addr} (o : OwnA st σ a) : ∃ u, H a = some u ∧ F a = none ∧ ∀ ps, u ≠ .tbl ps := by
  obtain ⟨i, d, h1, h2⟩ := o
  obtain ⟨b, u, h3, h4, h5, c⟩ := S.own i d h1
  rw [h2] at h3
  cases h3
  exact ⟨u, h5, h4, c.nt⟩
section
variable {K : PySem.W.Frag} {T : List (Addr × Str)} {F H : Hp} {st : List Sl} {σ : L2.St} {i : Nat} {v : V} {d : D}
theorem get_set {α : Type} {l : List α} {i j : Nat} {a b : α} (h : (l.set i a)[j]? = some b) : (j = i ∧ b = a) ∨ (j ≠ i ∧ l[j]? = some b) := by
  by_cases z : j = i
  · subst z
    have hl : j < l.length := by
      have := (List.getElem?_eq_some_iff.mp h).1
      simpa using this
    rw [List.getElem?_set_self hl] at h
    cases h
    exact .inl ⟨rfl, rfl⟩
  · rw [List.getElem?_set_ne (Ne.symm z)] at h
    exact .inr ⟨z, h⟩
theorem set_get {α : Type} {l : List α} {i : Nat} {a : α} (h : i < l.length) : (l.set i a)[i]? = some a := List.getElem?_set_self h
theorem set_ne {α : Type} {l : List α} {i j : Nat} {a : α} (h : j ≠ i) : (l.set i a)[j]? = l[j]? := List.getElem?_set_ne (Ne.symm h)
/-- data is put into a slot -/
theorem Sim.setD (S : Sim K T F st σ H) (r : Rp K F d v) : Sim K T F (st.set i (.dat d)) (σ.set i (some v)) H where
  len := by rw [List.length_set, List.length_set]; exact S.len
  sub := S.sub
  dat := fun j c q => by
    rcases get_set q with ⟨rfl, e⟩ | ⟨n, q⟩
    · cases e
      have hl := (List.getElem?_eq_some_iff.mp q).1
      rw [List.length_set, S.len] at hl
      exact ⟨v, set_get hl, r⟩
    · obtain ⟨u, h1, h2⟩ := S.dat j c q
      exact ⟨u, by rw [set_ne n]; exact h1, h2⟩
  own := fun j c q => by
    rcases get_set q with ⟨rfl, e⟩ | ⟨n, q⟩
    · cases e
    · obtain ⟨a, o, h1, h2⟩ := S.own j c q
      exact ⟨a, o, by rw [set_ne n]; exact h1, h2⟩
  scr := fun j c q => by
    rcases get_set q with ⟨rfl, e⟩ | ⟨n, q⟩
    · cases e
    · obtain ⟨a, h1, h2⟩ := S.scr j c q
      exact ⟨a, by rw [set_ne n]; exact h1, h2⟩
  inj := fun j k c c' a h1 h2 h3 h4 => by
    rcases get_set h1 with ⟨rfl, e⟩ | ⟨n1, h1⟩
    · cases e
    · rcases get_set h2 with ⟨rfl, e⟩ | ⟨n2, h2⟩
      · cases e
      · rw [set_ne n1] at h3
        rw [set_ne n2] at h4
        exact S.inj j k c c' a h1 h2 h3 h4
  tab := S.tab
theorem OwnA.setD {a : Addr} {w : Option V} (o : OwnA (st.set i (.dat d)) (σ.set i w) a) : OwnA st σ a := by
  obtain ⟨j, c, h1, h2⟩ := o
  rcases get_set h1 with ⟨rfl, e⟩ | ⟨n, h1⟩
  · cases e
  · rw [set_ne n] at h2
    exact ⟨j, c, h1, h2⟩
theorem grow_setD : Grow F st σ H F (st.set i (.dat d)) (σ.set i (some v)) H := ⟨fun _ _ h => h, fun _ _ h _ _ => h, fun _ _ h => .inl h, fun _ h => .inl h.setD, fun _ h => h⟩
/-- a new object is put into a slot -/
theorem Sim.setN {a : Addr} {o : HO} (S : Sim K T F st σ H) (n : F a = none) (e : H a = some o) (r : RpC K F d o) (no : ¬ OwnA st σ a) : Sim K T F (st.set i (.own d)) (σ.set i (some (.ref a))) H where
  len := by rw [List.length_set, List.length_set]; exact S.len
  sub := S.sub
  dat := fun j c q => by
    rcases get_set q with ⟨rfl, e⟩ | ⟨n, q⟩
    · cases e
    · obtain ⟨u, h1, h2⟩ := S.dat j c q
      exact ⟨u, by rw [set_ne n]; exact h1, h2⟩
  own := fun j c q => by
    rcases get_set q with ⟨rfl, e2⟩ | ⟨n, q⟩
    · cases e2
      have hl := (List.getElem?_eq_some_iff.mp q).1
      rw [List.length_set, S.len] at hl
      exact ⟨a, o, set_get hl, n, e, r⟩
    · obtain ⟨a, o, h1, h2⟩ := S.own j c q
      exact ⟨a, o, by rw [set_ne n]; exact h1, h2⟩
  scr := fun j c q => by
    rcases get_set q with ⟨rfl, e⟩ | ⟨n, q⟩
    · cases e
    · obtain ⟨a, h1, h2⟩ := S.scr j c q
      exact ⟨a, by rw [set_ne n]; exact h1, h2⟩
  inj := fun j k c c' b h1 h2 h3 h4 => by
    rcases get_set h1 with ⟨e0, e1⟩ | ⟨n1, h1⟩
    · rcases get_set h2 with ⟨f0, e2⟩ | ⟨n2, h2⟩
      · rw [e0, f0]
      · rw [set_ne n2] at h4
        rcases get_set h3 with ⟨_, e3⟩ | ⟨n3, _⟩
        · cases e3
          exact absurd ⟨k, c', h2, h4⟩ no
        · exact absurd e0 n3
    · rw [set_ne n1] at h3
      rcases get_set h2 with ⟨f0, e2⟩ | ⟨n2, h2⟩
      · rcases get_set h4 with ⟨_, e3⟩ | ⟨n3, _⟩
        · cases e3
          exact absurd ⟨j, c, h1, h3⟩ no
        · exact absurd f0 n3
      · rw [set_ne n2] at h4
        exact S.inj j k c c' b h1 h2 h3 h4
  tab := S.tab
theorem OwnA.setN {a b : Addr} (o : OwnA (st.set i (.own d)) (σ.set i (some (.ref a))) b) : OwnA st σ b ∨ b = a := by
  obtain ⟨j, c, h1, h2⟩ := o
  rcases get_set h1 with ⟨e0, e⟩ | ⟨n, h1⟩
  · rcases get_set h2 with ⟨_, e3⟩ | ⟨n3, _⟩
    · cases e3
      exact .inr rfl
    · exact absurd e0 n3
  · rw [set_ne n] at h2
    exact .inl ⟨j, c, h1, h2⟩
end
/-! ### values to be stored: data, or new objects -/
inductive RpM (K : PySem.W.Frag) (H F' H' : Hp) : List (Bool × D) → List V → List Addr → Prop
  | nil : RpM K H F' H' [] [] []
  | dat {d : D} {v : V} {ds : List (Bool × D)} {vs : List V} {as : List Addr} : Rp K F' d v → RpM K H F' H' ds vs as → RpM K H F' H' ((false, d) :: ds) (v :: vs) as
  | new {d : D} {a : Addr} {o : HO} {ds : List (Bool × D)} {vs : List V} {as : List Addr} : Fr H a → F' a = none → H' a = some o → RpC K F' d o → a ∉ as → RpM K H F' H' ds vs as → RpM K H F' H' ((true, d) :: ds) (.ref a :: vs) (a :: as)
def rM (K : PySem.W.Frag) : Rel (List (Bool × D)) (List V) := fun H F' H' ds vs => ∃ as, RpM K H F' H' ds vs as
theorem RpM.early {K : PySem.W.Frag} {H0 H F' H' : Hp} (g : ∀ a, Fr H a → Fr H0 a) {ds vs as} (r : RpM K H F' H' ds vs as) : RpM K H0 F' H' ds vs as := by
  induction r with
  | nil => exact .nil
  | dat r _ ih => exact .dat r ih
  | new h1 h2 h3 h4 h5 _ ih => exact .new (g _ h1) h2 h3 h4 h5 ih
theorem rM_mono {K : PySem.W.Frag} : RelMono (rM K) := fun _ _ _ _ _ _ g ⟨as, r⟩ => ⟨as, r.early g⟩
theorem RpM.noneA {K : PySem.W.Frag} {H F' H' : Hp} {ds vs as} (r : RpM K H F' H' ds vs as) : ∀ a ∈ as, Fr H a := by
  induction r with
  | nil => intro a ha; simp at ha
  | dat _ _ ih => exact ih
  | new h1 _ _ _ _ _ ih =>
    intro a ha
    rcases List.mem_cons.mp ha with rfl | ha
    · exact h1
    · exact ih a ha
structure EM (Γ : Gm) (X : Cx) (W : WX) (es : List Expr) (f : M (List (Bool × D))) : Prop where
  pa : PA X es (rd Γ X.K W (rM X.K) f)
theorem em_nil : EM Γ X W [] mNil := ⟨PA.imp pa_nil fun σ H Q ⟨st, F, S, h⟩ => fin_ret S h ⟨[], .nil⟩⟩
/-- what was new stays so -/
theorem RpM.later {K : PySem.W.Frag} {T : List (Addr × Str)} {H0 H F1 F2 H2 : Hp} {st1 st2 : List Sl} {σ : L2.St} (no : ∀ a, Fr H0 a → ¬ OwnA st1 σ a) (G : GrowE F1 st1 σ H F2 st2 H2) {ds vs as} (r : RpM K H0 F1 H ds vs as) : RpM K H0 F2 H2 ds vs as := by
  induction r with
  | nil => exact .nil
  | dat r _ ih => exact .dat (r.mono G.g.gF) ih
  | new h1 h2 h3 h4 h5 _ ih =>
    refine .new h1 ?_ (G.g.gH _ _ h3 (no _ h1) h4.nt) (h4.mono G.g.gF) h5 ih
    rename_i a _ _ _ _ _
    cases q : F2 a with
    | none => rfl
    | some u =>
      rcases G.g.gN _ _ q with z | z | z
      · rw [h2] at z; cases z
      · exact absurd z (no _ h1)
      · exact (z.no h3 h4.nt).elim
theorem not_own {K : PySem.W.Frag} {T : List (Addr × Str)} {F H F1 H1 : Hp} {st st1 : List Sl} {σ : L2.St} (S : Sim K T F st σ H) (G : GrowE F st σ H F1 st1 H1) : ∀ a, Fr H a → ¬ OwnA st1 σ a := fun a n z => by
  obtain ⟨u, h, _, nt⟩ := own_there S (G.os a z)
  exact n.no h nt
def mDat (f : M D) (g : M (List (Bool × D))) : M (List (Bool × D)) := f.bind fun d => g.bind fun xs => M.ret ((false, d) :: xs)
def mNew (f : M D) (g : M (List (Bool × D))) : M (List (Bool × D)) := f.bind fun d => g.bind fun xs => M.ret ((true, d) :: xs)
theorem em_dat {es : List Expr} {fs : M (List (Bool × D))} {fe : M D} (ha : EV Γ X W e fe) (hr : EM Γ X W es fs) (hs : starEach (e :: es) X.env = (false, eval e X.env) :: starEach es X.env := by rfl) : EM Γ X W (e :: es) (mDat fe fs) := by
  refine ⟨PA.imp (pa_cons ha.pe hr.pa hs) fun σ H Q ⟨st, F, S, h⟩ => fin_bindA S GrowE.refl h fun d st1 v H1 F1 S1 G1 r1 h1 => fin_bindA S1 G1 h1 fun ds st2 vs H2 F2 S2 G2 r2 h2 => ?_⟩
  obtain ⟨as, r2⟩ := r2
  exact h2 _ _ _ S2 (G1.trans G2) ⟨as, .dat (Rp.mono G2.g.gF r1) (r2.early G1.g.gD)⟩
theorem em_new {es : List Expr} {fs : M (List (Bool × D))} {fe : M D} (ha : EN Γ X W e fe) (hr : EM Γ X W es fs) (hs : starEach (e :: es) X.env = (false, eval e X.env) :: starEach es X.env := by rfl) : EM Γ X W (e :: es) (mNew fe fs) := by
  refine ⟨PA.imp (pa_cons ha.pe hr.pa hs) fun σ H Q ⟨st, F, S, h⟩ => fin_bindA S GrowE.refl h fun d st1 v H1 F1 S1 G1 r1 h1 => fin_bindA S1 G1 h1 fun ds st2 vs H2 F2 S2 G2 r2 h2 => ?_⟩
  obtain ⟨as, r2⟩ := r2
  obtain ⟨a, o, rfl, n, n1, e1, c⟩ := r1
  have q : RpM X.K H F1 H1 [(true, d)] [.ref a] [a] := .new n n1 e1 c (by simp) .nil
  have q2 := q.later (T := Γ.T) (not_own S G1) G2
  cases q2 with
  | new k1 k2 k3 k4 k5 _ =>
    refine h2 _ _ _ S2 (G1.trans G2) ⟨a :: as, .new k1 k2 k3 k4 (fun z => ?_) (r2.early G1.g.gD)⟩
    exact (r2.noneA a z).no e1 c.nt
/-- several slots are stored -/
def put : List Nat → List (Bool × D) → List Sl → List Sl
  | i :: is, (b, d) :: ds, st => put is ds (st.set i (if b = true then .own d else .dat d))
  | _, _, st => st
def putV : List Nat → List V → L2.St → L2.St
  | i :: is, v :: vs, σ => putV is vs (σ.set i (some v))
  | _, _, σ => σ
theorem Sim.put {K : PySem.W.Frag} {T : List (Addr × Str)} {F H H0 : Hp} {ds vs as} (r : RpM K H0 F H ds vs as) : ∀ {is : List Nat} {st : List Sl} {σ : L2.St}, Sim K T F st σ H → (∀ a ∈ as, ¬ OwnA st σ a) → Sim K T F (Sk.put is ds st) (putV is vs σ) H ∧ ∀ a, OwnA (Sk.put is ds st) (putV is vs σ) a → OwnA st σ a ∨ a ∈ as := by
  induction r with
  | nil => intro is st σ S no; cases is <;> exact ⟨S, fun a h => .inl h⟩
  | dat r _ ih =>
    intro is st σ S no
    cases is with
    | nil => exact ⟨S, fun a h => .inl h⟩
    | cons i is =>
      obtain ⟨q1, q2⟩ := ih (is := is) (S.setD (i := i) r) fun a ha z => no a ha z.setD
      exact ⟨q1, fun a h => (q2 a h).imp (fun z => z.setD) id⟩
  | new h1 h2 h3 h4 h5 _ ih =>
    intro is st σ S no
    cases is with
    | nil => exact ⟨S, fun a h => .inl h⟩
    | cons i is =>
      rename_i d a o ds vs as _
      have na : ¬ OwnA st σ a := no _ (List.mem_cons_self ..)
      obtain ⟨q1, q2⟩ := ih (is := is) (S.setN (i := i) h2 h3 h4 na) fun b hb z => by
        rcases z.setN with z | z
        · exact no b (List.mem_cons_of_mem _ hb) z
        · rw [z] at hb
          exact h5 hb
      refine ⟨q1, fun b hb => ?_⟩
      rcases q2 b hb with z | z
      · rcases z.setN with z | z
        · exact .inl z
        · exact .inr (by rw [z]; exact List.mem_cons_self ..)
      · exact .inr (List.mem_cons_of_mem _ z)
theorem keep_put : ∀ {is : List Nat} {vs : List V} {σ : L2.St}, (∀ i ∈ is, i ∉ P) → Keep P σ (putV is vs σ)
  | [], _, _, _ => Keep.refl
  | _ :: _, [], _, _ => Keep.refl
  | i :: is, v :: vs, σ, h => (Keep.set (h i (List.mem_cons_self ..))).trans (keep_put fun j hj => h j (List.mem_cons_of_mem _ hj))
def putS (is : List Nat) (f : M (List (Bool × D))) : MS := bindS f fun ds st => if ds.length = is.length then .nx (put is ds st) else .no
theorem put_end {F H : Hp} {st : List Sl} {σ : L2.St} {Dn : Ends} {is : List Nat} {ds vs} {st1 : List Sl} {F1 H1 : Hp} (S : Sim X.K Γ.T F st σ H) (hi : ∀ i ∈ is, i ∉ P) (S1 : Sim X.K Γ.T F1 st1 σ H1) (G : GrowE F st σ H F1 st1 H1) (r : rM X.K H F1 H1 ds vs) (q : finS Γ X.K W P F st σ H (if ds.length = is.length then .nx (put is ds st1) else .no) Dn) :
    ds.length = is.length ∧ Dn.nx (putV is vs σ) H1 := by
  by_cases z : ds.length = is.length
  · rw [if_pos z] at q
    obtain ⟨as, r⟩ := r
    obtain ⟨S2, o2⟩ := Sim.put r (is := is) S1 fun a ha => not_own S G a (r.noneA a ha)
    refine ⟨z, q _ _ F1 S2 ⟨G.g.gF, G.g.gH, G.g.gN, fun a h => ?_, G.g.gD⟩ (keep_put hi)⟩
    rcases o2 a h with z | z
    · exact .inl (G.os a z)
    · exact .inr (r.noneA a z)
  · rw [if_neg z] at q
    exact q.elim
theorem RpM.length {K : PySem.W.Frag} {H F' H' : Hp} {ds vs as} (r : RpM K H F' H' ds vs as) : ds.length = vs.length := by
  induction r with
  | nil => rfl
  | dat _ _ ih => simp [ih]
  | new _ _ _ _ _ _ ih => simp [ih]
/-- name = value -/
def setS (i : Nat) (f : M D) : MS := bindS f fun d st => .nx (st.set i (.dat d))
def setN (i : Nat) (f : M D) : MS := bindS f fun d st => .nx (st.set i (.own d))
theorem es_set {i : Nat} {x : Str} {pos' : Pos} {fe : M D} (hN : X.N.Nodup) (hP : i ∉ P) (he : EV Γ X W e fe) (hi : X.N[i]? = some x := by rfl) (hx : Loc X.env.scope x := by first | exact Or.inl rfl | exact Or.inr rfl) (hs : swapsWith e (some (.Name x pos')) pos.line X.env = pure false := by rfl)
    (hf : X.fn x = true ∨ X.env.scope.names.lookup x = some .local := by first | exact .inl rfl | exact .inr rfl) : ES Γ X W P (.Assign [.Name x pos'] e pos) (setS i fe) :=
  ⟨PS.imp (ps_set hN hi hx he.pe hs hf) fun D σ H ⟨st, F, S, h⟩ => finS_bind S h fun d st1 v H1 F1 S1 G r q => by
    have r : Rp X.K F1 d v := r
    exact q _ _ F1 (S1.setD r) (G.g.trans grow_setD) (Keep.set hP)⟩
theorem es_setN {i : Nat} {x : Str} {pos' : Pos} {fe : M D} (hN : X.N.Nodup) (hP : i ∉ P) (he : EN Γ X W e fe) (hi : X.N[i]? = some x := by rfl) (hx : Loc X.env.scope x := by first | exact Or.inl rfl | exact Or.inr rfl) (hs : swapsWith e (some (.Name x pos')) pos.line X.env = pure false := by rfl)
    (hf : X.fn x = true ∨ X.env.scope.names.lookup x = some .local := by first | exact .inl rfl | exact .inr rfl) : ES Γ X W P (.Assign [.Name x pos'] e pos) (setN i fe) :=
  ⟨PS.imp (ps_set hN hi hx he.pe hs hf) fun D σ H ⟨st, F, S, h⟩ => finS_bind S h fun d st1 v H1 F1 S1 G r q => by
    obtain ⟨a, o, rfl, n, n1, e1, c⟩ := r
    have no := not_own S G a n
    refine q _ _ F1 (S1.setN n1 e1 c no) ⟨G.g.gF, G.g.gH, G.g.gN, fun b hb => ?_, G.g.gD⟩ (Keep.set hP)
    rcases hb.setN with z | z
    · exact .inl (G.os b z)
    · rw [z]; exact .inr n⟩
/-- a, b = x, y: plain local names -/
theorem es_par {i j : Nat} {x y : Str} {a b : Expr} {px py pt : Pos} {kt k2 pt2} {fs : M (List (Bool × D))} (hc : X.calm = true) (hN : X.N.Nodup) (hP : ∀ k ∈ [i, j], k ∉ P) (ha : EM Γ X W [a, b] fs) (hij : i ≠ j) (hi : X.N[i]? = some x := by rfl) (hj : X.N[j]? = some y := by rfl)
    (hx : X.env.scope.names.lookup x = some .local := by rfl) (hy : X.env.scope.names.lookup y = some .local := by rfl)
    (hw : swappedStores [.Tuple [.Name x px, .Name y py] kt pt] (.Tuple [a, b] k2 pt2) X.env = pure (some [x, y]) := by rfl)
    (hs : swapsWithSole [.Tuple [.Name x px, .Name y py] kt pt] (.Tuple [a, b] k2 pt2) pos.line X.env = pure false := by rfl) :
    ES Γ X W P (.Assign [.Tuple [.Name x px, .Name y py] kt pt] (.Tuple [a, b] k2 pt2) pos) (putS [i, j] fs) :=
  ⟨PS.imp (ps_par hc hN hi hj hij hx hy ha.pa hw hs) fun D σ H ⟨st, F, S, h⟩ => finS_bind S h fun ds st1 vs H1 F1 S1 G r q => by
    obtain ⟨z, q⟩ := put_end S hP S1 G r q
    obtain ⟨as, r⟩ := r
    have l := r.length
    rw [z] at l
    match vs, l, q with
    | [v, w], _, q => exact ⟨v, w, rfl, q⟩⟩
theorem es_par3 {i j l : Nat} {x y z : Str} {a b c : Expr} {px py pz pt : Pos} {kt k2 pt2} {fs : M (List (Bool × D))} (hc : X.calm = true) (hN : X.N.Nodup) (hP : ∀ k ∈ [i, j, l], k ∉ P) (ha : EM Γ X W [a, b, c] fs) (hij : i ≠ j) (hil : i ≠ l) (hjl : j ≠ l) (hi : X.N[i]? = some x := by rfl) (hj : X.N[j]? = some y := by rfl) (hl : X.N[l]? = some z := by rfl)
    (hx : X.env.scope.names.lookup x = some .local := by rfl) (hy : X.env.scope.names.lookup y = some .local := by rfl) (hz : X.env.scope.names.lookup z = some .local := by rfl)
    (hw : swappedStores [.Tuple [.Name x px, .Name y py, .Name z pz] kt pt] (.Tuple [a, b, c] k2 pt2) X.env = pure (some [x, y, z]) := by rfl)
    (hs : swapsWithSole [.Tuple [.Name x px, .Name y py, .Name z pz] kt pt] (.Tuple [a, b, c] k2 pt2) pos.line X.env = pure false := by rfl) :
    ES Γ X W P (.Assign [.Tuple [.Name x px, .Name y py, .Name z pz] kt pt] (.Tuple [a, b, c] k2 pt2) pos) (putS [i, j, l] fs) :=
  ⟨PS.imp (ps_par3 hc hN hi hj hl hij hil hjl hx hy hz ha.pa hw hs) fun D σ H ⟨st, F, S, h⟩ => finS_bind S h fun ds st1 vs H1 F1 S1 G r q => by
    obtain ⟨zz, q⟩ := put_end S hP S1 G r q
    obtain ⟨as, r⟩ := r
    have ln := r.length
    rw [zz] at ln
    match vs, ln, q with
    | [u, v, w], _, q => exact ⟨u, v, w, rfl, q⟩⟩
end
end Sk
set_option maxHeartbeats 1000000
namespace Sk
open PySem PySem.Spec PyProof.Rows L2
/-! ### targets -/
inductive Tg where
  | nm (i : Nat)
  | tp (is : List Nat)
def Tg.ix : Tg → List Nat
  | .nm i => [i]
  | .tp is => is
def asg : Tg → D → List Sl → Option (List Sl)
  | .nm i, d, st => some (st.set i (.dat d))
  | .tp is, .tuple ds, st => if ds.length = is.length then some (put is (ds.map fun d => (false, d)) st) else none
  | _, _, _ => none
theorem putV_len : ∀ (is : List Nat) (vs : List V) (σ : L2.St), (putV is vs σ).length = σ.length
  | [], _, _ => rfl
  | _ :: _, [], _ => rfl
  | i :: is, v :: vs, σ => by
    show (putV is vs (σ.set i (some v))).length = σ.length
    rw [putV_len is vs, List.length_set]
theorem putV_out : ∀ {is : List Nat} {vs : List V} {σ : L2.St} {j : Nat}, j ∉ is → (putV is vs σ)[j]? = σ[j]?
  | [], _, _, _, _ => rfl
  | _ :: _, [], _, _, _ => rfl
  | i :: is, v :: vs, σ, j, h => by
    show (putV is vs (σ.set i (some v)))[j]? = σ[j]?
    rw [putV_out fun z => h (List.mem_cons_of_mem _ z), set_ne fun z => h (by rw [z]; exact List.mem_cons_self ..)]
theorem RpA.rpM {K : PySem.W.Frag} {H F' H' : Hp} {ds : List D} {vs : List V} (r : RpA K F' ds vs) : RpM K H F' H' (ds.map fun d => (false, d)) vs [] := by
  induction ds generalizing vs with
  | nil => cases r; exact .nil
  | cons d ds ih => cases r with | cons a t => exact .dat a (ih t)
/-- a target: what its store is by values -/
structure EG (X : Cx) (tg : Expr) (t : Tg) (g : TG) : Prop where
  pg : PG X tg g
  sp : ∀ {T : List (Addr × Str)} {F H : Hp} {st st' : List Sl} {σ : L2.St} {d : D} {v : V} {Q : L2.St → Hp → Prop}, Sim X.K T F st σ H → Rp X.K F d v → asg t d st = some st' →
    (∀ σ', Sim X.K T F st' σ' H → (∀ a, OwnA st' σ' a → OwnA st σ a) → (∀ j, j ∉ t.ix → σ'[j]? = σ[j]?) → σ'.length = σ.length → Q σ' H) → g v σ H Q
section
variable {X : Cx} {pos : Pos}
theorem eg_nm {i : Nat} {x : Str} (hN : X.N.Nodup) (hi : X.N[i]? = some x := by rfl) (hx : Loc X.env.scope x := by first | exact Or.inl rfl | exact Or.inr rfl)
    (hf : X.fn x = true ∨ X.env.scope.names.lookup x = some .local := by first | exact .inl rfl | exact .inr rfl) : EG X (.Name x pos) (.nm i) (gName i) where
  pg := pg_name hN hi hx hf
  sp := by
    intro T F H st st' σ d v Q S r h k
    cases h
    refine k _ (S.setD r) (fun a o => o.setD) (fun j hj => set_ne fun z => hj ?_) (List.length_set ..)
    rw [z]
    exact List.mem_cons_self ..
structure EGs (X : Cx) (ts : List Expr) (is : List Nat) (g : TGs) : Prop where
  pgs : PGs X ts g
  sp : ∀ {vs : List V} {σ : L2.St} {H : Hp} {Q : L2.St → Hp → Prop}, vs.length = is.length → Q (putV is vs σ) H → g vs σ H Q
theorem egs_nil : EGs X [] [] gNil := ⟨pgs_nil, fun {vs σ H Q} l q => by
  cases vs with
  | nil => exact ⟨rfl, q⟩
  | cons _ _ => cases l⟩
theorem egs_cons {i : Nat} {x : Str} {es : List Expr} {is : List Nat} {u : TGs} (hN : X.N.Nodup) (h2 : EGs X es is u) (hi : X.N[i]? = some x := by rfl) (hx : Loc X.env.scope x := by first | exact Or.inl rfl | exact Or.inr rfl)
    (hf : X.fn x = true ∨ X.env.scope.names.lookup x = some .local := by first | exact .inl rfl | exact .inr rfl) (hs : (assignEach (.Name x pos :: es) X.env).map (·.2) = assign (.Name x pos) X.env :: (assignEach es X.env).map (·.2) := by rfl) :
    EGs X (.Name x pos :: es) (i :: is) (gCons (gName i) u) := ⟨pgs_cons (pg_name hN hi hx hf) h2.pgs hs, fun {vs σ H Q} l q => by
  cases vs with
  | nil => cases l
  | cons v vs => exact ⟨v, vs, rfl, h2.sp (by simpa using l) q⟩⟩
theorem eg_tp {es : List Expr} {k : Nat} {is : List Nat} {n : Nat} {u : TGs} (hc : X.calm = true) (h : EGs X es is u) (hl : is.length = n := by rfl) (hn : (assignEach es X.env).length = n := by rfl) (hst : (assignEach es X.env).findIdx? (·.1) = none := by rfl) :
    EG X (.Tuple es k pos) (.tp is) (gTup X.K n u) where
  pg := pg_tup hc h.pgs hn hst
  sp := by
    intro T F H st st' σ d v Q S r e kk
    cases d with
    | tuple ds =>
      simp only [asg] at e
      split at e
      · rename_i z
        cases e
        cases r with
        | tup sx qx =>
          rename_i a xs
          have lx : xs.length = is.length := by rw [← qx.length]; exact z
          refine ⟨a, xs, rfl, sqT_mono S.sub1 sx.sq, by rw [lx, hl], h.sp lx ?_⟩
          obtain ⟨S2, o2⟩ := Sim.put (H0 := H) (H := H) (RpA.rpM qx) (is := is) S (fun a ha => by simp at ha)
          exact kk _ S2 (fun a o => (o2 a o).elim id fun z => by simp at z) (fun j hj => putV_out hj) (putV_len ..)
      · cases e
    | _ => cases e
end
/-! ### slots forgotten -/
def killS (vs : List Nat) (st : List Sl) : List Sl := vs.foldl (fun s i => s.set i .un) st
section
variable {K : PySem.W.Frag} {T : List (Addr × Str)} {F H : Hp} {st : List Sl} {σ : L2.St}
theorem get_un {i j : Nat} {b : Sl} (hb : b ≠ .un) (h : (st.set i Sl.un)[j]? = some b) : j ≠ i ∧ st[j]? = some b := by
  rcases get_set h with ⟨_, e⟩ | q
  · exact absurd e hb
  · exact q
theorem Sim.kill1 (S : Sim K T F st σ H) (i : Nat) : Sim K T F (st.set i .un) σ H where
  len := by rw [List.length_set]; exact S.len
  sub := S.sub
  dat := fun j c q => S.dat j c (get_un (by intro z; cases z) q).2
  own := fun j c q => S.own j c (get_un (by intro z; cases z) q).2
  scr := fun j c q => S.scr j c (get_un (by intro z; cases z) q).2
  inj := fun j k c c' a h1 h2 => S.inj j k c c' a (get_un (by intro z; cases z) h1).2 (get_un (by intro z; cases z) h2).2
  tab := S.tab
theorem OwnA.kill1 {i : Nat} {a : Addr} (o : OwnA (st.set i .un) σ a) : OwnA st σ a := by
  obtain ⟨j, c, h1, h2⟩ := o
  exact ⟨j, c, (get_un (by intro z; cases z) h1).2, h2⟩
theorem Sim.kill (S : Sim K T F st σ H) (vs : List Nat) : Sim K T F (killS vs st) σ H := by
  induction vs generalizing st with
  | nil => exact S
  | cons i vs ih => exact ih (S.kill1 i)
theorem OwnA.kill {vs : List Nat} {a : Addr} (o : OwnA (killS vs st) σ a) : OwnA st σ a := by
  induction vs generalizing st with
  | nil => exact o
  | cons i vs ih => exact (ih (st := st.set i .un) o).kill1
theorem grow_kill {vs : List Nat} : Grow F st σ H F (killS vs st) σ H := ⟨fun _ _ h => h, fun _ _ h _ _ => h, fun _ _ h => .inl h, fun _ h => .inl h.kill, fun _ h => h⟩
theorem killS_get {vs : List Nat} {j : Nat} {b : Sl} (hb : b ≠ .un) (h : (killS vs st)[j]? = some b) : j ∉ vs ∧ st[j]? = some b := by
  induction vs generalizing st with
  | nil => exact ⟨by simp, h⟩
  | cons i vs ih =>
    obtain ⟨h1, h2⟩ := ih (st := st.set i .un) h
    obtain ⟨h3, h4⟩ := get_un hb h2
    exact ⟨fun z => (List.mem_cons.mp z).elim h3 h1, h4⟩
end
/-! ### what is walked -/
/-- J goes through the items ds -/
def WalkD (K : PySem.W.Frag) (J : It) (ds : List D) (F : Hp) : Prop :=
  ∀ (i : Nat) (H' F' : Hp), (∀ a o, F a = some o → F' a = some o) → FS F' H' →
    (∀ d, ds[i]? = some d → J.go i H' ∧ ∀ x H'', J.yld i H' x H'' → ∃ F'', Add F' H' F'' H'' ∧ Rp K F'' d x) ∧ (ds.length ≤ i → J.stop i H')
def rW (K : PySem.W.Frag) : Rel (List D) It := fun _ F' _ ds J => WalkD K J ds F'
theorem rW_mono {K : PySem.W.Frag} : RelMono (rW K) := fun _ _ _ _ _ _ _ r => r
structure EI (Γ : Gm) (X : Cx) (W : WX) (tg iter : Expr) (f : M (List D)) : Prop where
  pi : PI X tg iter (rd Γ X.K W (rW X.K) f)
theorem PI.imp {X : Cx} {tg iter : Expr} {w w' : TI} (h : PI X tg iter w) (i : ∀ σ H R, w' σ H R → w σ H R) : PI X tg iter w' := ⟨fun pins s σ H R I q => h.run pins s σ H R I (i σ H R q)⟩
theorem PI.or {X : Cx} {tg iter : Expr} {w w' : TI} (h : PI X tg iter w) (h' : PI X tg iter w') : PI X tg iter (fun σ H R => w σ H R ∨ w' σ H R) := ⟨fun pins s σ H R I q => q.elim (h.run pins s σ H R I) (h'.run pins s σ H R I)⟩
def seqM (f : M D) : M (List D) := f.bind fun d => match d with
  | .list ds => M.ret ds
  | .tuple ds => M.ret ds
  | _ => M.fail
section
variable {Γ : Gm} {X : Cx} {W : WX} {tg : Expr} {pos : Pos}
theorem walk_l {F : Hp} {a : Addr} {xs : List V} {ds : List D} (e : F a = some (.lst xs)) (r : RpA X.K F ds xs) : WalkD X.K (Itl X.K a) ds F := by
  intro i H' F' m fs
  have e' : H' a = some (.lst xs) := (fs _ _ (m _ _ e)).1
  have q : SqL X.K H' a xs := .inl (.inl e')
  refine ⟨fun d hd => ?_, fun hl => ⟨xs, q, by rw [← r.length]; exact hl⟩⟩
  obtain ⟨v, hv, rv⟩ := r.get hd
  refine ⟨⟨xs, v, q, hv⟩, fun x H'' y => ?_⟩
  obtain ⟨rfl, y⟩ := y
  have := y xs q
  rw [hv] at this
  cases this
  exact ⟨F', Add.refl fs, rv.mono m⟩
theorem walk_t {F : Hp} {a : Addr} {xs : List V} {ds : List D} (e : SqT X.K F a xs) (r : RpA X.K F ds xs) : WalkD X.K (Itt X.K a) ds F := by
  intro i H' F' m fs
  have q : SqT X.K H' a xs := sqT_mono (fun b o h => (fs _ _ (m _ _ h)).1) e
  refine ⟨fun d hd => ?_, fun hl => ⟨xs, q, by rw [← r.length]; exact hl⟩⟩
  obtain ⟨v, hv, rv⟩ := r.get hd
  refine ⟨⟨xs, v, q, hv⟩, fun x H'' y => ?_⟩
  obtain ⟨rfl, y⟩ := y
  have := y xs q
  rw [hv] at this
  cases this
  exact ⟨F', Add.refl fs, rv.mono m⟩
/-- a list or a tuple -/
theorem ei_seq {e : Expr} {fe : M D} (h : EV Γ X W e fe) : EI Γ X W tg e (seqM fe) := by
  refine ⟨PI.imp (PI.or (pi_list h.pe) (pi_tup h.pe)) fun σ H R ⟨st, F, S, q⟩ => ?_⟩
  unfold seqM at q
  have q0 := q
  unfold M.bind at q0
  cases he : fe st with
  | ok d st1 =>
    rw [he] at q0
    cases d with
    | list ds =>
      refine .inl ⟨st, F, S, ?_⟩
      rw [he]
      intro v H1 F1 S1 G r
      cases (show Rp X.K F1 (.list ds) v from r) with
      | lst e1 r1 => exact ⟨_, rfl, ⟨_, .inl (.inl (S1.sub1 _ _ e1))⟩, q0 _ _ F1 S1 G (walk_l e1 r1)⟩
    | tuple ds =>
      refine .inr ⟨st, F, S, ?_⟩
      rw [he]
      intro v H1 F1 S1 G r
      cases (show Rp X.K F1 (.tuple ds) v from r) with
      | tup e1 r1 => exact ⟨_, rfl, ⟨_, sqT_mono S1.sub1 e1.sq⟩, q0 _ _ F1 S1 G (walk_t e1.sq r1)⟩
    | _ => exact q0.elim
  | ex x st1 =>
    rw [he] at q0
    exact .inl ⟨st, F, S, by rw [he]; exact q0⟩
  | no =>
    rw [he] at q0
    exact q0.elim
/-- range -/
def rngL (lo : Int) (n : Nat) : List D := (List.range n).map fun i => .int (lo + (i : Nat))
theorem walk_r {F : Hp} {lo : Int} {n : Nat} : WalkD X.K (Itr lo n) (rngL lo n) F := by
  intro i H' F' m fs
  refine ⟨fun d hd => ?_, fun hl => ?_⟩
  · unfold rngL at hd
    rw [List.getElem?_map] at hd
    cases e : (List.range n)[i]? with
    | none => rw [e] at hd; cases hd
    | some j =>
      rw [e] at hd
      cases hd
      obtain ⟨h1, h2⟩ := List.getElem?_eq_some_iff.mp e
      have h3 : i < n := by simpa using h1
      have h4 : j = i := by simpa using h2.symm
      subst h4
      refine ⟨h3, fun x H'' y => ?_⟩
      obtain ⟨rfl, rfl⟩ := y
      exact ⟨F', Add.refl fs, .int _⟩
  · have : n ≤ i := by simpa [rngL] using hl
    exact this
def rng1M (f : M D) : M (List D) := f.bind fun d => match d with
  | .int j => if -(2 ^ 62) ≤ j ∧ j < 2 ^ 62 then M.ret (rngL 0 j.toNat) else M.fail
  | _ => M.fail
def rng2M (f g : M D) : M (List D) := f.bind fun d => g.bind fun e => match d, e with
  | .int i, .int j => if -(2 ^ 62) ≤ i ∧ i < 2 ^ 62 ∧ -(2 ^ 62) ≤ j ∧ j < 2 ^ 62 then M.ret (rngL i (j - i).toNat) else M.fail
  | _, _ => M.fail
theorem ei_rng1 {a : Expr} {p : Pos} {fa : M D} (ha : EV Γ X W a fa) (hm : X.mg "range" = none) (hg : Gl X "range" := by rfl) (hs : starEach [a] X.env = [(false, eval a X.env)] := by rfl) : EI Γ X W tg (.Call (.Name "range" p) [a] [] pos) (rng1M fa) := by
  refine ⟨PI.imp (pi_range1 hg hm (el_cons ha el_nil hs).pa hs) fun σ H R ⟨st, F, S, h⟩ => ?_⟩
  have h' : fin Γ X.K W (rW X.K) F st σ H (((mCons fa mNil).bind fun ds => match ds with | [.int j] => if -(2 ^ 62) ≤ j ∧ j < 2 ^ 62 then M.ret (rngL 0 j.toNat) else M.fail | _ => M.fail) st) R := by
    have e : ((mCons fa mNil).bind fun ds => match ds with | [.int j] => if -(2 ^ 62) ≤ j ∧ j < 2 ^ 62 then M.ret (rngL 0 j.toNat) else M.fail | _ => M.fail) st = rng1M fa st := by
      unfold rng1M mCons mNil M.bind M.ret
      cases fa st with
      | ok d st1 => cases d <;> rfl
      | ex _ _ => rfl
      | no => rfl
    rw [e]; exact h
  refine fin_bind rW_mono S h' fun ds st1 vs H1 F1 S1 G r h1 => ?_
  split at h1
  · rename_i j
    split at h1
    · rename_i c
      cases (show RpA X.K F1 [.int j] vs from r) with
      | cons r1 r2 =>
        cases r1
        cases r2
        exact ⟨j, rfl, c.1, c.2, fin_ret S1 h1 walk_r⟩
    · exact h1.elim
  · exact h1.elim
theorem ei_rng2 {a b : Expr} {p : Pos} {fa fb : M D} (ha : EV Γ X W a fa) (hb : EV Γ X W b fb) (hm : X.mg "range" = none) (hg : Gl X "range" := by rfl) (hs : starEach [a, b] X.env = [(false, eval a X.env), (false, eval b X.env)] := by rfl) (hs2 : starEach [b] X.env = [(false, eval b X.env)] := by rfl) :
    EI Γ X W tg (.Call (.Name "range" p) [a, b] [] pos) (rng2M fa fb) := by
  refine ⟨PI.imp (pi_range2 hg hm (el_cons ha (el_cons hb el_nil hs2) (by rw [hs, hs2])).pa hs hs2) fun σ H R ⟨st, F, S, h⟩ => ?_⟩
  have h' : fin Γ X.K W (rW X.K) F st σ H (((mCons fa (mCons fb mNil)).bind fun ds => match ds with | [.int i, .int j] => if -(2 ^ 62) ≤ i ∧ i < 2 ^ 62 ∧ -(2 ^ 62) ≤ j ∧ j < 2 ^ 62 then M.ret (rngL i (j - i).toNat) else M.fail | _ => M.fail) st) R := by
    have e : ((mCons fa (mCons fb mNil)).bind fun ds => match ds with | [.int i, .int j] => if -(2 ^ 62) ≤ i ∧ i < 2 ^ 62 ∧ -(2 ^ 62) ≤ j ∧ j < 2 ^ 62 then M.ret (rngL i (j - i).toNat) else M.fail | _ => M.fail) st = rng2M fa fb st := by
      unfold rng2M mCons mNil M.bind M.ret
      cases fa st with
      | ok d st1 =>
        simp only
        cases fb st1 with
        | ok e st2 => cases d <;> cases e <;> rfl
        | ex _ _ => rfl
        | no => rfl
      | ex _ _ => rfl
      | no => rfl
    rw [e]; exact h
  refine fin_bind rW_mono S h' fun ds st1 vs H1 F1 S1 G r h1 => ?_
  split at h1
  · rename_i i j
    split at h1
    · rename_i c
      cases (show RpA X.K F1 [.int i, .int j] vs from r) with
      | cons r1 r2 =>
        cases r1
        cases r2 with
        | cons r3 r4 =>
          cases r3
          cases r4
          exact ⟨i, j, rfl, c, fin_ret S1 h1 walk_r⟩
    · exact h1.elim
  · exact h1.elim
/-! ### for -/
def forL (t : Tg) (body : MS) (kill : List Nat) : List D → MS
  | [], st => .nx st
  | d :: ds, st => match asg t d st with
    | none => .no
    | some st1 => match body st1 with
      | .nx st2 => forL t body kill ds (killS kill st2)
      | .ct st2 => forL t body kill ds (killS kill st2)
      | .bk st2 => .nx (killS kill st2)
      | .rt d st2 => .rt d st2
      | .ex x st2 => .ex x st2
      | .no => .no
def forS (t : Tg) (f : M (List D)) (body : MS) (kill : List Nat) : MS := bindS f fun ds st => forL t body kill ds (killS kill st)
variable {P : List Nat}
theorem es_for {iter : Expr} {body : List Stmt} {t : Tg} {g : TG} {f : M (List D)} {fb : MS} {kill : List Nat} (hp : PassesOwn (model X.prog X.w) X.A X.env X.xe) (hc : X.calm = true) (hP : ∀ i ∈ t.ix, i ∉ P) (hi : EI Γ X W tg iter f) (hg : EG X tg t g) (hb : ESs Γ X W P body fb)
    (hs : ∀ x, foldedSetIterable iter X.env x = pure x := by intro _; rfl) : ES Γ X W P (.For tg iter body [] pos) (forS t f fb kill) := by
  refine ⟨PS.imp (ps_for hp hc hi.pi hg.pg hb.ps hs) fun D σ H ⟨st, F, S, h⟩ => finS_bind S h fun ds st1 J H1 F1 S1 G r q => ?_⟩
  have r : WalkD X.K J ds F1 := r
  -- the invariant: what is left to do from here
  let Pv : Nat → L2.St → Hp → Prop := fun i σ' H' => ∃ st' F', Sim X.K Γ.T F' st' σ' H' ∧ (∀ a o, F1 a = some o → F' a = some o) ∧ finS Γ X.K W P F' st' σ' H' (forL t fb kill (ds.drop i) st') D
  refine ⟨fun i m σ' H' => m = ds.length - i ∧ i ≤ ds.length ∧ Pv i σ' H', ⟨ds.length, by simp, Nat.zero_le _, killS kill st1, F1, S1.kill kill, fun _ _ h => h, finS_mono (G.g.trans grow_kill) .refl q⟩, ?_⟩
  rintro i m σ' H' ⟨rfl, hi, st', F', S', m', q'⟩
  by_cases hl : i < ds.length
  · right
    obtain ⟨w1, _⟩ := r i H' F' m' S'.sub
    obtain ⟨go, y1⟩ := w1 ds[i] (by simp [hl])
    refine ⟨go, Pv (i + 1), fun σ2 H2 p => ⟨ds.length - (i + 1), by omega, rfl, hl, p⟩, fun x H2 y => ?_⟩
    obtain ⟨F2, A, rx⟩ := y1 x H2 y
    rw [List.drop_eq_getElem_cons hl] at q'
    simp only [forL] at q'
    cases ea : asg t ds[i] st' with
    | none => rw [ea] at q'; exact q'.elim
    | some st3 =>
      rw [ea] at q'
      simp only at q'
      refine hg.sp (S'.add A) rx ea fun σ3 S3 o3 k3 l3 => ?_
      have G3 : Grow F' st' σ' H' F2 st3 σ3 H2 := (A.grow (st := st') (σ := σ')).g.trans ⟨fun _ _ h => h, fun _ _ h _ _ => h, fun _ _ h => .inl h, fun a h => .inl (o3 a h), fun _ h => h⟩
      have K3 : Keep P σ' σ3 := ⟨fun j hj => k3 j fun z => hP j z hj, l3⟩
      have done : ∀ (st4 : List Sl) (σ4 : L2.St) (H4 F4 : Hp), Sim X.K Γ.T F4 st4 σ4 H4 → Grow F2 st3 σ3 H2 F4 st4 σ4 H4 → Keep P σ3 σ4 → finS Γ X.K W P F' st' σ' H' (forL t fb kill (ds.drop (i + 1)) (killS kill st4)) D → Pv (i + 1) σ4 H4 := fun st4 σ4 H4 F4 S4 G4 K4 q4 =>
        ⟨killS kill st4, F4, S4.kill kill, fun a o h => G4.gF _ _ (A.fF _ _ (m' a o h)), finS_mono ((G3.trans G4).trans grow_kill) (K3.trans K4) q4⟩
      refine ⟨st3, F2, S3, ?_⟩
      cases eb : fb st3 with
      | nx st4 => rw [eb] at q'; exact fun σ4 H4 F4 S4 G4 K4 => done st4 σ4 H4 F4 S4 G4 K4 q'
      | ct st4 => rw [eb] at q'; exact fun σ4 H4 F4 S4 G4 K4 => done st4 σ4 H4 F4 S4 G4 K4 q'
      | bk st4 => rw [eb] at q'; exact fun σ4 H4 F4 S4 G4 K4 => q' σ4 H4 F4 (S4.kill kill) ((G3.trans G4).trans grow_kill) (K3.trans K4)
      | rt d st4 => rw [eb] at q'; exact fun v σ4 H4 F4 S4 G4 K4 r => q' v σ4 H4 F4 S4 (G3.trans G4) (K3.trans K4) r
      | ex x st4 => rw [eb] at q'; exact fun c dx σ4 H4 F4 S4 G4 K4 r => q' c dx σ4 H4 F4 S4 (G3.trans G4) (K3.trans K4) r
      | no => rw [eb] at q'; exact q'.elim
  · left
    have e : i = ds.length := by omega
    subst e
    rw [List.drop_length] at q'
    exact ⟨(r ds.length H' F' m' S'.sub).2 (Nat.le_refl _), q' σ' H' F' S' .refl .refl⟩
/-! ### while -/
def whlL (c : M Bool) (body : MS) (kill : List Nat) : Nat → MS
  | 0, _ => .no
  | n + 1, st => match c st with
    | .ok true st1 => match body st1 with
      | .nx st2 => whlL c body kill n (killS kill st2)
      | .ct st2 => whlL c body kill n (killS kill st2)
      | .bk st2 => .nx st2
      | .rt d st2 => .rt d st2
      | .ex x st2 => .ex x st2
      | .no => .no
    | .ok false st1 => .nx st1
    | .ex x st1 => .ex x st1
    | .no => .no
def isNo : SOut → Bool
  | .no => true
  | _ => false
open Classical in
noncomputable def whlS (c : M Bool) (body : MS) (kill : List Nat) : MS := fun st =>
  if h : ∃ n, isNo (whlL c body kill n (killS kill st)) = false then whlL c body kill (Classical.choose h) (killS kill st) else .no
theorem whlL_mono {c : M Bool} {body : MS} {kill : List Nat} : ∀ {n m : Nat} {st : List Sl}, n ≤ m → isNo (whlL c body kill n st) = false → whlL c body kill m st = whlL c body kill n st
  | 0, _, _, _, h => by simp [whlL, isNo] at h
  | n + 1, 0, _, l, _ => by omega
  | n + 1, m + 1, st, l, h => by
    simp only [whlL] at h ⊢
    cases e : c st with
    | ok b st1 =>
      rw [e] at h
      cases b with
      | true =>
        simp only at h ⊢
        cases e2 : body st1 with
        | nx st2 => rw [e2] at h; exact whlL_mono (by omega) h
        | ct st2 => rw [e2] at h; exact whlL_mono (by omega) h
        | bk st2 => rfl
        | rt d st2 => rfl
        | ex x st2 => rfl
        | no => rfl
      | false => rfl
    | ex x st1 => rfl
    | no => rfl
theorem whlS_eq {c : M Bool} {body : MS} {kill : List Nat} {st : List Sl} (n : Nat) (h : isNo (whlL c body kill n (killS kill st)) = false) : whlS c body kill st = whlL c body kill n (killS kill st) := by
  unfold whlS
  rw [dif_pos ⟨n, h⟩]
  have q : ∃ n, isNo (whlL c body kill n (killS kill st)) = false := ⟨n, h⟩
  have hc := Classical.choose_spec q
  rcases Nat.le_total n (Classical.choose q) with l | l
  · exact whlL_mono l h
  · exact (whlL_mono l hc).symm
theorem es_while {e : Expr} {body : List Stmt} {p : M Bool} {fb : MS} {kill : List Nat} (hp : PassesOwn (model X.prog X.w) X.A X.env X.xe) (hc : ET Γ X W e p) (hb : ESs Γ X W P body fb) : ES Γ X W P (.While e body [] pos) (whlS p fb kill) := by
  refine ⟨PS.imp (ps_while hp hc.pt hb.ps) fun D σ H ⟨st, F, S, h⟩ => ?_⟩
  unfold whlS at h
  split at h
  · rename_i hn
    refine ⟨fun m σ' H' => ∃ st' F', Sim X.K Γ.T F' st' σ' H' ∧ finS Γ X.K W P F' st' σ' H' (whlL p fb kill m st') D, ⟨_, _, F, S.kill kill, finS_mono grow_kill .refl h⟩, ?_⟩
    rintro m σ' H' ⟨st', F', S', q⟩
    cases m with
    | zero => exact q.elim
    | succ n =>
      have q : finS Γ X.K W P F' st' σ' H' (bindS p (fun b st1 => if b = true then (match fb st1 with
          | .nx st2 => whlL p fb kill n (killS kill st2)
          | .ct st2 => whlL p fb kill n (killS kill st2)
          | .bk st2 => .nx st2
          | .rt d st2 => .rt d st2
          | .ex x st2 => .ex x st2
          | .no => .no) else .nx st1) st') D := by
        have e : bindS p (fun b st1 => if b = true then (match fb st1 with
          | .nx st2 => whlL p fb kill n (killS kill st2)
          | .ct st2 => whlL p fb kill n (killS kill st2)
          | .bk st2 => .nx st2
          | .rt d st2 => .rt d st2
          | .ex x st2 => .ex x st2
          | .no => .no) else .nx st1) st' = whlL p fb kill (n + 1) st' := by
          unfold bindS
          simp only [whlL]
          cases p st' with
          | ok b st1 => cases b <;> simp
          | ex x st1 => rfl
          | no => rfl
        rw [e]; exact q
      refine finS_bind S' q fun b st1 v H1 F1 S1 G r q1 => ?_
      have r : v = b := r
      subst r
      cases v with
      | false => exact q1 σ' H1 F1 S1 G.g .refl
      | true =>
        simp only [if_true] at q1
        rw [if_pos rfl]
        refine ⟨fun σ2 H2 => ∃ st' F', Sim X.K Γ.T F' st' σ2 H2 ∧ finS Γ X.K W P F' st' σ2 H2 (whlL p fb kill n st') D, fun σ2 H2 z => ⟨n, Nat.lt_succ_self n, z⟩, st1, F1, S1, ?_⟩
        cases eb : fb st1 with
        | nx st4 => rw [eb] at q1; exact fun σ4 H4 F4 S4 G4 K4 => ⟨_, F4, S4.kill kill, finS_mono ((G.g.trans G4).trans grow_kill) K4 q1⟩
        | ct st4 => rw [eb] at q1; exact fun σ4 H4 F4 S4 G4 K4 => ⟨_, F4, S4.kill kill, finS_mono ((G.g.trans G4).trans grow_kill) K4 q1⟩
        | bk st4 => rw [eb] at q1; exact fun σ4 H4 F4 S4 G4 K4 => q1 σ4 H4 F4 S4 (G.g.trans G4) K4
        | rt d st4 => rw [eb] at q1; exact fun v σ4 H4 F4 S4 G4 K4 r => q1 v σ4 H4 F4 S4 (G.g.trans G4) K4 r
        | ex x st4 => rw [eb] at q1; exact fun c dx σ4 H4 F4 S4 G4 K4 r => q1 c dx σ4 H4 F4 S4 (G.g.trans G4) K4 r
        | no => rw [eb] at q1; exact q1.elim
  · exact h.elim
end
end Sk
set_option maxHeartbeats 1000000
namespace Sk
open PySem PySem.Spec PyProof.Rows L2
/-! ### list comprehensions -/
/-- behind a block: its own slots are as ahead of it, the others as the block left them -/
def back (vs : List Nat) (st st' : List Sl) : List Sl := vs.foldl (fun s j => s.set j (st.getD j .un)) st'
theorem back_len {vs : List Nat} {st st' : List Sl} : (back vs st st').length = st'.length := by
  unfold back
  induction vs generalizing st' with
  | nil => rfl
  | cons i vs ih => rw [List.foldl_cons, ih, List.length_set]
theorem back_get {vs : List Nat} {st : List Sl} : ∀ {st' : List Sl}, st'.length = st.length → ∀ (j : Nat), (back vs st st')[j]? = if j ∈ vs then st[j]? else st'[j]? := by
  unfold back
  induction vs with
  | nil => intro st' _ j; simp
  | cons i vs ih =>
    intro st' hl j
    rw [List.foldl_cons, ih (by rw [List.length_set]; exact hl)]
    by_cases h1 : j ∈ vs
    · rw [if_pos h1, if_pos (List.mem_cons_of_mem _ h1)]
    · rw [if_neg h1]
      by_cases h2 : j = i
      · subst h2
        rw [if_pos (List.mem_cons_self ..)]
        by_cases h3 : j < st'.length
        · rw [set_get h3, List.getD_eq_getElem?_getD]
          rw [List.getElem?_eq_getElem (by omega)]
          rfl
        · rw [List.getElem?_eq_none (by rw [List.length_set]; omega), List.getElem?_eq_none (by omega)]
      · rw [set_ne h2, if_neg fun z => (List.mem_cons.mp z).elim h2 h1]
def addTurn (st : List Sl) (vs : List Nat) (o : Out (Option D)) (k : Option D → M D) : Out D := match o with
  | .ok d st' => k d (back vs st st')
  | _ => .no
/-- acc: what has been made so far -/
def lcL (t : Tg) (p : M Bool) (fe : M D) (vs : List Nat) : List D → List D → M D
  | acc, [] => fun st => .ok (.list acc) st
  | acc, d :: ds => fun st => match asg t d (killS vs st) with
    | none => .no
    | some st1 => match p st1 with
      | .ok true st2 => match fe st2 with
        | .ok y st3 => if acc.length < cap then lcL t p fe vs (acc ++ [y]) ds (back vs st st3) else .no
        | _ => .no
      | .ok false st2 => lcL t p fe vs acc ds (back vs st st2)
      | _ => .no
def lcM (t : Tg) (f : M (List D)) (p : M Bool) (fe : M D) (vs : List Nat) : M D := f.bind fun ds => lcL t p fe vs [] ds
def W0 : WX := fun _ _ _ _ => False
structure ETs (Γ : Gm) (X : Cx) (W : WX) (ifs : List Expr) (p : M Bool) : Prop where
  pts : PTs X ifs (rd Γ X.K W (rE Bool) p)
section
variable {Γ : Gm} {X : Cx} {W : WX} {pos : Pos}
theorem ets_nil : ETs Γ X W [] (M.ret true) := ⟨⟨fun pins s σ H Q I ⟨st, F, S, h⟩ => (pts_nil (X := X)).run pins s σ H Q I (fin_ret S h rfl)⟩⟩
theorem ets_one {c : Expr} {p : M Bool} (h : ET Γ X W c p) : ETs Γ X W [c] p := ⟨pts_one h.pt⟩
theorem wipe_get (σ : L2.St) : ∀ (vs : List Nat) (j : Nat), j ∉ vs → (wipe σ vs)[j]? = σ[j]? := fun vs j h => wipe_out h
theorem wipe_none {σ : L2.St} : ∀ {vs : List Nat} {j : Nat} {v : V}, (wipe σ vs)[j]? = some (some v) → σ[j]? = some (some v) ∧ j ∉ vs := fun h => wipe_some h
theorem wipe_in {σ : L2.St} : ∀ {vs : List Nat} {j : Nat}, j ∈ vs → j < σ.length → (wipe σ vs)[j]? = some none := by
  intro vs j hj hl
  cases e : (wipe σ vs)[j]? with
  | none =>
    have := List.getElem?_eq_none_iff.mp e
    rw [wipe_length] at this
    omega
  | some o =>
    cases o with
    | none => rfl
    | some v => exact absurd hj (wipe_some e).2
theorem wipe_eq {σ σ' : L2.St} {vs : List Nat} (hl : σ'.length = σ.length) (h : ∀ j, j ∉ vs → σ'[j]? = σ[j]?) : wipe σ' vs = wipe σ vs := by
  apply List.ext_getElem?
  intro j
  by_cases hj : j ∈ vs
  · by_cases hlt : j < σ.length
    · rw [wipe_in hj hlt, wipe_in hj (by omega)]
    · rw [List.getElem?_eq_none (by rw [wipe_length]; omega), List.getElem?_eq_none (by rw [wipe_length]; omega)]
  · rw [wipe_out hj, wipe_out hj, h j hj]
theorem Sim.wipe {K : PySem.W.Frag} {T : List (Addr × Str)} {F H : Hp} {st : List Sl} {σ : L2.St} (S : Sim K T F st σ H) (vs : List Nat) : Sim K T F (killS vs st) (L2.wipe σ vs) H where
  len := by rw [wipe_length]; exact (S.kill vs).len
  sub := S.sub
  dat := fun j c q => by
    obtain ⟨n, q⟩ := killS_get (by intro z; cases z) q
    obtain ⟨v, h1, h2⟩ := S.dat j c q
    exact ⟨v, by rw [wipe_out n]; exact h1, h2⟩
  own := fun j c q => by
    obtain ⟨n, q⟩ := killS_get (by intro z; cases z) q
    obtain ⟨a, o, h1, h2⟩ := S.own j c q
    exact ⟨a, o, by rw [wipe_out n]; exact h1, h2⟩
  scr := fun j c q => by
    obtain ⟨n, q⟩ := killS_get (by intro z; cases z) q
    obtain ⟨a, h1, h2⟩ := S.scr j c q
    exact ⟨a, by rw [wipe_out n]; exact h1, h2⟩
  inj := fun j k c c' a h1 h2 h3 h4 => by
    obtain ⟨n1, h1⟩ := killS_get (by intro z; cases z) h1
    obtain ⟨n2, h2⟩ := killS_get (by intro z; cases z) h2
    rw [wipe_out n1] at h3
    rw [wipe_out n2] at h4
    exact S.inj j k c c' a h1 h2 h3 h4
  tab := S.tab
theorem OwnA.wipe {st : List Sl} {σ : L2.St} {vs : List Nat} {a : Addr} (o : OwnA (killS vs st) (L2.wipe σ vs) a) : ∃ (j : Nat) (c : D), j ∉ vs ∧ st[j]? = some (.own c) ∧ σ[j]? = some (some (.ref a)) := by
  obtain ⟨j, c, h1, h2⟩ := o
  obtain ⟨n, h1⟩ := killS_get (by intro z; cases z) h1
  rw [wipe_out n] at h2
  exact ⟨j, c, n, h1, h2⟩
/-- out of the block -/
theorem Sim.back {K : PySem.W.Frag} {T : List (Addr × Str)} {F H F' H' : Hp} {st sti st' : List Sl} {σ σ2 : L2.St} {vs : List Nat} (S : Sim K T F st σ H) (S' : Sim K T F' st' σ2 H') (G : Grow F sti σ2 H F' st' σ2 H')
    (oi : ∀ a, OwnA sti σ2 a → ∃ (j : Nat) (c : D), j ∉ vs ∧ st[j]? = some (.own c) ∧ σ[j]? = some (some (.ref a))) (os : ∀ a, OwnA st' σ2 a → OwnA sti σ2 a) (k : ∀ j, j ∉ vs → σ2[j]? = σ[j]?) (hl : σ2.length = σ.length) :
    Sim K T F' (Sk.back vs st st') σ H' ∧ GrowE F st σ H F' (Sk.back vs st st') H' := by
  have hlen : st'.length = st.length := by rw [S'.len, hl, S.len]
  have notin : ∀ (j : Nat) c a, j ∈ vs → st[j]? = some (.own c) → σ[j]? = some (some (.ref a)) → ¬ OwnA sti σ2 a := fun j c a hj h1 h2 z => by
    obtain ⟨i, c', n, h3, h4⟩ := oi a z
    have := S.inj j i c c' a h1 h3 h2 h4
    subst this
    exact n hj
  have get : ∀ {j : Nat} {b : Sl}, (Sk.back vs st st')[j]? = some b → (j ∈ vs ∧ st[j]? = some b) ∨ (j ∉ vs ∧ st'[j]? = some b) := fun {j b} h => by
    rw [back_get hlen] at h
    by_cases hj : j ∈ vs
    · rw [if_pos hj] at h; exact .inl ⟨hj, h⟩
    · rw [if_neg hj] at h; exact .inr ⟨hj, h⟩
  have own2 : ∀ {j : Nat} {c a}, (Sk.back vs st st')[j]? = some (.own c) → σ[j]? = some (some (.ref a)) → OwnA st σ a := fun {j c a} h1 h2 => by
    rcases get h1 with ⟨hj, h1⟩ | ⟨hj, h1⟩
    · exact ⟨j, c, h1, h2⟩
    · obtain ⟨i, c', _, h3, h4⟩ := oi a (os a ⟨j, c, h1, by rw [k j hj]; exact h2⟩)
      exact ⟨i, c', h3, h4⟩
  refine ⟨⟨by rw [back_len, hlen]; exact S.len, S'.sub, fun j c q => ?_, fun j c q => ?_, fun j c q => ?_, fun j i c c' a h1 h2 h3 h4 => ?_, S'.tab⟩, ⟨⟨G.gF, fun a o h n nt => G.gH a o h (fun z => ?_) nt, fun a o h => ?_, fun a ⟨j, c, h1, h2⟩ => .inl (own2 h1 h2), G.gD⟩, fun a ⟨j, c, h1, h2⟩ => own2 h1 h2⟩⟩
  · rcases get q with ⟨hj, q⟩ | ⟨hj, q⟩
    · obtain ⟨v, h1, h2⟩ := S.dat j c q
      exact ⟨v, h1, h2.mono G.gF⟩
    · obtain ⟨v, h1, h2⟩ := S'.dat j c q
      exact ⟨v, by rw [← k j hj]; exact h1, h2⟩
  · rcases get q with ⟨hj, q⟩ | ⟨hj, q⟩
    · obtain ⟨a, o, h1, h2, h3, h4⟩ := S.own j c q
      have n := notin j c a hj q h1
      refine ⟨a, o, h1, ?_, G.gH _ _ h3 n h4.nt, h4.mono G.gF⟩
      cases w : F' a with
      | none => rfl
      | some u =>
        rcases G.gN _ _ w with z | z | z
        · rw [h2] at z; cases z
        · exact absurd z n
        · exact (z.no h3 h4.nt).elim
    · obtain ⟨a, o, h1, h2⟩ := S'.own j c q
      exact ⟨a, o, by rw [← k j hj]; exact h1, h2⟩
  · rcases get q with ⟨hj, q⟩ | ⟨hj, q⟩
    · obtain ⟨v, h1, h2⟩ := S.scr j c q
      exact ⟨v, h1, sqL_mono G.gF h2⟩
    · obtain ⟨v, h1, h2⟩ := S'.scr j c q
      exact ⟨v, by rw [← k j hj]; exact h1, h2⟩
  · rcases get h1 with ⟨hj, h1⟩ | ⟨hj, h1⟩
    · rcases get h2 with ⟨hi, h2⟩ | ⟨hi, h2⟩
      · exact S.inj j i c c' a h1 h2 h3 h4
      · exact absurd (os a ⟨i, c', h2, by rw [k i hi]; exact h4⟩) (notin j c a hj h1 h3)
    · rcases get h2 with ⟨hi, h2⟩ | ⟨hi, h2⟩
      · exact absurd (os a ⟨j, c, h1, by rw [k j hj]; exact h3⟩) (notin i c' a hi h2 h4)
      · exact S'.inj j i c c' a h1 h2 (by rw [k j hj]; exact h3) (by rw [k i hi]; exact h4)
  · obtain ⟨j, c, _, h1, h2⟩ := oi a z
    exact n ⟨j, c, h1, h2⟩
  · rcases G.gN _ _ h with z | z | z
    · exact .inl z
    · obtain ⟨j, c, _, h1, h2⟩ := oi a z
      exact .inr (.inl ⟨j, c, h1, h2⟩)
    · exact .inr (.inr z)
def isDat : HO → Bool
  | .lst _ => true
  | .dK _ => true
  | _ => false
theorem tabs_but {T : List (Addr × Str)} {H H' : Hp} (t : LamX.Tabs T H) (k : ∀ b o, H b = some o → isDat o = false → H' b = some o) : LamX.Tabs T H' := fun p hp => by
  obtain ⟨ps, h1, h2, h3⟩ := t p hp
  refine ⟨ps, k _ _ h1 rfl, h2, fun pos cv hc => ?_⟩
  obtain ⟨c, e1, e2⟩ := h3 pos cv hc
  exact ⟨c, e1, k _ _ e2 rfl⟩
/-- an object that is nobody's changes -/
theorem Sim.alien {K : PySem.W.Frag} {T : List (Addr × Str)} {F H : Hp} {st : List Sl} {σ : L2.St} {L : Addr} {o u : HO} (S : Sim K T F st σ H) (e : H L = some o) (d : isDat o = true) (n : F L = none) (no : ¬ OwnA st σ L) : Sim K T F st σ (upd H L u) where
  len := S.len
  sub := fun b w q => by rw [upd_ne (ne_of_none q n)]; exact S.sub b w q
  dat := S.dat
  own := fun j c q => by
    obtain ⟨a, w, h1, h2, h3, h4⟩ := S.own j c q
    refine ⟨a, w, h1, h2, ?_, h4⟩
    rw [upd_ne fun z => no ⟨j, c, q, by rw [← z]; exact h1⟩]
    exact h3
  scr := S.scr
  inj := S.inj
  tab := tabs_but S.tab fun b w q h => by
    rw [upd_ne fun z => ?_]
    · exact q
    · subst z
      rw [e] at q
      cases q
      rw [d] at h
      cases h
theorem GrowE.alien {F H F' H' : Hp} {st st' : List Sl} {σ : L2.St} {L : Addr} {u : HO} (G : GrowE F st σ H F' st' H') (n : Fr H L) : GrowE F st σ H F' st' (upd H' L u) :=
  ⟨⟨G.g.gF, fun a o h no nt => by rw [upd_ne (show a ≠ L from fun z => n.no (by rw [← z]; exact h) nt)]; exact G.g.gH a o h no nt, G.g.gN, G.g.gO, fun a h => by
    by_cases z : a = L
    · rw [z]; exact n
    · refine G.g.gD a ?_
      unfold Fr at h ⊢
      rw [upd_ne z] at h
      exact h⟩, G.os⟩
theorem lc_read {elt tg iter : Expr} {ifs : List Expr} {scope : Scope} {own : List (Str × Nat)} {t : Tg} {g : TG} {f : M (List D)} {p : M Bool} {fe : M D} (ok : BlkOk X.N X.env.scope scope own) (hN : X.N.Nodup) (ht : ∀ i ∈ t.ix, i ∈ own.map (·.2))
    (hg : ∀ {T : List (Addr × Str)} {F H : Hp} {st st' : List Sl} {σ : L2.St} {d : D} {v : V} {Q : L2.St → Hp → Prop}, Sim X.K T F st σ H → Rp X.K F d v → asg t d st = some st' →
    (∀ σ', Sim X.K T F st' σ' H → (∀ a, OwnA st' σ' a → OwnA st σ a) → (∀ j, j ∉ t.ix → σ'[j]? = σ[j]?) → σ'.length = σ.length → Q σ' H) → g v σ H Q) :
    ∀ σ H Q, rd Γ X.K W (rN X.K) (lcM t f p fe (own.map (·.2))) σ H Q → tLc (rd Γ X.K W (rW X.K) f) g (rd Γ X.K W0 (rE Bool) p) (rd Γ X.K W0 (rP X.K) fe) (own.map (·.2)) σ H Q := by
  intro σ H Q ⟨st, F, S, h⟩
  generalize own.map (·.2) = vs at *
  refine fin_bindA S GrowE.refl h fun ds st1 J H1 F1 S1 G r q => ?_
  have r : WalkD X.K J ds F1 := r
  intro L hL
  let Pv : Nat → Hp → Prop := fun i H' => ∃ st' F' acc xs, Sim X.K Γ.T F' st' σ H' ∧ GrowE F st σ H F' st' H' ∧ (∀ a o, F1 a = some o → F' a = some o) ∧ H' L = some (.lst xs) ∧ F' L = none ∧ RpA X.K F' acc xs ∧ fin Γ X.K W (rN X.K) F st σ H (lcL t p fe vs acc (ds.drop i) st') Q
  have hLH : Fr H L := G.g.gD _ (.inl hL)
  have F1L : F1 L = none := S1.fnone hL
  refine ⟨fun i m H' => m = ds.length - i ∧ i ≤ ds.length ∧ Pv i H', ⟨ds.length, by simp, Nat.zero_le _, st1, F1, [], [], S1.new hL, G.trans (grow_new hL), fun _ _ h => h, upd_same, F1L, .nil, q⟩, ?_⟩
  rintro i m H' ⟨rfl, hi, st', F', acc, xs, S', G', m', eL, nL, ra, q'⟩
  by_cases hl : i < ds.length
  · right
    obtain ⟨w1, _⟩ := r i H' F' m' S'.sub
    obtain ⟨go, y1⟩ := w1 ds[i] (by simp [hl])
    refine ⟨go, Pv (i + 1), fun H2 pp => ⟨ds.length - (i + 1), by omega, rfl, hl, pp⟩, fun x H2 y => ?_⟩
    obtain ⟨F2, A, rx⟩ := y1 x H2 y
    rw [List.drop_eq_getElem_cons hl] at q'
    simp only [lcL] at q'
    cases ea : asg t ds[i] (killS vs st') with
    | none => rw [ea] at q'; exact q'.elim
    | some st3 =>
      rw [ea] at q'
      simp only at q'
      have S2 := S'.add A
      refine hg (S2.wipe vs) rx ea fun σ3 S3 o3 k3 l3 => ?_
      have k3' : ∀ j, j ∉ vs → σ3[j]? = σ[j]? := fun j hj => by rw [k3 j fun z => hj (ht j z), wipe_out hj]
      have l3' : σ3.length = σ.length := by rw [l3, wipe_length]
      refine ⟨wipe_eq l3' k3', ?_⟩
      -- the block's end
      have out : ∀ (st4 : List Sl) (F4 H4 : Hp), Sim X.K Γ.T F4 st4 σ3 H4 → GrowE F2 st3 σ3 H2 F4 st4 H4 → Sim X.K Γ.T F4 (Sk.back vs st' st4) σ H4 ∧ GrowE F2 st' σ H2 F4 (Sk.back vs st' st4) H4 ∧ H4 L = some (.lst xs) ∧ F4 L = none ∧ RpA X.K F4 acc xs := fun st4 F4 H4 S4 G4 => by
        have oi : ∀ a, OwnA st3 σ3 a → ∃ (j : Nat) (c : D), j ∉ vs ∧ st'[j]? = some (.own c) ∧ σ[j]? = some (some (.ref a)) := fun a z => (o3 a z).wipe
        obtain ⟨b1, b2⟩ := Sim.back (sti := st3) S2 S4 G4.g oi G4.os k3' l3'
        have nown : ¬ OwnA st3 σ3 L := fun z => by
          obtain ⟨j, c, _, h1, h2⟩ := oi L z
          obtain ⟨u, hu, _, nt⟩ := own_there S (G'.os L ⟨j, c, h1, h2⟩)
          exact hLH.no hu nt
        have e2 := A.fH _ _ eL
        refine ⟨b1, b2, G4.g.gH _ _ e2 nown (by intro ps z; cases z), ?_, (ra.mono A.fF).mono G4.g.gF⟩
        cases w : F4 L with
        | none => rfl
        | some u =>
          rcases G4.g.gN _ _ w with z | z | z
          · rcases A.fN _ _ z with z | z
            · rw [nL] at z; cases z
            · rw [eL] at z; cases z
          · exact absurd z nown
          · exact (z.no e2 (by intro ps z; cases z)).elim
      refine ⟨st3, F2, S3, ?_⟩
      cases ep : p st3 with
      | ok b st4 =>
        rw [ep] at q'
        intro b' H4 F4 S4 G4 rb
        have rb : b' = b := rb
        subst rb
        cases b' with
        | true =>
          simp only at q'
          rw [if_pos rfl]
          refine ⟨st4, F4, S4, ?_⟩
          cases ee : fe st4 with
          | ok y st5 =>
            rw [ee] at q'
            simp only at q'
            intro v H5 F5 S5 G5 rv
            obtain ⟨b1, b2, b3, b4, b5⟩ := out st5 F5 H5 S5 (G4.trans G5)
            split at q'
            · rename_i hz
              refine ⟨xs, b3, by rw [← b5.length]; exact lt_cap hz, Sk.back vs st' st5, F5, acc ++ [y], xs ++ [v], ?_, ?_, fun a o h => b2.g.gF _ _ (A.fF _ _ (m' a o h)), upd_same, b4, b5.append (.one rv), q'⟩
              · refine b1.alien b3 rfl b4 fun z => ?_
                obtain ⟨u, hu, _, nt⟩ := own_there S (G'.os L (b2.os L z))
                exact hLH.no hu nt
              · exact ((G'.trans A.grow).trans b2).alien hLH
            · exact q'.elim
          | ex x st5 => rw [ee] at q'; exact q'.elim
          | no => rw [ee] at q'; exact q'.elim
        | false =>
          simp only at q'
          obtain ⟨b1, b2, b3, b4, b5⟩ := out st4 F4 H4 S4 G4
          exact ⟨Sk.back vs st' st4, F4, acc, xs, b1, (G'.trans A.grow).trans b2, fun a o h => b2.g.gF _ _ (A.fF _ _ (m' a o h)), b3, b4, b5, q'⟩
      | ex x st4 => rw [ep] at q'; exact q'.elim
      | no => rw [ep] at q'; exact q'.elim
  · left
    have e : i = ds.length := by omega
    subst e
    rw [List.drop_length] at q'
    refine ⟨(r ds.length H' F' m' S'.sub).2 (Nat.le_refl _), ?_⟩
    exact q' _ H' F' S' G' ⟨L, _, rfl, hLH, nL, eL, .lst ra⟩
/-- [e for target in iter if ..] -/
theorem en_lc {elt tg iter : Expr} {ifs : List Expr} {scope : Scope} (own : List (Str × Nat)) {t : Tg} {g : TG} {f : M (List D)} {p : M Bool} {fe : M D} (hc : X.calm = true) (hN : X.N.Nodup) (hi : EI Γ X W tg iter f) (ok : BlkOk X.N X.env.scope scope own) (ht : ∀ i ∈ t.ix, i ∈ own.map (·.2))
    (hg : ∀ (s : Shared) (H : Hp) (C : Addr) (cl : List (Str × Addr)) (fp : List Addr), EG (X.blk s H scope (compEnvC scope cl C X.env) fp) tg t g) (hp : ∀ (s : Shared) (H : Hp) (C : Addr) (cl : List (Str × Addr)) (fp : List Addr), ETs Γ (X.blk s H scope (compEnvC scope cl C X.env) fp) W0 ifs p)
    (he : ∀ (s : Shared) (H : Hp) (C : Addr) (cl : List (Str × Addr)) (fp : List Addr), EV Γ (X.blk s H scope (compEnvC scope cl C X.env) fp) W0 elt fe) (hs : ∀ x, foldedSetIterable iter X.env x = pure x := by intro _; rfl) :
    EN Γ X W (.ListComp elt [⟨tg, iter, ifs, 0⟩] scope pos) (lcM t f p fe (own.map (·.2))) := by
  refine ⟨PE.imp (pe_lc (tt := rd Γ X.K W0 (rE Bool) p) (te := rd Γ X.K W0 (rP X.K) fe) hc hN hi.pi ok (fun s H C cl fp => (hg s H C cl fp).pg) (fun s H C cl fp => (hp s H C cl fp).pts) (fun s H C cl fp => (he s H C cl fp).pe) hs) ?_⟩
  exact lc_read (W := W) (elt := elt) (tg := tg) (iter := iter) (ifs := ifs) (scope := scope) ok hN ht fun S r e k => (hg X.s_0 X.H_0 0 [] []).sp S r e k
/-- name = [..] on one line, the name a local -/
theorem es_lc {i : Nat} {y : Str} {py spos : Pos} {P : List Nat} {elt tg iter : Expr} {ifs : List Expr} {scope : Scope} (own : List (Str × Nat)) {t : Tg} {g : TG} {f : M (List D)} {p : M Bool} {fe : M D} (hc : X.calm = true) (hN : X.N.Nodup) (hP : i ∉ P) (hi : EI Γ X W tg iter f) (ok : BlkOk X.N X.env.scope scope own) (ht : ∀ i ∈ t.ix, i ∈ own.map (·.2))
    (hg : ∀ (s : Shared) (H : Hp) (C : Addr) (cl : List (Str × Addr)) (fp : List Addr), EG (X.blk s H scope (compEnvC scope cl C X.env) fp) tg t g) (hp : ∀ (s : Shared) (H : Hp) (C : Addr) (cl : List (Str × Addr)) (fp : List Addr), ETs Γ (X.blk s H scope (compEnvC scope cl C X.env) fp) W0 ifs p)
    (he : ∀ (s : Shared) (H : Hp) (C : Addr) (cl : List (Str × Addr)) (fp : List Addr), EV Γ (X.blk s H scope (compEnvC scope cl C X.env) fp) W0 elt fe) (hs : ∀ x, foldedSetIterable iter X.env x = pure x := by intro _; rfl)
    (hy : X.N[i]? = some y := by rfl) (hyl : X.env.scope.names.lookup y = some .local := by rfl) (hsw : swapsWith (.ListComp elt [⟨tg, iter, ifs, 0⟩] scope pos) (some (.Name y py)) spos.line X.env = pure true := by exact sw_true rfl rfl rfl (by decide +kernel)) :
    ES Γ X W P (.Assign [.Name y py] (.ListComp elt [⟨tg, iter, ifs, 0⟩] scope pos) spos) (Sk.setN i (lcM t f p fe (own.map (·.2)))) := by
  refine ⟨PS.imp (ps_setLc (tt := rd Γ X.K W0 (rE Bool) p) (te := rd Γ X.K W0 (rP X.K) fe) hc hN hy hyl hsw hi.pi ok (fun s H C cl fp => (hg s H C cl fp).pg) (fun s H C cl fp => (hp s H C cl fp).pts) (fun s H C cl fp => (he s H C cl fp).pe) hs) fun D σ H ⟨st, F, S, h⟩ => ?_⟩
  refine lc_read (W := W) (Γ := Γ) (elt := elt) (tg := tg) (iter := iter) (ifs := ifs) (scope := scope) ok hN ht (fun S r e k => (hg X.s_0 X.H_0 0 [] []).sp S r e k) σ H _ ?_
  exact finS_bind S h fun d st1 v H1 F1 S1 G r q => by
    obtain ⟨a, o, rfl, n, n1, e1, c⟩ := r
    have no := not_own S G a n
    refine q _ _ F1 (S1.setN n1 e1 c no) ⟨G.g.gF, G.g.gH, G.g.gN, fun b hb => ?_, G.g.gD⟩ (Keep.set hP)
    rcases hb.setN with z | z
    · exact .inl (G.os b z)
    · rw [z]; exact .inr n
end
end Sk
set_option maxHeartbeats 1000000
namespace Sk
open PySem PySem.Spec PyProof.Rows L2
/-! ### defs -/
/-- a def's promise: fn is what it does to its arguments -/
def spR (Γ : Gm) (K : PySem.W.Frag) (R : Rel D V) (np : Nat) (fn : M D) : Sp := fun vs H Q E =>
  ∃ args F, args.length = np ∧ Sim K Γ.T F args (vs.map some) H ∧ fin Γ K (fun cls dx _ H' => E cls dx H') R F args (vs.map some) H (fn args) Q
abbrev spD (Γ : Gm) (K : PySem.W.Frag) (np : Nat) (fn : M D) : Sp := spR Γ K (rP K) np fn
abbrev spN (Γ : Gm) (K : PySem.W.Frag) (np : Nat) (fn : M D) : Sp := spR Γ K (rN K) np fn
/-- no own argument at a place that is not of P -/
def okArgs (P : List Nat) : Nat → List Sl → Bool
  | _, [] => true
  | i, .own _ :: r => decide (i ∈ P) && okArgs P (i + 1) r
  | i, _ :: r => okArgs P (i + 1) r
/-- what the arguments are behind: those at P as the body left them -/
def outs (P : List Nat) (args st : List Sl) : List Sl := P.foldl (fun s j => s.set j (st.getD j .un)) args
/-- a def by its body -/
def isOwn : Option Sl → Bool
  | some (.own _) => true
  | _ => false
def fnOf (n : Nat) (P : List Nat) (body : MS) : M D := fun args =>
  if okArgs P 0 args = true ∧ (P.all fun i => isOwn args[i]?) = true then
    match body (args ++ List.replicate n .un) with
    | .nx st => .ok .none (outs P args st)
    | .rt d st => .ok d (outs P args st)
    | .ex x st => .ex x (outs P args st)
    | _ => .no
  else .no
theorem outs_len {P : List Nat} {args st : List Sl} : (outs P args st).length = args.length := by
  unfold outs
  induction P generalizing args with
  | nil => rfl
  | cons i P ih => rw [List.foldl_cons, ih, List.length_set]
theorem outs_get {P : List Nat} {st : List Sl} : ∀ {args : List Sl}, args.length ≤ st.length → (∀ i ∈ P, i < args.length) → ∀ (j : Nat), (outs P args st)[j]? = if j ∈ P then st[j]? else args[j]? := by
  unfold outs
  induction P with
  | nil => intro args _ _ j; simp
  | cons i P ih =>
    intro args hl hp j
    rw [List.foldl_cons, ih (by rw [List.length_set]; exact hl) (fun k hk => by rw [List.length_set]; exact hp k (List.mem_cons_of_mem _ hk))]
    by_cases h1 : j ∈ P
    · rw [if_pos h1, if_pos (List.mem_cons_of_mem _ h1)]
    · rw [if_neg h1]
      by_cases h2 : j = i
      · subst h2
        have h3 := hp j (List.mem_cons_self ..)
        rw [if_pos (List.mem_cons_self ..), set_get h3, List.getD_eq_getElem?_getD, List.getElem?_eq_getElem (by omega)]
        rfl
      · rw [set_ne h2, if_neg fun z => (List.mem_cons.mp z).elim h2 h1]
theorem okArgs_own {P : List Nat} : ∀ {i : Nat} {args : List Sl}, okArgs P i args = true → ∀ (j : Nat) d, args[j]? = some (.own d) → i + j ∈ P
  | i, [], _, j, d, h => by simp at h
  | i, s :: r, h, 0, d, e => by
    simp at e
    subst e
    simp only [okArgs, Bool.and_eq_true, decide_eq_true_eq] at h
    exact h.1
  | i, s :: r, h, j + 1, d, e => by
    have hr : okArgs P (i + 1) r = true := by
      cases s with
      | own d => simp only [okArgs, Bool.and_eq_true] at h; exact h.2
      | un => exact h
      | dat _ => exact h
      | scr _ => exact h
    have := okArgs_own hr j d (by simpa using e)
    rw [show i + (j + 1) = i + 1 + j by omega]
    exact this
section
variable {K : PySem.W.Frag} {T : List (Addr × Str)} {F H : Hp} {args : List Sl} {vs : List V}
theorem pad_get {α : Type} {l : List α} {n j : Nat} {a b : α} (h : (l ++ List.replicate n a)[j]? = some b) (hb : b ≠ a) : l[j]? = some b := by
  by_cases z : j < l.length
  · rw [List.getElem?_append_left z] at h; exact h
  · rw [List.getElem?_append_right (by omega), List.getElem?_replicate] at h
    split at h
    · cases h; exact absurd rfl hb
    · cases h
theorem pad_in {α : Type} {l : List α} {n j : Nat} {a b : α} (h : l[j]? = some b) : (l ++ List.replicate n a)[j]? = some b := by
  have := (List.getElem?_eq_some_iff.mp h).1
  rw [List.getElem?_append_left this]; exact h
theorem Sim.pad (S : Sim K T F args (vs.map some) H) (n : Nat) : Sim K T F (args ++ List.replicate n .un) (vs.map some ++ List.replicate n none) H where
  len := by simp [S.len]
  sub := S.sub
  dat := fun j c q => by
    obtain ⟨v, h1, h2⟩ := S.dat j c (pad_get q (by intro z; cases z))
    exact ⟨v, pad_in h1, h2⟩
  own := fun j c q => by
    obtain ⟨a, o, h1, h2⟩ := S.own j c (pad_get q (by intro z; cases z))
    exact ⟨a, o, pad_in h1, h2⟩
  scr := fun j c q => by
    obtain ⟨a, h1, h2⟩ := S.scr j c (pad_get q (by intro z; cases z))
    exact ⟨a, pad_in h1, h2⟩
  inj := fun j k c c' a h1 h2 h3 h4 => S.inj j k c c' a (pad_get h1 (by intro z; cases z)) (pad_get h2 (by intro z; cases z)) (pad_get h3 (by intro z; cases z)) (pad_get h4 (by intro z; cases z))
  tab := S.tab
theorem OwnA.pad {n : Nat} {a : Addr} (o : OwnA (args ++ List.replicate n .un) (vs.map some ++ List.replicate n none) a) : OwnA args (vs.map some) a := by
  obtain ⟨j, c, h1, h2⟩ := o
  exact ⟨j, c, pad_get h1 (by intro z; cases z), pad_get h2 (by intro z; cases z)⟩
theorem OwnA.unpad {n : Nat} {a : Addr} (o : OwnA args (vs.map some) a) : OwnA (args ++ List.replicate n .un) (vs.map some ++ List.replicate n none) a := by
  obtain ⟨j, c, h1, h2⟩ := o
  exact ⟨j, c, pad_in h1, pad_in h2⟩
/-- what the caller sees behind the def -/
theorem isOwn_of {o : Option Sl} (h : isOwn o = true) : ∃ d, o = some (.own d) := by
  unfold isOwn at h
  split at h
  · exact ⟨_, rfl⟩
  · cases h
theorem Sim.outs {P : List Nat} {n : Nat} {F' H' : Hp} {st' : List Sl} {σ' : L2.St} (S : Sim K T F args (vs.map some) H) (ok : okArgs P 0 args = true) (hq : (P.all fun i => isOwn args[i]?) = true)
    (S' : Sim K T F' st' σ' H') (G : Grow F (args ++ List.replicate n .un) (vs.map some ++ List.replicate n none) H F' st' σ' H') (k : Keep P (vs.map some ++ List.replicate n none) σ') (hl : st'.length = args.length + n) :
    Sim K T F' (Sk.outs P args st') (vs.map some) H' ∧ GrowE F args (vs.map some) H F' (Sk.outs P args st') H' := by
  have ho : ∀ i ∈ P, ∃ d, args[i]? = some (.own d) := fun i hi => isOwn_of (List.all_eq_true.mp hq i hi)
  have hp : ∀ i ∈ P, i < args.length := fun i hi => by
    obtain ⟨d, e⟩ := ho i hi
    exact (List.getElem?_eq_some_iff.mp e).1
  have get := fun j => outs_get (P := P) (st := st') (args := args) (by omega) hp j
  have kk : ∀ j, j ∈ P → σ'[j]? = (vs.map some)[j]? := fun j hj => by
    rw [k.1 j hj, List.getElem?_append_left]
    rw [← S.len]
    exact hp j hj
  have cas : ∀ {j : Nat} {b : Sl}, (Sk.outs P args st')[j]? = some b → (j ∈ P ∧ st'[j]? = some b) ∨ (j ∉ P ∧ args[j]? = some b) := fun {j b} h => by
    rw [get j] at h
    by_cases hj : j ∈ P
    · rw [if_pos hj] at h; exact .inl ⟨hj, h⟩
    · rw [if_neg hj] at h; exact .inr ⟨hj, h⟩
  have nown : ∀ {j : Nat} {d}, j ∉ P → args[j]? ≠ some (.own d) := fun {j d} hj e => by
    have := okArgs_own ok j d e
    rw [Nat.zero_add] at this
    exact hj this
  have o2 : ∀ a, OwnA (Sk.outs P args st') (vs.map some) a → OwnA st' σ' a := fun a ⟨j, c, h1, h2⟩ => by
    rcases cas h1 with ⟨hj, h1⟩ | ⟨hj, h1⟩
    · exact ⟨j, c, h1, by rw [kk j hj]; exact h2⟩
    · exact absurd h1 (nown hj)
  have o3 : ∀ a, OwnA (Sk.outs P args st') (vs.map some) a → OwnA args (vs.map some) a ∨ Fr H a := fun a o => (G.gO a (o2 a o)).imp (fun z => OwnA.pad z) id
  refine ⟨⟨by rw [outs_len]; exact S.len, S'.sub, fun j c q => ?_, fun j c q => ?_, fun j c q => ?_, fun j i c c' a h1 h2 h3 h4 => ?_, S'.tab⟩, ⟨⟨G.gF, fun a o h no nt => G.gH a o h (fun z => no z.pad) nt, fun a o h => (G.gN a o h).imp id (Or.imp (fun z => z.pad) id), o3, G.gD⟩, fun a o => ?_⟩⟩
  · rcases cas q with ⟨hj, q⟩ | ⟨hj, q⟩
    · obtain ⟨v, h1, h2⟩ := S'.dat j c q
      exact ⟨v, by rw [← kk j hj]; exact h1, h2⟩
    · obtain ⟨v, h1, h2⟩ := S.dat j c q
      exact ⟨v, h1, h2.mono G.gF⟩
  · rcases cas q with ⟨hj, q⟩ | ⟨hj, q⟩
    · obtain ⟨a, o, h1, h2⟩ := S'.own j c q
      exact ⟨a, o, by rw [← kk j hj]; exact h1, h2⟩
    · exact absurd q (nown hj)
  · rcases cas q with ⟨hj, q⟩ | ⟨hj, q⟩
    · obtain ⟨v, h1, h2⟩ := S'.scr j c q
      exact ⟨v, by rw [← kk j hj]; exact h1, h2⟩
    · obtain ⟨v, h1, h2⟩ := S.scr j c q
      exact ⟨v, h1, sqL_mono G.gF h2⟩
  · rcases cas h1 with ⟨hj, h1⟩ | ⟨hj, h1⟩
    · rcases cas h2 with ⟨hi, h2⟩ | ⟨hi, h2⟩
      · exact S'.inj j i c c' a h1 h2 (by rw [kk j hj]; exact h3) (by rw [kk i hi]; exact h4)
      · exact absurd h2 (nown hi)
    · exact absurd h1 (nown hj)
  · obtain ⟨j, c, h1, h2⟩ := o
    rcases cas h1 with ⟨hj, h1⟩ | ⟨hj, h1⟩
    · obtain ⟨d, e⟩ := ho j hj
      exact ⟨j, d, e, h2⟩
    · exact absurd h1 (nown hj)
end
/-! ### a def keeps its promise -/
section
variable {P : Program} {w : World} {K : PySem.W.Frag} {mg : Str → Option Value} {base : Heap}
theorem start_pad {N : List Str} {vs : List V} {n np : Nat} (hl : vs.length = np) (hN : N.length = np + n) : L2.start N vs = vs.map some ++ List.replicate n none := by
  have e : N.length - vs.length = n := by omega
  first
    | (unfold L2.start; rw [e])
    | (show vs.map some ++ List.replicate (N.length - vs.length) none = _; rw [e])
/-- from a body's rule to the def's: plain result -/
theorem body_ok {Γ : Gm} {X : Cx} {n np : Nat} {Pr : List Nat} {f : MS} {body : List Stmt} {vs : List V} {H : Hp} {Q : VK} {E : XK} (hX : X.K = K) (hb : ESs Γ X (fun cls dx _ H' => E cls dx H') Pr body f)
    (h : spD Γ K np (fnOf n Pr f) vs H Q E) : rS Γ X.K (fun cls dx _ H' => E cls dx H') Pr f { nx := fun _ H' => Q .non H', rt := Q } (vs.map some ++ List.replicate n none) H := by
  subst hX
  obtain ⟨args, F, hl, S, h⟩ := h
  refine ⟨args ++ List.replicate n .un, F, S.pad n, ?_⟩
  unfold fnOf at h
  split at h
  · rename_i hc
    obtain ⟨h1, h2⟩ := hc
    have out : ∀ {st' : List Sl} {σ' : L2.St} {H' F'}, Sim X.K Γ.T F' st' σ' H' → Grow F (args ++ List.replicate n .un) (vs.map some ++ List.replicate n none) H F' st' σ' H' → Keep Pr (vs.map some ++ List.replicate n none) σ' →
        Sim X.K Γ.T F' (Sk.outs Pr args st') (vs.map some) H' ∧ GrowE F args (vs.map some) H F' (Sk.outs Pr args st') H' := fun {st' σ' H' F'} S' G k => by
      refine S.outs h1 h2 S' G k ?_
      rw [S'.len, k.2]
      have := S.len
      simp at this ⊢
      omega
    cases e : f (args ++ List.replicate n .un) with
    | nx st =>
      rw [e] at h
      exact fun σ' H' F' S' G k => let ⟨a, b⟩ := out S' G k; h .non H' F' a b .non
    | rt d st =>
      rw [e] at h
      exact fun v σ' H' F' S' G k r => let ⟨a, b⟩ := out S' G k; h v H' F' a b r
    | ex x st =>
      rw [e] at h
      exact fun cls dx σ' H' F' S' G k r => let ⟨a, b⟩ := out S' G k; h cls dx H' F' a b r
    | bk st => rw [e] at h; exact h.elim
    | ct st => rw [e] at h; exact h.elim
    | no => rw [e] at h; exact h.elim
  · exact h.elim
theorem sp_len {Γ : Gm} {R : Rel D V} {np : Nat} {fn : M D} {ps : List Str} (hl : ps.length = np) : ∀ vs H Q E, spR Γ K R np fn vs H Q E → vs.length = ps.length := fun vs H Q E ⟨args, F, h1, S, _⟩ => by
  have := S.len
  rw [List.length_map] at this
  omega
/-- THE RULE for a def -/
theorem fn_ok {Γ : Gm} {x qual : Str} {params : Arguments} {body : List Stmt} {scope : Scope} {f : Addr} {fd : FuncData} {N ps : List Str} {k : Nat} {Pr : List Nat} {fb : MS} (F : FunD K x qual params body scope [] [] f fd) (S : FnScope N ps scope)
    (hb : ∀ (cdv : Value) (A : Around) (outer : List Env) (s : Shared) (H : Hp) (E : XK), Room k (A.deeper (envOfC qual scope s.heap.objs.size f cdv)) →
      ESs Γ (cxOf (L2.CX P w) P w K mg base N qual scope f cdv A outer s H E) (fun cls dx _ H' => E cls dx H') Pr body fb) : FnOk P w K mg base (L2.CX P w) (k + 1) f fd ps (spD Γ K ps.length (fnOf (N.length - ps.length) Pr fb)) := by
  refine F.ok S (sp_len rfl) fun cdv A outer s H vs Q E hr h => ⟨_, (hb cdv A outer s H E hr).ps, ?_⟩
  have e : L2.start N vs = vs.map some ++ List.replicate (N.length - ps.length) none := by
    unfold L2.start
    rw [sp_len rfl vs H Q E h]
  rw [e]
  exact body_ok (X := cxOf (L2.CX P w) P w K mg base N qual scope f cdv A outer s H E) rfl (hb cdv A outer s H E hr) h
end
end Sk
set_option maxHeartbeats 1000000
namespace Sk
open PySem PySem.Spec PyProof.Rows L2
/-! ### a def whose last row hands back a new object -/
def fnNew (n : Nat) (f : MS) (g : M D) : M D := fun args =>
  if okArgs [] 0 args = true then
    match f (args ++ List.replicate n .un) with
    | .nx st => match g st with
      | .ok d _ => .ok d args
      | .ex x _ => .ex x args
      | .no => .no
    | .ex x _ => .ex x args
    | _ => .no
  else .no
section
variable {P : Program} {w : World} {K : PySem.W.Frag} {mg : Str → Option Value} {base : Heap}
theorem bodyN_ok {Γ : Gm} {X : Cx} {n np : Nat} {f : MS} {g : M D} {s : Stmt} {e : Expr} {vs : List V} {H : Hp} {Q : VK} {E : XK} (hX : X.K = K) (hb : ES Γ X (fun cls dx _ H' => E cls dx H') [] s f) (he : EN Γ X (fun cls dx _ H' => E cls dx H') e g)
    (h : spN Γ K np (fnNew n f g) vs H Q E) : tSeq (rS Γ X.K (fun cls dx _ H' => E cls dx H') [] f) (tRet (rd Γ X.K (fun cls dx _ H' => E cls dx H') (rN X.K) g)) { nx := fun _ H' => Q .non H', rt := Q } (vs.map some ++ List.replicate n none) H := by
  subst hX
  obtain ⟨args, F, hl, S, h⟩ := h
  refine ⟨args ++ List.replicate n .un, F, S.pad n, ?_⟩
  unfold fnNew at h
  split at h
  · rename_i h1
    have out : ∀ {st' : List Sl} {σ' : L2.St} {H' F'}, Sim X.K Γ.T F' st' σ' H' → Grow F (args ++ List.replicate n .un) (vs.map some ++ List.replicate n none) H F' st' σ' H' → Keep [] (vs.map some ++ List.replicate n none) σ' →
        Sim X.K Γ.T F' args (vs.map some) H' ∧ GrowE F args (vs.map some) H F' args H' := fun {st' σ' H' F'} S' G k => by
      refine S.outs (P := []) h1 rfl S' G k ?_
      rw [S'.len, k.2]
      have := S.len
      simp at this ⊢
      omega
    cases e1 : f (args ++ List.replicate n .un) with
    | nx st =>
      rw [e1] at h
      simp only at h
      intro σ' H' F' S' G k
      refine ⟨st, F', S', ?_⟩
      cases e2 : g st with
      | ok d st2 =>
        rw [e2] at h
        exact fun v H2 F2 S2 G2 r => let ⟨a, b⟩ := out S2 (G.trans G2.g) k; h v H2 F2 a b (rN_mono _ _ _ _ _ _ G.gD r)
      | ex x st2 =>
        rw [e2] at h
        exact fun cls dx H2 F2 S2 G2 r => let ⟨a, b⟩ := out S2 (G.trans G2.g) k; h cls dx H2 F2 a b r
      | no => rw [e2] at h; exact h.elim
    | ex x st =>
      rw [e1] at h
      exact fun cls dx σ' H' F' S' G k r => let ⟨a, b⟩ := out S' G k; h cls dx H' F' a b r
    | rt d st => rw [e1] at h; exact h.elim
    | bk st => rw [e1] at h; exact h.elim
    | ct st => rw [e1] at h; exact h.elim
    | no => rw [e1] at h; exact h.elim
  · exact h.elim
theorem fn_okN {Γ : Gm} {x qual : Str} {params : Arguments} {s0 : Stmt} {e0 : Expr} {p0 : Pos} {scope : Scope} {f : Addr} {fd : FuncData} {N ps : List Str} {k : Nat} {fb : MS} {g : M D} (F : FunD K x qual params [s0, .Return (some e0) p0] scope [] [] f fd) (S : FnScope N ps scope)
    (hb : ∀ (cdv : Value) (A : Around) (outer : List Env) (s : Shared) (H : Hp) (E : XK), Room k (A.deeper (envOfC qual scope s.heap.objs.size f cdv)) →
      ES Γ (cxOf (L2.CX P w) P w K mg base N qual scope f cdv A outer s H E) (fun cls dx _ H' => E cls dx H') [] s0 fb)
    (he : ∀ (cdv : Value) (A : Around) (outer : List Env) (s : Shared) (H : Hp) (E : XK), Room k (A.deeper (envOfC qual scope s.heap.objs.size f cdv)) →
      EN Γ (cxOf (L2.CX P w) P w K mg base N qual scope f cdv A outer s H E) (fun cls dx _ H' => E cls dx H') e0 g) : FnOk P w K mg base (L2.CX P w) (k + 1) f fd ps (spN Γ K ps.length (fnNew (N.length - ps.length) fb g)) := by
  refine F.ok S (sp_len rfl) fun cdv A outer s H vs Q E hr h => ⟨_, pss_cons (hb cdv A outer s H E hr).ps (pss_one (ps_ret (he cdv A outer s H E hr).pe)), ?_⟩
  have e : L2.start N vs = vs.map some ++ List.replicate (N.length - ps.length) none := by
    unfold L2.start
    rw [sp_len rfl vs H Q E h]
  rw [e]
  exact bodyN_ok (X := cxOf (L2.CX P w) P w K mg base N qual scope f cdv A outer s H E) rfl (hb cdv A outer s H E hr) (he cdv A outer s H E hr) h
end
/-! ### calls of defs -/
def argOf (st : List Sl) : Op → Option Sl
  | .dat d => some (.dat d)
  | .own i => match st[i]? with
    | some .un => none
    | o => o
def argsOf (st : List Sl) : List Op → Option (List Sl)
  | [] => some []
  | x :: xs => match argOf st x, argsOf st xs with
    | some a, some r => some (a :: r)
    | _, _ => none
def ownIx : List Op → List Nat
  | [] => []
  | .own i :: r => i :: ownIx r
  | .dat _ :: r => ownIx r
/-- the slots handed over, as the callee left them -/
def wb : List Op → List Sl → List Sl → List Sl
  | .own i :: ops, s :: outs, st => wb ops outs (st.set i s)
  | .dat _ :: ops, _ :: outs, st => wb ops outs st
  | _, _, st => st
def callAt (fn : M D) (ops : List Op) : M D := fun st =>
  if (ownIx ops).Nodup then match argsOf st ops with
    | some args => match fn args with
      | .ok d outs => if outs.length = args.length then .ok d (wb ops outs st) else .no
      | .ex x outs => if outs.length = args.length then .ex x (wb ops outs st) else .no
      | .no => .no
    | none => .no
  else .no
def callM (fn : M D) (f : M (List Op)) : M D := f.bind fun ops => callAt fn ops
theorem wb_len : ∀ (ops : List Op) (outs st : List Sl), (wb ops outs st).length = st.length
  | [], _, _ => by unfold wb; rfl
  | .own i :: ops, [], st => by unfold wb; rfl
  | .dat _ :: ops, [], st => by unfold wb; rfl
  | .own i :: ops, s :: outs, st => by
    unfold wb
    rw [wb_len ops outs, List.length_set]
  | .dat _ :: ops, _ :: outs, st => by
    unfold wb
    exact wb_len ops outs st
theorem mem_ownIx {ops : List Op} {j : Nat} : j ∈ ownIx ops ↔ ∃ k : Nat, ops[k]? = some (.own j) := by
  induction ops with
  | nil => simp [ownIx]
  | cons x r ih =>
    cases x with
    | dat d =>
      simp only [ownIx, ih]
      constructor
      · rintro ⟨k, h⟩; exact ⟨k + 1, by simpa using h⟩
      · rintro ⟨k, h⟩
        cases k with
        | zero => simp at h
        | succ k => exact ⟨k, by simpa using h⟩
    | own i =>
      simp only [ownIx, List.mem_cons, ih]
      constructor
      · rintro (rfl | ⟨k, h⟩)
        · exact ⟨0, rfl⟩
        · exact ⟨k + 1, by simpa using h⟩
      · rintro ⟨k, h⟩
        cases k with
        | zero => simp at h; exact .inl h.symm
        | succ k => exact .inr ⟨k, by simpa using h⟩
theorem wb_out : ∀ {ops : List Op} {outs st : List Sl} {j : Nat}, j ∉ ownIx ops → (wb ops outs st)[j]? = st[j]?
  | [], _, _, _, _ => by unfold wb; rfl
  | .own i :: ops, [], st, _, _ => by unfold wb; rfl
  | .dat _ :: ops, [], st, _, _ => by unfold wb; rfl
  | .own i :: ops, s :: outs, st, j, h => by
    unfold wb
    simp only [ownIx, List.mem_cons, not_or] at h
    rw [wb_out h.2, set_ne h.1]
  | .dat _ :: ops, _ :: outs, st, j, h => by
    unfold wb
    exact wb_out h
theorem wb_in : ∀ {ops : List Op} {outs st : List Sl} {k i : Nat} {s : Sl}, (ownIx ops).Nodup → ops[k]? = some (.own i) → outs[k]? = some s → i < st.length → (wb ops outs st)[i]? = some s
  | [], _, _, _, _, _, _, h, _, _ => by simp at h
  | _ :: ops, [], st, _, _, _, _, _, h, _ => by simp at h
  | .dat d :: ops, o :: outs, st, k, i, s, n, h, e, l => by
    unfold wb
    cases k with
    | zero => simp at h
    | succ k => exact wb_in (by simpa [ownIx] using n) (by simpa using h) (by simpa using e) l
  | .own i' :: ops, o :: outs, st, k, i, s, n, h, e, l => by
    unfold wb
    simp only [ownIx, List.nodup_cons] at n
    cases k with
    | zero =>
      simp at h e
      subst h e
      rw [wb_out n.1, set_get l]
    | succ k => exact wb_in n.2 (by simpa using h) (by simpa using e) (by rw [List.length_set]; exact l)
theorem own_one {ops : List Op} (n : (ownIx ops).Nodup) {k l i : Nat} (h1 : ops[k]? = some (.own i)) (h2 : ops[l]? = some (.own i)) : k = l := by
  induction ops generalizing k l with
  | nil => simp at h1
  | cons x r ih =>
    cases x with
    | dat d =>
      simp only [ownIx] at n
      cases k with
      | zero => simp at h1
      | succ k =>
        cases l with
        | zero => simp at h2
        | succ l => exact congrArg (· + 1) (ih n (by simpa using h1) (by simpa using h2))
    | own j =>
      simp only [ownIx, List.nodup_cons] at n
      cases k with
      | zero =>
        simp at h1
        cases l with
        | zero => rfl
        | succ l =>
          have : i ∈ ownIx r := mem_ownIx.mpr ⟨l, by simpa using h2⟩
          rw [← h1] at this
          exact absurd this n.1
      | succ k =>
        cases l with
        | zero =>
          simp at h2
          have : i ∈ ownIx r := mem_ownIx.mpr ⟨k, by simpa using h1⟩
          rw [← h2] at this
          exact absurd this n.1
        | succ l => exact congrArg (· + 1) (ih n.2 (by simpa using h1) (by simpa using h2))
section
variable {K : PySem.W.Frag} {T : List (Addr × Str)} {F H : Hp} {st : List Sl} {σ : L2.St}
theorem RpOs.get : ∀ {ops : List Op} {vs : List V} {k : Nat} {x : Op}, RpOs K F σ ops vs → ops[k]? = some x → ∃ v, vs[k]? = some v ∧ RpO K F σ x v
  | _, _, _, _, .nil, h => by simp at h
  | _, _, 0, _, .cons r _, h => by simp at h; subst h; exact ⟨_, rfl, r⟩
  | _, _, k + 1, _, .cons _ t, h => by simpa using RpOs.get t (by simpa using h)
theorem RpOs.length : ∀ {ops : List Op} {vs : List V}, RpOs K F σ ops vs → ops.length = vs.length
  | _, _, .nil => rfl
  | _, _, .cons _ t => by simp [RpOs.length t]
theorem argsOf_get : ∀ {ops : List Op} {args : List Sl}, argsOf st ops = some args → args.length = ops.length ∧ ∀ (k : Nat) (s : Sl), args[k]? = some s → ∃ x, ops[k]? = some x ∧ argOf st x = some s
  | [], _, h => by
    simp only [argsOf, Option.some.injEq] at h
    subst h
    exact ⟨rfl, fun k s h => by simp at h⟩
  | x :: xs, _, h => by
    simp only [argsOf] at h
    split at h
    · rename_i a r e1 e2
      cases h
      obtain ⟨h1, h2⟩ := argsOf_get e2
      refine ⟨by simp [h1], fun k s hs => ?_⟩
      cases k with
      | zero => simp at hs; subst hs; exact ⟨x, rfl, e1⟩
      | succ k =>
        obtain ⟨y, e3, e4⟩ := h2 k s (by simpa using hs)
        exact ⟨y, by simpa using e3, e4⟩
    · cases h
theorem argOf_own {x : Op} {s : Sl} (h : argOf st x = some s) (n : ∀ d, s ≠ .dat d) : ∃ i, x = .own i ∧ st[i]? = some s := by
  cases x with
  | dat d =>
    simp only [argOf, Option.some.injEq] at h
    exact absurd h.symm (n d)
  | own i =>
    simp only [argOf] at h
    split at h
    · cases h
    · exact ⟨i, rfl, h⟩
/-- the arguments at the call -/
theorem Sim.args {ops : List Op} {args : List Sl} {vs : List V} (S : Sim K T F st σ H) (n : (ownIx ops).Nodup) (h : argsOf st ops = some args) (r : RpOs K F σ ops vs) : Sim K T F args (vs.map some) H := by
  obtain ⟨hl, hg⟩ := argsOf_get h
  have vv : ∀ {k : Nat} {v : V}, vs[k]? = some v → (vs.map some)[k]? = some (some v) := fun e => by rw [List.getElem?_map, e]; rfl
  have ov : ∀ {k : Nat} {s : Sl}, args[k]? = some s → (∀ d, s ≠ .dat d) → ∃ i v, ops[k]? = some (.own i) ∧ st[i]? = some s ∧ vs[k]? = some v ∧ σ[i]? = some (some v) := fun {k s} e n => by
    obtain ⟨x, e1, e2⟩ := hg k s e
    obtain ⟨i, rfl, e3⟩ := argOf_own e2 n
    obtain ⟨v, e4, e5⟩ := r.get e1
    exact ⟨i, v, e1, e3, e4, e5⟩
  refine ⟨by rw [hl, List.length_map, r.length], S.sub, fun k d e => ?_, fun k d e => ?_, fun k ns e => ?_, fun k l d d' a e1 e2 h1 h2 => ?_, S.tab⟩
  · obtain ⟨x, e1, e2⟩ := hg k _ e
    obtain ⟨v, e4, e5⟩ := r.get e1
    refine ⟨v, vv e4, ?_⟩
    cases x with
    | dat d' =>
      simp only [argOf, Option.some.injEq] at e2
      cases e2
      exact e5
    | own i =>
      simp only [argOf] at e2
      split at e2
      · cases e2
      · obtain ⟨u, h1, h2⟩ := S.dat i d e2
        have e5 : σ[i]? = some (some v) := e5
        rw [h1] at e5
        cases e5
        exact h2
  · obtain ⟨i, v, _, h1, h2, h3⟩ := ov e (by intro d z; cases z)
    obtain ⟨a, o, q1, q2⟩ := S.own i d h1
    rw [h3] at q1
    cases q1
    exact ⟨a, o, vv h2, q2⟩
  · obtain ⟨i, v, _, h1, h2, h3⟩ := ov e (by intro d z; cases z)
    obtain ⟨a, q1, q2⟩ := S.scr i ns h1
    rw [h3] at q1
    cases q1
    exact ⟨a, vv h2, q2⟩
  · obtain ⟨i, v, o1, p1, p2, p3⟩ := ov e1 (by intro d z; cases z)
    obtain ⟨j, u, o2, q1, q2, q3⟩ := ov e2 (by intro d z; cases z)
    rw [vv p2] at h1
    rw [vv q2] at h2
    cases h1
    cases h2
    have := S.inj i j d d' a p1 q1 p3 q3
    subst this
    exact own_one n o1 o2
/-- behind the call -/
theorem Sim.after {ops : List Op} {args outs : List Sl} {vs : List V} {F' H' : Hp} (S : Sim K T F st σ H) (n : (ownIx ops).Nodup) (h : argsOf st ops = some args) (r : RpOs K F σ ops vs) (S' : Sim K T F' outs (vs.map some) H') (G : GrowE F args (vs.map some) H F' outs H') (ho : outs.length = args.length) :
    Sim K T F' (wb ops outs st) σ H' ∧ GrowE F st σ H F' (wb ops outs st) H' := by
  obtain ⟨hl, hg⟩ := argsOf_get h
  have vv : ∀ {k : Nat} {v : V}, (vs.map some)[k]? = some (some v) → vs[k]? = some v := fun {k v} e => by
    rw [List.getElem?_map] at e
    cases q : vs[k]? with
    | none => rw [q] at e; cases e
    | some u => rw [q] at e; cases e; rfl
  have back : ∀ {j k : Nat} {v : V}, ops[k]? = some (.own j) → (vs.map some)[k]? = some (some v) → σ[j]? = some (some v) := fun {j k v} e1 e2 => by
    obtain ⟨u, e3, e4⟩ := r.get e1
    rw [vv e2] at e3
    cases e3
    exact e4
  -- a slot behind: handed over, or as it was
  have cas : ∀ {j : Nat} {b : Sl}, (wb ops outs st)[j]? = some b → (∃ k : Nat, ops[k]? = some (Op.own j) ∧ outs[k]? = some b) ∨ (j ∉ ownIx ops ∧ st[j]? = some b) := fun {j b} e => by
    by_cases hj : j ∈ ownIx ops
    · obtain ⟨k, hk⟩ := mem_ownIx.mp hj
      left
      have hlt : j < st.length := by
        have := (List.getElem?_eq_some_iff.mp e).1
        rw [wb_len] at this
        exact this
      have hk2 : k < outs.length := by
        have := (List.getElem?_eq_some_iff.mp hk).1
        omega
      have e2 := wb_in (st := st) n hk (List.getElem?_eq_getElem hk2) hlt
      rw [e2] at e
      cases e
      exact ⟨k, hk, List.getElem?_eq_getElem hk2⟩
    · right
      rw [wb_out hj] at e
      exact ⟨hj, e⟩
  have oA : ∀ a, OwnA args (vs.map some) a → ∃ j, j ∈ ownIx ops ∧ ∃ d, st[j]? = some (.own d) ∧ σ[j]? = some (some (.ref a)) := fun a ⟨k, d, e1, e2⟩ => by
    obtain ⟨x, e3, e4⟩ := hg k _ e1
    obtain ⟨i, rfl, e5⟩ := argOf_own e4 (by intro d z; cases z)
    exact ⟨i, mem_ownIx.mpr ⟨k, e3⟩, d, e5, back e3 e2⟩
  have nA : ∀ {j : Nat} {d a}, j ∉ ownIx ops → st[j]? = some (.own d) → σ[j]? = some (some (.ref a)) → ¬ OwnA args (vs.map some) a := fun {j d a} hj e1 e2 z => by
    obtain ⟨i, hi, d', e3, e4⟩ := oA a z
    have := S.inj j i d d' a e1 e3 e2 e4
    subst this
    exact hj hi
  have os : ∀ a, OwnA (wb ops outs st) σ a → OwnA st σ a := fun a ⟨j, c, e1, e2⟩ => by
    rcases cas e1 with ⟨k, h1, h2⟩ | ⟨hj, h1⟩
    · obtain ⟨u, e3, e4⟩ := r.get h1
      have e4 : σ[j]? = some (some u) := e4
      rw [e2] at e4
      cases e4
      obtain ⟨i, _, d, q1, q2⟩ := oA a (G.os a ⟨k, c, h2, by rw [List.getElem?_map, e3]; rfl⟩)
      exact ⟨i, d, q1, q2⟩
    · exact ⟨j, c, h1, e2⟩
  refine ⟨⟨by rw [wb_len]; exact S.len, S'.sub, fun j d e => ?_, fun j d e => ?_, fun j d e => ?_, fun j i d d' a e1 e2 h1 h2 => ?_, S'.tab⟩, ⟨⟨G.g.gF, fun a o e no nt => G.g.gH a o e (fun z => ?_) nt, fun a o e => ?_, fun a z => .inl (os a z), G.g.gD⟩, os⟩⟩
  · rcases cas e with ⟨k, h1, h2⟩ | ⟨hj, h1⟩
    · obtain ⟨v, e1, e2⟩ := S'.dat k d h2
      exact ⟨v, back h1 e1, e2⟩
    · obtain ⟨v, e1, e2⟩ := S.dat j d h1
      exact ⟨v, e1, e2.mono G.g.gF⟩
  · rcases cas e with ⟨k, h1, h2⟩ | ⟨hj, h1⟩
    · obtain ⟨a, o, e1, e2⟩ := S'.own k d h2
      exact ⟨a, o, back h1 e1, e2⟩
    · obtain ⟨a, o, e1, e2, e3, e4⟩ := S.own j d h1
      have no := nA hj h1 e1
      refine ⟨a, o, e1, ?_, G.g.gH _ _ e3 no e4.nt, e4.mono G.g.gF⟩
      cases q : F' a with
      | none => rfl
      | some u =>
        rcases G.g.gN _ _ q with z | z | z
        · rw [e2] at z; cases z
        · exact absurd z no
        · exact (z.no e3 e4.nt).elim
  · rcases cas e with ⟨k, h1, h2⟩ | ⟨hj, h1⟩
    · obtain ⟨v, e1, e2⟩ := S'.scr k d h2
      exact ⟨v, back h1 e1, e2⟩
    · obtain ⟨v, e1, e2⟩ := S.scr j d h1
      exact ⟨v, e1, sqL_mono G.g.gF e2⟩
  · rcases cas e1 with ⟨k, p1, p2⟩ | ⟨hj, p1⟩
    · obtain ⟨u, e3, e4⟩ := r.get p1
      have e4 : σ[j]? = some (some u) := e4
      rw [h1] at e4
      cases e4
      have w1 : (vs.map some)[k]? = some (some (.ref a)) := by rw [List.getElem?_map, e3]; rfl
      rcases cas e2 with ⟨l, q1, q2⟩ | ⟨hi, q1⟩
      · obtain ⟨u, e5, e6⟩ := r.get q1
        have e6 : σ[i]? = some (some u) := e6
        rw [h2] at e6
        cases e6
        have w2 : (vs.map some)[l]? = some (some (.ref a)) := by rw [List.getElem?_map, e5]; rfl
        have := S'.inj k l d d' a p2 q2 w1 w2
        subst this
        rw [p1] at q1
        cases q1
        rfl
      · exact absurd (G.os a ⟨k, d, p2, w1⟩) (nA hi q1 h2)
    · rcases cas e2 with ⟨l, q1, q2⟩ | ⟨hi, q1⟩
      · obtain ⟨u, e5, e6⟩ := r.get q1
        have e6 : σ[i]? = some (some u) := e6
        rw [h2] at e6
        cases e6
        exact absurd (G.os a ⟨l, d', q2, by rw [List.getElem?_map, e5]; rfl⟩) (nA hj p1 h1)
      · exact S.inj j i d d' a p1 q1 h1 h2
  · obtain ⟨j, _, d, q1, q2⟩ := oA a z
    exact no ⟨j, d, q1, q2⟩
  · rcases G.g.gN _ _ e with z | z | z
    · exact .inl z
    · obtain ⟨j, _, d, q1, q2⟩ := oA a z
      exact .inr (.inl ⟨j, d, q1, q2⟩)
    · exact .inr (.inr z)
end
section
variable {Γ : Gm} {X : Cx} {W : WX} {pos p : Pos} {x : Str} {k : Nat} {f : Addr} {fd : FuncData} {ps : List Str} {fn : M D} {e : Expr} {es : List Expr} {fa : M (List Op)} {R : Rel D V}
/-- the reading of a call -/
theorem call_read {F H : Hp} {st : List Sl} {σ : L2.St} {ops : List Op} {vs : List V} {np : Nat} {Q : VK} (S : Sim X.K Γ.T F st σ H) (r : RpOs X.K F σ ops vs) (h : fin Γ X.K W R F st σ H (callAt fn ops st) Q) (hn : ops.length = np) :
    spR Γ X.K R np fn vs H Q (WE W σ) := by
  unfold callAt at h
  split at h
  · rename_i n
    split at h
    · rename_i args ha
      have hl := (argsOf_get ha).1
      refine ⟨args, F, by rw [hl, hn], S.args n ha r, ?_⟩
      cases e : fn args with
      | ok d outs =>
        rw [e] at h
        simp only at h
        split at h
        · rename_i ho
          exact fun v H' F' S' G rr => let ⟨a, b⟩ := S.after n ha r S' G ho; h v H' F' a b rr
        · exact h.elim
      | ex y outs =>
        rw [e] at h
        simp only at h
        split at h
        · rename_i ho
          exact fun cls dx H' F' S' G rr => let ⟨a, b⟩ := S.after n ha r S' G ho; h cls dx H' F' a b rr
        · exact h.elim
      | no => rw [e] at h; exact h.elim
    · exact h.elim
  · exact h.elim
/-- how many arguments -/
def hasLen {α : Type} (n : Nat) (f : M (List α)) : Prop := ∀ st ds st', f st = .ok ds st' → ds.length = n
theorem len_nil {α : Type} : hasLen 0 (mNil : M (List α)) := fun st ds st' h => by
  unfold mNil M.ret at h
  cases h
  rfl
theorem len_cons {α : Type} {n : Nat} {f : M α} {g : M (List α)} (h : hasLen n g) : hasLen (n + 1) (mCons f g) := fun st ds st' e => by
  unfold mCons M.bind at e
  cases e1 : f st with
  | ok d st1 =>
    rw [e1] at e
    simp only at e
    cases e2 : g st1 with
    | ok r st2 =>
      rw [e2] at e
      simp only [M.ret] at e
      cases e
      simp [h _ _ _ e2]
    | ex x st2 => rw [e2] at e; cases e
    | no => rw [e2] at e; cases e
  | ex x st1 => rw [e1] at e; cases e
  | no => rw [e1] at e; cases e
theorem call_tree {R : Rel D V} {np : Nat} (hR : RelMono R) (hl : hasLen np fa) : ∀ σ H Q, rd Γ X.K W R (callM fn fa) σ H Q → tCallS (spR Γ X.K R np fn) (WE W) (fun σ => rd Γ X.K W (rOs X.K σ) fa σ) σ H Q := by
  intro σ H Q ⟨st, F, S, h⟩
  refine ⟨st, F, S, ?_⟩
  have h0 := h
  unfold callM M.bind at h0
  cases e : fa st with
  | ok ops st1 =>
    rw [e] at h0
    exact fun vs H1 F1 S1 G r => call_read S1 r (fin_mono hR G h0) (hl _ _ _ e)
  | ex x st1 =>
    rw [e] at h0
    exact fun cls dx H1 F1 S1 G r => h0 cls dx H1 F1 S1 G r
  | no => rw [e] at h0; exact h0.elim
theorem ev_call (F : FnOk X.prog X.w X.K X.mg X.base (L2.CX X.prog X.w) k f fd ps (spD Γ X.K ps.length fn)) (hr : Room k X.A) (hm : X.mg x = some (.ref f)) (hk : PySem.W.keepIn X.K (.ref f) = true) (hb : L2.Binds X.K fd ps []) (tk : Takes X W) (hl : hasLen ps.length fa)
    (ha : EA Γ X W (e :: es) fa) (hg : Gl X x := by rfl) (hdb : (x == ("__debug__" : Str)) = false := by decide) (he : starEach (e :: es) X.env = (false, eval e X.env) :: starEach es X.env := by rfl) (hpl : (backTo pos (starEach es X.env)).any (·.1) = false := by rfl) :
    EV Γ X W (.Call (.Name x p) (e :: es) [] pos) (callM fn fa) :=
  ⟨PE.imp (pe_callS F hr hg hm hk hb (fun σ => passAt tk σ) ha.pa hdb he hpl) (call_tree rP_mono hl)⟩
theorem en_call (F : FnOk X.prog X.w X.K X.mg X.base (L2.CX X.prog X.w) k f fd ps (spN Γ X.K ps.length fn)) (hr : Room k X.A) (hm : X.mg x = some (.ref f)) (hk : PySem.W.keepIn X.K (.ref f) = true) (hb : L2.Binds X.K fd ps []) (tk : Takes X W) (hl : hasLen ps.length fa)
    (ha : EA Γ X W (e :: es) fa) (hg : Gl X x := by rfl) (hdb : (x == ("__debug__" : Str)) = false := by decide) (he : starEach (e :: es) X.env = (false, eval e X.env) :: starEach es X.env := by rfl) (hpl : (backTo pos (starEach es X.env)).any (·.1) = false := by rfl) :
    EN Γ X W (.Call (.Name x p) (e :: es) [] pos) (callM fn fa) :=
  ⟨PE.imp (pe_callS F hr hg hm hk hb (fun σ => passAt tk σ) ha.pa hdb he hpl) (call_tree rN_mono hl)⟩
/-! ### raise, try -/
variable {P : List Nat}
def raiseS (i : Nat) : MS := fun st => .ex ⟨i, none⟩ st
theorem es_raise {p3 : Pos} {i : Nat} {C : Addr} {B newId initId : String} {bmB : List Value} {m : Str} {j : Nat} {p2 : Pos} (hc : X.calm = true) (tk : Takes X W) (hC : Γ.ca i = C) (FB : ExcBaseFacts B newId initId bmB) (q : PySem.W.excIn X.K C bmB newId = true) (gC : X.mg x = some (.ref C)) (kC : PySem.W.keepIn X.K (.ref C) = true)
    (r : Raises X (.ref C)) (hg : Gl X x := by rfl) (hdb : (x == ("__debug__" : Str)) = false := by decide) : ES Γ X W P (.Raise (some (.Call (.Name x p) [.Constant (.str m) j p2] [] p3)) none pos) (raiseS i) :=
  ⟨PS.imp (ps_raise hc tk (pmk_own FB q gC kC r hg hdb)) fun D σ H ⟨st, F, S, h⟩ => h _ _ σ H F S .refl .refl ⟨by rw [hC], True.intro⟩⟩
/-- a suite raises nothing -/
def noEx : SOut → SOut
  | .ex _ _ => .no
  | o => o
/-- the handlers: class by number, what the suite does -/
def tryS (nc : Nat) (fb : MS) (hs : List (Nat × MS)) : MS := fun st => match fb st with
  | .ex x st1 => if x.cls < nc then match hs.find? fun h => h.1 == x.cls with
      | some h => noEx (h.2 st1)
      | none => .ex x st1
    else .no
  | o => o
inductive HD (Γ : Gm) (X : Cx) (P : List Nat) : List ExceptHandler → List (Nat × MS) → Prop
  | nil : HD Γ X P [] []
  | cons {x : Str} {i : Nat} {fs : MS} {b₀ : Stmt} {suite : List Stmt} {np pos' : Pos} {hds : List ExceptHandler} {l : List (Nat × MS)} (hc : Names X x (.ref (Γ.ca i)))
      (hsu : ∀ (a : Addr) (oe : Obj) (pn : List (Addr × Obj)), ESs Γ (X.suite a ((a, oe) :: pn)) W0 P (b₀ :: suite) fs) (r : HD Γ X P hds l) :
      HD Γ X P (.ExceptHandler (some (.Name x np)) none (b₀ :: suite) pos' :: hds) ((i, fs) :: l)
abbrev hdl (Γ : Gm) (K : PySem.W.Frag) (P : List Nat) (l : List (Nat × MS)) : List (Value × (Addr → Value → Option Addr → TS)) := l.map fun h => (Value.ref (Γ.ca h.1), fun _ _ _ => rS Γ K W0 P h.2)
theorem HD.ok {hds : List ExceptHandler} {l : List (Nat × MS)} (h : HD Γ X P hds l) : HdsOk X hds (hdl Γ X.K P l) := by
  induction h with
  | nil => exact .nil
  | cons hc hsu _ ih => exact .cons hc (fun a oe cls d pn _ _ => (hsu a oe pn).ps) ih
theorem finS_noEx {F H : Hp} {st : List Sl} {σ : L2.St} {o : SOut} {D : Ends} {W' : WX} (h : finS Γ X.K W P F st σ H (noEx o) D) : finS Γ X.K W' P F st σ H o D := by
  cases o with
  | ex x st1 => exact h.elim
  | nx _ => exact h
  | bk _ => exact h
  | ct _ => exact h
  | rt _ _ => exact h
  | no => exact h
theorem es_try {nc : Nat} {body : List Stmt} {h₀ : ExceptHandler} {hds : List ExceptHandler} {l : List (Nat × MS)} {fb : MS} (hs : X.stack = X.env :: X.outer) (hf : X.env.frame = some X.env.locals) (tk : Takes X W)
    (hm : ∀ i j, i < nc → j < nc → PySem.W.exmOne X.K (.ref (Γ.ca i)) (.ref (Γ.ca j)) = some (decide (i = j))) (hn : (l.all fun h => decide (h.1 < nc)) = true)
    (hb : ∀ (W : WX) (pn : List (Addr × Obj)) (xe : Value → Shared → Prop), Takes (X.tr pn xe) W → PassesOwn (model X.prog X.w) X.A X.env xe → ESs Γ (X.tr pn xe) W P body fb)
    (hh : HD Γ X P (h₀ :: hds) l) : ES Γ X W P (.Try body (h₀ :: hds) [] [] pos) (tryS nc fb l) := by
  refine ⟨PS.imp (ps_try_many (tb := fun W => rS Γ X.K W P fb) hs hf tk (fun W pn xe t p => (hb W pn xe t p).ps) hh.ok) fun D σ H ⟨st, F, S, h⟩ => ⟨st, F, S, ?_⟩⟩
  unfold tryS at h
  cases e : fb st with
  | ex x st1 =>
    rw [e] at h
    simp only at h
    split at h
    · rename_i hx
      intro cls dx σ' H' F' S' G k r
      have r1 : cls = .ref (Γ.ca x.cls) := r.1
      subst r1
      have go : ∀ l' : List (Nat × MS), (l'.all fun h => decide (h.1 < nc)) = true → finS Γ X.K W P F st σ H (match l'.find? fun h => h.1 == x.cls with
          | some h => noEx (h.2 st1)
          | none => .ex x st1) D → wMany X.K W D (hdl Γ X.K P l') (.ref (Γ.ca x.cls)) dx σ' H' := by
        intro l'
        induction l' with
        | nil => intro _ h; exact h _ _ σ' H' F' S' G k r
        | cons q l' ih =>
          intro hn h
          simp only [List.all_cons, Bool.and_eq_true, decide_eq_true_eq] at hn
          refine ⟨_, hm x.cls q.1 hx hn.1, fun hy a _ => ?_, fun hno => ?_⟩
          · have e1 : x.cls = q.1 := of_decide_eq_true hy
            rw [List.find?_cons_of_pos (by simp [e1])] at h
            exact ⟨st1, F', S', finS_mono G k (finS_noEx h)⟩
          · have e1 : ¬ x.cls = q.1 := of_decide_eq_false hno
            rw [List.find?_cons_of_neg (by simp [Ne.symm e1])] at h
            exact ih hn.2 h
      exact go l hn h
    · exact h.elim
  | nx _ => rw [e] at h; exact h
  | bk _ => rw [e] at h; exact h
  | ct _ => rw [e] at h; exact h
  | rt _ _ => rw [e] at h; exact h
  | no => rw [e] at h; exact h
end
end Sk
set_option maxHeartbeats 1000000
namespace Sk
open PySem PySem.Spec PyProof.Rows L2
section
variable {Γ : Gm} {X : Cx} {W : WX} {pos p : Pos} {x : Str} {e : Expr} {es : List Expr} {fa : M (List Op)} {r : List V → Hp → VK → Prop} {op : List D → Option D} {id T : String}
theorem apA_ok {F H : Hp} {st : List Sl} {σ : L2.St} {xs : List V} {ops : List Op} {Q : VK} (hs : SA X.K r op) (S : Sim X.K Γ.T F st σ H) (h : fin Γ X.K W (rP X.K) F st σ H (apA op ops st) Q) (rx : RpOs X.K F σ ops xs) : r xs H Q := by
  unfold apA at h
  split at h
  · rename_i ds h1
    cases ho : op ds with
    | none => rw [ho] at h; exact h.elim
    | some z =>
      rw [ho] at h
      exact hs F H _ _ _ _ S.sub (S.lookAll rx h1) ho fun v H' F' A q => h v H' F' (S.add A) A.grow q
  · exact h.elim
theorem apAN_ok {F H : Hp} {st : List Sl} {σ : L2.St} {xs : List V} {ops : List Op} {Q : VK} (hs : SAN X.K r op) (S : Sim X.K Γ.T F st σ H) (h : fin Γ X.K W (rN X.K) F st σ H (apA op ops st) Q) (rx : RpOs X.K F σ ops xs) : r xs H Q := by
  unfold apA at h
  split at h
  · rename_i ds h1
    cases ho : op ds with
    | none => rw [ho] at h; exact h.elim
    | some z =>
      rw [ho] at h
      refine hs F H _ _ _ _ S.sub (S.lookAll rx h1) ho fun p u n q => h _ _ F (S.new n) (grow_new n) ⟨p, u, rfl, .inl n, S.fnone n, upd_same, q⟩
  · exact h.elim
theorem tCB_ok (hs : SA X.K r op) : ∀ σ H Q, rd Γ X.K W (rP X.K) (opA op fa) σ H Q → tCB r (fun σ => rd Γ X.K W (rOs X.K σ) fa σ) σ H Q := fun σ H Q ⟨st, F, S, h⟩ =>
  fin_bind rP_mono S h fun ds st1 v H1 F1 S1 G1 r1 h1 => apA_ok hs S1 h1 r1
theorem tCBN_ok (hs : SAN X.K r op) : ∀ σ H Q, rd Γ X.K W (rN X.K) (opA op fa) σ H Q → tCB r (fun σ => rd Γ X.K W (rOs X.K σ) fa σ) σ H Q := fun σ H Q ⟨st, F, S, h⟩ =>
  fin_bind rN_mono S h fun ds st1 v H1 F1 S1 G1 r1 h1 => apAN_ok hs S1 h1 r1
/-- f(..), f a built-in function -/
theorem ev_cb (hc : CallR X (.builtin id) r) (hs : SA X.K r op) (hm : X.mg x = none) (hv : bootBuiltins x = some (.builtin id)) (ha : EA Γ X W (e :: es) fa) (hg : Gl X x := by rfl) (hn : x ≠ "__name__" := by decide) (hdb : (x == ("__debug__" : Str)) = false := by decide)
    (he : starEach (e :: es) X.env = (false, eval e X.env) :: starEach es X.env := by rfl) (hpl : (backTo pos (starEach es X.env)).any (·.1) = false := by rfl) : EV Γ X W (.Call (.Name x p) (e :: es) [] pos) (opA op fa) :=
  ⟨PE.imp (pe_callB hc hg hm hv ha.pa hn hdb he hpl) (tCB_ok hs)⟩
theorem en_cb (hc : CallR X (.builtin id) r) (hs : SAN X.K r op) (hm : X.mg x = none) (hv : bootBuiltins x = some (.builtin id)) (ha : EA Γ X W (e :: es) fa) (hg : Gl X x := by rfl) (hn : x ≠ "__name__" := by decide) (hdb : (x == ("__debug__" : Str)) = false := by decide)
    (he : starEach (e :: es) X.env = (false, eval e X.env) :: starEach es X.env := by rfl) (hpl : (backTo pos (starEach es X.env)).any (·.1) = false := by rfl) : EN Γ X W (.Call (.Name x p) (e :: es) [] pos) (opA op fa) :=
  ⟨PE.imp (pe_callB hc hg hm hv ha.pa hn hdb he hpl) (tCBN_ok hs)⟩
/-- T(..), T a built-in class -/
theorem ev_ct (hc : CallR X (.type T) r) (hs : SA X.K r op) (hm : X.mg x = none) (hv : bootBuiltins x = some (.type T)) (ha : EA Γ X W (e :: es) fa) (hg : Gl X x := by rfl) (hn : x ≠ "__name__" := by decide) (hdb : (x == ("__debug__" : Str)) = false := by decide)
    (he : starEach (e :: es) X.env = (false, eval e X.env) :: starEach es X.env := by rfl) (hpl : (backTo pos (starEach es X.env)).any (·.1) = false := by rfl) : EV Γ X W (.Call (.Name x p) (e :: es) [] pos) (opA op fa) :=
  ⟨PE.imp (pe_callTy hc hg hm hv ha.pa hn hdb he hpl) (tCB_ok hs)⟩
theorem en_ct (hc : CallR X (.type T) r) (hs : SAN X.K r op) (hm : X.mg x = none) (hv : bootBuiltins x = some (.type T)) (ha : EA Γ X W (e :: es) fa) (hg : Gl X x := by rfl) (hn : x ≠ "__name__" := by decide) (hdb : (x == ("__debug__" : Str)) = false := by decide)
    (he : starEach (e :: es) X.env = (false, eval e X.env) :: starEach es X.env := by rfl) (hpl : (backTo pos (starEach es X.env)).any (·.1) = false := by rfl) : EN Γ X W (.Call (.Name x p) (e :: es) [] pos) (opA op fa) :=
  ⟨PE.imp (pe_callTy hc hg hm hv ha.pa hn hdb he hpl) (tCBN_ok hs)⟩
end
/-! ### what they do -/
def dLen : List D → Option D
  | [.list xs] => some (.int (xs.length : Nat))
  | [.tuple xs] => some (.int (xs.length : Nat))
  | [.str x] => chk (x.length ≤ cap) (.int (x.length : Nat))
  | _ => none
def dAbs : List D → Option D
  | [.int i] => some (.int (if i < 0 then -i else i))
  | _ => none
def dInt : List D → Option D
  | [.int i] => some (.int i)
  | [.bool b] => some (.int (if b then 1 else 0))
  | _ => none
def dMax2 : List D → Option D
  | [.int i, .int j] => some (.int (if j > i then j else i))
  | _ => none
def dMin2 : List D → Option D
  | [.int i, .int j] => some (.int (if j < i then j else i))
  | _ => none
def dTup : List D → Option D
  | [.list xs] => some (.tuple xs)
  | [.tuple xs] => some (.tuple xs)
  | _ => none
def dList : List D → Option D
  | [.list xs] => some (.list xs)
  | [.tuple xs] => some (.list xs)
  | _ => none
/-- ints out of data -/
def intsOf : List D → Option (List Int)
  | [] => some []
  | .int i :: r => (intsOf r).map (i :: ·)
  | _ => none
def dSum : List D → Option D
  | [.list xs] => (intsOf xs).map fun ns => .int ns.sum
  | _ => none
def insI (x : Int) : List Int → List Int
  | [] => [x]
  | y :: r => if x ≤ y then x :: y :: r else y :: insI x r
def sortI : List Int → List Int
  | [] => []
  | x :: r => insI x (sortI r)
def dSorted : List D → Option D
  | [.list xs] => (intsOf xs).bind fun ns => chk (ns.length < 64) (.list ((sortI ns).map .int))
  | _ => none
def dStrI : List D → Option D
  | [.int i] => chk (i.natAbs.log2 < 1920) (.str (toString i))
  | _ => none
section
variable {X : Cx} {K : PySem.W.Frag}
theorem sA_len : SA K (fun xs H Q => ∃ x n, xs = [x] ∧ LenV K x H n ∧ Q (.int n) H) dLen := by
  intro F H ds z xs Q hF r q k
  have hm : ∀ a o, F a = some o → H a = some o := fun a o e => (hF a o e).1
  unfold dLen at q
  split at q
  · cases q
    cases r with
    | cons r t =>
      cases t
      cases r with
      | lst sx qx => exact ⟨_, _, rfl, .inl ⟨_, .inl (.inl sx), rfl⟩, by rw [← qx.length]; exact k _ _ _ (Add.refl hF) (.int _)⟩
  · cases q
    cases r with
    | cons r t =>
      cases t
      cases r with
      | tup sx qx => exact ⟨_, _, rfl, .inr ⟨_, sqT_mono hm sx.sq, rfl⟩, by rw [← qx.length]; exact k _ _ _ (Add.refl hF) (.int _)⟩
  · obtain ⟨c, rfl⟩ := chk_some q
    cases r with
    | cons r t =>
      cases t
      cases r
      exact ⟨_, _, rfl, ⟨le_cap c, rfl⟩, k _ _ _ (Add.refl hF) (.int _)⟩
  · cases q
theorem sA_abs : SA K (fun xs H Q => ∃ i, xs = [.int i] ∧ Q (.int (if i < 0 then -i else i)) H) dAbs := by
  intro F H ds z xs Q hF r q k
  unfold dAbs at q
  split at q
  · cases q
    cases r with
    | cons r t =>
      cases t
      cases r
      exact ⟨_, rfl, k _ _ _ (Add.refl hF) (.int _)⟩
  · cases q
theorem sA_int : SA K (fun xs H Q => (∃ i, xs = [.int i] ∧ Q (.int i) H) ∨ ∃ k, xs = [.bl k] ∧ Q (.int (if k then 1 else 0)) H) dInt := by
  intro F H ds z xs Q hF r q k
  unfold dInt at q
  split at q
  · cases q
    cases r with
    | cons r t =>
      cases t
      cases r
      exact .inl ⟨_, rfl, k _ _ _ (Add.refl hF) (.int _)⟩
  · cases q
    cases r with
    | cons r t =>
      cases t
      cases r
      exact .inr ⟨_, rfl, k _ _ _ (Add.refl hF) (.int _)⟩
  · cases q
theorem sA_max : SA K (fun xs H Q => ∃ i j, xs = [.int i, .int j] ∧ Q (.int (if j > i then j else i)) H) dMax2 := by
  intro F H ds z xs Q hF r q k
  unfold dMax2 at q
  split at q
  · cases q
    cases r with
    | cons r t =>
      cases t with
      | cons r' t =>
        cases t
        cases r
        cases r'
        exact ⟨_, _, rfl, k _ _ _ (Add.refl hF) (.int _)⟩
  · cases q
theorem sA_min : SA K (fun xs H Q => ∃ i j, xs = [.int i, .int j] ∧ Q (.int (if j < i then j else i)) H) dMin2 := by
  intro F H ds z xs Q hF r q k
  unfold dMin2 at q
  split at q
  · cases q
    cases r with
    | cons r t =>
      cases t with
      | cons r' t =>
        cases t
        cases r
        cases r'
        exact ⟨_, _, rfl, k _ _ _ (Add.refl hF) (.int _)⟩
  · cases q
theorem sA_tup : SA K (fun xs H Q => ∃ p ys, xs = [.ref p] ∧ ((SqL K H p ys ∧ NewT ys H Q) ∨ (SqT K H p ys ∧ Q (.ref p) H))) dTup := by
  intro F H ds z xs Q hF r q k
  have hm : ∀ a o, F a = some o → H a = some o := fun a o e => (hF a o e).1
  unfold dTup at q
  split at q
  · cases q
    cases r with
    | cons r t =>
      cases t
      cases r with
      | lst sx qx =>
        refine ⟨_, _, rfl, .inl ⟨.inl (.inl sx), fun l ob hl nd => ?_⟩⟩
        rename_i us
        have A := Add.new (o := .frz ob (.tup us)) hF hl (by intro ps z; cases z)
        exact k _ _ _ A (.tup ⟨ob, upd_same, nd⟩ (qx.mono A.fF))
  · cases q
    cases r with
    | cons r t =>
      cases t
      cases r with
      | tup sx qx => exact ⟨_, _, rfl, .inr ⟨sqT_mono hm sx.sq, k _ _ _ (Add.refl hF) (.tup sx qx)⟩⟩
  · cases q
theorem sA_list : SAN K (fun xs H Q => ∃ p ys, xs = [.ref p] ∧ (SqL K H p ys ∨ SqT K H p ys) ∧ ∀ l, H l = none → Q (.ref l) (upd H l (.lst ys))) dList := by
  intro F H ds z xs Q hF r q k
  have hm : ∀ a o, F a = some o → H a = some o := fun a o e => (hF a o e).1
  unfold dList at q
  split at q
  · cases q
    cases r with
    | cons r t =>
      cases t
      cases r with
      | lst sx qx => exact ⟨_, _, rfl, .inl (.inl (.inl sx)), fun l hl => k _ _ hl (.lst qx)⟩
  · cases q
    cases r with
    | cons r t =>
      cases t
      cases r with
      | tup sx qx => exact ⟨_, _, rfl, .inr (sqT_mono hm sx.sq), fun l hl => k _ _ hl (.lst qx)⟩
  · cases q
theorem ints_of {F : Hp} : ∀ {ds : List D} {ns : List Int} {vs : List V}, intsOf ds = some ns → RpA K F ds vs → vs = ns.map V.int
  | [], _, _, h, .nil => by
    simp only [intsOf, Option.some.injEq] at h
    subst h
    rfl
  | d :: ds, ns, _, h, .cons r t => by
    unfold intsOf at h
    split at h
    · rename_i e
      cases e
    · rename_i i r' e
      cases e
      cases e2 : intsOf ds with
      | none => rw [e2] at h; cases h
      | some ms =>
        rw [e2] at h
        cases h
        cases r
        rw [ints_of e2 t]
        rfl
    · cases h
theorem rpA_ints {F : Hp} : ∀ ns : List Int, RpA K F (ns.map .int) (ns.map V.int)
  | [] => .nil
  | n :: ns => .cons (.int n) (rpA_ints ns)
theorem sA_sum : SA K (rSum K) dSum := by
  intro F H ds z xs Q hF r q k
  unfold dSum at q
  split at q
  · rename_i ys
    cases e : intsOf ys with
    | none => rw [e] at q; cases q
    | some ns =>
      rw [e] at q
      cases q
      cases r with
      | cons r t =>
        cases t
        cases r with
        | lst sx qx =>
          have := ints_of e qx
          subst this
          exact ⟨_, ns, rfl, .inl (.inl sx), k _ _ _ (Add.refl hF) (.int _)⟩
  · cases q
theorem insI_perm (x : Int) : ∀ l : List Int, (insI x l).Perm (x :: l)
  | [] => .refl _
  | y :: r => by
    unfold insI
    split
    · exact .refl _
    · exact ((insI_perm x r).cons y).trans (.swap x y r)
theorem sortI_perm : ∀ l : List Int, (sortI l).Perm l
  | [] => .refl _
  | x :: r => (insI_perm x _).trans ((sortI_perm r).cons x)
theorem insI_sorted (x : Int) : ∀ {l : List Int}, l.Pairwise (· ≤ ·) → (insI x l).Pairwise (· ≤ ·)
  | [], _ => by simp [insI]
  | y :: r, h => by
    unfold insI
    rw [List.pairwise_cons] at h
    split
    · rename_i hxy
      refine List.pairwise_cons.mpr ⟨fun z hz => ?_, List.pairwise_cons.mpr h⟩
      rcases List.mem_cons.mp hz with rfl | hz
      · exact hxy
      · exact Int.le_trans hxy (h.1 z hz)
    · rename_i hxy
      refine List.pairwise_cons.mpr ⟨fun z hz => ?_, insI_sorted x h.2⟩
      rcases List.mem_cons.mp ((insI_perm x r).mem_iff.mp hz) with rfl | hz
      · omega
      · exact h.1 z hz
theorem sortI_sorted : ∀ l : List Int, (sortI l).Pairwise (· ≤ ·)
  | [] => .nil
  | x :: r => insI_sorted x (sortI_sorted r)
theorem sorted_one {a b : List Int} (h1 : a.Pairwise (· ≤ ·)) (h2 : b.Pairwise (· ≤ ·)) (p : a.Perm b) : a = b :=
  List.Perm.eq_of_pairwise (fun x y _ _ h h' => Int.le_antisymm h h') h1 h2 p
theorem sA_sorted : SAN K (rSorted K) dSorted := by
  intro F H ds z xs Q hF r q k
  unfold dSorted at q
  split at q
  · rename_i ys
    cases e : intsOf ys with
    | none => rw [e] at q; cases q
    | some ns =>
      rw [e] at q
      obtain ⟨c, rfl⟩ := chk_some (show chk (ns.length < 64) _ = some z from q)
      cases r with
      | cons r t =>
        cases t
        cases r with
        | lst sx qx =>
          have := ints_of e qx
          subst this
          refine ⟨_, ns, rfl, .inl (.inl sx), c, fun ns' p h1 h2 hp => ?_⟩
          have : ns' = sortI ns := sorted_one h2 (sortI_sorted ns) (h1.trans (sortI_perm ns).symm)
          subst this
          exact k _ _ hp (.lst (rpA_ints _))
  · cases q
theorem sA_strI : SA K (fun xs H Q => ∃ i, xs = [.int i] ∧ i.natAbs.log2 < 1920 ∧ Q (.str (toString i)) H) dStrI := by
  intro F H ds z xs Q hF r q k
  unfold dStrI at q
  split at q
  · obtain ⟨c, rfl⟩ := chk_some q
    cases r with
    | cons r t =>
      cases t
      cases r
      exact ⟨_, rfl, c, k _ _ _ (Add.refl hF) (.str _)⟩
  · cases q
end
/-! ### isinstance(x, T), T a built-in class -/
def tyN : D → String
  | .none => "NoneType"
  | .bool _ => "bool"
  | .int _ => "int"
  | .str _ => "str"
  | .list _ => "list"
  | .tuple _ => "tuple"
  | .dict _ => "dict"
def isiD (T : String) (d : D) : Bool := tyN d == T || (T == "int" && tyN d == "bool")
def isiM (T : String) (f : M Op) : M D := un1 (fun d => some (.bool (isiD T d))) f
section
variable {Γ : Gm} {X : Cx} {W : WX} {pos p p2 : Pos} {x : Str} {e : Expr} {f : M Op}
theorem tyX_of {K : PySem.W.Frag} {F H : Hp} {d : D} {v : V} (hm : ∀ a o, F a = some o → H a = some o) (r : RdR K F H d v) : TyX K H v (.type (tyN d)) := by
  cases r with
  | non => exact .base .non
  | bl b => exact .base (.bl b)
  | int i => exact .base (.int i)
  | str i => exact .base (.str i)
  | lst sx qx => exact .base (.lst sx)
  | tup sx qx =>
    rcases sqT_mono hm sx.sq with (h | ⟨o, h⟩) | ⟨o, its, n, h1, h2, _⟩
    · exact .base (.tup h)
    · exact .fTuple h
    · exact .kTuple h1 h2
  | dct sx qx =>
    cases qx with
    | dk _ => exact .base (.dK sx)
theorem isi_kit (T : String) (h : T = "int" ∨ T = "bool" ∨ T = "str" ∨ T = "tuple" ∨ T = "list") (d : D) : kitB (tyN d) T = some (isiD T d) := by
  rcases h with rfl | rfl | rfl | rfl | rfl <;> cases d <;> (simp only [tyN, isiD]; decide +kernel)
theorem ev_isi {T : String} {nT : Str} (hT : T = "int" ∨ T = "bool" ∨ T = "str" ∨ T = "tuple" ∨ T = "list") (hm : X.mg "isinstance" = none) (hmT : X.mg nT = none) (hv : bootBuiltins nT = some (.type T)) (ha : EO Γ X W e f)
    (hg : Gl X "isinstance" := by rfl) (hgT : Gl X nT := by rfl) (hn : nT ≠ "__name__" := by decide) (hdb : (nT == ("__debug__" : Str)) = false := by decide)
    (he : starEach [e, .Name nT p2] X.env = (false, eval e X.env) :: starEach [.Name nT p2] X.env := by rfl) (he2 : starEach [.Name nT p2] X.env = (false, eval (.Name nT p2) X.env) :: starEach [] X.env := by rfl) (hpl : (backTo pos (starEach [.Name nT p2] X.env)).any (·.1) = false := by rfl) :
    EV Γ X W (.Call (.Name "isinstance" p) [e, .Name nT p2] [] pos) (isiM T f) := by
  refine ⟨PE.imp (pe_callB call_isi hg hm (by decide +kernel) (pa_cons ha.pe (pa_cons (pe_bltn (v := .ty T) hgT hmT hv rfl hn hdb) pa_nil he2) he) (by decide) (by decide) he hpl) fun σ H Q ⟨st, F, S, h⟩ => fin_bind rP_mono S h fun d st1 v H1 F1 S1 G1 r1 h1 => ?_⟩
  unfold ap1 at h1
  split at h1
  · rename_i d' e1
    have rr := S1.look r1 e1
    exact ⟨v, .ty T, _, _, isiD T d', rfl, .ty T, tyX_of S1.sub1 rr, kit_ty (isi_kit T hT d'), fin_ret S1 h1 (.bl _)⟩
  · exact h1.elim
end
end Sk
set_option maxHeartbeats 1000000
namespace Sk
open PySem PySem.Spec PyProof.Rows L2
/-! ### slices -/
structure EP (Γ : Gm) (X : Cx) (W : WX) (e : Option Expr) (f : M (Option Int)) : Prop where
  po : PO X e (rd Γ X.K W (rE (Option Int)) f)
def partM (f : M D) : M (Option Int) := f.bind fun d => match d with
  | .int i => M.ret (some i)
  | _ => M.fail
/-- the part from lo to hi -/
def cutD {α : Type} (ds : List α) (lo hi : Option Int) : List α := (ds.drop (HT.sIx ds.length 0 lo)).take (HT.sIx ds.length ds.length hi - HT.sIx ds.length 0 lo)
def dCutT : D → Option Int → Option Int → Option D
  | .tuple xs, lo, hi => some (.tuple (cutD xs lo hi))
  | _, _, _ => none
def dCutL : D → Option Int → Option Int → Option D
  | .list xs, lo, hi => some (.list (cutD xs lo hi))
  | _, _, _ => none
def sliM (op : D → Option Int → Option Int → Option D) (f : M Op) (g h : M (Option Int)) : M D := f.bind fun x => g.bind fun lo => h.bind fun hi => ap1 (fun d => op d lo hi) x
section
variable {Γ : Gm} {X : Cx} {W : WX} {pos p2 : Pos} {e : Expr} {f : M Op} {fe : M D} {lo hi : Option Expr} {g h : M (Option Int)}
theorem ep_none : EP Γ X W none (M.ret none) := ⟨⟨fun pins s σ H Q I ⟨st, F, S, h⟩ => (po_none (X := X)).run pins s σ H Q I (fin_ret S h rfl)⟩⟩
theorem ep_some (he : EV Γ X W e fe) : EP Γ X W (some e) (partM fe) := ⟨⟨fun pins s σ H Q I ⟨st, F, S, h⟩ => (po_some he.pe).run pins s σ H Q I (fin_bind rE_mono S h fun d st1 v H1 F1 S1 G r q => by
  cases d with
  | int i =>
    cases (show Rp X.K F1 (.int i) v from r)
    exact ⟨i, rfl, fin_ret S1 q rfl⟩
  | _ => exact q.elim)⟩⟩
theorem RpA.cut {K : PySem.W.Frag} {F : Hp} {ds : List D} {vs : List V} (r : RpA K F ds vs) (lo hi : Option Int) : RpA K F (cutD ds lo hi) (cutV vs lo hi) := by
  unfold cutD cutV
  rw [← r.length]
  exact (r.drop _).take _
theorem tSl_ok {R : Rel D V} {r : V → Option Int → Option Int → Hp → VK → Prop} {op : D → Option Int → Option Int → Option D} (hR : RelMono R)
    (hs : ∀ {F H : Hp} {st : List Sl} {σ : L2.St} {x : V} {d : Op} {l u : Option Int} {Q : VK}, Sim X.K Γ.T F st σ H → fin Γ X.K W R F st σ H (ap1 (fun d => op d l u) d st) Q → RpO X.K F σ d x → r x l u H Q) :
    ∀ σ H Q, rd Γ X.K W R (sliM op f g h) σ H Q → tSl r (fun σ => rd Γ X.K W (rO X.K σ) f σ) (rd Γ X.K W (rE (Option Int)) g) (rd Γ X.K W (rE (Option Int)) h) σ H Q := fun σ H Q ⟨st, F, S, q⟩ =>
  fin_bind hR S q fun d st1 x H1 F1 S1 G1 r1 q1 => fin_bind hR S1 q1 fun l st2 l' H2 F2 S2 G2 r2 q2 => fin_bind hR S2 q2 fun u st3 u' H3 F3 S3 G3 r3 q3 => by
    have r2 : l' = l := r2
    have r3 : u' = u := r3
    subst r2 r3
    exact hs S3 q3 (RpO.mono G3.g.gF (RpO.mono G2.g.gF r1))
theorem ev_slT (ha : EO Γ X W e f) (hl : EP Γ X W lo g) (hu : EP Γ X W hi h) : EV Γ X W (.Subscript e (.Slice lo hi none p2) pos) (sliM dCutT f g h) := by
  refine ⟨PE.imp (pe_slice sl_tupF ha.pe hl.po hu.po) (tSl_ok rP_mono fun {F H st σ x d l u Q} S q r => ?_)⟩
  unfold ap1 at q
  split at q
  · rename_i d' e1
    have rr := S.look r e1
    cases d' with
    | tuple xs =>
      cases rr with
      | tup sx qx =>
        rename_i a us
        refine ⟨a, us, rfl, sqT_mono S.sub1 sx.sq, fun hw => ?_, fun p ob hp nd => ?_⟩
        · have e2 : cutD xs l u = xs := by
            have l1 := (qx.cut l u).length
            rw [hw, ← qx.length] at l1
            exact ((List.take_sublist _ _).trans (List.drop_sublist _ _)).eq_of_length l1
          have q' : fin Γ X.K W (rP X.K) F st σ H (.ok (.tuple (cutD xs l u)) st) Q := q
          rw [e2] at q'
          exact fin_ret S q' (.tup sx qx)
        · have A := Add.new (o := .frz ob (.tup (cutV us l u))) S.sub hp (by intro ps z; cases z)
          exact q _ _ _ (S.add A) A.grow (.tup ⟨ob, upd_same, nd⟩ ((qx.cut l u).mono A.fF))
    | _ => exact q.elim
  · exact q.elim
theorem en_slL (ha : EO Γ X W e f) (hl : EP Γ X W lo g) (hu : EP Γ X W hi h) : EN Γ X W (.Subscript e (.Slice lo hi none p2) pos) (sliM dCutL f g h) := by
  refine ⟨PE.imp (pe_slice sl_list ha.pe hl.po hu.po) (tSl_ok rN_mono fun {F H st σ x d l u Q} S q r => ?_)⟩
  unfold ap1 at q
  split at q
  · rename_i d' e1
    have rr := S.look r e1
    cases d' with
    | list xs =>
      cases rr with
      | lst sx qx => exact ⟨_, _, rfl, .inl (.inl sx), fun p hp => q _ _ F (S.new hp) (grow_new hp) ⟨p, _, rfl, .inl hp, S.fnone hp, upd_same, .lst (qx.cut l u)⟩⟩
    | _ => exact q.elim
  · exact q.elim
/-! ### a < b < c -/
variable {a b c : Expr} {fa fb fc : M Op} {o1 o2 : CmpOp} {r1 r2 : R2} {op1 op2 : D → D → Option D}
def chM (op1 op2 : D → D → Option D) (fa fb fc : M Op) : M D := fa.bind fun x => fb.bind fun y => (ap2 op1 x y).bind fun d => match d with
  | .bool true => fc.bind fun z => ap2 op2 y z
  | .bool false => M.ret (.bool false)
  | _ => M.fail
/-- the result of a comparison is a truth -/
def Bl (op : D → D → Option D) : Prop := ∀ d e z, op d e = some z → ∃ b, z = .bool b
theorem bl_int {g : Int → Int → Bool} : Bl (iOp fun i j => some (.bool (g i j))) := fun d e z h => by
  obtain ⟨i, j, _, _, q⟩ := iOp_some h
  cases q
  exact ⟨_, rfl⟩
theorem ch_read (hb1 : Bl op1) (h1 : S2 X.K r1 op1) (h2 : S2 X.K r2 op2) : ∀ σ H Q, rd Γ X.K W (rP X.K) (chM op1 op2 fa fb fc) σ H Q → tChain r1 r2 (fun σ => rd Γ X.K W (rO X.K σ) fa σ) (fun σ => rd Γ X.K W (rO X.K σ) fb σ) (fun σ => rd Γ X.K W (rO X.K σ) fc σ) σ H Q := fun σ H Q ⟨st, F, S, q⟩ =>
  fin_bind rP_mono S q fun x st1 xv H1 F1 S1 G1 rx q1 => fin_bind rP_mono S1 q1 fun y st2 yv H2 F2 S2 G2 ry q2 => by
    have rx2 := RpO.mono G2.g.gF rx
    cases e1 : look st2 x with
    | none => simp only [M.bind, ap2, e1] at q2; exact q2.elim
    | some d =>
      cases e2 : look st2 y with
      | none => simp only [M.bind, ap2, e1, e2] at q2; exact q2.elim
      | some e =>
        cases e3 : op1 d e with
        | none => simp only [M.bind, ap2, e1, e2, e3, M.opt] at q2; exact q2.elim
        | some z =>
          simp only [M.bind, ap2, e1, e2, e3, M.opt] at q2
          obtain ⟨k, rfl⟩ := hb1 _ _ _ e3
          refine h1 F2 H2 _ _ _ _ _ _ S2.sub (S2.look rx2 e1) (S2.look ry e2) e3 fun v H3 F3 A rv => ?_
          cases rv
          refine ⟨k, rfl, ?_⟩
          have S3 := S2.add A
          have G3 : GrowE F2 st2 σ H2 F3 st2 H3 := A.grow
          cases k with
          | false => exact (fin_mono rP_mono G3 q2) _ _ _ S3 .refl (.bl false)
          | true =>
            have q3 : fin Γ X.K W (rP X.K) F3 st2 σ H3 ((fc.bind fun z => ap2 op2 y z) st2) Q := fin_mono rP_mono G3 q2
            exact fin_bind rP_mono S3 q3 fun w st4 wv H4 F4 S4 G4 rw' q4 => ap2_ok h2 S4 q4 (RpO.mono G4.g.gF (RpO.mono G3.g.gF ry)) rw'
theorem ev_ch (ho1 : OpR X (compareOp o1) r1) (ho2 : OpR X (compareOp o2) r2) (hb1 : Bl op1) (h1 : S2 X.K r1 op1) (h2 : S2 X.K r2 op2) (ha : EO Γ X W a fa) (hb : EO Γ X W b fb) (hc : EO Γ X W c fc) (hm : lastMarks [o1, o2] [b, c] = false := by with_unfolding_all rfl) : EV Γ X W (.Compare a [o1, o2] [b, c] pos) (chM op1 op2 fa fb fc) :=
  ⟨PE.imp (pe_chain ho1 ho2 ha.pe hb.pe hc.pe hm) (ch_read hb1 h1 h2)⟩
theorem et_ch (ho1 : OpR X (compareOp o1) r1) (ho2 : OpR X (compareOp o2) r2) (hb1 : Bl op1) (h1 : S2 X.K r1 op1) (h2 : S2 X.K r2 op2) (ha : EO Γ X W a fa) (hb : EO Γ X W b fb) (hc : EO Γ X W c fc) (hm : lastMarks [o1, o2] [b, c] = false := by with_unfolding_all rfl) : ET Γ X W (.Compare a [o1, o2] [b, c] pos) ((chM op1 op2 fa fb fc).bind toB) := by
  refine ⟨PT.imp (pt_chain ho1 ho2 ha.pe hb.pe hc.pe hm) fun σ H Q ⟨st, F, S, h⟩ => ?_⟩
  have := toB_ok (Γ := Γ) (W := W) (t := tChain r1 r2 (fun σ => rd Γ X.K W (rO X.K σ) fa σ) (fun σ => rd Γ X.K W (rO X.K σ) fb σ) (fun σ => rd Γ X.K W (rO X.K σ) fc σ)) (fun Q h => ch_read hb1 h1 h2 σ H Q h) S h
  exact this
end
/-! ### what a slot's own object does -/
section
variable {K : PySem.W.Frag} {T : List (Addr × Str)} {F H : Hp} {st : List Sl} {σ : L2.St}
/-- the object of a slot changes -/
theorem Sim.chg {i : Nat} {d d' : D} {a : Addr} {o o' : HO} (S : Sim K T F st σ H) (e : st[i]? = some (.own d)) (e1 : σ[i]? = some (some (.ref a))) (e2 : F a = none) (e3 : H a = some o) (r : RpC K F d o) (r' : RpC K F d' o') :
    Sim K T F (st.set i (.own d')) σ (upd H a o') ∧ GrowE F st σ H F (st.set i (.own d')) (upd H a o') := by
  have hlt := (List.getElem?_eq_some_iff.mp e).1
  have own' : ∀ {j : Nat} {c}, (st.set i (.own d'))[j]? = some (.own c) → (j = i ∧ c = d') ∨ (j ≠ i ∧ st[j]? = some (.own c)) := fun {j c} q => by
    rcases get_set q with ⟨h1, h2⟩ | h
    · cases h2; exact .inl ⟨h1, rfl⟩
    · exact .inr h
  have ne : ∀ {j : Nat} {c b}, j ≠ i → st[j]? = some (.own c) → σ[j]? = some (some (.ref b)) → b ≠ a := fun {j c b} n q1 q2 z => by
    subst z
    exact n (S.inj j i c d b q1 e q2 e1)
  have oA : ∀ b, OwnA (st.set i (.own d')) σ b → OwnA st σ b := fun b ⟨j, c, q1, q2⟩ => by
    rcases own' q1 with ⟨rfl, rfl⟩ | ⟨n, q1⟩
    · exact ⟨j, d, e, q2⟩
    · exact ⟨j, c, q1, q2⟩
  have isd : isDat o = true := by
    cases r with
    | lst _ => rfl
    | dct q => cases q with
      | dk _ => rfl
  refine ⟨⟨by rw [List.length_set]; exact S.len, fun b u q => by rw [upd_ne (ne_of_none q e2)]; exact S.sub b u q, fun j c q => ?_, fun j c q => ?_, fun j c q => ?_, fun j k c c' b h1 h2 h3 h4 => ?_, ?_⟩,
    ⟨⟨fun _ _ h => h, fun b u q no _ => ?_, fun _ _ h => .inl h, fun b z => .inl (oA b z), fun b q => ?_⟩, oA⟩⟩
  · rcases get_set q with ⟨_, z⟩ | ⟨n, q⟩
    · cases z
    · exact S.dat j c q
  · rcases own' q with ⟨rfl, rfl⟩ | ⟨n, q⟩
    · exact ⟨a, o', e1, e2, upd_same, r'⟩
    · obtain ⟨b, u, h1, h2, h3, h4⟩ := S.own j c q
      exact ⟨b, u, h1, h2, by rw [upd_ne (ne n q h1)]; exact h3, h4⟩
  · rcases get_set q with ⟨_, z⟩ | ⟨n, q⟩
    · cases z
    · exact S.scr j c q
  · rcases own' h1 with ⟨e4, rfl⟩ | ⟨n1, h1⟩
    · rcases own' h2 with ⟨e5, _⟩ | ⟨n2, h2⟩
      · rw [e4, e5]
      · rw [e4, e1] at h3
        cases h3
        exact absurd rfl (ne n2 h2 h4)
    · rcases own' h2 with ⟨e5, _⟩ | ⟨n2, h2⟩
      · rw [e5, e1] at h4
        cases h4
        exact absurd rfl (ne n1 h1 h3)
      · exact S.inj j k c c' b h1 h2 h3 h4
  · exact tabs_but S.tab fun b u q nd => by
      rw [upd_ne fun z => ?_]
      · exact q
      · subst z
        rw [e3] at q
        cases q
        rw [isd] at nd
        cases nd
  · rw [upd_ne fun z => no ⟨i, d, e, by rw [z]; exact e1⟩]
    exact q
  · by_cases z : b = a
    · subst z
      exact (q.no upd_same r'.nt).elim
    · unfold Fr at q ⊢
      rw [upd_ne z] at q
      exact q
end
section
variable {Γ : Gm} {X : Cx} {W : WX} {P : List Nat} {pos p1 p2 p3 p4 : Pos} {x : Str} {i : Nat} {e : Expr} {fe : M D}
/-- slot i's list gets one more -/
def isOwnL : Option Sl → Bool
  | some (.own (.list _)) => true
  | _ => false
theorem isOwnL_of {o : Option Sl} (h : isOwnL o = true) : ∃ xs, o = some (.own (.list xs)) := by
  unfold isOwnL at h
  split at h
  · exact ⟨_, rfl⟩
  · cases h
def appM (i : Nat) (f : M D) : M D := fun st0 => if isOwnL st0[i]? = true then (f.bind fun d => fun st => match st[i]? with
  | some (.own (.list xs)) => if xs.length < cap then .ok .none (st.set i (.own (.list (xs ++ [d])))) else .no
  | _ => .no) st0 else .no
theorem ev_app (he : EV Γ X W e fe) (hN : X.N[i]? = some x := by rfl) (hv : Vis X.env.scope x := by first | exact Or.inl rfl | exact Or.inr (Or.inl rfl) | exact Or.inr (Or.inr rfl)) (hd : (x == ("__debug__" : Str)) = false := by decide)
    (hcd : (x == ("__classdict__" : Str)) = false := by decide) (hs : starEach [e] X.env = (false, eval e X.env) :: starEach [] X.env := by rfl)
    (hpe : ∀ {to : TE} {t : TA}, PE X (.Name x p1) to → PA X [e] t → PE X (.Call (.Attribute (.Name x p1) "append" p2) [e] [] pos) (tBM X.K "list" rAppend to t) := by
      exact fun ho ha => pe_bm PySem.F.plainAttrs_list PySem.F.slot_list_append PySem.F.type_list_append mt_append ho ha) :
    EV Γ X W (.Call (.Attribute (.Name x p1) "append" p2) [e] [] pos) (appM i fe) := by
  refine ⟨PE.imp (hpe (pe_var (i := i) hN hv hd hcd) (pa_cons he.pe pa_nil hs)) fun σ H Q ⟨st, F, S, h⟩ => ?_⟩
  unfold appM at h
  split at h
  · rename_i ho
    obtain ⟨xs0, ho⟩ := isOwnL_of ho
    obtain ⟨a, o, e1, e2, e3, rc⟩ := S.own i _ ho
    cases rc with
    | lst r0 =>
      refine ⟨.ref a, e1, Or.inl ⟨rfl, _, Or.inl (Or.inl e3)⟩, ?_⟩
      refine fin_bind rP_mono S h fun d st1 v H1 F1 S1 G1 rv h1 => ?_
      show rAppend (.ref a) [v] H1 Q
      split at h1
      · rename_i xs ex
        obtain ⟨b, o1, f1, f2, f3, c1⟩ := S1.own i _ ex
        rw [e1] at f1
        cases f1
        split at h1
        · rename_i hz
          cases c1 with
          | lst q1 =>
            obtain ⟨S2, G2⟩ := S1.chg ex e1 f2 f3 (.lst q1) (RpC.lst (q1.append (.one rv)))
            exact ⟨a, _, v, rfl, rfl, f3, by rw [← q1.length]; exact lt_cap hz, h1 _ _ F1 S2 G2 .non⟩
        · exact h1.elim
      · exact h1.elim
  · exact h.elim
/-- slot i's list gives its last item -/
def popM (i : Nat) : M D := fun st => match st[i]? with
  | some (.own (.list xs)) => match xs[xs.length - 1]? with
    | some d => .ok d (st.set i (.own (.list xs.dropLast)))
    | none => .no
  | _ => .no
theorem RpA.dropLast {K : PySem.W.Frag} {F : Hp} {ds : List D} {vs : List V} (r : RpA K F ds vs) : RpA K F ds.dropLast vs.dropLast := by
  rw [List.dropLast_eq_take, List.dropLast_eq_take, r.length]
  exact r.take _
theorem ev_pop (hN : X.N[i]? = some x := by rfl) (hv : Vis X.env.scope x := by first | exact Or.inl rfl | exact Or.inr (Or.inl rfl) | exact Or.inr (Or.inr rfl)) (hd : (x == ("__debug__" : Str)) = false := by decide)
    (hcd : (x == ("__classdict__" : Str)) = false := by decide)
    (hpe : ∀ {to : TE}, PE X (.Name x p1) to → PE X (.Call (.Attribute (.Name x p1) "pop" p2) [] [] pos) (tBM0 X.K "list" rPop to) := by
      exact fun ho => pe_bm0 PySem.F.plainAttrs_list PySem.F.slot_list_pop PySem.F.type_list_pop mt_pop ho) :
    EV Γ X W (.Call (.Attribute (.Name x p1) "pop" p2) [] [] pos) (popM i) := by
  refine ⟨PE.imp (hpe (pe_var (i := i) hN hv hd hcd)) fun σ H Q ⟨st, F, S, h⟩ => ?_⟩
  unfold popM at h
  split at h
  · rename_i xs ho
    obtain ⟨a, o, e1, e2, e3, rc⟩ := S.own i _ ho
    cases rc with
    | lst r0 =>
      rename_i us
      refine ⟨.ref a, e1, Or.inl ⟨rfl, _, Or.inl (Or.inl e3)⟩, ?_⟩
      show rPop (.ref a) [] H Q
      split at h
      · rename_i d hd2
        obtain ⟨v, hv2, rv⟩ := r0.get hd2
        obtain ⟨S2, G2⟩ := S.chg ho e1 e2 e3 (.lst r0) (RpC.lst r0.dropLast)
        exact ⟨a, us, v, rfl, rfl, e3, by rw [← r0.length]; exact hv2, h _ _ F S2 G2 rv⟩
      · exact h.elim
  · exact h.elim
/-- slot i's list, an item stored -/
def putIx (i : Nat) (f g : M D) : MS := fun st0 => if isOwnL st0[i]? = true then (bindS f fun d => bindS g fun j => fun st => match st[i]?, j with
  | some (.own (.list xs)), .int k => match ixN xs.length k with
    | some n => .nx (st.set i (.own (.list (xs.set n d))))
    | none => .no
  | _, _ => .no) st0 else .no
theorem es_putIx {idx : Expr} {fi : M D} (he : EV Γ X W e fe) (hi : EV Γ X W idx fi) (hN : X.N[i]? = some x := by rfl) (hv : Vis X.env.scope x := by first | exact Or.inl rfl | exact Or.inr (Or.inl rfl) | exact Or.inr (Or.inr rfl)) (hd : (x == ("__debug__" : Str)) = false := by decide)
    (hcd : (x == ("__classdict__" : Str)) = false := by decide)
    (hps : ∀ {te to ti : TE}, PE X e te → PE X (.Name x p1) to → PE X idx ti → PS X (.Assign [.Subscript (.Name x p1) idx p2] e pos) (tAsg te (gSub to ti rSetL)) := by exact fun h1 h2 h3 => ps_asg h1 (pg_sub h2 h3 set_list)) :
    ES Γ X W P (.Assign [.Subscript (.Name x p1) idx p2] e pos) (putIx i fe fi) := by
  refine ⟨PS.imp (hps he.pe (pe_var (i := i) hN hv hd hcd) hi.pe) fun D σ H ⟨st, F, S, h⟩ => ?_⟩
  unfold putIx at h
  split at h
  · rename_i ho
    obtain ⟨xs0, ho⟩ := isOwnL_of ho
    obtain ⟨a, o, e1, _⟩ := S.own i _ ho
    refine finS_bind S h fun d st1 v H1 F1 S1 G1 rv h1 => ⟨.ref a, e1, ?_⟩
    refine finS_bind S1 (finS_mono G1.g Keep.refl h1) fun j st2 jv H2 F2 S2 G2 rj h2 => ?_
    show rSetL (.ref a) jv v H2 fun H3 => D.nx σ H3
    split at h2
    · rename_i xs k ex
      split at h2
      · rename_i n hn
        obtain ⟨b, o1, f1, f2, f3, c1⟩ := S2.own i _ ex
        rw [e1] at f1
        cases f1
        cases c1 with
        | lst q1 =>
          cases (show Rp X.K F2 (.int k) jv from rj)
          obtain ⟨S3, G3⟩ := S2.chg ex e1 f2 f3 (.lst q1) (RpC.lst (q1.set n (Rp.mono G2.g.gF rv)))
          exact ⟨a, _, k, n, rfl, rfl, f3, by rw [← q1.length]; exact hn, h2 _ _ F2 S3 (G2.g.trans G3.g) .refl⟩
      · exact h2.elim
    · exact h2.elim
  · exact h.elim
/-! ### tuples unpacked -/
/-- targets = a tuple of values (any number of them) -/
theorem es_tupN {es ts : List Expr} {k k2 : Nat} {is : List Nat} {n : Nat} {u : TGs} {pt pt2 : Pos} {fs : M (List (Bool × D))} (hc : X.calm = true) (hP : ∀ j ∈ is, j ∉ P) (ha : EM Γ X W es fs) (hg : EGs X ts is u) (hl : is.length = n := by rfl)
    (hn : (assignEach ts X.env).length = n := by rfl) (hst : (assignEach ts X.env).findIdx? (·.1) = none := by rfl) (hnz : n ≤ 1000 := by decide)
    (hs : swapsWithSole [.Tuple ts k pt] (.Tuple es k2 pt2) pos.line X.env = pure false := by rfl) (hw : swappedStores [.Tuple ts k pt] (.Tuple es k2 pt2) X.env = pure none := by rfl)
    (h1 : (assignEach [.Tuple ts k pt] X.env).map (·.2) = [assign (.Tuple ts k pt) X.env] := by rfl) :
    ES Γ X W P (.Assign [.Tuple ts k pt] (.Tuple es k2 pt2) pos) (putS is fs) := by
  refine ⟨PS.imp (ps_asg (pe_tup ha.pa) (pg_tup hc hg.pgs hn hst) hs hw h1) fun D σ H ⟨st, F, S, h⟩ => finS_bind S h fun ds st1 vs H1 F1 S1 G r q => ?_⟩
  obtain ⟨as, r0⟩ := r
  have lds : ds.length = is.length := by
    by_cases z : ds.length = is.length
    · exact z
    · rw [if_neg z] at q; exact q.elim
  have lvs : vs.length = n := by rw [← r0.length, lds, hl]
  refine ⟨by rw [lvs]; exact line1000 hnz, fun p hp => ⟨p, vs, rfl, .inl (.inl upd_same), lvs, hg.sp (by rw [lvs, hl]) ?_⟩⟩
  have r1 := r0.later (T := Γ.T) (not_own S G) (grow_new (F := F1) (st := st1) (σ := σ) (o := .tup vs) hp)
  exact (put_end S hP (S1.new hp) (G.trans (grow_new hp)) ⟨as, r1⟩ q).2
/-- a, b = e, e a tuple -/
def unpS (t : Tg) (f : M D) : MS := bindS f fun d st => match asg t d st with
  | some st1 => .nx st1
  | none => .no
theorem es_unp {tg : Expr} {t : Tg} {g : TG} (hP : ∀ j ∈ t.ix, j ∉ P) (he : EV Γ X W e fe) (hg : EG X tg t g) (hs : swapsWithSole [tg] e pos.line X.env = pure false := by rfl) (hw : swappedStores [tg] e X.env = pure none := by rfl)
    (h1 : (assignEach [tg] X.env).map (·.2) = [assign tg X.env] := by rfl) : ES Γ X W P (.Assign [tg] e pos) (unpS t fe) := by
  refine ⟨PS.imp (ps_asg he.pe hg.pg hs hw h1) fun D σ H ⟨st, F, S, h⟩ => finS_bind S h fun d st1 v H1 F1 S1 G r q => ?_⟩
  cases ea : asg t d st1 with
  | none => rw [ea] at q; exact q.elim
  | some st2 =>
    rw [ea] at q
    exact hg.sp S1 r ea fun σ2 S2 o2 k2 l2 => q σ2 H1 F1 S2 (G.g.trans ⟨fun _ _ h => h, fun _ _ h _ _ => h, fun _ _ h => .inl h, fun a h => .inl (o2 a h), fun _ h => h⟩) ⟨fun j hj => k2 j fun z => hP j z hj, l2⟩
end
end Sk
set_option maxHeartbeats 1000000
namespace Sk
open PySem PySem.Spec PyProof.Rows L2
def keyOf : D → Option Key
  | .int i => some (.inl i)
  | .str x => some (.inr x)
  | _ => none
theorem keyOf_keyD (k : Key) : keyOf (keyD k) = some k := by cases k <;> rfl
theorem keyD_of {d : D} {k : Key} (h : keyOf d = some k) : d = keyD k := by
  unfold keyOf at h
  split at h <;> cases h <;> rfl
/-- the value at a key -/
def lookD : List (D × D) → Key → Option D
  | [], _ => none
  | p :: r, k => if keyOf p.1 = some k then some p.2 else lookD r k
def hasD : List (D × D) → Key → Bool
  | [], _ => false
  | p :: r, k => if keyOf p.1 = some k then true else hasD r k
/-- the value at a key that is there is exchanged -/
def swapD : List (D × D) → Key → D → List (D × D)
  | [], _, _ => []
  | p :: r, k, v => if keyOf p.1 = some k then (p.1, v) :: swapD r k v else p :: swapD r k v
def putD (kvs : List (D × D)) (k : Key) (v : D) : List (D × D) := if hasD kvs k = true then swapD kvs k v else kvs ++ [(keyD k, v)]
def mergeD (kvs : List (D × D)) : List (Key × D) → List (D × D)
  | [] => kvs
  | p :: r => mergeD (putD kvs p.1 p.2) r
section
variable {K : PySem.W.Frag} {F : Hp}
theorem RpK.look {k : Key} : ∀ {kds : List (D × D)} {kvs : List (Key × V)}, RpK K F kds kvs → (∃ d v, lookD kds k = some d ∧ valV kvs k = some v ∧ Rp K F d v) ∨ (lookD kds k = none ∧ valV kvs k = none)
  | _, _, .nil => .inr ⟨rfl, rfl⟩
  | _, _, .cons (k := k') (d := d) (v := v) r t => by
    by_cases e : k' = k
    · subst e
      refine .inl ⟨d, v, ?_, valV_pos rfl, r⟩
      simp [lookD, keyOf_keyD]
    · rcases RpK.look (k := k) t with ⟨d', v', h1, h2, h3⟩ | ⟨h1, h2⟩
      · refine .inl ⟨d', v', by simp [lookD, keyOf_keyD, e, h1], ?_, h3⟩
        unfold valV at h2 ⊢
        rw [List.find?_cons_of_neg (by simp [e])]
        exact h2
      · refine .inr ⟨by simp [lookD, keyOf_keyD, e, h1], ?_⟩
        unfold valV at h2 ⊢
        rw [List.find?_cons_of_neg (by simp [e])]
        exact h2
theorem RpK.has {k : Key} : ∀ {kds : List (D × D)} {kvs : List (Key × V)}, RpK K F kds kvs → hasD kds k = (kvs.any fun kv => decide (kv.1 = k))
  | _, _, .nil => rfl
  | _, _, .cons (k := k') r t => by
    by_cases e : k' = k
    · simp [hasD, keyOf_keyD, e]
    · simp [hasD, keyOf_keyD, e, RpK.has (k := k) t]
theorem RpK.swap {k : Key} {d : D} {v : V} (r : Rp K F d v) : ∀ {kds : List (D × D)} {kvs : List (Key × V)}, RpK K F kds kvs → RpK K F (swapD kds k d) (kvs.map fun kv => if kv.1 = k then (kv.1, v) else kv)
  | _, _, .nil => .nil
  | _, _, .cons (k := k') q t => by
    by_cases e : k' = k
    · simp only [swapD, keyOf_keyD, e, if_true, List.map_cons]
      exact .cons r (RpK.swap r t)
    · simp only [swapD, keyOf_keyD, Option.some.injEq, e, if_false, List.map_cons]
      exact .cons q (RpK.swap r t)
theorem RpK.append {a c : List (D × D)} {b d : List (Key × V)} (r : RpK K F a b) (q : RpK K F c d) : RpK K F (a ++ c) (b ++ d) := by
  induction a generalizing b with
  | nil => cases r; exact q
  | cons x a ih => cases r with | cons h t => exact .cons h (ih t)
theorem RpK.put {k : Key} {d : D} {v : V} {kds : List (D × D)} {kvs : List (Key × V)} (r : Rp K F d v) (q : RpK K F kds kvs) : RpK K F (putD kds k d) (putK kvs k v) := by
  unfold putD putK
  rw [q.has]
  split
  · exact q.swap r
  · exact q.append (.cons r .nil)
theorem RpK.merge : ∀ {more : List (Key × D)} {mv : List (Key × V)} {kds : List (D × D)} {kvs : List (Key × V)}, Paired (fun (p : Key × D) (q : Key × V) => p.1 = q.1 ∧ Rp K F p.2 q.2) more mv → RpK K F kds kvs → RpK K F (mergeD kds more) (mergeK kvs mv)
  | _, _, _, _, .nil, q => q
  | _, _, _, _, .cons (a := a) (b := b) h t, q => by
    show RpK K F (mergeD (putD _ a.1 a.2) _) (mergeK (putK _ b.1 b.2) _)
    rw [h.1]
    exact RpK.merge t (q.put h.2)
theorem RpK.length : ∀ {kds : List (D × D)} {kvs : List (Key × V)}, RpK K F kds kvs → kds.length = kvs.length
  | _, _, .nil => rfl
  | _, _, .cons _ t => by simp [RpK.length t]
theorem kV_keyD {k : Key} : Rp K F (keyD k) (kV k) := by
  cases k with
  | inl i => exact .int i
  | inr x => exact .str x
theorem key_val {H : Hp} {d : D} {k : Key} {y : V} (h : keyOf d = some k) (r : RdR K F H d y) : y = kV k := by
  rw [keyD_of h] at r
  cases k <;> cases r <;> rfl
end
/-! ### d[k], k in d, d.get(k, x) -/
def dkGet : D → D → Option D
  | .dict kvs, d => match keyOf d with
    | some k => lookD kvs k
    | none => none
  | _, _ => none
def dkIn : D → D → Option D
  | d, .dict kvs => match keyOf d with
    | some k => some (.bool (lookD kvs k).isSome)
    | none => none
  | _, _ => none
def dkNotIn : D → D → Option D
  | d, .dict kvs => match keyOf d with
    | some k => some (.bool (!(lookD kvs k).isSome))
    | none => none
  | _, _ => none
section
variable {Γ : Gm} {X : Cx} {W : WX} {P : List Nat} {pos p1 p2 p3 apos cpos : Pos} {x : Str} {i : Nat} {a b c e : Expr} {fa fb fc : M Op} {fe : M D}
theorem dget_of {F H : Hp} {kvs : List (D × D)} {d : D} {k : Key} {x y : V} (hk : keyOf d = some k) (rx : RdR X.K F H (.dict kvs) x) (ry : RdR X.K F H d y) : ∃ p, x = .ref p ∧ ((∃ z v, lookD kvs k = some z ∧ Rp X.K F z v ∧ DGet H p y (some v)) ∨ (lookD kvs k = none ∧ DGet H p y none)) := by
  have ey := key_val hk ry
  subst ey
  cases rx with
  | dct sx qx =>
    rename_i p o
    refine ⟨p, rfl, ?_⟩
    cases qx with
    | dk q =>
      rcases q.look (k := k) with ⟨z, v, h1, h2, h3⟩ | ⟨h1, h2⟩
      · exact .inl ⟨z, v, h1, h3, by rw [← h2]; exact DGet.k sx⟩
      · exact .inr ⟨h1, by rw [← h2]; exact DGet.k sx⟩
theorem ev_dget (hu : X.A.units + 1 < cLine) (ha : EO Γ X W a fa) (hb : EO Γ X W b fb)
    (hpe : X.A.units + 1 < cLine → ∀ {td ty : TE}, PE X a td → PE X b ty → PE X (.Subscript a b pos) (tDGet td ty) := by exact fun u _ _ h1 h2 => pe_dget u h1 h2 (fun _ _ => rfl)) : EV Γ X W (.Subscript a b pos) (bin2 dkGet fa fb) := by
  refine ⟨PE.imp (hpe hu ha.pe hb.pe) fun σ H Q ⟨st, F, S, h⟩ => fin_bind rP_mono S h fun u st1 xv H1 F1 S1 G1 rx h1 => fin_bind rP_mono S1 h1 fun w st2 yv H2 F2 S2 G2 ry h2 => ?_⟩
  unfold ap2 at h2
  split at h2
  · rename_i d e' e1 e2
    cases d with
    | dict kvs =>
      cases hk : keyOf e' with
      | none => simp only [dkGet, hk] at h2; exact h2.elim
      | some k =>
        simp only [dkGet, hk] at h2
        obtain ⟨p, rfl, q⟩ := dget_of hk (S2.look (RpO.mono G2.g.gF rx) e1) (S2.look ry e2)
        rcases q with ⟨z, v, h3, h4, h5⟩ | ⟨h3, _⟩
        · rw [h3] at h2
          exact ⟨p, v, rfl, h5, fin_ret S2 h2 h4⟩
        · rw [h3] at h2; exact h2.elim
    | _ => exact h2.elim
  · exact h2.elim
theorem din_read {op : D → D → Option D} {neg : Bool} (hop : ∀ d kvs k, keyOf d = some k → op d (.dict kvs) = some (.bool (neg != (lookD kvs k).isSome))) (hno : ∀ d e, (∀ kvs, e ≠ .dict kvs) → op d e = none) (hnk : ∀ d kvs, keyOf d = none → op d (.dict kvs) = none) {Q : VK} {F H : Hp} {st : List Sl} {σ : L2.St} {u w : Op} {yv xv : V}
    (S : Sim X.K Γ.T F st σ H) (h : fin Γ X.K W (rP X.K) F st σ H (ap2 op u w st) Q) (ry : RpO X.K F σ u yv) (rx : RpO X.K F σ w xv) : ∃ a o, xv = .ref a ∧ DGet H a yv o ∧ Q (.bl (neg != o.isSome)) H := by
  unfold ap2 at h
  split at h
  · rename_i d e' e1 e2
    cases e' with
    | dict kvs =>
      cases hk : keyOf d with
      | none => rw [hnk _ _ hk] at h; exact h.elim
      | some k =>
        rw [hop _ _ _ hk] at h
        obtain ⟨p, rfl, q⟩ := dget_of hk (S.look rx e2) (S.look ry e1)
        rcases q with ⟨z, v, h3, h4, h5⟩ | ⟨h3, h5⟩
        · rw [h3] at h
          exact ⟨p, some v, rfl, h5, fin_ret S h (.bl _)⟩
        · rw [h3] at h
          exact ⟨p, none, rfl, h5, fin_ret S h (.bl _)⟩
    | _ => rw [hno _ _ (by intro kvs z; cases z)] at h; exact h.elim
  · exact h.elim
theorem din_in : ∀ σ H Q, rd Γ X.K W (rP X.K) (bin2 dkIn fa fb) σ H Q → tDIn (fun σ => rd Γ X.K W (rO X.K σ) fa σ) (fun σ => rd Γ X.K W (rO X.K σ) fb σ) σ H Q := fun σ H Q ⟨st, F, S, h⟩ =>
  fin_bind rP_mono S h fun u st1 yv H1 F1 S1 G1 ry h1 => fin_bind rP_mono S1 h1 fun w st2 xv H2 F2 S2 G2 rx h2 => by
    have := din_read (neg := false) (op := dkIn) (fun d kvs k hk => by simp [dkIn, hk]) (fun d e hn => by cases e <;> first | rfl | exact absurd rfl (hn _)) (fun d kvs hk => by simp [dkIn, hk]) S2 h2 (RpO.mono G2.g.gF ry) rx
    obtain ⟨a, o, h3, h4, h5⟩ := this
    exact ⟨a, o, h3, h4, by simpa using h5⟩
theorem din_notin : ∀ σ H Q, rd Γ X.K W (rP X.K) (bin2 dkNotIn fa fb) σ H Q → tDNotIn (fun σ => rd Γ X.K W (rO X.K σ) fa σ) (fun σ => rd Γ X.K W (rO X.K σ) fb σ) σ H Q := fun σ H Q ⟨st, F, S, h⟩ =>
  fin_bind rP_mono S h fun u st1 yv H1 F1 S1 G1 ry h1 => fin_bind rP_mono S1 h1 fun w st2 xv H2 F2 S2 G2 rx h2 => by
    have := din_read (neg := true) (op := dkNotIn) (fun d kvs k hk => by simp [dkNotIn, hk]) (fun d e hn => by cases e <;> first | rfl | exact absurd rfl (hn _)) (fun d kvs hk => by simp [dkNotIn, hk]) S2 h2 (RpO.mono G2.g.gF ry) rx
    obtain ⟨a, o, h3, h4, h5⟩ := this
    exact ⟨a, o, h3, h4, by simpa using h5⟩
theorem ev_din (hu : X.A.units + 1 < cLine) (ha : EO Γ X W a fa) (hb : EO Γ X W b fb) (hm : behindInMarks .In b = false := by rfl) : EV Γ X W (.Compare a [.In] [b] pos) (bin2 dkIn fa fb) := ⟨PE.imp (pe_cmp (pc_din hu ha.pe hb.pe) hm) din_in⟩
theorem et_din (hu : X.A.units + 1 < cLine) (ha : EO Γ X W a fa) (hb : EO Γ X W b fb) (hm : behindInMarks .In b = false := by rfl) : ET Γ X W (.Compare a [.In] [b] pos) ((bin2 dkIn fa fb).bind toB) :=
  ⟨PT.imp (pt_cmp (pc_din hu ha.pe hb.pe) hm) fun σ H Q ⟨st, F, S, h⟩ => toB_ok (t := tDIn (fun σ => rd Γ X.K W (rO X.K σ) fa σ) (fun σ => rd Γ X.K W (rO X.K σ) fb σ)) (fun Q h => din_in σ H Q h) S h⟩
theorem ev_dnotin (hu : X.A.units + 1 < cLine) (ha : EO Γ X W a fa) (hb : EO Γ X W b fb) (hm : behindInMarks .NotIn b = false := by rfl) : EV Γ X W (.Compare a [.NotIn] [b] pos) (bin2 dkNotIn fa fb) := ⟨PE.imp (pe_cmp (pc_dnotin hu ha.pe hb.pe) hm) din_notin⟩
theorem et_dnotin (hu : X.A.units + 1 < cLine) (ha : EO Γ X W a fa) (hb : EO Γ X W b fb) (hm : behindInMarks .NotIn b = false := by rfl) : ET Γ X W (.Compare a [.NotIn] [b] pos) ((bin2 dkNotIn fa fb).bind toB) :=
  ⟨PT.imp (pt_cmp (pc_dnotin hu ha.pe hb.pe) hm) fun σ H Q ⟨st, F, S, h⟩ => toB_ok (t := tDNotIn (fun σ => rd Γ X.K W (rO X.K σ) fa σ) (fun σ => rd Γ X.K W (rO X.K σ) fb σ)) (fun Q h => din_notin σ H Q h) S h⟩
/-- {} -/
theorem en_dnil : EN Γ X W (.Dict [] [] pos) (M.ret (.dict [])) := ⟨PE.imp pe_dnewK fun σ H Q ⟨st, F, S, h⟩ p hp => h _ _ F (S.new hp) (grow_new hp) ⟨p, _, rfl, .inl hp, S.fnone hp, upd_same, .dct (.dk .nil)⟩⟩
/-- slot i's dict gets a value -/
def isOwnD : Option Sl → Bool
  | some (.own (.dict _)) => true
  | _ => false
theorem isOwnD_of {o : Option Sl} (h : isOwnD o = true) : ∃ xs, o = some (.own (.dict xs)) := by
  unfold isOwnD at h
  split at h
  · exact ⟨_, rfl⟩
  · cases h
def dputS (i : Nat) (f g : M D) : MS := bindS f fun d => fun st0 => if isOwnD st0[i]? = true then (bindS g fun y => fun st => match st[i]?, keyOf y with
  | some (.own (.dict kvs)), some k => if kvs.length < cap then .nx (st.set i (.own (.dict (putD kvs k d)))) else .no
  | _, _ => .no) st0 else .no
theorem es_dput {idx : Expr} {fi : M D} (hu : X.A.units + 1 < cLine) (he : EV Γ X W e fe) (hi : EV Γ X W idx fi) (hN : X.N[i]? = some x := by rfl) (hv : Vis X.env.scope x := by first | exact Or.inl rfl | exact Or.inr (Or.inl rfl) | exact Or.inr (Or.inr rfl)) (hd : (x == ("__debug__" : Str)) = false := by decide)
    (hcd : (x == ("__classdict__" : Str)) = false := by decide)
    (hs : swapsWith e (some (.Subscript (.Name x p1) idx p2)) pos.line X.env = pure false := by rfl) :
    ES Γ X W P (.Assign [.Subscript (.Name x p1) idx p2] e pos) (dputS i fe fi) := by
  refine ⟨PS.imp (ps_dput hu (pe_var (i := i) hN hv hd hcd) hi.pe he.pe hs) fun D σ H ⟨st, F, S, h⟩ => finS_bind S h fun d st1 v H1 F1 S1 G1 rv h1 => ?_⟩
  split at h1
  · rename_i ho
    obtain ⟨xs0, ho⟩ := isOwnD_of ho
    obtain ⟨a, o, e1, _⟩ := S1.own i _ ho
    refine ⟨.ref a, e1, ?_⟩
    refine finS_bind S1 (finS_mono G1.g Keep.refl h1) fun j st2 jv H2 F2 S2 G2 rj h2 => ?_
    split at h2
    · rename_i kvs k ex hk
      obtain ⟨b, o1, f1, f2, f3, c1⟩ := S2.own i _ ex
      rw [e1] at f1
      cases f1
      split at h2
      · rename_i hz
        cases c1 with
        | dct q1 =>
          cases q1 with
          | dk q1 =>
            have rj : Rp X.K F2 j jv := rj
            have ey := key_val hk (Rp.rdR S2.sub1 rj)
            subst ey
            obtain ⟨S3, G3⟩ := S2.chg ex e1 f2 f3 (.dct (.dk q1)) (RpC.dct (.dk (q1.put (k := k) (Rp.mono G2.g.gF rv))))
            exact ⟨a, _, rfl, DPut.k f3 (by rw [← q1.length]; exact lt_cap hz), h2 _ _ F2 S3 (G2.g.trans G3.g) .refl⟩
      · exact h2.elim
    · exact h2.elim
  · exact h1.elim
/-- d.get(k, x) -/
def getM (i : Nat) (fb fc : M D) : M D := fun st0 => if isOwnD st0[i]? = true then (fb.bind fun y => fc.bind fun z => fun st => match st[i]?, keyOf y with
  | some (.own (.dict kvs)), some k => .ok ((lookD kvs k).getD z) st
  | _, _ => .no) st0 else .no
end
end Sk
set_option maxHeartbeats 1000000
namespace Sk
open PySem PySem.Spec PyProof.Rows L2
/-! ### defs by name -/
structure Fn (Γ : Gm) (P : Program) (w : World) (K : PySem.W.Frag) (mg : Str → Option Value) (base : Heap) (R : Rel D V) (k : Nat) (x : Str) (ps : List Str) (fn : M D) : Prop where
  ex : ∃ (f : Addr) (fd : FuncData), mg x = some (.ref f) ∧ PySem.W.keepIn K (.ref f) = true ∧ L2.Binds K fd ps [] ∧ FnOk P w K mg base (L2.CX P w) k f fd ps (spR Γ K R ps.length fn) ∧ ∃ oc od osl, K.lookup f = some ⟨oc, od, .func fd, osl⟩
section
variable {Γ : Gm} {X : Cx} {W : WX} {pos p : Pos} {x : Str} {k j : Nat} {ps : List Str} {fn : M D} {e : Expr} {es : List Expr} {fa : M (List Op)}
theorem ev_fn (F : Fn Γ X.prog X.w X.K X.mg X.base (rP X.K) k x ps fn) (hr : Room j X.A) (hk : k ≤ j) (tk : Takes X W) (hl : hasLen ps.length fa) (ha : EA Γ X W (e :: es) fa) (hg : Gl X x := by rfl) (hdb : (x == ("__debug__" : Str)) = false := by decide)
    (he : starEach (e :: es) X.env = (false, eval e X.env) :: starEach es X.env := by rfl) (hpl : (backTo pos (starEach es X.env)).any (·.1) = false := by rfl) : EV Γ X W (.Call (.Name x p) (e :: es) [] pos) (callM fn fa) := by
  obtain ⟨f, fd, h1, h2, h3, h4, _⟩ := F.ex
  exact ev_call h4 (hr.mono hk) h1 h2 h3 tk hl ha hg hdb he hpl
theorem en_fn (F : Fn Γ X.prog X.w X.K X.mg X.base (rN X.K) k x ps fn) (hr : Room j X.A) (hk : k ≤ j) (tk : Takes X W) (hl : hasLen ps.length fa) (ha : EA Γ X W (e :: es) fa) (hg : Gl X x := by rfl) (hdb : (x == ("__debug__" : Str)) = false := by decide)
    (he : starEach (e :: es) X.env = (false, eval e X.env) :: starEach es X.env := by rfl) (hpl : (backTo pos (starEach es X.env)).any (·.1) = false := by rfl) : EN Γ X W (.Call (.Name x p) (e :: es) [] pos) (callM fn fa) := by
  obtain ⟨f, fd, h1, h2, h3, h4, _⟩ := F.ex
  exact en_call h4 (hr.mono hk) h1 h2 h3 tk hl ha hg hdb he hpl
theorem call0_read {R : Rel D V} (hR : RelMono R) : ∀ σ H Q, rd Γ X.K W R (callM fn mNil) σ H Q → spR Γ X.K R 0 fn [] H Q (WE W σ) := fun σ H Q ⟨st, F, S, h⟩ =>
  call_read (ops := []) (vs := []) S .nil h rfl
theorem ev_fn0 (F : Fn Γ X.prog X.w X.K X.mg X.base (rP X.K) k x [] fn) (hr : Room j X.A) (hk : k ≤ j) (tk : Takes X W) (hg : Gl X x := by rfl) (hdb : (x == ("__debug__" : Str)) = false := by decide) :
    EV Γ X W (.Call (.Name x p) [] [] pos) (callM fn mNil) := by
  obtain ⟨f, fd, h1, h2, h3, h4, _⟩ := F.ex
  refine ⟨⟨fun pins s σ H Q I h => ?_⟩⟩
  refine wpAny_Call_Name_kw (ld_glob I hg h1 ?_ hdb)
  exact PySem.W.callWith_K0 I.kIn h2 (run_fnS (us := []) (vs := []) h4 (hr.mono hk) h3 (passAt tk σ) I .nil (call0_read rP_mono σ H Q h))
/-- facts of a def, as the head tells them -/
theorem fn_of {P : Program} {w : World} {K : PySem.W.Frag} {mg : Str → Option Value} {base : Heap} {R : Rel D V} {f : Addr} {fd : FuncData} {qual : Str} {params : Arguments} {body : List Stmt} {scope : Scope} (F : FunD K x qual params body scope [] [] f fd) (hm : mg x = some (.ref f)) (hb : L2.Binds K fd ps [])
    (h : FnOk P w K mg base (L2.CX P w) k f fd ps (spR Γ K R ps.length fn)) : Fn Γ P w K mg base R k x ps fn := by
  obtain ⟨oc, od, _, _, _, _, _, _, _, osl, _, lk, _⟩ := F.ex
  exact ⟨f, fd, hm, F.kp, hb, h, oc, od, osl, lk⟩
end
/-! ### the script -/
def lenS (i : Nat) : M D := fun st => match st[i]? with
  | some (.scr ns) => .ok (.int (ns.length : Nat)) st
  | _ => .no
def ixS (i : Nat) (g : M D) : M D := fun st0 => match st0[i]? with
  | some (.scr ns) => (g.bind fun d st => match d with
    | .int k => match L2.atI ns k with
      | some z => .ok (.int z) st
      | none => .no
    | _ => .no) st0
  | _ => .no
section
variable {Γ : Gm} {X : Cx} {W : WX} {pos p p2 : Pos} {x : Str} {e : Expr} {g : M D}
theorem nam_scr {i : Nat} {st : List Sl} {ns : List Int} (h : st[i]? = some (.scr ns)) : nam i st = .ok (.own i) st := by
  unfold nam
  rw [h]
theorem ev_lenS (i : Nat) (hm : X.mg "len" = none) (hN : X.N[i]? = some x := by rfl) (hv : Vis X.env.scope x := by first | exact Or.inl rfl | exact Or.inr (Or.inl rfl) | exact Or.inr (Or.inr rfl)) (hg : Gl X "len" := by rfl) (hd : (x == ("__debug__" : Str)) = false := by decide)
    (hcd : (x == ("__classdict__" : Str)) = false := by decide) (he : starEach [.Name x p2] X.env = (false, eval (.Name x p2) X.env) :: starEach [] X.env := by rfl) : EV Γ X W (.Call (.Name "len" p) [.Name x p2] [] pos) (lenS i) := by
  refine ⟨PE.imp (pe_callB call_len hg hm boot_len (pa_cons (pe_var (i := i) hN hv hd hcd) pa_nil he) (by decide) (by decide) he (by rfl)) fun σ H Q ⟨st, F, S, h⟩ => ?_⟩
  unfold lenS at h
  split at h
  · rename_i ns e1
    obtain ⟨a, e2, q⟩ := S.scr i ns e1
    refine ⟨.ref a, e2, _, (ns.map V.int).length, rfl, .inl ⟨_, sqL_mono S.sub1 q, rfl⟩, ?_⟩
    rw [List.length_map]
    exact fin_ret S h (.int _)
  · exact h.elim
theorem ev_ixS (i : Nat) (hr : EV Γ X W e g) (hN : X.N[i]? = some x := by rfl) (hv : Vis X.env.scope x := by first | exact Or.inl rfl | exact Or.inr (Or.inl rfl) | exact Or.inr (Or.inr rfl)) (hd : (x == ("__debug__" : Str)) = false := by decide)
    (hcd : (x == ("__classdict__" : Str)) = false := by decide) (hp : PlainIx e := by exact fun _ _ => rfl) : EV Γ X W (.Subscript (.Name x p2) e pos) (ixS i g) := by
  refine ⟨PE.imp (pe_ix ix_seq (pe_var (i := i) hN hv hd hcd) hr.pe hp) fun σ H Q ⟨st, F, S, h⟩ => ?_⟩
  unfold ixS at h
  split at h
  · rename_i ns e1
    obtain ⟨a, e2, q⟩ := S.scr i ns e1
    refine ⟨.ref a, e2, fin_bind rP_mono S h fun d st1 y H1 F1 S1 G1 r1 h1 => ?_⟩
    cases d with
    | int k =>
      simp only at h1
      cases hz : L2.atI ns k with
      | some z =>
        rw [hz] at h1
        cases (show Rp X.K F1 (.int k) y from r1)
        have ez : L2.atI (ns.map V.int) k = some (.int z) := by
          unfold L2.atI at hz ⊢
          rw [List.length_map]
          cases ej : ixN ns.length k with
          | none => rw [ej] at hz; cases hz
          | some j =>
            rw [ej] at hz
            have hz : ns[j]? = some z := hz
            show (ns.map V.int)[j]? = _
            rw [List.getElem?_map, hz]
            rfl
        exact .inl ⟨a, _, k, _, rfl, rfl, sqL_mono S1.sub1 (sqL_mono G1.g.gF q), ez, fin_ret S1 h1 (.int _)⟩
      | none =>
        rw [hz] at h1
        exact h1.elim
    | _ => exact h1.elim
  · exact h.elim
end
end Sk
namespace Sk
open PySem PySem.Spec PyProof.Rows L2
/-! ### dict(pairs) -/
def pairsD : List D → Option (List (Key × D))
  | [] => some []
  | .tuple [a, b] :: r => match keyOf a, pairsD r with
    | some k, some l => some ((k, b) :: l)
    | _, _ => none
  | _ :: _ => none
def dDict : List D → Option D
  | [.tuple ps] => if ps.length ≤ cap then (pairsD ps).map fun l => .dict (mergeD [] l) else none
  | [.list ps] => if ps.length ≤ cap then (pairsD ps).map fun l => .dict (mergeD [] l) else none
  | _ => none
abbrev PrV (K : PySem.W.Frag) (H : Hp) : List Addr → List (Key × V) → Prop := Paired fun p kv => SqT K H p [kV kv.1, kv.2]
/-- dict(x): x a list, or a plain tuple, of pairs -/
def rDict (K : PySem.W.Frag) : List V → Hp → VK → Prop := fun xs H Q => ∃ (a : Addr) (ps : List Addr) (kvs : List (Key × V)), xs = [.ref a] ∧ (SqL K H a (ps.map V.ref) ∨ TupF H a (ps.map V.ref)) ∧ PrV K H ps kvs ∧ ∀ p, H p = none → Q (.ref p) (upd H p (.dK (mergeK [] kvs)))
section
variable {X : Cx} {pins : List (Addr × Obj)} {σ : L2.St} {H : Hp} {s : Shared}
/-- the pairs on the machine -/
theorem pairs_on (I : Inv X pins σ H s) : ∀ {ps : List Addr} {kvs : List (Key × V)}, PrV X.K H ps kvs → ∃ l : List (Key × Value × Value), KV kvs (l.map fun x => (x.1, x.2.2)) ∧ l.length = ps.length ∧
    ∀ (j : Nat) (x : Key × Value × Value), l[j]? = some x → ∃ b, ps[j]? = some b ∧ IsTup s.heap b #[x.2.1, x.2.2] ∧ keyIs x.1 x.2.1 = true
  | _, _, .nil => ⟨[], .nil, rfl, fun j x e => by simp at e⟩
  | _, _, .cons (a := p) (b := kv) h t => by
    obtain ⟨l, r, hl, q⟩ := pairs_on I t
    obtain ⟨its, rv, ht, _⟩ := I.tuple h
    obtain ⟨u, y, ei, ru, ry⟩ := vals2 rv
    subst ei
    refine ⟨(kv.1, u, y) :: l, .cons ⟨rfl, ry⟩ r, congrArg (· + 1) hl, ?_⟩
    rintro (_ | j) x e
    · cases Option.some.inj e
      exact ⟨p, rfl, ht, kV_is (P := X.prog) (w := X.w) ru⟩
    · exact q j x e
theorem call_dictF (calm : X.calm = true) : CallR X (.type "dict") (rDict X.K) := by
  intro pins s σ H xs us Q I r h
  obtain ⟨a, ps, kvs, e, hq, hp, q⟩ := h
  rcases hq with hq | ⟨o, ho, nd⟩
  · exact call_dictP calm pins s σ H xs us Q I r ⟨a, ps, kvs, e, hq, hp, q⟩
  · subst e
    obtain ⟨u, eu, rx⟩ := vals1 r
    subst eu
    cases rx
    obtain ⟨there, small, its, rv, o', there', cls, n, dat⟩ := (show ObjOk X.prog X.w H s.heap a (.frz o (.tup (ps.map V.ref))) from I.hok a _ ho)
    have eo : o' = o := Option.some.inj (there'.symm.trans there)
    subst eo
    have ei := refs_at rv
    subst ei
    obtain ⟨l, rel, len, on⟩ := pairs_on I hp
    rw [List.length_map] at small
    have pairs : PairItems s.heap (ps.map Value.ref).toArray (fun j => ps.getD j 0) (l.map fun x => (x.2.1, x.2.2)) := by
      refine ⟨by simp [len], fun j k v e => ?_⟩
      rw [List.getElem?_map] at e
      cases ej : l[j]? with
      | none => rw [ej] at e; cases e
      | some x =>
        rw [ej] at e
        cases Option.some.inj e
        obtain ⟨b, e1, e2, _⟩ := on j x ej
        have gd : ps.getD j 0 = b := by simp [List.getD_eq_getElem?_getD, e1]
        exact ⟨by simp [e1, gd], .inl (by show s.heap.IsTuple (ps.getD j 0) _; rw [gd]; exact e2)⟩
    have have_ : PairsHave (mixKind X.prog X.w) (l.map fun x => (x.2.1, x.2.2)).length (PairRel (l.map fun x => (x.2.1, x.2.2))) (l.map fun x => (x.1, x.2.2)) := by
      refine ⟨by simp, fun j k v e => ?_⟩
      have e : (l.map fun x => (x.2.1, x.2.2))[j]? = some (k, v) := e
      rw [List.getElem?_map] at e
      cases ej : l[j]? with
      | none => rw [ej] at e; cases e
      | some x =>
        rw [ej] at e
        cases Option.some.inj e
        obtain ⟨_, _, _, e3⟩ := on j x ej
        exact ⟨x.1, by simp [ej], e3⟩
    refine PySem.call_dict_pairs (PairArg.tuple a (ps.map Value.ref).toArray (fun j => ps.getD j 0) (l.map fun x => (x.2.1, x.2.2))) (I.ok.hd calm) ⟨⟨o', n, there, cls, nd, dat⟩, pairs⟩ have_ (by simpa [len] using small) fun h' tk dic keep => ?_
    have keep' : ∀ b o, s.heap.get? b = some o → h'.get? b = some o := fun b o e => keep b o (by simp) e
    have off : (s.heap.objs.size == sysModules) = false := beq_eq_false_iff_ne.mpr (Nat.ne_of_gt I.big)
    have fits : (mergeK [] kvs).length ≤ sizeLine := Nat.le_trans (length_mergeK kvs []) (by rw [List.length_nil, Nat.zero_add, rel.length]; simpa [len] using small)
    have free := I.hok.fresh (Nat.le_refl s.heap.objs.size)
    refine ⟨.ref s.heap.objs.size, _, I.laid (o := .dK (mergeK [] kvs)) (t' := tk) keep' (Nat.le_refl _) ?_, rfl, q _ free⟩
    exact ⟨fits, off, _, KV.merge rel .nil, dic⟩
end
section
variable {K : PySem.W.Frag}
theorem pairs_rel {F H : Hp} (sub : ∀ a o, F a = some o → H a = some o) : ∀ {ps : List D} {l : List (Key × D)} {vs : List V}, pairsD ps = some l → RpA K F ps vs → ∃ (as : List Addr) (kvs : List (Key × V)), vs = as.map V.ref ∧ PrV K H as kvs ∧ Paired (fun (p : Key × D) (q : Key × V) => p.1 = q.1 ∧ Rp K F p.2 q.2) l kvs
  | [], _, _, h, .nil => by
    cases h
    exact ⟨[], [], rfl, .nil, .nil⟩
  | p :: ps, l, _, h, .cons r t => by
    unfold pairsD at h
    split at h
    · rename_i e
      cases e
    · rename_i a b r' e
      cases e
      split at h
      · rename_i k l' h1 h2
        cases h
        obtain ⟨as, kvs, e1, e2, e3⟩ := pairs_rel sub h2 t
        cases r with
        | tup sx qx =>
          rename_i ad us
          cases qx with
          | cons ra qx =>
            cases qx with
            | cons rb qx =>
              cases qx
              have ek := key_val (H := H) h1 (ra.rdR sub)
              subst ek
              rename_i vb
              exact ⟨ad :: as, (k, vb) :: kvs, by rw [e1]; rfl, .cons (sqT_mono sub sx.sq) e2, .cons ⟨rfl, rb⟩ e3⟩
      · cases h
    · cases h
theorem sA_dict : SAN K (rDict K) dDict := by
  intro F H ds z xs Q hF r q k
  have sub : ∀ a o, F a = some o → H a = some o := fun a o e => (hF a o e).1
  unfold dDict at q
  split at q
  · rename_i ps
    split at q
    · obtain ⟨l, h1, h2⟩ := Option.map_eq_some_iff.mp q
      subst h2
      cases r with
      | cons r t =>
        cases t
        cases r with
        | tup sx qx =>
          rename_i a us
          obtain ⟨as, kvs, e1, e2, e3⟩ := pairs_rel (H := H) sub h1 qx
          subst e1
          exact ⟨a, as, kvs, rfl, .inr (sx.mono sub), e2, fun p hp => k _ _ hp (.dct (.dk (RpK.merge e3 .nil)))⟩
    · cases q
  · rename_i ps
    split at q
    · obtain ⟨l, h1, h2⟩ := Option.map_eq_some_iff.mp q
      subst h2
      cases r with
      | cons r t =>
        cases t
        cases r with
        | lst sx qx =>
          rename_i a us
          obtain ⟨as, kvs, e1, e2, e3⟩ := pairs_rel (H := H) sub h1 qx
          subst e1
          exact ⟨a, as, kvs, rfl, .inl (.inl (.inl sx)), e2, fun p hp => k _ _ hp (.dct (.dk (RpK.merge e3 .nil)))⟩
    · cases q
  · cases q
end
end Sk
set_option maxHeartbeats 1000000
/-! word(lambda: e): a def that calls what it got and names the error -/
namespace Sk
open PySem PySem.Spec PyProof.Rows L2 LamX
theorem Takes.sized {X : Cx} {W : WX} (t : Takes X W) : Takes X (fun cls d σ H => σ.length = X.N.length → W cls d σ H) := fun u s' ⟨a, B, sI, pins, σ, H, cls, d, e, I, nb, up, sky, na, os, ag, w⟩ =>
  t u s' ⟨a, B, sI, pins, σ, H, cls, d, e, I, nb, up, sky, na, os, ag, w I.len⟩
/-- the clauses: class, text -/
def pickT (K : PySem.W.Frag) : List (Value × Str) → Value → (Str → Prop) → Prop
  | [], _, _ => False
  | (c, z) :: r, cls, Q => ∃ b, PySem.W.exmOne K cls c = some b ∧ (b = true → Q z) ∧ (b = false → pickT K r cls Q)
def TTw (K : PySem.W.Frag) (val : Bool) (hs : List (Value × Str)) : (XK → Hp → VK → Prop) → Hp → VK → Prop := fun tl H Q =>
  tl (fun cls _ H' => pickT K hs cls fun z => Q (.str z) H') H (fun v H' => Q (if val then v else .str "") H')
/-- the clauses' text -/
inductive WHs (X : Cx) (y : Str) : List ExceptHandler → List (Value × Str) → Prop
  | nil : WHs X y [] []
  | cons {e z : Str} {c : Value} {j : Nat} {p1 p2 p3 p4 p5 : Pos} {hds : List ExceptHandler} {l : List (Value × Str)} (hc : Names X e c) (hs : ∀ env, swapsWith (.Constant (.str z) j p1) (some (.Name y p2)) p3.line env = pure false := by intro _; rfl) (r : WHs X y hds l) :
      WHs X y (.ExceptHandler (some (.Name e p4)) none [.Assign [.Name y p2] (.Constant (.str z) j p1) p3] p5 :: hds) ((c, z) :: l)
abbrev wHd (l : List (Value × Str)) : List (Value × (Addr → Value → Option Addr → TS)) := l.map fun h => (h.1, fun _ _ _ => tAsg (tC (.str h.2)) (gName 1))
theorem WHs.ok {X : Cx} {y : Str} (hN : X.N.Nodup) (hi : X.N[1]? = some y) (hx : Loc X.env.scope y) (hl : X.env.scope.names.lookup y = some .local) {hds : List ExceptHandler} {l : List (Value × Str)} (h : WHs X y hds l) : HdsOk X hds (wHd l) := by
  induction h with
  | nil => exact .nil
  | cons hc hs _ ih => exact .cons hc (fun a oe cls d pn _ _ => pss_one (ps_set (i := 1) hN hi hx pe_str (hs _) (.inr hl))) ih
section
variable {X : Cx}
/-- the body: y = text; try: y = a() or a() except ..; return y -/
theorem word_gives {Ng : List Str} {x a y q : Str} {sg : Scope} {g : Addr} {cdg : Value} {val : Bool} {st : Stmt} {h0 : ExceptHandler} {hds : List ExceptHandler} {l : List (Value × Str)} {j : Nat} {q1 q2 q3 q4 q5 q6 p1 p2 p3 p4 : Pos}
    (nd : Ng.Nodup) (len : Ng.length = 2) (h1 : Ng[1]? = some y) (ly : sg.names.lookup y = some .local) (dy : (y == ("__debug__" : Str)) = false) (cy : (y == ("__classdict__" : Str)) = false)
    (hst : (val = true ∧ st = .Assign [.Name y p4] (.Call (.Name a p1) [] [] p2) p3) ∨ (val = false ∧ st = .Expr (.Call (.Name a p1) [] [] p2) p3))
    (w1 : ∀ env, swapsWith (.Constant (.str "") j q2) (some (.Name y q1)) q3.line env = pure false := by intro _; rfl) (w2 : ∀ env, swapsWith (.Call (.Name a p1) [] [] p2) (some (.Name y p4)) p3.line env = pure false := by intro _; rfl)
    (w3 : ∀ env, swapsWith (.Call (.Name a p1) [] [] p2) none p3.line env = pure false := by intro _; rfl)
    (hh : ∀ (s : Shared) (H : Hp), WHs (cxOf C8.CX0 X.prog X.w X.K X.mg X.base Ng x sg g cdg X.A X.stack s H C8.E0).nox y (h0 :: hds) l) :
    GivesTo X Ng x sg g cdg [.Assign [.Name y q1] (.Constant (.str "") j q2) q3, .Try [st] (h0 :: hds) [] [] q4, .Return (some (.Name y q5)) q6] a q (TTw X.K val l) := by
  intro f c' s H Q tl act hc h
  let Z := (cxOf C8.CX0 X.prog X.w X.K X.mg X.base Ng x sg g cdg X.A X.stack s H C8.E0).nox
  let tb : WX → TS := fun W D σ H => σ.length = 2 ∧ ∃ E1 : XK, (∀ cls d σ' H', E1 cls d H' → σ'.length = 2 → W cls d σ' H') ∧ σ[0]? = some (some (.ref f)) ∧ H c' = some (CodeO c' q) ∧ tl E1 H (fun v H' => D.nx (if val then σ.set 1 (some v) else σ) H')
  have body : ∀ (W : WX) (pn : List (Addr × Obj)) (xe : Value → Shared → Prop), Takes (Z.tr pn xe) W → PSs (Z.tr pn xe) [st] (tb W) := fun W pn xe tk => by
    refine pss_one ⟨fun pins s' σ H' D I ht => ?_⟩
    obtain ⟨l2, E1, up, e1, e2, e3⟩ := ht
    have go := act (fun cls d σ H => σ.length = (Z.tr pn xe).N.length → W cls d σ H) pn xe E1 p1 p2 (Takes.sized tk) (fun cls d σ' H' e z => up cls d σ' H' e (z.trans len))
    rcases hst with ⟨hv, rfl⟩ | ⟨hv, rfl⟩
    · subst hv
      exact (ps_set (X := Z.tr pn xe) (i := 1) nd h1 (.inl ly) go (w2 _) (.inr ly)).run pins s' σ H' D I ⟨e1, e2, e3⟩
    · subst hv
      exact (ps_expr (X := Z.tr pn xe) go (w3 _)).run pins s' σ H' D I ⟨e1, e2, e3⟩
  have try_ := ps_try_many (X := Z) (pos := q4) (tb := tb) (Wout := fun _ _ _ _ => False) rfl rfl LamX.takes0 (fun W pn xe tk _ => body W pn xe tk) (WHs.ok (X := Z) nd h1 (.inl ly) ly (hh s H))
  refine ⟨_, pss_cons (ps_set (X := Z) (i := 1) nd h1 (.inl ly) pe_str (w1 _) (.inr ly)) (pss_cons try_ (pss_one (ps_ret (pe_var (X := Z) (i := 1) h1 (.inl ly) dy cy)))), ?_⟩
  have s0 : L2.start Ng [V.ref f] = [some (.ref f), none] := by
    unfold L2.start
    rw [len]
    rfl
  rw [s0]
  let D' : Ends := { nx := fun σ' H' => ∃ v, σ'[1]? = some (some v) ∧ Q v H', rt := Q }
  refine ⟨rfl, fun cls _ H' => pickT X.K l cls fun z => Q (.str z) H', fun cls d σ' H' => ?_, rfl, hc, ?_⟩
  · intro hp hl
    have all : ∀ l' : List (Value × Str), pickT X.K l' cls (fun z => Q (.str z) H') → wMany X.K (fun _ _ _ _ => False) D' (wHd l') cls d σ' H' := fun l' => by
      induction l' with
      | nil => exact fun z => z
      | cons p l' ih =>
        rintro ⟨b, k1, k2, k3⟩
        refine ⟨b, k1, fun hb _ _ => ?_, fun hb => ih (k3 hb)⟩
        exact ⟨.str p.2, by simp [gName, hl], k2 hb⟩
    exact all l hp
  · have e : (fun v H' => (tRet (tVar 1)) { nx := fun _ H' => Q .non H', rt := Q } (if val then ([some (V.ref f), some (V.str "")].set 1 (some v)) else [some (V.ref f), some (V.str "")]) H') = fun v H' => Q (if val then v else .str "") H' := by
      funext v H'
      cases val
      · exact propext ⟨fun ⟨w, k1, k2⟩ => by cases Option.some.inj (Option.some.inj k1); exact k2, fun k => ⟨_, rfl, k⟩⟩
      · exact propext ⟨fun ⟨w, k1, k2⟩ => by cases Option.some.inj (Option.some.inj k1); exact k2, fun k => ⟨_, rfl, k⟩⟩
    show tl _ H (fun v H' => (tRet (tVar 1)) { nx := fun _ H' => Q .non H', rt := Q } (if val then ([some (V.ref f), some (V.str "")].set 1 (some v)) else [some (V.ref f), some (V.str "")]) H')
    rw [e]
    exact h
end
end Sk
namespace Sk
open PySem PySem.Spec PyProof.Rows L2 LamX
section
variable {K : PySem.W.Frag} {T : List (Addr × Str)} {F H H1 : Hp} {st : List Sl} {σ : L2.St}
theorem Sim.extN (S : Sim K T F st σ H) (e : ExtN H H1) (t : Tabs T H1) : Sim K T F st σ H1 where
  len := S.len
  sub := fun a o h => let ⟨x, n⟩ := S.sub a o h; ⟨e a o x n, n⟩
  dat := S.dat
  own := fun i d h => by
    obtain ⟨a, o, k1, k2, k3, c⟩ := S.own i d h
    exact ⟨a, o, k1, k2, e a o k3 c.nt, c⟩
  scr := S.scr
  inj := S.inj
  tab := t
theorem grow_extN (e : ExtN H H1) : GrowE F st σ H F st H1 :=
  ⟨⟨fun _ _ h => h, fun a o h _ nt => e a o h nt, fun _ _ h => .inl h, fun _ h => .inl h, fun a f => by
    by_cases z : ∃ ps, H a = some (.tbl ps)
    · exact .inr z
    · exact f.keep fun o k => e a o k fun ps q => z ⟨ps, k.trans (congrArg some q)⟩⟩, fun _ h => h⟩
end
/-- the error's text -/
def wordM (val : Bool) (nc : Nat) (hs : List (Nat × Str)) (fb : M D) : M D := fun st => match fb st with
  | .ok d st' => .ok (if val then d else .str "") st'
  | .ex x st' => if x.cls < nc then match hs.find? fun h => h.1 == x.cls with
      | some h => .ok (.str h.2) st'
      | none => .no
    else .no
  | .no => .no
abbrev wCls (Γ : Gm) (hs : List (Nat × Str)) : List (Value × Str) := hs.map fun h => (.ref (Γ.ca h.1), h.2)
/-- what is known of the def that calls what it got -/
structure WordF (Γ : Gm) (K : PySem.W.Frag) (mg : Str → Option Value) (x : Str) (val : Bool) (hs : List (Nat × Str)) : Prop where
  ex : ∃ (g : Addr) (pg : Arguments) (bg : List Stmt) (sg : Scope) (dV kV doc pm cdv ct oc : Value) (an od : Option Addr) (osl : Array (Option Value)) (Ng : List Str) (a : Str),
    mg x = some (.ref g) ∧ PySem.W.keepIn K (.ref g) = true ∧ K.lookup g = some ⟨oc, od, .func (PySem.W.fnOf x x pg bg sg dV kV doc pm an cdv ct), osl⟩ ∧ PySem.W.codeIn K cdv x = true ∧
    L2.Binds K (PySem.W.fnOf x x pg bg sg dV kV doc pm an cdv ct) [a] [] ∧ FnScope Ng [a] sg ∧ Ng[0]? = some a ∧ Vis sg a ∧ (a == ("__debug__" : Str)) = false ∧ (a == ("__classdict__" : Str)) = false ∧
    ∀ (X : Cx) (q : Str), X.K = K → X.mg = mg → GivesTo X Ng x sg g cdv bg a q (TTw K val (wCls Γ hs))
theorem pick_ok {Γ : Gm} {K : PySem.W.Frag} {nc : Nat} (hm : ∀ i j, i < nc → j < nc → PySem.W.exmOne K (.ref (Γ.ca i)) (.ref (Γ.ca j)) = some (decide (i = j))) {i : Nat} (hi : i < nc) {Q : Str → Prop} :
    ∀ (hs : List (Nat × Str)), (hs.all fun h => decide (h.1 < nc)) = true → (match hs.find? fun h => h.1 == i with
      | some h => Q h.2
      | none => False) → pickT K (wCls Γ hs) (.ref (Γ.ca i)) Q
  | [], _, h => h
  | p :: hs, hn, h => by
    simp only [List.all_cons, Bool.and_eq_true, decide_eq_true_eq] at hn
    refine ⟨_, hm i p.1 hi hn.1, fun hy => ?_, fun hno => ?_⟩
    · have e : i = p.1 := of_decide_eq_true hy
      rw [List.find?_cons_of_pos (by simp [e])] at h
      exact h
    · have e : ¬ i = p.1 := of_decide_eq_false hno
      rw [List.find?_cons_of_neg (by simp [Ne.symm e])] at h
      exact pick_ok hm hi hs hn.2 h
section
variable {Γ : Gm} {X : Cx} {W : WX} {p lpos pos : Pos} {x : Str} {c Pt : Addr} {k : Nat} {val : Bool} {nc : Nat} {hs : List (Nat × Str)} {params : Arguments} {body : Expr} {scope : Scope} {fb : M D}
theorem ev_word (F : WordF Γ X.K X.mg x val hs) (hm : ∀ i j, i < nc → j < nc → PySem.W.exmOne X.K (.ref (Γ.ca i)) (.ref (Γ.ca j)) = some (decide (i = j))) (hn : (hs.all fun h => decide (h.1 < nc)) = true)
    (TB : TabB X.base X.mg c Pt) (hcode : X.env.code = .ref c) (hmT : (Pt, X.env.qual ++ "<lambda>") ∈ Γ.T) (hu : ∀ p ∈ Γ.T, p.1 = Pt → p.2 = X.env.qual ++ "<lambda>") (hr : Room (k + 2) X.A)
    (hb : ∀ (A : Around) (outer : List Env) (s : Shared) (H : Hp) (E : XK) (f c' : Addr), Room k (A.deeper (lamEnv X scope s.heap.objs.size f c')) → EV Γ (lamCx X A outer s H E scope f c') (fun cls dx _ H' => E cls dx H') body fb)
    (hg : Gl X x := by rfl) (L : LamS X.env.scope scope := by exact lamS_by (by rfl)) (hdef : defaultsOf params X.env = ([], []) := by rfl)
    (hbind : ∀ (q : Str) (cl : List (Str × Addr)) (pm cv ctv : Value), bindArgs (PySem.W.kla_fn "<lambda>" q params body scope cl pm cv ctv) ⟨[], []⟩ = pure [] := by intro _ _ _ _ _; rfl) (hdb : (x == ("__debug__" : Str)) = false := by decide) :
    EV Γ X W (.Call (.Name x p) [.Lambda params body scope lpos] [] pos) (wordM val nc hs fb) := by
  obtain ⟨g, pg, bg, sg, dV, kV, doc, pm, cdv, ct, oc, an, od, osl, Ng, a, h1, h2, h3, h4, h5, h6, h7, h8, h9, h10, h11⟩ := F.ex
  refine ⟨PE.imp (pe_lamcall (T := Γ.T) (TT := TTw X.K val (wCls Γ hs)) (t := fun E => rd Γ X.K (fun cls dx _ H' => E cls dx H') (rP X.K) fb) hg h1 h2 h3 h4 h5 h6 h7 h8 (h11 X _ rfl rfl) TB hcode hmT hu hr L hdef hbind (fun A outer s H E f c' hr' => (hb A outer s H E f c' hr').pe) hdb h9 h10) ?_⟩
  rintro σ H Q ⟨st, F, S, h⟩
  refine ⟨S.tab, fun H1 eN t1 => ⟨st, F, S.extN eN t1, ?_⟩⟩
  have gr : GrowE F st σ H F st H1 := grow_extN eN
  unfold wordM at h
  cases e : fb st with
  | ok d st' =>
    rw [e] at h
    intro v H' F' S' G' r
    refine h _ H' F' S' (gr.trans G') ?_
    cases val
    · exact .str _
    · exact r
  | ex y st' =>
    rw [e] at h
    simp only at h
    split at h
    · rename_i hy
      intro cls dx H' F' S' G' r
      have r1 : cls = .ref (Γ.ca y.cls) := r.1
      subst r1
      refine pick_ok hm hy hs hn ?_
      cases ef : hs.find? fun h => h.1 == y.cls with
      | none => rw [ef] at h; exact h.elim
      | some q =>
        rw [ef] at h
        exact h _ H' F' S' (gr.trans G') (.str _)
    · exact h.elim
  | no =>
    rw [e] at h
    exact h.elim
end
end Sk
set_option maxHeartbeats 1000000
namespace Sk
open PySem PySem.Spec PyProof.Rows L2
section
variable {P : Program} {w : World} {K : PySem.W.Frag} {mg : Str → Option Value} {base : Heap}
theorem fun_code {x qual : Str} {params : Arguments} {body : List Stmt} {scope : Scope} {d : Str × Option Str} {fd : FuncData} (F : FunD K x qual params body scope [] [] (He.fAd K d) fd) :
    ∃ (oc : Value) (od : Option Addr) (dV kV doc pm : Value) (an : Option Addr) (ct : Value) (osl : Array (Option Value)), fd = PySem.W.fnOf x qual params body scope dV kV doc pm an (.ref (He.codeOf K d)) ct ∧ K.lookup (He.fAd K d) = some ⟨oc, od, .func fd, osl⟩ ∧ PySem.W.codeIn K (.ref (He.codeOf K d)) qual = true := by
  obtain ⟨oc, od, dV, kV, doc, pm, an, cdv, ct, osl, e, lk, hc, _, _⟩ := F.ex
  obtain ⟨c, ec⟩ := He.codeIn_ref hc
  subst ec
  have q : He.codeOf K d = c := He.codeOf_eq lk (by rw [e])
  rw [q]
  exact ⟨oc, od, dV, kV, doc, pm, an, ct, osl, e, lk, hc⟩
/-- THE RULE for a def, its code object known -/
theorem fn_okC {Γ : Gm} {x qual : Str} {params : Arguments} {body : List Stmt} {scope : Scope} {d : Str × Option Str} {fd : FuncData} {N ps : List Str} {k : Nat} {Pr : List Nat} {fb : MS} (F : FunD K x qual params body scope [] [] (He.fAd K d) fd) (S : FnScope N ps scope)
    (hb : ∀ (A : Around) (outer : List Env) (s : Shared) (H : Hp) (E : XK), Room k (A.deeper (envOfC qual scope s.heap.objs.size (He.fAd K d) (.ref (He.codeOf K d)))) →
      ESs Γ (cxOf (L2.CX P w) P w K mg base N qual scope (He.fAd K d) (.ref (He.codeOf K d)) A outer s H E) (fun cls dx _ H' => E cls dx H') Pr body fb) : FnOk P w K mg base (L2.CX P w) (k + 1) (He.fAd K d) fd ps (spD Γ K ps.length (fnOf (N.length - ps.length) Pr fb)) := by
  obtain ⟨oc, od, dV, kV, doc, pm, an, ct, osl, e, lk, hc⟩ := fun_code F
  subst e
  refine L2.fn_of lk hc S (sp_len rfl) fun A outer s H vs Q E hr h => ⟨_, (hb A outer s H E hr).ps, ?_⟩
  have e : L2.start N vs = vs.map some ++ List.replicate (N.length - ps.length) none := by
    unfold L2.start
    rw [sp_len rfl vs H Q E h]
  rw [e]
  exact body_ok (X := cxOf (L2.CX P w) P w K mg base N qual scope (He.fAd K d) (.ref (He.codeOf K d)) A outer s H E) rfl (hb A outer s H E hr) h
end
section
variable {Γ : Gm} {X : Cx} {W : WX} {pos : Pos} {x : Str} {i : Int}
theorem ev_gi (h : ∃ t, X.mg x = some (.int i t)) (hg : Gl X x := by rfl) (hd : (x == ("__debug__" : Str)) = false := by decide) : EV Γ X W (.Name x pos) (M.ret (.int i)) := by
  obtain ⟨t, e⟩ := h
  exact ev_gint hg e ⟨t, rfl⟩ hd
end
end Sk
namespace Sk
open PySem PySem.Spec PyProof.Rows L2 LamX
/-! ### what a law's text knows of its program -/
structure Info where
  defs : List He.DefD
  free : List Str
  nums : List (Str × Int)
  excs : List Str
  lams : List Str
abbrev lamQ (x : Str) : Str := (x ++ ".<locals>.") ++ "<lambda>"
abbrev cdOf (K : PySem.W.Frag) (x : Str) : Addr := He.codeOf K (x, none)
abbrev tbOf (K : PySem.W.Frag) (x : Str) : Addr := He.tabOf K (He.codeOf K (x, none))
/-- what a raised class is known by -/
structure ExcF (K : PySem.W.Frag) (mg : Str → Option Value) (x : Str) (C : Addr) : Prop where
  g : mg x = some (.ref C)
  i : PySem.W.excIn K C He.veBase "ValueError.__new__" = true
  k : PySem.W.keepIn K (.ref C) = true
  s : PySem.W.subIn K (.ref C) (.type "BaseException") = some true
  t : PySem.W.typeIn K (.ref C) = some (.type "type")
structure FxI (I : Info) (K : PySem.W.Frag) (mg : Str → Option Value) (base : Heap) (Γ : Gm) : Prop where
  fn : ∀ (i : Nat) (d : He.DefD), I.defs[i]? = some d → ∃ fd, FunD K d.name d.qual d.params d.body d.scope (d.dvs K) (d.kws K) (He.fAd K d.at_) fd
  glo : ∀ x : Str, x ∈ I.defs.map (·.name) → mg x = some (.ref (He.ga K x))
  free : ∀ x : Str, x ∈ I.free → mg x = none
  int : ∀ (x : Str) (i : Int), (x, i) ∈ I.nums → ∃ t, mg x = some (.int i t)
  exc : ∀ (i : Nat) (x : Str), I.excs[i]? = some x → ExcF K mg x (Γ.ca i)
  exm : ∀ i j, i < I.excs.length → j < I.excs.length → PySem.W.exmOne K (.ref (Γ.ca i)) (.ref (Γ.ca j)) = some (decide (i = j))
  tb : ∀ (i : Nat) (x : Str), I.lams[i]? = some x → TabB base mg (cdOf K x) (tbOf K x)
  inT : ∀ (i : Nat) (x : Str), I.lams[i]? = some x → (tbOf K x, lamQ x) ∈ Γ.T
  uni : ∀ (i : Nat) (x : Str), I.lams[i]? = some x → ∀ p ∈ Γ.T, p.1 = tbOf K x → p.2 = lamQ x
section
variable {Γ : Gm} {X : Cx} {W : WX} {P : List Nat} {pos p p2 p3 : Pos} {x m : Str} {i j : Nat}
theorem es_raise1 (hc : X.calm = true) (tk : Takes X W) (E : ExcF X.K X.mg x (Γ.ca i)) (hg : Gl X x := by rfl) (hdb : (x == ("__debug__" : Str)) = false := by decide) :
    ES Γ X W P (.Raise (some (.Call (.Name x p) [.Constant (.str m) j p2] [] p3)) none pos) (raiseS i) :=
  es_raise hc tk rfl F.excBase_ValueError E.i E.g E.k (raises_own E.s E.t) hg hdb
theorem names_of {c : Value} (hg : Gl X x) (hdb : (x == ("__debug__" : Str)) = false) (hm : X.mg x = some c) : Names X x c := ⟨hg, hdb, .inl hm⟩
theorem ExcF.nm {C : Addr} (E : ExcF X.K X.mg x C) (hg : Gl X x := by rfl) (hdb : (x == ("__debug__" : Str)) = false := by decide) : Names X x (.ref C) := ⟨hg, hdb, .inl E.g⟩
theorem u64 {k : Nat} {A : Around} (r : Room k A) : A.units + 64 < cLine := by
  have := r.un
  omega
theorem u65 {k : Nat} {A : Around} (r : Room k A) : A.units + 65 < cLine := by
  have := r.un
  omega
theorem room_units {k : Nat} {A : Around} (r : Room k A) : A.units + 1 < cLine := by
  have := r.un
  omega
end
section
variable {P : Program} {w : World} {K : PySem.W.Frag} {mg : Str → Option Value} {base : Heap}
/-- a def of which nothing is promised -/
theorem fn_none {Γ : Gm} {CX : CXT} {ps : List Str} {k : Nat} {f : Addr} {fd : FuncData} : FnOk P w K mg base CX k f fd ps (spD Γ K ps.length fun _ => .no) :=
  ⟨sp_len rfl, fun _ _ _ _ _ _ _ _ _ _ _ _ _ ⟨_, _, _, _, h⟩ => h.elim⟩
end
end Sk
set_option maxHeartbeats 1000000
/-! t[::-1] of a tuple -/
namespace Sk
open PySem PySem.Spec PyProof.Rows L2
section
variable {prog : Program} {w : World} {A : Around} {s : Shared} {E : Value → Shared → Prop}
theorem rev_places (n : Nat) : Builtin.Slice.slicePlaces (Builtin.Slice.sliceAdjust none none (-1) (n : Int)).1 (Builtin.Slice.sliceAdjust none none (-1) (n : Int)).2 (-1) = n := by
  unfold Builtin.Slice.slicePlaces Builtin.Slice.sliceAdjust
  simp
  split <;> omega
theorem applied_rev {sl : Addr} {n : Nat} {tk : Tok} {Q : Int × Int × Nat → Shared → Prop} (hs : s.heap.IsSliceOf sl .none .none (.int (-1) tk)) (h : Q ((n : Int) - 1, -1, n) s) :
    wpAny (model prog w) A (Builtin.Slice.sliceApplied (.ref sl) (pure (n : Int))) Q E s := by
  obtain ⟨o, ho, _, dat⟩ := id hs
  unfold Builtin.Slice.sliceApplied Builtin.Slice.sliceFields
  refine wpAny_bind (wpAny_bind (wpAny_field ho dat (x := .none) rfl (wpAny_bind (wpAny_field ho dat (x := .none) rfl (wpAny_bind (wpAny_field ho dat (x := .int (-1) tk) rfl (wpAny_pure ?_)))))))
  refine wpAny_bind (slicePart_int ?_)
  show wpAny _ _ (if ((-1 : Int) == 0) = true then _ else _) _ _ s
  rw [if_neg (by decide)]
  refine wpAny_bind (slicePart_none (wpAny_bind (slicePart_none (wpAny_bind (wpAny_pure ?_)))))
  have e := rev_places n
  have e1 : (Builtin.Slice.sliceAdjust none none (-1) (n : Int)).1 = (n : Int) - 1 := by simp [Builtin.Slice.sliceAdjust]
  show wpAny _ _ (pure ((Builtin.Slice.sliceAdjust none none (-1) (n : Int)).1, (-1 : Int), Builtin.Slice.slicePlaces (Builtin.Slice.sliceAdjust none none (-1) (n : Int)).1 (Builtin.Slice.sliceAdjust none none (-1) (n : Int)).2 (-1))) _ _ s
  rw [e, e1]
  exact wpAny_pure h
theorem pick_rev (xs : List Value) : ((List.range xs.length).filterMap fun (k : Nat) => xs.toArray[((xs.length : Int) - 1 + (k : Int) * -1).toNat]?) = xs.reverse := by
  have e : ∀ m, m ≤ xs.length → ((List.range m).filterMap fun (k : Nat) => xs.toArray[((xs.length : Int) - 1 + (k : Int) * -1).toNat]?) = xs.reverse.take m := by
    intro m
    induction m with
    | zero => simp
    | succ m ih =>
      intro hm
      rw [List.range_succ, List.filterMap_append, ih (by omega), List.take_add_one]
      congr 1
      have i1 : ((xs.length : Int) - 1 + (m : Int) * -1).toNat = xs.length - 1 - m := by omega
      have l1 : xs.length - 1 - m < xs.length := by omega
      rw [List.getElem?_reverse (by omega)]
      have i2 : ((xs.length : Int) - 1 + -(m : Int)).toNat = xs.length - 1 - m := by omega
      simp [i2, l1]
  rw [e xs.length (Nat.le_refl _)]
  exact List.take_of_length_le (by rw [List.length_reverse]; exact Nat.le_refl _)
theorem getItem_rev {t sl : Addr} {xs : List Value} {tk : Tok} {Q : Value → Shared → Prop} (ht : IsTup s.heap t xs.toArray) (hs : s.heap.IsSliceOf sl .none .none (.int (-1) tk))
    (h : Q (.ref s.heap.objs.size) { s with heap := s.heap.push { cls := .type "tuple", data := .seq xs.reverse.toArray } }) (fits : xs.length ≤ sizeLine) : wpAny (model prog w) A (getItem (.ref t) (.ref sl)) Q E s := by
  have fits' : sizeOk (.seq xs.reverse.toArray) := by
    show xs.reverse.toArray.size ≤ sizeLine
    rw [List.size_toArray, List.length_reverse]
    exact fits
  obtain ⟨o, ho, cl, _⟩ := id hs
  unfold getItem
  try with_reducible refine wpAny_holding ?_
  first | refine wpAny_bind (wpAny_pure ?_) | skip
  refine wpAny_bind (wpAny_sequenceKey ht.typeIs (by decide) ?_)
  refine wpAny_bind (wpAny_callSpecial?_slot (name := Str.ofString "__getitem__") ht.typeIs slot_tuple_getitem (wpAny_call_entry slot_tuple_getitem ht.typeIs entry_tuple_getitem ?_ (args_tuple_getitem _ _)))
  show wpAny _ _ (Builtin.Tuple.tupleItemsOf (.ref t) >>= _) _ _ s
  refine wpAny_bind (tupleItemsOf_ ht (wpAny_bind (wpAny_typeOf (T := "slice") ⟨o, ho, cl⟩ ?_)))
  rw [if_pos (by decide)]
  have sz : xs.toArray.size = xs.length := by simp
  rw [sz]
  refine wpAny_bind (applied_rev hs ?_)
  show wpAny _ _ (if (((xs.length : Int) - 1 == 0) && ((-1 : Int) == 1) && (xs.length == xs.length)) = true then _ else _) _ _ s
  rw [if_neg (by simp), pick_rev]
  first
    | exact wpAny_bind (m := Builtin.Tuple.tupleExact _) (wpAny_newObj_type (wpAny_pure ⟨_, rfl, wpAny_pure h⟩) fits')
    | exact wpAny_bind (m := Builtin.Tuple.tupleExact _) (wpAny_newObj_type (wpAny_bind (wpAny_pure (wpAny_pure ⟨_, rfl, wpAny_pure h⟩))) fits')
    | exact wpAny_bind (wpAny_bind (m := Builtin.Tuple.tupleExact _) (wpAny_newObj_type (wpAny_pure (wpAny_pure ⟨_, rfl, wpAny_pure h⟩)) fits'))
    | exact wpAny_bind (wpAny_bind (m := Builtin.Tuple.tupleExact _) (wpAny_newObj_type (wpAny_pure ⟨_, rfl, wpAny_pure h⟩) fits'))
end
section
variable {Γ : Gm} {X : Cx} {W : WX} {pos p2 : Pos} {e es : Expr} {te : TE} {f : M Op}
theorem pe_rev (he : PE X e te) (hs : PE X es fun σ H Q => Q (.int (-1)) H) : PE X (.Subscript e (.Slice none none (some es) p2) pos) (fun σ H Q => te σ H fun x H1 => ∃ a xs, x = .ref a ∧ SqT X.K H1 a xs ∧ NewT xs.reverse H1 Q) := by
  refine ⟨fun pins s σ H Q I h => ?_⟩
  refine Subscript_ (thn (he.run pins s σ H _ I h) fun v s1 ⟨x, H1, I1, r1, q1⟩ => ?_)
  obtain ⟨a, xs, ex, tx, nt⟩ := q1
  subst ex
  cases r1
  refine wpAny_Slice ?_
  rw [evalPart_none]
  refine wpAny_pure (wpAny_pure ?_)
  show wpAny _ _ (eval es X.env) _ _ s1
  refine thn (hs.run pins s1 σ H1 (fun v H2 => v = .int (-1) ∧ H2 = H1) I1 ⟨rfl, rfl⟩) fun u s2 ⟨y, H2, I2, r2, ey, eH⟩ => ?_
  subst ey eH
  obtain ⟨tk, rfl⟩ := r2
  obtain ⟨us, ru, pu, fits⟩ := I2.tuple tx
  have I3 : Inv X pins σ H2 { s2 with heap := s2.heap.push { cls := .type "slice", data := .fields #[.none, .none, .int (-1) tk] } } := I2.kept (t' := s2.toks) fun b ob q => Heap.get?_push_of_some _ q
  obtain ⟨us', ru', pu', fits'⟩ := I3.tuple tx
  have go := getItem_rev (prog := X.prog) (w := X.w) (A := X.A) (E := X.xe) (Q := L2.EP X pins σ Q) pu' (Heap.IsSliceOf.new ..) (new_tup (tk := s2.toks) I3 ru'.reverse (by rw [List.length_reverse]; exact fits') nt) (by rw [← ru'.length]; exact fits')
  exact tail_any (ops := [.ref a, .ref s2.heap.objs.size]) pu'.typeIs slot_tuple_getitem.lookup go (by with_unfolding_all rfl)
def dRevT : D → Option D
  | .tuple xs => some (.tuple xs.reverse)
  | _ => none
theorem RpA.rev {K : PySem.W.Frag} {F : Hp} {ds : List D} {vs : List V} (r : RpA K F ds vs) : RpA K F ds.reverse vs.reverse := by
  induction ds generalizing vs with
  | nil => cases r; exact .nil
  | cons d ds ih => cases r with
    | cons h t =>
      rw [List.reverse_cons, List.reverse_cons]
      exact (ih t).append (.one h)
theorem ev_revT {j : Nat} {p3 p4 : Pos} (ha : EO Γ X W e f) : EV Γ X W (.Subscript e (.Slice none none (some (.UnaryOp .USub (.Constant (.int 1) j p3) p4)) p2) pos) (un1 dRevT f) := by
  refine ⟨PE.imp (pe_rev ha.pe (PE.imp (pe_un un_neg pe_int) fun σ H Q h => ⟨1, rfl, h⟩)) fun σ H Q ⟨st, F, S, h⟩ => fin_bind rP_mono S h fun d st1 v H1 F1 S1 G1 q1 h1 => ?_⟩
  unfold ap1 at h1
  split at h1
  · rename_i d' e1
    have rr := S1.look q1 e1
    cases d' with
    | tuple xs =>
      cases rr with
      | tup sx qx =>
        rename_i a us
        refine ⟨a, us, rfl, sqT_mono S1.sub1 sx.sq, fun p ob hp nd => ?_⟩
        have A := Add.new (o := .frz ob (.tup us.reverse)) S1.sub hp (by intro ps z; cases z)
        exact h1 _ _ _ (S1.add A) A.grow (.tup ⟨ob, upd_same, nd⟩ (qx.rev.mono A.fF))
    | _ => exact h1.elim
  · exact h1.elim
end
end Sk
set_option maxHeartbeats 1000000
/-! the end of a law's proof -/
namespace Sk
open PySem PySem.Spec PyProof.Rows L2 LamX
def gmOf (I : Info) (K : PySem.W.Frag) : Gm := ⟨I.lams.map fun x => (tbOf K x, lamQ x), fun i => He.ga K (I.excs.getD i "")⟩
def pairsUp (n : Nat) : List (Nat × Nat) := (List.range n).flatMap fun i => (List.range n).map fun j => (i, j)
def faOf (I : Info) : List He.Fa :=
  I.defs.map (fun d => .glo d.name) ++ I.free.map .free ++ I.nums.map (fun p => .int p.1 p.2) ++ I.excs.map .glo ++ I.excs.map .exc ++ (pairsUp I.excs.length).map fun p => .exm (I.excs.getD p.1 "") (I.excs.getD p.2 "") (decide (p.1 = p.2))
abbrev tfOf (I : Info) : List He.Defn := I.lams.map fun x => (x, none)
def exOf (I : Info) (K : PySem.W.Frag) : Bool := decide (I.lams.map (tbOf K)).Nodup
section
variable {I : Info} {w : World} {K : PySem.W.Frag} {h base : Heap} {mg : Str → Option Value}
theorem nodup_one {α β : Type} (f : α → β) : ∀ {l : List α}, (l.map f).Nodup → ∀ {a b : α}, a ∈ l → b ∈ l → f a = f b → a = b
  | [], _, a, _, ha, _, _ => by simp at ha
  | x :: l, n, a, b, ha, hb, e => by
    rw [List.map_cons, List.nodup_cons] at n
    rcases List.mem_cons.mp ha with ha | ha
    · rcases List.mem_cons.mp hb with hb | hb
      · rw [ha, hb]
      · exact absurd (List.mem_map.mpr ⟨b, hb, by rw [← e, ha]⟩) n.1
    · rcases List.mem_cons.mp hb with hb | hb
      · exact absurd (List.mem_map.mpr ⟨a, ha, by rw [e, hb]⟩) n.1
      · exact nodup_one f n.2 ha hb e
theorem fx_of (c : He.SaysX (faOf I) I.defs [] (tfOf I) (exOf I) w h K) (KX : K.In h) (G : h.Ns mainGlobals mg) (TB : ∀ p ∈ (tfOf I).map (He.cT K), TabB base mg p.1 p.2) : FxI I K mg base (gmOf I K) := by
  have F : ∀ {f : He.Fa}, f ∈ faOf I → f.ok K = true := fun hf => He.SaysD.facts c.t.d hf
  have memL : ∀ (i : Nat) (x : Str), I.lams[i]? = some x → x ∈ I.lams := fun i x e => List.mem_of_getElem? e
  refine ⟨fun i d e => ?_, fun x hx => ?_, fun x hx => ?_, fun x i hx => ?_, fun i x e => ?_, fun i j hi hj => ?_, fun i x e => ?_, fun i x e => ?_, fun i x e p hp q => ?_⟩
  · exact c.t.d.def_ i e
  · obtain ⟨d, hd, rfl⟩ := List.mem_map.mp hx
    exact He.glo_ok KX G (F (by unfold faOf; simp only [List.mem_append]; exact .inl (.inl (.inl (.inl (.inl (List.mem_map.mpr ⟨d, hd, rfl⟩)))))))
  · exact He.free_ok KX G (F (by unfold faOf; simp only [List.mem_append]; exact .inl (.inl (.inl (.inl (.inr (List.mem_map.mpr ⟨x, hx, rfl⟩)))))))
  · exact He.int_ok KX G (F (by unfold faOf; simp only [List.mem_append]; exact .inl (.inl (.inl (.inr (List.mem_map.mpr ⟨(x, i), hx, rfl⟩))))))
  · have hx : x ∈ I.excs := List.mem_of_getElem? e
    have g := He.glo_ok KX G (F (f := .glo x) (by unfold faOf; simp only [List.mem_append]; exact .inl (.inl (.inr (List.mem_map.mpr ⟨x, hx, rfl⟩)))))
    obtain ⟨c1, c2, c3, c4⟩ := He.exc_ok (F (f := .exc x) (by unfold faOf; simp only [List.mem_append]; exact .inl (.inr (List.mem_map.mpr ⟨x, hx, rfl⟩))))
    have ec : (gmOf I K).ca i = He.ga K x := by
      show He.ga K (I.excs.getD i "") = _
      rw [List.getD_eq_getElem?_getD, e]
      rfl
    rw [ec]
    exact ⟨g, c1, c2, c3, c4⟩
  · have up : (i, j) ∈ pairsUp I.excs.length := by
      unfold pairsUp
      exact List.mem_flatMap.mpr ⟨i, List.mem_range.mpr hi, List.mem_map.mpr ⟨j, List.mem_range.mpr hj, rfl⟩⟩
    exact He.exm_ok (F (f := .exm (I.excs.getD i "") (I.excs.getD j "") (decide (i = j))) (by unfold faOf; simp only [List.mem_append]; exact .inr (List.mem_map.mpr ⟨(i, j), up, rfl⟩)))
-- ⟨i, List.mem_range.mpr hi, List.mem_map.mpr ⟨j, List.mem_range.mpr hj, rfl⟩⟩
  · exact TB (cdOf K x, tbOf K x) (List.mem_map.mpr ⟨(x, none), List.mem_map.mpr ⟨x, memL i x e, rfl⟩, rfl⟩)
  · exact List.mem_map.mpr ⟨x, memL i x e, rfl⟩
  · obtain ⟨y, hy, rfl⟩ := List.mem_map.mp hp
    have nd : (I.lams.map (tbOf K)).Nodup := of_decide_eq_true c.more
    have : y = x := nodup_one (tbOf K) nd hy (memL i x e) q
    rw [this]
/-- the law's promise -/
theorem law_at {l : PySem.W.OpenLaw} {x : Str} {k n : Nat} {mL : M D} {d : He.DefD} {iL : Nat} (c : He.SaysX (faOf I) I.defs [] (tfOf I) (exOf I) w h K) (KX : K.In h) (G : h.Ns mainGlobals mg) (hd : I.defs[iL]? = some d) (e1 : d.dfl = []) (e2 : d.kwd = []) (ea : d.at_ = (d.name, none)) {fa : Addr} (hfa : mg d.name = some (.ref fa))
    (hbind : ∀ (kV doc pm : Value) (an : Option Addr) (cdv ct : Value) (us : List Value), us.length = [x].length → bindArgs (PySem.W.fnOf d.name d.qual d.params d.body d.scope .none kV doc pm an cdv ct) ⟨us, []⟩ = pure ([x].zip us))
    (ok : ∀ base : Heap, FxI I K mg base (gmOf I K) → Fn (gmOf I K) l.prog w K mg base (rP K) k d.name [x] mL)
    (good : ∀ ns : List Int, ns.length ≤ n → (∀ z ∈ ns, Builtin.Int.intBits z ≤ 1048576) → ∃ st, mL [.scr ns] = .ok (.bool true) st) : LawAtS l w K (L2.CX l.prog w) k n x mg fa h := by
  obtain ⟨fd, F⟩ := c.t.d.def_ iL hd
  have z1 : d.dvs K = [] := by unfold He.DefD.dvs; rw [e1]; rfl
  have z2 : d.kws K = [] := by unfold He.DefD.kws; rw [e2]; rfl
  rw [z1, z2] at F
  have g0 := He.glo_ok KX G (x := d.name) (He.SaysD.facts c.t.d (by unfold faOf; simp only [List.mem_append]; exact .inl (.inl (.inl (.inl (.inl (List.mem_map.mpr ⟨d, List.mem_of_getElem? hd, rfl⟩)))))))
  have ef : fa = He.fAd K d.at_ := by
    rw [ea]
    rw [hfa] at g0
    injection g0 with g0
    injection g0 with g0
  subst ef
  refine ⟨fd, (tfOf I).map (He.cT K), spD (gmOf I K) K 1 mL, ?_, ?_, ?_, ?_, ?_, ?_⟩
  · intro p hp
    obtain ⟨q, hq, rfl⟩ := List.mem_map.mp hp
    exact c.empty q hq
  · intro p hp
    obtain ⟨q, hq, rfl⟩ := List.mem_map.mp hp
    exact c.out q hq
  · intro p hp
    obtain ⟨q, hq, rfl⟩ := List.mem_map.mp hp
    exact PySem.W.codeHd_of_K KX (c.hd q hq)
  · have b := FunD.bindsA (ps := [x]) F hbind
    exact fun s u => b s [u] rfl
  · intro H a ns hl hb hT hS
    obtain ⟨st, e⟩ := good ns hl hb
    have tabs : Tabs (gmOf I K).T H := fun p hp => by
      obtain ⟨y, hy, rfl⟩ := List.mem_map.mp hp
      exact TabS.nil (hT (cdOf K y, tbOf K y) (List.mem_map.mpr ⟨(y, none), List.mem_map.mpr ⟨y, hy, rfl⟩, rfl⟩))
    have core : ∀ F : Hp, (∀ b o, F b = some o → H b = some o ∧ ∀ ps, o ≠ .tbl ps) → SqL K F a (ns.map V.int) → spD (gmOf I K) K 1 mL [.ref a] H (fun v _ => v = .bl true) fun _ _ _ => False := fun F hF hq => by
      refine ⟨[.scr ns], F, rfl, ⟨rfl, hF, fun i d e => ?_, fun i d e => ?_, fun i z e => ?_, fun i j d e a' h1 => ?_, tabs⟩, ?_⟩
      · cases i <;> simp at e
      · cases i <;> simp at e
      · cases i with
        | zero =>
          simp at e
          subst e
          exact ⟨a, rfl, hq⟩
        | succ i => simp at e
      · cases i <;> simp at h1
      · rw [e]
        intro v H' F' S' G' r
        cases (show Rp K F' (.bool true) v from r)
        rfl
    rcases hS with (z | ⟨o, z⟩) | z
    · refine core (fun b => if b = a then some (.lst (ns.map V.int)) else none) (fun b u q => ?_) (.inl (.inl (if_pos rfl)))
      by_cases eb : b = a
      · rw [if_pos eb] at q
        cases q
        exact ⟨by rw [eb]; exact z, by intro ps z; cases z⟩
      · rw [if_neg eb] at q
        cases q
    · refine core (fun b => if b = a then some (.frz o (.lst (ns.map V.int))) else none) (fun b u q => ?_) (.inl (.inr ⟨o, if_pos rfl⟩))
      by_cases eb : b = a
      · rw [if_pos eb] at q
        cases q
        exact ⟨by rw [eb]; exact z, by intro ps z; cases z⟩
      · rw [if_neg eb] at q
        cases q
    · exact core (fun _ => none) (fun b u q => by cases q) (.inr z)
  · intro base KB GB TB
    obtain ⟨f2, fd2, h1, _, _, h4, oc, od, osl, lk⟩ := (ok base (fx_of c KX G TB)).ex
    rw [hfa] at h1
    cases h1
    obtain ⟨oc', od', _, _, _, _, _, _, _, osl', _, lk', _⟩ := F.ex
    rw [lk] at lk'
    cases lk'
    exact h4
end
end Sk
set_option maxHeartbeats 1000000
/-! reckoning with the mirrors -/
namespace Sk
open PySem PySem.Spec PyProof.Rows L2
section
variable {α β : Type}
def Out.th (o : Out α) (g : α → M β) : Out β := match o with
  | .ok a st => g a st
  | .ex x st => .ex x st
  | .no => .no
theorem th_ok {a : α} {st : List Sl} {g : α → M β} : (Out.ok a st).th g = g a st := Eq.trans rfl rfl
theorem th_ex {x : Er} {st : List Sl} {g : α → M β} : (Out.ex x st).th g = .ex x st := Eq.trans rfl rfl
theorem th_ite {c : Prop} [Decidable c] {o p : Out α} {g : α → M β} : (if c then o else p).th g = if c then o.th g else p.th g := by split <;> rfl
theorem e_bind {f : M α} {g : α → M β} {st : List Sl} : M.bind f g st = (f st).th g := Eq.trans rfl rfl
theorem e_ret {a : α} {st : List Sl} : M.ret a st = .ok a st := Eq.trans rfl rfl
theorem e_fail {st : List Sl} : (M.fail : M α) st = .no := Eq.trans rfl rfl
theorem e_opt {a : α} {st : List Sl} : M.opt (some a) st = .ok a st := Eq.trans rfl rfl
theorem e_chk {c : Prop} [Decidable c] {d : D} (h : c) : chk c d = some d := if_pos h
def Out.ts (o : Out α) (g : α → MS) : SOut := match o with
  | .ok a st => g a st
  | .ex x st => .ex x st
  | .no => .no
theorem ts_ok {a : α} {st : List Sl} {g : α → MS} : (Out.ok a st).ts g = g a st := Eq.trans rfl rfl
theorem ts_ex {x : Er} {st : List Sl} {g : α → MS} : (Out.ex x st : Out α).ts g = .ex x st := Eq.trans rfl rfl
theorem ts_ite {c : Prop} [Decidable c] {o p : Out α} {g : α → MS} : (if c then o else p).ts g = if c then o.ts g else p.ts g := by split <;> rfl
theorem e_bindS {f : M α} {g : α → MS} {st : List Sl} : bindS f g st = (f st).ts g := by
  unfold bindS Out.ts
  cases f st <;> rfl
end
def SOut.sq (o : SOut) (g : MS) : SOut := match o with
  | .nx st => g st
  | o => o
theorem sq_nx {st : List Sl} {g : MS} : (SOut.nx st).sq g = g st := Eq.trans rfl rfl
theorem sq_rt {d : D} {st : List Sl} {g : MS} : (SOut.rt d st).sq g = .rt d st := Eq.trans rfl rfl
theorem sq_ex {x : Er} {st : List Sl} {g : MS} : (SOut.ex x st).sq g = .ex x st := Eq.trans rfl rfl
theorem sq_bk {st : List Sl} {g : MS} : (SOut.bk st).sq g = .bk st := Eq.trans rfl rfl
theorem sq_ct {st : List Sl} {g : MS} : (SOut.ct st).sq g = .ct st := Eq.trans rfl rfl
theorem sq_ite {c : Prop} [Decidable c] {o p : SOut} {g : MS} : (if c then o else p).sq g = if c then o.sq g else p.sq g := by split <;> rfl
theorem e_seqS {f g : MS} {st : List Sl} : seqS f g st = (f st).sq g := by
  unfold seqS SOut.sq
  cases f st <;> rfl
def SOut.fin (o : SOut) (P : List Nat) (args : List Sl) : Out D := match o with
  | .nx st => .ok .none (outs P args st)
  | .rt d st => .ok d (outs P args st)
  | .ex x st => .ex x (outs P args st)
  | _ => .no
theorem fin_nx {P : List Nat} {args st : List Sl} : (SOut.nx st).fin P args = .ok .none (outs P args st) := Eq.trans rfl rfl
theorem fin_rt {P : List Nat} {args st : List Sl} {d : D} : (SOut.rt d st).fin P args = .ok d (outs P args st) := Eq.trans rfl rfl
theorem fin_ex {P : List Nat} {args st : List Sl} {x : Er} : (SOut.ex x st).fin P args = .ex x (outs P args st) := Eq.trans rfl rfl
theorem fin_ite {c : Prop} [Decidable c] {o p : SOut} {P : List Nat} {args : List Sl} : (if c then o else p).fin P args = if c then o.fin P args else p.fin P args := by split <;> rfl
theorem e_fnOf {n : Nat} {P : List Nat} {body : MS} {args : List Sl} (h : (okArgs P 0 args && P.all fun i => isOwn args[i]?) = true) : fnOf n P body args = (body (args ++ List.replicate n .un)).fin P args := by
  unfold fnOf SOut.fin
  rw [if_pos (Bool.and_eq_true_iff.mp h)]
  all_goals (cases body (args ++ List.replicate n .un) <;> rfl)
/-- a call of a def whose outcome is known -/
def Out.wb (o : Out D) (ops : List Op) (st : List Sl) : Out D := match o with
  | .ok d outs => .ok d (Sk.wb ops outs st)
  | .ex x outs => .ex x (Sk.wb ops outs st)
  | .no => .no
theorem wb_ok {ops : List Op} {st outs : List Sl} {d : D} : (Out.ok d outs).wb ops st = .ok d (Sk.wb ops outs st) := Eq.trans rfl rfl
theorem wb_ex {ops : List Op} {st outs : List Sl} {x : Er} : (Out.ex x outs).wb ops st = .ex x (Sk.wb ops outs st) := Eq.trans rfl rfl
theorem wb_ite {c : Prop} [Decidable c] {o p : Out D} {ops : List Op} {st : List Sl} : (if c then o else p).wb ops st = if c then o.wb ops st else p.wb ops st := by split <;> rfl
theorem e_call {fn : M D} {ops : List Op} {st args : List Sl} (n : (ownIx ops).Nodup) (h : argsOf st ops = some args) (l : ∀ d outs, fn args = .ok d outs → outs.length = args.length) (l2 : ∀ x outs, fn args = .ex x outs → outs.length = args.length) : callAt fn ops st = (fn args).wb ops st := by
  unfold callAt
  rw [if_pos n, h]
  unfold Out.wb
  simp only
  cases e : fn args with
  | ok d o => simp only; rw [if_pos (l d o e)]
  | ex x o => simp only; rw [if_pos (l2 x o e)]
  | no => rfl
/-- the same by a known outcome -/
theorem e_call_ok {fn : M D} {ops : List Op} {st args outs : List Sl} {d : D} (n : (ownIx ops).Nodup) (h : argsOf st ops = some args) (e : fn args = .ok d outs) (l : outs.length = args.length) : callAt fn ops st = .ok d (Sk.wb ops outs st) := by
  unfold callAt
  rw [if_pos n, h]
  simp only
  rw [e]
  simp only
  rw [if_pos l]
theorem e_call_ex {fn : M D} {ops : List Op} {st args outs : List Sl} {x : Er} (n : (ownIx ops).Nodup) (h : argsOf st ops = some args) (e : fn args = .ex x outs) (l : outs.length = args.length) : callAt fn ops st = .ex x (Sk.wb ops outs st) := by
  unfold callAt
  rw [if_pos n, h]
  simp only
  rw [e]
  simp only
  rw [if_pos l]
def vA1 (g : M D) (d : D) : M D := match d with
  | .bool true => g
  | .bool false => M.ret (.bool false)
  | _ => M.fail
theorem vA1_b {g : M D} {b : Bool} {st : List Sl} : vA1 g (.bool b) st = if b = true then g st else .ok (.bool false) st := by cases b <;> rfl
theorem e_vAnd {f g : M D} {st : List Sl} : vAnd f g st = (f st).th (vA1 g) := Eq.trans rfl rfl
def vO1 (g : M D) (d : D) : M D := match d with
  | .bool true => M.ret (.bool true)
  | .bool false => g
  | _ => M.fail
theorem vO1_b {g : M D} {b : Bool} {st : List Sl} : vO1 g (.bool b) st = if b = true then .ok (.bool true) st else g st := by cases b <;> rfl
theorem e_vOr {f g : M D} {st : List Sl} : vOr f g st = (f st).th (vO1 g) := Eq.trans rfl rfl
def vN1 (d : D) : M D := match d with
  | .bool b => M.ret (.bool (!b))
  | _ => M.fail
theorem vN1_b {b : Bool} {st : List Sl} : vN1 (.bool b) st = .ok (.bool (!b)) st := Eq.trans rfl rfl
theorem e_vNot {f : M D} {st : List Sl} : vNot f st = (f st).th vN1 := Eq.trans rfl rfl
def ch1 (op2 : D → D → Option D) (fc : M Op) (y : Op) (d : D) : M D := match d with
  | .bool true => fc.bind fun z => ap2 op2 y z
  | .bool false => M.ret (.bool false)
  | _ => M.fail
theorem ch1_b {op2 : D → D → Option D} {fc : M Op} {y : Op} {b : Bool} {st : List Sl} : ch1 op2 fc y (.bool b) st = if b = true then (fc st).th (fun z => ap2 op2 y z) else .ok (.bool false) st := by cases b <;> rfl
theorem e_chM {op1 op2 : D → D → Option D} {fa fb fc : M Op} {st : List Sl} : chM op1 op2 fa fb fc st = (fa st).th fun x => fb.bind fun y => (ap2 op1 x y).bind (ch1 op2 fc y) := Eq.trans rfl rfl
theorem e_toB {b : Bool} {st : List Sl} : toB (.bool b) st = .ok b st := Eq.trans rfl rfl
theorem e_mAnd {p q : M Bool} {st : List Sl} : mAnd p q st = (p st).th fun c st => if c = true then q st else .ok false st := by
  unfold mAnd M.bind Out.th
  cases p st with
  | ok c s => cases c <;> rfl
  | ex _ _ => rfl
  | no => rfl
theorem e_mOr {p q : M Bool} {st : List Sl} : mOr p q st = (p st).th fun c st => if c = true then .ok true st else q st := by
  unfold mOr M.bind Out.th
  cases p st with
  | ok c s => cases c <;> rfl
  | ex _ _ => rfl
  | no => rfl
theorem e_mNot {p : M Bool} {st : List Sl} : mNot p st = (p st).th fun c st => .ok (!c) st := Eq.trans rfl rfl
theorem e_mIte {α : Type} {p : M Bool} {f g : M α} {st : List Sl} : mIte p f g st = (p st).th fun c st => if c = true then f st else g st := by
  unfold mIte M.bind Out.th
  cases p st with
  | ok c s => cases c <;> rfl
  | ex _ _ => rfl
  | no => rfl
theorem e_iteS {p : M Bool} {f g : MS} {st : List Sl} : iteS p f g st = (p st).ts fun c st => if c = true then f st else g st := by
  unfold iteS bindS Out.ts
  cases p st with
  | ok c s => cases c <;> rfl
  | ex _ _ => rfl
  | no => rfl
/-! loops -/
def SOut.lp (o : SOut) (k : MS) : SOut := match o with
  | .nx st => k st
  | .ct st => k st
  | .bk st => .nx st
  | .rt d st => .rt d st
  | .ex x st => .ex x st
  | .no => .no
theorem lp_nx {st : List Sl} {k : MS} : (SOut.nx st).lp k = k st := Eq.trans rfl rfl
theorem lp_ct {st : List Sl} {k : MS} : (SOut.ct st).lp k = k st := Eq.trans rfl rfl
theorem lp_bk {st : List Sl} {k : MS} : (SOut.bk st).lp k = .nx st := Eq.trans rfl rfl
theorem lp_rt {st : List Sl} {d : D} {k : MS} : (SOut.rt d st).lp k = .rt d st := Eq.trans rfl rfl
theorem lp_ex {st : List Sl} {x : Er} {k : MS} : (SOut.ex x st).lp k = .ex x st := Eq.trans rfl rfl
theorem lp_ite {c : Prop} [Decidable c] {o p : SOut} {k : MS} : (if c then o else p).lp k = if c then o.lp k else p.lp k := by split <;> rfl
theorem forL_nil {t : Tg} {body : MS} {st : List Sl} : forL t body [] [] st = .nx st := Eq.trans rfl rfl
theorem forL_nm {i : Nat} {body : MS} {d : D} {ds : List D} {st : List Sl} : forL (.nm i) body [] (d :: ds) st = (body (st.set i (.dat d))).lp (forL (.nm i) body [] ds) := by
  unfold SOut.lp
  show (match body (st.set i (.dat d)) with | .nx st2 => _ | .ct st2 => _ | .bk st2 => _ | .rt d st2 => _ | .ex x st2 => _ | .no => _) = _
  cases body (st.set i (.dat d)) <;> rfl
theorem forL_tp {is : List Nat} {body : MS} {xs : List D} {ds : List D} {st : List Sl} (h : xs.length = is.length) : forL (.tp is) body [] (.tuple xs :: ds) st = (body (put is (xs.map fun d => (false, d)) st)).lp (forL (.tp is) body [] ds) := by
  unfold SOut.lp
  show (match (if xs.length = is.length then some (put is (xs.map fun d => (false, d)) st) else none) with | none => SOut.no | some st1 => _) = _
  rw [if_pos h]
  simp only
  cases body (put is (xs.map fun d => (false, d)) st) <;> rfl
theorem e_forS {t : Tg} {f : M (List D)} {body : MS} {st : List Sl} : forS t f body [] st = (f st).ts fun ds => forL t body [] ds := e_bindS
/-- an invariant of a loop that ends by itself -/
theorem forL_inv {i : Nat} {body : MS} (Inv : List D → List Sl → Prop) : ∀ {ds : List D} {st : List Sl}, Inv ds st → (∀ d ds st, Inv (d :: ds) st → ∃ st', (body (st.set i (.dat d)) = .nx st' ∨ body (st.set i (.dat d)) = .ct st') ∧ Inv ds st') → ∃ st', forL (.nm i) body [] ds st = .nx st' ∧ Inv [] st'
  | [], st, h, _ => ⟨st, rfl, h⟩
  | d :: ds, st, h, k => by
    obtain ⟨st', e, h'⟩ := k d ds st h
    obtain ⟨st2, e2, h2⟩ := forL_inv Inv h' k
    refine ⟨st2, ?_, h2⟩
    rw [forL_nm]
    rcases e with e | e <;> rw [e] <;> exact e2
/-! calls, by rewriting -/
def Out.wbl (o : Out D) (n : Nat) (ops : List Op) (st : List Sl) : Out D := match o with
  | .ok d outs => if outs.length = n then .ok d (Sk.wb ops outs st) else .no
  | .ex x outs => if outs.length = n then .ex x (Sk.wb ops outs st) else .no
  | .no => .no
def cal (fn : M D) (ops : List Op) (st : List Sl) (a : Option (List Sl)) : Out D := match a with
  | some args => (fn args).wbl args.length ops st
  | none => .no
theorem cal_some {fn : M D} {ops : List Op} {st args : List Sl} : cal fn ops st (some args) = (fn args).wbl args.length ops st := Eq.trans rfl rfl
theorem e_callAt {fn : M D} {ops : List Op} {st : List Sl} : callAt fn ops st = if (ownIx ops).Nodup then cal fn ops st (argsOf st ops) else .no := by
  unfold callAt cal Out.wbl
  split
  · cases argsOf st ops with
    | none => rfl
    | some args =>
      simp only
      all_goals (cases fn args <;> rfl)
  all_goals rfl
theorem wbl_ok {n : Nat} {ops : List Op} {st outs : List Sl} {d : D} : (Out.ok d outs).wbl n ops st = if outs.length = n then .ok d (Sk.wb ops outs st) else .no := Eq.trans rfl rfl
theorem wbl_ex {n : Nat} {ops : List Op} {st outs : List Sl} {x : Er} : (Out.ex x outs).wbl n ops st = if outs.length = n then .ex x (Sk.wb ops outs st) else .no := Eq.trans rfl rfl
theorem wbl_ite {n : Nat} {c : Prop} [Decidable c] {o p : Out D} {ops : List Op} {st : List Sl} : (if c then o else p).wbl n ops st = if c then o.wbl n ops st else p.wbl n ops st := by split <;> rfl
/-! comprehensions -/
theorem set_back {st : List Sl} {i : Nat} {s : Sl} (h : i < st.length) : back [i] st (st.set i s) = st := by
  unfold back
  simp only [List.foldl_cons, List.foldl_nil, List.set_set]
  rw [List.getD_eq_getElem?_getD, List.getElem?_eq_getElem h]
  exact List.set_getElem_self h
theorem lc_gen {i : Nat} {p : M Bool} {fe : M D} {q : D → Bool} {g : D → D} : ∀ {ds acc : List D} {st : List Sl}, i < st.length → acc.length + ds.length ≤ cap → (∀ d ∈ ds, p (st.set i (.dat d)) = .ok (q d) (st.set i (.dat d))) →
    (∀ d ∈ ds, q d = true → fe (st.set i (.dat d)) = .ok (g d) (st.set i (.dat d))) → lcL (.nm i) p fe [i] acc ds st = .ok (.list (acc ++ (ds.filter q).map g)) st
  | [], acc, st, _, _, _, _ => by simp [lcL]
  | d :: ds, acc, st, hi, hc, hp, hf => by
    have h1 := hp d (List.mem_cons_self ..)
    have e0 : asg (.nm i) d (killS [i] st) = some (st.set i (.dat d)) := by simp [asg, killS]
    unfold lcL
    rw [e0]
    simp only
    rw [h1]
    rw [List.length_cons] at hc
    cases hq : q d with
    | true =>
      simp only
      rw [hf d (List.mem_cons_self ..) hq]
      simp only
      rw [if_pos (show acc.length < cap by omega), set_back hi, lc_gen hi (by rw [List.length_append]; simp; omega) (fun x hx => hp x (List.mem_cons_of_mem _ hx)) (fun x hx => hf x (List.mem_cons_of_mem _ hx))]
      simp [hq]
    | false =>
      simp only
      rw [set_back hi, lc_gen hi (by omega) (fun x hx => hp x (List.mem_cons_of_mem _ hx)) (fun x hx => hf x (List.mem_cons_of_mem _ hx))]
      simp [hq]
theorem lc_map {i : Nat} {fe : M D} {g : D → D} {ds : List D} {st : List Sl} (hi : i < st.length) (hc : ds.length ≤ cap) (hf : ∀ d ∈ ds, fe (st.set i (.dat d)) = .ok (g d) (st.set i (.dat d))) : lcL (.nm i) (M.ret true) fe [i] [] ds st = .ok (.list (ds.map g)) st := by
  have := lc_gen (p := M.ret true) (q := fun _ => true) (g := g) (acc := []) hi (by simpa using hc) (fun _ _ => rfl) (fun d hd _ => hf d hd)
  rw [List.filter_eq_self.mpr (fun _ _ => rfl), List.nil_append] at this
  exact this
theorem e_lcM {t : Tg} {f : M (List D)} {p : M Bool} {fe : M D} {vs : List Nat} {st : List Sl} : lcM t f p fe vs st = (f st).th fun ds => lcL t p fe vs [] ds := Eq.trans rfl rfl
/-! shapes -/
theorem shaped_of {d : D} (c : d.canLay0 = true) (h : d.depth ≤ 64) : SeqAt.shaped d = true := by
  unfold SeqAt.shaped
  simp [c, h]
/-- data that can be compared, so deep at most -/
def Sh (n : Nat) (d : D) : Prop := d.canLay0 = true ∧ d.depth ≤ n
theorem Sh.shaped {n : Nat} {d : D} (h : Sh n d) (hn : n ≤ 64) : SeqAt.shaped d = true := shaped_of h.1 (Nat.le_trans h.2 hn)
theorem Sh.mono {n m : Nat} {d : D} (h : Sh n d) (l : n ≤ m) : Sh m d := ⟨h.1, Nat.le_trans h.2 l⟩
theorem sh_int {n : Nat} {i : Int} : Sh n (.int i) := ⟨rfl, Nat.zero_le _⟩
theorem sh_bool {n : Nat} {b : Bool} : Sh n (.bool b) := ⟨rfl, Nat.zero_le _⟩
theorem sh_none {n : Nat} : Sh n .none := ⟨rfl, Nat.zero_le _⟩
theorem sh_all : ∀ {n : Nat} {xs : List D}, (∀ x ∈ xs, Sh n x) → PyData.canLayAll0 xs = true ∧ PyData.depthAll xs ≤ n
  | _, [], _ => ⟨rfl, Nat.zero_le _⟩
  | n, x :: xs, h => by
    obtain ⟨a, b⟩ := h x (List.mem_cons_self ..)
    obtain ⟨c, d⟩ := sh_all fun y hy => h y (List.mem_cons_of_mem _ hy)
    exact ⟨by rw [PyData.canLayAll0, a, c]; rfl, by rw [PyData.depthAll]; exact Nat.max_le.mpr ⟨b, d⟩⟩
theorem sh_each : ∀ {n : Nat} {xs : List D}, PyData.canLayAll0 xs = true → PyData.depthAll xs ≤ n → ∀ x ∈ xs, Sh n x
  | _, [], _, _, x, h => by simp at h
  | n, y :: ys, c, d, x, h => by
    rw [PyData.canLayAll0, Bool.and_eq_true] at c
    rw [PyData.depthAll] at d
    have d := Nat.max_le.mp d
    rcases List.mem_cons.mp h with rfl | h
    · exact ⟨c.1, d.1⟩
    · exact sh_each c.2 d.2 x h
theorem sh_tup {n : Nat} {xs : List D} (h : ∀ x ∈ xs, Sh n x) : Sh (n + 1) (.tuple xs) := by
  obtain ⟨a, b⟩ := sh_all h
  exact ⟨by rw [PyData.canLay0]; exact a, by rw [PyData.depth]; omega⟩
theorem sh_lst {n : Nat} {xs : List D} (h : ∀ x ∈ xs, Sh n x) : Sh (n + 1) (.list xs) := by
  obtain ⟨a, b⟩ := sh_all h
  exact ⟨by rw [PyData.canLay0]; exact a, by rw [PyData.depth]; omega⟩
theorem Sh.tup {n : Nat} {xs : List D} (h : Sh n (.tuple xs)) : ∀ x ∈ xs, Sh (n - 1) x := by
  obtain ⟨a, b⟩ := h
  rw [PyData.canLay0] at a
  rw [PyData.depth] at b
  exact sh_each a (by omega)
theorem Sh.lst {n : Nat} {xs : List D} (h : Sh n (.list xs)) : ∀ x ∈ xs, Sh (n - 1) x := by
  obtain ⟨a, b⟩ := h
  rw [PyData.canLay0] at a
  rw [PyData.depth] at b
  exact sh_each a (by omega)
/-- one-deep lists of truths and numbers -/
theorem sh_bools {n : Nat} {xs : List Bool} : Sh (n + 1) (.list (xs.map PyData.bool)) := sh_lst fun x h => by
  obtain ⟨b, _, rfl⟩ := List.mem_map.mp h
  exact sh_bool
theorem any_false : ∀ xs : List Bool, ((xs.map PyData.bool).any fun z => PyData.eqv z (.bool false)) = !xs.all id
  | [] => rfl
  | b :: xs => by
    rw [List.map_cons, List.any_cons, any_false xs]
    cases b <;> simp [PyData.eqv]
/-- False not in [..] -/
theorem notin_false (xs : List Bool) : dNotInL (.bool false) (.list (xs.map PyData.bool)) = some (.bool (xs.all id)) := by
  show chk _ _ = _
  rw [e_chk ⟨sh_bool.shaped (n := 0) (by decide), (sh_bools (n := 0)).shaped (by decide)⟩, any_false, Bool.not_not]
theorem in_false (xs : List Bool) : dInL (.bool false) (.list (xs.map PyData.bool)) = some (.bool (!xs.all id)) := by
  show chk _ _ = _
  rw [e_chk ⟨sh_bool.shaped (n := 0) (by decide), (sh_bools (n := 0)).shaped (by decide)⟩, any_false]
theorem notin_falseF {α : Type} (f : α → Bool) (xs : List α) : dNotInL (.bool false) (.list (xs.map fun d => .bool (f d))) = some (.bool (xs.all f)) := by
  have := notin_false (xs.map f)
  rw [List.map_map, List.all_map] at this
  exact this
theorem in_falseF {α : Type} (f : α → Bool) (xs : List α) : dInL (.bool false) (.list (xs.map fun d => .bool (f d))) = some (.bool (!xs.all f)) := by
  have := in_false (xs.map f)
  rw [List.map_map, List.all_map] at this
  exact this
/-! places -/
theorem atI_pos {α : Type} {xs : List α} {i : Int} (h0 : 0 ≤ i) (h1 : i < xs.length) : L2.atI xs i = some (xs[i.toNat]'(by omega)) := by
  have e : ixN xs.length i = some i.toNat := by
    unfold ixN
    simp [h0, h1]
  unfold L2.atI
  rw [e]
  exact List.getElem?_eq_getElem (by omega)
theorem dIx_tup {xs : List D} {i : Int} (h0 : 0 ≤ i) (h1 : i < xs.length) : dIx (.tuple xs) (.int i) = some (xs[i.toNat]'(by omega)) := atI_pos h0 h1
theorem dIx_lst {xs : List D} {i : Int} (h0 : 0 ≤ i) (h1 : i < xs.length) : dIx (.list xs) (.int i) = some (xs[i.toNat]'(by omega)) := atI_pos h0 h1
/-! ranges -/
def Sml (i j : Int) : Prop := -1000000000 ≤ i ∧ i ≤ 1000000000 ∧ -1000000000 ≤ j ∧ j ≤ 1000000000
def rn1 (d : D) : M (List D) := match d with
  | .int n => if -(2 ^ 62) ≤ n ∧ n < 2 ^ 62 then M.ret (rngL 0 n.toNat) else M.fail
  | _ => M.fail
theorem e_rng1 {f : M D} {st : List Sl} : rng1M f st = (f st).th rn1 := by
  unfold rng1M M.bind Out.th
  cases f st <;> rfl
theorem rn1_ok {n : Int} {st : List Sl} (h : Sml 0 n) : rn1 (.int n) st = .ok (rngL 0 n.toNat) st := by
  unfold rn1
  simp only
  rw [if_pos (by unfold Sml at h; omega)]
  rfl
def rn2 (d e : D) : M (List D) := match d, e with
  | .int i, .int j => if -(2 ^ 62) ≤ i ∧ i < 2 ^ 62 ∧ -(2 ^ 62) ≤ j ∧ j < 2 ^ 62 then M.ret (rngL i (j - i).toNat) else M.fail
  | _, _ => M.fail
theorem e_rng2 {f g : M D} {st : List Sl} : rng2M f g st = (f st).th fun d => g.bind (rn2 d) := by
  unfold rng2M M.bind Out.th
  cases f st <;> rfl
theorem rn2_ok {i j : Int} {st : List Sl} (h : Sml i j) : rn2 (.int i) (.int j) st = .ok (rngL i (j - i).toNat) st := by
  unfold rn2
  simp only
  rw [if_pos (by unfold Sml at h; omega)]
  rfl
theorem sml {i j : Int} (h : -1000000000 ≤ i ∧ i ≤ 1000000000 ∧ -1000000000 ≤ j ∧ j ≤ 1000000000) : Sml i j := h
theorem mem_rng {lo : Int} {n : Nat} {d : D} (h : d ∈ rngL lo n) : ∃ k, k < n ∧ d = .int (lo + (k : Int)) := by
  unfold rngL at h
  obtain ⟨k, hk, e⟩ := List.mem_map.mp h
  exact ⟨k, List.mem_range.mp hk, e.symm⟩
theorem rng_len {lo : Int} {n : Nat} : (rngL lo n).length = n := by simp [rngL]
def atR (g : Nat → D) (lo : Int) : D → D
  | .int k => g (k - lo).toNat
  | _ => .none
theorem atR_at {g : Nat → D} {lo : Int} {k : Nat} : atR g lo (.int (lo + (k : Int))) = g k := by
  have e : (lo + (k : Int) - lo).toNat = k := by omega
  unfold atR
  simp only
  rw [e]
/-- a comprehension over a range -/
theorem lc_rng {i : Nat} {fe : M D} {g : Nat → D} {lo : Int} {n : Nat} {st : List Sl} (hi : i < st.length) (hc : n ≤ cap) (hf : ∀ k, k < n → fe (st.set i (.dat (.int (lo + (k : Int))))) = .ok (g k) (st.set i (.dat (.int (lo + (k : Int)))))) :
    lcL (.nm i) (M.ret true) fe [i] [] (rngL lo n) st = .ok (.list ((List.range n).map g)) st := by
  have e := lc_map (fe := fe) (g := atR g lo) (ds := rngL lo n) hi (by rw [rng_len]; exact hc) (fun d hd => by
    obtain ⟨k, hk, rfl⟩ := mem_rng hd
    rw [atR_at]
    exact hf k hk)
  rw [e]
  congr 2
  unfold rngL
  rw [List.map_map]
  exact List.map_congr_left fun k _ => atR_at
/-! comprehensions with several names -/
theorem get_kill {vs : List Nat} : ∀ {st : List Sl} {j : Nat}, j ∉ vs → (killS vs st)[j]? = st[j]? := by
  induction vs with
  | nil => intro st j _; rfl
  | cons i vs ih =>
    intro st j h
    simp only [List.mem_cons, not_or] at h
    show (killS vs (st.set i .un))[j]? = _
    rw [ih h.2, List.getElem?_set_ne (fun z => h.1 z.symm)]
theorem len_kill {vs : List Nat} : ∀ {st : List Sl}, (killS vs st).length = st.length := by
  induction vs with
  | nil => intro st; rfl
  | cons i vs ih =>
    intro st
    show (killS vs (st.set i .un)).length = _
    rw [ih, List.length_set]
theorem get_put : ∀ {is : List Nat} {ds : List (Bool × D)} {st : List Sl} {j : Nat}, j ∉ is → (put is ds st)[j]? = st[j]?
  | [], _, _, _, _ => by unfold put; rfl
  | _ :: _, [], _, _, _ => by unfold put; rfl
  | i :: is, (b, d) :: ds, st, j, h => by
    simp only [List.mem_cons, not_or] at h
    unfold put
    rw [get_put h.2, List.getElem?_set_ne (fun z => h.1 z.symm)]
theorem len_put : ∀ {is : List Nat} {ds : List (Bool × D)} {st : List Sl}, (put is ds st).length = st.length
  | [], _, _ => by unfold put; rfl
  | _ :: _, [], _ => by unfold put; rfl
  | i :: is, (b, d) :: ds, st => by
    unfold put
    rw [len_put, List.length_set]
/-- the state with a tuple's items in the slots is -/
def setT (is : List Nat) (xs : List D) (st : List Sl) : List Sl := put is (xs.map fun d => (false, d)) (killS is st)
theorem back_setT {is : List Nat} {xs : List D} {st : List Sl} : back is st (setT is xs st) = st := by
  apply List.ext_getElem?
  intro j
  have l : (setT is xs st).length = st.length := by unfold setT; rw [len_put, len_kill]
  rw [back_get l]
  split
  · rfl
  · unfold setT
    rw [get_put ‹_›, get_kill ‹_›]
theorem lc_tp {is : List Nat} {p : M Bool} {fe : M D} {q : List D → Bool} {g : List D → D} : ∀ {xss : List (List D)} {acc : List D} {st : List Sl}, acc.length + xss.length ≤ cap → (∀ xs ∈ xss, xs.length = is.length) →
    (∀ xs ∈ xss, p (setT is xs st) = .ok (q xs) (setT is xs st)) → (∀ xs ∈ xss, q xs = true → fe (setT is xs st) = .ok (g xs) (setT is xs st)) → lcL (.tp is) p fe is acc (xss.map .tuple) st = .ok (.list (acc ++ (xss.filter q).map g)) st
  | [], acc, st, _, _, _, _ => by simp [lcL]
  | xs :: xss, acc, st, hc, hl, hp, hf => by
    have h1 := hp xs (List.mem_cons_self ..)
    have e0 : asg (.tp is) (.tuple xs) (killS is st) = some (setT is xs st) := by
      show (if xs.length = is.length then some (put is (xs.map fun d => (false, d)) (killS is st)) else none) = _
      rw [if_pos (hl xs (List.mem_cons_self ..))]
      rfl
    rw [List.map_cons]
    unfold lcL
    rw [e0]
    simp only
    rw [h1]
    rw [List.length_cons] at hc
    cases hq : q xs with
    | true =>
      simp only
      rw [hf xs (List.mem_cons_self ..) hq]
      simp only
      rw [if_pos (show acc.length < cap by omega), back_setT, lc_tp (by rw [List.length_append]; simp; omega) (fun x hx => hl x (List.mem_cons_of_mem _ hx)) (fun x hx => hp x (List.mem_cons_of_mem _ hx)) (fun x hx => hf x (List.mem_cons_of_mem _ hx))]
      simp [hq]
    | false =>
      simp only
      rw [back_setT, lc_tp (by omega) (fun x hx => hl x (List.mem_cons_of_mem _ hx)) (fun x hx => hp x (List.mem_cons_of_mem _ hx)) (fun x hx => hf x (List.mem_cons_of_mem _ hx))]
      simp [hq]
end Sk
namespace Sk
open PySem PySem.Spec PyProof.Rows L2
/-! sequences to walk over -/
def sq1 (d : D) : M (List D) := match d with
  | .list ds => M.ret ds
  | .tuple ds => M.ret ds
  | _ => M.fail
theorem e_seqM {f : M D} {st : List Sl} : seqM f st = (f st).th sq1 := Eq.trans rfl rfl
theorem sq1_l {ds : List D} {st : List Sl} : sq1 (.list ds) st = .ok ds st := Eq.trans rfl rfl
theorem sq1_t {ds : List D} {st : List Sl} : sq1 (.tuple ds) st = .ok ds st := Eq.trans rfl rfl
def ml1 (ds : List D) : M D := if ds.length ≤ 1000 then M.ret (.list ds) else M.fail
theorem e_mLst {f : M (List D)} {st : List Sl} : mLst f st = (f st).th ml1 := Eq.trans rfl rfl
theorem ml1_ok {ds : List D} {st : List Sl} (h : ds.length ≤ 1000) : ml1 ds st = .ok (.list ds) st := by
  unfold ml1
  rw [if_pos h]
  rfl
def mt1 (ds : List D) : M D := if ds.length ≤ 1000 then M.ret (.tuple ds) else M.fail
theorem e_mTup {f : M (List D)} {st : List Sl} : mTup f st = (f st).th mt1 := Eq.trans rfl rfl
theorem mt1_ok {ds : List D} {st : List Sl} (h : ds.length ≤ 1000) : mt1 ds st = .ok (.tuple ds) st := by
  unfold mt1
  rw [if_pos h]
  rfl
def pa1 (d : D) : M (Option Int) := match d with
  | .int i => M.ret (some i)
  | _ => M.fail
theorem e_partM {f : M D} {st : List Sl} : partM f st = (f st).th pa1 := Eq.trans rfl rfl
theorem pa1_i {i : Int} {st : List Sl} : pa1 (.int i) st = .ok (some i) st := Eq.trans rfl rfl
end Sk
namespace Sk
open PySem PySem.Spec PyProof.Rows L2
theorem dLen_t {xs : List D} : dLen [.tuple xs] = some (.int (xs.length : Nat)) := Eq.trans rfl rfl
theorem dLen_l {xs : List D} : dLen [.list xs] = some (.int (xs.length : Nat)) := Eq.trans rfl rfl
theorem dAdd_i {i j : Int} : dAdd (.int i) (.int j) = some (.int (i + j)) := Eq.trans rfl rfl
end Sk
namespace Sk
open PySem PySem.Spec PyProof.Rows L2
theorem dEq_i {i j : Int} : dEq (.int i) (.int j) = some (.bool (i == j)) := by
  show chk _ _ = _
  rw [e_chk ⟨sh_int.shaped (n := 0) (by decide), sh_int.shaped (n := 0) (by decide)⟩]
  rfl
theorem dNe_i {i j : Int} : dNe (.int i) (.int j) = some (.bool (!(i == j))) := by
  show chk _ _ = _
  rw [e_chk ⟨sh_int.shaped (n := 0) (by decide), sh_int.shaped (n := 0) (by decide)⟩]
  rfl
end Sk
set_option maxHeartbeats 1000000
/-! walks that hand out pairs: enumerate, zip -/
namespace Sk
open PySem PySem.Spec PyProof.Rows L2
/-- a list (false) or a tuple (true) -/
def SqX (K : PySem.W.Frag) (b : Bool) (H : Hp) (a : Addr) (xs : List V) : Prop := match b with
  | true => SqT K H a xs
  | false => SqL K H a xs
def ItX (b : Bool) (h : Heap) (j a : Addr) (i : Nat) : Prop := match b with
  | true => h.IsTupleIter j a i
  | false => h.IsListIter j a i
def InX (b : Bool) (h : Heap) (a : Addr) (its : Array Value) : Prop := match b with
  | true => h.IsTuple a its
  | false => h.IsList a its
theorem draws_x {P : Program} {w : World} {A : Around} (b : Bool) (hd : A.handled = none) {j a : Addr} (ne : a ≠ j) (its : Array Value) :
    Draws P w A j [j, a] its.size (fun i v => its[i]? = some v) (fun i h => ItX b h j a i ∧ InX b h a its) := by
  cases b
  · exact Draws.list hd j a ne its
  · exact Draws.tuple hd j a ne its
def itO (b : Bool) (a : Addr) : Obj := { cls := .type (if b = true then "tuple_iterator" else "list_iterator"), data := .fields #[.ref a, .int 0 0] }
theorem begins_x (b : Bool) (a : Addr) (its : Array Value) : Begins (.ref a) (itO b a) (fun h => InX b h a its) := by
  cases b
  · exact begins_list a its
  · exact begins_tuple a its
theorem itX_at {b : Bool} {h h' : Heap} {j a : Addr} {i : Nat} (x : ItX b h j a i) (k : ∀ o, h.get? j = some o → h'.get? j = some o) : ItX b h' j a i := by
  cases b
  · obtain ⟨o, e, c, d⟩ := x
    exact ⟨o, k o e, c, d⟩
  · obtain ⟨o, e, c, d⟩ := x
    exact ⟨o, k o e, c, d⟩
theorem itX_obj {b : Bool} {h : Heap} {j a : Addr} {i : Nat} (x : ItX b h j a i) : ∃ o vs, h.get? j = some o ∧ o.data = .fields vs := by
  cases b
  · obtain ⟨o, e, _, d⟩ := x
    exact ⟨o, _, e, d⟩
  · obtain ⟨o, e, _, d⟩ := x
    exact ⟨o, _, e, d⟩
theorem inX_obj {b : Bool} {h : Heap} {a : Addr} {its : Array Value} (x : InX b h a its) : ∃ o n, h.get? a = some o ∧ o.data = .seq its n := by
  cases b
  · obtain ⟨o, e, _, n, d⟩ := x
    exact ⟨o, n, e, d⟩
  · obtain ⟨o, e, _, n, d⟩ := x
    exact ⟨o, n, e, d⟩
theorem inX_at {b : Bool} {h h' : Heap} {a : Addr} {its : Array Value} (x : InX b h a its) (k : ∀ o, h.get? a = some o → h'.get? a = some o) : InX b h' a its := by
  cases b
  · obtain ⟨o, e, r⟩ := x
    exact ⟨o, k o e, r⟩
  · obtain ⟨o, e, r⟩ := x
    exact ⟨o, k o e, r⟩
/-- at the end nothing is drawn -/
theorem draws_end {P : Program} {w : World} {A : Around} (b : Bool) (hd : A.handled = none) {j a : Addr} {its : Array Value} (i : Nat) (hx : its[i]? = none) :
    Draws P w A j [j, a] i (fun _ _ => False) (fun k h => k = i ∧ ItX b h j a k ∧ InX b h a its) where
  live := fun k h st => by
    obtain ⟨o, vs, e, _⟩ := itX_obj st.2.1
    exact ⟨o, e⟩
  frame := fun k h h' st q => ⟨st.1, itX_at st.2.1 fun o e => q j (by simp) o e, inX_at st.2.2 fun o e => q a (by simp) o e⟩
  item := fun k s Q E lt st hQ => absurd st.1 (Nat.ne_of_lt lt)
  done := fun s Q E st hE => by
    obtain ⟨_, h1, h2⟩ := st
    cases b
    · exact wpAny_nextOf_list_end hd h1 h2 hx hE
    · exact wpAny_nextOf_tuple_end hd h1 h2 hx hE
theorem itX_new {b : Bool} {h : Heap} {a : Addr} {j : Addr} (e : h.get? j = some (itO b a)) : ItX b h j a 0 := by
  cases b
  · exact ⟨_, e, rfl, rfl⟩
  · exact ⟨_, e, rfl, rfl⟩
section
variable {X : Cx} {pins : List (Addr × Obj)} {σ : L2.St} {H : Hp} {s : Shared}
theorem inv_sq {b : Bool} {a : Addr} {xs : List V} (I : Inv X pins σ H s) (q : SqX X.K b H a xs) : ∃ its : List Value, Vals xs its ∧ InX b s.heap a its.toArray := by
  cases b
  · obtain ⟨its, r, p, _⟩ := I.list q
    exact ⟨its, r, p.isList⟩
  · obtain ⟨its, r, p, _⟩ := I.tuple q
    exact ⟨its, r, p⟩
theorem sq_one {b : Bool} {a : Addr} {xs ys : List V} (I : Inv X pins σ H s) (q : SqX X.K b H a xs) (q' : SqX X.K b H a ys) : xs = ys := by
  cases b
  · exact I.list_inj q q'
  · exact I.tuple_inj q q'
end
set_option maxHeartbeats 2000000 in
theorem meets_enumB {v : Value} {o : Obj} {Hs : Heap → Prop} (B : Begins v o Hs) :
    Meets (Builtin.«enumerate.__new__» ⟨[.type "enumerate", v], []⟩) (fun _ R s => Hs s.heap ∧
      R (.ok (.ret (.ref (s.heap.push o).objs.size))) { s with heap := (s.heap.push o).push { cls := .type "enumerate", data := .fields #[.none, .bool false, .ref s.heap.objs.size, rawInt 0, .none, .none] } }) :=
  .of_wp fun pr w1 A1 R1 s1 hyp => by
    obtain ⟨hp, gn, dr, tk, os⟩ := s1; obtain ⟨h1, hq⟩ := hyp
    have hsub := sub_enumerate
    have it_ : ∀ {A' : Around} {E : Value → Shared → Prop} {Q : Value → Shared → Prop}, Q (.ref hp.objs.size) ⟨hp.push o, gn, dr, tk, os⟩ → wpAny (model pr w1) A' (pyIter v) Q E ⟨hp, gn, dr, tk, os⟩ :=
      fun z => B.iter pr w1 _ _ ⟨hp, gn, dr, tk, os⟩ _ h1 z
    wp_walk using it_
    refine wpAny_stack_any fun sk => wpAny_pure ?_
    split
    · rename_i cl _ _ _ _ _
      cases (cl == Value.type "enumerate") <;> wp_walk using it_ <;> exact ⟨_, rfl, hq⟩
    · wp_walk using it_
      exact ⟨_, rfl, hq⟩
section
variable {P : Program} {w : World} {A : Around} {E : Value → Shared → Prop} {s : Shared}
theorem enum_one {v : Value} {o : Obj} {Hs : Heap → Prop} {Q : Value → Shared → Prop} (B : Begins v o Hs) (h1 : Hs s.heap)
    (k : ∀ h', IsEnum h' (s.heap.objs.size + 1) s.heap.objs.size 0 .none → h'.get? s.heap.objs.size = some o → (∀ b u, s.heap.get? b = some u → h'.get? b = some u) → Q (.ref (s.heap.objs.size + 1)) { s with heap := h' }) :
    wpAny (model P w) A (call (.type "enumerate") [v]) Q E s := by
  refine callType_new F.called_enumerate (by decide) (F.typeCall_enumerate_1 _) (F.newCall_enumerate_1 _) (fun ob => F.args_object_init_2 ob _) F.entry_enumerate_new (meets_enumB B) ⟨h1, ?_⟩
  have z : (s.heap.push o).objs.size = s.heap.objs.size + 1 := Heap.size_push ..
  have e : IsEnum ((s.heap.push o).push { cls := .type "enumerate", data := .fields #[.none, .bool false, .ref s.heap.objs.size, rawInt 0, .none, .none] }) (s.heap.objs.size + 1) s.heap.objs.size 0 .none := by
    rw [← z]
    exact Heap.get?_push_size _ rfl
  show _ ∧ _
  rw [z]
  exact ⟨⟨_, e, rfl⟩, k _ e (Heap.get?_push_of_some _ (Heap.get?_push_size _ B.free)) fun b u x => Heap.get?_push_of_some _ (Heap.get?_push_of_some _ x)⟩
end
/-- a pair handed out at each turn -/
def YF (f : Nat → Hp → V → V → Prop) : Nat → Hp → V → Hp → Prop := fun i H v H' => ∃ T x y o, v = .ref T ∧ H T = none ∧ Obj.dict o = none ∧ H' = upd H T (.frz o (.tup [x, y])) ∧ f i H x y
def fEn (K : PySem.W.Frag) (b : Bool) (a : Addr) : Nat → Hp → V → V → Prop := fun i H x y => x = .int (i : Nat) ∧ ∀ xs, SqX K b H a xs → xs[i]? = some y
def ItEn (K : PySem.W.Frag) (b : Bool) (a : Addr) : It :=
  ⟨fun i H => ∃ xs x, SqX K b H a xs ∧ xs[i]? = some x, YF (fEn K b a), fun i H => ∃ xs : List V, SqX K b H a xs ∧ xs.length ≤ i⟩
/-- the pair is laid -/
theorem pair_laid {X : Cx} {pins : List (Addr × Obj)} {σ : L2.St} {H : Hp} {s : Shared} {h' : Heap} {t' : Nat} {ch : List Addr} {x y : V} {u1 u2 : Value} (I : Inv X pins σ H s) (k : ∀ b o, b ∉ ch → s.heap.get? b = some o → h'.get? b = some o) (hf : ∀ b ∈ ch, FpOk X pins H b)
    (e : h'.get? s.heap.objs.size = some { cls := .type "tuple", data := .seq #[u1, u2] }) (r1 : RelV x u1) (r2 : RelV y u2) :
    Inv X pins σ (upd H s.heap.objs.size (.frz { cls := .type "tuple", data := .seq #[u1, u2] } (.tup [x, y]))) { s with heap := h', toks := t' } :=
  I.turnedNew k hf (Nat.le_refl _) ⟨e, (by show 2 ≤ sizeLine; decide), [u1, u2], .cons r1 (.cons r2 .nil), _, e, rfl, _, rfl⟩
theorem turn_en {P : Program} {w : World} {K : PySem.W.Frag} {elts : List Expr} {kk : Nat} {tpos : Pos} (b : Bool) (a e j : Addr) :
    Turn P w K (.Tuple elts kk tpos) (ItEn K b a) [e, j] e (fun i h => (∃ old, IsEnum h e j ((i : Nat) : Int) old) ∧ ItX b h j a i ∧ e ≠ j) where
  mem := by simp
  obj := fun i h st c hc => by
    obtain ⟨⟨old, he⟩, hj, _⟩ := st
    have z : c = e ∨ c = j := by simpa using hc
    rcases z with rfl | rfl
    · exact ⟨_, he, fun v q => nomatch q⟩
    · obtain ⟨o, vs, q1, q2⟩ := itX_obj hj
      exact ⟨o, q1, fun v q => by rw [q2] at q; cases q⟩
  keep := fun i h h' st k => ⟨st.1.imp fun old x => k e (by simp) _ x, itX_at st.2.1 fun o x => k j (by simp) o x, st.2.2⟩
  item := by
    intro X eP ew eK calm i pins s σ H E I fp st go
    subst eP ew eK
    obtain ⟨⟨old, he⟩, hj, ne⟩ := st
    obtain ⟨xs, x, hq, hx⟩ := go
    obtain ⟨its, rv, p⟩ := inv_sq I hq
    obtain ⟨u, hu, ru⟩ := rv.get hx
    obtain ⟨oj, vj, j1, j2⟩ := itX_obj hj
    obtain ⟨oa, na, a1, a2⟩ := inX_obj p
    have naj : a ≠ j := fun z => by rw [z, j1] at a1; cases a1; rw [j2] at a2; cases a2
    have nae : e ≠ a := fun z => by
      rw [← z] at a1
      have he' : s.heap.get? e = _ := he
      rw [he'] at a1; cases a1; cases a2
    have D := draws_x (P := X.prog) (w := X.w) (A := X.A.in1) b (I.ok.hd calm) naj its.toArray
    have le : e < s.heap.objs.size := Heap.lt_size he
    have lj : j < s.heap.objs.size := Heap.lt_size j1
    have hlt : i < its.toArray.size := by
      obtain ⟨h, _⟩ := List.getElem?_eq_some_iff.mp hu
      simpa using h
    refine wpAny_pyNext_enum_itemD D he ⟨hj, p⟩ hlt ne (by simp [ne, nae]) fun y h1 tk hy hout hst ht hsz hk => ?_
    have ey : y = u := by
      rw [List.getElem?_toArray, hu] at hy
      exact (Option.some.inj hy).symm
    subst ey
    refine ⟨_, rfl, wpAny_letOwnedTupleGo_enum (s := { s with heap := h1, toks := tk + 1 }) hout fun h2 he2 sb => ?_⟩
    have ht2 : h2.get? s.heap.objs.size = some { cls := .type "tuple", data := .seq #[.int i tk, y] } := (sb.2 _ (Nat.ne_of_gt le)).trans ht
    have I2 := pair_laid (t' := tk + 1) (x := .int ((i : Nat) : Int)) I (ch := [e, j]) (fun c o hc q => (sb.2 c fun z => hc (by simp [z])).trans (hk c o (fun z => hc (by simp [z])) (fun z => hc (by simp [z])) q)) fp ht2 ⟨_, rfl⟩ ru
    refine ⟨.ref s.heap.objs.size, _, I2, rfl, ⟨_, _, _, _, rfl, I.hok.fresh (Nat.le_refl _), rfl, rfl, rfl, fun ys hy => by rw [sq_one I hy hq]; exact hx⟩, ⟨⟨y, ?_⟩, itX_at hst.1 fun o q => (sb.2 j (Ne.symm ne)).trans q, ne⟩, fun c hc => ?_⟩
    · have e1 : ((i + 1 : Nat) : Int) = (i : Int) + 1 := rfl
      rw [e1]; exact he2
    · have lc : c < s.heap.objs.size := by
        have z : c = e ∨ c = j := by simpa using hc
        rcases z with z | z <;> rw [z]
        · exact le
        · exact lj
      rw [upd_ne (Nat.ne_of_lt lc)]
      exact (fp c hc).1
  done := by
    intro X eP ew eK calm i pins s σ H E I fp st go
    subst eP ew eK
    obtain ⟨⟨old, he⟩, hj, ne⟩ := st
    obtain ⟨xs, hq, hl⟩ := go
    obtain ⟨its, rv, p⟩ := inv_sq I hq
    obtain ⟨oj, vj, j1, j2⟩ := itX_obj hj
    obtain ⟨oa, na, a1, a2⟩ := inX_obj p
    have naj : a ≠ j := fun z => by rw [z, j1] at a1; cases a1; rw [j2] at a2; cases a2
    obtain ⟨f0, f1, f2, f3, f4, f5⟩ := fp j (by simp)
    have hx : its.toArray[i]? = none := by
      rw [List.getElem?_toArray]
      exact List.getElem?_eq_none (by rw [← rv.length]; exact hl)
    have D := draws_end (P := X.prog) (w := X.w) (A := X.A.in1) (j := j) (a := a) b (I.ok.hd calm) i hx
    exact wpAny_pyNext_enum_endD D he ⟨rfl, hj, p⟩ fun h1 eb => ⟨rfl, I.turned (t' := s.toks) (fun c o hc q => eb c o hc q) f0 f1 f3 f4 f5⟩
  self := fun A i s Q E st h => by
    obtain ⟨⟨old, he⟩, _⟩ := st
    exact wpAny_pyIter_enum he h
/-- enumerate(list), enumerate(tuple) -/
theorem pi_en {X : Cx} {e : Expr} {ta : TA} {p pos tpos : Pos} {elts : List Expr} {kk : Nat} (b : Bool) (hg : Gl X "enumerate") (hm : X.mg "enumerate" = none) (ha : PA X [e] ta) (hs : starEach [e] X.env = [(false, eval e X.env)] := by rfl) :
    PI X (.Tuple elts kk tpos) (.Call (.Name "enumerate" p) [e] [] pos) (fun σ H R => ta σ H fun vs H1 => ∃ a xs, vs = [.ref a] ∧ SqX X.K b H1 a xs ∧ R (ItEn X.K b a) H1) := by
  refine ⟨fun pins s σ H R I h => ?_⟩
  refine Call_ (ld_blt I hg hm boot_enumerate (PyProof.Rows.callWith_type1 (thn (ha.run pos pins s σ H _ I h) fun us s1 ⟨vs, H1, I1, r1, q1⟩ => ?_) hs rfl))
  obtain ⟨a, xs, ex, hq, q⟩ := q1
  subst ex
  rw [Vals.ref1 r1]
  obtain ⟨its, rv, p'⟩ := inv_sq I1 hq
  refine enum_one (begins_x b a its.toArray) p' fun h1 he ho hk => wpAny_pyIter_enum he ?_
  have I2 : Inv X pins σ H1 { s1 with heap := h1 } := I1.kept (t' := s1.toks) hk
  refine ⟨s1.heap.objs.size + 1, [s1.heap.objs.size + 1, s1.heap.objs.size], _, _, H1, rfl, I2, turn_en b a (s1.heap.objs.size + 1) s1.heap.objs.size, ⟨⟨.none, he⟩, itX_new ho, Nat.succ_ne_self _⟩, fun c hc => ?_, q⟩
  have le : s1.heap.objs.size ≤ c := by
    have z : c = s1.heap.objs.size + 1 ∨ c = s1.heap.objs.size := by simpa using hc
    rcases z with z | z <;> rw [z]
    · exact Nat.le_add_right _ _
    · exact Nat.le_refl _
  exact I1.fpOk le (I1.hok.fresh le)
/-- zip of two lists -/
def fZi (K : PySem.W.Frag) (a b : Addr) : Nat → Hp → V → V → Prop := fun i H x y => (∀ xs, SqL K H a xs → xs[i]? = some x) ∧ ∀ ys, SqL K H b ys → ys[i]? = some y
def ItZi (K : PySem.W.Frag) (a b : Addr) : It :=
  ⟨fun i H => ∃ (xs ys : List V) (x y : V), SqL K H a xs ∧ SqL K H b ys ∧ xs[i]? = some x ∧ ys[i]? = some y, YF (fZi K a b),
    fun i H => ∃ xs ys : List V, SqL K H a xs ∧ SqL K H b ys ∧ (xs.length ≤ i ∨ ys.length ≤ i)⟩
theorem turn_zi {P : Program} {w : World} {K : PySem.W.Frag} {elts : List Expr} {kk : Nat} {tpos : Pos} {a b z TI TO j1 j2 : Addr} (D : ZipApart z TI TO j1 j2 a b) :
    Turn P w K (.Tuple elts kk tpos) (ItZi K a b) [z, TI, TO, j1, j2] z (fun i h => IsZip h z TI TO .none ∧ IsPair h TI (.ref j1) (.ref j2) ∧ (∃ x y, IsPair h TO x y) ∧ h.IsListIter j1 a i ∧ h.IsListIter j2 b i) := by
  have T0 : Turn P w K (.Tuple elts kk tpos) (Itz K a b) [z, TI, TO, j1, j2] z _ := turn_zip D
  refine ⟨T0.mem, T0.obj, T0.keep, ?_, fun X eP ew eK calm i pins s σ H E I fp st go => T0.done X eP ew eK calm i pins s σ H E I fp st go, T0.self⟩
  intro X eP ew eK calm i pins s σ H E I fp st go
  subst eP ew eK
  obtain ⟨sz, sTI, ⟨x0, y0, sTO⟩, s1, s2⟩ := st
  obtain ⟨xs, ys, x, y, qx, qy, hx, hy⟩ := go
  obtain ⟨us, ru, pu, _⟩ := I.list qx
  obtain ⟨vs, rv, pv, _⟩ := I.list qy
  obtain ⟨u, eu, r1⟩ := ru.get hx
  obtain ⟨v, ev, r2⟩ := rv.get hy
  have lz : z < s.heap.objs.size := Heap.lt_size sz
  refine wpAny_pyNext_zip_item D sz sTI sTO s1 s2 pu.isList pv.isList (x := u) (y := v) (by simpa using eu) (by simpa using ev) fun h1 z1 TO1 t1 t2 hT hsz hk => ?_
  refine ⟨_, rfl, wpAny_letOwnedTupleGo_zip (s := { s with heap := h1 }) z1 fun h2 z2 sb => ?_⟩
  have hT2 : h2.get? s.heap.objs.size = some { cls := .type "tuple", data := .seq #[u, v] } := (sb.2 _ (Nat.ne_of_gt lz)).trans hT
  have I2 := pair_laid (t' := s.toks) I (ch := [z, TI, TO, j1, j2]) (fun c o hc q => (sb.2 c fun w => hc (by simp [w])).trans (hk c o (fun w => hc (by simp [w])) (fun w => hc (by simp [w])) (fun w => hc (by simp [w])) (fun w => hc (by simp [w])) q)) fp hT2 r1 r2
  refine ⟨.ref s.heap.objs.size, _, I2, rfl, ⟨_, _, _, _, rfl, I.hok.fresh (Nat.le_refl _), rfl, rfl, fun l hl => by rw [I.list_inj hl qx]; exact hx, fun l hl => by rw [I.list_inj hl qy]; exact hy⟩, ⟨z2, ?_, ⟨u, v, ?_⟩, ?_, ?_⟩, fun c hcm => ?_⟩
  · exact (sb.2 _ D.TIz).trans (hk _ _ D.TIz D.TITO D.TIi1 D.TIi2 sTI)
  · exact (sb.2 _ D.TOz).trans TO1
  · exact t1.at fun o q => (sb.2 _ D.i1z).trans q
  · exact t2.at fun o q => (sb.2 _ D.i2z).trans q
  · have lc : c < s.heap.objs.size := by
      have w : c = z ∨ c = TI ∨ c = TO ∨ c = j1 ∨ c = j2 := by simpa using hcm
      rcases w with w | w | w | w | w <;> rw [w]
      · exact lz
      · exact Heap.lt_size sTI
      · exact Heap.lt_size sTO
      · obtain ⟨_, e1, _⟩ := s1; exact Heap.lt_size e1
      · obtain ⟨_, e2, _⟩ := s2; exact Heap.lt_size e2
    rw [upd_ne (Nat.ne_of_lt lc)]
    exact (fp c hcm).1
theorem pi_zi {X : Cx} {e e2 : Expr} {ta : TA} {p pos tpos : Pos} {elts : List Expr} {kk : Nat} (hg : Gl X "zip") (hm : X.mg "zip" = none) (ha : PA X [e, e2] ta)
    (hs : starEach [e, e2] X.env = (false, eval e X.env) :: starEach [e2] X.env := by rfl) (hpl : (backTo pos (starEach [e2] X.env)).any (·.1) = false := by rfl) :
    PI X (.Tuple elts kk tpos) (.Call (.Name "zip" p) [e, e2] [] pos) (fun σ H R => ta σ H fun vs H1 => ∃ a b xs ys, vs = [.ref a, .ref b] ∧ SqL X.K H1 a xs ∧ SqL X.K H1 b ys ∧ R (ItZi X.K a b) H1) := by
  refine ⟨fun pins s σ H R I h => ?_⟩
  refine Call_ (ld_blt I hg hm PyProof.Rows.boot_zip (PyProof.Rows.callWith_type1 (thn (ha.run pos pins s σ H _ I h) fun us s1 ⟨vs, H1, I1, r1, q1⟩ => ?_) hs hpl))
  obtain ⟨a, b, xs, ys, ex, hqx, hqy, q⟩ := q1
  subst ex
  obtain ⟨u, v, eu, ra, rb⟩ := vals2 r1
  subst eu
  cases ra
  cases rb
  obtain ⟨its, rv, p1, _⟩ := I1.list hqx
  obtain ⟨its2, rv2, p2, _⟩ := I1.list hqy
  refine call_zip_2 p1.isList p2.isList fun h1 hz hTI hTO t1 t2 hsz hk => wpAny_pyIter_zip hz ?_
  have I2 : Inv X pins σ H1 { s1 with heap := h1 } := I1.kept (t' := s1.toks) hk
  refine ⟨s1.heap.objs.size + 4, [s1.heap.objs.size + 4, s1.heap.objs.size + 2, s1.heap.objs.size + 3, s1.heap.objs.size, s1.heap.objs.size + 1], _, _, H1, rfl, I2, turn_zi (PySem.W.ktu_apart s1.heap.objs.size a b p1.lt p2.lt), ⟨hz, hTI, ⟨_, _, hTO⟩, t1, t2⟩, fun c hcm => ?_, q⟩
  have w : c = s1.heap.objs.size + 4 ∨ c = s1.heap.objs.size + 2 ∨ c = s1.heap.objs.size + 3 ∨ c = s1.heap.objs.size ∨ c = s1.heap.objs.size + 1 := by simpa using hcm
  have le : s1.heap.objs.size ≤ c := by
    rcases w with w | w | w | w | w <;> rw [w]
    · exact Nat.le_add_right _ _
    · exact Nat.le_add_right _ _
    · exact Nat.le_add_right _ _
    · exact Nat.le_refl _
    · exact Nat.le_add_right _ _
  exact I1.fpOk le (I1.hok.fresh le)
/-! over data -/
section
variable {Γ : Gm} {X : Cx} {W : WX} {pos : Pos}
def enuD (i : Nat) : List D → List D
  | [] => []
  | d :: ds => .tuple [.int (i : Nat), d] :: enuD (i + 1) ds
def zipD : List D → List D → List D
  | d :: ds, e :: es => .tuple [d, e] :: zipD ds es
  | _, _ => []
theorem enuD_len : ∀ (ds : List D) (i : Nat), (enuD i ds).length = ds.length
  | [], _ => rfl
  | d :: ds, i => by simp [enuD, enuD_len ds]
theorem enuD_get : ∀ (ds : List D) (i k : Nat) (d : D), (enuD i ds)[k]? = some d → ∃ e, ds[k]? = some e ∧ d = .tuple [.int ((i + k : Nat) : Int), e]
  | [], i, k, d, h => by simp [enuD] at h
  | e :: ds, i, 0, d, h => by
    simp only [enuD, List.getElem?_cons_zero, Option.some.injEq] at h
    exact ⟨e, rfl, h.symm⟩
  | e :: ds, i, k + 1, d, h => by
    simp only [enuD, List.getElem?_cons_succ] at h
    obtain ⟨e', h1, h2⟩ := enuD_get ds (i + 1) k d h
    exact ⟨e', by simpa using h1, by rw [h2]; congr 3; omega⟩
theorem zipD_len : ∀ (ds es : List D), (zipD ds es).length = min ds.length es.length
  | [], _ => by simp [zipD]
  | _ :: _, [] => by simp [zipD]
  | d :: ds, e :: es => by simp [zipD, zipD_len ds es]
theorem zipD_get : ∀ (ds es : List D) (k : Nat) (d : D), (zipD ds es)[k]? = some d → ∃ x y, ds[k]? = some x ∧ es[k]? = some y ∧ d = .tuple [x, y]
  | [], _, k, d, h => by simp [zipD] at h
  | _ :: _, [], k, d, h => by simp [zipD] at h
  | x :: ds, y :: es, 0, d, h => by
    simp only [zipD, List.getElem?_cons_zero, Option.some.injEq] at h
    exact ⟨x, y, rfl, rfl, h.symm⟩
  | x :: ds, y :: es, k + 1, d, h => by
    simp only [zipD, List.getElem?_cons_succ] at h
    simpa using zipD_get ds es k d h
theorem sqX_mono {K : PySem.W.Frag} {F F' : Hp} {b : Bool} {a : Addr} {xs : List V} (h : ∀ a o, F a = some o → F' a = some o) (r : SqX K b F a xs) : SqX K b F' a xs := by
  cases b
  · exact sqL_mono h r
  · exact sqT_mono h r
/-- the pair that is handed out is data -/
theorem pair_data {K : PySem.W.Frag} {F H : Hp} {f : Nat → Hp → V → V → Prop} {i : Nat} {v : V} {H' : Hp} {d e : D} (fs : FS F H) (y : YF f i H v H') (hf : ∀ x z, f i H x z → Rp K F d x ∧ Rp K F e z) : ∃ F'', Add F H F'' H' ∧ Rp K F'' (.tuple [d, e]) v := by
  obtain ⟨T, x, z, o, rfl, hT, hd, rfl, q⟩ := y
  obtain ⟨r1, r2⟩ := hf x z q
  have A := Add.new (o := .frz o (.tup [x, z])) fs hT (by intro ps z; cases z)
  exact ⟨_, A, .tup ⟨o, upd_same, hd⟩ (.cons (r1.mono A.fF) (.cons (r2.mono A.fF) .nil))⟩
theorem walk_en {F : Hp} {a : Addr} {xs : List V} {ds : List D} (b : Bool) (e : SqX X.K b F a xs) (r : RpA X.K F ds xs) : WalkD X.K (ItEn X.K b a) (enuD 0 ds) F := by
  intro i H' F' m fs
  have q : SqX X.K b H' a xs := sqX_mono (fun c o h => (fs _ _ (m _ _ h)).1) e
  refine ⟨fun d hd => ?_, fun hl => ⟨xs, q, by rw [← r.length, ← enuD_len ds 0]; exact hl⟩⟩
  obtain ⟨x, hx, rfl⟩ := enuD_get ds 0 i d hd
  obtain ⟨v, hv, rv⟩ := r.get hx
  refine ⟨⟨xs, v, q, hv⟩, fun y H'' hy => ?_⟩
  refine pair_data fs (show YF (fEn X.K b a) i H' y H'' from hy) fun x1 z1 hz => ?_
  obtain ⟨rfl, hz⟩ := hz
  have := hz xs q
  rw [hv] at this
  cases this
  rw [Nat.zero_add]
  exact ⟨.int _, rv.mono m⟩
theorem walk_zi {F : Hp} {a b : Addr} {xs ys : List V} {ds es : List D} (e1 : SqL X.K F a xs) (e2 : SqL X.K F b ys) (r1 : RpA X.K F ds xs) (r2 : RpA X.K F es ys) : WalkD X.K (ItZi X.K a b) (zipD ds es) F := by
  intro i H' F' m fs
  have q1 : SqL X.K H' a xs := sqL_mono (fun c o h => (fs _ _ (m _ _ h)).1) e1
  have q2 : SqL X.K H' b ys := sqL_mono (fun c o h => (fs _ _ (m _ _ h)).1) e2
  refine ⟨fun d hd => ?_, fun hl => ⟨xs, ys, q1, q2, by rw [← r1.length, ← r2.length]; rw [zipD_len] at hl; omega⟩⟩
  obtain ⟨x, y, hx, hy, rfl⟩ := zipD_get ds es i d hd
  obtain ⟨v1, hv1, rv1⟩ := r1.get hx
  obtain ⟨v2, hv2, rv2⟩ := r2.get hy
  refine ⟨⟨xs, ys, v1, v2, q1, q2, hv1, hv2⟩, fun v H'' hv => ?_⟩
  refine pair_data fs (show YF (fZi X.K a b) i H' v H'' from hv) fun x1 z1 hz => ?_
  obtain ⟨h1, h2⟩ := hz
  have h1 := h1 xs q1
  have h2 := h2 ys q2
  rw [hv1] at h1
  rw [hv2] at h2
  cases h1
  cases h2
  exact ⟨rv1.mono m, rv2.mono m⟩
/-- what can be walked -/
def enuM (f : M D) : M (List D) := f.bind fun d => match d with
  | .list ds => M.ret (enuD 0 ds)
  | .tuple ds => M.ret (enuD 0 ds)
  | _ => M.fail
def zipM (f g : M D) : M (List D) := f.bind fun d => g.bind fun e => match d, e with
  | .list ds, .list es => M.ret (zipD ds es)
  | _, _ => M.fail
theorem PI.eor {X : Cx} {tg iter : Expr} {w w' : TI} (h : PI X tg iter w) (h' : PI X tg iter w') : PI X tg iter (fun σ H R => w σ H R ∨ w' σ H R) := PI.or h h'
theorem ei_enu {elts : List Expr} {kk : Nat} {tpos p : Pos} {e : Expr} {fe : M D} (he : EV Γ X W e fe) (hm : X.mg "enumerate" = none) (hg : Gl X "enumerate" := by rfl) (hs : starEach [e] X.env = [(false, eval e X.env)] := by rfl) :
    EI Γ X W (.Tuple elts kk tpos) (.Call (.Name "enumerate" p) [e] [] pos) (enuM fe) := by
  have pa : PA X [e] _ := (el_cons he el_nil hs).pa
  refine ⟨PI.imp (PI.or (pi_en false hg hm pa hs) (pi_en true hg hm pa hs)) fun σ H R ⟨st, F, S, q⟩ => ?_⟩
  have q0 := q
  unfold enuM M.bind at q0
  have key : ∀ (b : Bool) (ds : List D) (st1 : List Sl) (dv : D), fe st = .ok dv st1 → (∀ (F1 : Hp) v, Rp X.K F1 dv v → ∃ a xs, v = .ref a ∧ SqX X.K b F1 a xs ∧ RpA X.K F1 ds xs) → fin Γ X.K W (rW X.K) F st σ H (.ok (enuD 0 ds) st1) R →
      rd Γ X.K W (fun _ F' _ d v => RpA X.K F' d v) (mCons fe mNil) σ H fun vs H1 => ∃ a xs, vs = [.ref a] ∧ SqX X.K b H1 a xs ∧ R (ItEn X.K b a) H1 := fun b ds st1 dv ef hsq q1 => by
    refine ⟨st, F, S, ?_⟩
    have em : mCons fe mNil st = .ok [dv] st1 := by
      unfold mCons mNil M.bind M.ret
      rw [ef]
    rw [em]
    intro vs H1 F1 S1 G r
    have r : RpA X.K F1 [dv] vs := r
    cases r with
    | cons r1 r2 =>
      cases r2
      obtain ⟨a, xs, ev, hq, hr⟩ := hsq F1 _ r1
      exact ⟨a, xs, by rw [ev], sqX_mono S1.sub1 hq, q1 _ _ F1 S1 G (walk_en b hq hr)⟩
  cases hf : fe st with
  | ok d st1 =>
    rw [hf] at q0
    cases d with
    | list ds =>
      refine .inl (key false ds st1 _ hf (fun F1 v r => ?_) q0)
      cases r with
      | lst e1 r1 => exact ⟨_, _, rfl, .inl (.inl e1), r1⟩
    | tuple ds =>
      refine .inr (key true ds st1 _ hf (fun F1 v r => ?_) q0)
      cases r with
      | tup e1 r1 => exact ⟨_, _, rfl, e1.sq, r1⟩
    | _ => exact q0.elim
  | ex x st1 =>
    rw [hf] at q0
    refine .inl ⟨st, F, S, ?_⟩
    have em : mCons fe mNil st = .ex x st1 := by
      unfold mCons mNil M.bind M.ret
      rw [hf]
    rw [em]
    exact q0
  | no =>
    rw [hf] at q0
    exact q0.elim
theorem ei_zip {elts : List Expr} {kk : Nat} {tpos p : Pos} {a b : Expr} {fa fb : M D} (ha : EV Γ X W a fa) (hb : EV Γ X W b fb) (hm : X.mg "zip" = none) (hg : Gl X "zip" := by rfl) (hs : starEach [a, b] X.env = (false, eval a X.env) :: starEach [b] X.env := by rfl) (hs2 : starEach [b] X.env = [(false, eval b X.env)] := by rfl)
    (hpl : (backTo pos (starEach [b] X.env)).any (·.1) = false := by rfl) : EI Γ X W (.Tuple elts kk tpos) (.Call (.Name "zip" p) [a, b] [] pos) (zipM fa fb) := by
  refine ⟨PI.imp (pi_zi hg hm (el_cons ha (el_cons hb el_nil hs2) hs).pa hs hpl) fun σ H R ⟨st, F, S, h⟩ => ?_⟩
  have h' : fin Γ X.K W (rW X.K) F st σ H (((mCons fa (mCons fb mNil)).bind fun ds => match ds with | [.list ds, .list es] => M.ret (zipD ds es) | _ => M.fail) st) R := by
    have e : ((mCons fa (mCons fb mNil)).bind fun ds => match ds with | [.list ds, .list es] => M.ret (zipD ds es) | _ => M.fail) st = zipM fa fb st := by
      unfold zipM mCons mNil M.bind M.ret
      cases fa st with
      | ok d st1 =>
        simp only
        cases fb st1 with
        | ok e st2 => cases d <;> cases e <;> rfl
        | ex _ _ => rfl
        | no => rfl
      | ex _ _ => rfl
      | no => rfl
    rw [e]; exact h
  refine fin_bind rW_mono S h' fun ds st1 vs H1 F1 S1 G r h1 => ?_
  split at h1
  · rename_i xs ys
    cases (show RpA X.K F1 [.list xs, .list ys] vs from r) with
    | cons r1 r2 =>
      cases r1 with
      | lst e1 q1 =>
        cases r2 with
        | cons r3 r4 =>
          cases r3 with
          | lst e2 q2 =>
            cases r4
            exact ⟨_, _, _, _, rfl, .inl (.inl (S1.sub1 _ _ e1)), .inl (.inl (S1.sub1 _ _ e2)), fin_ret S1 h1 (walk_zi (.inl (.inl e1)) (.inl (.inl e2)) q1 q2)⟩
  · exact h1.elim
end
end Sk
set_option maxHeartbeats 1000000
/-! more built-ins: list(range), min and max of numbers, divmod, range with a step -/
namespace Sk
open PySem PySem.Spec PyProof.Rows L2
open PySem.W (AlikeAll min_list_data min_tuple_data max_list_data max_tuple_data min_list_default minD_ints maxD_ints)
section
variable {Γ : Gm} {X : Cx} {W : WX} {pos : Pos} {K : PySem.W.Frag}
/-! list(range(n)) -/
def dLstRg : D → Option D
  | .int n => chk (-1000000 ≤ n ∧ n ≤ 1000000) (.list (rngL 0 n.toNat))
  | _ => none
theorem rpA_rng {F : Hp} (lo : Int) (n : Nat) : RpA K F (rngL lo n) ((List.range n).map fun i => V.int (lo + (i : Nat))) := by
  have h := rpA_ints (K := K) (F := F) ((List.range n).map fun i : Nat => lo + (i : Int))
  rw [List.map_map, List.map_map] at h
  exact h
theorem en_lstRg {p p2 pos2 : Pos} {a : Expr} {fe : M D} (hc : X.calm = true) (ha : EV Γ X W a fe) (hm : X.mg "list" = none) (hm2 : X.mg "range" = none) (hg : Gl X "list" := by rfl) (hg2 : Gl X "range" := by rfl)
    (na : starEach [a] X.env = (false, eval a X.env) :: starEach [] X.env := by rfl) (nb : starEach [.Call (.Name "range" p2) [a] [] pos2] X.env = (false, eval (.Call (.Name "range" p2) [a] [] pos2) X.env) :: starEach [] X.env := by rfl) :
    EN Γ X W (.Call (.Name "list" p) [.Call (.Name "range" p2) [a] [] pos2] [] pos) (fe.bind fun d => M.opt (dLstRg d)) := by
  refine ⟨PE.imp (pe_listRg hc hg hm (prg_1 hg2 hm2 ha.pe na) nb) fun σ H Q ⟨st, F, S, h⟩ => fin_bind rN_mono S h fun d st1 v H1 F1 S1 G r q => ?_⟩
  cases hd : dLstRg d with
  | none => rw [hd] at q; exact q.elim
  | some z =>
    rw [hd] at q
    unfold dLstRg at hd
    split at hd
    · rename_i n
      obtain ⟨⟨c1, c2⟩, rfl⟩ := chk_some hd
      cases (show Rp X.K F1 (.int n) v from r)
      refine ⟨n, rfl, ⟨by omega, by omega, by omega, by omega, by omega⟩, fun l hl => ?_⟩
      have e : (n - 0).toNat = n.toNat := by rw [Int.sub_zero]
      have rr : RpC X.K F1 (.list (rngL 0 n.toNat)) (.lst (rgV 0 n)) := .lst (by unfold rgV; rw [e]; exact rpA_rng 0 n.toNat)
      exact q _ _ _ (S1.new hl) (grow_new hl) ⟨l, _, rfl, .inl hl, S1.fnone hl, upd_same, rr⟩
    · cases hd
/-! min, max -/
def rMx (K : PySem.W.Frag) (f : Int → Int → Int) : List V → Hp → VK → Prop := fun vs H Q => ∃ (a : Addr) (n : Int) (ns : List Int), vs = [V.ref a] ∧ (SqL K H a ((n :: ns).map V.int) ∨ SqT K H a ((n :: ns).map V.int)) ∧ Q (.int (ns.foldl f n)) H
theorem alike_ints (ns : List Int) : AlikeAll (ns.map PyData.int) := by
  refine ⟨fun x hx y hy => ?_, fun x hx z => ?_⟩
  · obtain ⟨i, _, rfl⟩ := List.mem_map.mp hx
    obtain ⟨j, _, rfl⟩ := List.mem_map.mp hy
    rfl
  · obtain ⟨i, _, rfl⟩ := List.mem_map.mp hx
    cases z
theorem depth_ints : ∀ ns : List Int, PyData.depthAll (ns.map PyData.int) = 0
  | [] => rfl
  | n :: ns => by
    rw [List.map_cons, PyData.depthAll, depth_ints ns]
    rfl
theorem reads_ints {h : Heap} : ∀ {ns : List Int} {us : List Value}, Vals (ns.map V.int) us → ∃ as, ReadsAll h us (ns.map PyData.int) as
  | [], us, r => by
    cases r
    exact ⟨_, .nil⟩
  | n :: ns, us, r => by
    cases r with
    | cons r1 r2 =>
      obtain ⟨t, rfl⟩ := r1
      obtain ⟨as, h2⟩ := reads_ints r2
      exact ⟨_, .cons (.int n t) h2⟩
theorem reads_int {h : Heap} {v : Value} {i : Int} {as : List Addr} (r : Reads h v (.int i) as) : RelV (.int i) v := by
  cases r
  exact ⟨_, rfl⟩
theorem call_maxI (hc : X.calm = true) (hu : X.A.units + 64 < cLine) : CallR X (.builtin "max") (rMx X.K max) := by
  intro pins s σ H vs us Q I r h
  obtain ⟨a, n, ns, rfl, hs, q⟩ := h
  rw [Vals.ref1 r]
  have hu2 : X.A.units + 1 + PyData.depthAll (PyData.int n :: ns.map PyData.int) < cLine := by
    have := depth_ints (n :: ns)
    rw [List.map_cons] at this
    rw [this]
    omega
  rcases hs with hs | hs
  · obtain ⟨its, rv, p, _⟩ := I.list hs
    obtain ⟨as, ra⟩ := reads_ints (h := s.heap) rv
    refine max_list_data (I.ok.hd hc) p.isList (by simpa using ra) (alike_ints (n :: ns)) hu2 fun i v h' tk bs _ rd hk => ?_
    rw [maxD_ints] at rd
    exact ⟨_, H, I.kept hk, reads_int rd, q⟩
  · obtain ⟨its, rv, p, _⟩ := I.tuple hs
    obtain ⟨as, ra⟩ := reads_ints (h := s.heap) rv
    refine max_tuple_data (I.ok.hd hc) p (by simpa using ra) (alike_ints (n :: ns)) hu2 fun i v h' tk bs _ rd hk => ?_
    rw [maxD_ints] at rd
    exact ⟨_, H, I.kept hk, reads_int rd, q⟩
theorem call_minI (hc : X.calm = true) (hu : X.A.units + 64 < cLine) : CallR X (.builtin "min") (rMx X.K min) := by
  intro pins s σ H vs us Q I r h
  obtain ⟨a, n, ns, rfl, hs, q⟩ := h
  rw [Vals.ref1 r]
  have hu2 : X.A.units + 1 + PyData.depthAll (PyData.int n :: ns.map PyData.int) < cLine := by
    have := depth_ints (n :: ns)
    rw [List.map_cons] at this
    rw [this]
    omega
  rcases hs with hs | hs
  · obtain ⟨its, rv, p, _⟩ := I.list hs
    obtain ⟨as, ra⟩ := reads_ints (h := s.heap) rv
    refine min_list_data (I.ok.hd hc) p.isList (by simpa using ra) (alike_ints (n :: ns)) hu2 fun i v h' tk bs _ rd hk => ?_
    rw [minD_ints] at rd
    exact ⟨_, H, I.kept hk, reads_int rd, q⟩
  · obtain ⟨its, rv, p, _⟩ := I.tuple hs
    obtain ⟨as, ra⟩ := reads_ints (h := s.heap) rv
    refine min_tuple_data (I.ok.hd hc) p (by simpa using ra) (alike_ints (n :: ns)) hu2 fun i v h' tk bs _ rd hk => ?_
    rw [minD_ints] at rd
    exact ⟨_, H, I.kept hk, reads_int rd, q⟩
def mxOf (f : Int → Int → Int) (ds : List D) : Option D := match intsOf ds with
  | some (n :: ns) => some (.int (ns.foldl f n))
  | _ => none
def dMx (f : Int → Int → Int) : List D → Option D
  | [.list ds] => mxOf f ds
  | [.tuple ds] => mxOf f ds
  | _ => none
theorem mxOf_some {f : Int → Int → Int} {ds : List D} {z : D} (h : mxOf f ds = some z) : ∃ n ns, intsOf ds = some (n :: ns) ∧ z = .int (ns.foldl f n) := by
  unfold mxOf at h
  split at h
  · rename_i n ns e
    exact ⟨n, ns, e, (Option.some.inj h).symm⟩
  · cases h
theorem sA_mx (f : Int → Int → Int) : SA K (rMx K f) (dMx f) := by
  intro F H ds z xs Q hF r q k
  have hm : ∀ a o, F a = some o → H a = some o := fun a o e => (hF a o e).1
  unfold dMx at q
  split at q
  · obtain ⟨n, ns, e, rfl⟩ := mxOf_some q
    cases r with
    | cons r t =>
      cases t
      cases r with
      | lst sx qx =>
        have e2 := ints_of e qx
        subst e2
        exact ⟨_, n, ns, rfl, .inl (.inl (.inl sx)), k _ _ _ (Add.refl hF) (.int _)⟩
  · obtain ⟨n, ns, e, rfl⟩ := mxOf_some q
    cases r with
    | cons r t =>
      cases t
      cases r with
      | tup sx qx =>
        have e2 := ints_of e qx
        subst e2
        exact ⟨_, n, ns, rfl, .inr (sqT_mono hm sx.sq), k _ _ _ (Add.refl hF) (.int _)⟩
  · cases q
/-- min(xs, default=None) -/
def rMnN (K : PySem.W.Frag) : List V → List V → Hp → VK → Prop := fun vs zs H Q => ∃ (a : Addr) (ns : List Int), vs = [V.ref a] ∧ zs = [V.non] ∧ SqL K H a (ns.map V.int) ∧ match ns with
  | [] => Q .non H
  | n :: ns => Q (.int (ns.foldl min n)) H
theorem call_minN (hc : X.calm = true) (hu : X.A.units + 64 < cLine) : CallRK X (.builtin "min") [Str.ofString "default"] (rMnN X.K) := by
  intro pins s σ H vs zs us ws Q I r rz h
  obtain ⟨a, ns, rfl, rfl, hs, q⟩ := h
  rw [Vals.ref1 r]
  have ew : ws = [.none] := by
    cases rz with
    | cons r1 r2 =>
      cases r2
      cases r1
      rfl
  subst ew
  obtain ⟨its, rv, p, _⟩ := I.list hs
  obtain ⟨as, ra⟩ := reads_ints (h := s.heap) rv
  refine min_list_default (I.ok.hd hc) p.isList (by simpa using ra) (alike_ints ns) (by rw [depth_ints]; omega) (fun e h' tk hk => ?_) fun y ys i v h' tk bs e _ rd hk => ?_
  · have e1 : ns = [] := by simpa using e
    subst e1
    exact ⟨.non, H, I.kept hk, rfl, q⟩
  · cases ns with
    | nil => cases e
    | cons n ns =>
      rw [List.map_cons] at e
      cases e
      rw [minD_ints] at rd
      exact ⟨_, H, I.kept hk, reads_int rd, q⟩
def dMnN : D → Option D
  | .list ds => match intsOf ds with
    | some [] => some .none
    | some (n :: ns) => some (.int (ns.foldl min n))
    | none => none
  | _ => none
theorem ev_minN {p p2 kpos : Pos} {jj} {e : Expr} {f : M Op} (hc : X.calm = true) (hu : X.A.units + 64 < cLine) (hm : X.mg "min" = none) (ha : EO Γ X W e f) (hg : Gl X "min" := by rfl) (hv : bootBuiltins "min" = some (.builtin "min") := by rfl)
    (hs : starEach [e] X.env = (false, eval e X.env) :: starEach [] X.env := by rfl)
    (h1 : backTo pos (starEach [e] X.env) = (false, eval e X.env) :: backTo pos (starEach [] X.env) := by rfl) (h2 : (backTo pos (starEach [e] X.env)).any (·.1) = false := by rfl)
    (h3 : (backToKw pos (keywordEach [⟨some "default", .Constant .none jj p2, kpos⟩] X.env)).all (·.1.isSome) = true := by rfl) (h4 : (backToKw pos (keywordEach [⟨some "default", .Constant .none jj p2, kpos⟩] X.env)).any (·.1.isNone) = false := by rfl)
    (h5 : (backToKw pos (keywordEach [⟨some "default", .Constant .none jj p2, kpos⟩] X.env)).filterMap (·.1)  = ([Str.ofString "default"] : List Str) := by rfl) :
    EV Γ X W (.Call (.Name "min" p) [e] [⟨some "default", .Constant .none jj p2, kpos⟩] pos) (un1 dMnN f) := by
  refine ⟨PE.imp (pe_callBK (call_minN hc hu) hg hm hv (ea_cons ha ea_nil hs).pa (pk_cons pe_non pk_nil) (by decide) (by decide) h1 h2 h3 h4 h5) fun σ H Q ⟨st, F, S, h⟩ => ?_⟩
  have h' : fin Γ X.K W (rP X.K) F st σ H (((mCons f mNil).bind fun ops => match ops with | [x] => ap1 dMnN x | _ => M.fail) st) Q := by
    have e : ((mCons f mNil).bind fun ops => match ops with | [x] => ap1 dMnN x | _ => M.fail) st = un1 dMnN f st := by
      unfold un1 mCons mNil M.bind M.ret
      cases f st <;> rfl
    rw [e]; exact h
  refine fin_bind rP_mono S h' fun ops st1 vs H1 F1 S1 G r q => ?_
  have r : RpOs X.K F1 σ ops vs := r
  split at q
  · rename_i x
    cases r with
    | cons r1 r2 =>
      cases r2
      unfold ap1 at q
      split at q
      · rename_i d e1
        have rr := S1.look r1 e1
        cases hd : dMnN d with
        | none => rw [hd] at q; exact q.elim
        | some z =>
          rw [hd] at q
          unfold dMnN at hd
          split at hd
          · rename_i ds
            cases rr with
            | lst sx qx =>
              split at hd
              · rename_i e2
                cases hd
                have e3 := ints_of e2 qx
                subst e3
                exact ⟨_, [], rfl, rfl, .inl (.inl sx), fin_ret S1 q .non⟩
              · rename_i n ns e2
                cases hd
                have e3 := ints_of e2 qx
                subst e3
                exact ⟨_, n :: ns, rfl, rfl, .inl (.inl sx), fin_ret S1 q (.int _)⟩
              · cases hd
          · cases hd
      · exact q.elim
  · exact q.elim
/-! divmod -/
theorem call_dmF : CallR X (.builtin "divmod") (fun xs H Q => ∃ i j, xs = [.int i, .int j] ∧ CDivP i j ∧ NewT [.int (i / j), .int (i % j)] H Q) := by
  intro pins s σ H xs us Q I r h
  obtain ⟨i, j, rfl, ⟨h1, h2⟩, q⟩ := h
  obtain ⟨u, v, rfl, ⟨t, rfl⟩, ⟨t2, rfl⟩⟩ := vals2 r
  refine divmod_int (by omega) ?_ (.inl h2)
  rw [Int.fdiv_eq_ediv_of_nonneg i (by omega), Int.fmod_eq_emod_of_nonneg i (by omega)]
  exact new_tup (tk := s.toks + 1 + 1) I (vals := [.int (i / j) s.toks, .int (i % j) (s.toks + 1)]) (ws := [.int (i / j), .int (i % j)]) (.cons ⟨_, rfl⟩ (.cons ⟨_, rfl⟩ .nil)) (by simp [sizeLine_eq]) q
def dDvm : List D → Option D
  | [.int i, .int j] => chk (0 < j ∧ i.natAbs < 2 ^ 1000) (.tuple [.int (i / j), .int (i % j)])
  | _ => none
theorem sA_dvm : SA K (fun xs H Q => ∃ i j, xs = [.int i, .int j] ∧ CDivP i j ∧ NewT [.int (i / j), .int (i % j)] H Q) dDvm := by
  intro F H ds z xs Q hF r q k
  unfold dDvm at q
  split at q
  · rename_i i j
    obtain ⟨⟨c1, c2⟩, rfl⟩ := chk_some q
    cases r with
    | cons r t =>
      cases t with
      | cons r' t =>
        cases t
        cases r
        cases r'
        refine ⟨_, _, rfl, divp_ok c1 ?_, fun p ob hp nd => ?_⟩
        · have := PyProof.Rows.intBits_le c2
          omega
        · have A := Add.new (o := .frz ob (.tup [.int (i / j), .int (i % j)])) hF hp (by intro ps z; cases z)
          exact k _ _ _ A (.tup ⟨ob, upd_same, nd⟩ (.cons (.int _) (.cons (.int _) .nil)))
  · cases q
/-! range(i, j, c) -/
def rngC (lo c : Int) (n : Nat) : List D := (List.range n).map fun i => .int (lo + (i : Nat) * c)
theorem rngC_len {lo c : Int} {n : Nat} : (rngC lo c n).length = n := by simp [rngC]
theorem walk_c {F : Hp} {lo c : Int} {n : Nat} : WalkD X.K (Itc lo c n) (rngC lo c n) F := by
  intro i H' F' m fs
  refine ⟨fun d hd => ?_, fun hl => ?_⟩
  · unfold rngC at hd
    rw [List.getElem?_map] at hd
    cases e : (List.range n)[i]? with
    | none => rw [e] at hd; cases hd
    | some j =>
      rw [e] at hd
      cases hd
      obtain ⟨h1, h2⟩ := List.getElem?_eq_some_iff.mp e
      have h3 : i < n := by simpa using h1
      have h4 : j = i := by simpa using h2.symm
      subst h4
      refine ⟨h3, fun x H'' y => ?_⟩
      obtain ⟨rfl, rfl⟩ := y
      exact ⟨F', Add.refl fs, .int _⟩
  · rw [rngC_len] at hl
    exact hl
def rngN (i j c : Int) : Nat := (Builtin.Range.rangeSize i j c).toNat
def rng3M (f g h : M D) : M (List D) := f.bind fun d => g.bind fun e => h.bind fun c => match d, e, c with
  | .int i, .int j, .int c => if c ≠ 0 ∧ c.natAbs < 1073741824 ∧ Builtin.Range.small i j c = true ∧ 0 ≤ Builtin.Range.rangeSize i j c then M.ret (rngC i c (rngN i j c)) else M.fail
  | _, _, _ => M.fail
theorem ei_rng3 {tg a b c : Expr} {p : Pos} {fa fb fc : M D} (ha : EV Γ X W a fa) (hb : EV Γ X W b fb) (hcc : EV Γ X W c fc) (hm : X.mg "range" = none) (hg : Gl X "range" := by rfl) (hs : starEach [a, b, c] X.env = (false, eval a X.env) :: starEach [b, c] X.env := by rfl) (hs2 : starEach [b, c] X.env = (false, eval b X.env) :: starEach [c] X.env := by rfl)
    (hs3 : starEach [c] X.env = (false, eval c X.env) :: starEach [] X.env := by rfl) (hpl : (backTo pos (starEach [b, c] X.env)).any (·.1) = false := by rfl) : EI Γ X W tg (.Call (.Name "range" p) [a, b, c] [] pos) (rng3M fa fb fc) := by
  refine ⟨PI.imp (pi_range3 hg hm (el_cons ha (el_cons hb (el_cons hcc el_nil hs3) hs2) hs).pa hs hpl) fun σ H R ⟨st, F, S, h⟩ => ?_⟩
  have h' : fin Γ X.K W (rW X.K) F st σ H (((mCons fa (mCons fb (mCons fc mNil))).bind fun ds => match ds with | [.int i, .int j, .int c] => (if c ≠ 0 ∧ c.natAbs < 1073741824 ∧ Builtin.Range.small i j c = true ∧ 0 ≤ Builtin.Range.rangeSize i j c then M.ret (rngC i c (rngN i j c)) else M.fail) | _ => M.fail) st) R := by
    have e : ((mCons fa (mCons fb (mCons fc mNil))).bind fun ds => match ds with | [.int i, .int j, .int c] => (if c ≠ 0 ∧ c.natAbs < 1073741824 ∧ Builtin.Range.small i j c = true ∧ 0 ≤ Builtin.Range.rangeSize i j c then M.ret (rngC i c (rngN i j c)) else M.fail) | _ => M.fail) st = rng3M fa fb fc st := by
      unfold rng3M mCons mNil M.bind M.ret
      cases fa st with
      | ok d st1 =>
        simp only
        cases fb st1 with
        | ok e st2 =>
          simp only
          cases fc st2 with
          | ok u st3 => cases d <;> cases e <;> cases u <;> rfl
          | ex _ _ => rfl
          | no => rfl
        | ex _ _ => rfl
        | no => rfl
      | ex _ _ => rfl
      | no => rfl
    rw [e]; exact h
  refine fin_bind rW_mono S h' fun ds st1 vs H1 F1 S1 G r h1 => ?_
  split at h1
  · rename_i i j k
    split at h1
    · rename_i cnd
      cases (show RpA X.K F1 [.int i, .int j, .int k] vs from r) with
      | cons r1 r2 =>
        cases r1
        cases r2 with
        | cons r3 r4 =>
          cases r3
          cases r4 with
          | cons r5 r6 =>
            cases r5
            cases r6
            exact ⟨i, j, k, rngN i j k, rfl, ⟨cnd.1, cnd.2.1, cnd.2.2.1, by unfold rngN; omega⟩, fin_ret S1 h1 walk_c⟩
    · exact h1.elim
  · exact h1.elim
end
end Sk
set_option maxHeartbeats 1000000
/-! reckoning with the mirrors: walks of pairs, more built-ins -/
namespace Sk
open PySem PySem.Spec PyProof.Rows L2
def en1 (d : D) : M (List D) := match d with
  | .list ds => M.ret (enuD 0 ds)
  | .tuple ds => M.ret (enuD 0 ds)
  | _ => M.fail
theorem e_enuM {f : M D} {st : List Sl} : enuM f st = (f st).th en1 := Eq.trans rfl rfl
theorem en1_l {ds : List D} {st : List Sl} : en1 (.list ds) st = .ok (enuD 0 ds) st := Eq.trans rfl rfl
theorem en1_t {ds : List D} {st : List Sl} : en1 (.tuple ds) st = .ok (enuD 0 ds) st := Eq.trans rfl rfl
def zi1 (d e : D) : M (List D) := match d, e with
  | .list ds, .list es => M.ret (zipD ds es)
  | _, _ => M.fail
theorem e_zipM {f g : M D} {st : List Sl} : zipM f g st = (f st).th fun d => g.bind (zi1 d) := by
  unfold zipM M.bind Out.th
  cases f st <;> rfl
theorem zi1_l {ds es : List D} {st : List Sl} : zi1 (.list ds) (.list es) st = .ok (zipD ds es) st := Eq.trans rfl rfl
theorem ints_map : ∀ xs : List Int, intsOf (xs.map .int) = some xs
  | [] => rfl
  | x :: xs => by
    rw [List.map_cons]
    unfold intsOf
    rw [ints_map xs]
    rfl
/-- the least of some numbers, none of none -/
def minO : List Int → Option Int
  | [] => none
  | n :: ns => some (ns.foldl min n)
def encOI : Option Int → D
  | some i => .int i
  | none => .none
theorem dMnN_i (xs : List Int) : dMnN (.list (xs.map .int)) = some (encOI (minO xs)) := by
  unfold dMnN
  simp only
  rw [ints_map]
  cases xs <;> rfl
theorem dMx_l {f : Int → Int → Int} {n : Int} {ns : List Int} : dMx f [.list ((n :: ns).map .int)] = some (.int (ns.foldl f n)) := by
  unfold dMx mxOf
  simp only
  rw [ints_map]
theorem dMx_t {f : Int → Int → Int} {n : Int} {ns : List Int} : dMx f [.tuple ((n :: ns).map .int)] = some (.int (ns.foldl f n)) := by
  unfold dMx mxOf
  simp only
  rw [ints_map]
end Sk
namespace Sk
open PySem PySem.Spec PyProof.Rows L2
/-! loops by what holds at each turn -/
theorem asg_nm {i : Nat} {d : D} {st : List Sl} : asg (.nm i) d st = some (st.set i (.dat d)) := Eq.trans rfl rfl
theorem asg_tp {is : List Nat} {xs : List D} {st : List Sl} (h : xs.length = is.length) : asg (.tp is) (.tuple xs) st = some (put is (xs.map fun d => (false, d)) st) := if_pos h
def Goes (o : SOut) (st : List Sl) : Prop := o = .nx st ∨ o = .ct st
theorem for_inv {t : Tg} {body : MS} (S : List D → List Sl → Prop) (Post : SOut → Prop) (h0 : ∀ st, S [] st → Post (.nx st))
    (step : ∀ d ds st, S (d :: ds) st → ∃ st1, asg t d st = some st1 ∧ ((∃ st2, Goes (body st1) st2 ∧ S ds st2) ∨ (∃ st2, body st1 = .bk st2 ∧ Post (.nx st2)) ∨ ∃ v st2, body st1 = .rt v st2 ∧ Post (.rt v st2))) :
    ∀ {ds : List D} {st : List Sl}, S ds st → Post (forL t body [] ds st)
  | [], st, h => h0 st h
  | d :: ds, st, h => by
    obtain ⟨st1, e1, k⟩ := step d ds st h
    unfold forL
    rw [e1]
    simp only
    rcases k with ⟨st2, e2, h2⟩ | ⟨st2, e2, h2⟩ | ⟨v, st2, e2, h2⟩
    · rcases e2 with e2 | e2 <;> rw [e2] <;> exact for_inv S Post h0 step h2
    · rw [e2]; exact h2
    · rw [e2]; exact h2
/-- .. the loop that runs through -/
theorem for_all {t : Tg} {body : MS} (S : List D → List Sl → Prop) (step : ∀ d ds st, S (d :: ds) st → ∃ st1 st2, asg t d st = some st1 ∧ body st1 = .nx st2 ∧ S ds st2) {ds : List D} {st : List Sl} (h : S ds st) : ∃ st', forL t body [] ds st = .nx st' ∧ S [] st' :=
  for_inv S (fun o => ∃ st', o = .nx st' ∧ S [] st') (fun st h => ⟨st, rfl, h⟩) (fun d ds st h => by
    obtain ⟨st1, st2, e1, e2, h2⟩ := step d ds st h
    exact ⟨st1, e1, .inl ⟨st2, .inl e2, h2⟩⟩) h
theorem whl_inv {c : M Bool} {body : MS} (S : Nat → List Sl → Prop) (Post : SOut → Prop) (hno : Post .no → False)
    (step : ∀ m st, S m st → (∃ st1, c st = .ok false st1 ∧ Post (.nx st1)) ∨ ∃ st1, c st = .ok true st1 ∧ ((∃ st2, Goes (body st1) st2 ∧ ∃ m', m' < m ∧ S m' st2) ∨ (∃ st2, body st1 = .bk st2 ∧ Post (.nx st2)) ∨ ∃ v st2, body st1 = .rt v st2 ∧ Post (.rt v st2)))
    {m : Nat} {st : List Sl} (h : S m st) : Post (whlS c body [] st) := by
  have key : ∀ (m : Nat) (st : List Sl), S m st → ∃ n, isNo (whlL c body [] n st) = false ∧ Post (whlL c body [] n st) := by
    intro m
    induction m using Nat.strongRecOn with
    | ind m ih =>
      intro st h
      rcases step m st h with ⟨st1, e1, p⟩ | ⟨st1, e1, k⟩
      · refine ⟨1, ?_⟩
        unfold whlL
        rw [e1]
        exact ⟨rfl, p⟩
      · rcases k with ⟨st2, e2, m', l, h2⟩ | ⟨st2, e2, p⟩ | ⟨v, st2, e2, p⟩
        · obtain ⟨n, q1, q2⟩ := ih m' l st2 h2
          refine ⟨n + 1, ?_⟩
          unfold whlL
          rw [e1]
          rcases e2 with e2 | e2 <;> (simp only; rw [e2]; exact ⟨q1, q2⟩)
        · refine ⟨1, ?_⟩
          unfold whlL
          rw [e1]
          simp only
          rw [e2]
          exact ⟨rfl, p⟩
        · refine ⟨1, ?_⟩
          unfold whlL
          rw [e1]
          simp only
          rw [e2]
          exact ⟨rfl, p⟩
  obtain ⟨n, q1, q2⟩ := key m st h
  rw [whlS_eq n (by exact q1)]
  exact q2
/-! append, pop, store -/
def apd (i : Nat) (d : D) : M D := fun st => match st[i]? with
  | some (.own (.list xs)) => if xs.length < cap then .ok .none (st.set i (.own (.list (xs ++ [d])))) else .no
  | _ => .no
theorem e_appM {i : Nat} {f : M D} {st : List Sl} : appM i f st = if isOwnL st[i]? = true then (f st).th (apd i) else .no := by
  unfold appM
  split
  · unfold M.bind Out.th
    cases f st <;> rfl
  · rfl
theorem isOwnL_l {xs : List D} : isOwnL (some (.own (.list xs))) = true := Eq.trans rfl rfl
def apo (o : Option Sl) (i : Nat) (d : D) : M D := fun st => match o with
  | some (.own (.list xs)) => if xs.length < cap then .ok .none (st.set i (.own (.list (xs ++ [d])))) else .no
  | _ => .no
theorem e_apd {i : Nat} {d : D} {st : List Sl} : apd i d st = apo st[i]? i d st := by
  unfold apd apo
  cases st[i]? with
  | none => rfl
  | some s => cases s <;> rfl
theorem apo_l {i : Nat} {d : D} {st : List Sl} {xs : List D} : apo (some (.own (.list xs))) i d st = if xs.length < cap then .ok .none (st.set i (.own (.list (xs ++ [d])))) else .no := Eq.trans rfl rfl
/-! the least of some numbers -/
theorem foldl_min (n : Int) : ∀ ns : List Int, (ns.foldl min n ∈ n :: ns) ∧ ∀ y ∈ n :: ns, ns.foldl min n ≤ y
  | [] => ⟨by simp, fun y h => by simp at h; simp [h]⟩
  | k :: ns => by
    obtain ⟨h1, h2⟩ := foldl_min (min n k) ns
    rw [List.foldl_cons]
    refine ⟨?_, fun y hy => ?_⟩
    · rcases List.mem_cons.mp h1 with h | h
      · rw [h]
        have : min n k = n ∨ min n k = k := by omega
        rcases this with z | z <;> rw [z] <;> simp
      · exact List.mem_cons_of_mem _ (List.mem_cons_of_mem _ h)
    · have h0 := h2 (min n k) (List.mem_cons_self ..)
      rcases List.mem_cons.mp hy with rfl | hy
      · exact Int.le_trans h0 (Int.min_le_left ..)
      · rcases List.mem_cons.mp hy with rfl | hy
        · exact Int.le_trans h0 (Int.min_le_right ..)
        · exact h2 y (List.mem_cons_of_mem _ hy)
theorem minO_some {xs : List Int} {m : Int} (h : minO xs = some m) : m ∈ xs ∧ ∀ y ∈ xs, m ≤ y := by
  cases xs with
  | nil => cases h
  | cons n ns =>
    cases h
    exact foldl_min n ns
theorem minO_none {xs : List Int} (h : minO xs = none) : xs = [] := by
  cases xs with
  | nil => rfl
  | cons n ns => cases h
theorem minO_eq {xs : List Int} {m : Int} (h1 : m ∈ xs) (h2 : ∀ y ∈ xs, m ≤ y) : minO xs = some m := by
  cases e : minO xs with
  | none =>
    rw [minO_none e] at h1
    cases h1
  | some k =>
    obtain ⟨a, b⟩ := minO_some e
    rw [Int.le_antisymm (b m h1) (h2 k a)]
/-- two lists with the same numbers have the same least one -/
theorem minO_ext {xs ys : List Int} (h : ∀ z, z ∈ xs ↔ z ∈ ys) : minO xs = minO ys := by
  cases e : minO xs with
  | none =>
    have := minO_none e
    subst this
    cases ys with
    | nil => rfl
    | cons y ys => exact absurd ((h y).mpr (List.mem_cons_self ..)) (by simp)
  | some m =>
    obtain ⟨a, b⟩ := minO_some e
    exact (minO_eq ((h m).mp a) fun y hy => b y ((h y).mpr hy)).symm
theorem encOI_none {o : Option Int} : isNone (encOI o) = o.isNone := by cases o <;> rfl
theorem notN_OI {o : Option Int} : dNotN (encOI o) .none = some (.bool o.isSome) := by cases o <;> rfl
theorem isN_OI {o : Option Int} : dIsN (encOI o) .none = some (.bool o.isNone) := by cases o <;> rfl
/-- places of a list of such -/
theorem dIx_OI {xs : List (Option Int)} {i : Int} {k : Nat} (h : i = (k : Int)) (l : k < xs.length) : dIx (.list (xs.map encOI)) (.int i) = some (encOI (xs.getD k none)) := by
  subst h
  rw [dIx_lst (by omega) (by rw [List.length_map]; omega)]
  simp [l]
theorem isN_none : dIsN .none .none = some (.bool true) := Eq.trans rfl rfl
theorem notN_none : dNotN .none .none = some (.bool false) := Eq.trans rfl rfl
theorem isN_int {i : Int} : dIsN (.int i) .none = some (.bool false) := Eq.trans rfl rfl
theorem notN_int {i : Int} : dNotN (.int i) .none = some (.bool true) := Eq.trans rfl rfl
theorem isN_bool {b : Bool} : dIsN (.bool b) .none = some (.bool false) := Eq.trans rfl rfl
theorem notN_bool {b : Bool} : dNotN (.bool b) .none = some (.bool true) := Eq.trans rfl rfl
theorem isN_str {x : Str} : dIsN (.str x) .none = some (.bool false) := Eq.trans rfl rfl
theorem notN_str {x : Str} : dNotN (.str x) .none = some (.bool true) := Eq.trans rfl rfl
theorem isN_list {ds : List D} : dIsN (.list ds) .none = some (.bool false) := Eq.trans rfl rfl
theorem notN_list {ds : List D} : dNotN (.list ds) .none = some (.bool true) := Eq.trans rfl rfl
theorem isN_tup {ds : List D} : dIsN (.tuple ds) .none = some (.bool false) := Eq.trans rfl rfl
theorem notN_tup {ds : List D} : dNotN (.tuple ds) .none = some (.bool true) := Eq.trans rfl rfl
theorem isN_dict {kvs : List (D × D)} : dIsN (.dict kvs) .none = some (.bool false) := Eq.trans rfl rfl
theorem notN_dict {kvs : List (D × D)} : dNotN (.dict kvs) .none = some (.bool true) := Eq.trans rfl rfl
end Sk
namespace Sk
open PySem PySem.Spec PyProof.Rows L2
theorem rngR (lo : Int) (n : Nat) : rngL lo n = (List.range' 0 n).map fun k : Nat => .int (lo + (k : Int)) := by
  unfold rngL
  rw [List.range_eq_range']
/-- a loop over a range: what holds ahead of the turn k -/
theorem for_rng {i : Nat} {body : MS} (lo : Int) (n : Nat) (S : Nat → List Sl → Prop) (step : ∀ k st, k < n → S k st → ∃ st2, body (st.set i (.dat (.int (lo + (k : Int))))) = .nx st2 ∧ S (k + 1) st2) {st : List Sl} (h : S 0 st) :
    ∃ st', forL (.nm i) body [] (rngL lo n) st = .nx st' ∧ S n st' := by
  rw [rngR]
  have key := for_all (t := .nm i) (body := body) (fun ds st => ∃ k, k ≤ n ∧ ds = ((List.range' k (n - k)).map fun k : Nat => .int (lo + (k : Int))) ∧ S k st) (fun d ds st h => by
    obtain ⟨k, hk, e, hS⟩ := h
    cases q : n - k with
    | zero => rw [q] at e; cases e
    | succ m =>
      rw [q, List.range'_succ, List.map_cons] at e
      cases e
      obtain ⟨st2, e2, h2⟩ := step k st (by omega) hS
      exact ⟨_, st2, asg_nm, e2, k + 1, by omega, by rw [show n - (k + 1) = m by omega], h2⟩) (ds := (List.range' 0 n).map fun k : Nat => .int (lo + (k : Int))) (st := st) ⟨0, Nat.zero_le _, rfl, h⟩
  obtain ⟨st', e, k, hk, e2, hS⟩ := key
  have : n - k = 0 := by
    cases q : n - k with
    | zero => rfl
    | succ m => rw [q, List.range'_succ] at e2; cases e2
  have : k = n := by omega
  subst this
  exact ⟨st', e, hS⟩
theorem dNe_nil {xs : List Int} : dNe (.list (xs.map .int)) (.list []) = some (.bool (!xs.isEmpty)) := by
  have s1 : SeqAt.shaped (.list (xs.map PyData.int)) = true := (sh_lst (n := 0) fun x h => by
    obtain ⟨i, _, rfl⟩ := List.mem_map.mp h
    exact sh_int).shaped (by decide)
  have s2 : SeqAt.shaped (.list ([] : List D)) = true := (sh_lst (n := 0) (xs := []) (by simp)).shaped (by decide)
  show chk _ _ = _
  rw [e_chk ⟨s1, s2⟩]
  cases xs <;> simp [PyData.eqv, PyData.eqvAll]
theorem min_or {xs : List Int} (h : xs.isEmpty = false) : dMx min [.list (xs.map .int)] = some (encOI (minO xs)) := by
  cases xs with
  | nil => cases h
  | cons x xs => exact dMx_l
theorem min_nil {xs : List Int} (h : xs.isEmpty = true) : minO xs = none := by
  cases xs with
  | nil => rfl
  | cons x xs => cases h
end Sk
namespace Sk
open PySem PySem.Spec PyProof.Rows L2
theorem dNe_n0 : dNe (.list []) (.list []) = some (.bool false) := dNe_nil (xs := [])
end Sk
namespace Sk
open PySem PySem.Spec PyProof.Rows L2
/-! equality of tuples and lists of numbers, of texts -/
theorem shT_ints (xs : List Int) : Sh 1 (.tuple (xs.map PyData.int)) := sh_tup (n := 0) fun x h => by
  obtain ⟨i, _, rfl⟩ := List.mem_map.mp h
  exact sh_int
theorem shL_ints (xs : List Int) : Sh 1 (.list (xs.map PyData.int)) := sh_lst (n := 0) fun x h => by
  obtain ⟨i, _, rfl⟩ := List.mem_map.mp h
  exact sh_int
theorem eqvAll_ints : ∀ xs ys : List Int, PyData.eqvAll (xs.map .int) (ys.map .int) = (xs == ys)
  | [], [] => rfl
  | [], _ :: _ => rfl
  | _ :: _, [] => rfl
  | x :: xs, y :: ys => by
    rw [List.map_cons, List.map_cons, PyData.eqvAll, eqvAll_ints xs ys]
    rfl
theorem dEq_T (xs ys : List Int) : dEq (.tuple (xs.map .int)) (.tuple (ys.map .int)) = some (.bool (xs == ys)) := by
  show chk _ _ = _
  rw [e_chk ⟨(shT_ints xs).shaped (by decide), (shT_ints ys).shaped (by decide)⟩, PyData.eqv, eqvAll_ints]
theorem dNe_T (xs ys : List Int) : dNe (.tuple (xs.map .int)) (.tuple (ys.map .int)) = some (.bool (!(xs == ys))) := by
  show chk _ _ = _
  rw [e_chk ⟨(shT_ints xs).shaped (by decide), (shT_ints ys).shaped (by decide)⟩, PyData.eqv, eqvAll_ints]
theorem dEq_L (xs ys : List Int) : dEq (.list (xs.map .int)) (.list (ys.map .int)) = some (.bool (xs == ys)) := by
  show chk _ _ = _
  rw [e_chk ⟨(shL_ints xs).shaped (by decide), (shL_ints ys).shaped (by decide)⟩, PyData.eqv, eqvAll_ints]
theorem dNe_L (xs ys : List Int) : dNe (.list (xs.map .int)) (.list (ys.map .int)) = some (.bool (!(xs == ys))) := by
  show chk _ _ = _
  rw [e_chk ⟨(shL_ints xs).shaped (by decide), (shL_ints ys).shaped (by decide)⟩, PyData.eqv, eqvAll_ints]
theorem dEq_OI (a b : Option Int) : dEq (encOI a) (encOI b) = some (.bool (a == b)) := by
  show chk _ _ = _
  have s : ∀ o, SeqAt.shaped (encOI o) = true := fun o => by
    cases o
    · exact (sh_none (n := 0)).shaped (by decide)
    · exact (sh_int (n := 0)).shaped (by decide)
  rw [e_chk ⟨s a, s b⟩]
  cases a <;> cases b <;> rfl
theorem dNe_OI (a b : Option Int) : dNe (encOI a) (encOI b) = some (.bool (!(a == b))) := by
  show chk _ _ = _
  have s : ∀ o, SeqAt.shaped (encOI o) = true := fun o => by
    cases o
    · exact (sh_none (n := 0)).shaped (by decide)
    · exact (sh_int (n := 0)).shaped (by decide)
  rw [e_chk ⟨s a, s b⟩]
  cases a <;> cases b <;> rfl
theorem ne_strs (xs : List Str) (h : (xs.all fun x => (PyData.str x).canLay0) = true) : dNe (.list (xs.map PyData.str)) (.list (xs.map PyData.str)) = some (.bool false) := by
  have s : SeqAt.shaped (.list (xs.map PyData.str)) = true := (sh_lst (n := 0) fun x hx => by
    obtain ⟨y, hy, rfl⟩ := List.mem_map.mp hx
    exact ⟨List.all_eq_true.mp h y hy, Nat.le_refl _⟩).shaped (by decide)
  show chk _ _ = _
  rw [e_chk ⟨s, s⟩]
  have e : ∀ ys : List Str, PyData.eqvAll (ys.map PyData.str) (ys.map PyData.str) = true := fun ys => by
    induction ys with
    | nil => rfl
    | cons y ys ih => rw [List.map_cons, PyData.eqvAll, ih]; simp [PyData.eqv]
  rw [PyData.eqv, e]
  rfl
theorem eq_strs (xs : List Str) (h : (xs.all fun x => (PyData.str x).canLay0) = true) : dEq (.list (xs.map PyData.str)) (.list (xs.map PyData.str)) = some (.bool true) := by
  have s : SeqAt.shaped (.list (xs.map PyData.str)) = true := (sh_lst (n := 0) fun x hx => by
    obtain ⟨y, hy, rfl⟩ := List.mem_map.mp hx
    exact ⟨List.all_eq_true.mp h y hy, Nat.le_refl _⟩).shaped (by decide)
  show chk _ _ = _
  rw [e_chk ⟨s, s⟩]
  have e : ∀ ys : List Str, PyData.eqvAll (ys.map PyData.str) (ys.map PyData.str) = true := fun ys => by
    induction ys with
    | nil => rfl
    | cons y ys ih => rw [List.map_cons, PyData.eqvAll, ih]; simp [PyData.eqv]
  rw [PyData.eqv, e]
end Sk
set_option maxHeartbeats 0
namespace Zk03
open PySem PySem.Spec PyProof.Rows L2 Sk LamX
def top (i : Nat) : Stmt := PySem.Challenge.pw_sinkstones_k03_whole_walks_with_least_to.main.body.getD i (.Pass ⟨0, 0, 0, 0⟩)
abbrev S_is_from : Stmt := top 12
abbrev d_is_from : He.DefD := ⟨("is_from", none), "is_from", "is_from", defArgs S_is_from, defBody S_is_from, defScope S_is_from, [], []⟩
abbrev S_is_tuple : Stmt := top 13
abbrev d_is_tuple : He.DefD := ⟨("is_tuple", none), "is_tuple", "is_tuple", defArgs S_is_tuple, defBody S_is_tuple, defScope S_is_tuple, [], []⟩
abbrev S_is_ford : Stmt := top 14
abbrev d_is_ford : He.DefD := ⟨("is_ford", none), "is_ford", "is_ford", defArgs S_is_ford, defBody S_is_ford, defScope S_is_ford, [], []⟩
abbrev S_is_step : Stmt := top 15
abbrev d_is_step : He.DefD := ⟨("is_step", none), "is_step", "is_step", defArgs S_is_step, defBody S_is_step, defScope S_is_step, [], []⟩
abbrev S_is_gait : Stmt := top 16
abbrev d_is_gait : He.DefD := ⟨("is_gait", none), "is_gait", "is_gait", defArgs S_is_gait, defBody S_is_gait, defScope S_is_gait, [], []⟩
abbrev S_need_ford : Stmt := top 17
abbrev d_need_ford : He.DefD := ⟨("need_ford", none), "need_ford", "need_ford", defArgs S_need_ford, defBody S_need_ford, defScope S_need_ford, [], []⟩
abbrev S_need_gait : Stmt := top 18
abbrev d_need_gait : He.DefD := ⟨("need_gait", none), "need_gait", "need_gait", defArgs S_need_gait, defBody S_need_gait, defScope S_need_gait, [], []⟩
abbrev S_need_width : Stmt := top 19
abbrev d_need_width : He.DefD := ⟨("need_width", none), "need_width", "need_width", defArgs S_need_width, defBody S_need_width, defScope S_need_width, [], []⟩
abbrev S_strength : Stmt := top 20
abbrev d_strength : He.DefD := ⟨("strength", none), "strength", "strength", defArgs S_strength, defBody S_strength, defScope S_strength, [], []⟩
abbrev S_need_all : Stmt := top 22
abbrev d_need_all : He.DefD := ⟨("need_all", none), "need_all", "need_all", defArgs S_need_all, defBody S_need_all, defScope S_need_all, [], []⟩
abbrev S_toils_to : Stmt := top 24
abbrev d_toils_to : He.DefD := ⟨("toils_to", none), "toils_to", "toils_to", defArgs S_toils_to, defBody S_toils_to, defScope S_toils_to, [], []⟩
abbrev S_cheapest : Stmt := top 25
abbrev d_cheapest : He.DefD := ⟨("cheapest", none), "cheapest", "cheapest", defArgs S_cheapest, defBody S_cheapest, defScope S_cheapest, [], []⟩
abbrev S__law_source : Stmt := top 27
abbrev d__law_source : He.DefD := ⟨("_law_source", none), "_law_source", "_law_source", defArgs S__law_source, defBody S__law_source, defScope S__law_source, [], []⟩
abbrev S__law_draw : Stmt := top 28
abbrev d__law_draw : He.DefD := ⟨("_law_draw", none), "_law_draw", "_law_draw", defArgs S__law_draw, defBody S__law_draw, defScope S__law_draw, [], []⟩
abbrev S__law_choice : Stmt := top 29
abbrev d__law_choice : He.DefD := ⟨("_law_choice", none), "_law_choice", "_law_choice", defArgs S__law_choice, defBody S__law_choice, defScope S__law_choice, [], []⟩
abbrev S__law_ford : Stmt := top 30
abbrev d__law_ford : He.DefD := ⟨("_law_ford", none), "_law_ford", "_law_ford", defArgs S__law_ford, defBody S__law_ford, defScope S__law_ford, [], []⟩
abbrev S__law_gait : Stmt := top 31
abbrev d__law_gait : He.DefD := ⟨("_law_gait", none), "_law_gait", "_law_gait", defArgs S__law_gait, defBody S__law_gait, defScope S__law_gait, [], []⟩
abbrev S__law_stone : Stmt := top 32
abbrev d__law_stone : He.DefD := ⟨("_law_stone", none), "_law_stone", "_law_stone", defArgs S__law_stone, defBody S__law_stone, defScope S__law_stone, [], []⟩
abbrev S__law_toils : Stmt := top 33
abbrev d__law_toils : He.DefD := ⟨("_law_toils", none), "_law_toils", "_law_toils", defArgs S__law_toils, defBody S__law_toils, defScope S__law_toils, [], []⟩
abbrev S__law_over : Stmt := top 34
abbrev d__law_over : He.DefD := ⟨("_law_over", none), "_law_over", "_law_over", defArgs S__law_over, defBody S__law_over, defScope S__law_over, [], []⟩
abbrev S__law_toil : Stmt := top 35
abbrev d__law_toil : He.DefD := ⟨("_law_toil", none), "_law_toil", "_law_toil", defArgs S__law_toil, defBody S__law_toil, defScope S__law_toil, [], []⟩
abbrev S__law_right : Stmt := top 36
abbrev d__law_right : He.DefD := ⟨("_law_right", none), "_law_right", "_law_right", defArgs S__law_right, defBody S__law_right, defScope S__law_right, [], []⟩
abbrev S__law_word : Stmt := top 37
abbrev d__law_word : He.DefD := ⟨("_law_word", none), "_law_word", "_law_word", defArgs S__law_word, defBody S__law_word, defScope S__law_word, [], []⟩
abbrev S_law : Stmt := top 38
abbrev d_law : He.DefD := ⟨("law", none), "law", "law", defArgs S_law, defBody S_law, defScope S_law, [], []⟩
abbrev info : Info := ⟨[d_is_from, d_is_tuple, d_is_ford, d_is_step, d_is_gait, d_need_ford, d_need_gait, d_need_width, d_strength, d_need_all, d_toils_to, d_cheapest, d__law_source, d__law_draw, d__law_choice, d__law_ford, d__law_gait, d__law_stone, d__law_toils, d__law_over, d__law_toil, d__law_right, d__law_word, d_law], ["abs", "bool", "dict", "enumerate", "int", "isinstance", "len", "list", "max", "min", "range", "tuple"], [("ROUND", 8), ("MOST_STEPS", 4), ("LENGTH", 6), ("TOIL", 9), ("BEARS", 3), ("NEAR", 60)], ["InvalidFord", "InvalidGait", "InvalidWidth"], ["law"]⟩
section
variable {P : Program} {w : World} {K : PySem.W.Frag} {mg : Str → Option Value} {base : Heap} {Γ : Gm}
/-! is_from -/
theorem nd_is_from : (["value", "least", "most"] : List Str).Nodup := by decide
theorem sc_is_from : FnScope ["value", "least", "most"] ["value", "least", "most"] (defScope S_is_from) := ⟨rfl, rfl, rfl, by decide +kernel, rfl, by decide +kernel, by decide +kernel⟩
def b_is_from : MS :=
  retS (vAnd (isiM "int" (nam 0)) (vAnd (vNot (isiM "bool" (nam 0))) (chM dLe dLe (nam 1) (nam 0) (nam 2))))
def m_is_from : M D := fnOf 0 [] b_is_from
theorem ok_is_from (h : FxI info K mg base Γ) : Fn Γ P w K mg base (rP K) 1 "is_from" ["value", "least", "most"] m_is_from := by
  obtain ⟨fd, F⟩ := h.fn 0 d_is_from rfl
  have hb := F.bindsN (ps := ["value", "least", "most"]) fun _ _ _ _ _ _ us hl => match us, hl with | [_, _, _], _ => rfl
  exact Sk.fn_of F (h.glo "is_from" (by decide)) hb (fn_okC (k := 0) F sc_is_from fun A outer s H E hr => (ess_one (es_ret (ev_and (ev_isi (T := "int") (.inl rfl) (h.free "isinstance" (by decide)) (h.free "int" (by decide)) boot_int (eo_nam 0)) (ev_and (ev_not (ev_isi (T := "bool") (.inr (.inl rfl)) (h.free "isinstance" (by decide)) (h.free "bool" (by decide)) boot_bool (eo_nam 0))) (ev_one (ev_ch op_le op_le bl_int s_le s_le (eo_nam 1) (eo_nam 0) (eo_nam 2))))))))
/-! is_tuple -/
theorem nd_is_tuple : (["value", "least", "most"] : List Str).Nodup := by decide
theorem sc_is_tuple : FnScope ["value", "least", "most"] ["value", "least", "most"] (defScope S_is_tuple) := ⟨rfl, rfl, rfl, by decide +kernel, rfl, by decide +kernel, by decide +kernel⟩
def b_is_tuple : MS :=
  retS (vAnd (isiM "tuple" (nam 0)) (chM dLe dLe (nam 1) ((opA dLen (mCons (nam 0) (mNil))).bind fun d => M.ret (.dat d)) (nam 2)))
def m_is_tuple : M D := fnOf 0 [] b_is_tuple
theorem ok_is_tuple (h : FxI info K mg base Γ) : Fn Γ P w K mg base (rP K) 1 "is_tuple" ["value", "least", "most"] m_is_tuple := by
  obtain ⟨fd, F⟩ := h.fn 1 d_is_tuple rfl
  have hb := F.bindsN (ps := ["value", "least", "most"]) fun _ _ _ _ _ _ us hl => match us, hl with | [_, _, _], _ => rfl
  exact Sk.fn_of F (h.glo "is_tuple" (by decide)) hb (fn_okC (k := 0) F sc_is_tuple fun A outer s H E hr => (ess_one (es_ret (ev_and (ev_isi (T := "tuple") (.inr (.inr (.inr (.inl rfl)))) (h.free "isinstance" (by decide)) (h.free "tuple" (by decide)) boot_tuple (eo_nam 0)) (ev_one (ev_ch op_le op_le bl_int s_le s_le (eo_nam 1) (eo_ev (ev_cb call_len sA_len (h.free "len" (by decide)) boot_len (ea_cons (eo_nam 0) ea_nil))) (eo_nam 2)))))))
/-! is_ford -/
theorem nd_is_ford : (["value", "item"] : List Str).Nodup := by decide
theorem sc_is_ford : FnScope ["value", "item"] ["value"] (defScope S_is_ford) := ⟨rfl, rfl, rfl, by decide +kernel, rfl, by decide +kernel, by decide +kernel⟩
def C1_is_ford : M D :=
  callM m_is_from (mCons (nam 1) (mCons ((M.ret (.int 0)).bind fun d => M.ret (.dat d)) (mCons ((M.ret (.int 3)).bind fun d => M.ret (.dat d)) (mNil))))
def b_is_ford : MS :=
  retS (vAnd (callM m_is_tuple (mCons (nam 0) (mCons ((M.ret (.int 1)).bind fun d => M.ret (.dat d)) (mCons ((M.ret (.int 8)).bind fun d => M.ret (.dat d)) (mNil))))) (bin2 dNotInL ((M.ret (.bool false)).bind fun d => M.ret (.dat d)) ((lcM (.nm 1) (seqM ((nam 0).bind frz)) (M.ret true) (C1_is_ford) [1]).bind fun d => M.ret (.dat d))))
def m_is_ford : M D := fnOf 1 [] b_is_ford
theorem ok_is_ford (h : FxI info K mg base Γ) : Fn Γ P w K mg base (rP K) 2 "is_ford" ["value"] m_is_ford := by
  obtain ⟨fd, F⟩ := h.fn 2 d_is_ford rfl
  have hb := F.bindsN (ps := ["value"]) fun _ _ _ _ _ _ us hl => match us, hl with | [_], _ => rfl
  exact Sk.fn_of F (h.glo "is_ford" (by decide)) hb (fn_okC (k := 1) F sc_is_ford fun A outer s H E hr => (ess_one (es_ret (ev_and (ev_fn (ok_is_tuple h) hr (by decide) (takes_of rfl rfl rfl rfl) (len_cons (len_cons (len_cons len_nil))) (ea_cons (eo_nam 0) (ea_cons (eo_ev ev_int) (ea_cons (eo_ev (ev_gi (h.int "ROUND" 8 (by decide)))) ea_nil)))) (ev_one (ev_cmp (op_notInD (u65 hr)) s_notInL (eo_ev ev_bl) (eo_ev (ev_en (en_lc [("item", 1)] (g := gName 1) rfl nd_is_ford (ei_seq (ev_nam 0)) (blkOk_by (by rfl)) (by decide) (fun s H C cl fp => (eg_nm nd_is_ford)) (fun s H C cl fp => ets_nil) (fun s H C cl fp => (ev_fn (ok_is_from h) hr (by decide) L2.takes0 (len_cons (len_cons (len_cons len_nil))) (ea_cons (eo_nam 1) (ea_cons (eo_ev ev_int) (ea_cons (eo_ev (ev_gi (h.int "BEARS" 3 (by decide)))) ea_nil))))))))))))))
/-! is_step -/
theorem nd_is_step : (["value"] : List Str).Nodup := by decide
theorem sc_is_step : FnScope ["value"] ["value"] (defScope S_is_step) := ⟨rfl, rfl, rfl, by decide +kernel, rfl, by decide +kernel, by decide +kernel⟩
def b_is_step : MS :=
  retS (vAnd (callM m_is_tuple (mCons (nam 0) (mCons ((M.ret (.int 2)).bind fun d => M.ret (.dat d)) (mCons ((M.ret (.int 2)).bind fun d => M.ret (.dat d)) (mNil))))) (vAnd (callM m_is_from (mCons ((bin2 dIx (nam 0) ((M.ret (.int 0)).bind fun d => M.ret (.dat d))).bind fun d => M.ret (.dat d)) (mCons ((M.ret (.int 1)).bind fun d => M.ret (.dat d)) (mCons ((M.ret (.int 6)).bind fun d => M.ret (.dat d)) (mNil))))) (callM m_is_from (mCons ((bin2 dIx (nam 0) ((M.ret (.int 1)).bind fun d => M.ret (.dat d))).bind fun d => M.ret (.dat d)) (mCons ((M.ret (.int 0)).bind fun d => M.ret (.dat d)) (mCons ((M.ret (.int 9)).bind fun d => M.ret (.dat d)) (mNil)))))))
def m_is_step : M D := fnOf 0 [] b_is_step
theorem ok_is_step (h : FxI info K mg base Γ) : Fn Γ P w K mg base (rP K) 2 "is_step" ["value"] m_is_step := by
  obtain ⟨fd, F⟩ := h.fn 3 d_is_step rfl
  have hb := F.bindsN (ps := ["value"]) fun _ _ _ _ _ _ us hl => match us, hl with | [_], _ => rfl
  exact Sk.fn_of F (h.glo "is_step" (by decide)) hb (fn_okC (k := 1) F sc_is_step fun A outer s H E hr => (ess_one (es_ret (ev_and (ev_fn (ok_is_tuple h) hr (by decide) (takes_of rfl rfl rfl rfl) (len_cons (len_cons (len_cons len_nil))) (ea_cons (eo_nam 0) (ea_cons (eo_ev ev_int) (ea_cons (eo_ev ev_int) ea_nil)))) (ev_and (ev_fn (ok_is_from h) hr (by decide) (takes_of rfl rfl rfl rfl) (len_cons (len_cons (len_cons len_nil))) (ea_cons (eo_ev (ev_ix ix_seq s_ix (eo_nam 0) (eo_ev ev_int))) (ea_cons (eo_ev ev_int) (ea_cons (eo_ev (ev_gi (h.int "LENGTH" 6 (by decide)))) ea_nil)))) (ev_one (ev_fn (ok_is_from h) hr (by decide) (takes_of rfl rfl rfl rfl) (len_cons (len_cons (len_cons len_nil))) (ea_cons (eo_ev (ev_ix ix_seq s_ix (eo_nam 0) (eo_ev ev_int))) (ea_cons (eo_ev ev_int) (ea_cons (eo_ev (ev_gi (h.int "TOIL" 9 (by decide)))) ea_nil))))))))))
/-! is_gait -/
theorem nd_is_gait : (["value", "item", "at"] : List Str).Nodup := by decide
theorem sc_is_gait : FnScope ["value", "item", "at"] ["value"] (defScope S_is_gait) := ⟨rfl, rfl, rfl, by decide +kernel, rfl, by decide +kernel, by decide +kernel⟩
def C1_is_gait : M D :=
  callM m_is_step (mCons (nam 1) (mNil))
def C2_is_gait : M D :=
  bin2 dLt ((bin2 dIx ((bin2 dIx (nam 0) ((bin2 dSub (nam 2) ((M.ret (.int 1)).bind fun d => M.ret (.dat d))).bind fun d => M.ret (.dat d))).bind fun d => M.ret (.dat d)) ((M.ret (.int 0)).bind fun d => M.ret (.dat d))).bind fun d => M.ret (.dat d)) ((bin2 dIx ((bin2 dIx (nam 0) (nam 2)).bind fun d => M.ret (.dat d)) ((M.ret (.int 0)).bind fun d => M.ret (.dat d))).bind fun d => M.ret (.dat d))
def b_is_gait : MS :=
  seqS (iteS (mOr (mNot ((callM m_is_tuple (mCons (nam 0) (mCons ((M.ret (.int 1)).bind fun d => M.ret (.dat d)) (mCons ((M.ret (.int 4)).bind fun d => M.ret (.dat d)) (mNil))))).bind toB)) ((bin2 dInL ((M.ret (.bool false)).bind fun d => M.ret (.dat d)) ((lcM (.nm 1) (seqM ((nam 0).bind frz)) (M.ret true) (C1_is_gait) [1]).bind fun d => M.ret (.dat d))).bind toB)) (retS (M.ret (.bool false))) (fun st => .nx st))
  (retS (bin2 dNotInL ((M.ret (.bool false)).bind fun d => M.ret (.dat d)) ((lcM (.nm 2) (rng2M (M.ret (.int 1)) (opA dLen (mCons (nam 0) (mNil)))) (M.ret true) (C2_is_gait) [2]).bind fun d => M.ret (.dat d))))
def m_is_gait : M D := fnOf 2 [] b_is_gait
theorem ok_is_gait (h : FxI info K mg base Γ) : Fn Γ P w K mg base (rP K) 3 "is_gait" ["value"] m_is_gait := by
  obtain ⟨fd, F⟩ := h.fn 4 d_is_gait rfl
  have hb := F.bindsN (ps := ["value"]) fun _ _ _ _ _ _ us hl => match us, hl with | [_], _ => rfl
  exact Sk.fn_of F (h.glo "is_gait" (by decide)) hb (fn_okC (k := 2) F sc_is_gait fun A outer s H E hr => (ess_cons (es_if (EW.et (ew_or (et_not (et_val (ev_fn (ok_is_tuple h) hr (by decide) (takes_of rfl rfl rfl rfl) (len_cons (len_cons (len_cons len_nil))) (ea_cons (eo_nam 0) (ea_cons (eo_ev ev_int) (ea_cons (eo_ev (ev_gi (h.int "MOST_STEPS" 4 (by decide)))) ea_nil)))))) (ew_or1 (et_cmp (op_inD (u65 hr)) s_inL (eo_ev ev_bl) (eo_ev (ev_en (en_lc [("item", 1)] (g := gName 1) rfl nd_is_gait (ei_seq (ev_nam 0)) (blkOk_by (by rfl)) (by decide) (fun s H C cl fp => (eg_nm nd_is_gait)) (fun s H C cl fp => ets_nil) (fun s H C cl fp => (ev_fn (ok_is_step h) hr (by decide) L2.takes0 (len_cons len_nil) (ea_cons (eo_nam 1) ea_nil)))))))))) (ess_one (es_ret ev_bl)) ess_nil)
  (ess_one (es_ret (ev_cmp (op_notInD (u65 hr)) s_notInL (eo_ev ev_bl) (eo_ev (ev_en (en_lc [("at", 2)] (g := gName 2) rfl nd_is_gait (ei_rng2 ev_int (ev_cb call_len sA_len (h.free "len" (by decide)) boot_len (ea_cons (eo_nam 0) ea_nil)) (h.free "range" (by decide))) (blkOk_by (by rfl)) (by decide) (fun s H C cl fp => (eg_nm nd_is_gait)) (fun s H C cl fp => ets_nil) (fun s H C cl fp => (ev_cmp op_lt s_lt (eo_ev (ev_ix ix_seq s_ix (eo_ev (ev_ix ix_seq s_ix (eo_nam 0) (eo_ev (ev_op op_sub s_sub (eo_nam 2) (eo_ev ev_int))))) (eo_ev ev_int))) (eo_ev (ev_ix ix_seq s_ix (eo_ev (ev_ix ix_seq s_ix (eo_nam 0) (eo_nam 2))) (eo_ev ev_int)))))))))))))
/-! need_ford -/
theorem nd_need_ford : (["value"] : List Str).Nodup := by decide
theorem sc_need_ford : FnScope ["value"] ["value"] (defScope S_need_ford) := ⟨rfl, rfl, rfl, by decide +kernel, rfl, by decide +kernel, by decide +kernel⟩
def b_need_ford : MS :=
  iteS (mNot ((callM m_is_ford (mCons (nam 0) (mNil))).bind toB)) (raiseS 0) (fun st => .nx st)
def m_need_ford : M D := fnOf 0 [] b_need_ford
theorem ok_need_ford (h : FxI info K mg base Γ) : Fn Γ P w K mg base (rP K) 3 "need_ford" ["value"] m_need_ford := by
  obtain ⟨fd, F⟩ := h.fn 5 d_need_ford rfl
  have hb := F.bindsN (ps := ["value"]) fun _ _ _ _ _ _ us hl => match us, hl with | [_], _ => rfl
  exact Sk.fn_of F (h.glo "need_ford" (by decide)) hb (fn_okC (k := 2) F sc_need_ford fun A outer s H E hr => (ess_one (es_if (et_not (et_val (ev_fn (ok_is_ford h) hr (by decide) (takes_of rfl rfl rfl rfl) (len_cons len_nil) (ea_cons (eo_nam 0) ea_nil)))) (ess_one (es_raise1 rfl (takes_of rfl rfl rfl rfl) (h.exc 0 "InvalidFord" rfl))) ess_nil)))
/-! need_gait -/
theorem nd_need_gait : (["value"] : List Str).Nodup := by decide
theorem sc_need_gait : FnScope ["value"] ["value"] (defScope S_need_gait) := ⟨rfl, rfl, rfl, by decide +kernel, rfl, by decide +kernel, by decide +kernel⟩
def b_need_gait : MS :=
  iteS (mNot ((callM m_is_gait (mCons (nam 0) (mNil))).bind toB)) (raiseS 1) (fun st => .nx st)
def m_need_gait : M D := fnOf 0 [] b_need_gait
theorem ok_need_gait (h : FxI info K mg base Γ) : Fn Γ P w K mg base (rP K) 4 "need_gait" ["value"] m_need_gait := by
  obtain ⟨fd, F⟩ := h.fn 6 d_need_gait rfl
  have hb := F.bindsN (ps := ["value"]) fun _ _ _ _ _ _ us hl => match us, hl with | [_], _ => rfl
  exact Sk.fn_of F (h.glo "need_gait" (by decide)) hb (fn_okC (k := 3) F sc_need_gait fun A outer s H E hr => (ess_one (es_if (et_not (et_val (ev_fn (ok_is_gait h) hr (by decide) (takes_of rfl rfl rfl rfl) (len_cons len_nil) (ea_cons (eo_nam 0) ea_nil)))) (ess_one (es_raise1 rfl (takes_of rfl rfl rfl rfl) (h.exc 1 "InvalidGait" rfl))) ess_nil)))
/-! need_width -/
theorem nd_need_width : (["value", "most"] : List Str).Nodup := by decide
theorem sc_need_width : FnScope ["value", "most"] ["value", "most"] (defScope S_need_width) := ⟨rfl, rfl, rfl, by decide +kernel, rfl, by decide +kernel, by decide +kernel⟩
def b_need_width : MS :=
  iteS (mNot ((callM m_is_from (mCons (nam 0) (mCons ((M.ret (.int 0)).bind fun d => M.ret (.dat d)) (mCons (nam 1) (mNil))))).bind toB)) (raiseS 2) (fun st => .nx st)
def m_need_width : M D := fnOf 0 [] b_need_width
theorem ok_need_width (h : FxI info K mg base Γ) : Fn Γ P w K mg base (rP K) 2 "need_width" ["value", "most"] m_need_width := by
  obtain ⟨fd, F⟩ := h.fn 7 d_need_width rfl
  have hb := F.bindsN (ps := ["value", "most"]) fun _ _ _ _ _ _ us hl => match us, hl with | [_, _], _ => rfl
  exact Sk.fn_of F (h.glo "need_width" (by decide)) hb (fn_okC (k := 1) F sc_need_width fun A outer s H E hr => (ess_one (es_if (et_not (et_val (ev_fn (ok_is_from h) hr (by decide) (takes_of rfl rfl rfl rfl) (len_cons (len_cons (len_cons len_nil))) (ea_cons (eo_nam 0) (ea_cons (eo_ev ev_int) (ea_cons (eo_nam 1) ea_nil)))))) (ess_one (es_raise1 rfl (takes_of rfl rfl rfl rfl) (h.exc 2 "InvalidWidth" rfl))) ess_nil)))
/-! strength -/
theorem nd_strength : (["ford", "place"] : List Str).Nodup := by decide
theorem sc_strength : FnScope ["ford", "place"] ["ford", "place"] (defScope S_strength) := ⟨rfl, rfl, rfl, by decide +kernel, rfl, by decide +kernel, by decide +kernel⟩
def b_strength : MS :=
  retS (bin2 dIx (nam 0) ((bin2 dMod ((bin2 dSub (nam 1) ((M.ret (.int 1)).bind fun d => M.ret (.dat d))).bind fun d => M.ret (.dat d)) ((opA dLen (mCons (nam 0) (mNil))).bind fun d => M.ret (.dat d))).bind fun d => M.ret (.dat d)))
def m_strength : M D := fnOf 0 [] b_strength
theorem ok_strength (h : FxI info K mg base Γ) : Fn Γ P w K mg base (rP K) 1 "strength" ["ford", "place"] m_strength := by
  obtain ⟨fd, F⟩ := h.fn 8 d_strength rfl
  have hb := F.bindsN (ps := ["ford", "place"]) fun _ _ _ _ _ _ us hl => match us, hl with | [_, _], _ => rfl
  exact Sk.fn_of F (h.glo "strength" (by decide)) hb (fn_okC (k := 0) F sc_strength fun A outer s H E hr => (ess_one (es_ret (ev_ix ix_seq s_ix (eo_nam 0) (eo_ev (ev_op op_mod s_mod (eo_ev (ev_op op_sub s_sub (eo_nam 1) (eo_ev ev_int))) (eo_ev (ev_cb call_len sA_len (h.free "len" (by decide)) boot_len (ea_cons (eo_nam 0) ea_nil)))))))))
/-! need_all -/
theorem nd_need_all : (["ford", "gait", "n", "most"] : List Str).Nodup := by decide
theorem sc_need_all : FnScope ["ford", "gait", "n", "most"] ["ford", "gait", "n", "most"] (defScope S_need_all) := ⟨rfl, rfl, rfl, by decide +kernel, rfl, by decide +kernel, by decide +kernel⟩
def b_need_all : MS :=
  seqS (drpS (callM m_need_ford (mCons (nam 0) (mNil))))
  (seqS (drpS (callM m_need_gait (mCons (nam 1) (mNil))))
  (drpS (callM m_need_width (mCons (nam 2) (mCons (nam 3) (mNil))))))
def m_need_all : M D := fnOf 0 [] b_need_all
theorem ok_need_all (h : FxI info K mg base Γ) : Fn Γ P w K mg base (rP K) 5 "need_all" ["ford", "gait", "n", "most"] m_need_all := by
  obtain ⟨fd, F⟩ := h.fn 9 d_need_all rfl
  have hb := F.bindsN (ps := ["ford", "gait", "n", "most"]) fun _ _ _ _ _ _ us hl => match us, hl with | [_, _, _, _], _ => rfl
  exact Sk.fn_of F (h.glo "need_all" (by decide)) hb (fn_okC (k := 4) F sc_need_all fun A outer s H E hr => (ess_cons (es_expr (ev_fn (ok_need_ford h) hr (by decide) (takes_of rfl rfl rfl rfl) (len_cons len_nil) (ea_cons (eo_nam 0) ea_nil)))
  (ess_cons (es_expr (ev_fn (ok_need_gait h) hr (by decide) (takes_of rfl rfl rfl rfl) (len_cons len_nil) (ea_cons (eo_nam 1) ea_nil)))
  (ess_one (es_expr (ev_fn (ok_need_width h) hr (by decide) (takes_of rfl rfl rfl rfl) (len_cons (len_cons len_nil)) (ea_cons (eo_nam 2) (ea_cons (eo_nam 3) ea_nil))))))))
/-! toils_to -/
theorem nd_toils_to : (["ford", "gait", "n", "found", "place", "some", "length", "toil"] : List Str).Nodup := by decide
theorem sc_toils_to : FnScope ["ford", "gait", "n", "found", "place", "some", "length", "toil"] ["ford", "gait", "n"] (defScope S_toils_to) := ⟨rfl, rfl, rfl, by decide +kernel, rfl, by decide +kernel, by decide +kernel⟩
def L1_toils_to : MS :=
  iteS (mAnd ((bin2 dLe (nam 6) (nam 4)).bind toB) (mAnd ((bin2 dGt ((callM m_strength (mCons (nam 0) (mCons (nam 4) (mNil)))).bind fun d => M.ret (.dat d)) ((M.ret (.int 0)).bind fun d => M.ret (.dat d))).bind toB) ((bin2 dNotN ((bin2 dIx (nam 3) ((bin2 dSub (nam 4) (nam 6)).bind fun d => M.ret (.dat d))).bind fun d => M.ret (.dat d)) ((M.ret .none).bind fun d => M.ret (.dat d))).bind toB))) (drpS (appM 5 (bin2 dAdd ((bin2 dIx (nam 3) ((bin2 dSub (nam 4) (nam 6)).bind fun d => M.ret (.dat d))).bind fun d => M.ret (.dat d)) (nam 7)))) (fun st => .nx st)
def L2_toils_to : MS :=
  seqS (setN 5 (mLst (mNil)))
  (seqS (forS (.tp [6, 7]) (seqM ((nam 1).bind frz)) (L1_toils_to) [])
  (drpS (appM 3 (un1 dMnN (nam 5)))))
def b_toils_to : MS :=
  seqS (setN 3 (mLst (mCons (M.ret (.int 0)) (mNil))))
  (seqS (forS (.nm 4) (rng2M (M.ret (.int 1)) (bin2 dAdd (nam 2) ((M.ret (.int 1)).bind fun d => M.ret (.dat d)))) (L2_toils_to) [])
  (retS ((nam 3).bind frz)))
def m_toils_to : M D := fnOf 5 [] b_toils_to
theorem ok_toils_to (h : FxI info K mg base Γ) : Fn Γ P w K mg base (rP K) 2 "toils_to" ["ford", "gait", "n"] m_toils_to := by
  obtain ⟨fd, F⟩ := h.fn 10 d_toils_to rfl
  have hb := F.bindsN (ps := ["ford", "gait", "n"]) fun _ _ _ _ _ _ us hl => match us, hl with | [_, _, _], _ => rfl
  exact Sk.fn_of F (h.glo "toils_to" (by decide)) hb (fn_okC (k := 1) F sc_toils_to fun A outer s H E hr => (ess_cons (es_setN (i := 3) nd_toils_to (by decide) (en_lst (el_cons ev_int el_nil)))
  (ess_cons (es_for (kill := []) (passes_of rfl) rfl (by decide) (ei_rng2 ev_int (ev_op op_addA s_add (eo_nam 2) (eo_ev ev_int)) (h.free "range" (by decide))) (eg_nm nd_toils_to) (ess_cons (es_setN (i := 5) nd_toils_to (by decide) (en_lst el_nil))
  (ess_cons (es_for (kill := []) (passes_of rfl) rfl (by decide) (ei_seq (ev_nam 1)) (eg_tp rfl (egs_cons nd_toils_to (egs_cons nd_toils_to egs_nil))) (ess_one (es_if (EW.et (ew_and (et_cmp op_le s_le (eo_nam 6) (eo_nam 4)) (ew_and (et_cmp op_gt s_gt (eo_ev (ev_fn (ok_strength h) hr (by decide) (takes_of rfl rfl rfl rfl) (len_cons (len_cons len_nil)) (ea_cons (eo_nam 0) (ea_cons (eo_nam 4) ea_nil)))) (eo_ev ev_int)) (ew_and1 (et_cmp op_notN s_notN (eo_ev (ev_ix ix_seq s_ix (eo_nam 3) (eo_ev (ev_op op_sub s_sub (eo_nam 4) (eo_nam 6))))) (eo_ev ev_non)))))) (ess_one (es_expr (ev_app (i := 5) (ev_op op_addA s_add (eo_ev (ev_ix ix_seq s_ix (eo_nam 3) (eo_ev (ev_op op_sub s_sub (eo_nam 4) (eo_nam 6))))) (eo_nam 7))))) ess_nil)))
  (ess_one (es_expr (ev_app (i := 3) (ev_minN rfl (u64 hr) (h.free "min" (by decide)) (eo_nam 5))))))))
  (ess_one (es_ret (ev_nam 3))))))
/-! cheapest -/
theorem nd_cheapest : (["ford", "gait", "n", "toils", "best", "place", "so_far", "length", "toil", "walk"] : List Str).Nodup := by decide
theorem sc_cheapest : FnScope ["ford", "gait", "n", "toils", "best", "place", "so_far", "length", "toil", "walk"] ["ford", "gait", "n"] (defScope S_cheapest) := ⟨rfl, rfl, rfl, by decide +kernel, rfl, by decide +kernel, by decide +kernel⟩
noncomputable def L1_cheapest : MS :=
  iteS (mAnd ((bin2 dNotN (nam 6) ((M.ret .none).bind fun d => M.ret (.dat d))).bind toB) (mAnd ((bin2 dGt ((bin2 dAdd (nam 5) (nam 7)).bind fun d => M.ret (.dat d)) (nam 2)).bind toB) (mOr ((bin2 dIsN (nam 4) ((M.ret .none).bind fun d => M.ret (.dat d))).bind toB) ((bin2 dLt ((bin2 dAdd (nam 6) (nam 8)).bind fun d => M.ret (.dat d)) ((bin2 dIx (nam 4) ((M.ret (.int 0)).bind fun d => M.ret (.dat d))).bind fun d => M.ret (.dat d))).bind toB)))) (setS 4 (mTup (mCons (bin2 dAdd (nam 6) (nam 8)) (mCons ((nam 5).bind frz) (mCons ((nam 7).bind frz) (mNil)))))) (fun st => .nx st)
noncomputable def L2_cheapest : MS :=
  forS (.tp [7, 8]) (seqM ((nam 1).bind frz)) (L1_cheapest) []
noncomputable def L3_cheapest : MS :=
  iteS (mAnd ((bin2 dLe (nam 7) (nam 5)).bind toB) ((bin2 dNotN ((bin2 dIx (nam 3) ((bin2 dSub (nam 5) (nam 7)).bind fun d => M.ret (.dat d))).bind fun d => M.ret (.dat d)) ((M.ret .none).bind fun d => M.ret (.dat d))).bind toB)) (iteS ((bin2 dEq ((bin2 dAdd ((bin2 dIx (nam 3) ((bin2 dSub (nam 5) (nam 7)).bind fun d => M.ret (.dat d))).bind fun d => M.ret (.dat d)) (nam 8)).bind fun d => M.ret (.dat d)) ((bin2 dIx (nam 3) (nam 5)).bind fun d => M.ret (.dat d))).bind toB) (seqS (setS 9 (bin2 dAdd ((mTup (mCons ((nam 7).bind frz) (mNil))).bind fun d => M.ret (.dat d)) (nam 9)))
  (seqS (setS 5 (bin2 dSub (nam 5) (nam 7)))
  (fun st => .bk st))) (fun st => .nx st)) (fun st => .nx st)
noncomputable def L4_cheapest : MS :=
  forS (.tp [7, 8]) (seqM ((nam 1).bind frz)) (L3_cheapest) []
noncomputable def W1_cheapest : M Bool :=
  (bin2 dGt (nam 5) ((M.ret (.int 0)).bind fun d => M.ret (.dat d))).bind toB
noncomputable def b_cheapest : MS :=
  seqS (drpS (callM m_need_all (mCons (nam 0) (mCons (nam 1) (mCons (nam 2) (mCons ((M.ret (.int 60)).bind fun d => M.ret (.dat d)) (mNil)))))))
  (seqS (setS 3 (callM m_toils_to (mCons (nam 0) (mCons (nam 1) (mCons (nam 2) (mNil))))))
  (seqS (setS 4 (M.ret .none))
  (seqS (forS (.tp [5, 6]) (enuM ((nam 3).bind frz)) (L2_cheapest) [])
  (seqS (iteS ((bin2 dIsN (nam 4) ((M.ret .none).bind fun d => M.ret (.dat d))).bind toB) (retS (M.ret .none)) (fun st => .nx st))
  (seqS (putS [5, 9] (mDat (bin2 dIx (nam 4) ((M.ret (.int 1)).bind fun d => M.ret (.dat d))) (mDat (mTup (mCons (bin2 dIx (nam 4) ((M.ret (.int 2)).bind fun d => M.ret (.dat d))) (mNil))) (mNil))))
  (seqS (whlS (W1_cheapest) (L4_cheapest) [])
  (retS ((nam 9).bind frz))))))))
noncomputable def m_cheapest : M D := fnOf 7 [] b_cheapest
theorem ok_cheapest (h : FxI info K mg base Γ) : Fn Γ P w K mg base (rP K) 6 "cheapest" ["ford", "gait", "n"] m_cheapest := by
  obtain ⟨fd, F⟩ := h.fn 11 d_cheapest rfl
  have hb := F.bindsN (ps := ["ford", "gait", "n"]) fun _ _ _ _ _ _ us hl => match us, hl with | [_, _, _], _ => rfl
  exact Sk.fn_of F (h.glo "cheapest" (by decide)) hb (fn_okC (k := 5) F sc_cheapest fun A outer s H E hr => (ess_cons (es_expr (ev_fn (ok_need_all h) hr (by decide) (takes_of rfl rfl rfl rfl) (len_cons (len_cons (len_cons (len_cons len_nil)))) (ea_cons (eo_nam 0) (ea_cons (eo_nam 1) (ea_cons (eo_nam 2) (ea_cons (eo_ev (ev_gi (h.int "NEAR" 60 (by decide)))) ea_nil))))))
  (ess_cons (es_set (i := 3) nd_cheapest (by decide) (ev_fn (ok_toils_to h) hr (by decide) (takes_of rfl rfl rfl rfl) (len_cons (len_cons (len_cons len_nil))) (ea_cons (eo_nam 0) (ea_cons (eo_nam 1) (ea_cons (eo_nam 2) ea_nil)))))
  (ess_cons (es_set (i := 4) nd_cheapest (by decide) ev_non)
  (ess_cons (es_for (kill := []) (passes_of rfl) rfl (by decide) (ei_enu (ev_nam 3) (h.free "enumerate" (by decide))) (eg_tp rfl (egs_cons nd_cheapest (egs_cons nd_cheapest egs_nil))) (ess_one (es_for (kill := []) (passes_of rfl) rfl (by decide) (ei_seq (ev_nam 1)) (eg_tp rfl (egs_cons nd_cheapest (egs_cons nd_cheapest egs_nil))) (ess_one (es_if (EW.et (ew_and (et_cmp op_notN s_notN (eo_nam 6) (eo_ev ev_non)) (ew_and (et_cmp op_gt s_gt (eo_ev (ev_op op_addA s_add (eo_nam 5) (eo_nam 7))) (eo_nam 2)) (ew_and1 (EW.et (ew_or (et_cmp op_isN s_isN (eo_nam 4) (eo_ev ev_non)) (ew_or1 (et_cmp op_lt s_lt (eo_ev (ev_op op_addA s_add (eo_nam 6) (eo_nam 8))) (eo_ev (ev_ix ix_seq s_ix (eo_nam 4) (eo_ev ev_int))))))))))) (ess_one (es_set (i := 4) nd_cheapest (by decide) (ev_tup (el_cons (ev_op op_addA s_add (eo_nam 6) (eo_nam 8)) (el_cons (ev_nam 5) (el_cons (ev_nam 7) el_nil)))))) ess_nil)))))
  (ess_cons (es_if (et_cmp op_isN s_isN (eo_nam 4) (eo_ev ev_non)) (ess_one (es_ret ev_non)) ess_nil)
  (ess_cons (es_par rfl nd_cheapest (by decide) (em_dat (ev_ix ix_seq s_ix (eo_nam 4) (eo_ev ev_int)) (em_dat (ev_tup (el_cons (ev_ix ix_seq s_ix (eo_nam 4) (eo_ev ev_int)) el_nil)) em_nil)) (by decide))
  (ess_cons (es_while (kill := []) (passes_of rfl) (et_cmp op_gt s_gt (eo_nam 5) (eo_ev ev_int)) (ess_one (es_for (kill := []) (passes_of rfl) rfl (by decide) (ei_seq (ev_nam 1)) (eg_tp rfl (egs_cons nd_cheapest (egs_cons nd_cheapest egs_nil))) (ess_one (es_if (EW.et (ew_and (et_cmp op_le s_le (eo_nam 7) (eo_nam 5)) (ew_and1 (et_cmp op_notN s_notN (eo_ev (ev_ix ix_seq s_ix (eo_nam 3) (eo_ev (ev_op op_sub s_sub (eo_nam 5) (eo_nam 7))))) (eo_ev ev_non))))) (ess_one (es_if (et_cmp (op_eqD (u64 hr)) s_eq (eo_ev (ev_op op_addA s_add (eo_ev (ev_ix ix_seq s_ix (eo_nam 3) (eo_ev (ev_op op_sub s_sub (eo_nam 5) (eo_nam 7))))) (eo_nam 8))) (eo_ev (ev_ix ix_seq s_ix (eo_nam 3) (eo_nam 5)))) (ess_cons (es_set (i := 9) nd_cheapest (by decide) (ev_op op_addA s_add (eo_ev (ev_tup (el_cons (ev_nam 7) el_nil))) (eo_nam 9)))
  (ess_cons (es_set (i := 5) nd_cheapest (by decide) (ev_op op_sub s_sub (eo_nam 5) (eo_nam 7)))
  (ess_one es_break))) ess_nil)) ess_nil)))))
  (ess_one (es_ret (ev_nam 9)))))))))))
/-! _law_source -/
theorem nd__law_source : (["script", "k", "cell"] : List Str).Nodup := by decide
theorem sc__law_source : FnScope ["script", "k", "cell"] ["script", "k"] (defScope S__law_source) := ⟨rfl, rfl, rfl, by decide +kernel, rfl, by decide +kernel, by decide +kernel⟩
def m__law_source : M D := fnNew 1
  (setS 2 (mIte ((bin2 dLt (nam 1) ((lenS 0).bind fun d => M.ret (.dat d))).bind toB) (opA dAbs (mCons ((opA dInt (mCons ((ixS 0 ((nam 1).bind frz)).bind fun d => M.ret (.dat d)) (mNil))).bind fun d => M.ret (.dat d)) (mNil))) (bin2 dAdd ((bin2 dMul ((M.ret (.int 131)).bind fun d => M.ret (.dat d)) (nam 1)).bind fun d => M.ret (.dat d)) ((M.ret (.int 71)).bind fun d => M.ret (.dat d)))))
  (mLst (mCons (mIte ((bin2 dGt (nam 2) ((bin2 dPow ((M.ret (.int 10)).bind fun d => M.ret (.dat d)) ((M.ret (.int 17)).bind fun d => M.ret (.dat d))).bind fun d => M.ret (.dat d))).bind toB) ((nam 2).bind frz) (M.ret (.int 0))) (mCons (bin2 dMod ((opA dInt (mCons ((bin2 dAdd ((bin2 dAdd ((bin2 dMul (nam 2) ((M.ret (.int 16807)).bind fun d => M.ret (.dat d))).bind fun d => M.ret (.dat d)) ((bin2 dMul ((M.ret (.int 10067)).bind fun d => M.ret (.dat d)) (nam 1)).bind fun d => M.ret (.dat d))).bind fun d => M.ret (.dat d)) ((M.ret (.int 89)).bind fun d => M.ret (.dat d))).bind fun d => M.ret (.dat d)) (mNil))).bind fun d => M.ret (.dat d)) ((M.ret (.int 2147483237)).bind fun d => M.ret (.dat d))) (mNil))))
theorem ok__law_source (h : FxI info K mg base Γ) : Fn Γ P w K mg base (rN K) 1 "_law_source" ["script", "k"] m__law_source := by
  obtain ⟨fd, F⟩ := h.fn 12 d__law_source rfl
  have hb := F.bindsN (ps := ["script", "k"]) fun _ _ _ _ _ _ us hl => match us, hl with | [_, _], _ => rfl
  exact Sk.fn_of F (h.glo "_law_source" (by decide)) hb (fn_okN (k := 0) F sc__law_source (fun cdv A outer s H E hr => (es_set (i := 2) nd__law_source (by decide) (ev_ite (et_cmp op_lt s_lt (eo_nam 1) (eo_ev (ev_lenS 0 (h.free "len" (by decide))))) (ev_cb call_abs sA_abs (h.free "abs" (by decide)) boot_abs (ea_cons (eo_ev (ev_ct call_int1 sA_int (h.free "int" (by decide)) boot_int (ea_cons (eo_ev (ev_ixS 0 (ev_nam 1))) ea_nil))) ea_nil)) (ev_op op_addA s_add (eo_ev (ev_op op_mul s_mul (eo_ev ev_int) (eo_nam 1))) (eo_ev ev_int)))))
  (fun cdv A outer s H E hr => (en_lst (el_cons (ev_ite (et_cmp op_gt s_gt (eo_nam 2) (eo_ev (ev_op op_pow s_pow (eo_ev ev_int) (eo_ev ev_int)))) (ev_nam 2) ev_int) (el_cons (ev_op op_mod s_mod (eo_ev (ev_ct call_int1 sA_int (h.free "int" (by decide)) boot_int (ea_cons (eo_ev (ev_op op_addA s_add (eo_ev (ev_op op_addA s_add (eo_ev (ev_op op_mul s_mul (eo_nam 2) (eo_ev ev_int))) (eo_ev (ev_op op_mul s_mul (eo_ev ev_int) (eo_nam 1))))) (eo_ev ev_int))) ea_nil))) (eo_ev ev_int)) el_nil)))))
/-! _law_draw -/
theorem nd__law_draw : (["source", "many", "rest", "wide"] : List Str).Nodup := by decide
theorem sc__law_draw : FnScope ["source", "many", "rest", "wide"] ["source", "many"] (defScope S__law_draw) := ⟨rfl, rfl, rfl, by decide +kernel, rfl, by decide +kernel, by decide +kernel⟩
def b__law_draw : MS :=
  seqS (iteS ((bin2 dGt ((bin2 dIx (nam 0) ((M.ret (.int 0)).bind fun d => M.ret (.dat d))).bind fun d => M.ret (.dat d)) ((M.ret (.int 0)).bind fun d => M.ret (.dat d))).bind toB) (seqS (setS 2 (bin2 dMod ((opA dInt (mCons ((bin2 dIx (nam 0) ((M.ret (.int 0)).bind fun d => M.ret (.dat d))).bind fun d => M.ret (.dat d)) (mNil))).bind fun d => M.ret (.dat d)) (nam 1)))
  (seqS (putIx 0 (bin2 dDiv ((bin2 dIx (nam 0) ((M.ret (.int 0)).bind fun d => M.ret (.dat d))).bind fun d => M.ret (.dat d)) (nam 1)) (M.ret (.int 0)))
  (retS ((nam 2).bind frz)))) (fun st => .nx st))
  (seqS (putIx 0 (bin2 dMod ((opA dInt (mCons ((bin2 dAdd ((bin2 dMul ((bin2 dIx (nam 0) ((M.ret (.int 1)).bind fun d => M.ret (.dat d))).bind fun d => M.ret (.dat d)) ((M.ret (.int 48271)).bind fun d => M.ret (.dat d))).bind fun d => M.ret (.dat d)) ((M.ret (.int 83)).bind fun d => M.ret (.dat d))).bind fun d => M.ret (.dat d)) (mNil))).bind fun d => M.ret (.dat d)) ((M.ret (.int 2147483237)).bind fun d => M.ret (.dat d))) (M.ret (.int 1)))
  (seqS (setS 3 (bin2 dMod ((opA dInt (mCons ((bin2 dMul ((bin2 dIx (nam 0) ((M.ret (.int 1)).bind fun d => M.ret (.dat d))).bind fun d => M.ret (.dat d)) ((bin2 dAdd ((bin2 dDiv ((bin2 dIx (nam 0) ((M.ret (.int 1)).bind fun d => M.ret (.dat d))).bind fun d => M.ret (.dat d)) ((M.ret (.int 41)).bind fun d => M.ret (.dat d))).bind fun d => M.ret (.dat d)) ((M.ret (.int 26)).bind fun d => M.ret (.dat d))).bind fun d => M.ret (.dat d))).bind fun d => M.ret (.dat d)) (mNil))).bind fun d => M.ret (.dat d)) ((M.ret (.int 2147483179)).bind fun d => M.ret (.dat d))))
  (retS (bin2 dMod ((opA dInt (mCons ((bin2 dDiv (nam 3) ((M.ret (.int 32)).bind fun d => M.ret (.dat d))).bind fun d => M.ret (.dat d)) (mNil))).bind fun d => M.ret (.dat d)) (nam 1)))))
def m__law_draw : M D := fnOf 2 [0] b__law_draw
theorem ok__law_draw (h : FxI info K mg base Γ) : Fn Γ P w K mg base (rP K) 1 "_law_draw" ["source", "many"] m__law_draw := by
  obtain ⟨fd, F⟩ := h.fn 13 d__law_draw rfl
  have hb := F.bindsN (ps := ["source", "many"]) fun _ _ _ _ _ _ us hl => match us, hl with | [_, _], _ => rfl
  exact Sk.fn_of F (h.glo "_law_draw" (by decide)) hb (fn_okC (k := 0) F sc__law_draw fun A outer s H E hr => (ess_cons (es_if (et_cmp op_gt s_gt (eo_ev (ev_ix ix_seq s_ix (eo_nam 0) (eo_ev ev_int))) (eo_ev ev_int)) (ess_cons (es_set (i := 2) nd__law_draw (by decide) (ev_op op_mod s_mod (eo_ev (ev_ct call_int1 sA_int (h.free "int" (by decide)) boot_int (ea_cons (eo_ev (ev_ix ix_seq s_ix (eo_nam 0) (eo_ev ev_int))) ea_nil))) (eo_nam 1)))
  (ess_cons (es_putIx (i := 0) (ev_op op_fdivW s_div (eo_ev (ev_ix ix_seq s_ix (eo_nam 0) (eo_ev ev_int))) (eo_nam 1)) ev_int)
  (ess_one (es_ret (ev_nam 2))))) ess_nil)
  (ess_cons (es_putIx (i := 0) (ev_op op_mod s_mod (eo_ev (ev_ct call_int1 sA_int (h.free "int" (by decide)) boot_int (ea_cons (eo_ev (ev_op op_addA s_add (eo_ev (ev_op op_mul s_mul (eo_ev (ev_ix ix_seq s_ix (eo_nam 0) (eo_ev ev_int))) (eo_ev ev_int))) (eo_ev ev_int))) ea_nil))) (eo_ev ev_int)) ev_int)
  (ess_cons (es_set (i := 3) nd__law_draw (by decide) (ev_op op_mod s_mod (eo_ev (ev_ct call_int1 sA_int (h.free "int" (by decide)) boot_int (ea_cons (eo_ev (ev_op op_mul s_mul (eo_ev (ev_ix ix_seq s_ix (eo_nam 0) (eo_ev ev_int))) (eo_ev (ev_op op_addA s_add (eo_ev (ev_op op_fdivW s_div (eo_ev (ev_ix ix_seq s_ix (eo_nam 0) (eo_ev ev_int))) (eo_ev ev_int))) (eo_ev ev_int))))) ea_nil))) (eo_ev ev_int)))
  (ess_one (es_ret (ev_op op_mod s_mod (eo_ev (ev_ct call_int1 sA_int (h.free "int" (by decide)) boot_int (ea_cons (eo_ev (ev_op op_fdivW s_div (eo_nam 3) (eo_ev ev_int))) ea_nil))) (eo_nam 1))))))))
/-! _law_choice -/
theorem nd__law_choice : (["source", "some"] : List Str).Nodup := by decide
theorem sc__law_choice : FnScope ["source", "some"] ["source", "some"] (defScope S__law_choice) := ⟨rfl, rfl, rfl, by decide +kernel, rfl, by decide +kernel, by decide +kernel⟩
def b__law_choice : MS :=
  retS (bin2 dIx (nam 1) ((callM m__law_draw (mCons (nam 0) (mCons ((opA dLen (mCons (nam 1) (mNil))).bind fun d => M.ret (.dat d)) (mNil)))).bind fun d => M.ret (.dat d)))
def m__law_choice : M D := fnOf 0 [0] b__law_choice
theorem ok__law_choice (h : FxI info K mg base Γ) : Fn Γ P w K mg base (rP K) 2 "_law_choice" ["source", "some"] m__law_choice := by
  obtain ⟨fd, F⟩ := h.fn 14 d__law_choice rfl
  have hb := F.bindsN (ps := ["source", "some"]) fun _ _ _ _ _ _ us hl => match us, hl with | [_, _], _ => rfl
  exact Sk.fn_of F (h.glo "_law_choice" (by decide)) hb (fn_okC (k := 1) F sc__law_choice fun A outer s H E hr => (ess_one (es_ret (ev_ix ix_seq s_ix (eo_nam 1) (eo_ev (ev_fn (ok__law_draw h) hr (by decide) (takes_of rfl rfl rfl rfl) (len_cons (len_cons len_nil)) (ea_cons (eo_nam 0) (ea_cons (eo_ev (ev_cb call_len sA_len (h.free "len" (by decide)) boot_len (ea_cons (eo_nam 1) ea_nil))) ea_nil))))))))
/-! _law_ford -/
theorem nd__law_ford : (["source", "some", "turn"] : List Str).Nodup := by decide
theorem sc__law_ford : FnScope ["source", "some", "turn"] ["source"] (defScope S__law_ford) := ⟨rfl, rfl, rfl, by decide +kernel, rfl, by decide +kernel, by decide +kernel⟩
def C1__law_ford : M D :=
  callM m__law_choice (mCons (nam 0) (mCons (nam 1) (mNil)))
def b__law_ford : MS :=
  seqS (setS 1 (callM m__law_choice (mCons (nam 0) (mCons ((mLst (mCons (mLst (mCons (M.ret (.int 0)) (mCons (M.ret (.int 1)) (mNil)))) (mCons (mLst (mCons (M.ret (.int 0)) (mCons (M.ret (.int 1)) (mCons (M.ret (.int 1)) (mCons (M.ret (.int 2)) (mNil)))))) (mCons (mLst (mCons (M.ret (.int 1)) (mCons (M.ret (.int 2)) (mCons (M.ret (.int 3)) (mCons (M.ret (.int 0)) (mNil)))))) (mCons (mLst (mCons (M.ret (.int 1)) (mCons (M.ret (.int 1)) (mCons (M.ret (.int 1)) (mCons (M.ret (.int 0)) (mNil)))))) (mNil)))))).bind fun d => M.ret (.dat d)) (mNil)))))
  (retS (opA dTup (mCons ((lcM (.nm 2) (rng1M (bin2 dAdd ((M.ret (.int 1)).bind fun d => M.ret (.dat d)) ((callM m__law_draw (mCons (nam 0) (mCons ((M.ret (.int 8)).bind fun d => M.ret (.dat d)) (mNil)))).bind fun d => M.ret (.dat d)))) (M.ret true) (C1__law_ford) [2]).bind fun d => M.ret (.dat d)) (mNil))))
def m__law_ford : M D := fnOf 2 [0] b__law_ford
theorem ok__law_ford (h : FxI info K mg base Γ) : Fn Γ P w K mg base (rP K) 3 "_law_ford" ["source"] m__law_ford := by
  obtain ⟨fd, F⟩ := h.fn 15 d__law_ford rfl
  have hb := F.bindsN (ps := ["source"]) fun _ _ _ _ _ _ us hl => match us, hl with | [_], _ => rfl
  exact Sk.fn_of F (h.glo "_law_ford" (by decide)) hb (fn_okC (k := 2) F sc__law_ford fun A outer s H E hr => (ess_cons (es_set (i := 1) nd__law_ford (by decide) (ev_fn (ok__law_choice h) hr (by decide) (takes_of rfl rfl rfl rfl) (len_cons (len_cons len_nil)) (ea_cons (eo_nam 0) (ea_cons (eo_ev (ev_en (en_lst (el_cons (ev_en (en_lst (el_cons ev_int (el_cons ev_int el_nil)))) (el_cons (ev_en (en_lst (el_cons ev_int (el_cons ev_int (el_cons ev_int (el_cons ev_int el_nil)))))) (el_cons (ev_en (en_lst (el_cons ev_int (el_cons ev_int (el_cons ev_int (el_cons ev_int el_nil)))))) (el_cons (ev_en (en_lst (el_cons ev_int (el_cons ev_int (el_cons ev_int (el_cons ev_int el_nil)))))) el_nil))))))) ea_nil))))
  (ess_one (es_ret (ev_ct call_tupF sA_tup (h.free "tuple" (by decide)) boot_tuple (ea_cons (eo_ev (ev_en (en_lc [("turn", 2)] (g := gName 2) rfl nd__law_ford (ei_rng1 (ev_op op_addA s_add (eo_ev ev_int) (eo_ev (ev_fn (ok__law_draw h) hr (by decide) (takes_of rfl rfl rfl rfl) (len_cons (len_cons len_nil)) (ea_cons (eo_nam 0) (ea_cons (eo_ev ev_int) ea_nil))))) (h.free "range" (by decide))) (blkOk_by (by rfl)) (by decide) (fun s H C cl fp => (eg_nm nd__law_ford)) (fun s H C cl fp => ets_nil) (fun s H C cl fp => (ev_fn (ok__law_choice h) hr (by decide) L2.takes0 (len_cons (len_cons len_nil)) (ea_cons (eo_nam 0) (ea_cons (eo_nam 1) ea_nil))))))) ea_nil))))))
/-! _law_gait -/
theorem nd__law_gait : (["source", "most", "found", "length"] : List Str).Nodup := by decide
theorem sc__law_gait : FnScope ["source", "most", "found", "length"] ["source"] (defScope S__law_gait) := ⟨rfl, rfl, rfl, by decide +kernel, rfl, by decide +kernel, by decide +kernel⟩
def L1__law_gait : MS :=
  iteS (mAnd ((bin2 dLt ((opA dLen (mCons (nam 2) (mNil))).bind fun d => M.ret (.dat d)) ((M.ret (.int 4)).bind fun d => M.ret (.dat d))).bind toB) ((bin2 dLt ((callM m__law_draw (mCons (nam 0) (mCons ((M.ret (.int 5)).bind fun d => M.ret (.dat d)) (mNil)))).bind fun d => M.ret (.dat d)) ((M.ret (.int 2)).bind fun d => M.ret (.dat d))).bind toB)) (setS 2 (bin2 dAdd (nam 2) ((mTup (mCons (mTup (mCons ((nam 3).bind frz) (mCons (callM m__law_draw (mCons (nam 0) (mCons ((bin2 dAdd (nam 1) ((M.ret (.int 1)).bind fun d => M.ret (.dat d))).bind fun d => M.ret (.dat d)) (mNil)))) (mNil)))) (mNil))).bind fun d => M.ret (.dat d)))) (fun st => .nx st)
def b__law_gait : MS :=
  seqS (setS 1 (callM m__law_choice (mCons (nam 0) (mCons ((mLst (mCons (M.ret (.int 3)) (mCons (M.ret (.int 6)) (mCons (M.ret (.int 9)) (mNil))))).bind fun d => M.ret (.dat d)) (mNil)))))
  (seqS (setS 2 (mTup (mNil)))
  (seqS (forS (.nm 3) (rng2M (M.ret (.int 1)) (M.ret (.int 7))) (L1__law_gait) [])
  (seqS (iteS ((bin2 dEq (nam 2) ((mTup (mNil)).bind fun d => M.ret (.dat d))).bind toB) (setS 2 (mTup (mCons (mTup (mCons (callM m__law_choice (mCons (nam 0) (mCons ((mLst (mCons (M.ret (.int 1)) (mCons (M.ret (.int 2)) (mCons (M.ret (.int 3)) (mNil))))).bind fun d => M.ret (.dat d)) (mNil)))) (mCons (bin2 dAdd ((M.ret (.int 1)).bind fun d => M.ret (.dat d)) ((callM m__law_draw (mCons (nam 0) (mCons (nam 1) (mNil)))).bind fun d => M.ret (.dat d))) (mNil)))) (mNil)))) (fun st => .nx st))
  (retS ((nam 2).bind frz)))))
def m__law_gait : M D := fnOf 3 [0] b__law_gait
theorem ok__law_gait (h : FxI info K mg base Γ) : Fn Γ P w K mg base (rP K) 3 "_law_gait" ["source"] m__law_gait := by
  obtain ⟨fd, F⟩ := h.fn 16 d__law_gait rfl
  have hb := F.bindsN (ps := ["source"]) fun _ _ _ _ _ _ us hl => match us, hl with | [_], _ => rfl
  exact Sk.fn_of F (h.glo "_law_gait" (by decide)) hb (fn_okC (k := 2) F sc__law_gait fun A outer s H E hr => (ess_cons (es_set (i := 1) nd__law_gait (by decide) (ev_fn (ok__law_choice h) hr (by decide) (takes_of rfl rfl rfl rfl) (len_cons (len_cons len_nil)) (ea_cons (eo_nam 0) (ea_cons (eo_ev (ev_en (en_lst (el_cons ev_int (el_cons ev_int (el_cons ev_int el_nil)))))) ea_nil))))
  (ess_cons (es_set (i := 2) nd__law_gait (by decide) (ev_tup el_nil))
  (ess_cons (es_for (kill := []) (passes_of rfl) rfl (by decide) (ei_rng2 ev_int ev_int (h.free "range" (by decide))) (eg_nm nd__law_gait) (ess_one (es_if (EW.et (ew_and (et_cmp op_lt s_lt (eo_ev (ev_cb call_len sA_len (h.free "len" (by decide)) boot_len (ea_cons (eo_nam 2) ea_nil))) (eo_ev ev_int)) (ew_and1 (et_cmp op_lt s_lt (eo_ev (ev_fn (ok__law_draw h) hr (by decide) (takes_of rfl rfl rfl rfl) (len_cons (len_cons len_nil)) (ea_cons (eo_nam 0) (ea_cons (eo_ev ev_int) ea_nil)))) (eo_ev ev_int))))) (ess_one (es_set (i := 2) nd__law_gait (by decide) (ev_op op_addA s_add (eo_nam 2) (eo_ev (ev_tup (el_cons (ev_tup (el_cons (ev_nam 3) (el_cons (ev_fn (ok__law_draw h) hr (by decide) (takes_of rfl rfl rfl rfl) (len_cons (len_cons len_nil)) (ea_cons (eo_nam 0) (ea_cons (eo_ev (ev_op op_addA s_add (eo_nam 1) (eo_ev ev_int))) ea_nil))) el_nil))) el_nil)))))) ess_nil)))
  (ess_cons (es_if (et_cmp (op_eqD (u64 hr)) s_eq (eo_nam 2) (eo_ev (ev_tup el_nil))) (ess_one (es_set (i := 2) nd__law_gait (by decide) (ev_tup (el_cons (ev_tup (el_cons (ev_fn (ok__law_choice h) hr (by decide) (takes_of rfl rfl rfl rfl) (len_cons (len_cons len_nil)) (ea_cons (eo_nam 0) (ea_cons (eo_ev (ev_en (en_lst (el_cons ev_int (el_cons ev_int (el_cons ev_int el_nil)))))) ea_nil))) (el_cons (ev_op op_addA s_add (eo_ev ev_int) (eo_ev (ev_fn (ok__law_draw h) hr (by decide) (takes_of rfl rfl rfl rfl) (len_cons (len_cons len_nil)) (ea_cons (eo_nam 0) (ea_cons (eo_nam 1) ea_nil))))) el_nil))) el_nil)))) ess_nil)
  (ess_one (es_ret (ev_nam 2))))))))
/-! _law_stone -/
theorem nd__law_stone : (["ford", "place"] : List Str).Nodup := by decide
theorem sc__law_stone : FnScope ["ford", "place"] ["ford", "place"] (defScope S__law_stone) := ⟨rfl, rfl, rfl, by decide +kernel, rfl, by decide +kernel, by decide +kernel⟩
def b__law_stone : MS :=
  retS (bin2 dIx (nam 0) ((bin2 dMod ((bin2 dSub (nam 1) ((M.ret (.int 1)).bind fun d => M.ret (.dat d))).bind fun d => M.ret (.dat d)) ((opA dLen (mCons (nam 0) (mNil))).bind fun d => M.ret (.dat d))).bind fun d => M.ret (.dat d)))
def m__law_stone : M D := fnOf 0 [] b__law_stone
theorem ok__law_stone (h : FxI info K mg base Γ) : Fn Γ P w K mg base (rP K) 1 "_law_stone" ["ford", "place"] m__law_stone := by
  obtain ⟨fd, F⟩ := h.fn 17 d__law_stone rfl
  have hb := F.bindsN (ps := ["ford", "place"]) fun _ _ _ _ _ _ us hl => match us, hl with | [_, _], _ => rfl
  exact Sk.fn_of F (h.glo "_law_stone" (by decide)) hb (fn_okC (k := 0) F sc__law_stone fun A outer s H E hr => (ess_one (es_ret (ev_ix ix_seq s_ix (eo_nam 0) (eo_ev (ev_op op_mod s_mod (eo_ev (ev_op op_sub s_sub (eo_nam 1) (eo_ev ev_int))) (eo_ev (ev_cb call_len sA_len (h.free "len" (by decide)) boot_len (ea_cons (eo_nam 0) ea_nil)))))))))
/-! _law_toils -/
theorem nd__law_toils : (["ford", "gait", "most", "found", "place", "some", "length", "toil"] : List Str).Nodup := by decide
theorem sc__law_toils : FnScope ["ford", "gait", "most", "found", "place", "some", "length", "toil"] ["ford", "gait", "most"] (defScope S__law_toils) := ⟨rfl, rfl, rfl, by decide +kernel, rfl, by decide +kernel, by decide +kernel⟩
def L1__law_toils : MS :=
  iteS (mAnd ((bin2 dGt ((callM m__law_stone (mCons (nam 0) (mCons (nam 4) (mNil)))).bind fun d => M.ret (.dat d)) ((M.ret (.int 0)).bind fun d => M.ret (.dat d))).bind toB) (mAnd ((bin2 dLe (nam 6) (nam 4)).bind toB) ((bin2 dNotN ((bin2 dIx (nam 3) ((bin2 dSub (nam 4) (nam 6)).bind fun d => M.ret (.dat d))).bind fun d => M.ret (.dat d)) ((M.ret .none).bind fun d => M.ret (.dat d))).bind toB))) (drpS (appM 5 (bin2 dAdd ((bin2 dIx (nam 3) ((bin2 dSub (nam 4) (nam 6)).bind fun d => M.ret (.dat d))).bind fun d => M.ret (.dat d)) (nam 7)))) (fun st => .nx st)
def L2__law_toils : MS :=
  seqS (setN 5 (mLst (mNil)))
  (seqS (forS (.tp [6, 7]) (seqM ((nam 1).bind frz)) (L1__law_toils) [])
  (drpS (appM 3 (mIte ((bin2 dNe (nam 5) ((mLst (mNil)).bind fun d => M.ret (.dat d))).bind toB) (opA (dMx min) (mCons (nam 5) (mNil))) (M.ret .none)))))
def b__law_toils : MS :=
  seqS (setN 3 (mLst (mCons (M.ret (.int 0)) (mNil))))
  (seqS (forS (.nm 4) (rng2M (M.ret (.int 1)) (bin2 dAdd (nam 2) ((M.ret (.int 1)).bind fun d => M.ret (.dat d)))) (L2__law_toils) [])
  (retS ((nam 3).bind frz)))
def m__law_toils : M D := fnOf 5 [] b__law_toils
theorem ok__law_toils (h : FxI info K mg base Γ) : Fn Γ P w K mg base (rP K) 2 "_law_toils" ["ford", "gait", "most"] m__law_toils := by
  obtain ⟨fd, F⟩ := h.fn 18 d__law_toils rfl
  have hb := F.bindsN (ps := ["ford", "gait", "most"]) fun _ _ _ _ _ _ us hl => match us, hl with | [_, _, _], _ => rfl
  exact Sk.fn_of F (h.glo "_law_toils" (by decide)) hb (fn_okC (k := 1) F sc__law_toils fun A outer s H E hr => (ess_cons (es_setN (i := 3) nd__law_toils (by decide) (en_lst (el_cons ev_int el_nil)))
  (ess_cons (es_for (kill := []) (passes_of rfl) rfl (by decide) (ei_rng2 ev_int (ev_op op_addA s_add (eo_nam 2) (eo_ev ev_int)) (h.free "range" (by decide))) (eg_nm nd__law_toils) (ess_cons (es_setN (i := 5) nd__law_toils (by decide) (en_lst el_nil))
  (ess_cons (es_for (kill := []) (passes_of rfl) rfl (by decide) (ei_seq (ev_nam 1)) (eg_tp rfl (egs_cons nd__law_toils (egs_cons nd__law_toils egs_nil))) (ess_one (es_if (EW.et (ew_and (et_cmp op_gt s_gt (eo_ev (ev_fn (ok__law_stone h) hr (by decide) (takes_of rfl rfl rfl rfl) (len_cons (len_cons len_nil)) (ea_cons (eo_nam 0) (ea_cons (eo_nam 4) ea_nil)))) (eo_ev ev_int)) (ew_and (et_cmp op_le s_le (eo_nam 6) (eo_nam 4)) (ew_and1 (et_cmp op_notN s_notN (eo_ev (ev_ix ix_seq s_ix (eo_nam 3) (eo_ev (ev_op op_sub s_sub (eo_nam 4) (eo_nam 6))))) (eo_ev ev_non)))))) (ess_one (es_expr (ev_app (i := 5) (ev_op op_addA s_add (eo_ev (ev_ix ix_seq s_ix (eo_nam 3) (eo_ev (ev_op op_sub s_sub (eo_nam 4) (eo_nam 6))))) (eo_nam 7))))) ess_nil)))
  (ess_one (es_expr (ev_app (i := 3) (ev_ite (et_cmp (op_neD (u64 hr)) s_ne (eo_nam 5) (eo_ev (ev_en (en_lst el_nil)))) (ev_cb (call_minI rfl (u64 hr)) (sA_mx min) (h.free "min" (by decide)) boot_min (ea_cons (eo_nam 5) ea_nil)) ev_non)))))))
  (ess_one (es_ret (ev_nam 3))))))
/-! _law_over -/
theorem nd__law_over : (["toils", "gait", "n", "some", "length", "toil", "place"] : List Str).Nodup := by decide
theorem sc__law_over : FnScope ["toils", "gait", "n", "some", "length", "toil", "place"] ["toils", "gait", "n"] (defScope S__law_over) := ⟨rfl, rfl, rfl, by decide +kernel, rfl, by decide +kernel, by decide +kernel⟩
def L1__law_over : MS :=
  iteS ((bin2 dNotN ((bin2 dIx (nam 0) (nam 6)).bind fun d => M.ret (.dat d)) ((M.ret .none).bind fun d => M.ret (.dat d))).bind toB) (drpS (appM 3 (bin2 dAdd ((bin2 dIx (nam 0) (nam 6)).bind fun d => M.ret (.dat d)) (nam 5)))) (fun st => .nx st)
def L2__law_over : MS :=
  forS (.nm 6) (rng2M (opA dMax2 (mCons ((M.ret (.int 0)).bind fun d => M.ret (.dat d)) (mCons ((bin2 dSub ((bin2 dAdd (nam 2) ((M.ret (.int 1)).bind fun d => M.ret (.dat d))).bind fun d => M.ret (.dat d)) (nam 4)).bind fun d => M.ret (.dat d)) (mNil)))) (bin2 dAdd (nam 2) ((M.ret (.int 1)).bind fun d => M.ret (.dat d)))) (L1__law_over) []
def b__law_over : MS :=
  seqS (setN 3 (mLst (mNil)))
  (seqS (forS (.tp [4, 5]) (seqM ((nam 1).bind frz)) (L2__law_over) [])
  (retS (mIte ((bin2 dNe (nam 3) ((mLst (mNil)).bind fun d => M.ret (.dat d))).bind toB) (opA (dMx min) (mCons (nam 3) (mNil))) (M.ret .none))))
def m__law_over : M D := fnOf 4 [] b__law_over
theorem ok__law_over (h : FxI info K mg base Γ) : Fn Γ P w K mg base (rP K) 1 "_law_over" ["toils", "gait", "n"] m__law_over := by
  obtain ⟨fd, F⟩ := h.fn 19 d__law_over rfl
  have hb := F.bindsN (ps := ["toils", "gait", "n"]) fun _ _ _ _ _ _ us hl => match us, hl with | [_, _, _], _ => rfl
  exact Sk.fn_of F (h.glo "_law_over" (by decide)) hb (fn_okC (k := 0) F sc__law_over fun A outer s H E hr => (ess_cons (es_setN (i := 3) nd__law_over (by decide) (en_lst el_nil))
  (ess_cons (es_for (kill := []) (passes_of rfl) rfl (by decide) (ei_seq (ev_nam 1)) (eg_tp rfl (egs_cons nd__law_over (egs_cons nd__law_over egs_nil))) (ess_one (es_for (kill := []) (passes_of rfl) rfl (by decide) (ei_rng2 (ev_cb (call_max2 rfl) sA_max (h.free "max" (by decide)) boot_max (ea_cons (eo_ev ev_int) (ea_cons (eo_ev (ev_op op_sub s_sub (eo_ev (ev_op op_addA s_add (eo_nam 2) (eo_ev ev_int))) (eo_nam 4))) ea_nil))) (ev_op op_addA s_add (eo_nam 2) (eo_ev ev_int)) (h.free "range" (by decide))) (eg_nm nd__law_over) (ess_one (es_if (et_cmp op_notN s_notN (eo_ev (ev_ix ix_seq s_ix (eo_nam 0) (eo_nam 6))) (eo_ev ev_non)) (ess_one (es_expr (ev_app (i := 3) (ev_op op_addA s_add (eo_ev (ev_ix ix_seq s_ix (eo_nam 0) (eo_nam 6))) (eo_nam 5))))) ess_nil)))))
  (ess_one (es_ret (ev_ite (et_cmp (op_neD (u64 hr)) s_ne (eo_nam 3) (eo_ev (ev_en (en_lst el_nil)))) (ev_cb (call_minI rfl (u64 hr)) (sA_mx min) (h.free "min" (by decide)) boot_min (ea_cons (eo_nam 3) ea_nil)) ev_non))))))
/-! _law_toil -/
theorem nd__law_toil : (["ford", "gait", "n", "walk", "toils", "place", "found", "length"] : List Str).Nodup := by decide
theorem sc__law_toil : FnScope ["ford", "gait", "n", "walk", "toils", "place", "found", "length"] ["ford", "gait", "n", "walk"] (defScope S__law_toil) := ⟨rfl, rfl, rfl, by decide +kernel, rfl, by decide +kernel, by decide +kernel⟩
def L1__law_toil : MS :=
  seqS (iteS (mOr ((bin2 dGt (nam 5) (nam 2)).bind toB) ((bin2 dkNotIn (nam 7) (nam 4)).bind toB)) (retS (M.ret .none)) (fun st => .nx st))
  (seqS (putS [5, 6] (mDat (bin2 dAdd (nam 5) (nam 7)) (mDat (bin2 dAdd (nam 6) ((bin2 dkGet (nam 4) (nam 7)).bind fun d => M.ret (.dat d))) (mNil))))
  (iteS (mAnd ((bin2 dLe (nam 5) (nam 2)).bind toB) ((bin2 dEq ((callM m__law_stone (mCons (nam 0) (mCons (nam 5) (mNil)))).bind fun d => M.ret (.dat d)) ((M.ret (.int 0)).bind fun d => M.ret (.dat d))).bind toB)) (retS (M.ret .none)) (fun st => .nx st)))
def b__law_toil : MS :=
  seqS (putS [4, 5, 6] (mDat (opA dDict (mCons (nam 1) (mNil))) (mDat (M.ret (.int 0)) (mDat (M.ret (.int 0)) (mNil)))))
  (seqS (forS (.nm 7) (seqM ((nam 3).bind frz)) (L1__law_toil) [])
  (retS (mIte ((bin2 dGt (nam 5) (nam 2)).bind toB) ((nam 6).bind frz) (M.ret .none))))
def m__law_toil : M D := fnOf 4 [] b__law_toil
theorem ok__law_toil (h : FxI info K mg base Γ) : Fn Γ P w K mg base (rP K) 2 "_law_toil" ["ford", "gait", "n", "walk"] m__law_toil := by
  obtain ⟨fd, F⟩ := h.fn 20 d__law_toil rfl
  have hb := F.bindsN (ps := ["ford", "gait", "n", "walk"]) fun _ _ _ _ _ _ us hl => match us, hl with | [_, _, _, _], _ => rfl
  exact Sk.fn_of F (h.glo "_law_toil" (by decide)) hb (fn_okC (k := 1) F sc__law_toil fun A outer s H E hr => (ess_cons (es_par3 rfl nd__law_toil (by decide) (em_dat (ev_en (en_ct (call_dictF rfl) sA_dict (h.free "dict" (by decide)) boot_dict (ea_cons (eo_nam 1) ea_nil))) (em_dat ev_int (em_dat ev_int em_nil))) (by decide) (by decide) (by decide))
  (ess_cons (es_for (kill := []) (passes_of rfl) rfl (by decide) (ei_seq (ev_nam 3)) (eg_nm nd__law_toil) (ess_cons (es_if (EW.et (ew_or (et_cmp op_gt s_gt (eo_nam 5) (eo_nam 2)) (ew_or1 (et_dnotin (room_units hr) (eo_nam 7) (eo_nam 4))))) (ess_one (es_ret ev_non)) ess_nil)
  (ess_cons (es_par rfl nd__law_toil (by decide) (em_dat (ev_op op_addA s_add (eo_nam 5) (eo_nam 7)) (em_dat (ev_op op_addA s_add (eo_nam 6) (eo_ev (ev_dget (room_units hr) (eo_nam 4) (eo_nam 7)))) em_nil)) (by decide))
  (ess_one (es_if (EW.et (ew_and (et_cmp op_le s_le (eo_nam 5) (eo_nam 2)) (ew_and1 (et_cmp (op_eqD (u64 hr)) s_eq (eo_ev (ev_fn (ok__law_stone h) hr (by decide) (takes_of rfl rfl rfl rfl) (len_cons (len_cons len_nil)) (ea_cons (eo_nam 0) (ea_cons (eo_nam 5) ea_nil)))) (eo_ev ev_int))))) (ess_one (es_ret ev_non)) ess_nil)))))
  (ess_one (es_ret (ev_ite (et_cmp op_gt s_gt (eo_nam 5) (eo_nam 2)) (ev_nam 6) ev_non))))))
/-! _law_right -/
theorem nd__law_right : (["ford", "gait", "n", "toils", "found", "due"] : List Str).Nodup := by decide
theorem sc__law_right : FnScope ["ford", "gait", "n", "toils", "found", "due"] ["ford", "gait", "n", "toils"] (defScope S__law_right) := ⟨rfl, rfl, rfl, by decide +kernel, rfl, by decide +kernel, by decide +kernel⟩
noncomputable def b__law_right : MS :=
  seqS (putS [4, 5] (mDat (callM m_cheapest (mCons (nam 0) (mCons (nam 1) (mCons (nam 2) (mNil))))) (mDat (callM m__law_over (mCons (nam 3) (mCons (nam 1) (mCons (nam 2) (mNil))))) (mNil))))
  (seqS (iteS (mOr ((bin2 dIsN (nam 4) ((M.ret .none).bind fun d => M.ret (.dat d))).bind toB) ((bin2 dIsN (nam 5) ((M.ret .none).bind fun d => M.ret (.dat d))).bind toB)) (retS (vAnd (bin2 dIsN (nam 4) ((M.ret .none).bind fun d => M.ret (.dat d))) (bin2 dIsN (nam 5) ((M.ret .none).bind fun d => M.ret (.dat d))))) (fun st => .nx st))
  (retS (vAnd (isiM "tuple" (nam 4)) (bin2 dEq ((callM m__law_toil (mCons (nam 0) (mCons (nam 1) (mCons (nam 2) (mCons (nam 4) (mNil)))))).bind fun d => M.ret (.dat d)) (nam 5)))))
noncomputable def m__law_right : M D := fnOf 2 [] b__law_right
theorem ok__law_right (h : FxI info K mg base Γ) : Fn Γ P w K mg base (rP K) 7 "_law_right" ["ford", "gait", "n", "toils"] m__law_right := by
  obtain ⟨fd, F⟩ := h.fn 21 d__law_right rfl
  have hb := F.bindsN (ps := ["ford", "gait", "n", "toils"]) fun _ _ _ _ _ _ us hl => match us, hl with | [_, _, _, _], _ => rfl
  exact Sk.fn_of F (h.glo "_law_right" (by decide)) hb (fn_okC (k := 6) F sc__law_right fun A outer s H E hr => (ess_cons (es_par rfl nd__law_right (by decide) (em_dat (ev_fn (ok_cheapest h) hr (by decide) (takes_of rfl rfl rfl rfl) (len_cons (len_cons (len_cons len_nil))) (ea_cons (eo_nam 0) (ea_cons (eo_nam 1) (ea_cons (eo_nam 2) ea_nil)))) (em_dat (ev_fn (ok__law_over h) hr (by decide) (takes_of rfl rfl rfl rfl) (len_cons (len_cons (len_cons len_nil))) (ea_cons (eo_nam 3) (ea_cons (eo_nam 1) (ea_cons (eo_nam 2) ea_nil)))) em_nil)) (by decide))
  (ess_cons (es_if (EW.et (ew_or (et_cmp op_isN s_isN (eo_nam 4) (eo_ev ev_non)) (ew_or1 (et_cmp op_isN s_isN (eo_nam 5) (eo_ev ev_non))))) (ess_one (es_ret (ev_and (ev_cmp op_isN s_isN (eo_nam 4) (eo_ev ev_non)) (ev_one (ev_cmp op_isN s_isN (eo_nam 5) (eo_ev ev_non)))))) ess_nil)
  (ess_one (es_ret (ev_and (ev_isi (T := "tuple") (.inr (.inr (.inr (.inl rfl)))) (h.free "isinstance" (by decide)) (h.free "tuple" (by decide)) boot_tuple (eo_nam 4)) (ev_one (ev_cmp (op_eqD (u64 hr)) s_eq (eo_ev (ev_fn (ok__law_toil h) hr (by decide) (takes_of rfl rfl rfl rfl) (len_cons (len_cons (len_cons (len_cons len_nil)))) (ea_cons (eo_nam 0) (ea_cons (eo_nam 1) (ea_cons (eo_nam 2) (ea_cons (eo_nam 4) ea_nil)))))) (eo_nam 5)))))))))
/-! _law_word -/
theorem sc__law_word : FnScope ["call", "found"] ["call"] (defScope S__law_word) := ⟨rfl, rfl, rfl, by decide +kernel, rfl, by decide +kernel, by decide +kernel⟩
theorem wf__law_word (h : FxI info K mg base Γ) : WordF Γ K mg "_law_word" false [(0, "ford"), (1, "gait"), (2, "width")] := by
  obtain ⟨fd, F⟩ := h.fn 22 d__law_word rfl
  have hb := F.bindsN (ps := ["call"]) fun _ _ _ _ _ _ us hl => match us, hl with | [_], _ => rfl
  obtain ⟨oc, od, dV, kV, doc, pm, an, ct, osl, e, lk, hc⟩ := fun_code F
  subst e
  exact ⟨_, _, _, _, _, _, _, _, _, _, _, _, _, _, ["call", "found"], "call", h.glo "_law_word" (by decide), F.kp, lk, hc, hb, sc__law_word, rfl, .inl rfl, by decide, by decide, fun X q e1 e2 => by
    subst e1 e2
    exact word_gives (p4 := ⟨0, 0, 0, 0⟩) (by decide) rfl rfl rfl (by decide) (by decide) (.inr ⟨rfl, rfl⟩) (hh := fun s H => (WHs.cons (hc := names_of rfl (by decide) (h.exc 0 "InvalidFord" rfl).g) (r := (WHs.cons (hc := names_of rfl (by decide) (h.exc 1 "InvalidGait" rfl).g) (r := (WHs.cons (hc := names_of rfl (by decide) (h.exc 2 "InvalidWidth" rfl).g) (r := .nil)))))))⟩
/-! law -/
theorem nd_law : (["script", "k", "source", "turn", "ford", "gait", "toils", "n", "words", "again"] : List Str).Nodup := by decide
theorem sc_law : FnScope ["script", "k", "source", "turn", "ford", "gait", "toils", "n", "words", "again"] ["script"] (defScope S_law) := ⟨rfl, rfl, rfl, by decide +kernel, rfl, by decide +kernel, by decide +kernel⟩
noncomputable def C1_law : M D :=
  callM m__law_draw (mCons (nam 2) (mCons ((M.ret (.int 61)).bind fun d => M.ret (.dat d)) (mNil)))
noncomputable def L1_law : MS :=
  iteS (mNot ((callM m__law_right (mCons (nam 4) (mCons (nam 5) (mCons (nam 7) (mCons (nam 6) (mNil)))))).bind toB)) (retS (M.ret (.bool false))) (fun st => .nx st)
noncomputable def L2_law : MS :=
  seqS (putS [4, 5] (mDat (callM m__law_ford (mCons (nam 2) (mNil))) (mDat (callM m__law_gait (mCons (nam 2) (mNil))) (mNil))))
  (seqS (setS 6 (callM m__law_toils (mCons (nam 4) (mCons (nam 5) (mCons ((M.ret (.int 60)).bind fun d => M.ret (.dat d)) (mNil))))))
  (forS (.nm 7) (seqM (bin2 dCat (((M.ret (.int 13)).bind fun d => M.opt (dLstRg d)).bind fun d => M.ret (.dat d)) ((lcM (.nm 9) (rng1M (M.ret (.int 4))) (M.ret true) (C1_law) [9]).bind fun d => M.ret (.dat d)))) (L1_law) []))
noncomputable def L3_law : MS :=
  seqS (setN 2 (callM m__law_source (mCons (nam 0) (mCons (nam 1) (mNil)))))
  (seqS (forS (.nm 3) (rng1M (M.ret (.int 4))) (L2_law) [])
  (seqS (setN 8 (mLst (mCons (wordM false 3 [(0, "ford"), (1, "gait"), (2, "width")] (callM m_cheapest (mCons ((mTup (mCons (M.ret (.int 4)) (mNil))).bind fun d => M.ret (.dat d)) (mCons ((M.ret .none).bind fun d => M.ret (.dat d)) (mCons ((M.ret (.int 61)).bind fun d => M.ret (.dat d)) (mNil)))))) (mNil))))
  (seqS (drpS (appM 8 (wordM false 3 [(0, "ford"), (1, "gait"), (2, "width")] (callM m_cheapest (mCons (nam 4) (mCons ((mTup (mNil)).bind fun d => M.ret (.dat d)) (mCons ((M.ret (.int 61)).bind fun d => M.ret (.dat d)) (mNil))))))))
  (seqS (drpS (appM 8 (wordM false 3 [(0, "ford"), (1, "gait"), (2, "width")] (callM m_cheapest (mCons (nam 4) (mCons (nam 5) (mCons ((M.ret (.int 61)).bind fun d => M.ret (.dat d)) (mNil))))))))
  (seqS (drpS (appM 8 (wordM false 3 [(0, "ford"), (1, "gait"), (2, "width")] (callM m_cheapest (mCons (nam 4) (mCons (nam 5) (mCons ((M.ret (.bool true)).bind fun d => M.ret (.dat d)) (mNil))))))))
  (seqS (drpS (appM 8 (wordM false 3 [(0, "ford"), (1, "gait"), (2, "width")] (callM m_cheapest (mCons (nam 4) (mCons (nam 5) (mCons ((M.ret (.int 60)).bind fun d => M.ret (.dat d)) (mNil))))))))
  (iteS ((bin2 dNe (nam 8) ((mLst (mCons (M.ret (.str "ford")) (mCons (M.ret (.str "gait")) (mCons (M.ret (.str "width")) (mCons (M.ret (.str "width")) (mCons (M.ret (.str "")) (mNil))))))).bind fun d => M.ret (.dat d))).bind toB) (retS (M.ret (.bool false))) (fun st => .nx st))))))))
noncomputable def b_law : MS :=
  seqS (forS (.nm 1) (rng1M (bin2 dAdd ((M.ret (.int 1)).bind fun d => M.ret (.dat d)) ((opA dMin2 (mCons ((lenS 0).bind fun d => M.ret (.dat d)) (mCons ((M.ret (.int 8)).bind fun d => M.ret (.dat d)) (mNil)))).bind fun d => M.ret (.dat d)))) (L3_law) [])
  (seqS (putS [4, 5] (mDat (mTup (mCons (M.ret (.int 1)) (mCons (M.ret (.int 1)) (mCons (M.ret (.int 0)) (mNil))))) (mDat (mTup (mCons (mTup (mCons (M.ret (.int 1)) (mCons (M.ret (.int 2)) (mNil)))) (mCons (mTup (mCons (M.ret (.int 2)) (mCons (M.ret (.int 3)) (mNil)))) (mNil)))) (mNil))))
  (seqS (iteS (mOr ((bin2 dNe ((callM m_cheapest (mCons (nam 4) (mCons (nam 5) (mCons ((M.ret (.int 3)).bind fun d => M.ret (.dat d)) (mNil))))).bind fun d => M.ret (.dat d)) ((mTup (mCons (M.ret (.int 2)) (mCons (M.ret (.int 2)) (mNil)))).bind fun d => M.ret (.dat d))).bind toB) ((bin2 dNotN ((callM m_cheapest (mCons (nam 4) (mCons ((sliM dCutT (nam 5) (M.ret none) (partM (M.ret (.int 1)))).bind fun d => M.ret (.dat d)) (mCons ((M.ret (.int 3)).bind fun d => M.ret (.dat d)) (mNil))))).bind fun d => M.ret (.dat d)) ((M.ret .none).bind fun d => M.ret (.dat d))).bind toB)) (retS (M.ret (.bool false))) (fun st => .nx st))
  (seqS (iteS ((bin2 dNe ((callM m_cheapest (mCons (nam 4) (mCons (nam 5) (mCons ((M.ret (.int 0)).bind fun d => M.ret (.dat d)) (mNil))))).bind fun d => M.ret (.dat d)) ((mTup (mCons (M.ret (.int 1)) (mNil))).bind fun d => M.ret (.dat d))).bind toB) (retS (M.ret (.bool false))) (fun st => .nx st))
  (seqS (iteS (mOr ((bin2 dNe ((callM m_cheapest (mCons ((mTup (mCons (M.ret (.int 1)) (mNil))).bind fun d => M.ret (.dat d)) (mCons ((mTup (mCons (mTup (mCons (M.ret (.int 1)) (mCons (M.ret (.int 1)) (mNil)))) (mCons (mTup (mCons (M.ret (.int 2)) (mCons (M.ret (.int 9)) (mNil)))) (mNil)))).bind fun d => M.ret (.dat d)) (mCons ((M.ret (.int 4)).bind fun d => M.ret (.dat d)) (mNil))))).bind fun d => M.ret (.dat d)) ((bin2 dRepT ((mTup (mCons (M.ret (.int 1)) (mNil))).bind fun d => M.ret (.dat d)) ((M.ret (.int 5)).bind fun d => M.ret (.dat d))).bind fun d => M.ret (.dat d))).bind toB) ((bin2 dNe ((callM m_cheapest (mCons ((mTup (mCons (M.ret (.int 1)) (mNil))).bind fun d => M.ret (.dat d)) (mCons ((mTup (mCons (mTup (mCons (M.ret (.int 1)) (mCons (M.ret (.int 5)) (mNil)))) (mCons (mTup (mCons (M.ret (.int 2)) (mCons (M.ret (.int 1)) (mNil)))) (mNil)))).bind fun d => M.ret (.dat d)) (mCons ((M.ret (.int 1)).bind fun d => M.ret (.dat d)) (mNil))))).bind fun d => M.ret (.dat d)) ((mTup (mCons (M.ret (.int 2)) (mNil))).bind fun d => M.ret (.dat d))).bind toB)) (retS (M.ret (.bool false))) (fun st => .nx st))
  (seqS (iteS ((bin2 dNe ((callM m_cheapest (mCons ((mTup (mCons (M.ret (.int 1)) (mNil))).bind fun d => M.ret (.dat d)) (mCons ((mTup (mCons (mTup (mCons (M.ret (.int 1)) (mCons (M.ret (.int 5)) (mNil)))) (mCons (mTup (mCons (M.ret (.int 2)) (mCons (M.ret (.int 1)) (mNil)))) (mNil)))).bind fun d => M.ret (.dat d)) (mCons ((M.ret (.int 3)).bind fun d => M.ret (.dat d)) (mNil))))).bind fun d => M.ret (.dat d)) ((mTup (mCons (M.ret (.int 2)) (mCons (M.ret (.int 2)) (mNil)))).bind fun d => M.ret (.dat d))).bind toB) (retS (M.ret (.bool false))) (fun st => .nx st))
  (retS (bin2 dEq ((callM m__law_toil (mCons (nam 4) (mCons (nam 5) (mCons ((M.ret (.int 9)).bind fun d => M.ret (.dat d)) (mCons ((callM m_cheapest (mCons (nam 4) (mCons (nam 5) (mCons ((M.ret (.int 9)).bind fun d => M.ret (.dat d)) (mNil))))).bind fun d => M.ret (.dat d)) (mNil)))))).bind fun d => M.ret (.dat d)) ((M.ret (.int 16)).bind fun d => M.ret (.dat d)))))))))
noncomputable def m_law : M D := fnOf 9 [] b_law
theorem ok_law (h : FxI info K mg base Γ) : Fn Γ P w K mg base (rP K) 10 "law" ["script"] m_law := by
  obtain ⟨fd, F⟩ := h.fn 23 d_law rfl
  have hb := F.bindsN (ps := ["script"]) fun _ _ _ _ _ _ us hl => match us, hl with | [_], _ => rfl
  exact Sk.fn_of F (h.glo "law" (by decide)) hb (fn_okC (k := 9) F sc_law fun A outer s H E hr => (ess_cons (es_for (kill := []) (passes_of rfl) rfl (by decide) (ei_rng1 (ev_op op_addA s_add (eo_ev ev_int) (eo_ev (ev_cb (call_min2 rfl) sA_min (h.free "min" (by decide)) boot_min (ea_cons (eo_ev (ev_lenS 0 (h.free "len" (by decide)))) (ea_cons (eo_ev ev_int) ea_nil))))) (h.free "range" (by decide))) (eg_nm nd_law) (ess_cons (es_setN (i := 2) nd_law (by decide) (en_fn (ok__law_source h) hr (by decide) (takes_of rfl rfl rfl rfl) (len_cons (len_cons len_nil)) (ea_cons (eo_nam 0) (ea_cons (eo_nam 1) ea_nil))))
  (ess_cons (es_for (kill := []) (passes_of rfl) rfl (by decide) (ei_rng1 ev_int (h.free "range" (by decide))) (eg_nm nd_law) (ess_cons (es_tupN rfl (by decide) (em_dat (ev_fn (ok__law_ford h) hr (by decide) (takes_of rfl rfl rfl rfl) (len_cons len_nil) (ea_cons (eo_nam 2) ea_nil)) (em_dat (ev_fn (ok__law_gait h) hr (by decide) (takes_of rfl rfl rfl rfl) (len_cons len_nil) (ea_cons (eo_nam 2) ea_nil)) em_nil)) (egs_cons nd_law (egs_cons nd_law egs_nil)))
  (ess_cons (es_set (i := 6) nd_law (by decide) (ev_fn (ok__law_toils h) hr (by decide) (takes_of rfl rfl rfl rfl) (len_cons (len_cons (len_cons len_nil))) (ea_cons (eo_nam 4) (ea_cons (eo_nam 5) (ea_cons (eo_ev ev_int) ea_nil)))))
  (ess_one (es_for (kill := []) (passes_of rfl) rfl (by decide) (ei_seq (ev_en (en_op op_cat s_cat (eo_ev (ev_en (en_lstRg rfl ev_int (h.free "list" (by decide)) (h.free "range" (by decide))))) (eo_ev (ev_en (en_lc [("again", 9)] (g := gName 9) rfl nd_law (ei_rng1 ev_int (h.free "range" (by decide))) (blkOk_by (by rfl)) (by decide) (fun s H C cl fp => (eg_nm nd_law)) (fun s H C cl fp => ets_nil) (fun s H C cl fp => (ev_fn (ok__law_draw h) hr (by decide) L2.takes0 (len_cons (len_cons len_nil)) (ea_cons (eo_nam 2) (ea_cons (eo_ev ev_int) ea_nil)))))))))) (eg_nm nd_law) (ess_one (es_if (et_not (et_val (ev_fn (ok__law_right h) hr (by decide) (takes_of rfl rfl rfl rfl) (len_cons (len_cons (len_cons (len_cons len_nil)))) (ea_cons (eo_nam 4) (ea_cons (eo_nam 5) (ea_cons (eo_nam 7) (ea_cons (eo_nam 6) ea_nil))))))) (ess_one (es_ret ev_bl)) ess_nil)))))))
  (ess_cons (es_setN (i := 8) nd_law (by decide) (en_lst (el_cons (ev_word (k := 7) (wf__law_word h) h.exm (by decide) (h.tb 0 "law" rfl) rfl (h.inT 0 "law" rfl) (h.uni 0 "law" rfl) (hr.mono (by decide)) (fun A outer s H E f c hr => (ev_fn (ok_cheapest h) hr (by decide) (takes_of rfl rfl rfl rfl) (len_cons (len_cons (len_cons len_nil))) (ea_cons (eo_ev (ev_tup (el_cons ev_int el_nil))) (ea_cons (eo_ev ev_non) (ea_cons (eo_ev ev_int) ea_nil)))))) el_nil)))
  (ess_cons (es_expr (ev_app (i := 8) (ev_word (k := 7) (wf__law_word h) h.exm (by decide) (h.tb 0 "law" rfl) rfl (h.inT 0 "law" rfl) (h.uni 0 "law" rfl) (hr.mono (by decide)) (fun A outer s H E f c hr => (ev_fn (ok_cheapest h) hr (by decide) (takes_of rfl rfl rfl rfl) (len_cons (len_cons (len_cons len_nil))) (ea_cons (eo_nam 4) (ea_cons (eo_ev (ev_tup el_nil)) (ea_cons (eo_ev ev_int) ea_nil))))))))
  (ess_cons (es_expr (ev_app (i := 8) (ev_word (k := 7) (wf__law_word h) h.exm (by decide) (h.tb 0 "law" rfl) rfl (h.inT 0 "law" rfl) (h.uni 0 "law" rfl) (hr.mono (by decide)) (fun A outer s H E f c hr => (ev_fn (ok_cheapest h) hr (by decide) (takes_of rfl rfl rfl rfl) (len_cons (len_cons (len_cons len_nil))) (ea_cons (eo_nam 4) (ea_cons (eo_nam 5) (ea_cons (eo_ev ev_int) ea_nil))))))))
  (ess_cons (es_expr (ev_app (i := 8) (ev_word (k := 7) (wf__law_word h) h.exm (by decide) (h.tb 0 "law" rfl) rfl (h.inT 0 "law" rfl) (h.uni 0 "law" rfl) (hr.mono (by decide)) (fun A outer s H E f c hr => (ev_fn (ok_cheapest h) hr (by decide) (takes_of rfl rfl rfl rfl) (len_cons (len_cons (len_cons len_nil))) (ea_cons (eo_nam 4) (ea_cons (eo_nam 5) (ea_cons (eo_ev ev_bl) ea_nil))))))))
  (ess_cons (es_expr (ev_app (i := 8) (ev_word (k := 7) (wf__law_word h) h.exm (by decide) (h.tb 0 "law" rfl) rfl (h.inT 0 "law" rfl) (h.uni 0 "law" rfl) (hr.mono (by decide)) (fun A outer s H E f c hr => (ev_fn (ok_cheapest h) hr (by decide) (takes_of rfl rfl rfl rfl) (len_cons (len_cons (len_cons len_nil))) (ea_cons (eo_nam 4) (ea_cons (eo_nam 5) (ea_cons (eo_ev ev_int) ea_nil))))))))
  (ess_one (es_if (et_cmp (op_neD (u64 hr)) s_ne (eo_nam 8) (eo_ev (ev_en (en_lst (el_cons ev_str (el_cons ev_str (el_cons ev_str (el_cons ev_str (el_cons ev_str el_nil))))))))) (ess_one (es_ret ev_bl)) ess_nil))))))))))
  (ess_cons (es_tupN rfl (by decide) (em_dat (ev_tup (el_cons ev_int (el_cons ev_int (el_cons ev_int el_nil)))) (em_dat (ev_tup (el_cons (ev_tup (el_cons ev_int (el_cons ev_int el_nil))) (el_cons (ev_tup (el_cons ev_int (el_cons ev_int el_nil))) el_nil))) em_nil)) (egs_cons nd_law (egs_cons nd_law egs_nil)))
  (ess_cons (es_if (EW.et (ew_or (et_cmp (op_neD (u64 hr)) s_ne (eo_ev (ev_fn (ok_cheapest h) hr (by decide) (takes_of rfl rfl rfl rfl) (len_cons (len_cons (len_cons len_nil))) (ea_cons (eo_nam 4) (ea_cons (eo_nam 5) (ea_cons (eo_ev ev_int) ea_nil))))) (eo_ev (ev_tup (el_cons ev_int (el_cons ev_int el_nil))))) (ew_or1 (et_cmp op_notN s_notN (eo_ev (ev_fn (ok_cheapest h) hr (by decide) (takes_of rfl rfl rfl rfl) (len_cons (len_cons (len_cons len_nil))) (ea_cons (eo_nam 4) (ea_cons (eo_ev (ev_slT (eo_nam 5) ep_none (ep_some ev_int))) (ea_cons (eo_ev ev_int) ea_nil))))) (eo_ev ev_non))))) (ess_one (es_ret ev_bl)) ess_nil)
  (ess_cons (es_if (et_cmp (op_neD (u64 hr)) s_ne (eo_ev (ev_fn (ok_cheapest h) hr (by decide) (takes_of rfl rfl rfl rfl) (len_cons (len_cons (len_cons len_nil))) (ea_cons (eo_nam 4) (ea_cons (eo_nam 5) (ea_cons (eo_ev ev_int) ea_nil))))) (eo_ev (ev_tup (el_cons ev_int el_nil)))) (ess_one (es_ret ev_bl)) ess_nil)
  (ess_cons (es_if (EW.et (ew_or (et_cmp (op_neD (u64 hr)) s_ne (eo_ev (ev_fn (ok_cheapest h) hr (by decide) (takes_of rfl rfl rfl rfl) (len_cons (len_cons (len_cons len_nil))) (ea_cons (eo_ev (ev_tup (el_cons ev_int el_nil))) (ea_cons (eo_ev (ev_tup (el_cons (ev_tup (el_cons ev_int (el_cons ev_int el_nil))) (el_cons (ev_tup (el_cons ev_int (el_cons ev_int el_nil))) el_nil)))) (ea_cons (eo_ev ev_int) ea_nil))))) (eo_ev (ev_op op_mulF s_repT (eo_ev (ev_tup (el_cons ev_int el_nil))) (eo_ev ev_int)))) (ew_or1 (et_cmp (op_neD (u64 hr)) s_ne (eo_ev (ev_fn (ok_cheapest h) hr (by decide) (takes_of rfl rfl rfl rfl) (len_cons (len_cons (len_cons len_nil))) (ea_cons (eo_ev (ev_tup (el_cons ev_int el_nil))) (ea_cons (eo_ev (ev_tup (el_cons (ev_tup (el_cons ev_int (el_cons ev_int el_nil))) (el_cons (ev_tup (el_cons ev_int (el_cons ev_int el_nil))) el_nil)))) (ea_cons (eo_ev ev_int) ea_nil))))) (eo_ev (ev_tup (el_cons ev_int el_nil))))))) (ess_one (es_ret ev_bl)) ess_nil)
  (ess_cons (es_if (et_cmp (op_neD (u64 hr)) s_ne (eo_ev (ev_fn (ok_cheapest h) hr (by decide) (takes_of rfl rfl rfl rfl) (len_cons (len_cons (len_cons len_nil))) (ea_cons (eo_ev (ev_tup (el_cons ev_int el_nil))) (ea_cons (eo_ev (ev_tup (el_cons (ev_tup (el_cons ev_int (el_cons ev_int el_nil))) (el_cons (ev_tup (el_cons ev_int (el_cons ev_int el_nil))) el_nil)))) (ea_cons (eo_ev ev_int) ea_nil))))) (eo_ev (ev_tup (el_cons ev_int (el_cons ev_int el_nil))))) (ess_one (es_ret ev_bl)) ess_nil)
  (ess_one (es_ret (ev_cmp (op_eqD (u64 hr)) s_eq (eo_ev (ev_fn (ok__law_toil h) hr (by decide) (takes_of rfl rfl rfl rfl) (len_cons (len_cons (len_cons (len_cons len_nil)))) (ea_cons (eo_nam 4) (ea_cons (eo_nam 5) (ea_cons (eo_ev ev_int) (ea_cons (eo_ev (ev_fn (ok_cheapest h) hr (by decide) (takes_of rfl rfl rfl rfl) (len_cons (len_cons (len_cons len_nil))) (ea_cons (eo_nam 4) (ea_cons (eo_nam 5) (ea_cons (eo_ev ev_int) ea_nil))))) ea_nil)))))) (eo_ev ev_int)))))))))))
end
end Zk03
set_option maxHeartbeats 0
namespace Zk03
open PySem PySem.Spec PyProof.Rows L2 Sk LamX
abbrev hkL : PySem.W.Hook := He.hookX 4 (faOf info) info.defs [] (tfOf info) (exOf info)
def obL (s : PySem.W.SharedT) : He.AlX := He.obsX 4 (faOf info) info.defs [] (tfOf info) (exOf info) (HandSHeadRun.getT s)
theorem obL_eq (s : PySem.W.SharedT) : obL s = hkL.obs s.abs := He.obsX_eq (HandSHeadRun.getT_eq s)
abbrev RL : PySem.W.OpenRow := PySem.W.OpenLaw.row PySem.Challenge.rw_sinkstones_k03_whole_walks_with_least_to
def loose0 : List Str := ["FordError", "InvalidFord", "InvalidGait", "InvalidWidth", "ROUND", "MOST_STEPS", "LENGTH", "TOIL", "BEARS", "NEAR", "is_from", "is_tuple", "is_ford", "is_step", "is_gait", "need_ford", "need_gait", "need_width", "strength", "need_all", "toils_to", "cheapest", "_law_source", "_law_draw", "_law_choice"]
def loose1 : List Str := ["_law_ford", "_law_gait", "_law_stone", "_law_toils", "_law_over", "_law_toil", "_law_right", "_law_word"]
def looseL : List Str := loose0 ++ loose1
theorem runL (w : World) : HandSHeadRun.RunEq RL (PySem.W.view RL.prog [38]) hkL obL 6000 looseL w := by
  intro os
  kernel_rfl
end Zk03
set_option maxHeartbeats 1000000
namespace Zk03
open PySem PySem.Spec PyProof.Rows L2 Sk LamX
def isFrom (l m : Int) : D → Bool
  | .int i => decide (l ≤ i) && decide (i ≤ m)
  | _ => false
theorem r_is_from (v : D) (l m : Int) : m_is_from [.dat v, .dat (.int l), .dat (.int m)] = .ok (.bool (isFrom l m v)) [.dat v, .dat (.int l), .dat (.int m)] := by
  cases v <;> simp [m_is_from, b_is_from, -List.map_map, th_ok, th_ex, th_ite, e_bind, e_ret, e_opt, ts_ok, ts_ex, ts_ite, e_bindS, sq_nx, sq_rt, sq_ex, sq_bk, sq_ct, sq_ite, e_seqS, fin_nx, fin_rt, fin_ex, fin_ite, e_fnOf, wb_ok, wb_ex, wb_ite, vA1_b, e_vAnd, vO1_b, e_vOr, vN1_b, e_vNot, ch1_b, e_chM, e_toB, e_mAnd, e_mOr, e_mNot, e_mIte, e_iteS, lp_nx, lp_ct, lp_bk, lp_rt, lp_ex, lp_ite, forL_nil, forL_nm, e_forS, okArgs, isOwn, outs, nam, frz, look, lookAll, ap1, ap2, apA, un1, bin2, opA, isiM, retS, drpS, setS, setN, putS, put, unpS, asg, mCons, mNil, e_mTup, mt1_ok, e_mLst, ml1_ok, callM, argsOf, argOf, ownIx, Sk.wb, List.getElem?_cons_zero, List.getElem?_cons_succ, List.getElem?_nil, List.set_cons_zero, List.set_cons_succ, List.replicate_succ, List.replicate_zero, List.cons_append, List.nil_append, List.foldl_cons, List.foldl_nil, List.getD_cons_zero, List.getD_cons_succ, List.all_cons, List.all_nil, isiD, tyN, dLt, dLe, dGt, dGe, dAdd_i, dEq_i, dNe_i, dSub, iOp, dLen_t, dLen_l, e_seqM, sq1_l, sq1_t, e_partM, pa1_i, sliM, isN_none, notN_none, isN_int, notN_int, isN_bool, notN_bool, isN_str, notN_str, isN_list, notN_list, isN_tup, notN_tup, isN_dict, notN_dict, raiseS, mDat, mNew, e_callAt, cal_some, wbl_ok, wbl_ex, wbl_ite, e_lcM, e_rng1, e_rng2, e_enuM, en1_l, en1_t, e_zipM, zi1_l, dMnN_i, dMx_l, dMx_t, asg_nm, asg_tp, put, e_appM, isOwnL_l, e_apd, apo_l, notN_OI, isN_OI, dNe_n0, isFrom]
  split <;> simp [*]
def isTup (l m : Int) : D → Bool
  | .tuple xs => decide (l ≤ (xs.length : Int)) && decide ((xs.length : Int) ≤ m)
  | _ => false
theorem r_is_tuple (v : D) (l m : Int) : m_is_tuple [.dat v, .dat (.int l), .dat (.int m)] = .ok (.bool (isTup l m v)) [.dat v, .dat (.int l), .dat (.int m)] := by
  cases v <;> simp [m_is_tuple, b_is_tuple, -List.map_map, th_ok, th_ex, th_ite, e_bind, e_ret, e_opt, ts_ok, ts_ex, ts_ite, e_bindS, sq_nx, sq_rt, sq_ex, sq_bk, sq_ct, sq_ite, e_seqS, fin_nx, fin_rt, fin_ex, fin_ite, e_fnOf, wb_ok, wb_ex, wb_ite, vA1_b, e_vAnd, vO1_b, e_vOr, vN1_b, e_vNot, ch1_b, e_chM, e_toB, e_mAnd, e_mOr, e_mNot, e_mIte, e_iteS, lp_nx, lp_ct, lp_bk, lp_rt, lp_ex, lp_ite, forL_nil, forL_nm, e_forS, okArgs, isOwn, outs, nam, frz, look, lookAll, ap1, ap2, apA, un1, bin2, opA, isiM, retS, drpS, setS, setN, putS, put, unpS, asg, mCons, mNil, e_mTup, mt1_ok, e_mLst, ml1_ok, callM, argsOf, argOf, ownIx, Sk.wb, List.getElem?_cons_zero, List.getElem?_cons_succ, List.getElem?_nil, List.set_cons_zero, List.set_cons_succ, List.replicate_succ, List.replicate_zero, List.cons_append, List.nil_append, List.foldl_cons, List.foldl_nil, List.getD_cons_zero, List.getD_cons_succ, List.all_cons, List.all_nil, isiD, tyN, dLt, dLe, dGt, dGe, dAdd_i, dEq_i, dNe_i, dSub, iOp, dLen_t, dLen_l, e_seqM, sq1_l, sq1_t, e_partM, pa1_i, sliM, isN_none, notN_none, isN_int, notN_int, isN_bool, notN_bool, isN_str, notN_str, isN_list, notN_list, isN_tup, notN_tup, isN_dict, notN_dict, raiseS, mDat, mNew, e_callAt, cal_some, wbl_ok, wbl_ex, wbl_ite, e_lcM, e_rng1, e_rng2, e_enuM, en1_l, en1_t, e_zipM, zi1_l, dMnN_i, dMx_l, dMx_t, asg_nm, asg_tp, put, e_appM, isOwnL_l, e_apd, apo_l, notN_OI, isN_OI, dNe_n0, isTup]
  split <;> simp [*]
theorem lcap {n : Int} {k : Nat} (h : (k : Int) ≤ n) (c : n ≤ 1000000) : k ≤ cap := by
  unfold cap
  omega
def isFord : D → Bool
  | .tuple xs => decide (1 ≤ (xs.length : Int)) && decide ((xs.length : Int) ≤ 8) && xs.all (isFrom 0 3)
  | _ => false
theorem r_is_ford (v : D) : m_is_ford [.dat v] = .ok (.bool (isFord v)) [.dat v] := by
  cases v with
  | tuple xs =>
    simp [m_is_ford, b_is_ford, -List.map_map, th_ok, th_ex, th_ite, e_bind, e_ret, e_opt, ts_ok, ts_ex, ts_ite, e_bindS, sq_nx, sq_rt, sq_ex, sq_bk, sq_ct, sq_ite, e_seqS, fin_nx, fin_rt, fin_ex, fin_ite, e_fnOf, wb_ok, wb_ex, wb_ite, vA1_b, e_vAnd, vO1_b, e_vOr, vN1_b, e_vNot, ch1_b, e_chM, e_toB, e_mAnd, e_mOr, e_mNot, e_mIte, e_iteS, lp_nx, lp_ct, lp_bk, lp_rt, lp_ex, lp_ite, forL_nil, forL_nm, e_forS, okArgs, isOwn, outs, nam, frz, look, lookAll, ap1, ap2, apA, un1, bin2, opA, isiM, retS, drpS, setS, setN, putS, put, unpS, asg, mCons, mNil, e_mTup, mt1_ok, e_mLst, ml1_ok, callM, argsOf, argOf, ownIx, Sk.wb, List.getElem?_cons_zero, List.getElem?_cons_succ, List.getElem?_nil, List.set_cons_zero, List.set_cons_succ, List.replicate_succ, List.replicate_zero, List.cons_append, List.nil_append, List.foldl_cons, List.foldl_nil, List.getD_cons_zero, List.getD_cons_succ, List.all_cons, List.all_nil, isiD, tyN, dLt, dLe, dGt, dGe, dAdd_i, dEq_i, dNe_i, dSub, iOp, dLen_t, dLen_l, e_seqM, sq1_l, sq1_t, e_partM, pa1_i, sliM, isN_none, notN_none, isN_int, notN_int, isN_bool, notN_bool, isN_str, notN_str, isN_list, notN_list, isN_tup, notN_tup, isN_dict, notN_dict, raiseS, mDat, mNew, e_callAt, cal_some, wbl_ok, wbl_ex, wbl_ite, e_lcM, e_rng1, e_rng2, e_enuM, en1_l, en1_t, e_zipM, zi1_l, dMnN_i, dMx_l, dMx_t, asg_nm, asg_tp, put, e_appM, isOwnL_l, e_apd, apo_l, notN_OI, isN_OI, dNe_n0, r_is_tuple, isTup]
    split
    · rename_i h
      rw [lc_map (g := fun d => .bool (isFrom 0 3 d)) (by simp) (lcap h.2 (by decide))]
      · simp [-List.map_map, th_ok, th_ex, th_ite, e_bind, e_ret, e_opt, ts_ok, ts_ex, ts_ite, e_bindS, sq_nx, sq_rt, sq_ex, sq_bk, sq_ct, sq_ite, e_seqS, fin_nx, fin_rt, fin_ex, fin_ite, e_fnOf, wb_ok, wb_ex, wb_ite, vA1_b, e_vAnd, vO1_b, e_vOr, vN1_b, e_vNot, ch1_b, e_chM, e_toB, e_mAnd, e_mOr, e_mNot, e_mIte, e_iteS, lp_nx, lp_ct, lp_bk, lp_rt, lp_ex, lp_ite, forL_nil, forL_nm, e_forS, okArgs, isOwn, outs, nam, frz, look, lookAll, ap1, ap2, apA, un1, bin2, opA, isiM, retS, drpS, setS, setN, putS, put, unpS, asg, mCons, mNil, e_mTup, mt1_ok, e_mLst, ml1_ok, callM, argsOf, argOf, ownIx, Sk.wb, List.getElem?_cons_zero, List.getElem?_cons_succ, List.getElem?_nil, List.set_cons_zero, List.set_cons_succ, List.replicate_succ, List.replicate_zero, List.cons_append, List.nil_append, List.foldl_cons, List.foldl_nil, List.getD_cons_zero, List.getD_cons_succ, List.all_cons, List.all_nil, isiD, tyN, dLt, dLe, dGt, dGe, dAdd_i, dEq_i, dNe_i, dSub, iOp, dLen_t, dLen_l, e_seqM, sq1_l, sq1_t, e_partM, pa1_i, sliM, isN_none, notN_none, isN_int, notN_int, isN_bool, notN_bool, isN_str, notN_str, isN_list, notN_list, isN_tup, notN_tup, isN_dict, notN_dict, raiseS, mDat, mNew, e_callAt, cal_some, wbl_ok, wbl_ex, wbl_ite, e_lcM, e_rng1, e_rng2, e_enuM, en1_l, en1_t, e_zipM, zi1_l, dMnN_i, dMx_l, dMx_t, asg_nm, asg_tp, put, e_appM, isOwnL_l, e_apd, apo_l, notN_OI, isN_OI, dNe_n0, notin_falseF, isFord, h]
      · intro d _
        simp [C1_is_ford, -List.map_map, th_ok, th_ex, th_ite, e_bind, e_ret, e_opt, ts_ok, ts_ex, ts_ite, e_bindS, sq_nx, sq_rt, sq_ex, sq_bk, sq_ct, sq_ite, e_seqS, fin_nx, fin_rt, fin_ex, fin_ite, e_fnOf, wb_ok, wb_ex, wb_ite, vA1_b, e_vAnd, vO1_b, e_vOr, vN1_b, e_vNot, ch1_b, e_chM, e_toB, e_mAnd, e_mOr, e_mNot, e_mIte, e_iteS, lp_nx, lp_ct, lp_bk, lp_rt, lp_ex, lp_ite, forL_nil, forL_nm, e_forS, okArgs, isOwn, outs, nam, frz, look, lookAll, ap1, ap2, apA, un1, bin2, opA, isiM, retS, drpS, setS, setN, putS, put, unpS, asg, mCons, mNil, e_mTup, mt1_ok, e_mLst, ml1_ok, callM, argsOf, argOf, ownIx, Sk.wb, List.getElem?_cons_zero, List.getElem?_cons_succ, List.getElem?_nil, List.set_cons_zero, List.set_cons_succ, List.replicate_succ, List.replicate_zero, List.cons_append, List.nil_append, List.foldl_cons, List.foldl_nil, List.getD_cons_zero, List.getD_cons_succ, List.all_cons, List.all_nil, isiD, tyN, dLt, dLe, dGt, dGe, dAdd_i, dEq_i, dNe_i, dSub, iOp, dLen_t, dLen_l, e_seqM, sq1_l, sq1_t, e_partM, pa1_i, sliM, isN_none, notN_none, isN_int, notN_int, isN_bool, notN_bool, isN_str, notN_str, isN_list, notN_list, isN_tup, notN_tup, isN_dict, notN_dict, raiseS, mDat, mNew, e_callAt, cal_some, wbl_ok, wbl_ex, wbl_ite, e_lcM, e_rng1, e_rng2, e_enuM, en1_l, en1_t, e_zipM, zi1_l, dMnN_i, dMx_l, dMx_t, asg_nm, asg_tp, put, e_appM, isOwnL_l, e_apd, apo_l, notN_OI, isN_OI, dNe_n0, r_is_from]
    · rename_i h
      simp [isFord]
      omega
  | _ => simp [m_is_ford, b_is_ford, -List.map_map, th_ok, th_ex, th_ite, e_bind, e_ret, e_opt, ts_ok, ts_ex, ts_ite, e_bindS, sq_nx, sq_rt, sq_ex, sq_bk, sq_ct, sq_ite, e_seqS, fin_nx, fin_rt, fin_ex, fin_ite, e_fnOf, wb_ok, wb_ex, wb_ite, vA1_b, e_vAnd, vO1_b, e_vOr, vN1_b, e_vNot, ch1_b, e_chM, e_toB, e_mAnd, e_mOr, e_mNot, e_mIte, e_iteS, lp_nx, lp_ct, lp_bk, lp_rt, lp_ex, lp_ite, forL_nil, forL_nm, e_forS, okArgs, isOwn, outs, nam, frz, look, lookAll, ap1, ap2, apA, un1, bin2, opA, isiM, retS, drpS, setS, setN, putS, put, unpS, asg, mCons, mNil, e_mTup, mt1_ok, e_mLst, ml1_ok, callM, argsOf, argOf, ownIx, Sk.wb, List.getElem?_cons_zero, List.getElem?_cons_succ, List.getElem?_nil, List.set_cons_zero, List.set_cons_succ, List.replicate_succ, List.replicate_zero, List.cons_append, List.nil_append, List.foldl_cons, List.foldl_nil, List.getD_cons_zero, List.getD_cons_succ, List.all_cons, List.all_nil, isiD, tyN, dLt, dLe, dGt, dGe, dAdd_i, dEq_i, dNe_i, dSub, iOp, dLen_t, dLen_l, e_seqM, sq1_l, sq1_t, e_partM, pa1_i, sliM, isN_none, notN_none, isN_int, notN_int, isN_bool, notN_bool, isN_str, notN_str, isN_list, notN_list, isN_tup, notN_tup, isN_dict, notN_dict, raiseS, mDat, mNew, e_callAt, cal_some, wbl_ok, wbl_ex, wbl_ite, e_lcM, e_rng1, e_rng2, e_enuM, en1_l, en1_t, e_zipM, zi1_l, dMnN_i, dMx_l, dMx_t, asg_nm, asg_tp, put, e_appM, isOwnL_l, e_apd, apo_l, notN_OI, isN_OI, dNe_n0, r_is_tuple, isTup, isFord]
def isStep : D → Bool
  | .tuple [a, b] => isFrom 1 6 a && isFrom 0 9 b
  | _ => false
theorem r_is_step (v : D) : m_is_step [.dat v] = .ok (.bool (isStep v)) [.dat v] := by
  cases v with
  | tuple xs =>
    match xs with
    | [a, b] =>
      simp [m_is_step, b_is_step, -List.map_map, th_ok, th_ex, th_ite, e_bind, e_ret, e_opt, ts_ok, ts_ex, ts_ite, e_bindS, sq_nx, sq_rt, sq_ex, sq_bk, sq_ct, sq_ite, e_seqS, fin_nx, fin_rt, fin_ex, fin_ite, e_fnOf, wb_ok, wb_ex, wb_ite, vA1_b, e_vAnd, vO1_b, e_vOr, vN1_b, e_vNot, ch1_b, e_chM, e_toB, e_mAnd, e_mOr, e_mNot, e_mIte, e_iteS, lp_nx, lp_ct, lp_bk, lp_rt, lp_ex, lp_ite, forL_nil, forL_nm, e_forS, okArgs, isOwn, outs, nam, frz, look, lookAll, ap1, ap2, apA, un1, bin2, opA, isiM, retS, drpS, setS, setN, putS, put, unpS, asg, mCons, mNil, e_mTup, mt1_ok, e_mLst, ml1_ok, callM, argsOf, argOf, ownIx, Sk.wb, List.getElem?_cons_zero, List.getElem?_cons_succ, List.getElem?_nil, List.set_cons_zero, List.set_cons_succ, List.replicate_succ, List.replicate_zero, List.cons_append, List.nil_append, List.foldl_cons, List.foldl_nil, List.getD_cons_zero, List.getD_cons_succ, List.all_cons, List.all_nil, isiD, tyN, dLt, dLe, dGt, dGe, dAdd_i, dEq_i, dNe_i, dSub, iOp, dLen_t, dLen_l, e_seqM, sq1_l, sq1_t, e_partM, pa1_i, sliM, isN_none, notN_none, isN_int, notN_int, isN_bool, notN_bool, isN_str, notN_str, isN_list, notN_list, isN_tup, notN_tup, isN_dict, notN_dict, raiseS, mDat, mNew, e_callAt, cal_some, wbl_ok, wbl_ex, wbl_ite, e_lcM, e_rng1, e_rng2, e_enuM, en1_l, en1_t, e_zipM, zi1_l, dMnN_i, dMx_l, dMx_t, asg_nm, asg_tp, put, e_appM, isOwnL_l, e_apd, apo_l, notN_OI, isN_OI, dNe_n0, r_is_tuple, isTup, dIx, L2.atI, L2.ixN, r_is_from, isStep]
      split <;> simp [*]
    | [] => simp [m_is_step, b_is_step, -List.map_map, th_ok, th_ex, th_ite, e_bind, e_ret, e_opt, ts_ok, ts_ex, ts_ite, e_bindS, sq_nx, sq_rt, sq_ex, sq_bk, sq_ct, sq_ite, e_seqS, fin_nx, fin_rt, fin_ex, fin_ite, e_fnOf, wb_ok, wb_ex, wb_ite, vA1_b, e_vAnd, vO1_b, e_vOr, vN1_b, e_vNot, ch1_b, e_chM, e_toB, e_mAnd, e_mOr, e_mNot, e_mIte, e_iteS, lp_nx, lp_ct, lp_bk, lp_rt, lp_ex, lp_ite, forL_nil, forL_nm, e_forS, okArgs, isOwn, outs, nam, frz, look, lookAll, ap1, ap2, apA, un1, bin2, opA, isiM, retS, drpS, setS, setN, putS, put, unpS, asg, mCons, mNil, e_mTup, mt1_ok, e_mLst, ml1_ok, callM, argsOf, argOf, ownIx, Sk.wb, List.getElem?_cons_zero, List.getElem?_cons_succ, List.getElem?_nil, List.set_cons_zero, List.set_cons_succ, List.replicate_succ, List.replicate_zero, List.cons_append, List.nil_append, List.foldl_cons, List.foldl_nil, List.getD_cons_zero, List.getD_cons_succ, List.all_cons, List.all_nil, isiD, tyN, dLt, dLe, dGt, dGe, dAdd_i, dEq_i, dNe_i, dSub, iOp, dLen_t, dLen_l, e_seqM, sq1_l, sq1_t, e_partM, pa1_i, sliM, isN_none, notN_none, isN_int, notN_int, isN_bool, notN_bool, isN_str, notN_str, isN_list, notN_list, isN_tup, notN_tup, isN_dict, notN_dict, raiseS, mDat, mNew, e_callAt, cal_some, wbl_ok, wbl_ex, wbl_ite, e_lcM, e_rng1, e_rng2, e_enuM, en1_l, en1_t, e_zipM, zi1_l, dMnN_i, dMx_l, dMx_t, asg_nm, asg_tp, put, e_appM, isOwnL_l, e_apd, apo_l, notN_OI, isN_OI, dNe_n0, r_is_tuple, isTup, isStep]
    | [a] => simp [m_is_step, b_is_step, -List.map_map, th_ok, th_ex, th_ite, e_bind, e_ret, e_opt, ts_ok, ts_ex, ts_ite, e_bindS, sq_nx, sq_rt, sq_ex, sq_bk, sq_ct, sq_ite, e_seqS, fin_nx, fin_rt, fin_ex, fin_ite, e_fnOf, wb_ok, wb_ex, wb_ite, vA1_b, e_vAnd, vO1_b, e_vOr, vN1_b, e_vNot, ch1_b, e_chM, e_toB, e_mAnd, e_mOr, e_mNot, e_mIte, e_iteS, lp_nx, lp_ct, lp_bk, lp_rt, lp_ex, lp_ite, forL_nil, forL_nm, e_forS, okArgs, isOwn, outs, nam, frz, look, lookAll, ap1, ap2, apA, un1, bin2, opA, isiM, retS, drpS, setS, setN, putS, put, unpS, asg, mCons, mNil, e_mTup, mt1_ok, e_mLst, ml1_ok, callM, argsOf, argOf, ownIx, Sk.wb, List.getElem?_cons_zero, List.getElem?_cons_succ, List.getElem?_nil, List.set_cons_zero, List.set_cons_succ, List.replicate_succ, List.replicate_zero, List.cons_append, List.nil_append, List.foldl_cons, List.foldl_nil, List.getD_cons_zero, List.getD_cons_succ, List.all_cons, List.all_nil, isiD, tyN, dLt, dLe, dGt, dGe, dAdd_i, dEq_i, dNe_i, dSub, iOp, dLen_t, dLen_l, e_seqM, sq1_l, sq1_t, e_partM, pa1_i, sliM, isN_none, notN_none, isN_int, notN_int, isN_bool, notN_bool, isN_str, notN_str, isN_list, notN_list, isN_tup, notN_tup, isN_dict, notN_dict, raiseS, mDat, mNew, e_callAt, cal_some, wbl_ok, wbl_ex, wbl_ite, e_lcM, e_rng1, e_rng2, e_enuM, en1_l, en1_t, e_zipM, zi1_l, dMnN_i, dMx_l, dMx_t, asg_nm, asg_tp, put, e_appM, isOwnL_l, e_apd, apo_l, notN_OI, isN_OI, dNe_n0, r_is_tuple, isTup, isStep]
    | a :: b :: c :: r =>
      simp [m_is_step, b_is_step, -List.map_map, th_ok, th_ex, th_ite, e_bind, e_ret, e_opt, ts_ok, ts_ex, ts_ite, e_bindS, sq_nx, sq_rt, sq_ex, sq_bk, sq_ct, sq_ite, e_seqS, fin_nx, fin_rt, fin_ex, fin_ite, e_fnOf, wb_ok, wb_ex, wb_ite, vA1_b, e_vAnd, vO1_b, e_vOr, vN1_b, e_vNot, ch1_b, e_chM, e_toB, e_mAnd, e_mOr, e_mNot, e_mIte, e_iteS, lp_nx, lp_ct, lp_bk, lp_rt, lp_ex, lp_ite, forL_nil, forL_nm, e_forS, okArgs, isOwn, outs, nam, frz, look, lookAll, ap1, ap2, apA, un1, bin2, opA, isiM, retS, drpS, setS, setN, putS, put, unpS, asg, mCons, mNil, e_mTup, mt1_ok, e_mLst, ml1_ok, callM, argsOf, argOf, ownIx, Sk.wb, List.getElem?_cons_zero, List.getElem?_cons_succ, List.getElem?_nil, List.set_cons_zero, List.set_cons_succ, List.replicate_succ, List.replicate_zero, List.cons_append, List.nil_append, List.foldl_cons, List.foldl_nil, List.getD_cons_zero, List.getD_cons_succ, List.all_cons, List.all_nil, isiD, tyN, dLt, dLe, dGt, dGe, dAdd_i, dEq_i, dNe_i, dSub, iOp, dLen_t, dLen_l, e_seqM, sq1_l, sq1_t, e_partM, pa1_i, sliM, isN_none, notN_none, isN_int, notN_int, isN_bool, notN_bool, isN_str, notN_str, isN_list, notN_list, isN_tup, notN_tup, isN_dict, notN_dict, raiseS, mDat, mNew, e_callAt, cal_some, wbl_ok, wbl_ex, wbl_ite, e_lcM, e_rng1, e_rng2, e_enuM, en1_l, en1_t, e_zipM, zi1_l, dMnN_i, dMx_l, dMx_t, asg_nm, asg_tp, put, e_appM, isOwnL_l, e_apd, apo_l, notN_OI, isN_OI, dNe_n0, r_is_tuple, isTup, isStep]
      omega
  | _ => simp [m_is_step, b_is_step, -List.map_map, th_ok, th_ex, th_ite, e_bind, e_ret, e_opt, ts_ok, ts_ex, ts_ite, e_bindS, sq_nx, sq_rt, sq_ex, sq_bk, sq_ct, sq_ite, e_seqS, fin_nx, fin_rt, fin_ex, fin_ite, e_fnOf, wb_ok, wb_ex, wb_ite, vA1_b, e_vAnd, vO1_b, e_vOr, vN1_b, e_vNot, ch1_b, e_chM, e_toB, e_mAnd, e_mOr, e_mNot, e_mIte, e_iteS, lp_nx, lp_ct, lp_bk, lp_rt, lp_ex, lp_ite, forL_nil, forL_nm, e_forS, okArgs, isOwn, outs, nam, frz, look, lookAll, ap1, ap2, apA, un1, bin2, opA, isiM, retS, drpS, setS, setN, putS, put, unpS, asg, mCons, mNil, e_mTup, mt1_ok, e_mLst, ml1_ok, callM, argsOf, argOf, ownIx, Sk.wb, List.getElem?_cons_zero, List.getElem?_cons_succ, List.getElem?_nil, List.set_cons_zero, List.set_cons_succ, List.replicate_succ, List.replicate_zero, List.cons_append, List.nil_append, List.foldl_cons, List.foldl_nil, List.getD_cons_zero, List.getD_cons_succ, List.all_cons, List.all_nil, isiD, tyN, dLt, dLe, dGt, dGe, dAdd_i, dEq_i, dNe_i, dSub, iOp, dLen_t, dLen_l, e_seqM, sq1_l, sq1_t, e_partM, pa1_i, sliM, isN_none, notN_none, isN_int, notN_int, isN_bool, notN_bool, isN_str, notN_str, isN_list, notN_list, isN_tup, notN_tup, isN_dict, notN_dict, raiseS, mDat, mNew, e_callAt, cal_some, wbl_ok, wbl_ex, wbl_ite, e_lcM, e_rng1, e_rng2, e_enuM, en1_l, en1_t, e_zipM, zi1_l, dMnN_i, dMx_l, dMx_t, asg_nm, asg_tp, put, e_appM, isOwnL_l, e_apd, apo_l, notN_OI, isN_OI, dNe_n0, r_is_tuple, isTup, isStep]
def keyS : D → Int
  | .tuple (.int a :: _) => a
  | _ => 0
/-- steps that go up from l on -/
def upFrom : Int → List D → Bool
  | _, [] => true
  | l, .tuple [.int a, .int b] :: r => decide (l < a) && decide (a ≤ 6) && (decide (0 ≤ b) && decide (b ≤ 9)) && upFrom a r
  | _, _ => false
def isGait : D → Bool
  | .tuple xs => decide (1 ≤ (xs.length : Int)) && decide ((xs.length : Int) ≤ 4) && upFrom 0 xs
  | _ => false
theorem step_form {d : D} (h : isStep d = true) : ∃ a b : Int, d = .tuple [.int a, .int b] ∧ 1 ≤ a ∧ a ≤ 6 ∧ 0 ≤ b ∧ b ≤ 9 := by
  unfold isStep at h
  split at h
  · rename_i a b
    cases a <;> simp [isFrom] at h
    cases b <;> simp [isFrom] at h
    rename_i a b
    exact ⟨a, b, rfl, by omega, by omega, by omega, by omega⟩
  · cases h
def ltAt (xs : List D) (k : Nat) : Bool := decide (keyS (xs.getD k .none) < keyS (xs.getD (k + 1) .none))
theorem up_all : ∀ (xs : List D) (l : Int), upFrom l xs = true → (0 ≤ l) → xs.all isStep = true ∧ ∀ k, k + 1 < xs.length → ltAt xs k = true
  | [], _, _, _ => ⟨rfl, fun k h => by simp at h⟩
  | d :: xs, l, h, hl => by
    unfold upFrom at h
    split at h
    · rename_i e
      cases e
    · rename_i a b r e
      cases e
      simp only [Bool.and_eq_true, decide_eq_true_eq] at h
      obtain ⟨i1, i2⟩ := up_all xs a h.2 (by omega)
      refine ⟨?_, fun k hk => ?_⟩
      · rw [List.all_cons, i1]
        simp [isStep, isFrom]
        omega
      · cases k with
        | zero =>
          cases xs with
          | nil => simp at hk
          | cons d2 xs =>
            have h2 := h.2
            unfold upFrom at h2
            split at h2
            · rename_i e
              cases e
            · rename_i a2 b2 r2 e2
              cases e2
              simp only [Bool.and_eq_true, decide_eq_true_eq] at h2
              simp [ltAt, keyS]
              omega
            · cases h2
        | succ k =>
          have := i2 k (by simpa using hk)
          simpa [ltAt] using this
    · cases h
theorem all_up : ∀ (xs : List D) (l : Int), xs.all isStep = true → (∀ k, k + 1 < xs.length → ltAt xs k = true) → (∀ d, xs[0]? = some d → l < keyS d) → upFrom l xs = true
  | [], _, _, _, _ => rfl
  | d :: xs, l, h, hk, h0 => by
    rw [List.all_cons, Bool.and_eq_true] at h
    obtain ⟨a, b, rfl, h1, h2, h3, h4⟩ := step_form h.1
    have l0 : l < a := h0 _ rfl
    unfold upFrom
    rw [all_up xs a h.2 (fun k q => by
      have := hk (k + 1) (by simpa using q)
      simpa [ltAt] using this) (fun d hd => by
      cases xs with
      | nil => simp at hd
      | cons d2 xs =>
        simp at hd
        subst hd
        have := hk 0 (by simp)
        simpa [ltAt, keyS] using this)]
    simp
    omega
theorem gait_eq (xs : List D) : (xs.all isStep && (List.range (xs.length - 1)).all (ltAt xs)) = upFrom 0 xs := by
  cases h : upFrom 0 xs with
  | true =>
    obtain ⟨a, b⟩ := up_all xs 0 h (by omega)
    rw [a, Bool.true_and, List.all_eq_true]
    intro k hk
    exact b k (by have := List.mem_range.mp hk; omega)
  | false =>
    cases h2 : (xs.all isStep && (List.range (xs.length - 1)).all (ltAt xs)) with
    | false => rfl
    | true =>
      rw [Bool.and_eq_true] at h2
      have := all_up xs 0 h2.1 (fun k hk => List.all_eq_true.mp h2.2 k (List.mem_range.mpr (by omega))) (fun d hd => by
        have : d ∈ xs := List.mem_of_getElem? hd
        obtain ⟨a, b, rfl, h1, _⟩ := step_form (List.all_eq_true.mp h2.1 d this)
        simp [keyS]
        omega)
      rw [this] at h
      cases h
theorem key_ix {d : D} (h : isStep d = true) : dIx d (.int 0) = some (.int (keyS d)) := by
  obtain ⟨a, b, rfl, _⟩ := step_form h
  simp [dIx, L2.atI, L2.ixN, keyS]
theorem gait_el {xs : List D} (al : xs.all isStep = true) {k : Nat} (hk : k < xs.length - 1) : dIx (.tuple xs) (.int (k : Int)) = some (xs[k]'(by omega)) ∧ dIx (.tuple xs) (.int (1 + (k : Int))) = some (xs[k + 1]'(by omega)) ∧
    dIx (xs[k]'(by omega)) (.int 0) = some (.int (keyS (xs.getD k .none))) ∧ dIx (xs[k + 1]'(by omega)) (.int 0) = some (.int (keyS (xs.getD (k + 1) .none))) := by
  have q : (1 + (k : Int)).toNat = k + 1 := by omega
  have q1 : k < xs.length := by omega
  have q2 : k + 1 < xs.length := by omega
  refine ⟨dIx_tup (by omega) (by omega), ?_, ?_, ?_⟩
  · rw [dIx_tup (by omega) (by omega)]
    simp only [q]
  · rw [List.getD_eq_getElem?_getD, List.getElem?_eq_getElem q1]
    exact key_ix (List.all_eq_true.mp al _ (List.getElem_mem q1))
  · rw [List.getD_eq_getElem?_getD, List.getElem?_eq_getElem q2]
    exact key_ix (List.all_eq_true.mp al _ (List.getElem_mem q2))
theorem r_is_gait (v : D) : m_is_gait [.dat v] = .ok (.bool (isGait v)) [.dat v] := by
  cases v with
  | tuple xs =>
    simp [m_is_gait, b_is_gait, -List.map_map, th_ok, th_ex, th_ite, e_bind, e_ret, e_opt, ts_ok, ts_ex, ts_ite, e_bindS, sq_nx, sq_rt, sq_ex, sq_bk, sq_ct, sq_ite, e_seqS, fin_nx, fin_rt, fin_ex, fin_ite, e_fnOf, wb_ok, wb_ex, wb_ite, vA1_b, e_vAnd, vO1_b, e_vOr, vN1_b, e_vNot, ch1_b, e_chM, e_toB, e_mAnd, e_mOr, e_mNot, e_mIte, e_iteS, lp_nx, lp_ct, lp_bk, lp_rt, lp_ex, lp_ite, forL_nil, forL_nm, e_forS, okArgs, isOwn, outs, nam, frz, look, lookAll, ap1, ap2, apA, un1, bin2, opA, isiM, retS, drpS, setS, setN, putS, put, unpS, asg, mCons, mNil, e_mTup, mt1_ok, e_mLst, ml1_ok, callM, argsOf, argOf, ownIx, Sk.wb, List.getElem?_cons_zero, List.getElem?_cons_succ, List.getElem?_nil, List.set_cons_zero, List.set_cons_succ, List.replicate_succ, List.replicate_zero, List.cons_append, List.nil_append, List.foldl_cons, List.foldl_nil, List.getD_cons_zero, List.getD_cons_succ, List.all_cons, List.all_nil, isiD, tyN, dLt, dLe, dGt, dGe, dAdd_i, dEq_i, dNe_i, dSub, iOp, dLen_t, dLen_l, e_seqM, sq1_l, sq1_t, e_partM, pa1_i, sliM, isN_none, notN_none, isN_int, notN_int, isN_bool, notN_bool, isN_str, notN_str, isN_list, notN_list, isN_tup, notN_tup, isN_dict, notN_dict, raiseS, mDat, mNew, e_callAt, cal_some, wbl_ok, wbl_ex, wbl_ite, e_lcM, e_rng1, e_rng2, e_enuM, en1_l, en1_t, e_zipM, zi1_l, dMnN_i, dMx_l, dMx_t, asg_nm, asg_tp, put, e_appM, isOwnL_l, e_apd, apo_l, notN_OI, isN_OI, dNe_n0, r_is_tuple, isTup]
    split
    · simp [isGait]
      omega
    · rename_i h
      have h1 : 1 ≤ (xs.length : Int) ∧ (xs.length : Int) ≤ 4 := by omega
      rw [lc_map (g := fun d => .bool (isStep d)) (by simp) (lcap h1.2 (by decide))]
      · simp only [th_ok, e_ret, e_bind, ap2, look, in_falseF, e_opt, e_toB, ts_ok]
        cases al : xs.all isStep with
        | false =>
          have e := gait_eq xs
          rw [al, Bool.false_and] at e
          simp [isGait, ← e, sq_rt, fin_rt, outs]
        | true =>
          have sz : Sml 1 (xs.length : Int) := sml (by omega)
          have n1 : ((xs.length : Int) - 1).toNat = xs.length - 1 := by omega
          simp only [Bool.not_true, if_neg Bool.false_ne_true, sq_nx]
          simp [rn2_ok sz, -List.map_map, th_ok, th_ex, th_ite, e_bind, e_ret, e_opt, ts_ok, ts_ex, ts_ite, e_bindS, sq_nx, sq_rt, sq_ex, sq_bk, sq_ct, sq_ite, e_seqS, fin_nx, fin_rt, fin_ex, fin_ite, e_fnOf, wb_ok, wb_ex, wb_ite, vA1_b, e_vAnd, vO1_b, e_vOr, vN1_b, e_vNot, ch1_b, e_chM, e_toB, e_mAnd, e_mOr, e_mNot, e_mIte, e_iteS, lp_nx, lp_ct, lp_bk, lp_rt, lp_ex, lp_ite, forL_nil, forL_nm, e_forS, okArgs, isOwn, outs, nam, frz, look, lookAll, ap1, ap2, apA, un1, bin2, opA, isiM, retS, drpS, setS, setN, putS, put, unpS, asg, mCons, mNil, e_mTup, mt1_ok, e_mLst, ml1_ok, callM, argsOf, argOf, ownIx, Sk.wb, List.getElem?_cons_zero, List.getElem?_cons_succ, List.getElem?_nil, List.set_cons_zero, List.set_cons_succ, List.replicate_succ, List.replicate_zero, List.cons_append, List.nil_append, List.foldl_cons, List.foldl_nil, List.getD_cons_zero, List.getD_cons_succ, List.all_cons, List.all_nil, isiD, tyN, dLt, dLe, dGt, dGe, dAdd_i, dEq_i, dNe_i, dSub, iOp, dLen_t, dLen_l, e_seqM, sq1_l, sq1_t, e_partM, pa1_i, sliM, isN_none, notN_none, isN_int, notN_int, isN_bool, notN_bool, isN_str, notN_str, isN_list, notN_list, isN_tup, notN_tup, isN_dict, notN_dict, raiseS, mDat, mNew, e_callAt, cal_some, wbl_ok, wbl_ex, wbl_ite, e_lcM, e_rng1, e_rng2, e_enuM, en1_l, en1_t, e_zipM, zi1_l, dMnN_i, dMx_l, dMx_t, asg_nm, asg_tp, put, e_appM, isOwnL_l, e_apd, apo_l, notN_OI, isN_OI, dNe_n0, n1]
          rw [lc_rng (g := fun k => .bool (ltAt xs k)) (by simp) (by unfold cap; omega)]
          · have e := gait_eq xs
            rw [al, Bool.true_and] at e
            simp [-List.map_map, th_ok, th_ex, th_ite, e_bind, e_ret, e_opt, ts_ok, ts_ex, ts_ite, e_bindS, sq_nx, sq_rt, sq_ex, sq_bk, sq_ct, sq_ite, e_seqS, fin_nx, fin_rt, fin_ex, fin_ite, e_fnOf, wb_ok, wb_ex, wb_ite, vA1_b, e_vAnd, vO1_b, e_vOr, vN1_b, e_vNot, ch1_b, e_chM, e_toB, e_mAnd, e_mOr, e_mNot, e_mIte, e_iteS, lp_nx, lp_ct, lp_bk, lp_rt, lp_ex, lp_ite, forL_nil, forL_nm, e_forS, okArgs, isOwn, outs, nam, frz, look, lookAll, ap1, ap2, apA, un1, bin2, opA, isiM, retS, drpS, setS, setN, putS, put, unpS, asg, mCons, mNil, e_mTup, mt1_ok, e_mLst, ml1_ok, callM, argsOf, argOf, ownIx, Sk.wb, List.getElem?_cons_zero, List.getElem?_cons_succ, List.getElem?_nil, List.set_cons_zero, List.set_cons_succ, List.replicate_succ, List.replicate_zero, List.cons_append, List.nil_append, List.foldl_cons, List.foldl_nil, List.getD_cons_zero, List.getD_cons_succ, List.all_cons, List.all_nil, isiD, tyN, dLt, dLe, dGt, dGe, dAdd_i, dEq_i, dNe_i, dSub, iOp, dLen_t, dLen_l, e_seqM, sq1_l, sq1_t, e_partM, pa1_i, sliM, isN_none, notN_none, isN_int, notN_int, isN_bool, notN_bool, isN_str, notN_str, isN_list, notN_list, isN_tup, notN_tup, isN_dict, notN_dict, raiseS, mDat, mNew, e_callAt, cal_some, wbl_ok, wbl_ex, wbl_ite, e_lcM, e_rng1, e_rng2, e_enuM, en1_l, en1_t, e_zipM, zi1_l, dMnN_i, dMx_l, dMx_t, asg_nm, asg_tp, put, e_appM, isOwnL_l, e_apd, apo_l, notN_OI, isN_OI, dNe_n0, notin_falseF, e, isGait, h1]
          · intro k hk
            obtain ⟨a1, a2, a3, a4⟩ := gait_el al hk
            have e1 : (1 : Int) + (k : Int) - 1 = k := by omega
            simp [C2_is_gait, -List.map_map, th_ok, th_ex, th_ite, e_bind, e_ret, e_opt, ts_ok, ts_ex, ts_ite, e_bindS, sq_nx, sq_rt, sq_ex, sq_bk, sq_ct, sq_ite, e_seqS, fin_nx, fin_rt, fin_ex, fin_ite, e_fnOf, wb_ok, wb_ex, wb_ite, vA1_b, e_vAnd, vO1_b, e_vOr, vN1_b, e_vNot, ch1_b, e_chM, e_toB, e_mAnd, e_mOr, e_mNot, e_mIte, e_iteS, lp_nx, lp_ct, lp_bk, lp_rt, lp_ex, lp_ite, forL_nil, forL_nm, e_forS, okArgs, isOwn, outs, nam, frz, look, lookAll, ap1, ap2, apA, un1, bin2, opA, isiM, retS, drpS, setS, setN, putS, put, unpS, asg, mCons, mNil, e_mTup, mt1_ok, e_mLst, ml1_ok, callM, argsOf, argOf, ownIx, Sk.wb, List.getElem?_cons_zero, List.getElem?_cons_succ, List.getElem?_nil, List.set_cons_zero, List.set_cons_succ, List.replicate_succ, List.replicate_zero, List.cons_append, List.nil_append, List.foldl_cons, List.foldl_nil, List.getD_cons_zero, List.getD_cons_succ, List.all_cons, List.all_nil, isiD, tyN, dLt, dLe, dGt, dGe, dAdd_i, dEq_i, dNe_i, dSub, iOp, dLen_t, dLen_l, e_seqM, sq1_l, sq1_t, e_partM, pa1_i, sliM, isN_none, notN_none, isN_int, notN_int, isN_bool, notN_bool, isN_str, notN_str, isN_list, notN_list, isN_tup, notN_tup, isN_dict, notN_dict, raiseS, mDat, mNew, e_callAt, cal_some, wbl_ok, wbl_ex, wbl_ite, e_lcM, e_rng1, e_rng2, e_enuM, en1_l, en1_t, e_zipM, zi1_l, dMnN_i, dMx_l, dMx_t, asg_nm, asg_tp, put, e_appM, isOwnL_l, e_apd, apo_l, notN_OI, isN_OI, dNe_n0, e1, a1, a2, a3, a4, ltAt]
      · intro d _
        simp [C1_is_gait, -List.map_map, th_ok, th_ex, th_ite, e_bind, e_ret, e_opt, ts_ok, ts_ex, ts_ite, e_bindS, sq_nx, sq_rt, sq_ex, sq_bk, sq_ct, sq_ite, e_seqS, fin_nx, fin_rt, fin_ex, fin_ite, e_fnOf, wb_ok, wb_ex, wb_ite, vA1_b, e_vAnd, vO1_b, e_vOr, vN1_b, e_vNot, ch1_b, e_chM, e_toB, e_mAnd, e_mOr, e_mNot, e_mIte, e_iteS, lp_nx, lp_ct, lp_bk, lp_rt, lp_ex, lp_ite, forL_nil, forL_nm, e_forS, okArgs, isOwn, outs, nam, frz, look, lookAll, ap1, ap2, apA, un1, bin2, opA, isiM, retS, drpS, setS, setN, putS, put, unpS, asg, mCons, mNil, e_mTup, mt1_ok, e_mLst, ml1_ok, callM, argsOf, argOf, ownIx, Sk.wb, List.getElem?_cons_zero, List.getElem?_cons_succ, List.getElem?_nil, List.set_cons_zero, List.set_cons_succ, List.replicate_succ, List.replicate_zero, List.cons_append, List.nil_append, List.foldl_cons, List.foldl_nil, List.getD_cons_zero, List.getD_cons_succ, List.all_cons, List.all_nil, isiD, tyN, dLt, dLe, dGt, dGe, dAdd_i, dEq_i, dNe_i, dSub, iOp, dLen_t, dLen_l, e_seqM, sq1_l, sq1_t, e_partM, pa1_i, sliM, isN_none, notN_none, isN_int, notN_int, isN_bool, notN_bool, isN_str, notN_str, isN_list, notN_list, isN_tup, notN_tup, isN_dict, notN_dict, raiseS, mDat, mNew, e_callAt, cal_some, wbl_ok, wbl_ex, wbl_ite, e_lcM, e_rng1, e_rng2, e_enuM, en1_l, en1_t, e_zipM, zi1_l, dMnN_i, dMx_l, dMx_t, asg_nm, asg_tp, put, e_appM, isOwnL_l, e_apd, apo_l, notN_OI, isN_OI, dNe_n0, r_is_step]
  | _ => simp [m_is_gait, b_is_gait, -List.map_map, th_ok, th_ex, th_ite, e_bind, e_ret, e_opt, ts_ok, ts_ex, ts_ite, e_bindS, sq_nx, sq_rt, sq_ex, sq_bk, sq_ct, sq_ite, e_seqS, fin_nx, fin_rt, fin_ex, fin_ite, e_fnOf, wb_ok, wb_ex, wb_ite, vA1_b, e_vAnd, vO1_b, e_vOr, vN1_b, e_vNot, ch1_b, e_chM, e_toB, e_mAnd, e_mOr, e_mNot, e_mIte, e_iteS, lp_nx, lp_ct, lp_bk, lp_rt, lp_ex, lp_ite, forL_nil, forL_nm, e_forS, okArgs, isOwn, outs, nam, frz, look, lookAll, ap1, ap2, apA, un1, bin2, opA, isiM, retS, drpS, setS, setN, putS, put, unpS, asg, mCons, mNil, e_mTup, mt1_ok, e_mLst, ml1_ok, callM, argsOf, argOf, ownIx, Sk.wb, List.getElem?_cons_zero, List.getElem?_cons_succ, List.getElem?_nil, List.set_cons_zero, List.set_cons_succ, List.replicate_succ, List.replicate_zero, List.cons_append, List.nil_append, List.foldl_cons, List.foldl_nil, List.getD_cons_zero, List.getD_cons_succ, List.all_cons, List.all_nil, isiD, tyN, dLt, dLe, dGt, dGe, dAdd_i, dEq_i, dNe_i, dSub, iOp, dLen_t, dLen_l, e_seqM, sq1_l, sq1_t, e_partM, pa1_i, sliM, isN_none, notN_none, isN_int, notN_int, isN_bool, notN_bool, isN_str, notN_str, isN_list, notN_list, isN_tup, notN_tup, isN_dict, notN_dict, raiseS, mDat, mNew, e_callAt, cal_some, wbl_ok, wbl_ex, wbl_ite, e_lcM, e_rng1, e_rng2, e_enuM, en1_l, en1_t, e_zipM, zi1_l, dMnN_i, dMx_l, dMx_t, asg_nm, asg_tp, put, e_appM, isOwnL_l, e_apd, apo_l, notN_OI, isN_OI, dNe_n0, r_is_tuple, isTup, isGait]
end Zk03
set_option maxHeartbeats 1000000
namespace Zk03
open PySem PySem.Spec PyProof.Rows L2 Sk LamX
theorem r_need_ford (v : D) : m_need_ford [.dat v] = if isFord v = true then .ok .none [.dat v] else .ex ⟨0, none⟩ [.dat v] := by
  simp [m_need_ford, b_need_ford, -List.map_map, th_ok, th_ex, th_ite, e_bind, e_ret, e_opt, ts_ok, ts_ex, ts_ite, e_bindS, sq_nx, sq_rt, sq_ex, sq_bk, sq_ct, sq_ite, e_seqS, fin_nx, fin_rt, fin_ex, fin_ite, e_fnOf, wb_ok, wb_ex, wb_ite, vA1_b, e_vAnd, vO1_b, e_vOr, vN1_b, e_vNot, ch1_b, e_chM, e_toB, e_mAnd, e_mOr, e_mNot, e_mIte, e_iteS, lp_nx, lp_ct, lp_bk, lp_rt, lp_ex, lp_ite, forL_nil, forL_nm, e_forS, okArgs, isOwn, outs, nam, frz, look, lookAll, ap1, ap2, apA, un1, bin2, opA, isiM, retS, drpS, setS, setN, putS, put, unpS, asg, mCons, mNil, e_mTup, mt1_ok, e_mLst, ml1_ok, callM, argsOf, argOf, ownIx, Sk.wb, List.getElem?_cons_zero, List.getElem?_cons_succ, List.getElem?_nil, List.set_cons_zero, List.set_cons_succ, List.replicate_succ, List.replicate_zero, List.cons_append, List.nil_append, List.foldl_cons, List.foldl_nil, List.getD_cons_zero, List.getD_cons_succ, List.all_cons, List.all_nil, isiD, tyN, dLt, dLe, dGt, dGe, dAdd_i, dEq_i, dNe_i, dSub, iOp, dLen_t, dLen_l, e_seqM, sq1_l, sq1_t, e_partM, pa1_i, sliM, isN_none, notN_none, isN_int, notN_int, isN_bool, notN_bool, isN_str, notN_str, isN_list, notN_list, isN_tup, notN_tup, isN_dict, notN_dict, raiseS, mDat, mNew, e_callAt, cal_some, wbl_ok, wbl_ex, wbl_ite, e_lcM, e_rng1, e_rng2, e_enuM, en1_l, en1_t, e_zipM, zi1_l, dMnN_i, dMx_l, dMx_t, asg_nm, asg_tp, put, e_appM, isOwnL_l, e_apd, apo_l, notN_OI, isN_OI, dNe_n0, r_is_ford]
  cases isFord v <;> simp
theorem r_need_gait (v : D) : m_need_gait [.dat v] = if isGait v = true then .ok .none [.dat v] else .ex ⟨1, none⟩ [.dat v] := by
  simp [m_need_gait, b_need_gait, -List.map_map, th_ok, th_ex, th_ite, e_bind, e_ret, e_opt, ts_ok, ts_ex, ts_ite, e_bindS, sq_nx, sq_rt, sq_ex, sq_bk, sq_ct, sq_ite, e_seqS, fin_nx, fin_rt, fin_ex, fin_ite, e_fnOf, wb_ok, wb_ex, wb_ite, vA1_b, e_vAnd, vO1_b, e_vOr, vN1_b, e_vNot, ch1_b, e_chM, e_toB, e_mAnd, e_mOr, e_mNot, e_mIte, e_iteS, lp_nx, lp_ct, lp_bk, lp_rt, lp_ex, lp_ite, forL_nil, forL_nm, e_forS, okArgs, isOwn, outs, nam, frz, look, lookAll, ap1, ap2, apA, un1, bin2, opA, isiM, retS, drpS, setS, setN, putS, put, unpS, asg, mCons, mNil, e_mTup, mt1_ok, e_mLst, ml1_ok, callM, argsOf, argOf, ownIx, Sk.wb, List.getElem?_cons_zero, List.getElem?_cons_succ, List.getElem?_nil, List.set_cons_zero, List.set_cons_succ, List.replicate_succ, List.replicate_zero, List.cons_append, List.nil_append, List.foldl_cons, List.foldl_nil, List.getD_cons_zero, List.getD_cons_succ, List.all_cons, List.all_nil, isiD, tyN, dLt, dLe, dGt, dGe, dAdd_i, dEq_i, dNe_i, dSub, iOp, dLen_t, dLen_l, e_seqM, sq1_l, sq1_t, e_partM, pa1_i, sliM, isN_none, notN_none, isN_int, notN_int, isN_bool, notN_bool, isN_str, notN_str, isN_list, notN_list, isN_tup, notN_tup, isN_dict, notN_dict, raiseS, mDat, mNew, e_callAt, cal_some, wbl_ok, wbl_ex, wbl_ite, e_lcM, e_rng1, e_rng2, e_enuM, en1_l, en1_t, e_zipM, zi1_l, dMnN_i, dMx_l, dMx_t, asg_nm, asg_tp, put, e_appM, isOwnL_l, e_apd, apo_l, notN_OI, isN_OI, dNe_n0, r_is_gait]
  cases isGait v <;> simp
theorem r_need_width (v : D) (m : Int) : m_need_width [.dat v, .dat (.int m)] = if isFrom 0 m v = true then .ok .none [.dat v, .dat (.int m)] else .ex ⟨2, none⟩ [.dat v, .dat (.int m)] := by
  simp [m_need_width, b_need_width, -List.map_map, th_ok, th_ex, th_ite, e_bind, e_ret, e_opt, ts_ok, ts_ex, ts_ite, e_bindS, sq_nx, sq_rt, sq_ex, sq_bk, sq_ct, sq_ite, e_seqS, fin_nx, fin_rt, fin_ex, fin_ite, e_fnOf, wb_ok, wb_ex, wb_ite, vA1_b, e_vAnd, vO1_b, e_vOr, vN1_b, e_vNot, ch1_b, e_chM, e_toB, e_mAnd, e_mOr, e_mNot, e_mIte, e_iteS, lp_nx, lp_ct, lp_bk, lp_rt, lp_ex, lp_ite, forL_nil, forL_nm, e_forS, okArgs, isOwn, outs, nam, frz, look, lookAll, ap1, ap2, apA, un1, bin2, opA, isiM, retS, drpS, setS, setN, putS, put, unpS, asg, mCons, mNil, e_mTup, mt1_ok, e_mLst, ml1_ok, callM, argsOf, argOf, ownIx, Sk.wb, List.getElem?_cons_zero, List.getElem?_cons_succ, List.getElem?_nil, List.set_cons_zero, List.set_cons_succ, List.replicate_succ, List.replicate_zero, List.cons_append, List.nil_append, List.foldl_cons, List.foldl_nil, List.getD_cons_zero, List.getD_cons_succ, List.all_cons, List.all_nil, isiD, tyN, dLt, dLe, dGt, dGe, dAdd_i, dEq_i, dNe_i, dSub, iOp, dLen_t, dLen_l, e_seqM, sq1_l, sq1_t, e_partM, pa1_i, sliM, isN_none, notN_none, isN_int, notN_int, isN_bool, notN_bool, isN_str, notN_str, isN_list, notN_list, isN_tup, notN_tup, isN_dict, notN_dict, raiseS, mDat, mNew, e_callAt, cal_some, wbl_ok, wbl_ex, wbl_ite, e_lcM, e_rng1, e_rng2, e_enuM, en1_l, en1_t, e_zipM, zi1_l, dMnN_i, dMx_l, dMx_t, asg_nm, asg_tp, put, e_appM, isOwnL_l, e_apd, apo_l, notN_OI, isN_OI, dNe_n0, r_is_from]
  cases isFrom 0 m v <;> simp
/-! fords, gaits as numbers -/
def encI (xs : List Int) : D := .tuple (xs.map .int)
def encG (g : List (Int × Int)) : D := .tuple (g.map fun p => .tuple [.int p.1, .int p.2])
def stone (f : List Int) (p : Int) : Int := f.getD ((p - 1) % (f.length : Int)).toNat 0
theorem dIx_encI {f : List Int} {p : Int} (hf : f ≠ []) : dIx (.tuple (f.map .int)) (.int ((p - 1) % (f.length : Int))) = some (.int (stone f p)) := by
  have l : 0 < (f.length : Int) := by
    cases f with
    | nil => exact absurd rfl hf
    | cons _ _ => simp
  have h0 := Int.emod_nonneg (p - 1) (show (f.length : Int) ≠ 0 by omega)
  have h1 := Int.emod_lt_of_pos (p - 1) l
  have h2 : ((p - 1) % (f.length : Int)).toNat < f.length := by omega
  rw [dIx_tup h0 (by simpa using h1)]
  simp [stone, h2]
theorem r_strength (f : List Int) (p : Int) (hf : f ≠ []) : m_strength [.dat (encI f), .dat (.int p)] = .ok (.int (stone f p)) [.dat (encI f), .dat (.int p)] := by
  have l : 0 < (f.length : Int) := by
    cases f with
    | nil => exact absurd rfl hf
    | cons _ _ => simp
  have e : dMod (.int (p - 1)) (.int (f.length : Int)) = some (.int ((p - 1) % (f.length : Int))) := e_chk l
  simp [m_strength, b_strength, encI, -List.map_map, th_ok, th_ex, th_ite, e_bind, e_ret, e_opt, ts_ok, ts_ex, ts_ite, e_bindS, sq_nx, sq_rt, sq_ex, sq_bk, sq_ct, sq_ite, e_seqS, fin_nx, fin_rt, fin_ex, fin_ite, e_fnOf, wb_ok, wb_ex, wb_ite, vA1_b, e_vAnd, vO1_b, e_vOr, vN1_b, e_vNot, ch1_b, e_chM, e_toB, e_mAnd, e_mOr, e_mNot, e_mIte, e_iteS, lp_nx, lp_ct, lp_bk, lp_rt, lp_ex, lp_ite, forL_nil, forL_nm, e_forS, okArgs, isOwn, outs, nam, frz, look, lookAll, ap1, ap2, apA, un1, bin2, opA, isiM, retS, drpS, setS, setN, putS, put, unpS, asg, mCons, mNil, e_mTup, mt1_ok, e_mLst, ml1_ok, callM, argsOf, argOf, ownIx, Sk.wb, List.getElem?_cons_zero, List.getElem?_cons_succ, List.getElem?_nil, List.set_cons_zero, List.set_cons_succ, List.replicate_succ, List.replicate_zero, List.cons_append, List.nil_append, List.foldl_cons, List.foldl_nil, List.getD_cons_zero, List.getD_cons_succ, List.all_cons, List.all_nil, isiD, tyN, dLt, dLe, dGt, dGe, dAdd_i, dEq_i, dNe_i, dSub, iOp, dLen_t, dLen_l, e_seqM, sq1_l, sq1_t, e_partM, pa1_i, sliM, isN_none, notN_none, isN_int, notN_int, isN_bool, notN_bool, isN_str, notN_str, isN_list, notN_list, isN_tup, notN_tup, isN_dict, notN_dict, raiseS, mDat, mNew, e_callAt, cal_some, wbl_ok, wbl_ex, wbl_ite, e_lcM, e_rng1, e_rng2, e_enuM, en1_l, en1_t, e_zipM, zi1_l, dMnN_i, dMx_l, dMx_t, asg_nm, asg_tp, put, e_appM, isOwnL_l, e_apd, apo_l, notN_OI, isN_OI, dNe_n0, e, dIx_encI hf]
def inL (g : List (Int × Int)) (l : Int) : Bool := g.any fun p => p.1 == l
def encL (xs : List Int) : D := .list (xs.map .int)
theorem sh_ints {n : Nat} (xs : List Int) : Sh (n + 1) (.list (xs.map .int)) := sh_lst fun x h => by
  obtain ⟨i, _, rfl⟩ := List.mem_map.mp h
  exact sh_int
theorem any_int (l : Int) : ∀ xs : List Int, ((xs.map PyData.int).any fun z => PyData.eqv z (.int l)) = xs.any fun x => x == l
  | [] => rfl
  | x :: xs => by
    rw [List.map_cons, List.any_cons, List.any_cons, any_int l xs]
    rfl
theorem notin_ints (l : Int) (xs : List Int) : dNotInL (.int l) (.list (xs.map .int)) = some (.bool (!xs.any fun x => x == l)) := by
  show chk _ _ = _
  rw [e_chk ⟨sh_int.shaped (n := 0) (by decide), (sh_ints (n := 0) xs).shaped (by decide)⟩, any_int]
theorem eq_ints (i j : Int) : dEq (.int i) (.int j) = some (.bool (i == j)) := by
  show chk _ _ = _
  rw [e_chk ⟨sh_int.shaped (n := 0) (by decide), sh_int.shaped (n := 0) (by decide)⟩]
  rfl
end Zk03
set_option maxHeartbeats 1000000
namespace Zk03
open PySem PySem.Spec PyProof.Rows L2 Sk LamX
/-! dict(gait) -/
abbrev kvG (g : List (Int × Int)) : List (D × D) := g.map fun p => (.int p.1, .int p.2)
theorem pairs_G : ∀ g : List (Int × Int), pairsD (g.map fun p => .tuple [.int p.1, .int p.2]) = some (g.map fun p => (.inl p.1, .int p.2))
  | [] => rfl
  | p :: g => by
    rw [List.map_cons]
    unfold pairsD
    rw [pairs_G g]
    rfl
theorem has_G {k : Int} : ∀ {g : List (Int × Int)}, (∀ p ∈ g, p.1 ≠ k) → hasD (kvG g) (.inl k) = false
  | [], _ => rfl
  | p :: g, h => by
    have h1 := h p (List.mem_cons_self ..)
    have h2 : hasD (kvG g) (.inl k) = false := has_G fun q hq => h q (List.mem_cons_of_mem _ hq)
    show (if keyOf (.int p.1) = some (.inl k) then true else hasD (kvG g) (.inl k)) = false
    rw [h2, if_neg]
    intro z
    exact h1 (by simpa [keyOf] using z)
theorem merge_G : ∀ (g a : List (Int × Int)), (∀ p ∈ g, ∀ q ∈ a, q.1 ≠ p.1) → (g.map (·.1)).Nodup → mergeD (kvG a) (g.map fun p => (.inl p.1, .int p.2)) = kvG (a ++ g)
  | [], a, _, _ => by simp [mergeD]
  | p :: g, a, h, n => by
    rw [List.map_cons, List.nodup_cons] at n
    rw [List.map_cons]
    unfold mergeD putD
    rw [has_G (fun q hq => h p (List.mem_cons_self ..) q hq)]
    have e : kvG a ++ [(keyD (.inl p.1), .int p.2)] = kvG (a ++ [p]) := by simp [kvG, keyD]
    simp only [Bool.false_eq_true, if_false]
    rw [e, merge_G g (a ++ [p]) (fun q hq r hr => ?_) n.2]
    · simp
    · rcases List.mem_append.mp hr with hr | hr
      · exact h q (List.mem_cons_of_mem _ hq) r hr
      · have : r = p := by simpa using hr
        subst this
        intro z
        exact n.1 (List.mem_map.mpr ⟨q, hq, z.symm⟩)
theorem up_lt : ∀ {g : List (Int × Int)} {l : Int}, upFrom l (g.map fun p => .tuple [.int p.1, .int p.2]) = true → (∀ p ∈ g, l < p.1 ∧ p.1 ≤ 6 ∧ 0 ≤ p.2 ∧ p.2 ≤ 9) ∧ (g.map (·.1)).Nodup
  | [], l, _ => ⟨fun p h => by simp at h, List.nodup_nil⟩
  | p :: g, l, h => by
    rw [List.map_cons] at h
    unfold upFrom at h
    simp only [Bool.and_eq_true, decide_eq_true_eq] at h
    obtain ⟨i1, i2⟩ := up_lt h.2
    refine ⟨fun q hq => ?_, ?_⟩
    · rcases List.mem_cons.mp hq with rfl | hq
      · omega
      · have := i1 q hq
        omega
    · rw [List.map_cons, List.nodup_cons]
      refine ⟨fun z => ?_, i2⟩
      obtain ⟨q, hq, e⟩ := List.mem_map.mp z
      have := i1 q hq
      omega
theorem gait_up {g : List (Int × Int)} (h : isGait (encG g) = true) : (∀ p ∈ g, 0 < p.1 ∧ p.1 ≤ 6 ∧ 0 ≤ p.2 ∧ p.2 ≤ 9) ∧ (g.map (·.1)).Nodup := by
  unfold encG isGait at h
  rw [Bool.and_eq_true] at h
  exact up_lt h.2
theorem dict_G {g : List (Int × Int)} (h : isGait (encG g) = true) (hc : g.length ≤ cap) : dDict [encG g] = some (.dict (kvG g)) := by
  have n := (gait_up h).2
  have m := merge_G g [] (fun _ _ q hq => by simp at hq) n
  rw [List.nil_append] at m
  show (if (g.map fun p => PyData.tuple [.int p.1, .int p.2]).length ≤ cap then (pairsD (g.map fun p => .tuple [.int p.1, .int p.2])).map fun l => PyData.dict (mergeD [] l) else none) = _
  rw [if_pos (by simpa using hc), pairs_G, Option.map_some]
  exact congrArg (fun z => some (PyData.dict z)) m
def toilAt (g : List (Int × Int)) (l : Int) : Int := ((g.find? fun p => p.1 == l).map (·.2)).getD 0
theorem look_G {l : Int} : ∀ g : List (Int × Int), lookD (kvG g) (.inl l) = (g.find? fun p => p.1 == l).map fun p => .int p.2
  | [] => rfl
  | p :: g => by
    show (if keyOf (.int p.1) = some (.inl l) then some (.int p.2) else lookD (kvG g) (.inl l)) = _
    by_cases e : p.1 = l
    · simp [keyOf, e]
    · have e2 : ¬ keyOf (.int p.1) = some (.inl l) := fun z => e (by simpa [keyOf] using z)
      rw [if_neg e2, look_G g, List.find?_cons_of_neg (by simpa using e)]
theorem get_G {g : List (Int × Int)} {l : Int} (h : inL g l = true) : dkGet (.dict (kvG g)) (.int l) = some (.int (toilAt g l)) := by
  show lookD (kvG g) (.inl l) = _
  rw [look_G]
  unfold toilAt
  cases e : g.find? fun p => p.1 == l with
  | some p => rfl
  | none =>
    unfold inL at h
    obtain ⟨p, hp, q⟩ := List.any_eq_true.mp h
    exact absurd q (List.find?_eq_none.mp e p hp)
theorem in_G {g : List (Int × Int)} {l : Int} : dkNotIn (.int l) (.dict (kvG g)) = some (.bool (!inL g l)) := by
  show some (PyData.bool (!(lookD (kvG g) (.inl l)).isSome)) = _
  rw [look_G]
  congr 3
  unfold inL
  cases e : g.find? fun p => p.1 == l with
  | some p => exact (List.any_eq_true.mpr ⟨p, List.mem_of_find?_eq_some e, List.find?_some (p := fun p : Int × Int => p.1 == l) e⟩).symm
  | none =>
    refine (List.any_eq_false.mpr fun p hp => ?_).symm
    exact List.find?_eq_none.mp e p hp
theorem ints_int : ∀ xs : List Int, intsOf (xs.map .int) = some xs
  | [] => rfl
  | x :: xs => by
    rw [List.map_cons]
    unfold intsOf
    rw [ints_int xs]
    rfl
theorem sum_ints (xs : List Int) : dSum [.list (xs.map .int)] = some (.int xs.sum) := by
  show (intsOf (xs.map .int)).map _ = _
  rw [ints_int]
  rfl
end Zk03
set_option maxHeartbeats 1000000
namespace Zk03
open PySem PySem.Spec PyProof.Rows L2 Sk LamX
/-! draws -/
abbrev Src : Type := Int × Int
def encS (s : Src) : D := .list [.int s.1, .int s.2]
def OkS (s : Src) : Prop := 0 ≤ s.2 ∧ s.2 < 2147483237
def nx2 (s : Src) : Int := (s.2 * 48271 + 83) % 2147483237
def wideOf (s : Src) : Int := (nx2 s * (nx2 s / 41 + 26)) % 2147483179
def drV (s : Src) (many : Int) : Int := if 0 < s.1 then s.1 % many else wideOf s / 32 % many
def drS (s : Src) (many : Int) : Src := if 0 < s.1 then (s.1 / many, s.2) else (s.1, nx2 s)
theorem drV_0 {s : Src} {many : Int} (h : 0 < many) : 0 ≤ drV s many := by
  unfold drV
  split <;> exact Int.emod_nonneg _ (by omega)
theorem drV_lt {s : Src} {many : Int} (h : 0 < many) : drV s many < many := by
  unfold drV
  split <;> exact Int.emod_lt_of_pos _ h
theorem nx2_ok (s : Src) : 0 ≤ nx2 s ∧ nx2 s < 2147483237 := ⟨Int.emod_nonneg _ (by omega), Int.emod_lt_of_pos _ (by omega)⟩
theorem drS_ok {s : Src} {many : Int} (h : OkS s) : OkS (drS s many) := by
  unfold drS
  split
  · exact h
  · exact nx2_ok s
theorem set_0 {a b : D} {k : Int} (h : k = 0) : ixN [a, b].length k = some 0 := by subst h; rfl
theorem set_1 {a b : D} {k : Int} (h : k = 1) : ixN [a, b].length k = some 1 := by subst h; rfl
theorem dIx_0 {a b : D} : dIx (.list [a, b]) (.int 0) = some a := rfl
theorem dIx_1 {a b : D} : dIx (.list [a, b]) (.int 1) = some b := rfl
theorem dMod_ok {i j : Int} (h : 0 < j) : dMod (.int i) (.int j) = some (.int (i % j)) := e_chk h
theorem dDiv_ok {i j : Int} (h : 0 < j) (h2 : j ≤ 1000000000000000000000000000000) : dDiv (.int i) (.int j) = some (.int (i / j)) := e_chk ⟨h, by omega⟩
theorem dMul_ok {i j : Int} (h : -10000000000 < j ∧ j < 10000000000) : dMul (.int i) (.int j) = some (.int (i * j)) := e_chk (.inr (by omega))
theorem dMul_ok1 {i j : Int} (h : -10000000000 < i ∧ i < 10000000000) : dMul (.int i) (.int j) = some (.int (i * j)) := e_chk (.inl (by omega))
theorem r_draw (s : Src) (many : Int) (hs : OkS s) (h0 : 0 < many) (h1 : many ≤ 1000000000000000000000000000000) : m__law_draw [.own (encS s), .dat (.int many)] = .ok (.int (drV s many)) [.own (encS (drS s many)), .dat (.int many)] := by
  by_cases hp : 0 < s.1
  · simp [m__law_draw, b__law_draw, -List.map_map, th_ok, th_ex, th_ite, e_bind, e_ret, e_opt, ts_ok, ts_ex, ts_ite, e_bindS, sq_nx, sq_rt, sq_ex, sq_bk, sq_ct, sq_ite, e_seqS, fin_nx, fin_rt, fin_ex, fin_ite, e_fnOf, wb_ok, wb_ex, wb_ite, vA1_b, e_vAnd, vO1_b, e_vOr, vN1_b, e_vNot, ch1_b, e_chM, e_toB, e_mAnd, e_mOr, e_mNot, e_mIte, e_iteS, lp_nx, lp_ct, lp_bk, lp_rt, lp_ex, lp_ite, forL_nil, forL_nm, e_forS, okArgs, isOwn, outs, nam, frz, look, lookAll, ap1, ap2, apA, un1, bin2, opA, isiM, retS, drpS, setS, setN, putS, put, unpS, asg, mCons, mNil, e_mTup, mt1_ok, e_mLst, ml1_ok, callM, argsOf, argOf, ownIx, Sk.wb, List.getElem?_cons_zero, List.getElem?_cons_succ, List.getElem?_nil, List.set_cons_zero, List.set_cons_succ, List.replicate_succ, List.replicate_zero, List.cons_append, List.nil_append, List.foldl_cons, List.foldl_nil, List.getD_cons_zero, List.getD_cons_succ, List.all_cons, List.all_nil, isiD, tyN, dLt, dLe, dGt, dGe, dAdd_i, dEq_i, dNe_i, dSub, iOp, dLen_t, dLen_l, e_seqM, sq1_l, sq1_t, e_partM, pa1_i, sliM, isN_none, notN_none, isN_int, notN_int, isN_bool, notN_bool, isN_str, notN_str, isN_list, notN_list, isN_tup, notN_tup, isN_dict, notN_dict, raiseS, mDat, mNew, e_callAt, cal_some, wbl_ok, wbl_ex, wbl_ite, e_lcM, e_rng1, e_rng2, e_enuM, en1_l, en1_t, e_zipM, zi1_l, dMnN_i, dMx_l, dMx_t, asg_nm, asg_tp, put, e_appM, isOwnL_l, e_apd, apo_l, notN_OI, isN_OI, dNe_n0, encS, dIx_0, hp, dInt, dMod_ok h0, putIx, isOwnL, dDiv_ok h0 h1, L2.ixN, drV, drS]
  · have n := nx2_ok s
    have m1 : dMul (.int s.2) (.int 48271) = some (.int (s.2 * 48271)) := dMul_ok (by omega)
    have m2 : dMod (.int (s.2 * 48271 + 83)) (.int 2147483237) = some (.int (nx2 s)) := dMod_ok (by omega)
    have m3 : dDiv (.int (nx2 s)) (.int 41) = some (.int (nx2 s / 41)) := dDiv_ok (by omega) (by omega)
    have m4 : dMul (.int (nx2 s)) (.int (nx2 s / 41 + 26)) = some (.int (nx2 s * (nx2 s / 41 + 26))) := dMul_ok1 (by omega)
    have m5 : dMod (.int (nx2 s * (nx2 s / 41 + 26))) (.int 2147483179) = some (.int (wideOf s)) := dMod_ok (by omega)
    have m6 : dDiv (.int (wideOf s)) (.int 32) = some (.int (wideOf s / 32)) := dDiv_ok (by omega) (by omega)
    simp [m__law_draw, b__law_draw, -List.map_map, th_ok, th_ex, th_ite, e_bind, e_ret, e_opt, ts_ok, ts_ex, ts_ite, e_bindS, sq_nx, sq_rt, sq_ex, sq_bk, sq_ct, sq_ite, e_seqS, fin_nx, fin_rt, fin_ex, fin_ite, e_fnOf, wb_ok, wb_ex, wb_ite, vA1_b, e_vAnd, vO1_b, e_vOr, vN1_b, e_vNot, ch1_b, e_chM, e_toB, e_mAnd, e_mOr, e_mNot, e_mIte, e_iteS, lp_nx, lp_ct, lp_bk, lp_rt, lp_ex, lp_ite, forL_nil, forL_nm, e_forS, okArgs, isOwn, outs, nam, frz, look, lookAll, ap1, ap2, apA, un1, bin2, opA, isiM, retS, drpS, setS, setN, putS, put, unpS, asg, mCons, mNil, e_mTup, mt1_ok, e_mLst, ml1_ok, callM, argsOf, argOf, ownIx, Sk.wb, List.getElem?_cons_zero, List.getElem?_cons_succ, List.getElem?_nil, List.set_cons_zero, List.set_cons_succ, List.replicate_succ, List.replicate_zero, List.cons_append, List.nil_append, List.foldl_cons, List.foldl_nil, List.getD_cons_zero, List.getD_cons_succ, List.all_cons, List.all_nil, isiD, tyN, dLt, dLe, dGt, dGe, dAdd_i, dEq_i, dNe_i, dSub, iOp, dLen_t, dLen_l, e_seqM, sq1_l, sq1_t, e_partM, pa1_i, sliM, isN_none, notN_none, isN_int, notN_int, isN_bool, notN_bool, isN_str, notN_str, isN_list, notN_list, isN_tup, notN_tup, isN_dict, notN_dict, raiseS, mDat, mNew, e_callAt, cal_some, wbl_ok, wbl_ex, wbl_ite, e_lcM, e_rng1, e_rng2, e_enuM, en1_l, en1_t, e_zipM, zi1_l, dMnN_i, dMx_l, dMx_t, asg_nm, asg_tp, put, e_appM, isOwnL_l, e_apd, apo_l, notN_OI, isN_OI, dNe_n0, encS, dIx_0, dIx_1, hp, dInt, m1, m2, m3, m4, m5, m6, dMod_ok h0, putIx, isOwnL, L2.ixN, drV, drS]
/-- one of some -/
def pick (s : Src) (xs : List D) : D := xs.getD (drV s (xs.length : Int)).toNat .none
def pickS (s : Src) (xs : List D) : Src := drS s (xs.length : Int)
theorem pick_mem {s : Src} {xs : List D} (h : xs ≠ []) : pick s xs ∈ xs := by
  have l : 0 < (xs.length : Int) := by
    cases xs with
    | nil => exact absurd rfl h
    | cons _ _ => simp
  have a := drV_0 (s := s) l
  have b := drV_lt (s := s) l
  have c : (drV s (xs.length : Int)).toNat < xs.length := by omega
  unfold pick
  rw [List.getD_eq_getElem?_getD, List.getElem?_eq_getElem c]
  exact List.getElem_mem c
theorem r_choice (s : Src) (xs : List D) (hs : OkS s) (h : xs ≠ []) (hc : xs.length ≤ 1000000) : m__law_choice [.own (encS s), .dat (.list xs)] = .ok (pick s xs) [.own (encS (pickS s xs)), .dat (.list xs)] := by
  have l : 0 < (xs.length : Int) := by
    cases xs with
    | nil => exact absurd rfl h
    | cons _ _ => simp
  have a := drV_0 (s := s) l
  have b := drV_lt (s := s) l
  have c : (drV s (xs.length : Int)).toNat < xs.length := by omega
  have e : dIx (.list xs) (.int (drV s (xs.length : Int))) = some (pick s xs) := by
    rw [dIx_lst a b]
    unfold pick
    rw [List.getD_eq_getElem?_getD, List.getElem?_eq_getElem c]
    rfl
  simp [m__law_choice, b__law_choice, -List.map_map, th_ok, th_ex, th_ite, e_bind, e_ret, e_opt, ts_ok, ts_ex, ts_ite, e_bindS, sq_nx, sq_rt, sq_ex, sq_bk, sq_ct, sq_ite, e_seqS, fin_nx, fin_rt, fin_ex, fin_ite, e_fnOf, wb_ok, wb_ex, wb_ite, vA1_b, e_vAnd, vO1_b, e_vOr, vN1_b, e_vNot, ch1_b, e_chM, e_toB, e_mAnd, e_mOr, e_mNot, e_mIte, e_iteS, lp_nx, lp_ct, lp_bk, lp_rt, lp_ex, lp_ite, forL_nil, forL_nm, e_forS, okArgs, isOwn, outs, nam, frz, look, lookAll, ap1, ap2, apA, un1, bin2, opA, isiM, retS, drpS, setS, setN, putS, put, unpS, asg, mCons, mNil, e_mTup, mt1_ok, e_mLst, ml1_ok, callM, argsOf, argOf, ownIx, Sk.wb, List.getElem?_cons_zero, List.getElem?_cons_succ, List.getElem?_nil, List.set_cons_zero, List.set_cons_succ, List.replicate_succ, List.replicate_zero, List.cons_append, List.nil_append, List.foldl_cons, List.foldl_nil, List.getD_cons_zero, List.getD_cons_succ, List.all_cons, List.all_nil, isiD, tyN, dLt, dLe, dGt, dGe, dAdd_i, dEq_i, dNe_i, dSub, iOp, dLen_t, dLen_l, e_seqM, sq1_l, sq1_t, e_partM, pa1_i, sliM, isN_none, notN_none, isN_int, notN_int, isN_bool, notN_bool, isN_str, notN_str, isN_list, notN_list, isN_tup, notN_tup, isN_dict, notN_dict, raiseS, mDat, mNew, e_callAt, cal_some, wbl_ok, wbl_ex, wbl_ite, e_lcM, e_rng1, e_rng2, e_enuM, en1_l, en1_t, e_zipM, zi1_l, dMnN_i, dMx_l, dMx_t, asg_nm, asg_tp, put, e_appM, isOwnL_l, e_apd, apo_l, notN_OI, isN_OI, dNe_n0, r_draw s (xs.length : Int) hs l (by omega), e, pickS]
/-! what every law has -/
def srcOf (ns : List Int) (k : Nat) : Src :=
  let cell : Int := if h : k < ns.length then ((if ns[k] < 0 then -ns[k] else ns[k]) : Int) else 131 * k + 71
  (if 100000000000000000 < cell then cell else 0, (cell * 16807 + 10067 * k + 89) % 2147483237)
theorem src_ok (ns : List Int) (k : Nat) : OkS (srcOf ns k) := ⟨Int.emod_nonneg _ (by omega), Int.emod_lt_of_pos _ (by omega)⟩
theorem r_source (ns : List Int) (k : Nat) (hk : k < 1000000) : m__law_source [.scr ns, .dat (.int (k : Int))] = .ok (encS (srcOf ns k)) [.scr ns, .dat (.int (k : Int))] := by
  have p : dPow (.int 10) (.int 17) = some (.int 100000000000000000) := by
    simp [dPow, iOp, chk]
  have m1 : dMul (.int 131) (.int (k : Int)) = some (.int (131 * k)) := dMul_ok1 (by omega)
  have m2 : dMul (.int 10067) (.int (k : Int)) = some (.int (10067 * k)) := dMul_ok1 (by omega)
  have m3 : ∀ i : Int, dMul (.int i) (.int 16807) = some (.int (i * 16807)) := fun i => dMul_ok (by omega)
  have m4 : ∀ i : Int, dMod (.int i) (.int 2147483237) = some (.int (i % 2147483237)) := fun i => dMod_ok (by omega)
  by_cases h : k < ns.length
  · have hi : L2.atI ns (k : Int) = some ns[k] := atI_pos (by omega) (by omega)
    by_cases hc : (100000000000000000 : Int) < (if ns[k] < 0 then -ns[k] else ns[k])
    · simp [m__law_source, fnNew, -List.map_map, th_ok, th_ex, th_ite, e_bind, e_ret, e_opt, ts_ok, ts_ex, ts_ite, e_bindS, sq_nx, sq_rt, sq_ex, sq_bk, sq_ct, sq_ite, e_seqS, fin_nx, fin_rt, fin_ex, fin_ite, e_fnOf, wb_ok, wb_ex, wb_ite, vA1_b, e_vAnd, vO1_b, e_vOr, vN1_b, e_vNot, ch1_b, e_chM, e_toB, e_mAnd, e_mOr, e_mNot, e_mIte, e_iteS, lp_nx, lp_ct, lp_bk, lp_rt, lp_ex, lp_ite, forL_nil, forL_nm, e_forS, okArgs, isOwn, outs, nam, frz, look, lookAll, ap1, ap2, apA, un1, bin2, opA, isiM, retS, drpS, setS, setN, putS, put, unpS, asg, mCons, mNil, e_mTup, mt1_ok, e_mLst, ml1_ok, callM, argsOf, argOf, ownIx, Sk.wb, List.getElem?_cons_zero, List.getElem?_cons_succ, List.getElem?_nil, List.set_cons_zero, List.set_cons_succ, List.replicate_succ, List.replicate_zero, List.cons_append, List.nil_append, List.foldl_cons, List.foldl_nil, List.getD_cons_zero, List.getD_cons_succ, List.all_cons, List.all_nil, isiD, tyN, dLt, dLe, dGt, dGe, dAdd_i, dEq_i, dNe_i, dSub, iOp, dLen_t, dLen_l, e_seqM, sq1_l, sq1_t, e_partM, pa1_i, sliM, isN_none, notN_none, isN_int, notN_int, isN_bool, notN_bool, isN_str, notN_str, isN_list, notN_list, isN_tup, notN_tup, isN_dict, notN_dict, raiseS, mDat, mNew, e_callAt, cal_some, wbl_ok, wbl_ex, wbl_ite, e_lcM, e_rng1, e_rng2, e_enuM, en1_l, en1_t, e_zipM, zi1_l, dMnN_i, dMx_l, dMx_t, asg_nm, asg_tp, put, e_appM, isOwnL_l, e_apd, apo_l, notN_OI, isN_OI, dNe_n0, lenS, ixS, h, hi, dInt, dAbs, p, m1, m2, m3, m4, encS, srcOf, hc]
    · simp [m__law_source, fnNew, -List.map_map, th_ok, th_ex, th_ite, e_bind, e_ret, e_opt, ts_ok, ts_ex, ts_ite, e_bindS, sq_nx, sq_rt, sq_ex, sq_bk, sq_ct, sq_ite, e_seqS, fin_nx, fin_rt, fin_ex, fin_ite, e_fnOf, wb_ok, wb_ex, wb_ite, vA1_b, e_vAnd, vO1_b, e_vOr, vN1_b, e_vNot, ch1_b, e_chM, e_toB, e_mAnd, e_mOr, e_mNot, e_mIte, e_iteS, lp_nx, lp_ct, lp_bk, lp_rt, lp_ex, lp_ite, forL_nil, forL_nm, e_forS, okArgs, isOwn, outs, nam, frz, look, lookAll, ap1, ap2, apA, un1, bin2, opA, isiM, retS, drpS, setS, setN, putS, put, unpS, asg, mCons, mNil, e_mTup, mt1_ok, e_mLst, ml1_ok, callM, argsOf, argOf, ownIx, Sk.wb, List.getElem?_cons_zero, List.getElem?_cons_succ, List.getElem?_nil, List.set_cons_zero, List.set_cons_succ, List.replicate_succ, List.replicate_zero, List.cons_append, List.nil_append, List.foldl_cons, List.foldl_nil, List.getD_cons_zero, List.getD_cons_succ, List.all_cons, List.all_nil, isiD, tyN, dLt, dLe, dGt, dGe, dAdd_i, dEq_i, dNe_i, dSub, iOp, dLen_t, dLen_l, e_seqM, sq1_l, sq1_t, e_partM, pa1_i, sliM, isN_none, notN_none, isN_int, notN_int, isN_bool, notN_bool, isN_str, notN_str, isN_list, notN_list, isN_tup, notN_tup, isN_dict, notN_dict, raiseS, mDat, mNew, e_callAt, cal_some, wbl_ok, wbl_ex, wbl_ite, e_lcM, e_rng1, e_rng2, e_enuM, en1_l, en1_t, e_zipM, zi1_l, dMnN_i, dMx_l, dMx_t, asg_nm, asg_tp, put, e_appM, isOwnL_l, e_apd, apo_l, notN_OI, isN_OI, dNe_n0, lenS, ixS, h, hi, dInt, dAbs, p, m1, m2, m3, m4, encS, srcOf, hc]
  · by_cases hc : (100000000000000000 : Int) < 131 * (k : Int) + 71
    · simp [m__law_source, fnNew, -List.map_map, th_ok, th_ex, th_ite, e_bind, e_ret, e_opt, ts_ok, ts_ex, ts_ite, e_bindS, sq_nx, sq_rt, sq_ex, sq_bk, sq_ct, sq_ite, e_seqS, fin_nx, fin_rt, fin_ex, fin_ite, e_fnOf, wb_ok, wb_ex, wb_ite, vA1_b, e_vAnd, vO1_b, e_vOr, vN1_b, e_vNot, ch1_b, e_chM, e_toB, e_mAnd, e_mOr, e_mNot, e_mIte, e_iteS, lp_nx, lp_ct, lp_bk, lp_rt, lp_ex, lp_ite, forL_nil, forL_nm, e_forS, okArgs, isOwn, outs, nam, frz, look, lookAll, ap1, ap2, apA, un1, bin2, opA, isiM, retS, drpS, setS, setN, putS, put, unpS, asg, mCons, mNil, e_mTup, mt1_ok, e_mLst, ml1_ok, callM, argsOf, argOf, ownIx, Sk.wb, List.getElem?_cons_zero, List.getElem?_cons_succ, List.getElem?_nil, List.set_cons_zero, List.set_cons_succ, List.replicate_succ, List.replicate_zero, List.cons_append, List.nil_append, List.foldl_cons, List.foldl_nil, List.getD_cons_zero, List.getD_cons_succ, List.all_cons, List.all_nil, isiD, tyN, dLt, dLe, dGt, dGe, dAdd_i, dEq_i, dNe_i, dSub, iOp, dLen_t, dLen_l, e_seqM, sq1_l, sq1_t, e_partM, pa1_i, sliM, isN_none, notN_none, isN_int, notN_int, isN_bool, notN_bool, isN_str, notN_str, isN_list, notN_list, isN_tup, notN_tup, isN_dict, notN_dict, raiseS, mDat, mNew, e_callAt, cal_some, wbl_ok, wbl_ex, wbl_ite, e_lcM, e_rng1, e_rng2, e_enuM, en1_l, en1_t, e_zipM, zi1_l, dMnN_i, dMx_l, dMx_t, asg_nm, asg_tp, put, e_appM, isOwnL_l, e_apd, apo_l, notN_OI, isN_OI, dNe_n0, lenS, ixS, h, dInt, dAbs, p, m1, m2, m3, m4, encS, srcOf, hc]
    · simp [m__law_source, fnNew, -List.map_map, th_ok, th_ex, th_ite, e_bind, e_ret, e_opt, ts_ok, ts_ex, ts_ite, e_bindS, sq_nx, sq_rt, sq_ex, sq_bk, sq_ct, sq_ite, e_seqS, fin_nx, fin_rt, fin_ex, fin_ite, e_fnOf, wb_ok, wb_ex, wb_ite, vA1_b, e_vAnd, vO1_b, e_vOr, vN1_b, e_vNot, ch1_b, e_chM, e_toB, e_mAnd, e_mOr, e_mNot, e_mIte, e_iteS, lp_nx, lp_ct, lp_bk, lp_rt, lp_ex, lp_ite, forL_nil, forL_nm, e_forS, okArgs, isOwn, outs, nam, frz, look, lookAll, ap1, ap2, apA, un1, bin2, opA, isiM, retS, drpS, setS, setN, putS, put, unpS, asg, mCons, mNil, e_mTup, mt1_ok, e_mLst, ml1_ok, callM, argsOf, argOf, ownIx, Sk.wb, List.getElem?_cons_zero, List.getElem?_cons_succ, List.getElem?_nil, List.set_cons_zero, List.set_cons_succ, List.replicate_succ, List.replicate_zero, List.cons_append, List.nil_append, List.foldl_cons, List.foldl_nil, List.getD_cons_zero, List.getD_cons_succ, List.all_cons, List.all_nil, isiD, tyN, dLt, dLe, dGt, dGe, dAdd_i, dEq_i, dNe_i, dSub, iOp, dLen_t, dLen_l, e_seqM, sq1_l, sq1_t, e_partM, pa1_i, sliM, isN_none, notN_none, isN_int, notN_int, isN_bool, notN_bool, isN_str, notN_str, isN_list, notN_list, isN_tup, notN_tup, isN_dict, notN_dict, raiseS, mDat, mNew, e_callAt, cal_some, wbl_ok, wbl_ex, wbl_ite, e_lcM, e_rng1, e_rng2, e_enuM, en1_l, en1_t, e_zipM, zi1_l, dMnN_i, dMx_l, dMx_t, asg_nm, asg_tp, put, e_appM, isOwnL_l, e_apd, apo_l, notN_OI, isN_OI, dNe_n0, lenS, ixS, h, dInt, dAbs, p, m1, m2, m3, m4, encS, srcOf, hc]
theorem r_lstone (f : List Int) (p : Int) (hf : f ≠ []) : m__law_stone [.dat (encI f), .dat (.int p)] = .ok (.int (stone f p)) [.dat (encI f), .dat (.int p)] := by
  have l : 0 < (f.length : Int) := by
    cases f with
    | nil => exact absurd rfl hf
    | cons _ _ => simp
  have e : dMod (.int (p - 1)) (.int (f.length : Int)) = some (.int ((p - 1) % (f.length : Int))) := e_chk l
  simp [m__law_stone, b__law_stone, encI, -List.map_map, th_ok, th_ex, th_ite, e_bind, e_ret, e_opt, ts_ok, ts_ex, ts_ite, e_bindS, sq_nx, sq_rt, sq_ex, sq_bk, sq_ct, sq_ite, e_seqS, fin_nx, fin_rt, fin_ex, fin_ite, e_fnOf, wb_ok, wb_ex, wb_ite, vA1_b, e_vAnd, vO1_b, e_vOr, vN1_b, e_vNot, ch1_b, e_chM, e_toB, e_mAnd, e_mOr, e_mNot, e_mIte, e_iteS, lp_nx, lp_ct, lp_bk, lp_rt, lp_ex, lp_ite, forL_nil, forL_nm, e_forS, okArgs, isOwn, outs, nam, frz, look, lookAll, ap1, ap2, apA, un1, bin2, opA, isiM, retS, drpS, setS, setN, putS, put, unpS, asg, mCons, mNil, e_mTup, mt1_ok, e_mLst, ml1_ok, callM, argsOf, argOf, ownIx, Sk.wb, List.getElem?_cons_zero, List.getElem?_cons_succ, List.getElem?_nil, List.set_cons_zero, List.set_cons_succ, List.replicate_succ, List.replicate_zero, List.cons_append, List.nil_append, List.foldl_cons, List.foldl_nil, List.getD_cons_zero, List.getD_cons_succ, List.all_cons, List.all_nil, isiD, tyN, dLt, dLe, dGt, dGe, dAdd_i, dEq_i, dNe_i, dSub, iOp, dLen_t, dLen_l, e_seqM, sq1_l, sq1_t, e_partM, pa1_i, sliM, isN_none, notN_none, isN_int, notN_int, isN_bool, notN_bool, isN_str, notN_str, isN_list, notN_list, isN_tup, notN_tup, isN_dict, notN_dict, raiseS, mDat, mNew, e_callAt, cal_some, wbl_ok, wbl_ex, wbl_ite, e_lcM, e_rng1, e_rng2, e_enuM, en1_l, en1_t, e_zipM, zi1_l, dMnN_i, dMx_l, dMx_t, asg_nm, asg_tp, put, e_appM, isOwnL_l, e_apd, apo_l, notN_OI, isN_OI, dNe_n0, e, dIx_encI hf]
/-- a comprehension that draws -/
theorem lc_draw {i : Nat} {fe : M D} {lo : Int} {Ok : Src → Prop} {Good : D → Prop} (mk : Src → List Sl) (hi : ∀ s, i < (mk s).length) (hf : ∀ (s : Src) (k : Int), Ok s → ∃ d s', Good d ∧ Ok s' ∧ fe ((mk s).set i (.dat (.int k))) = .ok d ((mk s').set i (.dat (.int k))))
    (hb : ∀ (s s' : Src) (k : Int), (mk s)[i]? = (mk s')[i]?) : ∀ (n : Nat) (j : Nat) (acc : List D) (s : Src), Ok s → acc.length + n ≤ cap → ∃ ds s', ds.length = n ∧ (∀ d ∈ ds, Good d) ∧ Ok s' ∧
      lcL (.nm i) (M.ret true) fe [i] acc ((List.range' j n).map fun k : Nat => .int (lo + (k : Int))) (mk s) = .ok (.list (acc ++ ds)) (mk s')
  | 0, j, acc, s, hs, _ => ⟨[], s, rfl, fun d hd => by simp at hd, hs, by simp [lcL]⟩
  | n + 1, j, acc, s, hs, hc => by
    obtain ⟨d, s1, g1, o1, e1⟩ := hf s (lo + (j : Int)) hs
    obtain ⟨ds, s2, l2, g2, o2, e2⟩ := lc_draw (lo := lo) mk hi hf hb n (j + 1) (acc ++ [d]) s1 o1 (by rw [List.length_append]; simp; omega)
    refine ⟨d :: ds, s2, by rw [List.length_cons, l2], fun x hx => (List.mem_cons.mp hx).elim (fun z => z ▸ g1) (g2 x), o2, ?_⟩
    rw [List.range'_succ, List.map_cons]
    have e0 : asg (.nm i) (.int (lo + (j : Int))) (killS [i] (mk s)) = some ((mk s).set i (.dat (.int (lo + (j : Int))))) := by simp [asg, killS]
    unfold lcL
    rw [e0]
    simp only [e_ret]
    rw [e1]
    simp only
    have bk : back [i] (mk s) ((mk s1).set i (.dat (.int (lo + (j : Int))))) = mk s1 := by
      have e : (mk s).getD i .un = (mk s1).getD i .un := by rw [List.getD_eq_getElem?_getD, List.getD_eq_getElem?_getD, hb s s1 0]
      have := set_back (st := mk s1) (s := .dat (.int (lo + (j : Int)))) (hi s1)
      unfold back at this ⊢
      simp only [List.foldl_cons, List.foldl_nil] at this ⊢
      rw [e]
      exact this
    rw [if_pos (by omega), bk, e2]
    simp
theorem rngL' (lo : Int) (n : Nat) : rngL lo n = (List.range' 0 n).map fun k : Nat => .int (lo + (k : Int)) := by
  unfold rngL
  rw [List.range_eq_range']
def IntIn (l m : Int) (d : D) : Prop := ∃ i : Int, d = .int i ∧ l ≤ i ∧ i ≤ m
theorem ints_form {l m : Int} : ∀ {ds : List D}, (∀ d ∈ ds, IntIn l m d) → ∃ xs : List Int, ds = xs.map .int ∧ ∀ x ∈ xs, l ≤ x ∧ x ≤ m
  | [], _ => ⟨[], rfl, fun x hx => by simp at hx⟩
  | d :: ds, h => by
    obtain ⟨i, rfl, hi⟩ := h d (List.mem_cons_self ..)
    obtain ⟨xs, e, hx⟩ := ints_form fun x hx => h x (List.mem_cons_of_mem _ hx)
    exact ⟨i :: xs, by rw [e]; rfl, fun x q => (List.mem_cons.mp q).elim (fun z => z ▸ hi) (hx x)⟩
theorem good_ford {xs : List Int} (h1 : 1 ≤ xs.length) (h2 : xs.length ≤ 8) (h : ∀ x ∈ xs, 0 ≤ x ∧ x ≤ 3) : isFord (encI xs) = true := by
  unfold encI isFord
  simp only [List.length_map, Bool.and_eq_true, decide_eq_true_eq]
  refine ⟨by omega, List.all_eq_true.mpr fun d hd => ?_⟩
  obtain ⟨x, hx, rfl⟩ := List.mem_map.mp hd
  have := h x hx
  simp [isFrom]
  omega
theorem some_ok {s : Src} {xs : List (List Int)} (h : xs ≠ []) : ∃ ys ∈ xs, pick s (xs.map fun ys => .list (ys.map .int)) = .list (ys.map .int) := by
  have := pick_mem (s := s) (xs := xs.map fun ys => PyData.list (ys.map .int)) (by simpa using h)
  obtain ⟨ys, hy, e⟩ := List.mem_map.mp this
  exact ⟨ys, hy, e.symm⟩
/-- a random ford -/
theorem r_lford (s : Src) (hs : OkS s) : ∃ f s', isFord (encI f) = true ∧ OkS s' ∧ m__law_ford [.own (encS s)] = .ok (encI f) [.own (encS s')] := by
  obtain ⟨ys, hy, ey⟩ := some_ok (s := s) (xs := [[0, 1], [0, 1, 1, 2], [1, 2, 3, 0], [1, 1, 1, 0]]) (by simp)
  have rc := r_choice s ([[0, 1], [0, 1, 1, 2], [1, 2, 3, 0], [1, 1, 1, 0]].map fun ys : List Int => PyData.list (ys.map .int)) hs (by simp) (by simp)
  rw [ey] at rc
  generalize hs1 : pickS s ([[0, 1], [0, 1, 1, 2], [1, 2, 3, 0], [1, 1, 1, 0]].map fun ys : List Int => PyData.list (ys.map .int)) = s1 at rc
  have os1 : OkS s1 := hs1 ▸ drS_ok hs
  have rd := r_draw s1 8 os1 (by omega) (by omega)
  have d0 := drV_0 (s := s1) (many := 8) (by omega)
  have d1 := drV_lt (s := s1) (many := 8) (by omega)
  have hy2 : ∀ y ∈ ys, 0 ≤ y ∧ y ≤ 3 := by
    simp at hy
    rcases hy with rfl | rfl | rfl | rfl <;> simp
  have hy3 : ys ≠ [] := by
    simp at hy
    rcases hy with rfl | rfl | rfl | rfl <;> simp
  have hy4 : ys.length ≤ 4 := by
    simp at hy
    rcases hy with rfl | rfl | rfl | rfl <;> simp
  obtain ⟨ds, s3, l3, g3, o3, e3⟩ := lc_draw (i := 2) (fe := C1__law_ford) (lo := 0) (Ok := OkS) (Good := IntIn 0 3) (fun s => [.own (encS s), .dat (.list (ys.map .int)), .un]) (fun _ => by simp) (fun s k hs => by
    have m := pick_mem (s := s) (xs := ys.map PyData.int) (by simpa using hy3)
    obtain ⟨y, hy', e⟩ := List.mem_map.mp m
    have r := r_choice s (ys.map .int) hs (by simpa using hy3) (by rw [List.length_map]; omega)
    rw [← e] at r
    exact ⟨.int y, pickS s (ys.map .int), ⟨y, rfl, hy2 y hy'⟩, drS_ok hs, by simp [C1__law_ford, -List.map_map, th_ok, th_ex, th_ite, e_bind, e_ret, e_opt, ts_ok, ts_ex, ts_ite, e_bindS, sq_nx, sq_rt, sq_ex, sq_bk, sq_ct, sq_ite, e_seqS, fin_nx, fin_rt, fin_ex, fin_ite, e_fnOf, wb_ok, wb_ex, wb_ite, vA1_b, e_vAnd, vO1_b, e_vOr, vN1_b, e_vNot, ch1_b, e_chM, e_toB, e_mAnd, e_mOr, e_mNot, e_mIte, e_iteS, lp_nx, lp_ct, lp_bk, lp_rt, lp_ex, lp_ite, forL_nil, forL_nm, e_forS, okArgs, isOwn, outs, nam, frz, look, lookAll, ap1, ap2, apA, un1, bin2, opA, isiM, retS, drpS, setS, setN, putS, put, unpS, asg, mCons, mNil, e_mTup, mt1_ok, e_mLst, ml1_ok, callM, argsOf, argOf, ownIx, Sk.wb, List.getElem?_cons_zero, List.getElem?_cons_succ, List.getElem?_nil, List.set_cons_zero, List.set_cons_succ, List.replicate_succ, List.replicate_zero, List.cons_append, List.nil_append, List.foldl_cons, List.foldl_nil, List.getD_cons_zero, List.getD_cons_succ, List.all_cons, List.all_nil, isiD, tyN, dLt, dLe, dGt, dGe, dAdd_i, dEq_i, dNe_i, dSub, iOp, dLen_t, dLen_l, e_seqM, sq1_l, sq1_t, e_partM, pa1_i, sliM, isN_none, notN_none, isN_int, notN_int, isN_bool, notN_bool, isN_str, notN_str, isN_list, notN_list, isN_tup, notN_tup, isN_dict, notN_dict, raiseS, mDat, mNew, e_callAt, cal_some, wbl_ok, wbl_ex, wbl_ite, e_lcM, e_rng1, e_rng2, e_enuM, en1_l, en1_t, e_zipM, zi1_l, dMnN_i, dMx_l, dMx_t, asg_nm, asg_tp, put, e_appM, isOwnL_l, e_apd, apo_l, notN_OI, isN_OI, dNe_n0, r]⟩) (fun _ _ _ => rfl) (1 + drV s1 8).toNat 0 [] (drS s1 8) (drS_ok os1) (by simp; unfold cap; omega)
  obtain ⟨f, ef, hf⟩ := ints_form g3
  have lf : f.length = (1 + drV s1 8).toNat := by rw [← l3, ef, List.length_map]
  refine ⟨f, s3, good_ford (by omega) (by omega) hf, o3, ?_⟩
  have sm : Sml 0 (1 + drV s1 8) := sml (by omega)
  rw [List.nil_append, ef, ← rngL'] at e3
  simp only [List.map_cons, List.map_nil] at rc
  simp [m__law_ford, b__law_ford, -List.map_map, th_ok, th_ex, th_ite, e_bind, e_ret, e_opt, ts_ok, ts_ex, ts_ite, e_bindS, sq_nx, sq_rt, sq_ex, sq_bk, sq_ct, sq_ite, e_seqS, fin_nx, fin_rt, fin_ex, fin_ite, e_fnOf, wb_ok, wb_ex, wb_ite, vA1_b, e_vAnd, vO1_b, e_vOr, vN1_b, e_vNot, ch1_b, e_chM, e_toB, e_mAnd, e_mOr, e_mNot, e_mIte, e_iteS, lp_nx, lp_ct, lp_bk, lp_rt, lp_ex, lp_ite, forL_nil, forL_nm, e_forS, okArgs, isOwn, outs, nam, frz, look, lookAll, ap1, ap2, apA, un1, bin2, opA, isiM, retS, drpS, setS, setN, putS, put, unpS, asg, mCons, mNil, e_mTup, mt1_ok, e_mLst, ml1_ok, callM, argsOf, argOf, ownIx, Sk.wb, List.getElem?_cons_zero, List.getElem?_cons_succ, List.getElem?_nil, List.set_cons_zero, List.set_cons_succ, List.replicate_succ, List.replicate_zero, List.cons_append, List.nil_append, List.foldl_cons, List.foldl_nil, List.getD_cons_zero, List.getD_cons_succ, List.all_cons, List.all_nil, isiD, tyN, dLt, dLe, dGt, dGe, dAdd_i, dEq_i, dNe_i, dSub, iOp, dLen_t, dLen_l, e_seqM, sq1_l, sq1_t, e_partM, pa1_i, sliM, isN_none, notN_none, isN_int, notN_int, isN_bool, notN_bool, isN_str, notN_str, isN_list, notN_list, isN_tup, notN_tup, isN_dict, notN_dict, raiseS, mDat, mNew, e_callAt, cal_some, wbl_ok, wbl_ex, wbl_ite, e_lcM, e_rng1, e_rng2, e_enuM, en1_l, en1_t, e_zipM, zi1_l, dMnN_i, dMx_l, dMx_t, asg_nm, asg_tp, put, e_appM, isOwnL_l, e_apd, apo_l, notN_OI, isN_OI, dNe_n0, rc, rd, rn1_ok sm, e3, dTup, encI]
end Zk03
set_option maxHeartbeats 1000000
namespace Zk03
open PySem PySem.Spec PyProof.Rows L2 Sk LamX
abbrev stepsD (g : List (Int × Int)) : List D := g.map fun p => .tuple [.int p.1, .int p.2]
theorem up_snoc {a b : Int} : ∀ {g : List (Int × Int)} {l : Int}, upFrom l (stepsD g) = true → (∀ p ∈ g, p.1 < a) → l < a → a ≤ 6 → 0 ≤ b → b ≤ 9 → upFrom l (stepsD (g ++ [(a, b)])) = true
  | [], l, _, _, h1, h2, h3, h4 => by
    simp [stepsD, upFrom]
    omega
  | p :: g, l, h, hk, h1, h2, h3, h4 => by
    rw [stepsD, List.map_cons] at h
    rw [List.cons_append, stepsD, List.map_cons]
    unfold upFrom at h ⊢
    rw [Bool.and_eq_true] at h ⊢
    exact ⟨h.1, up_snoc h.2 (fun q hq => hk q (List.mem_cons_of_mem _ hq)) (hk p (List.mem_cons_self ..)) h2 h3 h4⟩
structure GaitTo (L : Int) (g : List (Int × Int)) : Prop where
  up : upFrom 0 (stepsD g) = true
  lt : ∀ p ∈ g, p.1 < L
  len : g.length ≤ 4
theorem gt_next {L : Int} {g : List (Int × Int)} (h : GaitTo L g) : GaitTo (L + 1) g := ⟨h.up, fun p hp => by have := h.lt p hp; omega, h.len⟩
theorem gt_add {L b : Int} {g : List (Int × Int)} (h : GaitTo L g) (l : g.length < 4) (h1 : 0 < L) (h2 : L ≤ 6) (h3 : 0 ≤ b) (h4 : b ≤ 9) : GaitTo (L + 1) (g ++ [(L, b)]) :=
  ⟨up_snoc h.up h.lt h1 h2 h3 h4, fun p hp => by
    rcases List.mem_append.mp hp with hp | hp
    · have := h.lt p hp
      omega
    · have : p = (L, b) := by simpa using hp
      subst this
      show L < L + 1
      omega, by rw [List.length_append]; simp; omega⟩
theorem encG_snoc (g : List (Int × Int)) (a b : Int) (h : g.length < 4) : dAdd (encG g) (.tuple [.tuple [.int a, .int b]]) = some (encG (g ++ [(a, b)])) := by
  show chk _ _ = _
  rw [e_chk (by rw [List.length_map]; unfold cap; simp; omega)]
  simp [encG]
theorem gait_step (s : Src) (most L : Int) (g : List (Int × Int)) (hs : OkS s) (hm : 3 ≤ most ∧ most ≤ 9) (hL : 0 < L ∧ L ≤ 6) (hg : GaitTo L g) :
    ∃ g' s', OkS s' ∧ GaitTo (L + 1) g' ∧ L1__law_gait [.own (encS s), .dat (.int most), .dat (encG g), .dat (.int L)] = .nx [.own (encS s'), .dat (.int most), .dat (encG g'), .dat (.int L)] := by
  have ln : dLen [encG g] = some (.int (g.length : Nat)) := by
    show some (PyData.int ((g.map fun p => PyData.tuple [.int p.1, .int p.2]).length : Nat)) = _
    rw [List.length_map]
  have r1 := r_draw s 5 hs (by omega) (by omega)
  have o1 : OkS (drS s 5) := drS_ok hs
  have r2 := r_draw (drS s 5) (most + 1) o1 (by omega) (by omega)
  have b0 := drV_0 (s := drS s 5) (many := most + 1) (by omega)
  have b1 := drV_lt (s := drS s 5) (many := most + 1) (by omega)
  by_cases h1 : g.length < 4
  · have h1' : (g.length : Int) < 4 := by omega
    by_cases h2 : drV s 5 < 2
    · refine ⟨g ++ [(L, drV (drS s 5) (most + 1))], drS (drS s 5) (most + 1), drS_ok o1, gt_add hg h1 hL.1 hL.2 b0 (by omega), ?_⟩
      have ad := encG_snoc g L (drV (drS s 5) (most + 1)) h1
      simp [L1__law_gait, -List.map_map, th_ok, th_ex, th_ite, e_bind, e_ret, e_opt, ts_ok, ts_ex, ts_ite, e_bindS, sq_nx, sq_rt, sq_ex, sq_bk, sq_ct, sq_ite, e_seqS, fin_nx, fin_rt, fin_ex, fin_ite, e_fnOf, wb_ok, wb_ex, wb_ite, vA1_b, e_vAnd, vO1_b, e_vOr, vN1_b, e_vNot, ch1_b, e_chM, e_toB, e_mAnd, e_mOr, e_mNot, e_mIte, e_iteS, lp_nx, lp_ct, lp_bk, lp_rt, lp_ex, lp_ite, forL_nil, forL_nm, e_forS, okArgs, isOwn, outs, nam, frz, look, lookAll, ap1, ap2, apA, un1, bin2, opA, isiM, retS, drpS, setS, setN, putS, put, unpS, asg, mCons, mNil, e_mTup, mt1_ok, e_mLst, ml1_ok, callM, argsOf, argOf, ownIx, Sk.wb, List.getElem?_cons_zero, List.getElem?_cons_succ, List.getElem?_nil, List.set_cons_zero, List.set_cons_succ, List.replicate_succ, List.replicate_zero, List.cons_append, List.nil_append, List.foldl_cons, List.foldl_nil, List.getD_cons_zero, List.getD_cons_succ, List.all_cons, List.all_nil, isiD, tyN, dLt, dLe, dGt, dGe, dAdd_i, dEq_i, dNe_i, dSub, iOp, dLen_t, dLen_l, e_seqM, sq1_l, sq1_t, e_partM, pa1_i, sliM, isN_none, notN_none, isN_int, notN_int, isN_bool, notN_bool, isN_str, notN_str, isN_list, notN_list, isN_tup, notN_tup, isN_dict, notN_dict, raiseS, mDat, mNew, e_callAt, cal_some, wbl_ok, wbl_ex, wbl_ite, e_lcM, e_rng1, e_rng2, e_enuM, en1_l, en1_t, e_zipM, zi1_l, dMnN_i, dMx_l, dMx_t, asg_nm, asg_tp, put, e_appM, isOwnL_l, e_apd, apo_l, notN_OI, isN_OI, dNe_n0, ln, h1', r1, h2, r2, ad]
    · refine ⟨g, drS s 5, o1, gt_next hg, ?_⟩
      simp [L1__law_gait, -List.map_map, th_ok, th_ex, th_ite, e_bind, e_ret, e_opt, ts_ok, ts_ex, ts_ite, e_bindS, sq_nx, sq_rt, sq_ex, sq_bk, sq_ct, sq_ite, e_seqS, fin_nx, fin_rt, fin_ex, fin_ite, e_fnOf, wb_ok, wb_ex, wb_ite, vA1_b, e_vAnd, vO1_b, e_vOr, vN1_b, e_vNot, ch1_b, e_chM, e_toB, e_mAnd, e_mOr, e_mNot, e_mIte, e_iteS, lp_nx, lp_ct, lp_bk, lp_rt, lp_ex, lp_ite, forL_nil, forL_nm, e_forS, okArgs, isOwn, outs, nam, frz, look, lookAll, ap1, ap2, apA, un1, bin2, opA, isiM, retS, drpS, setS, setN, putS, put, unpS, asg, mCons, mNil, e_mTup, mt1_ok, e_mLst, ml1_ok, callM, argsOf, argOf, ownIx, Sk.wb, List.getElem?_cons_zero, List.getElem?_cons_succ, List.getElem?_nil, List.set_cons_zero, List.set_cons_succ, List.replicate_succ, List.replicate_zero, List.cons_append, List.nil_append, List.foldl_cons, List.foldl_nil, List.getD_cons_zero, List.getD_cons_succ, List.all_cons, List.all_nil, isiD, tyN, dLt, dLe, dGt, dGe, dAdd_i, dEq_i, dNe_i, dSub, iOp, dLen_t, dLen_l, e_seqM, sq1_l, sq1_t, e_partM, pa1_i, sliM, isN_none, notN_none, isN_int, notN_int, isN_bool, notN_bool, isN_str, notN_str, isN_list, notN_list, isN_tup, notN_tup, isN_dict, notN_dict, raiseS, mDat, mNew, e_callAt, cal_some, wbl_ok, wbl_ex, wbl_ite, e_lcM, e_rng1, e_rng2, e_enuM, en1_l, en1_t, e_zipM, zi1_l, dMnN_i, dMx_l, dMx_t, asg_nm, asg_tp, put, e_appM, isOwnL_l, e_apd, apo_l, notN_OI, isN_OI, dNe_n0, ln, h1', r1, h2]
  · have h1' : ¬ (g.length : Int) < 4 := by omega
    refine ⟨g, s, hs, gt_next hg, ?_⟩
    simp [L1__law_gait, -List.map_map, th_ok, th_ex, th_ite, e_bind, e_ret, e_opt, ts_ok, ts_ex, ts_ite, e_bindS, sq_nx, sq_rt, sq_ex, sq_bk, sq_ct, sq_ite, e_seqS, fin_nx, fin_rt, fin_ex, fin_ite, e_fnOf, wb_ok, wb_ex, wb_ite, vA1_b, e_vAnd, vO1_b, e_vOr, vN1_b, e_vNot, ch1_b, e_chM, e_toB, e_mAnd, e_mOr, e_mNot, e_mIte, e_iteS, lp_nx, lp_ct, lp_bk, lp_rt, lp_ex, lp_ite, forL_nil, forL_nm, e_forS, okArgs, isOwn, outs, nam, frz, look, lookAll, ap1, ap2, apA, un1, bin2, opA, isiM, retS, drpS, setS, setN, putS, put, unpS, asg, mCons, mNil, e_mTup, mt1_ok, e_mLst, ml1_ok, callM, argsOf, argOf, ownIx, Sk.wb, List.getElem?_cons_zero, List.getElem?_cons_succ, List.getElem?_nil, List.set_cons_zero, List.set_cons_succ, List.replicate_succ, List.replicate_zero, List.cons_append, List.nil_append, List.foldl_cons, List.foldl_nil, List.getD_cons_zero, List.getD_cons_succ, List.all_cons, List.all_nil, isiD, tyN, dLt, dLe, dGt, dGe, dAdd_i, dEq_i, dNe_i, dSub, iOp, dLen_t, dLen_l, e_seqM, sq1_l, sq1_t, e_partM, pa1_i, sliM, isN_none, notN_none, isN_int, notN_int, isN_bool, notN_bool, isN_str, notN_str, isN_list, notN_list, isN_tup, notN_tup, isN_dict, notN_dict, raiseS, mDat, mNew, e_callAt, cal_some, wbl_ok, wbl_ex, wbl_ite, e_lcM, e_rng1, e_rng2, e_enuM, en1_l, en1_t, e_zipM, zi1_l, dMnN_i, dMx_l, dMx_t, asg_nm, asg_tp, put, e_appM, isOwnL_l, e_apd, apo_l, notN_OI, isN_OI, dNe_n0, ln, h1']
theorem gait_loop (most : Int) (hm : 3 ≤ most ∧ most ≤ 9) : ∀ (n j : Nat) (s : Src) (g : List (Int × Int)) (x : Sl), OkS s → j + n ≤ 6 → GaitTo (1 + (j : Int)) g →
    ∃ g' s' x', OkS s' ∧ GaitTo (1 + ((j + n : Nat) : Int)) g' ∧ forL (.nm 3) L1__law_gait [] ((List.range' j n).map fun k : Nat => .int (1 + (k : Int))) [.own (encS s), .dat (.int most), .dat (encG g), x] = .nx [.own (encS s'), .dat (.int most), .dat (encG g'), x']
  | 0, j, s, g, x, hs, _, hg => ⟨g, s, x, hs, hg, rfl⟩
  | n + 1, j, s, g, x, hs, hj, hg => by
    obtain ⟨g1, s1, o1, h1, e1⟩ := gait_step s most (1 + (j : Int)) g hs hm (by omega) hg
    obtain ⟨g2, s2, x2, o2, h2, e2⟩ := gait_loop most hm n (j + 1) s1 g1 (.dat (.int (1 + (j : Int)))) o1 (by omega) (by
      rw [show (1 + ((j + 1 : Nat) : Int)) = 1 + (j : Int) + 1 by omega]
      exact h1)
    refine ⟨g2, s2, x2, o2, by rw [show j + (n + 1) = j + 1 + n by omega]; exact h2, ?_⟩
    rw [List.range'_succ, List.map_cons, forL_nm]
    have e : ([.own (encS s), .dat (.int most), .dat (encG g), x] : List Sl).set 3 (.dat (.int (1 + (j : Int)))) = [.own (encS s), .dat (.int most), .dat (encG g), .dat (.int (1 + (j : Int)))] := rfl
    rw [e, e1, lp_nx]
    exact e2
theorem sh_G {n : Nat} (g : List (Int × Int)) : Sh (n + 2) (encG g) := sh_tup fun x hx => by
  obtain ⟨p, _, rfl⟩ := List.mem_map.mp hx
  exact sh_tup fun y hy => by
    simp at hy
    rcases hy with rfl | rfl <;> exact sh_int
theorem eqv_nil (xs : List D) : PyData.eqv (.tuple xs) (.tuple []) = xs.isEmpty := by
  cases xs <;> simp [PyData.eqv, PyData.eqvAll]
theorem eq_nil_G (g : List (Int × Int)) : dEq (encG g) (.tuple []) = some (.bool g.isEmpty) := by
  show chk _ _ = _
  rw [e_chk ⟨(sh_G (n := 0) g).shaped (by decide), (sh_tup (n := 0) (xs := []) (by simp)).shaped (by decide)⟩]
  unfold encG
  rw [eqv_nil]
  cases g <;> rfl
theorem gait_of {L : Int} {g : List (Int × Int)} (h : GaitTo L g) (n : g ≠ []) : isGait (encG g) = true := by
  unfold encG isGait
  simp only [List.length_map, Bool.and_eq_true, decide_eq_true_eq]
  have l := h.len
  have : 0 < g.length := List.length_pos_iff.mpr n
  exact ⟨by omega, h.up⟩
/-- a random gait -/
theorem r_lgait (s : Src) (hs : OkS s) : ∃ g s', isGait (encG g) = true ∧ OkS s' ∧ m__law_gait [.own (encS s)] = .ok (encG g) [.own (encS s')] := by
  have rc := r_choice s ([3, 6, 9].map PyData.int) hs (by simp) (by simp)
  have m := pick_mem (s := s) (xs := [3, 6, 9].map PyData.int) (by simp)
  obtain ⟨most, hm, em⟩ := List.mem_map.mp m
  rw [← em] at rc
  have hm2 : 3 ≤ most ∧ most ≤ 9 := by
    simp at hm
    rcases hm with rfl | rfl | rfl <;> simp
  have o1 : OkS (pickS s ([3, 6, 9].map PyData.int)) := drS_ok hs
  generalize pickS s ([3, 6, 9].map PyData.int) = s1 at rc o1
  obtain ⟨g, s2, x, o2, hg, e2⟩ := gait_loop most hm2 6 0 s1 [] .un o1 (by omega) ⟨rfl, fun p hp => by simp at hp, by simp⟩
  rw [← rngL'] at e2
  have sm : Sml 1 7 := sml (by omega)
  have e0 : PyData.tuple [] = encG [] := rfl
  have en := eq_nil_G g
  simp only [List.map_cons, List.map_nil] at rc
  have em : m__law_gait [.own (encS s)] = ((SOut.nx [.own (encS s2), .dat (.int most), .dat (encG g), x]).sq (seqS (iteS ((bin2 dEq (nam 2) ((mTup (mNil)).bind fun d => M.ret (.dat d))).bind toB) (setS 2 (mTup (mCons (mTup (mCons (callM m__law_choice (mCons (nam 0) (mCons ((mLst (mCons (M.ret (.int 1)) (mCons (M.ret (.int 2)) (mCons (M.ret (.int 3)) (mNil))))).bind fun d => M.ret (.dat d)) (mNil)))) (mCons (bin2 dAdd ((M.ret (.int 1)).bind fun d => M.ret (.dat d)) ((callM m__law_draw (mCons (nam 0) (mCons (nam 1) (mNil)))).bind fun d => M.ret (.dat d))) (mNil)))) (mNil)))) (fun st => .nx st))
  (retS ((nam 2).bind frz)))).fin [0] [.own (encS s)] := by
    rw [← e2]
    simp [m__law_gait, b__law_gait, -List.map_map, th_ok, th_ex, th_ite, e_bind, e_ret, e_opt, ts_ok, ts_ex, ts_ite, e_bindS, sq_nx, sq_rt, sq_ex, sq_bk, sq_ct, sq_ite, e_seqS, fin_nx, fin_rt, fin_ex, fin_ite, e_fnOf, wb_ok, wb_ex, wb_ite, vA1_b, e_vAnd, vO1_b, e_vOr, vN1_b, e_vNot, ch1_b, e_chM, e_toB, e_mAnd, e_mOr, e_mNot, e_mIte, e_iteS, lp_nx, lp_ct, lp_bk, lp_rt, lp_ex, lp_ite, forL_nil, forL_nm, e_forS, okArgs, isOwn, outs, nam, frz, look, lookAll, ap1, ap2, apA, un1, bin2, opA, isiM, retS, drpS, setS, setN, putS, put, unpS, asg, mCons, mNil, e_mTup, mt1_ok, e_mLst, ml1_ok, callM, argsOf, argOf, ownIx, Sk.wb, List.getElem?_cons_zero, List.getElem?_cons_succ, List.getElem?_nil, List.set_cons_zero, List.set_cons_succ, List.replicate_succ, List.replicate_zero, List.cons_append, List.nil_append, List.foldl_cons, List.foldl_nil, List.getD_cons_zero, List.getD_cons_succ, List.all_cons, List.all_nil, isiD, tyN, dLt, dLe, dGt, dGe, dAdd_i, dEq_i, dNe_i, dSub, iOp, dLen_t, dLen_l, e_seqM, sq1_l, sq1_t, e_partM, pa1_i, sliM, isN_none, notN_none, isN_int, notN_int, isN_bool, notN_bool, isN_str, notN_str, isN_list, notN_list, isN_tup, notN_tup, isN_dict, notN_dict, raiseS, mDat, mNew, e_callAt, cal_some, wbl_ok, wbl_ex, wbl_ite, e_lcM, e_rng1, e_rng2, e_enuM, en1_l, en1_t, e_zipM, zi1_l, dMnN_i, dMx_l, dMx_t, asg_nm, asg_tp, put, e_appM, isOwnL_l, e_apd, apo_l, notN_OI, isN_OI, dNe_n0, rc, rn2_ok sm, e0]
  cases hn : g with
  | cons p r =>
    have hne : g ≠ [] := by rw [hn]; simp
    have hi : g.isEmpty = false := by rw [hn]; rfl
    rw [hi] at en
    refine ⟨g, s2, gait_of hg hne, o2, ?_⟩
    rw [em]
    simp [-List.map_map, th_ok, th_ex, th_ite, e_bind, e_ret, e_opt, ts_ok, ts_ex, ts_ite, e_bindS, sq_nx, sq_rt, sq_ex, sq_bk, sq_ct, sq_ite, e_seqS, fin_nx, fin_rt, fin_ex, fin_ite, e_fnOf, wb_ok, wb_ex, wb_ite, vA1_b, e_vAnd, vO1_b, e_vOr, vN1_b, e_vNot, ch1_b, e_chM, e_toB, e_mAnd, e_mOr, e_mNot, e_mIte, e_iteS, lp_nx, lp_ct, lp_bk, lp_rt, lp_ex, lp_ite, forL_nil, forL_nm, e_forS, okArgs, isOwn, outs, nam, frz, look, lookAll, ap1, ap2, apA, un1, bin2, opA, isiM, retS, drpS, setS, setN, putS, put, unpS, asg, mCons, mNil, e_mTup, mt1_ok, e_mLst, ml1_ok, callM, argsOf, argOf, ownIx, Sk.wb, List.getElem?_cons_zero, List.getElem?_cons_succ, List.getElem?_nil, List.set_cons_zero, List.set_cons_succ, List.replicate_succ, List.replicate_zero, List.cons_append, List.nil_append, List.foldl_cons, List.foldl_nil, List.getD_cons_zero, List.getD_cons_succ, List.all_cons, List.all_nil, isiD, tyN, dLt, dLe, dGt, dGe, dAdd_i, dEq_i, dNe_i, dSub, iOp, dLen_t, dLen_l, e_seqM, sq1_l, sq1_t, e_partM, pa1_i, sliM, isN_none, notN_none, isN_int, notN_int, isN_bool, notN_bool, isN_str, notN_str, isN_list, notN_list, isN_tup, notN_tup, isN_dict, notN_dict, raiseS, mDat, mNew, e_callAt, cal_some, wbl_ok, wbl_ex, wbl_ite, e_lcM, e_rng1, e_rng2, e_enuM, en1_l, en1_t, e_zipM, zi1_l, dMnN_i, dMx_l, dMx_t, asg_nm, asg_tp, put, e_appM, isOwnL_l, e_apd, apo_l, notN_OI, isN_OI, dNe_n0, en]
  | nil =>
    subst hn
    have rc2 := r_choice s2 ([1, 2, 3].map PyData.int) o2 (by simp) (by simp)
    have m2 := pick_mem (s := s2) (xs := [1, 2, 3].map PyData.int) (by simp)
    obtain ⟨a, ha, ea⟩ := List.mem_map.mp m2
    rw [← ea] at rc2
    have ha2 : 1 ≤ a ∧ a ≤ 3 := by
      simp at ha
      rcases ha with rfl | rfl | rfl <;> simp
    have o3 : OkS (pickS s2 ([1, 2, 3].map PyData.int)) := drS_ok o2
    generalize pickS s2 ([1, 2, 3].map PyData.int) = s3 at rc2 o3
    simp only [List.map_cons, List.map_nil] at rc2
    have rd := r_draw s3 most o3 (by omega) (by omega)
    have d0 := drV_0 (s := s3) (many := most) (by omega)
    have d1 := drV_lt (s := s3) (many := most) (by omega)
    refine ⟨[(a, 1 + drV s3 most)], drS s3 most, ?_, drS_ok o3, ?_⟩
    · simp [encG, isGait, upFrom]
      omega
    · rw [em]
      simp only [List.isEmpty_nil] at en
      simp [-List.map_map, th_ok, th_ex, th_ite, e_bind, e_ret, e_opt, ts_ok, ts_ex, ts_ite, e_bindS, sq_nx, sq_rt, sq_ex, sq_bk, sq_ct, sq_ite, e_seqS, fin_nx, fin_rt, fin_ex, fin_ite, e_fnOf, wb_ok, wb_ex, wb_ite, vA1_b, e_vAnd, vO1_b, e_vOr, vN1_b, e_vNot, ch1_b, e_chM, e_toB, e_mAnd, e_mOr, e_mNot, e_mIte, e_iteS, lp_nx, lp_ct, lp_bk, lp_rt, lp_ex, lp_ite, forL_nil, forL_nm, e_forS, okArgs, isOwn, outs, nam, frz, look, lookAll, ap1, ap2, apA, un1, bin2, opA, isiM, retS, drpS, setS, setN, putS, put, unpS, asg, mCons, mNil, e_mTup, mt1_ok, e_mLst, ml1_ok, callM, argsOf, argOf, ownIx, Sk.wb, List.getElem?_cons_zero, List.getElem?_cons_succ, List.getElem?_nil, List.set_cons_zero, List.set_cons_succ, List.replicate_succ, List.replicate_zero, List.cons_append, List.nil_append, List.foldl_cons, List.foldl_nil, List.getD_cons_zero, List.getD_cons_succ, List.all_cons, List.all_nil, isiD, tyN, dLt, dLe, dGt, dGe, dAdd_i, dEq_i, dNe_i, dSub, iOp, dLen_t, dLen_l, e_seqM, sq1_l, sq1_t, e_partM, pa1_i, sliM, isN_none, notN_none, isN_int, notN_int, isN_bool, notN_bool, isN_str, notN_str, isN_list, notN_list, isN_tup, notN_tup, isN_dict, notN_dict, raiseS, mDat, mNew, e_callAt, cal_some, wbl_ok, wbl_ex, wbl_ite, e_lcM, e_rng1, e_rng2, e_enuM, en1_l, en1_t, e_zipM, zi1_l, dMnN_i, dMx_l, dMx_t, asg_nm, asg_tp, put, e_appM, isOwnL_l, e_apd, apo_l, notN_OI, isN_OI, dNe_n0, en, rc2, rd]
      rfl
end Zk03
set_option maxHeartbeats 1000000
namespace Zk03
open PySem PySem.Spec PyProof.Rows L2 Sk LamX
theorem r_need_all_g (F G n : D) (m : Int) : m_need_all [.dat F, .dat G, .dat n, .dat (.int m)] = if isFord F = true then (if isGait G = true then (if isFrom 0 m n = true then .ok .none [.dat F, .dat G, .dat n, .dat (.int m)] else .ex ⟨2, none⟩ [.dat F, .dat G, .dat n, .dat (.int m)])
    else .ex ⟨1, none⟩ [.dat F, .dat G, .dat n, .dat (.int m)]) else .ex ⟨0, none⟩ [.dat F, .dat G, .dat n, .dat (.int m)] := by
  cases h1 : isFord F with
  | false => simp [m_need_all, b_need_all, -List.map_map, th_ok, th_ex, th_ite, e_bind, e_ret, e_opt, ts_ok, ts_ex, ts_ite, e_bindS, sq_nx, sq_rt, sq_ex, sq_bk, sq_ct, sq_ite, e_seqS, fin_nx, fin_rt, fin_ex, fin_ite, e_fnOf, wb_ok, wb_ex, wb_ite, vA1_b, e_vAnd, vO1_b, e_vOr, vN1_b, e_vNot, ch1_b, e_chM, e_toB, e_mAnd, e_mOr, e_mNot, e_mIte, e_iteS, lp_nx, lp_ct, lp_bk, lp_rt, lp_ex, lp_ite, forL_nil, forL_nm, e_forS, okArgs, isOwn, outs, nam, frz, look, lookAll, ap1, ap2, apA, un1, bin2, opA, isiM, retS, drpS, setS, setN, putS, put, unpS, asg, mCons, mNil, e_mTup, mt1_ok, e_mLst, ml1_ok, callM, argsOf, argOf, ownIx, Sk.wb, List.getElem?_cons_zero, List.getElem?_cons_succ, List.getElem?_nil, List.set_cons_zero, List.set_cons_succ, List.replicate_succ, List.replicate_zero, List.cons_append, List.nil_append, List.foldl_cons, List.foldl_nil, List.getD_cons_zero, List.getD_cons_succ, List.all_cons, List.all_nil, isiD, tyN, dLt, dLe, dGt, dGe, dAdd_i, dEq_i, dNe_i, dSub, iOp, dLen_t, dLen_l, e_seqM, sq1_l, sq1_t, e_partM, pa1_i, sliM, isN_none, notN_none, isN_int, notN_int, isN_bool, notN_bool, isN_str, notN_str, isN_list, notN_list, isN_tup, notN_tup, isN_dict, notN_dict, raiseS, mDat, mNew, e_callAt, cal_some, wbl_ok, wbl_ex, wbl_ite, e_lcM, e_rng1, e_rng2, e_enuM, en1_l, en1_t, e_zipM, zi1_l, dMnN_i, dMx_l, dMx_t, asg_nm, asg_tp, put, e_appM, isOwnL_l, e_apd, apo_l, notN_OI, isN_OI, dNe_n0, r_need_ford, h1]
  | true =>
    cases h2 : isGait G with
    | false => simp [m_need_all, b_need_all, -List.map_map, th_ok, th_ex, th_ite, e_bind, e_ret, e_opt, ts_ok, ts_ex, ts_ite, e_bindS, sq_nx, sq_rt, sq_ex, sq_bk, sq_ct, sq_ite, e_seqS, fin_nx, fin_rt, fin_ex, fin_ite, e_fnOf, wb_ok, wb_ex, wb_ite, vA1_b, e_vAnd, vO1_b, e_vOr, vN1_b, e_vNot, ch1_b, e_chM, e_toB, e_mAnd, e_mOr, e_mNot, e_mIte, e_iteS, lp_nx, lp_ct, lp_bk, lp_rt, lp_ex, lp_ite, forL_nil, forL_nm, e_forS, okArgs, isOwn, outs, nam, frz, look, lookAll, ap1, ap2, apA, un1, bin2, opA, isiM, retS, drpS, setS, setN, putS, put, unpS, asg, mCons, mNil, e_mTup, mt1_ok, e_mLst, ml1_ok, callM, argsOf, argOf, ownIx, Sk.wb, List.getElem?_cons_zero, List.getElem?_cons_succ, List.getElem?_nil, List.set_cons_zero, List.set_cons_succ, List.replicate_succ, List.replicate_zero, List.cons_append, List.nil_append, List.foldl_cons, List.foldl_nil, List.getD_cons_zero, List.getD_cons_succ, List.all_cons, List.all_nil, isiD, tyN, dLt, dLe, dGt, dGe, dAdd_i, dEq_i, dNe_i, dSub, iOp, dLen_t, dLen_l, e_seqM, sq1_l, sq1_t, e_partM, pa1_i, sliM, isN_none, notN_none, isN_int, notN_int, isN_bool, notN_bool, isN_str, notN_str, isN_list, notN_list, isN_tup, notN_tup, isN_dict, notN_dict, raiseS, mDat, mNew, e_callAt, cal_some, wbl_ok, wbl_ex, wbl_ite, e_lcM, e_rng1, e_rng2, e_enuM, en1_l, en1_t, e_zipM, zi1_l, dMnN_i, dMx_l, dMx_t, asg_nm, asg_tp, put, e_appM, isOwnL_l, e_apd, apo_l, notN_OI, isN_OI, dNe_n0, r_need_ford, h1, r_need_gait, h2]
    | true =>
      cases h3 : isFrom 0 m n with
      | false => simp [m_need_all, b_need_all, -List.map_map, th_ok, th_ex, th_ite, e_bind, e_ret, e_opt, ts_ok, ts_ex, ts_ite, e_bindS, sq_nx, sq_rt, sq_ex, sq_bk, sq_ct, sq_ite, e_seqS, fin_nx, fin_rt, fin_ex, fin_ite, e_fnOf, wb_ok, wb_ex, wb_ite, vA1_b, e_vAnd, vO1_b, e_vOr, vN1_b, e_vNot, ch1_b, e_chM, e_toB, e_mAnd, e_mOr, e_mNot, e_mIte, e_iteS, lp_nx, lp_ct, lp_bk, lp_rt, lp_ex, lp_ite, forL_nil, forL_nm, e_forS, okArgs, isOwn, outs, nam, frz, look, lookAll, ap1, ap2, apA, un1, bin2, opA, isiM, retS, drpS, setS, setN, putS, put, unpS, asg, mCons, mNil, e_mTup, mt1_ok, e_mLst, ml1_ok, callM, argsOf, argOf, ownIx, Sk.wb, List.getElem?_cons_zero, List.getElem?_cons_succ, List.getElem?_nil, List.set_cons_zero, List.set_cons_succ, List.replicate_succ, List.replicate_zero, List.cons_append, List.nil_append, List.foldl_cons, List.foldl_nil, List.getD_cons_zero, List.getD_cons_succ, List.all_cons, List.all_nil, isiD, tyN, dLt, dLe, dGt, dGe, dAdd_i, dEq_i, dNe_i, dSub, iOp, dLen_t, dLen_l, e_seqM, sq1_l, sq1_t, e_partM, pa1_i, sliM, isN_none, notN_none, isN_int, notN_int, isN_bool, notN_bool, isN_str, notN_str, isN_list, notN_list, isN_tup, notN_tup, isN_dict, notN_dict, raiseS, mDat, mNew, e_callAt, cal_some, wbl_ok, wbl_ex, wbl_ite, e_lcM, e_rng1, e_rng2, e_enuM, en1_l, en1_t, e_zipM, zi1_l, dMnN_i, dMx_l, dMx_t, asg_nm, asg_tp, put, e_appM, isOwnL_l, e_apd, apo_l, notN_OI, isN_OI, dNe_n0, r_need_ford, h1, r_need_gait, h2, r_need_width, h3]
      | true => simp [m_need_all, b_need_all, -List.map_map, th_ok, th_ex, th_ite, e_bind, e_ret, e_opt, ts_ok, ts_ex, ts_ite, e_bindS, sq_nx, sq_rt, sq_ex, sq_bk, sq_ct, sq_ite, e_seqS, fin_nx, fin_rt, fin_ex, fin_ite, e_fnOf, wb_ok, wb_ex, wb_ite, vA1_b, e_vAnd, vO1_b, e_vOr, vN1_b, e_vNot, ch1_b, e_chM, e_toB, e_mAnd, e_mOr, e_mNot, e_mIte, e_iteS, lp_nx, lp_ct, lp_bk, lp_rt, lp_ex, lp_ite, forL_nil, forL_nm, e_forS, okArgs, isOwn, outs, nam, frz, look, lookAll, ap1, ap2, apA, un1, bin2, opA, isiM, retS, drpS, setS, setN, putS, put, unpS, asg, mCons, mNil, e_mTup, mt1_ok, e_mLst, ml1_ok, callM, argsOf, argOf, ownIx, Sk.wb, List.getElem?_cons_zero, List.getElem?_cons_succ, List.getElem?_nil, List.set_cons_zero, List.set_cons_succ, List.replicate_succ, List.replicate_zero, List.cons_append, List.nil_append, List.foldl_cons, List.foldl_nil, List.getD_cons_zero, List.getD_cons_succ, List.all_cons, List.all_nil, isiD, tyN, dLt, dLe, dGt, dGe, dAdd_i, dEq_i, dNe_i, dSub, iOp, dLen_t, dLen_l, e_seqM, sq1_l, sq1_t, e_partM, pa1_i, sliM, isN_none, notN_none, isN_int, notN_int, isN_bool, notN_bool, isN_str, notN_str, isN_list, notN_list, isN_tup, notN_tup, isN_dict, notN_dict, raiseS, mDat, mNew, e_callAt, cal_some, wbl_ok, wbl_ex, wbl_ite, e_lcM, e_rng1, e_rng2, e_enuM, en1_l, en1_t, e_zipM, zi1_l, dMnN_i, dMx_l, dMx_t, asg_nm, asg_tp, put, e_appM, isOwnL_l, e_apd, apo_l, notN_OI, isN_OI, dNe_n0, r_need_ford, h1, r_need_gait, h2, r_need_width, h3]
theorem ford_ne {f : List Int} (h : isFord (encI f) = true) : f ≠ [] := by
  intro z
  subst z
  simp [encI, isFord] at h
theorem ford_len {f : List Int} (h : isFord (encI f) = true) : f.length ≤ 8 := by
  simp [encI, isFord] at h
  omega
theorem gait_ne {g : List (Int × Int)} (h : isGait (encG g) = true) : g ≠ [] := by
  intro z
  subst z
  simp [encG, isGait] at h
theorem gait_len {g : List (Int × Int)} (h : isGait (encG g) = true) : g.length ≤ 4 := by
  simp [encG, isGait] at h
  omega
theorem ford_in {f : List Int} (h : isFord (encI f) = true) : ∀ x ∈ f, 0 ≤ x ∧ x ≤ 3 := fun x hx => by
  simp only [encI, isFord, Bool.and_eq_true, List.all_eq_true] at h
  have := h.2 (.int x) (List.mem_map.mpr ⟨x, hx, rfl⟩)
  simpa [isFrom] using this
theorem gait_in {g : List (Int × Int)} (h : isGait (encG g) = true) : ∀ q ∈ g, 0 < q.1 ∧ q.1 ≤ 6 ∧ 0 ≤ q.2 ∧ q.2 ≤ 9 := (gait_up h).1
end Zk03
set_option maxHeartbeats 1000000
namespace Zk03
open PySem PySem.Spec PyProof.Rows L2 Sk LamX
/-! the least toils to all places -/
abbrev encP (p : Int × Int) : D := .tuple [.int p.1, .int p.2]
theorem encG_def (g : List (Int × Int)) : encG g = .tuple (g.map encP) := rfl
/-- what stands at a place of the toils so far -/
def atT (fs : List (Option Int)) (p : Int) : Option Int := fs.getD p.toNat none
def stepsTo (f : List Int) (g : List (Int × Int)) (fs : List (Option Int)) (p : Int) : List Int :=
  (g.filter fun q => decide (q.1 ≤ p) && (decide (0 < stone f p) && (atT fs (p - q.1)).isSome)).map fun q => (atT fs (p - q.1)).getD 0 + q.2
def toils (f : List Int) (g : List (Int × Int)) : Nat → List (Option Int)
  | 0 => [some 0]
  | n + 1 => toils f g n ++ [minO (stepsTo f g (toils f g n) ((n : Int) + 1))]
theorem toils_succ (f : List Int) (g : List (Int × Int)) (n : Nat) : toils f g (n + 1) = toils f g n ++ [minO (stepsTo f g (toils f g n) ((n : Int) + 1))] := rfl
abbrev encT (fs : List (Option Int)) : D := .list (fs.map encOI)
theorem toils_len (f : List Int) (g : List (Int × Int)) : ∀ n, (toils f g n).length = n + 1
  | 0 => rfl
  | n + 1 => by
    unfold toils
    rw [List.length_append, toils_len f g n]
    rfl
theorem atT_ix {fs : List (Option Int)} {p : Int} (h0 : 0 ≤ p) (h1 : p < fs.length) : dIx (encT fs) (.int p) = some (encOI (atT fs p)) := dIx_OI (k := p.toNat) (by omega) (by omega)
theorem add_OI {o : Option Int} {i : Int} (h : o.isSome = true) : dAdd (encOI o) (.int i) = some (.int (o.getD 0 + i)) := by
  cases o with
  | none => cases h
  | some j => rfl
section
variable {f : List Int} {g : List (Int × Int)} (hf : f ≠ []) (hg : ∀ q ∈ g, 0 < q.1)
include hf hg
theorem tt1 (n : D) (fs : List (Option Int)) (p : Int) (hp : 0 < p) (hl : p = fs.length) : ∀ (r : List (Int × Int)) (acc : List Int) (x y : Sl), (∀ q ∈ r, 0 < q.1) → acc.length + r.length < cap →
    ∃ x' y' : Sl, forL (.tp [6, 7]) L1_toils_to [] (r.map encP) [.dat (encI f), .dat (encG g), .dat n, .own (encT fs), .dat (.int p), .own (.list (acc.map .int)), x, y] =
      .nx [.dat (encI f), .dat (encG g), .dat n, .own (encT fs), .dat (.int p), .own (.list ((acc ++ stepsTo f r fs p).map .int)), x', y'] := by
  intro r acc x y hr hc
  obtain ⟨st', e, x', y', acc', rfl, h⟩ := for_all (t := .tp [6, 7]) (body := L1_toils_to) (fun ds st => ∃ (x y : Sl) (acc' : List Int), st = [.dat (encI f), .dat (encG g), .dat n, .own (encT fs), .dat (.int p), .own (.list (acc'.map .int)), x, y] ∧
      ∃ r' : List (Int × Int), ds = r'.map encP ∧ (∀ q ∈ r', 0 < q.1) ∧ acc'.length + r'.length < cap ∧ acc' ++ stepsTo f r' fs p = acc ++ stepsTo f r fs p) (fun d ds st h => by
    obtain ⟨x, y, acc', rfl, r', e, hr', hc', hq⟩ := h
    cases r' with
    | nil => cases e
    | cons q r' =>
      cases e
      rw [List.length_cons] at hc'
      have q0 := hr' q (List.mem_cons_self ..)
      have rs := r_strength f p hf
      have hc2 : acc'.length < cap := by omega
      have fin : ∀ acc2 : List Int, acc2 ++ stepsTo f r' fs p = acc' ++ stepsTo f (q :: r') fs p → acc2.length ≤ acc'.length + 1 → ∃ (x y : Sl) (acc' : List Int), [.dat (encI f), .dat (encG g), .dat n, .own (encT fs), .dat (.int p), .own (.list (acc2.map .int)), .dat (.int q.1), .dat (.int q.2)] = [.dat (encI f), .dat (encG g), .dat n, .own (encT fs), .dat (.int p), .own (.list (acc'.map .int)), x, y] ∧
          ∃ r'' : List (Int × Int), r'.map encP = r''.map encP ∧ (∀ q ∈ r'', 0 < q.1) ∧ acc'.length + r''.length < cap ∧ acc' ++ stepsTo f r'' fs p = acc ++ stepsTo f r fs p := fun acc2 h1 h2 => ⟨_, _, acc2, rfl, r', rfl, fun q hq => hr' q (List.mem_cons_of_mem _ hq), by omega, h1.trans hq⟩
      by_cases c1 : q.1 ≤ p
      · have ix := atT_ix (fs := fs) (p := p - q.1) (by omega) (by omega)
        by_cases c2 : 0 < stone f p
        · cases c3 : (atT fs (p - q.1)).isSome with
          | true =>
            have ad := add_OI (i := q.2) c3
            refine ⟨_, _, rfl, ?_, fin (acc' ++ [(atT fs (p - q.1)).getD 0 + q.2]) ?_ (by simp)⟩
            · simp [L1_toils_to, -List.map_map, th_ok, th_ex, th_ite, e_bind, e_ret, e_opt, ts_ok, ts_ex, ts_ite, e_bindS, sq_nx, sq_rt, sq_ex, sq_bk, sq_ct, sq_ite, e_seqS, fin_nx, fin_rt, fin_ex, fin_ite, e_fnOf, wb_ok, wb_ex, wb_ite, vA1_b, e_vAnd, vO1_b, e_vOr, vN1_b, e_vNot, ch1_b, e_chM, e_toB, e_mAnd, e_mOr, e_mNot, e_mIte, e_iteS, lp_nx, lp_ct, lp_bk, lp_rt, lp_ex, lp_ite, forL_nil, forL_nm, e_forS, okArgs, isOwn, outs, nam, frz, look, lookAll, ap1, ap2, apA, un1, bin2, opA, isiM, retS, drpS, setS, setN, putS, put, unpS, asg, mCons, mNil, e_mTup, mt1_ok, e_mLst, ml1_ok, callM, argsOf, argOf, ownIx, Sk.wb, List.getElem?_cons_zero, List.getElem?_cons_succ, List.getElem?_nil, List.set_cons_zero, List.set_cons_succ, List.replicate_succ, List.replicate_zero, List.cons_append, List.nil_append, List.foldl_cons, List.foldl_nil, List.getD_cons_zero, List.getD_cons_succ, List.all_cons, List.all_nil, isiD, tyN, dLt, dLe, dGt, dGe, dAdd_i, dEq_i, dNe_i, dSub, iOp, dLen_t, dLen_l, e_seqM, sq1_l, sq1_t, e_partM, pa1_i, sliM, isN_none, notN_none, isN_int, notN_int, isN_bool, notN_bool, isN_str, notN_str, isN_list, notN_list, isN_tup, notN_tup, isN_dict, notN_dict, raiseS, mDat, mNew, e_callAt, cal_some, wbl_ok, wbl_ex, wbl_ite, e_lcM, e_rng1, e_rng2, e_enuM, en1_l, en1_t, e_zipM, zi1_l, dMnN_i, dMx_l, dMx_t, asg_nm, asg_tp, put, e_appM, isOwnL_l, e_apd, apo_l, notN_OI, isN_OI, dNe_n0, c1, rs, c2, ix, c3, ad, hc2]
            · simp [stepsTo, c1, c2, c3]
          | false =>
            refine ⟨_, _, rfl, ?_, fin acc' ?_ (by omega)⟩
            · simp [L1_toils_to, -List.map_map, th_ok, th_ex, th_ite, e_bind, e_ret, e_opt, ts_ok, ts_ex, ts_ite, e_bindS, sq_nx, sq_rt, sq_ex, sq_bk, sq_ct, sq_ite, e_seqS, fin_nx, fin_rt, fin_ex, fin_ite, e_fnOf, wb_ok, wb_ex, wb_ite, vA1_b, e_vAnd, vO1_b, e_vOr, vN1_b, e_vNot, ch1_b, e_chM, e_toB, e_mAnd, e_mOr, e_mNot, e_mIte, e_iteS, lp_nx, lp_ct, lp_bk, lp_rt, lp_ex, lp_ite, forL_nil, forL_nm, e_forS, okArgs, isOwn, outs, nam, frz, look, lookAll, ap1, ap2, apA, un1, bin2, opA, isiM, retS, drpS, setS, setN, putS, put, unpS, asg, mCons, mNil, e_mTup, mt1_ok, e_mLst, ml1_ok, callM, argsOf, argOf, ownIx, Sk.wb, List.getElem?_cons_zero, List.getElem?_cons_succ, List.getElem?_nil, List.set_cons_zero, List.set_cons_succ, List.replicate_succ, List.replicate_zero, List.cons_append, List.nil_append, List.foldl_cons, List.foldl_nil, List.getD_cons_zero, List.getD_cons_succ, List.all_cons, List.all_nil, isiD, tyN, dLt, dLe, dGt, dGe, dAdd_i, dEq_i, dNe_i, dSub, iOp, dLen_t, dLen_l, e_seqM, sq1_l, sq1_t, e_partM, pa1_i, sliM, isN_none, notN_none, isN_int, notN_int, isN_bool, notN_bool, isN_str, notN_str, isN_list, notN_list, isN_tup, notN_tup, isN_dict, notN_dict, raiseS, mDat, mNew, e_callAt, cal_some, wbl_ok, wbl_ex, wbl_ite, e_lcM, e_rng1, e_rng2, e_enuM, en1_l, en1_t, e_zipM, zi1_l, dMnN_i, dMx_l, dMx_t, asg_nm, asg_tp, put, e_appM, isOwnL_l, e_apd, apo_l, notN_OI, isN_OI, dNe_n0, c1, rs, c2, ix, c3]
            · simp [stepsTo, c3]
        · refine ⟨_, _, rfl, ?_, fin acc' ?_ (by omega)⟩
          · simp [L1_toils_to, -List.map_map, th_ok, th_ex, th_ite, e_bind, e_ret, e_opt, ts_ok, ts_ex, ts_ite, e_bindS, sq_nx, sq_rt, sq_ex, sq_bk, sq_ct, sq_ite, e_seqS, fin_nx, fin_rt, fin_ex, fin_ite, e_fnOf, wb_ok, wb_ex, wb_ite, vA1_b, e_vAnd, vO1_b, e_vOr, vN1_b, e_vNot, ch1_b, e_chM, e_toB, e_mAnd, e_mOr, e_mNot, e_mIte, e_iteS, lp_nx, lp_ct, lp_bk, lp_rt, lp_ex, lp_ite, forL_nil, forL_nm, e_forS, okArgs, isOwn, outs, nam, frz, look, lookAll, ap1, ap2, apA, un1, bin2, opA, isiM, retS, drpS, setS, setN, putS, put, unpS, asg, mCons, mNil, e_mTup, mt1_ok, e_mLst, ml1_ok, callM, argsOf, argOf, ownIx, Sk.wb, List.getElem?_cons_zero, List.getElem?_cons_succ, List.getElem?_nil, List.set_cons_zero, List.set_cons_succ, List.replicate_succ, List.replicate_zero, List.cons_append, List.nil_append, List.foldl_cons, List.foldl_nil, List.getD_cons_zero, List.getD_cons_succ, List.all_cons, List.all_nil, isiD, tyN, dLt, dLe, dGt, dGe, dAdd_i, dEq_i, dNe_i, dSub, iOp, dLen_t, dLen_l, e_seqM, sq1_l, sq1_t, e_partM, pa1_i, sliM, isN_none, notN_none, isN_int, notN_int, isN_bool, notN_bool, isN_str, notN_str, isN_list, notN_list, isN_tup, notN_tup, isN_dict, notN_dict, raiseS, mDat, mNew, e_callAt, cal_some, wbl_ok, wbl_ex, wbl_ite, e_lcM, e_rng1, e_rng2, e_enuM, en1_l, en1_t, e_zipM, zi1_l, dMnN_i, dMx_l, dMx_t, asg_nm, asg_tp, put, e_appM, isOwnL_l, e_apd, apo_l, notN_OI, isN_OI, dNe_n0, c1, rs, c2]
          · simp [stepsTo, c2]
      · refine ⟨_, _, rfl, ?_, fin acc' ?_ (by omega)⟩
        · simp [L1_toils_to, -List.map_map, th_ok, th_ex, th_ite, e_bind, e_ret, e_opt, ts_ok, ts_ex, ts_ite, e_bindS, sq_nx, sq_rt, sq_ex, sq_bk, sq_ct, sq_ite, e_seqS, fin_nx, fin_rt, fin_ex, fin_ite, e_fnOf, wb_ok, wb_ex, wb_ite, vA1_b, e_vAnd, vO1_b, e_vOr, vN1_b, e_vNot, ch1_b, e_chM, e_toB, e_mAnd, e_mOr, e_mNot, e_mIte, e_iteS, lp_nx, lp_ct, lp_bk, lp_rt, lp_ex, lp_ite, forL_nil, forL_nm, e_forS, okArgs, isOwn, outs, nam, frz, look, lookAll, ap1, ap2, apA, un1, bin2, opA, isiM, retS, drpS, setS, setN, putS, put, unpS, asg, mCons, mNil, e_mTup, mt1_ok, e_mLst, ml1_ok, callM, argsOf, argOf, ownIx, Sk.wb, List.getElem?_cons_zero, List.getElem?_cons_succ, List.getElem?_nil, List.set_cons_zero, List.set_cons_succ, List.replicate_succ, List.replicate_zero, List.cons_append, List.nil_append, List.foldl_cons, List.foldl_nil, List.getD_cons_zero, List.getD_cons_succ, List.all_cons, List.all_nil, isiD, tyN, dLt, dLe, dGt, dGe, dAdd_i, dEq_i, dNe_i, dSub, iOp, dLen_t, dLen_l, e_seqM, sq1_l, sq1_t, e_partM, pa1_i, sliM, isN_none, notN_none, isN_int, notN_int, isN_bool, notN_bool, isN_str, notN_str, isN_list, notN_list, isN_tup, notN_tup, isN_dict, notN_dict, raiseS, mDat, mNew, e_callAt, cal_some, wbl_ok, wbl_ex, wbl_ite, e_lcM, e_rng1, e_rng2, e_enuM, en1_l, en1_t, e_zipM, zi1_l, dMnN_i, dMx_l, dMx_t, asg_nm, asg_tp, put, e_appM, isOwnL_l, e_apd, apo_l, notN_OI, isN_OI, dNe_n0, c1]
        · simp [stepsTo, c1]) ⟨x, y, acc, rfl, r, rfl, hr, hc, rfl⟩
  obtain ⟨r', e1, _, _, h⟩ := h
  have : r' = [] := by simpa using e1.symm
  subst this
  have e2 : acc' = acc ++ stepsTo f r fs p := by rw [← h]; simp [stepsTo]
  rw [e2] at e
  exact ⟨x', y', e⟩
theorem tt2 (fs : List (Option Int)) (p : Int) (n : D) (hp : 0 < p) (hl : p = fs.length) (hc : fs.length < cap) (hgc : g.length < cap) (x5 x6 x7 : Sl) : ∃ y5 y6 y7 : Sl, L2_toils_to [.dat (encI f), .dat (encG g), .dat n, .own (encT fs), .dat (.int p), x5, x6, x7] =
    .nx [.dat (encI f), .dat (encG g), .dat n, .own (encT (fs ++ [minO (stepsTo f g fs p)])), .dat (.int p), y5, y6, y7] := by
  obtain ⟨x', y', e⟩ := tt1 hf hg n fs p hp hl g [] x6 x7 hg (by simpa using hgc)
  rw [List.map_nil, List.nil_append] at e
  refine ⟨.own (.list ((stepsTo f g fs p).map .int)), x', y', ?_⟩
  have sg : sq1 (encG g) = M.ret (g.map encP) := rfl
  have e' := dMnN_i (stepsTo f g fs p)
  simp [L2_toils_to, -List.map_map, th_ok, th_ex, th_ite, e_bind, e_ret, e_opt, ts_ok, ts_ex, ts_ite, e_bindS, sq_nx, sq_rt, sq_ex, sq_bk, sq_ct, sq_ite, e_seqS, fin_nx, fin_rt, fin_ex, fin_ite, e_fnOf, wb_ok, wb_ex, wb_ite, vA1_b, e_vAnd, vO1_b, e_vOr, vN1_b, e_vNot, ch1_b, e_chM, e_toB, e_mAnd, e_mOr, e_mNot, e_mIte, e_iteS, lp_nx, lp_ct, lp_bk, lp_rt, lp_ex, lp_ite, forL_nil, forL_nm, e_forS, okArgs, isOwn, outs, nam, frz, look, lookAll, ap1, ap2, apA, un1, bin2, opA, isiM, retS, drpS, setS, setN, putS, put, unpS, asg, mCons, mNil, e_mTup, mt1_ok, e_mLst, ml1_ok, callM, argsOf, argOf, ownIx, Sk.wb, List.getElem?_cons_zero, List.getElem?_cons_succ, List.getElem?_nil, List.set_cons_zero, List.set_cons_succ, List.replicate_succ, List.replicate_zero, List.cons_append, List.nil_append, List.foldl_cons, List.foldl_nil, List.getD_cons_zero, List.getD_cons_succ, List.all_cons, List.all_nil, isiD, tyN, dLt, dLe, dGt, dGe, dAdd_i, dEq_i, dNe_i, dSub, iOp, dLen_t, dLen_l, e_seqM, sq1_l, sq1_t, e_partM, pa1_i, sliM, isN_none, notN_none, isN_int, notN_int, isN_bool, notN_bool, isN_str, notN_str, isN_list, notN_list, isN_tup, notN_tup, isN_dict, notN_dict, raiseS, mDat, mNew, e_callAt, cal_some, wbl_ok, wbl_ex, wbl_ite, e_lcM, e_rng1, e_rng2, e_enuM, en1_l, en1_t, e_zipM, zi1_l, dMnN_i, dMx_l, dMx_t, asg_nm, asg_tp, put, e_appM, isOwnL_l, e_apd, apo_l, notN_OI, isN_OI, dNe_n0, sg, e, e', hc]
theorem tt_len (n : Nat) : (toils f g n).length = n + 1 := toils_len f g n
theorem r_toils (n : Nat) (hn : n < 1000000) (hgc : g.length < cap) : m_toils_to [.dat (encI f), .dat (encG g), .dat (.int (n : Int))] = .ok (encT (toils f g n)) [.dat (encI f), .dat (encG g), .dat (.int (n : Int))] := by
  obtain ⟨st', e, x4, x5, x6, x7, rfl⟩ := for_rng (i := 4) (body := L2_toils_to) 1 n (fun k st => ∃ x4 x5 x6 x7 : Sl, st = [.dat (encI f), .dat (encG g), .dat (.int (n : Int)), .own (encT (toils f g k)), x4, x5, x6, x7]) (fun k st hk h => by
    obtain ⟨x4, x5, x6, x7, rfl⟩ := h
    obtain ⟨y5, y6, y7, e⟩ := tt2 hf hg (toils f g k) (1 + (k : Int)) (.int (n : Int)) (by omega) (by rw [toils_len]; omega) (by rw [toils_len]; unfold cap; omega) hgc x5 x6 x7
    refine ⟨_, e, .dat (.int (1 + (k : Int))), y5, y6, y7, ?_⟩
    have e1 : toils f g (k + 1) = toils f g k ++ [minO (stepsTo f g (toils f g k) ((k : Int) + 1))] := rfl
    rw [e1, Int.add_comm 1 (k : Int)]) (st := [.dat (encI f), .dat (encG g), .dat (.int (n : Int)), .own (encT (toils f g 0)), .un, .un, .un, .un]) ⟨_, _, _, _, rfl⟩
  have sm : Sml 1 ((n : Int) + 1) := sml (by omega)
  have n1 : ((n : Int) + 1 - 1).toNat = n := by omega
  have t0 : encT (toils f g 0) = .list [.int 0] := rfl
  rw [t0] at e
  simp [m_toils_to, b_toils_to, -List.map_map, th_ok, th_ex, th_ite, e_bind, e_ret, e_opt, ts_ok, ts_ex, ts_ite, e_bindS, sq_nx, sq_rt, sq_ex, sq_bk, sq_ct, sq_ite, e_seqS, fin_nx, fin_rt, fin_ex, fin_ite, e_fnOf, wb_ok, wb_ex, wb_ite, vA1_b, e_vAnd, vO1_b, e_vOr, vN1_b, e_vNot, ch1_b, e_chM, e_toB, e_mAnd, e_mOr, e_mNot, e_mIte, e_iteS, lp_nx, lp_ct, lp_bk, lp_rt, lp_ex, lp_ite, forL_nil, forL_nm, e_forS, okArgs, isOwn, outs, nam, frz, look, lookAll, ap1, ap2, apA, un1, bin2, opA, isiM, retS, drpS, setS, setN, putS, put, unpS, asg, mCons, mNil, e_mTup, mt1_ok, e_mLst, ml1_ok, callM, argsOf, argOf, ownIx, Sk.wb, List.getElem?_cons_zero, List.getElem?_cons_succ, List.getElem?_nil, List.set_cons_zero, List.set_cons_succ, List.replicate_succ, List.replicate_zero, List.cons_append, List.nil_append, List.foldl_cons, List.foldl_nil, List.getD_cons_zero, List.getD_cons_succ, List.all_cons, List.all_nil, isiD, tyN, dLt, dLe, dGt, dGe, dAdd_i, dEq_i, dNe_i, dSub, iOp, dLen_t, dLen_l, e_seqM, sq1_l, sq1_t, e_partM, pa1_i, sliM, isN_none, notN_none, isN_int, notN_int, isN_bool, notN_bool, isN_str, notN_str, isN_list, notN_list, isN_tup, notN_tup, isN_dict, notN_dict, raiseS, mDat, mNew, e_callAt, cal_some, wbl_ok, wbl_ex, wbl_ite, e_lcM, e_rng1, e_rng2, e_enuM, en1_l, en1_t, e_zipM, zi1_l, dMnN_i, dMx_l, dMx_t, asg_nm, asg_tp, put, e_appM, isOwnL_l, e_apd, apo_l, notN_OI, isN_OI, dNe_n0, rn2_ok sm, n1, e]
theorem lt1 (n : D) (fs : List (Option Int)) (p : Int) (hp : 0 < p) (hl : p = fs.length) : ∀ (r : List (Int × Int)) (acc : List Int) (x y : Sl), (∀ q ∈ r, 0 < q.1) → acc.length + r.length < cap →
    ∃ x' y' : Sl, forL (.tp [6, 7]) L1__law_toils [] (r.map encP) [.dat (encI f), .dat (encG g), .dat n, .own (encT fs), .dat (.int p), .own (.list (acc.map .int)), x, y] =
      .nx [.dat (encI f), .dat (encG g), .dat n, .own (encT fs), .dat (.int p), .own (.list ((acc ++ stepsTo f r fs p).map .int)), x', y'] := by
  intro r acc x y hr hc
  obtain ⟨st', e, x', y', acc', rfl, h⟩ := for_all (t := .tp [6, 7]) (body := L1__law_toils) (fun ds st => ∃ (x y : Sl) (acc' : List Int), st = [.dat (encI f), .dat (encG g), .dat n, .own (encT fs), .dat (.int p), .own (.list (acc'.map .int)), x, y] ∧
      ∃ r' : List (Int × Int), ds = r'.map encP ∧ (∀ q ∈ r', 0 < q.1) ∧ acc'.length + r'.length < cap ∧ acc' ++ stepsTo f r' fs p = acc ++ stepsTo f r fs p) (fun d ds st h => by
    obtain ⟨x, y, acc', rfl, r', e, hr', hc', hq⟩ := h
    cases r' with
    | nil => cases e
    | cons q r' =>
      cases e
      rw [List.length_cons] at hc'
      have q0 := hr' q (List.mem_cons_self ..)
      have rs := r_lstone f p hf
      have hc2 : acc'.length < cap := by omega
      have fin : ∀ acc2 : List Int, acc2 ++ stepsTo f r' fs p = acc' ++ stepsTo f (q :: r') fs p → acc2.length ≤ acc'.length + 1 → ∃ (x y : Sl) (acc' : List Int), [.dat (encI f), .dat (encG g), .dat n, .own (encT fs), .dat (.int p), .own (.list (acc2.map .int)), .dat (.int q.1), .dat (.int q.2)] = [.dat (encI f), .dat (encG g), .dat n, .own (encT fs), .dat (.int p), .own (.list (acc'.map .int)), x, y] ∧
          ∃ r'' : List (Int × Int), r'.map encP = r''.map encP ∧ (∀ q ∈ r'', 0 < q.1) ∧ acc'.length + r''.length < cap ∧ acc' ++ stepsTo f r'' fs p = acc ++ stepsTo f r fs p := fun acc2 h1 h2 => ⟨_, _, acc2, rfl, r', rfl, fun q hq => hr' q (List.mem_cons_of_mem _ hq), by omega, h1.trans hq⟩
      by_cases c1 : q.1 ≤ p
      · have ix := atT_ix (fs := fs) (p := p - q.1) (by omega) (by omega)
        by_cases c2 : 0 < stone f p
        · cases c3 : (atT fs (p - q.1)).isSome with
          | true =>
            have ad := add_OI (i := q.2) c3
            refine ⟨_, _, rfl, ?_, fin (acc' ++ [(atT fs (p - q.1)).getD 0 + q.2]) ?_ (by simp)⟩
            · simp [L1__law_toils, -List.map_map, th_ok, th_ex, th_ite, e_bind, e_ret, e_opt, ts_ok, ts_ex, ts_ite, e_bindS, sq_nx, sq_rt, sq_ex, sq_bk, sq_ct, sq_ite, e_seqS, fin_nx, fin_rt, fin_ex, fin_ite, e_fnOf, wb_ok, wb_ex, wb_ite, vA1_b, e_vAnd, vO1_b, e_vOr, vN1_b, e_vNot, ch1_b, e_chM, e_toB, e_mAnd, e_mOr, e_mNot, e_mIte, e_iteS, lp_nx, lp_ct, lp_bk, lp_rt, lp_ex, lp_ite, forL_nil, forL_nm, e_forS, okArgs, isOwn, outs, nam, frz, look, lookAll, ap1, ap2, apA, un1, bin2, opA, isiM, retS, drpS, setS, setN, putS, put, unpS, asg, mCons, mNil, e_mTup, mt1_ok, e_mLst, ml1_ok, callM, argsOf, argOf, ownIx, Sk.wb, List.getElem?_cons_zero, List.getElem?_cons_succ, List.getElem?_nil, List.set_cons_zero, List.set_cons_succ, List.replicate_succ, List.replicate_zero, List.cons_append, List.nil_append, List.foldl_cons, List.foldl_nil, List.getD_cons_zero, List.getD_cons_succ, List.all_cons, List.all_nil, isiD, tyN, dLt, dLe, dGt, dGe, dAdd_i, dEq_i, dNe_i, dSub, iOp, dLen_t, dLen_l, e_seqM, sq1_l, sq1_t, e_partM, pa1_i, sliM, isN_none, notN_none, isN_int, notN_int, isN_bool, notN_bool, isN_str, notN_str, isN_list, notN_list, isN_tup, notN_tup, isN_dict, notN_dict, raiseS, mDat, mNew, e_callAt, cal_some, wbl_ok, wbl_ex, wbl_ite, e_lcM, e_rng1, e_rng2, e_enuM, en1_l, en1_t, e_zipM, zi1_l, dMnN_i, dMx_l, dMx_t, asg_nm, asg_tp, put, e_appM, isOwnL_l, e_apd, apo_l, notN_OI, isN_OI, dNe_n0, c1, rs, c2, ix, c3, ad, hc2]
            · simp [stepsTo, c1, c2, c3]
          | false =>
            refine ⟨_, _, rfl, ?_, fin acc' ?_ (by omega)⟩
            · simp [L1__law_toils, -List.map_map, th_ok, th_ex, th_ite, e_bind, e_ret, e_opt, ts_ok, ts_ex, ts_ite, e_bindS, sq_nx, sq_rt, sq_ex, sq_bk, sq_ct, sq_ite, e_seqS, fin_nx, fin_rt, fin_ex, fin_ite, e_fnOf, wb_ok, wb_ex, wb_ite, vA1_b, e_vAnd, vO1_b, e_vOr, vN1_b, e_vNot, ch1_b, e_chM, e_toB, e_mAnd, e_mOr, e_mNot, e_mIte, e_iteS, lp_nx, lp_ct, lp_bk, lp_rt, lp_ex, lp_ite, forL_nil, forL_nm, e_forS, okArgs, isOwn, outs, nam, frz, look, lookAll, ap1, ap2, apA, un1, bin2, opA, isiM, retS, drpS, setS, setN, putS, put, unpS, asg, mCons, mNil, e_mTup, mt1_ok, e_mLst, ml1_ok, callM, argsOf, argOf, ownIx, Sk.wb, List.getElem?_cons_zero, List.getElem?_cons_succ, List.getElem?_nil, List.set_cons_zero, List.set_cons_succ, List.replicate_succ, List.replicate_zero, List.cons_append, List.nil_append, List.foldl_cons, List.foldl_nil, List.getD_cons_zero, List.getD_cons_succ, List.all_cons, List.all_nil, isiD, tyN, dLt, dLe, dGt, dGe, dAdd_i, dEq_i, dNe_i, dSub, iOp, dLen_t, dLen_l, e_seqM, sq1_l, sq1_t, e_partM, pa1_i, sliM, isN_none, notN_none, isN_int, notN_int, isN_bool, notN_bool, isN_str, notN_str, isN_list, notN_list, isN_tup, notN_tup, isN_dict, notN_dict, raiseS, mDat, mNew, e_callAt, cal_some, wbl_ok, wbl_ex, wbl_ite, e_lcM, e_rng1, e_rng2, e_enuM, en1_l, en1_t, e_zipM, zi1_l, dMnN_i, dMx_l, dMx_t, asg_nm, asg_tp, put, e_appM, isOwnL_l, e_apd, apo_l, notN_OI, isN_OI, dNe_n0, c1, rs, c2, ix, c3]
            · simp [stepsTo, c3]
        · refine ⟨_, _, rfl, ?_, fin acc' ?_ (by omega)⟩
          · simp [L1__law_toils, -List.map_map, th_ok, th_ex, th_ite, e_bind, e_ret, e_opt, ts_ok, ts_ex, ts_ite, e_bindS, sq_nx, sq_rt, sq_ex, sq_bk, sq_ct, sq_ite, e_seqS, fin_nx, fin_rt, fin_ex, fin_ite, e_fnOf, wb_ok, wb_ex, wb_ite, vA1_b, e_vAnd, vO1_b, e_vOr, vN1_b, e_vNot, ch1_b, e_chM, e_toB, e_mAnd, e_mOr, e_mNot, e_mIte, e_iteS, lp_nx, lp_ct, lp_bk, lp_rt, lp_ex, lp_ite, forL_nil, forL_nm, e_forS, okArgs, isOwn, outs, nam, frz, look, lookAll, ap1, ap2, apA, un1, bin2, opA, isiM, retS, drpS, setS, setN, putS, put, unpS, asg, mCons, mNil, e_mTup, mt1_ok, e_mLst, ml1_ok, callM, argsOf, argOf, ownIx, Sk.wb, List.getElem?_cons_zero, List.getElem?_cons_succ, List.getElem?_nil, List.set_cons_zero, List.set_cons_succ, List.replicate_succ, List.replicate_zero, List.cons_append, List.nil_append, List.foldl_cons, List.foldl_nil, List.getD_cons_zero, List.getD_cons_succ, List.all_cons, List.all_nil, isiD, tyN, dLt, dLe, dGt, dGe, dAdd_i, dEq_i, dNe_i, dSub, iOp, dLen_t, dLen_l, e_seqM, sq1_l, sq1_t, e_partM, pa1_i, sliM, isN_none, notN_none, isN_int, notN_int, isN_bool, notN_bool, isN_str, notN_str, isN_list, notN_list, isN_tup, notN_tup, isN_dict, notN_dict, raiseS, mDat, mNew, e_callAt, cal_some, wbl_ok, wbl_ex, wbl_ite, e_lcM, e_rng1, e_rng2, e_enuM, en1_l, en1_t, e_zipM, zi1_l, dMnN_i, dMx_l, dMx_t, asg_nm, asg_tp, put, e_appM, isOwnL_l, e_apd, apo_l, notN_OI, isN_OI, dNe_n0, c1, rs, c2]
          · simp [stepsTo, c2]
      · refine ⟨_, _, rfl, ?_, fin acc' ?_ (by omega)⟩
        · simp [L1__law_toils, -List.map_map, th_ok, th_ex, th_ite, e_bind, e_ret, e_opt, ts_ok, ts_ex, ts_ite, e_bindS, sq_nx, sq_rt, sq_ex, sq_bk, sq_ct, sq_ite, e_seqS, fin_nx, fin_rt, fin_ex, fin_ite, e_fnOf, wb_ok, wb_ex, wb_ite, vA1_b, e_vAnd, vO1_b, e_vOr, vN1_b, e_vNot, ch1_b, e_chM, e_toB, e_mAnd, e_mOr, e_mNot, e_mIte, e_iteS, lp_nx, lp_ct, lp_bk, lp_rt, lp_ex, lp_ite, forL_nil, forL_nm, e_forS, okArgs, isOwn, outs, nam, frz, look, lookAll, ap1, ap2, apA, un1, bin2, opA, isiM, retS, drpS, setS, setN, putS, put, unpS, asg, mCons, mNil, e_mTup, mt1_ok, e_mLst, ml1_ok, callM, argsOf, argOf, ownIx, Sk.wb, List.getElem?_cons_zero, List.getElem?_cons_succ, List.getElem?_nil, List.set_cons_zero, List.set_cons_succ, List.replicate_succ, List.replicate_zero, List.cons_append, List.nil_append, List.foldl_cons, List.foldl_nil, List.getD_cons_zero, List.getD_cons_succ, List.all_cons, List.all_nil, isiD, tyN, dLt, dLe, dGt, dGe, dAdd_i, dEq_i, dNe_i, dSub, iOp, dLen_t, dLen_l, e_seqM, sq1_l, sq1_t, e_partM, pa1_i, sliM, isN_none, notN_none, isN_int, notN_int, isN_bool, notN_bool, isN_str, notN_str, isN_list, notN_list, isN_tup, notN_tup, isN_dict, notN_dict, raiseS, mDat, mNew, e_callAt, cal_some, wbl_ok, wbl_ex, wbl_ite, e_lcM, e_rng1, e_rng2, e_enuM, en1_l, en1_t, e_zipM, zi1_l, dMnN_i, dMx_l, dMx_t, asg_nm, asg_tp, put, e_appM, isOwnL_l, e_apd, apo_l, notN_OI, isN_OI, dNe_n0, rs, c1]
        · simp [stepsTo, c1]) ⟨x, y, acc, rfl, r, rfl, hr, hc, rfl⟩
  obtain ⟨r', e1, _, _, h⟩ := h
  have : r' = [] := by simpa using e1.symm
  subst this
  have e2 : acc' = acc ++ stepsTo f r fs p := by rw [← h]; simp [stepsTo]
  rw [e2] at e
  exact ⟨x', y', e⟩
theorem lt2 (fs : List (Option Int)) (p : Int) (n : D) (hp : 0 < p) (hl : p = fs.length) (hc : fs.length < cap) (hgc : g.length < cap) (x5 x6 x7 : Sl) : ∃ y5 y6 y7 : Sl, L2__law_toils [.dat (encI f), .dat (encG g), .dat n, .own (encT fs), .dat (.int p), x5, x6, x7] =
    .nx [.dat (encI f), .dat (encG g), .dat n, .own (encT (fs ++ [minO (stepsTo f g fs p)])), .dat (.int p), y5, y6, y7] := by
  obtain ⟨x', y', e⟩ := lt1 hf hg n fs p hp hl g [] x6 x7 hg (by simpa using hgc)
  rw [List.map_nil, List.nil_append] at e
  refine ⟨.own (.list ((stepsTo f g fs p).map .int)), x', y', ?_⟩
  have sg : sq1 (encG g) = M.ret (g.map encP) := rfl
  cases h : (stepsTo f g fs p).isEmpty with
  | true =>
    have e1 := min_nil h
    simp only [List.isEmpty_iff] at h
    rw [h] at e
    simp [L2__law_toils, -List.map_map, th_ok, th_ex, th_ite, e_bind, e_ret, e_opt, ts_ok, ts_ex, ts_ite, e_bindS, sq_nx, sq_rt, sq_ex, sq_bk, sq_ct, sq_ite, e_seqS, fin_nx, fin_rt, fin_ex, fin_ite, e_fnOf, wb_ok, wb_ex, wb_ite, vA1_b, e_vAnd, vO1_b, e_vOr, vN1_b, e_vNot, ch1_b, e_chM, e_toB, e_mAnd, e_mOr, e_mNot, e_mIte, e_iteS, lp_nx, lp_ct, lp_bk, lp_rt, lp_ex, lp_ite, forL_nil, forL_nm, e_forS, okArgs, isOwn, outs, nam, frz, look, lookAll, ap1, ap2, apA, un1, bin2, opA, isiM, retS, drpS, setS, setN, putS, put, unpS, asg, mCons, mNil, e_mTup, mt1_ok, e_mLst, ml1_ok, callM, argsOf, argOf, ownIx, Sk.wb, List.getElem?_cons_zero, List.getElem?_cons_succ, List.getElem?_nil, List.set_cons_zero, List.set_cons_succ, List.replicate_succ, List.replicate_zero, List.cons_append, List.nil_append, List.foldl_cons, List.foldl_nil, List.getD_cons_zero, List.getD_cons_succ, List.all_cons, List.all_nil, isiD, tyN, dLt, dLe, dGt, dGe, dAdd_i, dEq_i, dNe_i, dSub, iOp, dLen_t, dLen_l, e_seqM, sq1_l, sq1_t, e_partM, pa1_i, sliM, isN_none, notN_none, isN_int, notN_int, isN_bool, notN_bool, isN_str, notN_str, isN_list, notN_list, isN_tup, notN_tup, isN_dict, notN_dict, raiseS, mDat, mNew, e_callAt, cal_some, wbl_ok, wbl_ex, wbl_ite, e_lcM, e_rng1, e_rng2, e_enuM, en1_l, en1_t, e_zipM, zi1_l, dMnN_i, dMx_l, dMx_t, asg_nm, asg_tp, put, e_appM, isOwnL_l, e_apd, apo_l, notN_OI, isN_OI, dNe_n0, sg, e, h, hc, e1, encOI, minO]
  | false =>
    have e1 := min_or h
    simp [L2__law_toils, -List.map_map, th_ok, th_ex, th_ite, e_bind, e_ret, e_opt, ts_ok, ts_ex, ts_ite, e_bindS, sq_nx, sq_rt, sq_ex, sq_bk, sq_ct, sq_ite, e_seqS, fin_nx, fin_rt, fin_ex, fin_ite, e_fnOf, wb_ok, wb_ex, wb_ite, vA1_b, e_vAnd, vO1_b, e_vOr, vN1_b, e_vNot, ch1_b, e_chM, e_toB, e_mAnd, e_mOr, e_mNot, e_mIte, e_iteS, lp_nx, lp_ct, lp_bk, lp_rt, lp_ex, lp_ite, forL_nil, forL_nm, e_forS, okArgs, isOwn, outs, nam, frz, look, lookAll, ap1, ap2, apA, un1, bin2, opA, isiM, retS, drpS, setS, setN, putS, put, unpS, asg, mCons, mNil, e_mTup, mt1_ok, e_mLst, ml1_ok, callM, argsOf, argOf, ownIx, Sk.wb, List.getElem?_cons_zero, List.getElem?_cons_succ, List.getElem?_nil, List.set_cons_zero, List.set_cons_succ, List.replicate_succ, List.replicate_zero, List.cons_append, List.nil_append, List.foldl_cons, List.foldl_nil, List.getD_cons_zero, List.getD_cons_succ, List.all_cons, List.all_nil, isiD, tyN, dLt, dLe, dGt, dGe, dAdd_i, dEq_i, dNe_i, dSub, iOp, dLen_t, dLen_l, e_seqM, sq1_l, sq1_t, e_partM, pa1_i, sliM, isN_none, notN_none, isN_int, notN_int, isN_bool, notN_bool, isN_str, notN_str, isN_list, notN_list, isN_tup, notN_tup, isN_dict, notN_dict, raiseS, mDat, mNew, e_callAt, cal_some, wbl_ok, wbl_ex, wbl_ite, e_lcM, e_rng1, e_rng2, e_enuM, en1_l, en1_t, e_zipM, zi1_l, dMnN_i, dMx_l, dMx_t, asg_nm, asg_tp, put, e_appM, isOwnL_l, e_apd, apo_l, notN_OI, isN_OI, dNe_n0, sg, e, dNe_nil, h, e1, hc]
theorem r_ltoils (n : Nat) (hn : n < 1000000) (hgc : g.length < cap) : m__law_toils [.dat (encI f), .dat (encG g), .dat (.int (n : Int))] = .ok (encT (toils f g n)) [.dat (encI f), .dat (encG g), .dat (.int (n : Int))] := by
  obtain ⟨st', e, x4, x5, x6, x7, rfl⟩ := for_rng (i := 4) (body := L2__law_toils) 1 n (fun k st => ∃ x4 x5 x6 x7 : Sl, st = [.dat (encI f), .dat (encG g), .dat (.int (n : Int)), .own (encT (toils f g k)), x4, x5, x6, x7]) (fun k st hk h => by
    obtain ⟨x4, x5, x6, x7, rfl⟩ := h
    obtain ⟨y5, y6, y7, e⟩ := lt2 hf hg (toils f g k) (1 + (k : Int)) (.int (n : Int)) (by omega) (by rw [toils_len]; omega) (by rw [toils_len]; unfold cap; omega) hgc x5 x6 x7
    refine ⟨_, e, .dat (.int (1 + (k : Int))), y5, y6, y7, ?_⟩
    have e1 : toils f g (k + 1) = toils f g k ++ [minO (stepsTo f g (toils f g k) ((k : Int) + 1))] := rfl
    rw [e1, Int.add_comm 1 (k : Int)]) (st := [.dat (encI f), .dat (encG g), .dat (.int (n : Int)), .own (encT (toils f g 0)), .un, .un, .un, .un]) ⟨_, _, _, _, rfl⟩
  have sm : Sml 1 ((n : Int) + 1) := sml (by omega)
  have n1 : ((n : Int) + 1 - 1).toNat = n := by omega
  have t0 : encT (toils f g 0) = .list [.int 0] := rfl
  rw [t0] at e
  simp [m__law_toils, b__law_toils, -List.map_map, th_ok, th_ex, th_ite, e_bind, e_ret, e_opt, ts_ok, ts_ex, ts_ite, e_bindS, sq_nx, sq_rt, sq_ex, sq_bk, sq_ct, sq_ite, e_seqS, fin_nx, fin_rt, fin_ex, fin_ite, e_fnOf, wb_ok, wb_ex, wb_ite, vA1_b, e_vAnd, vO1_b, e_vOr, vN1_b, e_vNot, ch1_b, e_chM, e_toB, e_mAnd, e_mOr, e_mNot, e_mIte, e_iteS, lp_nx, lp_ct, lp_bk, lp_rt, lp_ex, lp_ite, forL_nil, forL_nm, e_forS, okArgs, isOwn, outs, nam, frz, look, lookAll, ap1, ap2, apA, un1, bin2, opA, isiM, retS, drpS, setS, setN, putS, put, unpS, asg, mCons, mNil, e_mTup, mt1_ok, e_mLst, ml1_ok, callM, argsOf, argOf, ownIx, Sk.wb, List.getElem?_cons_zero, List.getElem?_cons_succ, List.getElem?_nil, List.set_cons_zero, List.set_cons_succ, List.replicate_succ, List.replicate_zero, List.cons_append, List.nil_append, List.foldl_cons, List.foldl_nil, List.getD_cons_zero, List.getD_cons_succ, List.all_cons, List.all_nil, isiD, tyN, dLt, dLe, dGt, dGe, dAdd_i, dEq_i, dNe_i, dSub, iOp, dLen_t, dLen_l, e_seqM, sq1_l, sq1_t, e_partM, pa1_i, sliM, isN_none, notN_none, isN_int, notN_int, isN_bool, notN_bool, isN_str, notN_str, isN_list, notN_list, isN_tup, notN_tup, isN_dict, notN_dict, raiseS, mDat, mNew, e_callAt, cal_some, wbl_ok, wbl_ex, wbl_ite, e_lcM, e_rng1, e_rng2, e_enuM, en1_l, en1_t, e_zipM, zi1_l, dMnN_i, dMx_l, dMx_t, asg_nm, asg_tp, put, e_appM, isOwnL_l, e_apd, apo_l, notN_OI, isN_OI, dNe_n0, rn2_ok sm, n1, e]
end
end Zk03
set_option maxHeartbeats 1000000
namespace Zk03
open PySem PySem.Spec PyProof.Rows L2 Sk LamX
/-! over a width -/
def loP (n : Int) (l : Int) : Int := if n + 1 - l > 0 then n + 1 - l else 0
def overK (fs : List (Option Int)) (lo t : Int) (k : Nat) : List Int := (List.range k).filterMap fun j : Nat => (atT fs (lo + (j : Int))).map (· + t)
def overQ (fs : List (Option Int)) (n : Int) (q : Int × Int) : List Int := overK fs (loP n q.1) q.2 (n + 1 - loP n q.1).toNat
def overL (fs : List (Option Int)) (g : List (Int × Int)) (n : Int) : List Int := g.flatMap (overQ fs n)
theorem overK_succ (fs : List (Option Int)) (lo t : Int) (k : Nat) : overK fs lo t (k + 1) = overK fs lo t k ++ ((atT fs (lo + (k : Int))).map (· + t)).toList := by
  unfold overK
  rw [List.range_succ, List.filterMap_append]
  congr 1
theorem overK_len (fs : List (Option Int)) (lo t : Int) (k : Nat) : (overK fs lo t k).length ≤ k := by
  unfold overK
  have := List.length_filterMap_le (fun j : Nat => (atT fs (lo + (j : Int))).map (· + t)) (List.range k)
  simpa using this
theorem overQ_len {fs : List (Option Int)} {n : Int} {q : Int × Int} (h : 0 < q.1) : (overQ fs n q).length ≤ q.1.toNat := by
  refine Nat.le_trans (overK_len ..) ?_
  unfold loP
  split <;> omega
theorem lo1 (fs : List (Option Int)) (G : D) (n l t : Int) (acc : List Int) (hl : 0 < l) (hn : 0 ≤ n) (hn2 : n < fs.length) (hc : acc.length + l.toNat < cap) (hb : fs.length < 1000000) (hl2 : l < 1000000) (x : Sl) : ∃ x' : Sl,
    L2__law_over [.dat (encT fs), .dat G, .dat (.int n), .own (.list (acc.map .int)), .dat (.int l), .dat (.int t), x] =
      .nx [.dat (encT fs), .dat G, .dat (.int n), .own (.list ((acc ++ overQ fs n (l, t)).map .int)), .dat (.int l), .dat (.int t), x'] := by
  have lo0 : 0 ≤ loP n l := by unfold loP; split <;> omega
  have lon : loP n l ≤ n := by unfold loP; split <;> omega
  have lol : (n + 1 - loP n l).toNat ≤ l.toNat := by unfold loP; split <;> omega
  obtain ⟨st', e, x', rfl⟩ := for_rng (i := 6) (body := L1__law_over) (loP n l) (n + 1 - loP n l).toNat (fun k st => ∃ x : Sl, st = [.dat (encT fs), .dat G, .dat (.int n), .own (.list ((acc ++ overK fs (loP n l) t k).map .int)), .dat (.int l), .dat (.int t), x]) (fun k st hk h => by
    obtain ⟨x, rfl⟩ := h
    have ix := atT_ix (fs := fs) (p := loP n l + (k : Int)) (by omega) (by omega)
    have ol := overK_len fs (loP n l) t k
    have hc2 : acc.length + (overK fs (loP n l) t k).length < cap := by omega
    have sc := overK_succ fs (loP n l) t k
    cases c : atT fs (loP n l + (k : Int)) with
    | none =>
      rw [c] at sc ix
      refine ⟨_, ?_, .dat (.int (loP n l + (k : Int))), rfl⟩
      rw [sc]
      simp [L1__law_over, -List.map_map, th_ok, th_ex, th_ite, e_bind, e_ret, e_opt, ts_ok, ts_ex, ts_ite, e_bindS, sq_nx, sq_rt, sq_ex, sq_bk, sq_ct, sq_ite, e_seqS, fin_nx, fin_rt, fin_ex, fin_ite, e_fnOf, wb_ok, wb_ex, wb_ite, vA1_b, e_vAnd, vO1_b, e_vOr, vN1_b, e_vNot, ch1_b, e_chM, e_toB, e_mAnd, e_mOr, e_mNot, e_mIte, e_iteS, lp_nx, lp_ct, lp_bk, lp_rt, lp_ex, lp_ite, forL_nil, forL_nm, e_forS, okArgs, isOwn, outs, nam, frz, look, lookAll, ap1, ap2, apA, un1, bin2, opA, isiM, retS, drpS, setS, setN, putS, put, unpS, asg, mCons, mNil, e_mTup, mt1_ok, e_mLst, ml1_ok, callM, argsOf, argOf, ownIx, Sk.wb, List.getElem?_cons_zero, List.getElem?_cons_succ, List.getElem?_nil, List.set_cons_zero, List.set_cons_succ, List.replicate_succ, List.replicate_zero, List.cons_append, List.nil_append, List.foldl_cons, List.foldl_nil, List.getD_cons_zero, List.getD_cons_succ, List.all_cons, List.all_nil, isiD, tyN, dLt, dLe, dGt, dGe, dAdd_i, dEq_i, dNe_i, dSub, iOp, dLen_t, dLen_l, e_seqM, sq1_l, sq1_t, e_partM, pa1_i, sliM, isN_none, notN_none, isN_int, notN_int, isN_bool, notN_bool, isN_str, notN_str, isN_list, notN_list, isN_tup, notN_tup, isN_dict, notN_dict, raiseS, mDat, mNew, e_callAt, cal_some, wbl_ok, wbl_ex, wbl_ite, e_lcM, e_rng1, e_rng2, e_enuM, en1_l, en1_t, e_zipM, zi1_l, dMnN_i, dMx_l, dMx_t, asg_nm, asg_tp, put, e_appM, isOwnL_l, e_apd, apo_l, notN_OI, isN_OI, dNe_n0, ix, encOI]
    | some v =>
      rw [c] at sc ix
      refine ⟨_, ?_, .dat (.int (loP n l + (k : Int))), rfl⟩
      rw [sc]
      simp [L1__law_over, -List.map_map, th_ok, th_ex, th_ite, e_bind, e_ret, e_opt, ts_ok, ts_ex, ts_ite, e_bindS, sq_nx, sq_rt, sq_ex, sq_bk, sq_ct, sq_ite, e_seqS, fin_nx, fin_rt, fin_ex, fin_ite, e_fnOf, wb_ok, wb_ex, wb_ite, vA1_b, e_vAnd, vO1_b, e_vOr, vN1_b, e_vNot, ch1_b, e_chM, e_toB, e_mAnd, e_mOr, e_mNot, e_mIte, e_iteS, lp_nx, lp_ct, lp_bk, lp_rt, lp_ex, lp_ite, forL_nil, forL_nm, e_forS, okArgs, isOwn, outs, nam, frz, look, lookAll, ap1, ap2, apA, un1, bin2, opA, isiM, retS, drpS, setS, setN, putS, put, unpS, asg, mCons, mNil, e_mTup, mt1_ok, e_mLst, ml1_ok, callM, argsOf, argOf, ownIx, Sk.wb, List.getElem?_cons_zero, List.getElem?_cons_succ, List.getElem?_nil, List.set_cons_zero, List.set_cons_succ, List.replicate_succ, List.replicate_zero, List.cons_append, List.nil_append, List.foldl_cons, List.foldl_nil, List.getD_cons_zero, List.getD_cons_succ, List.all_cons, List.all_nil, isiD, tyN, dLt, dLe, dGt, dGe, dAdd_i, dEq_i, dNe_i, dSub, iOp, dLen_t, dLen_l, e_seqM, sq1_l, sq1_t, e_partM, pa1_i, sliM, isN_none, notN_none, isN_int, notN_int, isN_bool, notN_bool, isN_str, notN_str, isN_list, notN_list, isN_tup, notN_tup, isN_dict, notN_dict, raiseS, mDat, mNew, e_callAt, cal_some, wbl_ok, wbl_ex, wbl_ite, e_lcM, e_rng1, e_rng2, e_enuM, en1_l, en1_t, e_zipM, zi1_l, dMnN_i, dMx_l, dMx_t, asg_nm, asg_tp, put, e_appM, isOwnL_l, e_apd, apo_l, notN_OI, isN_OI, dNe_n0, ix, encOI, hc2]) (st := [.dat (encT fs), .dat G, .dat (.int n), .own (.list ((acc ++ overK fs (loP n l) t 0).map .int)), .dat (.int l), .dat (.int t), x]) ⟨_, rfl⟩
  refine ⟨x', ?_⟩
  have mx : dMax2 [.int 0, .int (n + 1 - l)] = some (.int (loP n l)) := by
    unfold dMax2 loP
    rfl
  have sm : Sml (loP n l) (n + 1) := sml (by omega)
  have e0 : overK fs (loP n l) t 0 = [] := rfl
  rw [e0, List.append_nil] at e
  simp [L2__law_over, -List.map_map, th_ok, th_ex, th_ite, e_bind, e_ret, e_opt, ts_ok, ts_ex, ts_ite, e_bindS, sq_nx, sq_rt, sq_ex, sq_bk, sq_ct, sq_ite, e_seqS, fin_nx, fin_rt, fin_ex, fin_ite, e_fnOf, wb_ok, wb_ex, wb_ite, vA1_b, e_vAnd, vO1_b, e_vOr, vN1_b, e_vNot, ch1_b, e_chM, e_toB, e_mAnd, e_mOr, e_mNot, e_mIte, e_iteS, lp_nx, lp_ct, lp_bk, lp_rt, lp_ex, lp_ite, forL_nil, forL_nm, e_forS, okArgs, isOwn, outs, nam, frz, look, lookAll, ap1, ap2, apA, un1, bin2, opA, isiM, retS, drpS, setS, setN, putS, put, unpS, asg, mCons, mNil, e_mTup, mt1_ok, e_mLst, ml1_ok, callM, argsOf, argOf, ownIx, Sk.wb, List.getElem?_cons_zero, List.getElem?_cons_succ, List.getElem?_nil, List.set_cons_zero, List.set_cons_succ, List.replicate_succ, List.replicate_zero, List.cons_append, List.nil_append, List.foldl_cons, List.foldl_nil, List.getD_cons_zero, List.getD_cons_succ, List.all_cons, List.all_nil, isiD, tyN, dLt, dLe, dGt, dGe, dAdd_i, dEq_i, dNe_i, dSub, iOp, dLen_t, dLen_l, e_seqM, sq1_l, sq1_t, e_partM, pa1_i, sliM, isN_none, notN_none, isN_int, notN_int, isN_bool, notN_bool, isN_str, notN_str, isN_list, notN_list, isN_tup, notN_tup, isN_dict, notN_dict, raiseS, mDat, mNew, e_callAt, cal_some, wbl_ok, wbl_ex, wbl_ite, e_lcM, e_rng1, e_rng2, e_enuM, en1_l, en1_t, e_zipM, zi1_l, dMnN_i, dMx_l, dMx_t, asg_nm, asg_tp, put, e_appM, isOwnL_l, e_apd, apo_l, notN_OI, isN_OI, dNe_n0, mx, rn2_ok sm, e, overQ]
theorem lo2 (fs : List (Option Int)) (g : List (Int × Int)) (n : Int) (hn : 0 ≤ n) (hn2 : n < fs.length) (hb : fs.length < 1000000) (x4 x5 x6 : Sl) (hg : ∀ q ∈ g, 0 < q.1 ∧ q.1 ≤ 6) (hc : g.length ≤ 100) :
    ∃ y4 y5 y6 : Sl, forL (.tp [4, 5]) L2__law_over [] (g.map encP) [.dat (encT fs), .dat (encG g), .dat (.int n), .own (.list []), x4, x5, x6] = .nx [.dat (encT fs), .dat (encG g), .dat (.int n), .own (.list ((overL fs g n).map .int)), y4, y5, y6] := by
  obtain ⟨st', e, acc, r, x4, x5, x6, rfl, e1, _, _, h⟩ := for_all (t := .tp [4, 5]) (body := L2__law_over) (fun ds st => ∃ (acc : List Int) (r : List (Int × Int)) (x4 x5 x6 : Sl), st = [.dat (encT fs), .dat (encG g), .dat (.int n), .own (.list (acc.map .int)), x4, x5, x6] ∧ ds = r.map encP ∧
      (∀ q ∈ r, 0 < q.1 ∧ q.1 ≤ 6) ∧ acc.length + 6 * r.length ≤ 1000 ∧ acc ++ r.flatMap (overQ fs n) = overL fs g n) (fun d ds st h => by
    obtain ⟨acc, r, x4, x5, x6, rfl, e, hr, hc', hq⟩ := h
    cases r with
    | nil => cases e
    | cons q r =>
      cases e
      have q0 := hr q (List.mem_cons_self ..)
      have ql := overQ_len (fs := fs) (n := n) q0.1
      rw [List.length_cons] at hc'
      obtain ⟨x', e'⟩ := lo1 fs (encG g) n q.1 q.2 acc q0.1 hn hn2 (by unfold cap; omega) hb (by omega) x6
      refine ⟨_, _, rfl, e', acc ++ overQ fs n q, r, .dat (.int q.1), .dat (.int q.2), x', rfl, rfl, fun p hp => hr p (List.mem_cons_of_mem _ hp), ?_, ?_⟩
      · rw [List.length_append]
        have : q.1.toNat ≤ 6 := by omega
        omega
      · rw [List.append_assoc]
        exact hq) ⟨[], g, x4, x5, x6, rfl, rfl, hg, by simp; omega, by simp [overL]⟩
  have : r = [] := by simpa using e1.symm
  subst this
  have e2 : acc = overL fs g n := by rw [← h]; simp
  rw [e2] at e
  exact ⟨x4, x5, x6, e⟩
theorem r_over (fs : List (Option Int)) (g : List (Int × Int)) (n : Int) (hn : 0 ≤ n) (hn2 : n < fs.length) (hb : fs.length < 1000000) (hg : ∀ q ∈ g, 0 < q.1 ∧ q.1 ≤ 6) (hc : g.length ≤ 100) :
    m__law_over [.dat (encT fs), .dat (encG g), .dat (.int n)] = .ok (encOI (minO (overL fs g n))) [.dat (encT fs), .dat (encG g), .dat (.int n)] := by
  obtain ⟨y4, y5, y6, e⟩ := lo2 fs g n hn hn2 hb .un .un .un hg hc
  have sg : sq1 (encG g) = M.ret (g.map encP) := rfl
  cases h : (overL fs g n).isEmpty with
  | true =>
    have e1 := min_nil h
    simp only [List.isEmpty_iff] at h
    rw [h] at e
    simp [m__law_over, b__law_over, -List.map_map, th_ok, th_ex, th_ite, e_bind, e_ret, e_opt, ts_ok, ts_ex, ts_ite, e_bindS, sq_nx, sq_rt, sq_ex, sq_bk, sq_ct, sq_ite, e_seqS, fin_nx, fin_rt, fin_ex, fin_ite, e_fnOf, wb_ok, wb_ex, wb_ite, vA1_b, e_vAnd, vO1_b, e_vOr, vN1_b, e_vNot, ch1_b, e_chM, e_toB, e_mAnd, e_mOr, e_mNot, e_mIte, e_iteS, lp_nx, lp_ct, lp_bk, lp_rt, lp_ex, lp_ite, forL_nil, forL_nm, e_forS, okArgs, isOwn, outs, nam, frz, look, lookAll, ap1, ap2, apA, un1, bin2, opA, isiM, retS, drpS, setS, setN, putS, put, unpS, asg, mCons, mNil, e_mTup, mt1_ok, e_mLst, ml1_ok, callM, argsOf, argOf, ownIx, Sk.wb, List.getElem?_cons_zero, List.getElem?_cons_succ, List.getElem?_nil, List.set_cons_zero, List.set_cons_succ, List.replicate_succ, List.replicate_zero, List.cons_append, List.nil_append, List.foldl_cons, List.foldl_nil, List.getD_cons_zero, List.getD_cons_succ, List.all_cons, List.all_nil, isiD, tyN, dLt, dLe, dGt, dGe, dAdd_i, dEq_i, dNe_i, dSub, iOp, dLen_t, dLen_l, e_seqM, sq1_l, sq1_t, e_partM, pa1_i, sliM, isN_none, notN_none, isN_int, notN_int, isN_bool, notN_bool, isN_str, notN_str, isN_list, notN_list, isN_tup, notN_tup, isN_dict, notN_dict, raiseS, mDat, mNew, e_callAt, cal_some, wbl_ok, wbl_ex, wbl_ite, e_lcM, e_rng1, e_rng2, e_enuM, en1_l, en1_t, e_zipM, zi1_l, dMnN_i, dMx_l, dMx_t, asg_nm, asg_tp, put, e_appM, isOwnL_l, e_apd, apo_l, notN_OI, isN_OI, dNe_n0, sg, e, h, e1, encOI, minO]
  | false =>
    have e1 := min_or h
    simp [m__law_over, b__law_over, -List.map_map, th_ok, th_ex, th_ite, e_bind, e_ret, e_opt, ts_ok, ts_ex, ts_ite, e_bindS, sq_nx, sq_rt, sq_ex, sq_bk, sq_ct, sq_ite, e_seqS, fin_nx, fin_rt, fin_ex, fin_ite, e_fnOf, wb_ok, wb_ex, wb_ite, vA1_b, e_vAnd, vO1_b, e_vOr, vN1_b, e_vNot, ch1_b, e_chM, e_toB, e_mAnd, e_mOr, e_mNot, e_mIte, e_iteS, lp_nx, lp_ct, lp_bk, lp_rt, lp_ex, lp_ite, forL_nil, forL_nm, e_forS, okArgs, isOwn, outs, nam, frz, look, lookAll, ap1, ap2, apA, un1, bin2, opA, isiM, retS, drpS, setS, setN, putS, put, unpS, asg, mCons, mNil, e_mTup, mt1_ok, e_mLst, ml1_ok, callM, argsOf, argOf, ownIx, Sk.wb, List.getElem?_cons_zero, List.getElem?_cons_succ, List.getElem?_nil, List.set_cons_zero, List.set_cons_succ, List.replicate_succ, List.replicate_zero, List.cons_append, List.nil_append, List.foldl_cons, List.foldl_nil, List.getD_cons_zero, List.getD_cons_succ, List.all_cons, List.all_nil, isiD, tyN, dLt, dLe, dGt, dGe, dAdd_i, dEq_i, dNe_i, dSub, iOp, dLen_t, dLen_l, e_seqM, sq1_l, sq1_t, e_partM, pa1_i, sliM, isN_none, notN_none, isN_int, notN_int, isN_bool, notN_bool, isN_str, notN_str, isN_list, notN_list, isN_tup, notN_tup, isN_dict, notN_dict, raiseS, mDat, mNew, e_callAt, cal_some, wbl_ok, wbl_ex, wbl_ite, e_lcM, e_rng1, e_rng2, e_enuM, en1_l, en1_t, e_zipM, zi1_l, dMnN_i, dMx_l, dMx_t, asg_nm, asg_tp, put, e_appM, isOwnL_l, e_apd, apo_l, notN_OI, isN_OI, dNe_n0, sg, e, dNe_nil, h, e1]
end Zk03
set_option maxHeartbeats 1000000
namespace Zk03
open PySem PySem.Spec PyProof.Rows L2 Sk LamX
/-! the least toil to a place, by itself -/
def TT (f : List Int) (g : List (Int × Int)) (p : Int) : Option Int := if p < 0 then none else (toils f g p.toNat).getD p.toNat none
section
variable {f : List Int} {g : List (Int × Int)}
theorem toils_pre : ∀ {n k : Nat}, k ≤ n → (toils f g n).getD k none = (toils f g k).getD k none
  | 0, k, h => by
    have : k = 0 := by omega
    subst this
    rfl
  | n + 1, k, h => by
    by_cases e : k = n + 1
    · subst e; rfl
    · have l : k ≤ n := by omega
      rw [← toils_pre l, toils_succ]
      rw [List.getD_eq_getElem?_getD, List.getD_eq_getElem?_getD, List.getElem?_append_left (by rw [toils_len]; omega)]
theorem atT_T {n : Nat} {p : Int} (h0 : 0 ≤ p) (h1 : p ≤ n) : atT (toils f g n) p = TT f g p := by
  unfold atT TT
  rw [if_neg (by omega), toils_pre (by omega)]
theorem T_zero : TT f g 0 = some 0 := rfl
theorem T_neg {p : Int} (h : p < 0) : TT f g p = none := if_pos h
/-- what leads to a place -/
def into (f : List Int) (g : List (Int × Int)) (p : Int) : List Int := (g.filter fun q => decide (0 < stone f p) && (TT f g (p - q.1)).isSome).map fun q => (TT f g (p - q.1)).getD 0 + q.2
theorem T_succ {p : Int} (h : 0 < p) (hg : ∀ q ∈ g, 0 < q.1) : TT f g p = minO (into f g p) := by
  unfold TT
  rw [if_neg (by omega)]
  obtain ⟨m, e⟩ : ∃ m : Nat, p.toNat = m + 1 := ⟨p.toNat - 1, by omega⟩
  have ep : p = (m : Int) + 1 := by omega
  rw [e, toils_succ]
  rw [List.getD_eq_getElem?_getD, List.getElem?_append_right (by rw [toils_len]; omega), toils_len]
  simp only [Nat.sub_self, List.getElem?_cons_zero, Option.getD_some]
  rw [← ep]
  congr 1
  unfold stepsTo into
  have e1 : (g.filter fun q => decide (q.1 ≤ p) && (decide (0 < stone f p) && (atT (toils f g m) (p - q.1)).isSome)) = g.filter fun q => decide (0 < stone f p) && (TT f g (p - q.1)).isSome := by
    apply List.filter_congr
    intro q hq
    have := hg q hq
    by_cases c : q.1 ≤ p
    · rw [atT_T (by omega) (by omega)]
      simp [c]
    · rw [T_neg (by omega)]
      simp [c]
  rw [e1]
  apply List.map_congr_left
  intro q hq
  have h1 := List.mem_filter.mp hq
  have := hg q h1.1
  have c : 0 ≤ p - q.1 := by
    by_cases c : p - q.1 < 0
    · have h2 := h1.2
      rw [T_neg c] at h2
      simp at h2
    · omega
  rw [atT_T c (by omega)]
theorem T_from (hg : ∀ q ∈ g, 0 < q.1) {p v : Int} (hp : 0 < p) (h : TT f g p = some v) : 0 < stone f p ∧ ∃ q ∈ g, ∃ u, TT f g (p - q.1) = some u ∧ v = u + q.2 := by
  rw [T_succ hp hg] at h
  obtain ⟨m, _⟩ := minO_some h
  obtain ⟨q, hq, e⟩ := List.mem_map.mp m
  obtain ⟨h1, h2⟩ := List.mem_filter.mp hq
  simp only [Bool.and_eq_true, decide_eq_true_eq] at h2
  refine ⟨h2.1, q, h1, ?_⟩
  cases c : TT f g (p - q.1) with
  | none => rw [c] at h2; simp at h2
  | some u =>
    rw [c] at e
    exact ⟨u, rfl, by simpa using e.symm⟩
theorem T_to (hg : ∀ q ∈ g, 0 < q.1) {p u : Int} {q : Int × Int} (hs : 0 < stone f p) (hq : q ∈ g) (h : TT f g (p - q.1) = some u) : ∃ v, TT f g p = some v ∧ v ≤ u + q.2 := by
  have q0 := hg q hq
  have hp : 0 < p := by
    by_cases c : p - q.1 < 0
    · rw [T_neg c] at h; cases h
    · omega
  have m : u + q.2 ∈ into f g p := List.mem_map.mpr ⟨q, List.mem_filter.mpr ⟨hq, by simp [hs, h]⟩, by simp [h]⟩
  rw [T_succ hp hg]
  cases e : minO (into f g p) with
  | none => rw [minO_none e] at m; cases m
  | some v => exact ⟨v, rfl, (minO_some e).2 _ m⟩
theorem T_nonneg (hg : ∀ q ∈ g, 0 < q.1 ∧ 0 ≤ q.2) : ∀ (n : Nat) {p v : Int}, p ≤ n → TT f g p = some v → 0 ≤ v
  | 0, p, v, hp, h => by
    by_cases c : p < 0
    · rw [T_neg c] at h; cases h
    · have : p = 0 := by omega
      subst this
      rw [T_zero] at h
      cases h
      omega
  | n + 1, p, v, hp, h => by
    by_cases c : p ≤ 0
    · exact T_nonneg hg n (by omega) h
    · obtain ⟨_, q, hq, u, hu, rfl⟩ := T_from (fun q hq => (hg q hq).1) (by omega) h
      have := hg q hq
      have := T_nonneg hg n (by omega) hu
      omega
end
/-! the least toil over a width -/
theorem mem_over {f : List Int} {g : List (Int × Int)} {N : Nat} {n z : Int} (h0 : 0 ≤ n) (hN : n ≤ N) (hg : ∀ q ∈ g, 0 < q.1) : z ∈ overL (toils f g N) g n ↔ ∃ q ∈ g, ∃ p u, 0 ≤ p ∧ p ≤ n ∧ n < p + q.1 ∧ TT f g p = some u ∧ z = u + q.2 := by
  unfold overL overQ overK
  rw [List.mem_flatMap]
  constructor
  · rintro ⟨q, hq, hz⟩
    obtain ⟨j, hj, e⟩ := List.mem_filterMap.mp hz
    have hj := List.mem_range.mp hj
    have lo0 : 0 ≤ loP n q.1 ∧ n + 1 - q.1 ≤ loP n q.1 := by unfold loP; split <;> omega
    rw [atT_T (by omega) (by omega)] at e
    cases c : TT f g (loP n q.1 + (j : Int)) with
    | none => rw [c] at e; cases e
    | some u =>
      rw [c] at e
      exact ⟨q, hq, _, u, by omega, by omega, by omega, c, (Option.some.inj e).symm⟩
  · rintro ⟨q, hq, p, u, p0, pn, pl, hu, rfl⟩
    refine ⟨q, hq, List.mem_filterMap.mpr ⟨(p - loP n q.1).toNat, List.mem_range.mpr ?_, ?_⟩⟩
    · unfold loP; split <;> omega
    · have lo : loP n q.1 ≤ p := by unfold loP; split <;> omega
      have e : loP n q.1 + ((p - loP n q.1).toNat : Int) = p := by omega
      rw [e, atT_T p0 (by omega), hu]
      rfl
/-- the least toil over a width -/
def OV (f : List Int) (g : List (Int × Int)) (n : Int) : Option Int := minO (overL (toils f g n.toNat) g n)
theorem over_N {f : List Int} {g : List (Int × Int)} {N : Nat} {n : Int} (h0 : 0 ≤ n) (hN : n ≤ N) (hg : ∀ q ∈ g, 0 < q.1) : minO (overL (toils f g N) g n) = OV f g n :=
  minO_ext fun z => (mem_over h0 hN hg).trans (mem_over h0 (by omega) hg).symm
theorem OV_some {f : List Int} {g : List (Int × Int)} {n z : Int} (h0 : 0 ≤ n) (hg : ∀ q ∈ g, 0 < q.1) (h : OV f g n = some z) : ∃ q ∈ g, ∃ p u, 0 ≤ p ∧ p ≤ n ∧ n < p + q.1 ∧ TT f g p = some u ∧ z = u + q.2 :=
  (mem_over h0 (by omega) hg).mp (minO_some h).1
theorem OV_le {f : List Int} {g : List (Int × Int)} {n p u : Int} {q : Int × Int} (h0 : 0 ≤ n) (hg : ∀ q ∈ g, 0 < q.1) (hq : q ∈ g) (p0 : 0 ≤ p) (pn : p ≤ n) (pl : n < p + q.1) (hu : TT f g p = some u) : ∃ z, OV f g n = some z ∧ z ≤ u + q.2 := by
  have m : u + q.2 ∈ overL (toils f g n.toNat) g n := (mem_over h0 (by omega) hg).mpr ⟨q, hq, p, u, p0, pn, pl, hu, rfl⟩
  unfold OV
  cases e : minO (overL (toils f g n.toNat) g n) with
  | none => rw [minO_none e] at m; cases m
  | some v => exact ⟨v, rfl, (minO_some e).2 _ m⟩
end Zk03
set_option maxHeartbeats 1000000
namespace Zk03
open PySem PySem.Spec PyProof.Rows L2 Sk LamX
/-! the toil of a walk, by the law -/
def toilGo (f : List Int) (g : List (Int × Int)) (n : Int) : List Int → Int → Int → Option (Int × Int)
  | [], p, t => some (p, t)
  | l :: r, p, t => if n < p ∨ inL g l = false then none else if p + l ≤ n ∧ stone f (p + l) = 0 then none else toilGo f g n r (p + l) (t + toilAt g l)
def toilW (f : List Int) (g : List (Int × Int)) (n : Int) (w : List Int) : Option Int := match toilGo f g n w 0 0 with
  | some (p, t) => if n < p then some t else none
  | none => none
section
variable {f : List Int} {g : List (Int × Int)} (hf : f ≠ [])
include hf
theorem lt_loop (n : Int) (G V : D) : ∀ (r : List Int) (p t : Int) (x : Sl),
    (toilGo f g n r p t = none → ∃ st', forL (.nm 7) L1__law_toil [] (r.map .int) [.dat (encI f), .dat G, .dat (.int n), .dat V, .dat (.dict (kvG g)), .dat (.int p), .dat (.int t), x] = .rt .none st') ∧
    ∀ p' t', toilGo f g n r p t = some (p', t') → ∃ x', forL (.nm 7) L1__law_toil [] (r.map .int) [.dat (encI f), .dat G, .dat (.int n), .dat V, .dat (.dict (kvG g)), .dat (.int p), .dat (.int t), x] = .nx [.dat (encI f), .dat G, .dat (.int n), .dat V, .dat (.dict (kvG g)), .dat (.int p'), .dat (.int t'), x']
  | [], p, t, x => by
    refine ⟨fun h => (by unfold toilGo at h; cases h), fun p' t' h => ?_⟩
    simp only [toilGo, Option.some.injEq, Prod.mk.injEq] at h
    rw [← h.1, ← h.2]
    exact ⟨x, rfl⟩
  | l :: r, p, t, x => by
    have ni := in_G (g := g) (l := l)
    have rs := r_lstone f (p + l) hf
    rw [List.map_cons]
    unfold toilGo
    by_cases h1 : n < p ∨ inL g l = false
    · simp only [if_pos h1]
      refine ⟨fun _ => ?_, fun p' t' h => by cases h⟩
      by_cases h2 : n < p
      · exact ⟨_, by simp [L1__law_toil, -List.map_map, th_ok, th_ex, th_ite, e_bind, e_ret, e_opt, ts_ok, ts_ex, ts_ite, e_bindS, sq_nx, sq_rt, sq_ex, sq_bk, sq_ct, sq_ite, e_seqS, fin_nx, fin_rt, fin_ex, fin_ite, e_fnOf, wb_ok, wb_ex, wb_ite, vA1_b, e_vAnd, vO1_b, e_vOr, vN1_b, e_vNot, ch1_b, e_chM, e_toB, e_mAnd, e_mOr, e_mNot, e_mIte, e_iteS, lp_nx, lp_ct, lp_bk, lp_rt, lp_ex, lp_ite, forL_nil, forL_nm, e_forS, okArgs, isOwn, outs, nam, frz, look, lookAll, ap1, ap2, apA, un1, bin2, opA, isiM, retS, drpS, setS, setN, putS, put, unpS, asg, mCons, mNil, e_mTup, mt1_ok, e_mLst, ml1_ok, callM, argsOf, argOf, ownIx, Sk.wb, List.getElem?_cons_zero, List.getElem?_cons_succ, List.getElem?_nil, List.set_cons_zero, List.set_cons_succ, List.replicate_succ, List.replicate_zero, List.cons_append, List.nil_append, List.foldl_cons, List.foldl_nil, List.getD_cons_zero, List.getD_cons_succ, List.all_cons, List.all_nil, isiD, tyN, dLt, dLe, dGt, dGe, dAdd_i, dEq_i, dNe_i, dSub, iOp, dLen_t, dLen_l, e_seqM, sq1_l, sq1_t, e_partM, pa1_i, sliM, isN_none, notN_none, isN_int, notN_int, isN_bool, notN_bool, isN_str, notN_str, isN_list, notN_list, isN_tup, notN_tup, isN_dict, notN_dict, raiseS, mDat, mNew, e_callAt, cal_some, wbl_ok, wbl_ex, wbl_ite, e_lcM, e_rng1, e_rng2, e_enuM, en1_l, en1_t, e_zipM, zi1_l, dMnN_i, dMx_l, dMx_t, asg_nm, asg_tp, put, e_appM, isOwnL_l, e_apd, apo_l, notN_OI, isN_OI, dNe_n0, h2]; rfl⟩
      · have h3 := h1.resolve_left h2
        rw [h3] at ni
        exact ⟨_, by simp [L1__law_toil, -List.map_map, th_ok, th_ex, th_ite, e_bind, e_ret, e_opt, ts_ok, ts_ex, ts_ite, e_bindS, sq_nx, sq_rt, sq_ex, sq_bk, sq_ct, sq_ite, e_seqS, fin_nx, fin_rt, fin_ex, fin_ite, e_fnOf, wb_ok, wb_ex, wb_ite, vA1_b, e_vAnd, vO1_b, e_vOr, vN1_b, e_vNot, ch1_b, e_chM, e_toB, e_mAnd, e_mOr, e_mNot, e_mIte, e_iteS, lp_nx, lp_ct, lp_bk, lp_rt, lp_ex, lp_ite, forL_nil, forL_nm, e_forS, okArgs, isOwn, outs, nam, frz, look, lookAll, ap1, ap2, apA, un1, bin2, opA, isiM, retS, drpS, setS, setN, putS, put, unpS, asg, mCons, mNil, e_mTup, mt1_ok, e_mLst, ml1_ok, callM, argsOf, argOf, ownIx, Sk.wb, List.getElem?_cons_zero, List.getElem?_cons_succ, List.getElem?_nil, List.set_cons_zero, List.set_cons_succ, List.replicate_succ, List.replicate_zero, List.cons_append, List.nil_append, List.foldl_cons, List.foldl_nil, List.getD_cons_zero, List.getD_cons_succ, List.all_cons, List.all_nil, isiD, tyN, dLt, dLe, dGt, dGe, dAdd_i, dEq_i, dNe_i, dSub, iOp, dLen_t, dLen_l, e_seqM, sq1_l, sq1_t, e_partM, pa1_i, sliM, isN_none, notN_none, isN_int, notN_int, isN_bool, notN_bool, isN_str, notN_str, isN_list, notN_list, isN_tup, notN_tup, isN_dict, notN_dict, raiseS, mDat, mNew, e_callAt, cal_some, wbl_ok, wbl_ex, wbl_ite, e_lcM, e_rng1, e_rng2, e_enuM, en1_l, en1_t, e_zipM, zi1_l, dMnN_i, dMx_l, dMx_t, asg_nm, asg_tp, put, e_appM, isOwnL_l, e_apd, apo_l, notN_OI, isN_OI, dNe_n0, h2, ni]; rfl⟩
    · have h2 : ¬ n < p := fun z => h1 (.inl z)
      have h3 : inL g l = true := by
        cases e : inL g l with
        | true => rfl
        | false => exact absurd (.inr e) h1
      rw [h3] at ni
      have gg := get_G h3
      simp only [if_neg h1]
      by_cases h4 : p + l ≤ n
      · by_cases h5 : stone f (p + l) = 0
        · simp only [if_pos (And.intro h4 h5)]
          refine ⟨fun _ => ?_, fun p' t' h => by cases h⟩
          exact ⟨_, by simp [L1__law_toil, -List.map_map, th_ok, th_ex, th_ite, e_bind, e_ret, e_opt, ts_ok, ts_ex, ts_ite, e_bindS, sq_nx, sq_rt, sq_ex, sq_bk, sq_ct, sq_ite, e_seqS, fin_nx, fin_rt, fin_ex, fin_ite, e_fnOf, wb_ok, wb_ex, wb_ite, vA1_b, e_vAnd, vO1_b, e_vOr, vN1_b, e_vNot, ch1_b, e_chM, e_toB, e_mAnd, e_mOr, e_mNot, e_mIte, e_iteS, lp_nx, lp_ct, lp_bk, lp_rt, lp_ex, lp_ite, forL_nil, forL_nm, e_forS, okArgs, isOwn, outs, nam, frz, look, lookAll, ap1, ap2, apA, un1, bin2, opA, isiM, retS, drpS, setS, setN, putS, put, unpS, asg, mCons, mNil, e_mTup, mt1_ok, e_mLst, ml1_ok, callM, argsOf, argOf, ownIx, Sk.wb, List.getElem?_cons_zero, List.getElem?_cons_succ, List.getElem?_nil, List.set_cons_zero, List.set_cons_succ, List.replicate_succ, List.replicate_zero, List.cons_append, List.nil_append, List.foldl_cons, List.foldl_nil, List.getD_cons_zero, List.getD_cons_succ, List.all_cons, List.all_nil, isiD, tyN, dLt, dLe, dGt, dGe, dAdd_i, dEq_i, dNe_i, dSub, iOp, dLen_t, dLen_l, e_seqM, sq1_l, sq1_t, e_partM, pa1_i, sliM, isN_none, notN_none, isN_int, notN_int, isN_bool, notN_bool, isN_str, notN_str, isN_list, notN_list, isN_tup, notN_tup, isN_dict, notN_dict, raiseS, mDat, mNew, e_callAt, cal_some, wbl_ok, wbl_ex, wbl_ite, e_lcM, e_rng1, e_rng2, e_enuM, en1_l, en1_t, e_zipM, zi1_l, dMnN_i, dMx_l, dMx_t, asg_nm, asg_tp, put, e_appM, isOwnL_l, e_apd, apo_l, notN_OI, isN_OI, dNe_n0, h2, ni, gg, h4, rs, h5]; rfl⟩
        · simp only [if_neg (fun z : p + l ≤ n ∧ stone f (p + l) = 0 => h5 z.2)]
          obtain ⟨a, b⟩ := lt_loop n G V r (p + l) (t + toilAt g l) (.dat (.int l))
          have e : ∀ k : MS, (L1__law_toil [.dat (encI f), .dat G, .dat (.int n), .dat V, .dat (.dict (kvG g)), .dat (.int p), .dat (.int t), .dat (.int l)]).lp k = k [.dat (encI f), .dat G, .dat (.int n), .dat V, .dat (.dict (kvG g)), .dat (.int (p + l)), .dat (.int (t + toilAt g l)), .dat (.int l)] := fun k => by
            simp [L1__law_toil, -List.map_map, th_ok, th_ex, th_ite, e_bind, e_ret, e_opt, ts_ok, ts_ex, ts_ite, e_bindS, sq_nx, sq_rt, sq_ex, sq_bk, sq_ct, sq_ite, e_seqS, fin_nx, fin_rt, fin_ex, fin_ite, e_fnOf, wb_ok, wb_ex, wb_ite, vA1_b, e_vAnd, vO1_b, e_vOr, vN1_b, e_vNot, ch1_b, e_chM, e_toB, e_mAnd, e_mOr, e_mNot, e_mIte, e_iteS, lp_nx, lp_ct, lp_bk, lp_rt, lp_ex, lp_ite, forL_nil, forL_nm, e_forS, okArgs, isOwn, outs, nam, frz, look, lookAll, ap1, ap2, apA, un1, bin2, opA, isiM, retS, drpS, setS, setN, putS, put, unpS, asg, mCons, mNil, e_mTup, mt1_ok, e_mLst, ml1_ok, callM, argsOf, argOf, ownIx, Sk.wb, List.getElem?_cons_zero, List.getElem?_cons_succ, List.getElem?_nil, List.set_cons_zero, List.set_cons_succ, List.replicate_succ, List.replicate_zero, List.cons_append, List.nil_append, List.foldl_cons, List.foldl_nil, List.getD_cons_zero, List.getD_cons_succ, List.all_cons, List.all_nil, isiD, tyN, dLt, dLe, dGt, dGe, dAdd_i, dEq_i, dNe_i, dSub, iOp, dLen_t, dLen_l, e_seqM, sq1_l, sq1_t, e_partM, pa1_i, sliM, isN_none, notN_none, isN_int, notN_int, isN_bool, notN_bool, isN_str, notN_str, isN_list, notN_list, isN_tup, notN_tup, isN_dict, notN_dict, raiseS, mDat, mNew, e_callAt, cal_some, wbl_ok, wbl_ex, wbl_ite, e_lcM, e_rng1, e_rng2, e_enuM, en1_l, en1_t, e_zipM, zi1_l, dMnN_i, dMx_l, dMx_t, asg_nm, asg_tp, put, e_appM, isOwnL_l, e_apd, apo_l, notN_OI, isN_OI, dNe_n0, h2, ni, gg, h4, rs, h5]
          refine ⟨fun h => ?_, fun p' t' h => ?_⟩
          · obtain ⟨st', q⟩ := a h
            exact ⟨st', by rw [forL_nm]; exact (e _).trans q⟩
          · obtain ⟨x', q⟩ := b p' t' h
            exact ⟨x', by rw [forL_nm]; exact (e _).trans q⟩
      · simp only [if_neg (fun z : p + l ≤ n ∧ stone f (p + l) = 0 => h4 z.1)]
        obtain ⟨a, b⟩ := lt_loop n G V r (p + l) (t + toilAt g l) (.dat (.int l))
        have e : ∀ k : MS, (L1__law_toil [.dat (encI f), .dat G, .dat (.int n), .dat V, .dat (.dict (kvG g)), .dat (.int p), .dat (.int t), .dat (.int l)]).lp k = k [.dat (encI f), .dat G, .dat (.int n), .dat V, .dat (.dict (kvG g)), .dat (.int (p + l)), .dat (.int (t + toilAt g l)), .dat (.int l)] := fun k => by
          simp [L1__law_toil, -List.map_map, th_ok, th_ex, th_ite, e_bind, e_ret, e_opt, ts_ok, ts_ex, ts_ite, e_bindS, sq_nx, sq_rt, sq_ex, sq_bk, sq_ct, sq_ite, e_seqS, fin_nx, fin_rt, fin_ex, fin_ite, e_fnOf, wb_ok, wb_ex, wb_ite, vA1_b, e_vAnd, vO1_b, e_vOr, vN1_b, e_vNot, ch1_b, e_chM, e_toB, e_mAnd, e_mOr, e_mNot, e_mIte, e_iteS, lp_nx, lp_ct, lp_bk, lp_rt, lp_ex, lp_ite, forL_nil, forL_nm, e_forS, okArgs, isOwn, outs, nam, frz, look, lookAll, ap1, ap2, apA, un1, bin2, opA, isiM, retS, drpS, setS, setN, putS, put, unpS, asg, mCons, mNil, e_mTup, mt1_ok, e_mLst, ml1_ok, callM, argsOf, argOf, ownIx, Sk.wb, List.getElem?_cons_zero, List.getElem?_cons_succ, List.getElem?_nil, List.set_cons_zero, List.set_cons_succ, List.replicate_succ, List.replicate_zero, List.cons_append, List.nil_append, List.foldl_cons, List.foldl_nil, List.getD_cons_zero, List.getD_cons_succ, List.all_cons, List.all_nil, isiD, tyN, dLt, dLe, dGt, dGe, dAdd_i, dEq_i, dNe_i, dSub, iOp, dLen_t, dLen_l, e_seqM, sq1_l, sq1_t, e_partM, pa1_i, sliM, isN_none, notN_none, isN_int, notN_int, isN_bool, notN_bool, isN_str, notN_str, isN_list, notN_list, isN_tup, notN_tup, isN_dict, notN_dict, raiseS, mDat, mNew, e_callAt, cal_some, wbl_ok, wbl_ex, wbl_ite, e_lcM, e_rng1, e_rng2, e_enuM, en1_l, en1_t, e_zipM, zi1_l, dMnN_i, dMx_l, dMx_t, asg_nm, asg_tp, put, e_appM, isOwnL_l, e_apd, apo_l, notN_OI, isN_OI, dNe_n0, h2, ni, gg, h4]
        refine ⟨fun h => ?_, fun p' t' h => ?_⟩
        · obtain ⟨st', q⟩ := a h
          exact ⟨st', by rw [forL_nm]; exact (e _).trans q⟩
        · obtain ⟨x', q⟩ := b p' t' h
          exact ⟨x', by rw [forL_nm]; exact (e _).trans q⟩
theorem r_ltoil (n : Int) (w : List Int) (hg : isGait (encG g) = true) (hc : g.length ≤ cap) : m__law_toil [.dat (encI f), .dat (encG g), .dat (.int n), .dat (encI w)] = .ok (encOI (toilW f g n w)) [.dat (encI f), .dat (encG g), .dat (.int n), .dat (encI w)] := by
  obtain ⟨a, b⟩ := lt_loop (g := g) hf n (encG g) (encI w) w 0 0 .un
  have dg := dict_G hg hc
  have sw : sq1 (encI w) = M.ret (w.map .int) := rfl
  unfold toilW
  cases h : toilGo f g n w 0 0 with
  | none =>
    obtain ⟨st', q⟩ := a h
    simp [m__law_toil, b__law_toil, -List.map_map, th_ok, th_ex, th_ite, e_bind, e_ret, e_opt, ts_ok, ts_ex, ts_ite, e_bindS, sq_nx, sq_rt, sq_ex, sq_bk, sq_ct, sq_ite, e_seqS, fin_nx, fin_rt, fin_ex, fin_ite, e_fnOf, wb_ok, wb_ex, wb_ite, vA1_b, e_vAnd, vO1_b, e_vOr, vN1_b, e_vNot, ch1_b, e_chM, e_toB, e_mAnd, e_mOr, e_mNot, e_mIte, e_iteS, lp_nx, lp_ct, lp_bk, lp_rt, lp_ex, lp_ite, forL_nil, forL_nm, e_forS, okArgs, isOwn, outs, nam, frz, look, lookAll, ap1, ap2, apA, un1, bin2, opA, isiM, retS, drpS, setS, setN, putS, put, unpS, asg, mCons, mNil, e_mTup, mt1_ok, e_mLst, ml1_ok, callM, argsOf, argOf, ownIx, Sk.wb, List.getElem?_cons_zero, List.getElem?_cons_succ, List.getElem?_nil, List.set_cons_zero, List.set_cons_succ, List.replicate_succ, List.replicate_zero, List.cons_append, List.nil_append, List.foldl_cons, List.foldl_nil, List.getD_cons_zero, List.getD_cons_succ, List.all_cons, List.all_nil, isiD, tyN, dLt, dLe, dGt, dGe, dAdd_i, dEq_i, dNe_i, dSub, iOp, dLen_t, dLen_l, e_seqM, sq1_l, sq1_t, e_partM, pa1_i, sliM, isN_none, notN_none, isN_int, notN_int, isN_bool, notN_bool, isN_str, notN_str, isN_list, notN_list, isN_tup, notN_tup, isN_dict, notN_dict, raiseS, mDat, mNew, e_callAt, cal_some, wbl_ok, wbl_ex, wbl_ite, e_lcM, e_rng1, e_rng2, e_enuM, en1_l, en1_t, e_zipM, zi1_l, dMnN_i, dMx_l, dMx_t, asg_nm, asg_tp, put, e_appM, isOwnL_l, e_apd, apo_l, notN_OI, isN_OI, dNe_n0, dg, sw, q, encOI]
  | some pt =>
    obtain ⟨p, t⟩ := pt
    obtain ⟨x', q⟩ := b p t h
    by_cases c : n < p
    · simp [m__law_toil, b__law_toil, -List.map_map, th_ok, th_ex, th_ite, e_bind, e_ret, e_opt, ts_ok, ts_ex, ts_ite, e_bindS, sq_nx, sq_rt, sq_ex, sq_bk, sq_ct, sq_ite, e_seqS, fin_nx, fin_rt, fin_ex, fin_ite, e_fnOf, wb_ok, wb_ex, wb_ite, vA1_b, e_vAnd, vO1_b, e_vOr, vN1_b, e_vNot, ch1_b, e_chM, e_toB, e_mAnd, e_mOr, e_mNot, e_mIte, e_iteS, lp_nx, lp_ct, lp_bk, lp_rt, lp_ex, lp_ite, forL_nil, forL_nm, e_forS, okArgs, isOwn, outs, nam, frz, look, lookAll, ap1, ap2, apA, un1, bin2, opA, isiM, retS, drpS, setS, setN, putS, put, unpS, asg, mCons, mNil, e_mTup, mt1_ok, e_mLst, ml1_ok, callM, argsOf, argOf, ownIx, Sk.wb, List.getElem?_cons_zero, List.getElem?_cons_succ, List.getElem?_nil, List.set_cons_zero, List.set_cons_succ, List.replicate_succ, List.replicate_zero, List.cons_append, List.nil_append, List.foldl_cons, List.foldl_nil, List.getD_cons_zero, List.getD_cons_succ, List.all_cons, List.all_nil, isiD, tyN, dLt, dLe, dGt, dGe, dAdd_i, dEq_i, dNe_i, dSub, iOp, dLen_t, dLen_l, e_seqM, sq1_l, sq1_t, e_partM, pa1_i, sliM, isN_none, notN_none, isN_int, notN_int, isN_bool, notN_bool, isN_str, notN_str, isN_list, notN_list, isN_tup, notN_tup, isN_dict, notN_dict, raiseS, mDat, mNew, e_callAt, cal_some, wbl_ok, wbl_ex, wbl_ite, e_lcM, e_rng1, e_rng2, e_enuM, en1_l, en1_t, e_zipM, zi1_l, dMnN_i, dMx_l, dMx_t, asg_nm, asg_tp, put, e_appM, isOwnL_l, e_apd, apo_l, notN_OI, isN_OI, dNe_n0, dg, sw, q, encOI, c]
    · simp [m__law_toil, b__law_toil, -List.map_map, th_ok, th_ex, th_ite, e_bind, e_ret, e_opt, ts_ok, ts_ex, ts_ite, e_bindS, sq_nx, sq_rt, sq_ex, sq_bk, sq_ct, sq_ite, e_seqS, fin_nx, fin_rt, fin_ex, fin_ite, e_fnOf, wb_ok, wb_ex, wb_ite, vA1_b, e_vAnd, vO1_b, e_vOr, vN1_b, e_vNot, ch1_b, e_chM, e_toB, e_mAnd, e_mOr, e_mNot, e_mIte, e_iteS, lp_nx, lp_ct, lp_bk, lp_rt, lp_ex, lp_ite, forL_nil, forL_nm, e_forS, okArgs, isOwn, outs, nam, frz, look, lookAll, ap1, ap2, apA, un1, bin2, opA, isiM, retS, drpS, setS, setN, putS, put, unpS, asg, mCons, mNil, e_mTup, mt1_ok, e_mLst, ml1_ok, callM, argsOf, argOf, ownIx, Sk.wb, List.getElem?_cons_zero, List.getElem?_cons_succ, List.getElem?_nil, List.set_cons_zero, List.set_cons_succ, List.replicate_succ, List.replicate_zero, List.cons_append, List.nil_append, List.foldl_cons, List.foldl_nil, List.getD_cons_zero, List.getD_cons_succ, List.all_cons, List.all_nil, isiD, tyN, dLt, dLe, dGt, dGe, dAdd_i, dEq_i, dNe_i, dSub, iOp, dLen_t, dLen_l, e_seqM, sq1_l, sq1_t, e_partM, pa1_i, sliM, isN_none, notN_none, isN_int, notN_int, isN_bool, notN_bool, isN_str, notN_str, isN_list, notN_list, isN_tup, notN_tup, isN_dict, notN_dict, raiseS, mDat, mNew, e_callAt, cal_some, wbl_ok, wbl_ex, wbl_ite, e_lcM, e_rng1, e_rng2, e_enuM, en1_l, en1_t, e_zipM, zi1_l, dMnN_i, dMx_l, dMx_t, asg_nm, asg_tp, put, e_appM, isOwnL_l, e_apd, apo_l, notN_OI, isN_OI, dNe_n0, dg, sw, q, encOI, c]
end
end Zk03
set_option maxHeartbeats 1000000
namespace Zk03
open PySem PySem.Spec PyProof.Rows L2 Sk LamX
/-! a cheapest walk: the best end -/
abbrev B3 := Option (Int × Int × Int)
def encB : B3 → D
  | none => .none
  | some (c, p, l) => .tuple [.int c, .int p, .int l]
def better (c : Int) : B3 → Bool
  | none => true
  | some (c', _, _) => decide (c < c')
def stepB (n p : Int) (so : Option Int) (b : B3) (q : Int × Int) : B3 := if so.isSome && (decide (n < p + q.1) && better (so.getD 0 + q.2) b) then some (so.getD 0 + q.2, p, q.1) else b
def rowB (g : List (Int × Int)) (n p : Int) (so : Option Int) (b : B3) : B3 := g.foldl (stepB n p so) b
def bestB (g : List (Int × Int)) (n : Int) : Int → List (Option Int) → B3 → B3
  | _, [], b => b
  | p, so :: r, b => bestB g n (p + 1) r (rowB g n p so b)
theorem isN_B (b : B3) : dIsN (encB b) .none = some (.bool b.isNone) := by cases b <;> rfl
section
variable {f : List Int} {g : List (Int × Int)}
theorem cb1 (F G N T : D) (n p : Int) (so : Option Int) (W : Sl) : ∀ (r : List (Int × Int)) (b : B3) (x y : Sl), ∃ x' y' : Sl,
    forL (.tp [7, 8]) L1_cheapest [] (r.map encP) [.dat F, .dat G, .dat (.int n), .dat T, .dat (encB b), .dat (.int p), .dat (encOI so), x, y, W] = .nx [.dat F, .dat G, .dat (.int n), .dat T, .dat (encB (r.foldl (stepB n p so) b)), .dat (.int p), .dat (encOI so), x', y', W]
  | [], b, x, y => ⟨x, y, rfl⟩
  | q :: r, b, x, y => by
    obtain ⟨x', y', e⟩ := cb1 F G N T n p so W r (stepB n p so b q) (.dat (.int q.1)) (.dat (.int q.2))
    refine ⟨x', y', ?_⟩
    rw [List.map_cons, forL_tp (by rfl), List.foldl_cons, ← e]
    have st : L1_cheapest [.dat F, .dat G, .dat (.int n), .dat T, .dat (encB b), .dat (.int p), .dat (encOI so), .dat (.int q.1), .dat (.int q.2), W] = .nx [.dat F, .dat G, .dat (.int n), .dat T, .dat (encB (stepB n p so b q)), .dat (.int p), .dat (encOI so), .dat (.int q.1), .dat (.int q.2), W] := by
      have ib := isN_B b
      cases c1 : so.isSome with
      | false => simp [L1_cheapest, -List.map_map, th_ok, th_ex, th_ite, e_bind, e_ret, e_opt, ts_ok, ts_ex, ts_ite, e_bindS, sq_nx, sq_rt, sq_ex, sq_bk, sq_ct, sq_ite, e_seqS, fin_nx, fin_rt, fin_ex, fin_ite, e_fnOf, wb_ok, wb_ex, wb_ite, vA1_b, e_vAnd, vO1_b, e_vOr, vN1_b, e_vNot, ch1_b, e_chM, e_toB, e_mAnd, e_mOr, e_mNot, e_mIte, e_iteS, lp_nx, lp_ct, lp_bk, lp_rt, lp_ex, lp_ite, forL_nil, forL_nm, e_forS, okArgs, isOwn, outs, nam, frz, look, lookAll, ap1, ap2, apA, un1, bin2, opA, isiM, retS, drpS, setS, setN, putS, put, unpS, asg, mCons, mNil, e_mTup, mt1_ok, e_mLst, ml1_ok, callM, argsOf, argOf, ownIx, Sk.wb, List.getElem?_cons_zero, List.getElem?_cons_succ, List.getElem?_nil, List.set_cons_zero, List.set_cons_succ, List.replicate_succ, List.replicate_zero, List.cons_append, List.nil_append, List.foldl_cons, List.foldl_nil, List.getD_cons_zero, List.getD_cons_succ, List.all_cons, List.all_nil, isiD, tyN, dLt, dLe, dGt, dGe, dAdd_i, dEq_i, dNe_i, dSub, iOp, dLen_t, dLen_l, e_seqM, sq1_l, sq1_t, e_partM, pa1_i, sliM, isN_none, notN_none, isN_int, notN_int, isN_bool, notN_bool, isN_str, notN_str, isN_list, notN_list, isN_tup, notN_tup, isN_dict, notN_dict, raiseS, mDat, mNew, e_callAt, cal_some, wbl_ok, wbl_ex, wbl_ite, e_lcM, e_rng1, e_rng2, e_enuM, en1_l, en1_t, e_zipM, zi1_l, dMnN_i, dMx_l, dMx_t, asg_nm, asg_tp, put, e_appM, isOwnL_l, e_apd, apo_l, notN_OI, isN_OI, dNe_n0, c1, stepB]
      | true =>
        have ad := add_OI (i := q.2) c1
        by_cases c2 : n < p + q.1
        · cases b with
          | none => simp [L1_cheapest, -List.map_map, th_ok, th_ex, th_ite, e_bind, e_ret, e_opt, ts_ok, ts_ex, ts_ite, e_bindS, sq_nx, sq_rt, sq_ex, sq_bk, sq_ct, sq_ite, e_seqS, fin_nx, fin_rt, fin_ex, fin_ite, e_fnOf, wb_ok, wb_ex, wb_ite, vA1_b, e_vAnd, vO1_b, e_vOr, vN1_b, e_vNot, ch1_b, e_chM, e_toB, e_mAnd, e_mOr, e_mNot, e_mIte, e_iteS, lp_nx, lp_ct, lp_bk, lp_rt, lp_ex, lp_ite, forL_nil, forL_nm, e_forS, okArgs, isOwn, outs, nam, frz, look, lookAll, ap1, ap2, apA, un1, bin2, opA, isiM, retS, drpS, setS, setN, putS, put, unpS, asg, mCons, mNil, e_mTup, mt1_ok, e_mLst, ml1_ok, callM, argsOf, argOf, ownIx, Sk.wb, List.getElem?_cons_zero, List.getElem?_cons_succ, List.getElem?_nil, List.set_cons_zero, List.set_cons_succ, List.replicate_succ, List.replicate_zero, List.cons_append, List.nil_append, List.foldl_cons, List.foldl_nil, List.getD_cons_zero, List.getD_cons_succ, List.all_cons, List.all_nil, isiD, tyN, dLt, dLe, dGt, dGe, dAdd_i, dEq_i, dNe_i, dSub, iOp, dLen_t, dLen_l, e_seqM, sq1_l, sq1_t, e_partM, pa1_i, sliM, isN_none, notN_none, isN_int, notN_int, isN_bool, notN_bool, isN_str, notN_str, isN_list, notN_list, isN_tup, notN_tup, isN_dict, notN_dict, raiseS, mDat, mNew, e_callAt, cal_some, wbl_ok, wbl_ex, wbl_ite, e_lcM, e_rng1, e_rng2, e_enuM, en1_l, en1_t, e_zipM, zi1_l, dMnN_i, dMx_l, dMx_t, asg_nm, asg_tp, put, e_appM, isOwnL_l, e_apd, apo_l, notN_OI, isN_OI, dNe_n0, c1, c2, ad, stepB, better, encB]
          | some b =>
            obtain ⟨c, bp, bl⟩ := b
            have ix : dIx (encB (some (c, bp, bl))) (.int 0) = some (.int c) := rfl
            have ib : dIsN (encB (some (c, bp, bl))) .none = some (.bool false) := rfl
            by_cases c3 : so.getD 0 + q.2 < c
            · simp [L1_cheapest, -List.map_map, th_ok, th_ex, th_ite, e_bind, e_ret, e_opt, ts_ok, ts_ex, ts_ite, e_bindS, sq_nx, sq_rt, sq_ex, sq_bk, sq_ct, sq_ite, e_seqS, fin_nx, fin_rt, fin_ex, fin_ite, e_fnOf, wb_ok, wb_ex, wb_ite, vA1_b, e_vAnd, vO1_b, e_vOr, vN1_b, e_vNot, ch1_b, e_chM, e_toB, e_mAnd, e_mOr, e_mNot, e_mIte, e_iteS, lp_nx, lp_ct, lp_bk, lp_rt, lp_ex, lp_ite, forL_nil, forL_nm, e_forS, okArgs, isOwn, outs, nam, frz, look, lookAll, ap1, ap2, apA, un1, bin2, opA, isiM, retS, drpS, setS, setN, putS, put, unpS, asg, mCons, mNil, e_mTup, mt1_ok, e_mLst, ml1_ok, callM, argsOf, argOf, ownIx, Sk.wb, List.getElem?_cons_zero, List.getElem?_cons_succ, List.getElem?_nil, List.set_cons_zero, List.set_cons_succ, List.replicate_succ, List.replicate_zero, List.cons_append, List.nil_append, List.foldl_cons, List.foldl_nil, List.getD_cons_zero, List.getD_cons_succ, List.all_cons, List.all_nil, isiD, tyN, dLt, dLe, dGt, dGe, dAdd_i, dEq_i, dNe_i, dSub, iOp, dLen_t, dLen_l, e_seqM, sq1_l, sq1_t, e_partM, pa1_i, sliM, isN_none, notN_none, isN_int, notN_int, isN_bool, notN_bool, isN_str, notN_str, isN_list, notN_list, isN_tup, notN_tup, isN_dict, notN_dict, raiseS, mDat, mNew, e_callAt, cal_some, wbl_ok, wbl_ex, wbl_ite, e_lcM, e_rng1, e_rng2, e_enuM, en1_l, en1_t, e_zipM, zi1_l, dMnN_i, dMx_l, dMx_t, asg_nm, asg_tp, put, e_appM, isOwnL_l, e_apd, apo_l, notN_OI, isN_OI, dNe_n0, c1, c2, ad, ib, ix, c3, stepB, better]
              rfl
            · simp [L1_cheapest, -List.map_map, th_ok, th_ex, th_ite, e_bind, e_ret, e_opt, ts_ok, ts_ex, ts_ite, e_bindS, sq_nx, sq_rt, sq_ex, sq_bk, sq_ct, sq_ite, e_seqS, fin_nx, fin_rt, fin_ex, fin_ite, e_fnOf, wb_ok, wb_ex, wb_ite, vA1_b, e_vAnd, vO1_b, e_vOr, vN1_b, e_vNot, ch1_b, e_chM, e_toB, e_mAnd, e_mOr, e_mNot, e_mIte, e_iteS, lp_nx, lp_ct, lp_bk, lp_rt, lp_ex, lp_ite, forL_nil, forL_nm, e_forS, okArgs, isOwn, outs, nam, frz, look, lookAll, ap1, ap2, apA, un1, bin2, opA, isiM, retS, drpS, setS, setN, putS, put, unpS, asg, mCons, mNil, e_mTup, mt1_ok, e_mLst, ml1_ok, callM, argsOf, argOf, ownIx, Sk.wb, List.getElem?_cons_zero, List.getElem?_cons_succ, List.getElem?_nil, List.set_cons_zero, List.set_cons_succ, List.replicate_succ, List.replicate_zero, List.cons_append, List.nil_append, List.foldl_cons, List.foldl_nil, List.getD_cons_zero, List.getD_cons_succ, List.all_cons, List.all_nil, isiD, tyN, dLt, dLe, dGt, dGe, dAdd_i, dEq_i, dNe_i, dSub, iOp, dLen_t, dLen_l, e_seqM, sq1_l, sq1_t, e_partM, pa1_i, sliM, isN_none, notN_none, isN_int, notN_int, isN_bool, notN_bool, isN_str, notN_str, isN_list, notN_list, isN_tup, notN_tup, isN_dict, notN_dict, raiseS, mDat, mNew, e_callAt, cal_some, wbl_ok, wbl_ex, wbl_ite, e_lcM, e_rng1, e_rng2, e_enuM, en1_l, en1_t, e_zipM, zi1_l, dMnN_i, dMx_l, dMx_t, asg_nm, asg_tp, put, e_appM, isOwnL_l, e_apd, apo_l, notN_OI, isN_OI, dNe_n0, c1, c2, ad, ib, ix, c3, stepB, better]
        · simp [L1_cheapest, -List.map_map, th_ok, th_ex, th_ite, e_bind, e_ret, e_opt, ts_ok, ts_ex, ts_ite, e_bindS, sq_nx, sq_rt, sq_ex, sq_bk, sq_ct, sq_ite, e_seqS, fin_nx, fin_rt, fin_ex, fin_ite, e_fnOf, wb_ok, wb_ex, wb_ite, vA1_b, e_vAnd, vO1_b, e_vOr, vN1_b, e_vNot, ch1_b, e_chM, e_toB, e_mAnd, e_mOr, e_mNot, e_mIte, e_iteS, lp_nx, lp_ct, lp_bk, lp_rt, lp_ex, lp_ite, forL_nil, forL_nm, e_forS, okArgs, isOwn, outs, nam, frz, look, lookAll, ap1, ap2, apA, un1, bin2, opA, isiM, retS, drpS, setS, setN, putS, put, unpS, asg, mCons, mNil, e_mTup, mt1_ok, e_mLst, ml1_ok, callM, argsOf, argOf, ownIx, Sk.wb, List.getElem?_cons_zero, List.getElem?_cons_succ, List.getElem?_nil, List.set_cons_zero, List.set_cons_succ, List.replicate_succ, List.replicate_zero, List.cons_append, List.nil_append, List.foldl_cons, List.foldl_nil, List.getD_cons_zero, List.getD_cons_succ, List.all_cons, List.all_nil, isiD, tyN, dLt, dLe, dGt, dGe, dAdd_i, dEq_i, dNe_i, dSub, iOp, dLen_t, dLen_l, e_seqM, sq1_l, sq1_t, e_partM, pa1_i, sliM, isN_none, notN_none, isN_int, notN_int, isN_bool, notN_bool, isN_str, notN_str, isN_list, notN_list, isN_tup, notN_tup, isN_dict, notN_dict, raiseS, mDat, mNew, e_callAt, cal_some, wbl_ok, wbl_ex, wbl_ite, e_lcM, e_rng1, e_rng2, e_enuM, en1_l, en1_t, e_zipM, zi1_l, dMnN_i, dMx_l, dMx_t, asg_nm, asg_tp, put, e_appM, isOwnL_l, e_apd, apo_l, notN_OI, isN_OI, dNe_n0, c1, c2, stepB]
    show (L1_cheapest [.dat F, .dat G, .dat (.int n), .dat T, .dat (encB b), .dat (.int p), .dat (encOI so), .dat (.int q.1), .dat (.int q.2), W]).lp _ = _
    rw [st, lp_nx]
theorem cb2 (F N T : D) (n : Int) (W : Sl) : ∀ (fs : List (Option Int)) (k : Nat) (b : B3) (x5 x6 x7 x8 : Sl), ∃ y5 y6 y7 y8 : Sl,
    forL (.tp [5, 6]) L2_cheapest [] (enuD k (fs.map encOI)) [.dat F, .dat (encG g), .dat (.int n), .dat T, .dat (encB b), x5, x6, x7, x8, W] = .nx [.dat F, .dat (encG g), .dat (.int n), .dat T, .dat (encB (bestB g n (k : Int) fs b)), y5, y6, y7, y8, W]
  | [], k, b, x5, x6, x7, x8 => ⟨x5, x6, x7, x8, rfl⟩
  | so :: fs, k, b, x5, x6, x7, x8 => by
    obtain ⟨x', y', e1⟩ := cb1 F (encG g) N T n (k : Int) so W g b x7 x8
    obtain ⟨y5, y6, y7, y8, e2⟩ := cb2 F N T n W fs (k + 1) (rowB g n (k : Int) so b) (.dat (.int (k : Int))) (.dat (encOI so)) x' y'
    refine ⟨y5, y6, y7, y8, ?_⟩
    have sg : sq1 (encG g) = M.ret (g.map encP) := rfl
    rw [List.map_cons]
    unfold enuD
    rw [forL_tp (by rfl)]
    have st : L2_cheapest [.dat F, .dat (encG g), .dat (.int n), .dat T, .dat (encB b), .dat (.int (k : Int)), .dat (encOI so), x7, x8, W] = .nx [.dat F, .dat (encG g), .dat (.int n), .dat T, .dat (encB (rowB g n (k : Int) so b)), .dat (.int (k : Int)), .dat (encOI so), x', y', W] := by
      unfold rowB
      simp [L2_cheapest, -List.map_map, th_ok, th_ex, th_ite, e_bind, e_ret, e_opt, ts_ok, ts_ex, ts_ite, e_bindS, sq_nx, sq_rt, sq_ex, sq_bk, sq_ct, sq_ite, e_seqS, fin_nx, fin_rt, fin_ex, fin_ite, e_fnOf, wb_ok, wb_ex, wb_ite, vA1_b, e_vAnd, vO1_b, e_vOr, vN1_b, e_vNot, ch1_b, e_chM, e_toB, e_mAnd, e_mOr, e_mNot, e_mIte, e_iteS, lp_nx, lp_ct, lp_bk, lp_rt, lp_ex, lp_ite, forL_nil, forL_nm, e_forS, okArgs, isOwn, outs, nam, frz, look, lookAll, ap1, ap2, apA, un1, bin2, opA, isiM, retS, drpS, setS, setN, putS, put, unpS, asg, mCons, mNil, e_mTup, mt1_ok, e_mLst, ml1_ok, callM, argsOf, argOf, ownIx, Sk.wb, List.getElem?_cons_zero, List.getElem?_cons_succ, List.getElem?_nil, List.set_cons_zero, List.set_cons_succ, List.replicate_succ, List.replicate_zero, List.cons_append, List.nil_append, List.foldl_cons, List.foldl_nil, List.getD_cons_zero, List.getD_cons_succ, List.all_cons, List.all_nil, isiD, tyN, dLt, dLe, dGt, dGe, dAdd_i, dEq_i, dNe_i, dSub, iOp, dLen_t, dLen_l, e_seqM, sq1_l, sq1_t, e_partM, pa1_i, sliM, isN_none, notN_none, isN_int, notN_int, isN_bool, notN_bool, isN_str, notN_str, isN_list, notN_list, isN_tup, notN_tup, isN_dict, notN_dict, raiseS, mDat, mNew, e_callAt, cal_some, wbl_ok, wbl_ex, wbl_ite, e_lcM, e_rng1, e_rng2, e_enuM, en1_l, en1_t, e_zipM, zi1_l, dMnN_i, dMx_l, dMx_t, asg_nm, asg_tp, put, e_appM, isOwnL_l, e_apd, apo_l, notN_OI, isN_OI, dNe_n0, sg, e1]
    show (L2_cheapest [.dat F, .dat (encG g), .dat (.int n), .dat T, .dat (encB b), .dat (.int (k : Int)), .dat (encOI so), x7, x8, W]).lp _ = _
    rw [st, lp_nx]
    have ek : ((k + 1 : Nat) : Int) = (k : Int) + 1 := rfl
    rw [ek] at e2
    exact e2
/-! the way back -/
def fits (fs : List (Option Int)) (p : Int) (q : Int × Int) : Bool := decide (q.1 ≤ p) && ((atT fs (p - q.1)).isSome && decide ((atT fs (p - q.1)).getD 0 + q.2 = (atT fs p).getD 0))
def backQ (fs : List (Option Int)) (g : List (Int × Int)) (p : Int) : Option (Int × Int) := g.find? (fits fs p)
def backW (fs : List (Option Int)) (g : List (Int × Int)) : Nat → Int → List Int → Option (List Int)
  | 0, _, _ => none
  | k + 1, p, w => if 0 < p then match backQ fs g p with
      | some q => backW fs g k (p - q.1) (q.1 :: w)
      | none => none
    else some w
def cheapestL (f : List Int) (g : List (Int × Int)) (n : Nat) : Option (List Int) := match bestB g (n : Int) 0 (toils f g n) none with
  | none => none
  | some (_, p, l) => backW (toils f g n) g (p.toNat + 1) p [l]
theorem cb3 (F N B : D) (fs : List (Option Int)) (n p : Int) (w : List Int) (so : Sl) (hp : 0 ≤ p) (hl : p < fs.length) (hs : (atT fs p).isSome = true) (hw : w.length < 900) : ∀ (r : List (Int × Int)) (x y : Sl), (∀ q ∈ r, 0 < q.1) →
    match r.find? (fits fs p) with
    | none => ∃ x' y' : Sl, forL (.tp [7, 8]) L3_cheapest [] (r.map encP) [.dat F, .dat (encG g), .dat (.int n), .dat (encT fs), .dat B, .dat (.int p), so, x, y, .dat (encI w)] = .nx [.dat F, .dat (encG g), .dat (.int n), .dat (encT fs), .dat B, .dat (.int p), so, x', y', .dat (encI w)]
    | some q => ∃ x' y' : Sl, forL (.tp [7, 8]) L3_cheapest [] (r.map encP) [.dat F, .dat (encG g), .dat (.int n), .dat (encT fs), .dat B, .dat (.int p), so, x, y, .dat (encI w)] = .nx [.dat F, .dat (encG g), .dat (.int n), .dat (encT fs), .dat B, .dat (.int (p - q.1)), so, x', y', .dat (encI (q.1 :: w))]
  | [], x, y, hr => ⟨x, y, rfl⟩
  | q :: r, x, y, hr => by
    have ih := cb3 F N B fs n p w so hp hl hs hw r (.dat (.int q.1)) (.dat (.int q.2)) fun z hz => hr z (List.mem_cons_of_mem _ hz)
    have q0 := hr q (List.mem_cons_self ..)
    have ixp := atT_ix (fs := fs) hp hl
    obtain ⟨v, ev⟩ := Option.isSome_iff_exists.mp hs
    have e0 : ∀ k : MS, ∀ o : SOut, (L3_cheapest [.dat F, .dat (encG g), .dat (.int n), .dat (encT fs), .dat B, .dat (.int p), so, .dat (.int q.1), .dat (.int q.2), .dat (encI w)]).lp k = o → True := fun _ _ _ => trivial
    cases hq : fits fs p q with
    | true =>
      rw [List.find?_cons_of_pos hq]
      unfold fits at hq
      simp only [Bool.and_eq_true, decide_eq_true_eq] at hq
      obtain ⟨c1, c2, c3⟩ := hq
      have ix := atT_ix (fs := fs) (p := p - q.1) (by omega) (by omega)
      have ad := add_OI (i := q.2) c2
      rw [ev] at c3 ixp
      have ixp : dIx (encT fs) (.int p) = some (.int v) := ixp
      have ed : dAdd (.tuple [.int q.1]) (encI w) = some (encI (q.1 :: w)) := by
        unfold encI dAdd
        simp only
        rw [e_chk (by simp; unfold cap; omega)]
        rfl
      refine ⟨.dat (.int q.1), .dat (.int q.2), ?_⟩
      rw [List.map_cons, forL_tp (by rfl)]
      show (L3_cheapest [.dat F, .dat (encG g), .dat (.int n), .dat (encT fs), .dat B, .dat (.int p), so, .dat (.int q.1), .dat (.int q.2), .dat (encI w)]).lp _ = _
      simp only [Option.getD_some] at c3
      simp [L3_cheapest, -List.map_map, th_ok, th_ex, th_ite, e_bind, e_ret, e_opt, ts_ok, ts_ex, ts_ite, e_bindS, sq_nx, sq_rt, sq_ex, sq_bk, sq_ct, sq_ite, e_seqS, fin_nx, fin_rt, fin_ex, fin_ite, e_fnOf, wb_ok, wb_ex, wb_ite, vA1_b, e_vAnd, vO1_b, e_vOr, vN1_b, e_vNot, ch1_b, e_chM, e_toB, e_mAnd, e_mOr, e_mNot, e_mIte, e_iteS, lp_nx, lp_ct, lp_bk, lp_rt, lp_ex, lp_ite, forL_nil, forL_nm, e_forS, okArgs, isOwn, outs, nam, frz, look, lookAll, ap1, ap2, apA, un1, bin2, opA, isiM, retS, drpS, setS, setN, putS, put, unpS, asg, mCons, mNil, e_mTup, mt1_ok, e_mLst, ml1_ok, callM, argsOf, argOf, ownIx, Sk.wb, List.getElem?_cons_zero, List.getElem?_cons_succ, List.getElem?_nil, List.set_cons_zero, List.set_cons_succ, List.replicate_succ, List.replicate_zero, List.cons_append, List.nil_append, List.foldl_cons, List.foldl_nil, List.getD_cons_zero, List.getD_cons_succ, List.all_cons, List.all_nil, isiD, tyN, dLt, dLe, dGt, dGe, dAdd_i, dEq_i, dNe_i, dSub, iOp, dLen_t, dLen_l, e_seqM, sq1_l, sq1_t, e_partM, pa1_i, sliM, isN_none, notN_none, isN_int, notN_int, isN_bool, notN_bool, isN_str, notN_str, isN_list, notN_list, isN_tup, notN_tup, isN_dict, notN_dict, raiseS, mDat, mNew, e_callAt, cal_some, wbl_ok, wbl_ex, wbl_ite, e_lcM, e_rng1, e_rng2, e_enuM, en1_l, en1_t, e_zipM, zi1_l, dMnN_i, dMx_l, dMx_t, asg_nm, asg_tp, put, e_appM, isOwnL_l, e_apd, apo_l, notN_OI, isN_OI, dNe_n0, c1, ix, c2, ad, ixp, c3, ed]
    | false =>
      rw [List.find?_cons_of_neg (by simp [hq])]
      have st : L3_cheapest [.dat F, .dat (encG g), .dat (.int n), .dat (encT fs), .dat B, .dat (.int p), so, .dat (.int q.1), .dat (.int q.2), .dat (encI w)] = .nx [.dat F, .dat (encG g), .dat (.int n), .dat (encT fs), .dat B, .dat (.int p), so, .dat (.int q.1), .dat (.int q.2), .dat (encI w)] := by
        unfold fits at hq
        by_cases c1 : q.1 ≤ p
        · have ix := atT_ix (fs := fs) (p := p - q.1) (by omega) (by omega)
          cases c2 : (atT fs (p - q.1)).isSome with
          | false => simp [L3_cheapest, -List.map_map, th_ok, th_ex, th_ite, e_bind, e_ret, e_opt, ts_ok, ts_ex, ts_ite, e_bindS, sq_nx, sq_rt, sq_ex, sq_bk, sq_ct, sq_ite, e_seqS, fin_nx, fin_rt, fin_ex, fin_ite, e_fnOf, wb_ok, wb_ex, wb_ite, vA1_b, e_vAnd, vO1_b, e_vOr, vN1_b, e_vNot, ch1_b, e_chM, e_toB, e_mAnd, e_mOr, e_mNot, e_mIte, e_iteS, lp_nx, lp_ct, lp_bk, lp_rt, lp_ex, lp_ite, forL_nil, forL_nm, e_forS, okArgs, isOwn, outs, nam, frz, look, lookAll, ap1, ap2, apA, un1, bin2, opA, isiM, retS, drpS, setS, setN, putS, put, unpS, asg, mCons, mNil, e_mTup, mt1_ok, e_mLst, ml1_ok, callM, argsOf, argOf, ownIx, Sk.wb, List.getElem?_cons_zero, List.getElem?_cons_succ, List.getElem?_nil, List.set_cons_zero, List.set_cons_succ, List.replicate_succ, List.replicate_zero, List.cons_append, List.nil_append, List.foldl_cons, List.foldl_nil, List.getD_cons_zero, List.getD_cons_succ, List.all_cons, List.all_nil, isiD, tyN, dLt, dLe, dGt, dGe, dAdd_i, dEq_i, dNe_i, dSub, iOp, dLen_t, dLen_l, e_seqM, sq1_l, sq1_t, e_partM, pa1_i, sliM, isN_none, notN_none, isN_int, notN_int, isN_bool, notN_bool, isN_str, notN_str, isN_list, notN_list, isN_tup, notN_tup, isN_dict, notN_dict, raiseS, mDat, mNew, e_callAt, cal_some, wbl_ok, wbl_ex, wbl_ite, e_lcM, e_rng1, e_rng2, e_enuM, en1_l, en1_t, e_zipM, zi1_l, dMnN_i, dMx_l, dMx_t, asg_nm, asg_tp, put, e_appM, isOwnL_l, e_apd, apo_l, notN_OI, isN_OI, dNe_n0, c1, ix, c2]
          | true =>
            have ad := add_OI (i := q.2) c2
            rw [ev] at hq ixp
            have ixp : dIx (encT fs) (.int p) = some (.int v) := ixp
            have c3 : ¬ (atT fs (p - q.1)).getD 0 + q.2 = v := by
              simp [c1, c2] at hq
              exact hq
            simp [L3_cheapest, -List.map_map, th_ok, th_ex, th_ite, e_bind, e_ret, e_opt, ts_ok, ts_ex, ts_ite, e_bindS, sq_nx, sq_rt, sq_ex, sq_bk, sq_ct, sq_ite, e_seqS, fin_nx, fin_rt, fin_ex, fin_ite, e_fnOf, wb_ok, wb_ex, wb_ite, vA1_b, e_vAnd, vO1_b, e_vOr, vN1_b, e_vNot, ch1_b, e_chM, e_toB, e_mAnd, e_mOr, e_mNot, e_mIte, e_iteS, lp_nx, lp_ct, lp_bk, lp_rt, lp_ex, lp_ite, forL_nil, forL_nm, e_forS, okArgs, isOwn, outs, nam, frz, look, lookAll, ap1, ap2, apA, un1, bin2, opA, isiM, retS, drpS, setS, setN, putS, put, unpS, asg, mCons, mNil, e_mTup, mt1_ok, e_mLst, ml1_ok, callM, argsOf, argOf, ownIx, Sk.wb, List.getElem?_cons_zero, List.getElem?_cons_succ, List.getElem?_nil, List.set_cons_zero, List.set_cons_succ, List.replicate_succ, List.replicate_zero, List.cons_append, List.nil_append, List.foldl_cons, List.foldl_nil, List.getD_cons_zero, List.getD_cons_succ, List.all_cons, List.all_nil, isiD, tyN, dLt, dLe, dGt, dGe, dAdd_i, dEq_i, dNe_i, dSub, iOp, dLen_t, dLen_l, e_seqM, sq1_l, sq1_t, e_partM, pa1_i, sliM, isN_none, notN_none, isN_int, notN_int, isN_bool, notN_bool, isN_str, notN_str, isN_list, notN_list, isN_tup, notN_tup, isN_dict, notN_dict, raiseS, mDat, mNew, e_callAt, cal_some, wbl_ok, wbl_ex, wbl_ite, e_lcM, e_rng1, e_rng2, e_enuM, en1_l, en1_t, e_zipM, zi1_l, dMnN_i, dMx_l, dMx_t, asg_nm, asg_tp, put, e_appM, isOwnL_l, e_apd, apo_l, notN_OI, isN_OI, dNe_n0, c1, ix, c2, ad, ixp, c3]
        · simp [L3_cheapest, -List.map_map, th_ok, th_ex, th_ite, e_bind, e_ret, e_opt, ts_ok, ts_ex, ts_ite, e_bindS, sq_nx, sq_rt, sq_ex, sq_bk, sq_ct, sq_ite, e_seqS, fin_nx, fin_rt, fin_ex, fin_ite, e_fnOf, wb_ok, wb_ex, wb_ite, vA1_b, e_vAnd, vO1_b, e_vOr, vN1_b, e_vNot, ch1_b, e_chM, e_toB, e_mAnd, e_mOr, e_mNot, e_mIte, e_iteS, lp_nx, lp_ct, lp_bk, lp_rt, lp_ex, lp_ite, forL_nil, forL_nm, e_forS, okArgs, isOwn, outs, nam, frz, look, lookAll, ap1, ap2, apA, un1, bin2, opA, isiM, retS, drpS, setS, setN, putS, put, unpS, asg, mCons, mNil, e_mTup, mt1_ok, e_mLst, ml1_ok, callM, argsOf, argOf, ownIx, Sk.wb, List.getElem?_cons_zero, List.getElem?_cons_succ, List.getElem?_nil, List.set_cons_zero, List.set_cons_succ, List.replicate_succ, List.replicate_zero, List.cons_append, List.nil_append, List.foldl_cons, List.foldl_nil, List.getD_cons_zero, List.getD_cons_succ, List.all_cons, List.all_nil, isiD, tyN, dLt, dLe, dGt, dGe, dAdd_i, dEq_i, dNe_i, dSub, iOp, dLen_t, dLen_l, e_seqM, sq1_l, sq1_t, e_partM, pa1_i, sliM, isN_none, notN_none, isN_int, notN_int, isN_bool, notN_bool, isN_str, notN_str, isN_list, notN_list, isN_tup, notN_tup, isN_dict, notN_dict, raiseS, mDat, mNew, e_callAt, cal_some, wbl_ok, wbl_ex, wbl_ite, e_lcM, e_rng1, e_rng2, e_enuM, en1_l, en1_t, e_zipM, zi1_l, dMnN_i, dMx_l, dMx_t, asg_nm, asg_tp, put, e_appM, isOwnL_l, e_apd, apo_l, notN_OI, isN_OI, dNe_n0, c1]
      have e1 : forL (.tp [7, 8]) L3_cheapest [] ((q :: r).map encP) [.dat F, .dat (encG g), .dat (.int n), .dat (encT fs), .dat B, .dat (.int p), so, x, y, .dat (encI w)] = forL (.tp [7, 8]) L3_cheapest [] (r.map encP) [.dat F, .dat (encG g), .dat (.int n), .dat (encT fs), .dat B, .dat (.int p), so, .dat (.int q.1), .dat (.int q.2), .dat (encI w)] := by
        rw [List.map_cons, forL_tp (by rfl)]
        show (L3_cheapest [.dat F, .dat (encG g), .dat (.int n), .dat (encT fs), .dat B, .dat (.int p), so, .dat (.int q.1), .dat (.int q.2), .dat (encI w)]).lp _ = _
        rw [st, lp_nx]
      rw [e1]
      exact ih
end
end Zk03
set_option maxHeartbeats 1000000
namespace Zk03
open PySem PySem.Spec PyProof.Rows L2 Sk LamX
section
variable {f : List Int} {g : List (Int × Int)}
/-! the best end is best -/
def Cand (g : List (Int × Int)) (n : Int) (k : Int) (fs : List (Option Int)) (c p l : Int) : Prop := ∃ (i : Nat) (u : Int) (q : Int × Int), fs[i]? = some (some u) ∧ q ∈ g ∧ p = k + i ∧ l = q.1 ∧ c = u + q.2 ∧ n < p + q.1
def BestOf (b R : B3) (C : Int → Int → Int → Prop) : Prop := (R = none → b = none ∧ ∀ c p l, ¬ C c p l) ∧ ∀ c p l, R = some (c, p, l) → (b = some (c, p, l) ∨ C c p l) ∧ (∀ c' p' l', b = some (c', p', l') → c ≤ c') ∧ ∀ c' p' l', C c' p' l' → c ≤ c'
theorem BestOf.trans {b b1 R : B3} {C C1 C2 : Int → Int → Int → Prop} (h1 : BestOf b b1 C1) (h2 : BestOf b1 R C2) (h : ∀ c p l, C c p l ↔ C1 c p l ∨ C2 c p l) : BestOf b R C := by
  constructor
  · intro e
    obtain ⟨e1, n2⟩ := h2.1 e
    obtain ⟨e0, n1⟩ := h1.1 e1
    exact ⟨e0, fun c p l z => ((h c p l).mp z).elim (n1 c p l) (n2 c p l)⟩
  · intro c p l e
    obtain ⟨a, b2, c2⟩ := h2.2 c p l e
    have le1 : ∀ c' p' l', b1 = some (c', p', l') → c ≤ c' := b2
    have all1 : ∀ c' p' l', (b = some (c', p', l') ∨ C1 c' p' l') → c ≤ c' := fun c' p' l' z => by
      cases e1 : b1 with
      | none =>
        obtain ⟨e0, n1⟩ := h1.1 e1
        rcases z with z | z
        · rw [e0] at z; cases z
        · exact absurd z (n1 _ _ _)
      | some v =>
        obtain ⟨c1, p1, l1⟩ := v
        obtain ⟨_, q2, q3⟩ := h1.2 c1 p1 l1 e1
        have := le1 _ _ _ e1
        rcases z with z | z
        · exact Int.le_trans this (q2 _ _ _ z)
        · exact Int.le_trans this (q3 _ _ _ z)
    refine ⟨?_, fun c' p' l' z => all1 c' p' l' (.inl z), fun c' p' l' z => ((h c' p' l').mp z).elim (fun z => all1 c' p' l' (.inr z)) (c2 c' p' l')⟩
    rcases a with a | a
    · rcases (h1.2 c p l a).1 with z | z
      · exact .inl z
      · exact .inr ((h c p l).mpr (.inl z))
    · exact .inr ((h c p l).mpr (.inr a))
theorem row_best (n p : Int) (so : Option Int) : ∀ (r : List (Int × Int)) (b : B3), BestOf b (r.foldl (stepB n p so) b) (fun c p' l => ∃ u q, so = some u ∧ q ∈ r ∧ p' = p ∧ l = q.1 ∧ c = u + q.2 ∧ n < p + q.1)
  | [], b => ⟨fun e => ⟨e, fun c p l h => by obtain ⟨u, q, _, hq, _⟩ := h; cases hq⟩, fun c p l e => ⟨.inl e, fun c' p' l' e' => by
      rw [List.foldl_nil] at e
      rw [e] at e'; cases e'; exact Int.le_refl _, fun c p l h => by obtain ⟨u, q, _, hq, _⟩ := h; cases hq⟩⟩
  | q :: r, b => by
    have one : BestOf b (stepB n p so b q) (fun c p' l => ∃ u, so = some u ∧ p' = p ∧ l = q.1 ∧ c = u + q.2 ∧ n < p + q.1) := by
      cases so with
      | none => exact ⟨fun e => ⟨e, fun c p l h => by obtain ⟨u, z, _⟩ := h; cases z⟩, fun c p l e => ⟨.inl e, fun c' p' l' e' => by
          have e : b = _ := e
          rw [e] at e'; cases e'; exact Int.le_refl _, fun c p l h => by obtain ⟨u, z, _⟩ := h; cases z⟩⟩
      | some u =>
        by_cases c2 : n < p + q.1
        · cases hb : better (u + q.2) b with
          | true =>
            have e : stepB n p (some u) b q = some (u + q.2, p, q.1) := by simp [stepB, c2, hb]
            rw [e]
            refine ⟨fun z => (by cases z), fun c p' l z => ?_⟩
            cases z
            refine ⟨.inr ⟨u, rfl, rfl, rfl, rfl, c2⟩, fun c' p' l' z => ?_, fun c' p' l' ⟨u', z, _, _, z2, _⟩ => ?_⟩
            · rw [z] at hb
              simp [better] at hb
              omega
            · cases z; omega
          | false =>
            have e : stepB n p (some u) b q = b := by simp [stepB, c2, hb]
            rw [e]
            cases b with
            | none => simp [better] at hb
            | some v =>
              obtain ⟨cb, pb, lb⟩ := v
              simp [better] at hb
              refine ⟨fun z => (by cases z), fun c p' l z => ?_⟩
              cases z
              refine ⟨.inl rfl, fun c' p' l' z => by cases z; exact Int.le_refl _, fun c' p' l' ⟨u', z, _, _, z2, _⟩ => ?_⟩
              cases z; omega
        · have e : stepB n p (some u) b q = b := by simp [stepB, c2]
          rw [e]
          refine ⟨fun z => ⟨z, fun c p l h => by obtain ⟨u', _, _, _, _, h⟩ := h; exact c2 h⟩, fun c p' l z => ⟨.inl z, fun c' p' l' z' => by rw [z] at z'; cases z'; exact Int.le_refl _, fun c p l h => by obtain ⟨u', _, _, _, _, h⟩ := h; exact absurd h c2⟩⟩
    rw [List.foldl_cons]
    refine BestOf.trans one (row_best n p so r (stepB n p so b q)) fun c p' l => ⟨fun ⟨u, z, e1, hz, e2, e3, e4, e5⟩ => ?_, fun h => ?_⟩
    · rcases List.mem_cons.mp hz with rfl | hz
      · exact .inl ⟨u, e1, e2, e3, e4, e5⟩
      · exact .inr ⟨u, z, e1, hz, e2, e3, e4, e5⟩
    · rcases h with ⟨u, e1, e2, e3, e4, e5⟩ | ⟨u, z, e1, hz, e2, e3, e4, e5⟩
      · exact ⟨u, q, e1, List.mem_cons_self .., e2, e3, e4, e5⟩
      · exact ⟨u, z, e1, List.mem_cons_of_mem _ hz, e2, e3, e4, e5⟩
theorem all_best (n : Int) : ∀ (fs : List (Option Int)) (k : Int) (b : B3), BestOf b (bestB g n k fs b) (Cand g n k fs)
  | [], k, b => ⟨fun e => ⟨e, fun c p l h => by obtain ⟨i, u, q, h, _⟩ := h; simp at h⟩, fun c p l e => ⟨.inl e, fun c' p' l' e' => by
      have e : b = _ := e
      rw [e] at e'; cases e'; exact Int.le_refl _, fun c p l h => by obtain ⟨i, u, q, h, _⟩ := h; simp at h⟩⟩
  | so :: fs, k, b => by
    refine BestOf.trans (row_best n k so g b) (all_best n fs (k + 1) (rowB g n k so b)) fun c p l => ⟨fun ⟨i, u, q, h, hq, e1, e2, e3, e4⟩ => ?_, fun h => ?_⟩
    · cases i with
      | zero =>
        simp at h
        exact .inl ⟨u, q, h, hq, by omega, e2, e3, by omega⟩
      | succ i => exact .inr ⟨i, u, q, by simpa using h, hq, by omega, e2, e3, e4⟩
    · rcases h with ⟨u, q, h, hq, e1, e2, e3, e4⟩ | ⟨i, u, q, h, hq, e1, e2, e3, e4⟩
      · exact ⟨0, u, q, by simp [h], hq, by simp [e1], e2, e3, by omega⟩
      · exact ⟨i + 1, u, q, by simpa using h, hq, by omega, e2, e3, e4⟩
variable (hg : ∀ q ∈ g, 0 < q.1)
include hg
theorem toils_at {n i : Nat} {u : Int} : (toils f g n)[i]? = some (some u) ↔ i ≤ n ∧ TT f g (i : Int) = some u := by
  constructor
  · intro h
    have l : i < (toils f g n).length := by
      obtain ⟨l, _⟩ := List.getElem?_eq_some_iff.mp h
      exact l
    rw [toils_len] at l
    refine ⟨by omega, ?_⟩
    rw [← atT_T (n := n) (by omega) (by omega)]
    unfold atT
    rw [List.getD_eq_getElem?_getD]
    simp [h]
  · rintro ⟨l, h⟩
    rw [← atT_T (n := n) (by omega) (by omega)] at h
    unfold atT at h
    rw [List.getD_eq_getElem?_getD] at h
    simp only [Int.toNat_natCast] at h
    cases e : (toils f g n)[i]? with
    | none => rw [e] at h; simp at h
    | some v => rw [e] at h; simp at h; rw [h]
theorem end_best (n : Nat) : match bestB g (n : Int) 0 (toils f g n) none with
    | none => OV f g (n : Int) = none
    | some (c, p, l) => OV f g (n : Int) = some c ∧ 0 ≤ p ∧ p ≤ n ∧ ∃ u q, TT f g p = some u ∧ q ∈ g ∧ l = q.1 ∧ c = u + q.2 ∧ (n : Int) < p + l := by
  have B := all_best (g := g) (n : Int) (toils f g n) 0 none
  cases e : bestB g (n : Int) 0 (toils f g n) none with
  | none =>
    rw [e] at B
    have nc := (B.1 rfl).2
    cases o : OV f g (n : Int) with
    | none => rfl
    | some z =>
      obtain ⟨q, hq, p, u, p0, pn, pl, hu, rfl⟩ := OV_some (by omega) hg o
      refine absurd ⟨p.toNat, u, q, (toils_at hg).mpr ⟨by omega, by rw [Int.toNat_of_nonneg p0]; exact hu⟩, hq, rfl, rfl, rfl, by omega⟩ (nc (u + q.2) (0 + (p.toNat : Int)) q.1)
  | some v =>
    obtain ⟨c, p, l⟩ := v
    rw [e] at B
    obtain ⟨a, _, mn⟩ := B.2 c p l rfl
    rcases a with a | ⟨i, u, q, h, hq, e1, e2, e3, e4⟩
    · cases a
    · obtain ⟨hi, hu⟩ := (toils_at hg).mp h
      have ep : p = (i : Int) := by omega
      subst ep
      refine ⟨?_, by omega, by omega, u, q, hu, hq, e2, e3, by omega⟩
      obtain ⟨z, hz, le⟩ := OV_le (f := f) (n := (n : Int)) (by omega) hg hq (p := (i : Int)) (by omega) (by omega) e4 hu
      obtain ⟨q', hq', p', u', p0, pn, pl, hu', rfl⟩ := OV_some (by omega) hg hz
      have := mn (u' + q'.2) (0 + (p'.toNat : Int)) q'.1 ⟨p'.toNat, u', q', (toils_at hg).mpr ⟨by omega, by rw [Int.toNat_of_nonneg p0]; exact hu'⟩, hq', rfl, rfl, rfl, by omega⟩
      rw [hz]
      congr 1
      omega
/-! the way back -/
theorem back_ex {n : Nat} {p v : Int} (h0 : 0 < p) (hn : p ≤ n) (h : TT f g p = some v) : ∃ q u, backQ (toils f g n) g p = some q ∧ q ∈ g ∧ q.1 ≤ p ∧ TT f g (p - q.1) = some u ∧ u + q.2 = v := by
  obtain ⟨_, q, hq, u, hu, rfl⟩ := T_from hg h0 h
  have q0 := hg q hq
  have c : 0 ≤ p - q.1 := by
    by_cases c : p - q.1 < 0
    · rw [T_neg c] at hu; cases hu
    · omega
  cases e : backQ (toils f g n) g p with
  | none =>
    unfold backQ at e
    have := List.find?_eq_none.mp e q hq
    unfold fits at this
    rw [atT_T c (by omega), atT_T (by omega) hn, hu, h] at this
    exact absurd (by simp; omega) this
  | some z =>
    unfold backQ at e
    have hz := List.mem_of_find?_eq_some e
    have fz := List.find?_some e
    have z0 := hg z hz
    unfold fits at fz
    simp only [Bool.and_eq_true, decide_eq_true_eq] at fz
    obtain ⟨c1, c2, c3⟩ := fz
    rw [atT_T (by omega) (by omega)] at c2 c3
    rw [atT_T (by omega) hn, h] at c3
    obtain ⟨u', hu'⟩ := Option.isSome_iff_exists.mp c2
    rw [hu'] at c3
    exact ⟨z, u', rfl, hz, c1, hu', by simpa using c3⟩
theorem back_fuel (n : Nat) : ∀ (m : Nat) (k : Nat) (p : Int) (w : List Int), p.toNat ≤ m → p.toNat < k → p ≤ n → (TT f g p).isSome = true → backW (toils f g n) g k p w = backW (toils f g n) g (p.toNat + 1) p w
  | m, 0, p, w, _, h, _, _ => by omega
  | 0, k + 1, p, w, hm, h, hn, hs => by
    have c : ¬ 0 < p := by omega
    unfold backW
    rw [if_neg c, if_neg c]
  | m + 1, k + 1, p, w, hm, h, hn, hs => by
    by_cases c : 0 < p
    · obtain ⟨v, hv⟩ := Option.isSome_iff_exists.mp hs
      obtain ⟨q, u, e, hq, ql, hu, _⟩ := back_ex hg c hn hv
      have q0 := hg q hq
      unfold backW
      rw [if_pos c, if_pos c, e]
      simp only
      rw [back_fuel n m k (p - q.1) _ (by omega) (by omega) (by omega) (by rw [hu]; rfl), ← back_fuel n m p.toNat (p - q.1) _ (by omega) (by omega) (by omega) (by rw [hu]; rfl)]
    · unfold backW
      rw [if_neg c, if_neg c]
theorem back_step {n : Nat} {p v : Int} (h0 : 0 < p) (hn : p ≤ n) (h : TT f g p = some v) (w : List Int) : ∃ q u, backQ (toils f g n) g p = some q ∧ q ∈ g ∧ q.1 ≤ p ∧ TT f g (p - q.1) = some u ∧ u + q.2 = v ∧
    backW (toils f g n) g (p.toNat + 1) p w = backW (toils f g n) g ((p - q.1).toNat + 1) (p - q.1) (q.1 :: w) := by
  obtain ⟨q, u, e, hq, ql, hu, hv⟩ := back_ex hg h0 hn h
  have q0 := hg q hq
  refine ⟨q, u, e, hq, ql, hu, hv, ?_⟩
  rw [← back_fuel hg n n p.toNat (p - q.1) (q.1 :: w) (by omega) (by omega) (by omega) (by rw [hu]; rfl)]
  have : backW (toils f g n) g (p.toNat + 1) p w = if 0 < p then match backQ (toils f g n) g p with
      | some q => backW (toils f g n) g p.toNat (p - q.1) (q.1 :: w)
      | none => none
    else some w := rfl
  rw [this, if_pos h0, e]
theorem inL_of {q : Int × Int} (h : q ∈ g) : inL g q.1 = true := by
  unfold inL
  exact List.any_eq_true.mpr ⟨q, h, by simp⟩
theorem toilAt_of (nd : (g.map (·.1)).Nodup) {q : Int × Int} (h : q ∈ g) : toilAt g q.1 = q.2 := by
  unfold toilAt
  cases e : g.find? fun p => p.1 == q.1 with
  | none => exact absurd (by simp) (List.find?_eq_none.mp e q h)
  | some p =>
    have h1 := List.mem_of_find?_eq_some e
    have h2 := List.find?_some e
    simp only [beq_iff_eq] at h2
    have : p = q := nodup_one (f := fun p : Int × Int => p.1) nd h1 h h2
    rw [this]
    rfl
theorem back_ok (nd : (g.map (·.1)).Nodup) (n : Nat) (c : Int) (hp0 : True) : ∀ (m : Nat) (p v pe : Int) (w : List Int), p.toNat ≤ m → 0 ≤ p → p ≤ n → TT f g p = some v → toilGo f g (n : Int) w p v = some (pe, c) → (∃ w', backW (toils f g n) g (p.toNat + 1) p w = some w' ∧ toilGo f g (n : Int) w' 0 0 = some (pe, c))
  | 0, p, v, pe, w, hm, h0, hn, h, hw => by
    have : p = 0 := by omega
    subst this
    rw [T_zero] at h
    cases h
    exact ⟨w, rfl, hw⟩
  | m + 1, p, v, pe, w, hm, h0, hn, h, hw => by
    by_cases cc : 0 < p
    · obtain ⟨q, u, e, hq, ql, hu, hv, st⟩ := back_step hg cc hn h w
      have q0 := hg q hq
      rw [st]
      refine back_ok nd n c hp0 m (p - q.1) u pe (q.1 :: w) (by omega) (by omega) (by omega) hu ?_
      unfold toilGo
      have sp := (T_from hg cc h).1
      have ep : p - q.1 + q.1 = p := by omega
      rw [ep, inL_of hg hq, toilAt_of hg nd hq, if_neg (by simp; omega), if_neg (by omega), hv]
      exact hw
    · have : p = 0 := by omega
      subst this
      rw [T_zero] at h
      cases h
      exact ⟨w, rfl, hw⟩
theorem cheap_ok (nd : (g.map (·.1)).Nodup) (n : Nat) : (cheapestL f g n = none ∧ OV f g (n : Int) = none) ∨ ∃ w c, cheapestL f g n = some w ∧ OV f g (n : Int) = some c ∧ toilW f g (n : Int) w = some c := by
  have E := end_best (f := f) hg n
  unfold cheapestL
  cases e : bestB g (n : Int) 0 (toils f g n) none with
  | none =>
    rw [e] at E
    exact .inl ⟨rfl, E⟩
  | some v =>
    obtain ⟨c, p, l⟩ := v
    rw [e] at E
    obtain ⟨ho, p0, pn, u, q, hu, hq, rfl, rfl, hl⟩ := E
    obtain ⟨w', h1, h2⟩ := back_ok hg nd n (u + q.2) trivial p.toNat p u (p + q.1) [q.1] (Nat.le_refl _) p0 pn hu (by
      unfold toilGo
      rw [inL_of hg hq, toilAt_of hg nd hq, if_neg (by simp; omega), if_neg (by omega)]
      rfl)
    refine .inr ⟨w', u + q.2, h1, ho, ?_⟩
    unfold toilW
    rw [h2]
    simp only
    rw [if_pos hl]
end
end Zk03
set_option maxHeartbeats 1000000
namespace Zk03
open PySem PySem.Spec PyProof.Rows L2 Sk LamX
def encW : Option (List Int) → D
  | none => .none
  | some w => encI w
theorem r_cheapest_g (F G n : D) (h : ¬ (isFord F = true ∧ isGait G = true ∧ isFrom 0 60 n = true)) : m_cheapest [.dat F, .dat G, .dat n] = .ex ⟨if isFord F = true then if isGait G = true then 2 else 1 else 0, none⟩ [.dat F, .dat G, .dat n] := by
  have rn := r_need_all_g F G n 60
  cases h1 : isFord F with
  | false => simp [m_cheapest, b_cheapest, -List.map_map, th_ok, th_ex, th_ite, e_bind, e_ret, e_opt, ts_ok, ts_ex, ts_ite, e_bindS, sq_nx, sq_rt, sq_ex, sq_bk, sq_ct, sq_ite, e_seqS, fin_nx, fin_rt, fin_ex, fin_ite, e_fnOf, wb_ok, wb_ex, wb_ite, vA1_b, e_vAnd, vO1_b, e_vOr, vN1_b, e_vNot, ch1_b, e_chM, e_toB, e_mAnd, e_mOr, e_mNot, e_mIte, e_iteS, lp_nx, lp_ct, lp_bk, lp_rt, lp_ex, lp_ite, forL_nil, forL_nm, e_forS, okArgs, isOwn, outs, nam, frz, look, lookAll, ap1, ap2, apA, un1, bin2, opA, isiM, retS, drpS, setS, setN, putS, put, unpS, asg, mCons, mNil, e_mTup, mt1_ok, e_mLst, ml1_ok, callM, argsOf, argOf, ownIx, Sk.wb, List.getElem?_cons_zero, List.getElem?_cons_succ, List.getElem?_nil, List.set_cons_zero, List.set_cons_succ, List.replicate_succ, List.replicate_zero, List.cons_append, List.nil_append, List.foldl_cons, List.foldl_nil, List.getD_cons_zero, List.getD_cons_succ, List.all_cons, List.all_nil, isiD, tyN, dLt, dLe, dGt, dGe, dAdd_i, dEq_i, dNe_i, dSub, iOp, dLen_t, dLen_l, e_seqM, sq1_l, sq1_t, e_partM, pa1_i, sliM, isN_none, notN_none, isN_int, notN_int, isN_bool, notN_bool, isN_str, notN_str, isN_list, notN_list, isN_tup, notN_tup, isN_dict, notN_dict, raiseS, mDat, mNew, e_callAt, cal_some, wbl_ok, wbl_ex, wbl_ite, e_lcM, e_rng1, e_rng2, e_enuM, en1_l, en1_t, e_zipM, zi1_l, dMnN_i, dMx_l, dMx_t, asg_nm, asg_tp, put, e_appM, isOwnL_l, e_apd, apo_l, notN_OI, isN_OI, dNe_n0, rn, h1]
  | true =>
    cases h2 : isGait G with
    | false => simp [m_cheapest, b_cheapest, -List.map_map, th_ok, th_ex, th_ite, e_bind, e_ret, e_opt, ts_ok, ts_ex, ts_ite, e_bindS, sq_nx, sq_rt, sq_ex, sq_bk, sq_ct, sq_ite, e_seqS, fin_nx, fin_rt, fin_ex, fin_ite, e_fnOf, wb_ok, wb_ex, wb_ite, vA1_b, e_vAnd, vO1_b, e_vOr, vN1_b, e_vNot, ch1_b, e_chM, e_toB, e_mAnd, e_mOr, e_mNot, e_mIte, e_iteS, lp_nx, lp_ct, lp_bk, lp_rt, lp_ex, lp_ite, forL_nil, forL_nm, e_forS, okArgs, isOwn, outs, nam, frz, look, lookAll, ap1, ap2, apA, un1, bin2, opA, isiM, retS, drpS, setS, setN, putS, put, unpS, asg, mCons, mNil, e_mTup, mt1_ok, e_mLst, ml1_ok, callM, argsOf, argOf, ownIx, Sk.wb, List.getElem?_cons_zero, List.getElem?_cons_succ, List.getElem?_nil, List.set_cons_zero, List.set_cons_succ, List.replicate_succ, List.replicate_zero, List.cons_append, List.nil_append, List.foldl_cons, List.foldl_nil, List.getD_cons_zero, List.getD_cons_succ, List.all_cons, List.all_nil, isiD, tyN, dLt, dLe, dGt, dGe, dAdd_i, dEq_i, dNe_i, dSub, iOp, dLen_t, dLen_l, e_seqM, sq1_l, sq1_t, e_partM, pa1_i, sliM, isN_none, notN_none, isN_int, notN_int, isN_bool, notN_bool, isN_str, notN_str, isN_list, notN_list, isN_tup, notN_tup, isN_dict, notN_dict, raiseS, mDat, mNew, e_callAt, cal_some, wbl_ok, wbl_ex, wbl_ite, e_lcM, e_rng1, e_rng2, e_enuM, en1_l, en1_t, e_zipM, zi1_l, dMnN_i, dMx_l, dMx_t, asg_nm, asg_tp, put, e_appM, isOwnL_l, e_apd, apo_l, notN_OI, isN_OI, dNe_n0, rn, h1, h2]
    | true =>
      cases h3 : isFrom 0 60 n with
      | false => simp [m_cheapest, b_cheapest, -List.map_map, th_ok, th_ex, th_ite, e_bind, e_ret, e_opt, ts_ok, ts_ex, ts_ite, e_bindS, sq_nx, sq_rt, sq_ex, sq_bk, sq_ct, sq_ite, e_seqS, fin_nx, fin_rt, fin_ex, fin_ite, e_fnOf, wb_ok, wb_ex, wb_ite, vA1_b, e_vAnd, vO1_b, e_vOr, vN1_b, e_vNot, ch1_b, e_chM, e_toB, e_mAnd, e_mOr, e_mNot, e_mIte, e_iteS, lp_nx, lp_ct, lp_bk, lp_rt, lp_ex, lp_ite, forL_nil, forL_nm, e_forS, okArgs, isOwn, outs, nam, frz, look, lookAll, ap1, ap2, apA, un1, bin2, opA, isiM, retS, drpS, setS, setN, putS, put, unpS, asg, mCons, mNil, e_mTup, mt1_ok, e_mLst, ml1_ok, callM, argsOf, argOf, ownIx, Sk.wb, List.getElem?_cons_zero, List.getElem?_cons_succ, List.getElem?_nil, List.set_cons_zero, List.set_cons_succ, List.replicate_succ, List.replicate_zero, List.cons_append, List.nil_append, List.foldl_cons, List.foldl_nil, List.getD_cons_zero, List.getD_cons_succ, List.all_cons, List.all_nil, isiD, tyN, dLt, dLe, dGt, dGe, dAdd_i, dEq_i, dNe_i, dSub, iOp, dLen_t, dLen_l, e_seqM, sq1_l, sq1_t, e_partM, pa1_i, sliM, isN_none, notN_none, isN_int, notN_int, isN_bool, notN_bool, isN_str, notN_str, isN_list, notN_list, isN_tup, notN_tup, isN_dict, notN_dict, raiseS, mDat, mNew, e_callAt, cal_some, wbl_ok, wbl_ex, wbl_ite, e_lcM, e_rng1, e_rng2, e_enuM, en1_l, en1_t, e_zipM, zi1_l, dMnN_i, dMx_l, dMx_t, asg_nm, asg_tp, put, e_appM, isOwnL_l, e_apd, apo_l, notN_OI, isN_OI, dNe_n0, rn, h1, h2, h3]
      | true => exact absurd ⟨h1, h2, h3⟩ h
theorem r_cheapest {f : List Int} {g : List (Int × Int)} (hf : isFord (encI f) = true) (hg : isGait (encG g) = true) (n : Nat) (hn : n ≤ 60) : m_cheapest [.dat (encI f), .dat (encG g), .dat (.int (n : Int))] = .ok (encW (cheapestL f g n)) [.dat (encI f), .dat (encG g), .dat (.int (n : Int))] := by
  have gi := gait_in hg
  have gp : ∀ q ∈ g, 0 < q.1 := fun q hq => (gi q hq).1
  have nd := (gait_up hg).2
  have gl := gait_len hg
  have rn := r_need_all_g (encI f) (encG g) (.int (n : Int)) 60
  rw [hf, hg] at rn
  have f0 : isFrom 0 60 (.int (n : Int)) = true := by simp [isFrom]; omega
  rw [f0] at rn
  simp only [if_pos] at rn
  have rt := r_toils (ford_ne hf) gp n (by omega) (by unfold cap; omega)
  obtain ⟨y5, y6, y7, y8, e1⟩ := cb2 (g := g) (encI f) (.int (n : Int)) (encT (toils f g n)) (n : Int) .un (toils f g n) 0 none .un .un .un .un
  have eb := end_best (f := f) gp n
  unfold cheapestL
  have eb0 : encB none = .none := rfl
  rw [eb0] at e1
  cases e : bestB g (n : Int) 0 (toils f g n) none with
  | none =>
    have e' : bestB g (n : Int) ((0 : Nat) : Int) (toils f g n) none = none := e
    rw [e', eb0] at e1
    simp [m_cheapest, b_cheapest, -List.map_map, th_ok, th_ex, th_ite, e_bind, e_ret, e_opt, ts_ok, ts_ex, ts_ite, e_bindS, sq_nx, sq_rt, sq_ex, sq_bk, sq_ct, sq_ite, e_seqS, fin_nx, fin_rt, fin_ex, fin_ite, e_fnOf, wb_ok, wb_ex, wb_ite, vA1_b, e_vAnd, vO1_b, e_vOr, vN1_b, e_vNot, ch1_b, e_chM, e_toB, e_mAnd, e_mOr, e_mNot, e_mIte, e_iteS, lp_nx, lp_ct, lp_bk, lp_rt, lp_ex, lp_ite, forL_nil, forL_nm, e_forS, okArgs, isOwn, outs, nam, frz, look, lookAll, ap1, ap2, apA, un1, bin2, opA, isiM, retS, drpS, setS, setN, putS, put, unpS, asg, mCons, mNil, e_mTup, mt1_ok, e_mLst, ml1_ok, callM, argsOf, argOf, ownIx, Sk.wb, List.getElem?_cons_zero, List.getElem?_cons_succ, List.getElem?_nil, List.set_cons_zero, List.set_cons_succ, List.replicate_succ, List.replicate_zero, List.cons_append, List.nil_append, List.foldl_cons, List.foldl_nil, List.getD_cons_zero, List.getD_cons_succ, List.all_cons, List.all_nil, isiD, tyN, dLt, dLe, dGt, dGe, dAdd_i, dEq_i, dNe_i, dSub, iOp, dLen_t, dLen_l, e_seqM, sq1_l, sq1_t, e_partM, pa1_i, sliM, isN_none, notN_none, isN_int, notN_int, isN_bool, notN_bool, isN_str, notN_str, isN_list, notN_list, isN_tup, notN_tup, isN_dict, notN_dict, raiseS, mDat, mNew, e_callAt, cal_some, wbl_ok, wbl_ex, wbl_ite, e_lcM, e_rng1, e_rng2, e_enuM, en1_l, en1_t, e_zipM, zi1_l, dMnN_i, dMx_l, dMx_t, asg_nm, asg_tp, put, e_appM, isOwnL_l, e_apd, apo_l, notN_OI, isN_OI, dNe_n0, rn, rt, e1, encW]
  | some v =>
    obtain ⟨c, p, l⟩ := v
    have e' : bestB g (n : Int) ((0 : Nat) : Int) (toils f g n) none = some (c, p, l) := e
    rw [e'] at e1
    rw [e] at eb
    obtain ⟨_, p0, pn, u, q, hu, hq, rfl, rfl, _⟩ := eb
    let R := backW (toils f g n) g (p.toNat + 1) p [q.1]
    have hR : ∃ w', R = some w' := by
      obtain ⟨w', h1, _⟩ := back_ok gp nd n (u + q.2) trivial p.toNat p u (p + q.1) [q.1] (Nat.le_refl _) p0 pn hu (by
        unfold toilGo
        rw [inL_of gp hq, toilAt_of gp nd hq, if_neg (by simp; omega), if_neg (by omega)]
        rfl)
      exact ⟨w', h1⟩
    obtain ⟨w', hw'⟩ := hR
    have eB : encB (some (u + q.2, p, q.1)) = .tuple [.int (u + q.2), .int p, .int q.1] := rfl
    rw [eB] at e1
    have lp : ∃ z5 z6 z7 z8 : Sl, whlS W1_cheapest L4_cheapest [] [.dat (encI f), .dat (encG g), .dat (.int (n : Int)), .dat (encT (toils f g n)), .dat (.tuple [.int (u + q.2), .int p, .int q.1]), .dat (.int p), y6, y7, y8, .dat (.tuple [.int q.1])] =
        .nx [.dat (encI f), .dat (encG g), .dat (.int (n : Int)), .dat (encT (toils f g n)), .dat (.tuple [.int (u + q.2), .int p, .int q.1]), z5, z6, z7, z8, .dat (encI w')] := by
      have sg : sq1 (encG g) = M.ret (g.map encP) := rfl
      refine whl_inv (fun m st => ∃ (p' v' : Int) (w : List Int) (x6 x7 x8 : Sl), st = [.dat (encI f), .dat (encG g), .dat (.int (n : Int)), .dat (encT (toils f g n)), .dat (.tuple [.int (u + q.2), .int p, .int q.1]), .dat (.int p'), x6, x7, x8, .dat (encI w)] ∧ m = p'.toNat ∧ 0 ≤ p' ∧ p' ≤ n ∧
          TT f g p' = some v' ∧ (w.length : Int) + p' ≤ 100 ∧ backW (toils f g n) g (p'.toNat + 1) p' w = some w') (fun o => ∃ z5 z6 z7 z8 : Sl, o = .nx [.dat (encI f), .dat (encG g), .dat (.int (n : Int)), .dat (encT (toils f g n)), .dat (.tuple [.int (u + q.2), .int p, .int q.1]), z5, z6, z7, z8, .dat (encI w')])
        (fun h => by obtain ⟨_, _, _, _, h⟩ := h; cases h) (fun m st h => ?_) (m := p.toNat) ⟨p, u, [q.1], y6, y7, y8, rfl, rfl, p0, pn, hu, by simp; omega, hw'⟩
      obtain ⟨p', v', w, x6, x7, x8, rfl, rfl, q0, qn, hv, hl, hb⟩ := h
      by_cases c : 0 < p'
      · right
        obtain ⟨q', u', e2, hq', ql, hu', hv', st'⟩ := back_step gp c qn hv w
        have q0' := gp q' hq'
        have c3 := cb3 (g := g) (encI f) (.int (n : Int)) (.tuple [.int (u + q.2), .int p, .int q.1]) (toils f g n) (n : Int) p' w x6 q0 (by rw [toils_len]; omega) (by rw [atT_T q0 qn, hv]; rfl) (by omega) g x7 x8 gp
        unfold backQ at e2
        rw [e2] at c3
        obtain ⟨x', y', e3⟩ := c3
        refine ⟨[.dat (encI f), .dat (encG g), .dat (.int (n : Int)), .dat (encT (toils f g n)), .dat (.tuple [.int (u + q.2), .int p, .int q.1]), .dat (.int p'), x6, x7, x8, .dat (encI w)], ?_, .inl ⟨[.dat (encI f), .dat (encG g), .dat (.int (n : Int)), .dat (encT (toils f g n)), .dat (.tuple [.int (u + q.2), .int p, .int q.1]), .dat (.int (p' - q'.1)), x6, x', y', .dat (encI (q'.1 :: w))], .inl ?_, (p' - q'.1).toNat, by omega, p' - q'.1, u', q'.1 :: w, x6, x', y', rfl, rfl, by omega, by omega, hu', by simp; omega, by rw [← st']; exact hb⟩⟩
        · simp [W1_cheapest, -List.map_map, th_ok, th_ex, th_ite, e_bind, e_ret, e_opt, ts_ok, ts_ex, ts_ite, e_bindS, sq_nx, sq_rt, sq_ex, sq_bk, sq_ct, sq_ite, e_seqS, fin_nx, fin_rt, fin_ex, fin_ite, e_fnOf, wb_ok, wb_ex, wb_ite, vA1_b, e_vAnd, vO1_b, e_vOr, vN1_b, e_vNot, ch1_b, e_chM, e_toB, e_mAnd, e_mOr, e_mNot, e_mIte, e_iteS, lp_nx, lp_ct, lp_bk, lp_rt, lp_ex, lp_ite, forL_nil, forL_nm, e_forS, okArgs, isOwn, outs, nam, frz, look, lookAll, ap1, ap2, apA, un1, bin2, opA, isiM, retS, drpS, setS, setN, putS, put, unpS, asg, mCons, mNil, e_mTup, mt1_ok, e_mLst, ml1_ok, callM, argsOf, argOf, ownIx, Sk.wb, List.getElem?_cons_zero, List.getElem?_cons_succ, List.getElem?_nil, List.set_cons_zero, List.set_cons_succ, List.replicate_succ, List.replicate_zero, List.cons_append, List.nil_append, List.foldl_cons, List.foldl_nil, List.getD_cons_zero, List.getD_cons_succ, List.all_cons, List.all_nil, isiD, tyN, dLt, dLe, dGt, dGe, dAdd_i, dEq_i, dNe_i, dSub, iOp, dLen_t, dLen_l, e_seqM, sq1_l, sq1_t, e_partM, pa1_i, sliM, isN_none, notN_none, isN_int, notN_int, isN_bool, notN_bool, isN_str, notN_str, isN_list, notN_list, isN_tup, notN_tup, isN_dict, notN_dict, raiseS, mDat, mNew, e_callAt, cal_some, wbl_ok, wbl_ex, wbl_ite, e_lcM, e_rng1, e_rng2, e_enuM, en1_l, en1_t, e_zipM, zi1_l, dMnN_i, dMx_l, dMx_t, asg_nm, asg_tp, put, e_appM, isOwnL_l, e_apd, apo_l, notN_OI, isN_OI, dNe_n0, c]
        · have sgn : (sq1 (encG g)) = M.ret (g.map encP) := rfl
          simp [L4_cheapest, -List.map_map, th_ok, th_ex, th_ite, e_bind, e_ret, e_opt, ts_ok, ts_ex, ts_ite, e_bindS, sq_nx, sq_rt, sq_ex, sq_bk, sq_ct, sq_ite, e_seqS, fin_nx, fin_rt, fin_ex, fin_ite, e_fnOf, wb_ok, wb_ex, wb_ite, vA1_b, e_vAnd, vO1_b, e_vOr, vN1_b, e_vNot, ch1_b, e_chM, e_toB, e_mAnd, e_mOr, e_mNot, e_mIte, e_iteS, lp_nx, lp_ct, lp_bk, lp_rt, lp_ex, lp_ite, forL_nil, forL_nm, e_forS, okArgs, isOwn, outs, nam, frz, look, lookAll, ap1, ap2, apA, un1, bin2, opA, isiM, retS, drpS, setS, setN, putS, put, unpS, asg, mCons, mNil, e_mTup, mt1_ok, e_mLst, ml1_ok, callM, argsOf, argOf, ownIx, Sk.wb, List.getElem?_cons_zero, List.getElem?_cons_succ, List.getElem?_nil, List.set_cons_zero, List.set_cons_succ, List.replicate_succ, List.replicate_zero, List.cons_append, List.nil_append, List.foldl_cons, List.foldl_nil, List.getD_cons_zero, List.getD_cons_succ, List.all_cons, List.all_nil, isiD, tyN, dLt, dLe, dGt, dGe, dAdd_i, dEq_i, dNe_i, dSub, iOp, dLen_t, dLen_l, e_seqM, sq1_l, sq1_t, e_partM, pa1_i, sliM, isN_none, notN_none, isN_int, notN_int, isN_bool, notN_bool, isN_str, notN_str, isN_list, notN_list, isN_tup, notN_tup, isN_dict, notN_dict, raiseS, mDat, mNew, e_callAt, cal_some, wbl_ok, wbl_ex, wbl_ite, e_lcM, e_rng1, e_rng2, e_enuM, en1_l, en1_t, e_zipM, zi1_l, dMnN_i, dMx_l, dMx_t, asg_nm, asg_tp, put, e_appM, isOwnL_l, e_apd, apo_l, notN_OI, isN_OI, dNe_n0, sg, e3]
      · left
        have pz : p' = 0 := by omega
        subst pz
        have hw : w = w' := by simpa [backW] using hb
        subst hw
        refine ⟨[.dat (encI f), .dat (encG g), .dat (.int (n : Int)), .dat (encT (toils f g n)), .dat (.tuple [.int (u + q.2), .int p, .int q.1]), .dat (.int 0), x6, x7, x8, .dat (encI w)], ?_, .dat (.int 0), x6, x7, x8, rfl⟩
        simp [W1_cheapest, -List.map_map, th_ok, th_ex, th_ite, e_bind, e_ret, e_opt, ts_ok, ts_ex, ts_ite, e_bindS, sq_nx, sq_rt, sq_ex, sq_bk, sq_ct, sq_ite, e_seqS, fin_nx, fin_rt, fin_ex, fin_ite, e_fnOf, wb_ok, wb_ex, wb_ite, vA1_b, e_vAnd, vO1_b, e_vOr, vN1_b, e_vNot, ch1_b, e_chM, e_toB, e_mAnd, e_mOr, e_mNot, e_mIte, e_iteS, lp_nx, lp_ct, lp_bk, lp_rt, lp_ex, lp_ite, forL_nil, forL_nm, e_forS, okArgs, isOwn, outs, nam, frz, look, lookAll, ap1, ap2, apA, un1, bin2, opA, isiM, retS, drpS, setS, setN, putS, put, unpS, asg, mCons, mNil, e_mTup, mt1_ok, e_mLst, ml1_ok, callM, argsOf, argOf, ownIx, Sk.wb, List.getElem?_cons_zero, List.getElem?_cons_succ, List.getElem?_nil, List.set_cons_zero, List.set_cons_succ, List.replicate_succ, List.replicate_zero, List.cons_append, List.nil_append, List.foldl_cons, List.foldl_nil, List.getD_cons_zero, List.getD_cons_succ, List.all_cons, List.all_nil, isiD, tyN, dLt, dLe, dGt, dGe, dAdd_i, dEq_i, dNe_i, dSub, iOp, dLen_t, dLen_l, e_seqM, sq1_l, sq1_t, e_partM, pa1_i, sliM, isN_none, notN_none, isN_int, notN_int, isN_bool, notN_bool, isN_str, notN_str, isN_list, notN_list, isN_tup, notN_tup, isN_dict, notN_dict, raiseS, mDat, mNew, e_callAt, cal_some, wbl_ok, wbl_ex, wbl_ite, e_lcM, e_rng1, e_rng2, e_enuM, en1_l, en1_t, e_zipM, zi1_l, dMnN_i, dMx_l, dMx_t, asg_nm, asg_tp, put, e_appM, isOwnL_l, e_apd, apo_l, notN_OI, isN_OI, dNe_n0]
    obtain ⟨z5, z6, z7, z8, e4⟩ := lp
    have i1 : dIx (.tuple [.int (u + q.2), .int p, .int q.1]) (.int 1) = some (.int p) := rfl
    have i2 : dIx (.tuple [.int (u + q.2), .int p, .int q.1]) (.int 2) = some (.int q.1) := rfl
    show _ = Out.ok (encW R) _
    rw [hw']
    simp [m_cheapest, b_cheapest, -List.map_map, th_ok, th_ex, th_ite, e_bind, e_ret, e_opt, ts_ok, ts_ex, ts_ite, e_bindS, sq_nx, sq_rt, sq_ex, sq_bk, sq_ct, sq_ite, e_seqS, fin_nx, fin_rt, fin_ex, fin_ite, e_fnOf, wb_ok, wb_ex, wb_ite, vA1_b, e_vAnd, vO1_b, e_vOr, vN1_b, e_vNot, ch1_b, e_chM, e_toB, e_mAnd, e_mOr, e_mNot, e_mIte, e_iteS, lp_nx, lp_ct, lp_bk, lp_rt, lp_ex, lp_ite, forL_nil, forL_nm, e_forS, okArgs, isOwn, outs, nam, frz, look, lookAll, ap1, ap2, apA, un1, bin2, opA, isiM, retS, drpS, setS, setN, putS, put, unpS, asg, mCons, mNil, e_mTup, mt1_ok, e_mLst, ml1_ok, callM, argsOf, argOf, ownIx, Sk.wb, List.getElem?_cons_zero, List.getElem?_cons_succ, List.getElem?_nil, List.set_cons_zero, List.set_cons_succ, List.replicate_succ, List.replicate_zero, List.cons_append, List.nil_append, List.foldl_cons, List.foldl_nil, List.getD_cons_zero, List.getD_cons_succ, List.all_cons, List.all_nil, isiD, tyN, dLt, dLe, dGt, dGe, dAdd_i, dEq_i, dNe_i, dSub, iOp, dLen_t, dLen_l, e_seqM, sq1_l, sq1_t, e_partM, pa1_i, sliM, isN_none, notN_none, isN_int, notN_int, isN_bool, notN_bool, isN_str, notN_str, isN_list, notN_list, isN_tup, notN_tup, isN_dict, notN_dict, raiseS, mDat, mNew, e_callAt, cal_some, wbl_ok, wbl_ex, wbl_ite, e_lcM, e_rng1, e_rng2, e_enuM, en1_l, en1_t, e_zipM, zi1_l, dMnN_i, dMx_l, dMx_t, asg_nm, asg_tp, put, e_appM, isOwnL_l, e_apd, apo_l, notN_OI, isN_OI, dNe_n0, rn, rt, e1, i1, i2, e4, encW]
end Zk03
set_option maxHeartbeats 2000000
namespace Zk03
open PySem PySem.Spec PyProof.Rows L2 Sk LamX
section
variable {f : List Int} {g : List (Int × Int)} (hf : isFord (encI f) = true) (hg : isGait (encG g) = true)
include hf hg
theorem r_lright (n : Nat) (hn : n ≤ 60) : m__law_right [.dat (encI f), .dat (encG g), .dat (.int (n : Int)), .dat (encT (toils f g 60))] = .ok (.bool true) [.dat (encI f), .dat (encG g), .dat (.int (n : Int)), .dat (encT (toils f g 60))] := by
  have gi := gait_in hg
  have gp : ∀ q ∈ g, 0 < q.1 := fun q hq => (gi q hq).1
  have gl := gait_len hg
  have rc := r_cheapest hf hg n hn
  have ro := r_over (toils f g 60) g (n : Int) (by omega) (by rw [toils_len]; omega) (by rw [toils_len]; omega) (fun q hq => ⟨(gi q hq).1, (gi q hq).2.1⟩) (by omega)
  rw [over_N (by omega) (by omega) gp] at ro
  rcases cheap_ok (f := f) gp (gait_up hg).2 n with ⟨h1, h2⟩ | ⟨w, c, h1, h2, h3⟩
  · rw [h1] at rc
    rw [h2] at ro
    have rc : m_cheapest [.dat (encI f), .dat (encG g), .dat (.int (n : Int))] = .ok .none [.dat (encI f), .dat (encG g), .dat (.int (n : Int))] := rc
    have ro : m__law_over [.dat (encT (toils f g 60)), .dat (encG g), .dat (.int (n : Int))] = .ok .none [.dat (encT (toils f g 60)), .dat (encG g), .dat (.int (n : Int))] := ro
    simp [m__law_right, b__law_right, -List.map_map, th_ok, th_ex, th_ite, e_bind, e_ret, e_opt, ts_ok, ts_ex, ts_ite, e_bindS, sq_nx, sq_rt, sq_ex, sq_bk, sq_ct, sq_ite, e_seqS, fin_nx, fin_rt, fin_ex, fin_ite, e_fnOf, wb_ok, wb_ex, wb_ite, vA1_b, e_vAnd, vO1_b, e_vOr, vN1_b, e_vNot, ch1_b, e_chM, e_toB, e_mAnd, e_mOr, e_mNot, e_mIte, e_iteS, lp_nx, lp_ct, lp_bk, lp_rt, lp_ex, lp_ite, forL_nil, forL_nm, e_forS, okArgs, isOwn, outs, nam, frz, look, lookAll, ap1, ap2, apA, un1, bin2, opA, isiM, retS, drpS, setS, setN, putS, put, unpS, asg, mCons, mNil, e_mTup, mt1_ok, e_mLst, ml1_ok, callM, argsOf, argOf, ownIx, Sk.wb, List.getElem?_cons_zero, List.getElem?_cons_succ, List.getElem?_nil, List.set_cons_zero, List.set_cons_succ, List.replicate_succ, List.replicate_zero, List.cons_append, List.nil_append, List.foldl_cons, List.foldl_nil, List.getD_cons_zero, List.getD_cons_succ, List.all_cons, List.all_nil, isiD, tyN, dLt, dLe, dGt, dGe, dAdd_i, dEq_i, dNe_i, dSub, iOp, dLen_t, dLen_l, e_seqM, sq1_l, sq1_t, e_partM, pa1_i, sliM, isN_none, notN_none, isN_int, notN_int, isN_bool, notN_bool, isN_str, notN_str, isN_list, notN_list, isN_tup, notN_tup, isN_dict, notN_dict, raiseS, mDat, mNew, e_callAt, cal_some, wbl_ok, wbl_ex, wbl_ite, e_lcM, e_rng1, e_rng2, e_enuM, en1_l, en1_t, e_zipM, zi1_l, dMnN_i, dMx_l, dMx_t, asg_nm, asg_tp, put, e_appM, isOwnL_l, e_apd, apo_l, notN_OI, isN_OI, dNe_n0, rc, ro]
  · rw [h1] at rc
    rw [h2] at ro
    have rc : m_cheapest [.dat (encI f), .dat (encG g), .dat (.int (n : Int))] = .ok (.tuple (w.map .int)) [.dat (encI f), .dat (encG g), .dat (.int (n : Int))] := rc
    have ro : m__law_over [.dat (encT (toils f g 60)), .dat (encG g), .dat (.int (n : Int))] = .ok (.int c) [.dat (encT (toils f g 60)), .dat (encG g), .dat (.int (n : Int))] := ro
    have rt := r_ltoil (ford_ne hf) (n : Int) w hg (by unfold cap; omega)
    rw [h3] at rt
    have rt : m__law_toil [.dat (encI f), .dat (encG g), .dat (.int (n : Int)), .dat (.tuple (w.map .int))] = .ok (.int c) [.dat (encI f), .dat (encG g), .dat (.int (n : Int)), .dat (.tuple (w.map .int))] := rt
    simp [m__law_right, b__law_right, -List.map_map, th_ok, th_ex, th_ite, e_bind, e_ret, e_opt, ts_ok, ts_ex, ts_ite, e_bindS, sq_nx, sq_rt, sq_ex, sq_bk, sq_ct, sq_ite, e_seqS, fin_nx, fin_rt, fin_ex, fin_ite, e_fnOf, wb_ok, wb_ex, wb_ite, vA1_b, e_vAnd, vO1_b, e_vOr, vN1_b, e_vNot, ch1_b, e_chM, e_toB, e_mAnd, e_mOr, e_mNot, e_mIte, e_iteS, lp_nx, lp_ct, lp_bk, lp_rt, lp_ex, lp_ite, forL_nil, forL_nm, e_forS, okArgs, isOwn, outs, nam, frz, look, lookAll, ap1, ap2, apA, un1, bin2, opA, isiM, retS, drpS, setS, setN, putS, put, unpS, asg, mCons, mNil, e_mTup, mt1_ok, e_mLst, ml1_ok, callM, argsOf, argOf, ownIx, Sk.wb, List.getElem?_cons_zero, List.getElem?_cons_succ, List.getElem?_nil, List.set_cons_zero, List.set_cons_succ, List.replicate_succ, List.replicate_zero, List.cons_append, List.nil_append, List.foldl_cons, List.foldl_nil, List.getD_cons_zero, List.getD_cons_succ, List.all_cons, List.all_nil, isiD, tyN, dLt, dLe, dGt, dGe, dAdd_i, dEq_i, dNe_i, dSub, iOp, dLen_t, dLen_l, e_seqM, sq1_l, sq1_t, e_partM, pa1_i, sliM, isN_none, notN_none, isN_int, notN_int, isN_bool, notN_bool, isN_str, notN_str, isN_list, notN_list, isN_tup, notN_tup, isN_dict, notN_dict, raiseS, mDat, mNew, e_callAt, cal_some, wbl_ok, wbl_ex, wbl_ite, e_lcM, e_rng1, e_rng2, e_enuM, en1_l, en1_t, e_zipM, zi1_l, dMnN_i, dMx_l, dMx_t, asg_nm, asg_tp, put, e_appM, isOwnL_l, e_apd, apo_l, notN_OI, isN_OI, dNe_n0, rc, ro, rt]
end
/-! the law -/
abbrev lSt (ns : List Int) (k : Int) (s : Src) (a3 : Sl) (f : List Int) (g : List (Int × Int)) (T : D) (a7 a8 : Sl) : List Sl := [.scr ns, .dat (.int k), .own (encS s), a3, .dat (encI f), .dat (encG g), .dat T, a7, a8, .un]
section
variable (ns : List Int) (k : Int)
theorem law1 {f : List Int} {g : List (Int × Int)} (hf : isFord (encI f) = true) (hg : isGait (encG g) = true) (s : Src) (a3 a8 : Sl) (n : Nat) (hn : n ≤ 60) : L1_law (lSt ns k s a3 f g (encT (toils f g 60)) (.dat (.int (n : Int))) a8) = .nx (lSt ns k s a3 f g (encT (toils f g 60)) (.dat (.int (n : Int))) a8) := by
  have r := r_lright hf hg n hn
  simp [lSt, L1_law, -List.map_map, th_ok, th_ex, th_ite, e_bind, e_ret, e_opt, ts_ok, ts_ex, ts_ite, e_bindS, sq_nx, sq_rt, sq_ex, sq_bk, sq_ct, sq_ite, e_seqS, fin_nx, fin_rt, fin_ex, fin_ite, e_fnOf, wb_ok, wb_ex, wb_ite, vA1_b, e_vAnd, vO1_b, e_vOr, vN1_b, e_vNot, ch1_b, e_chM, e_toB, e_mAnd, e_mOr, e_mNot, e_mIte, e_iteS, lp_nx, lp_ct, lp_bk, lp_rt, lp_ex, lp_ite, forL_nil, forL_nm, e_forS, okArgs, isOwn, outs, nam, frz, look, lookAll, ap1, ap2, apA, un1, bin2, opA, isiM, retS, drpS, setS, setN, putS, put, unpS, asg, mCons, mNil, e_mTup, mt1_ok, e_mLst, ml1_ok, callM, argsOf, argOf, ownIx, Sk.wb, List.getElem?_cons_zero, List.getElem?_cons_succ, List.getElem?_nil, List.set_cons_zero, List.set_cons_succ, List.replicate_succ, List.replicate_zero, List.cons_append, List.nil_append, List.foldl_cons, List.foldl_nil, List.getD_cons_zero, List.getD_cons_succ, List.all_cons, List.all_nil, isiD, tyN, dLt, dLe, dGt, dGe, dAdd_i, dEq_i, dNe_i, dSub, iOp, dLen_t, dLen_l, e_seqM, sq1_l, sq1_t, e_partM, pa1_i, sliM, isN_none, notN_none, isN_int, notN_int, isN_bool, notN_bool, isN_str, notN_str, isN_list, notN_list, isN_tup, notN_tup, isN_dict, notN_dict, raiseS, mDat, mNew, e_callAt, cal_some, wbl_ok, wbl_ex, wbl_ite, e_lcM, e_rng1, e_rng2, e_enuM, en1_l, en1_t, e_zipM, zi1_l, dMnN_i, dMx_l, dMx_t, asg_nm, asg_tp, put, e_appM, isOwnL_l, e_apd, apo_l, notN_OI, isN_OI, dNe_n0, r]
theorem loop1 {f : List Int} {g : List (Int × Int)} (hf : isFord (encI f) = true) (hg : isGait (encG g) = true) (s : Src) (a3 a8 : Sl) : ∀ (ds : List D) (a7 : Sl), (∀ d ∈ ds, ∃ n : Nat, n ≤ 60 ∧ d = .int (n : Int)) →
    ∃ b7 : Sl, forL (.nm 7) L1_law [] ds (lSt ns k s a3 f g (encT (toils f g 60)) a7 a8) = .nx (lSt ns k s a3 f g (encT (toils f g 60)) b7 a8)
  | [], a7, _ => ⟨a7, rfl⟩
  | d :: ds, a7, h => by
    obtain ⟨n, hn, rfl⟩ := h d (List.mem_cons_self ..)
    obtain ⟨b7, e⟩ := loop1 hf hg s a3 a8 ds (.dat (.int (n : Int))) fun x hx => h x (List.mem_cons_of_mem _ hx)
    refine ⟨b7, ?_⟩
    rw [forL_nm]
    have e0 : (lSt ns k s a3 f g (encT (toils f g 60)) a7 a8).set 7 (.dat (.int (n : Int))) = lSt ns k s a3 f g (encT (toils f g 60)) (.dat (.int (n : Int))) a8 := rfl
    rw [e0, law1 ns k hf hg s a3 a8 n hn, lp_nx]
    exact e
theorem law2 (s : Src) (hs : OkS s) (a3 a4 a5 a6 a7 a8 : Sl) : ∃ (s' : Src) (f : List Int) (g : List (Int × Int)) (T : D) (b7 : Sl), OkS s' ∧ isFord (encI f) = true ∧ isGait (encG g) = true ∧
    L2_law [.scr ns, .dat (.int k), .own (encS s), a3, a4, a5, a6, a7, a8, .un] = .nx (lSt ns k s' a3 f g T b7 a8) := by
  obtain ⟨f, s1, hf, o1, r1⟩ := r_lford s hs
  obtain ⟨g, s2, hg, o2, r2⟩ := r_lgait s1 o1
  have gi := gait_in hg
  have rt := r_ltoils (ford_ne hf) (fun q hq => (gi q hq).1) 60 (by omega) (by have := gait_len hg; unfold cap; omega)
  obtain ⟨ds, s3, l3, g3, o3, e3⟩ := lc_draw (i := 9) (fe := C1_law) (lo := 0) (Ok := OkS) (Good := IntIn 0 60) (fun s => [.scr ns, .dat (.int k), .own (encS s), a3, .dat (encI f), .dat (encG g), .dat (encT (toils f g 60)), a7, a8, .un]) (fun _ => by simp) (fun s j hs => by
    have rd := r_draw s 61 hs (by omega) (by omega)
    have d0 := drV_0 (s := s) (many := 61) (by omega)
    have d1 := drV_lt (s := s) (many := 61) (by omega)
    exact ⟨.int (drV s 61), drS s 61, ⟨_, rfl, d0, by omega⟩, drS_ok hs, by simp [C1_law, -List.map_map, th_ok, th_ex, th_ite, e_bind, e_ret, e_opt, ts_ok, ts_ex, ts_ite, e_bindS, sq_nx, sq_rt, sq_ex, sq_bk, sq_ct, sq_ite, e_seqS, fin_nx, fin_rt, fin_ex, fin_ite, e_fnOf, wb_ok, wb_ex, wb_ite, vA1_b, e_vAnd, vO1_b, e_vOr, vN1_b, e_vNot, ch1_b, e_chM, e_toB, e_mAnd, e_mOr, e_mNot, e_mIte, e_iteS, lp_nx, lp_ct, lp_bk, lp_rt, lp_ex, lp_ite, forL_nil, forL_nm, e_forS, okArgs, isOwn, outs, nam, frz, look, lookAll, ap1, ap2, apA, un1, bin2, opA, isiM, retS, drpS, setS, setN, putS, put, unpS, asg, mCons, mNil, e_mTup, mt1_ok, e_mLst, ml1_ok, callM, argsOf, argOf, ownIx, Sk.wb, List.getElem?_cons_zero, List.getElem?_cons_succ, List.getElem?_nil, List.set_cons_zero, List.set_cons_succ, List.replicate_succ, List.replicate_zero, List.cons_append, List.nil_append, List.foldl_cons, List.foldl_nil, List.getD_cons_zero, List.getD_cons_succ, List.all_cons, List.all_nil, isiD, tyN, dLt, dLe, dGt, dGe, dAdd_i, dEq_i, dNe_i, dSub, iOp, dLen_t, dLen_l, e_seqM, sq1_l, sq1_t, e_partM, pa1_i, sliM, isN_none, notN_none, isN_int, notN_int, isN_bool, notN_bool, isN_str, notN_str, isN_list, notN_list, isN_tup, notN_tup, isN_dict, notN_dict, raiseS, mDat, mNew, e_callAt, cal_some, wbl_ok, wbl_ex, wbl_ite, e_lcM, e_rng1, e_rng2, e_enuM, en1_l, en1_t, e_zipM, zi1_l, dMnN_i, dMx_l, dMx_t, asg_nm, asg_tp, put, e_appM, isOwnL_l, e_apd, apo_l, notN_OI, isN_OI, dNe_n0, rd]⟩) (fun _ _ _ => rfl) 4 0 [] s2 o2 (by decide)
  rw [List.nil_append, ← rngL'] at e3
  obtain ⟨b7, e4⟩ := loop1 ns k hf hg s3 a3 a8 (rngL 0 13 ++ ds) a7 (fun d hd => by
    rcases List.mem_append.mp hd with hd | hd
    · obtain ⟨j, hj, rfl⟩ := mem_rng hd
      exact ⟨j, by omega, by rw [Int.zero_add]⟩
    · obtain ⟨i, rfl, h0, h1⟩ := g3 d hd
      exact ⟨i.toNat, by omega, by rw [Int.toNat_of_nonneg h0]⟩)
  have c1 : dLstRg (.int 13) = some (.list (rngL 0 13)) := rfl
  have sm : Sml 0 4 := sml (by omega)
  have rt : m__law_toils [.dat (encI f), .dat (encG g), .dat (.int 60)] = .ok (encT (toils f g 60)) [.dat (encI f), .dat (encG g), .dat (.int 60)] := rt
  have ct : dCat (.list (rngL 0 13)) (.list ds) = some (.list (rngL 0 13 ++ ds)) := e_chk (by rw [l3, rng_len]; decide)
  refine ⟨s3, f, g, encT (toils f g 60), b7, o3, hf, hg, ?_⟩
  rw [← e4]
  have e3' : lcL (.nm 9) (M.ret true) C1_law [9] [] (rngL 0 4) [.scr ns, .dat (.int k), .own (encS s2), a3, .dat (encI f), .dat (encG g), .dat (encT (toils f g 60)), a7, a8, .un] = _ := e3
  simp [L2_law, -List.map_map, th_ok, th_ex, th_ite, e_bind, e_ret, e_opt, ts_ok, ts_ex, ts_ite, e_bindS, sq_nx, sq_rt, sq_ex, sq_bk, sq_ct, sq_ite, e_seqS, fin_nx, fin_rt, fin_ex, fin_ite, e_fnOf, wb_ok, wb_ex, wb_ite, vA1_b, e_vAnd, vO1_b, e_vOr, vN1_b, e_vNot, ch1_b, e_chM, e_toB, e_mAnd, e_mOr, e_mNot, e_mIte, e_iteS, lp_nx, lp_ct, lp_bk, lp_rt, lp_ex, lp_ite, forL_nil, e_forS, okArgs, isOwn, outs, nam, frz, look, lookAll, ap1, ap2, apA, un1, bin2, opA, isiM, retS, drpS, setS, setN, putS, put, unpS, asg, mCons, mNil, e_mTup, mt1_ok, e_mLst, ml1_ok, callM, argsOf, argOf, ownIx, Sk.wb, List.getElem?_cons_zero, List.getElem?_cons_succ, List.getElem?_nil, List.set_cons_zero, List.set_cons_succ, List.replicate_zero, List.cons_append, List.nil_append, List.foldl_cons, List.foldl_nil, List.getD_cons_zero, List.getD_cons_succ, List.all_cons, List.all_nil, isiD, tyN, dLt, dLe, dGt, dGe, dAdd_i, dEq_i, dNe_i, dSub, iOp, dLen_t, dLen_l, e_seqM, sq1_l, sq1_t, e_partM, pa1_i, sliM, isN_none, notN_none, isN_int, notN_int, isN_bool, notN_bool, isN_str, notN_str, isN_list, notN_list, isN_tup, notN_tup, isN_dict, notN_dict, raiseS, mDat, mNew, e_callAt, cal_some, wbl_ok, wbl_ex, wbl_ite, e_lcM, e_rng1, e_rng2, e_enuM, en1_l, en1_t, e_zipM, zi1_l, dMnN_i, dMx_l, dMx_t, asg_nm, asg_tp, put, e_appM, isOwnL_l, e_apd, apo_l, notN_OI, isN_OI, dNe_n0, r1, r2, rt, c1, rn1_ok sm, e3', ct, lSt]
theorem loop2 : ∀ (m j : Nat) (s : Src) (a3 a4 a5 a6 a7 a8 : Sl), OkS s → ∃ (s' : Src) (b3 b4 b5 b6 b7 : Sl), OkS s' ∧ (0 < m → ∃ f g, isFord (encI f) = true ∧ isGait (encG g) = true ∧ b4 = .dat (encI f) ∧ b5 = .dat (encG g)) ∧
    forL (.nm 3) L2_law [] ((List.range' j m).map fun k : Nat => .int (0 + (k : Int))) [.scr ns, .dat (.int k), .own (encS s), a3, a4, a5, a6, a7, a8, .un] = .nx [.scr ns, .dat (.int k), .own (encS s'), b3, b4, b5, b6, b7, a8, .un]
  | 0, j, s, a3, a4, a5, a6, a7, a8, hs => ⟨s, a3, a4, a5, a6, a7, hs, fun z => by omega, rfl⟩
  | m + 1, j, s, a3, a4, a5, a6, a7, a8, hs => by
    obtain ⟨s1, f, g, T, b7, o1, hf, hg, e1⟩ := law2 ns k s hs (.dat (.int (0 + (j : Int)))) a4 a5 a6 a7 a8
    obtain ⟨s2, c3, c4, c5, c6, c7, o2, q, e2⟩ := loop2 m (j + 1) s1 (.dat (.int (0 + (j : Int)))) (.dat (encI f)) (.dat (encG g)) (.dat T) b7 a8 o1
    refine ⟨s2, c3, c4, c5, c6, c7, o2, fun _ => ?_, ?_⟩
    · cases m with
      | zero =>
        have e2 : SOut.nx [.scr ns, .dat (.int k), .own (encS s1), .dat (.int (0 + (j : Int))), .dat (encI f), .dat (encG g), .dat T, b7, a8, .un] = .nx [.scr ns, .dat (.int k), .own (encS s2), c3, c4, c5, c6, c7, a8, .un] := e2
        simp only [SOut.nx.injEq, List.cons.injEq] at e2
        exact ⟨f, g, hf, hg, e2.2.2.2.2.1.symm, e2.2.2.2.2.2.1.symm⟩
      | succ m => exact q (by omega)
    · rw [List.range'_succ, List.map_cons, forL_nm]
      show (L2_law [.scr ns, .dat (.int k), .own (encS s), .dat (.int (0 + (j : Int))), a4, a5, a6, a7, a8, .un]).lp _ = _
      rw [e1, lp_nx]
      exact e2
end
theorem law3 (ns : List Int) (k : Nat) (hk : k < 1000000) (a2 a3 a4 a5 a6 a7 a8 : Sl) : ∃ b2 b3 b4 b5 b6 b7 b8 : Sl,
    L3_law [.scr ns, .dat (.int (k : Int)), a2, a3, a4, a5, a6, a7, a8, .un] = .nx [.scr ns, .dat (.int (k : Int)), b2, b3, b4, b5, b6, b7, b8, .un] := by
  have rs := r_source ns k hk
  have os := src_ok ns k
  generalize srcOf ns k = s at rs os
  obtain ⟨s', b3, b4, b5, b6, b7, o', q, e⟩ := loop2 ns (k : Int) 4 0 s a3 a4 a5 a6 a7 a8 os
  obtain ⟨f, g, hf, hg, rfl, rfl⟩ := q (by omega)
  rw [← rngL'] at e
  have sm : Sml 0 4 := sml (by omega)
  have w1 : m_cheapest [.dat (.tuple [.int 4]), .dat .none, .dat (.int 61)] = .ex ⟨0, none⟩ [.dat (.tuple [.int 4]), .dat .none, .dat (.int 61)] := by
    have := r_cheapest_g (.tuple [.int 4]) .none (.int 61) (by simp [isFord, isFrom])
    simpa [isFord, isFrom] using this
  have w2 : m_cheapest [.dat (encI f), .dat (.tuple []), .dat (.int 61)] = .ex ⟨1, none⟩ [.dat (encI f), .dat (.tuple []), .dat (.int 61)] := by
    have := r_cheapest_g (encI f) (.tuple []) (.int 61) (by simp [isGait])
    simpa [hf, isGait] using this
  have w3 : m_cheapest [.dat (encI f), .dat (encG g), .dat (.int 61)] = .ex ⟨2, none⟩ [.dat (encI f), .dat (encG g), .dat (.int 61)] := by
    have := r_cheapest_g (encI f) (encG g) (.int 61) (by simp [isFrom])
    simpa [hf, hg] using this
  have w4 : m_cheapest [.dat (encI f), .dat (encG g), .dat (.bool true)] = .ex ⟨2, none⟩ [.dat (encI f), .dat (encG g), .dat (.bool true)] := by
    have := r_cheapest_g (encI f) (encG g) (.bool true) (by simp [isFrom])
    simpa [hf, hg] using this
  have w5 : m_cheapest [.dat (encI f), .dat (encG g), .dat (.int 60)] = .ok (encW (cheapestL f g 60)) [.dat (encI f), .dat (encG g), .dat (.int 60)] := r_cheapest hf hg 60 (Nat.le_refl _)
  have nw := ne_strs ["ford", "gait", "width", "width", ""] (by decide +kernel)
  simp only [List.map_cons, List.map_nil] at nw
  have sz : ∀ i : Nat, i < 100 → i < cap := fun i h => by unfold cap; omega
  refine ⟨.own (encS s'), b3, .dat (encI f), .dat (encG g), b6, b7, .own (.list [.str "ford", .str "gait", .str "width", .str "width", .str ""]), ?_⟩
  simp [L3_law, -List.map_map, th_ok, th_ex, th_ite, e_bind, e_ret, e_opt, ts_ok, ts_ex, ts_ite, e_bindS, sq_nx, sq_rt, sq_ex, sq_bk, sq_ct, sq_ite, e_seqS, fin_nx, fin_rt, fin_ex, fin_ite, e_fnOf, wb_ok, wb_ex, wb_ite, vA1_b, e_vAnd, vO1_b, e_vOr, vN1_b, e_vNot, ch1_b, e_chM, e_toB, e_mAnd, e_mOr, e_mNot, e_mIte, e_iteS, lp_nx, lp_ct, lp_bk, lp_rt, lp_ex, lp_ite, forL_nil, e_forS, okArgs, isOwn, outs, nam, frz, look, lookAll, ap1, ap2, apA, un1, bin2, opA, isiM, retS, drpS, setS, setN, putS, put, unpS, asg, mCons, mNil, e_mTup, mt1_ok, e_mLst, ml1_ok, callM, argsOf, argOf, ownIx, Sk.wb, List.getElem?_cons_zero, List.getElem?_cons_succ, List.getElem?_nil, List.set_cons_zero, List.set_cons_succ, List.replicate_zero, List.cons_append, List.nil_append, List.foldl_cons, List.foldl_nil, List.getD_cons_zero, List.getD_cons_succ, List.all_cons, List.all_nil, isiD, tyN, dLt, dLe, dGt, dGe, dAdd_i, dEq_i, dNe_i, dSub, iOp, dLen_t, dLen_l, e_seqM, sq1_l, sq1_t, e_partM, pa1_i, sliM, isN_none, notN_none, isN_int, notN_int, isN_bool, notN_bool, isN_str, notN_str, isN_list, notN_list, isN_tup, notN_tup, isN_dict, notN_dict, raiseS, mDat, mNew, e_callAt, cal_some, wbl_ok, wbl_ex, wbl_ite, e_lcM, e_rng1, e_rng2, e_enuM, en1_l, en1_t, e_zipM, zi1_l, dMnN_i, dMx_l, dMx_t, asg_nm, asg_tp, put, e_appM, isOwnL_l, e_apd, apo_l, notN_OI, isN_OI, dNe_n0, rs, rn1_ok sm, e, wordM, w1, w2, w3, w4, w5, nw, sz]
end Zk03
set_option maxHeartbeats 4000000
namespace Zk03
open PySem PySem.Spec PyProof.Rows L2 Sk LamX
theorem loop3 (ns : List Int) : ∀ (n j : Nat) (a1 a2 a3 a4 a5 a6 a7 a8 : Sl), j + n < 1000000 → ∃ b1 b2 b3 b4 b5 b6 b7 b8 : Sl,
    forL (.nm 1) L3_law [] ((List.range' j n).map fun k : Nat => .int (0 + (k : Int))) [.scr ns, a1, a2, a3, a4, a5, a6, a7, a8, .un] = .nx [.scr ns, b1, b2, b3, b4, b5, b6, b7, b8, .un]
  | 0, j, a1, a2, a3, a4, a5, a6, a7, a8, _ => ⟨_, _, _, _, _, _, _, _, rfl⟩
  | n + 1, j, a1, a2, a3, a4, a5, a6, a7, a8, h => by
    obtain ⟨b2, b3, b4, b5, b6, b7, b8, e⟩ := law3 ns j (by omega) a2 a3 a4 a5 a6 a7 a8
    obtain ⟨c1, c2, c3, c4, c5, c6, c7, c8, e2⟩ := loop3 ns n (j + 1) (.dat (.int (j : Int))) b2 b3 b4 b5 b6 b7 b8 (by omega)
    refine ⟨c1, c2, c3, c4, c5, c6, c7, c8, ?_⟩
    rw [List.range'_succ, List.map_cons, forL_nm, Int.zero_add]
    show (L3_law [.scr ns, .dat (.int (j : Int)), a2, a3, a4, a5, a6, a7, a8, .un]).lp _ = _
    rw [e, lp_nx]
    exact e2
abbrev fW : List Int := [1, 1, 0]
abbrev gW : List (Int × Int) := [(1, 2), (2, 3)]
theorem written (f : List Int) (g : List (Int × Int)) (n : Nat) (hn : n ≤ 60) (w : Option (List Int)) (hf : isFord (encI f) = true) (hg : isGait (encG g) = true) (h : cheapestL f g n = w) : m_cheapest [.dat (encI f), .dat (encG g), .dat (.int (n : Int))] = .ok (encW w) [.dat (encI f), .dat (encG g), .dat (.int (n : Int))] := by
  rw [← h]
  exact r_cheapest hf hg n hn
theorem good : ∀ ns : List Int, ns.length ≤ 63 → (∀ z ∈ ns, Builtin.Int.intBits z ≤ 1048576) → ∃ st, m_law [.scr ns] = .ok (.bool true) st := by
  intro ns hl _
  have mn : dMin2 [.int (ns.length : Int), .int 8] = some (.int (if (8 : Int) < ns.length then 8 else ns.length)) := rfl
  generalize hm : (if (8 : Int) < ns.length then (8 : Int) else ns.length) = m at mn
  have hm2 : 0 ≤ m ∧ m ≤ 63 := by
    split at hm <;> omega
  have sm : Sml 0 (1 + m) := sml (by omega)
  obtain ⟨b1, b2, b3, b4, b5, b6, b7, b8, e⟩ := loop3 ns (1 + m).toNat 0 .un .un .un .un .un .un .un .un (by omega)
  rw [← rngL'] at e
  have c1 : m_cheapest [.dat (.tuple [.int 1, .int 1, .int 0]), .dat (.tuple [.tuple [.int 1, .int 2], .tuple [.int 2, .int 3]]), .dat (.int 3)] = .ok (.tuple [.int 2, .int 2]) [.dat (.tuple [.int 1, .int 1, .int 0]), .dat (.tuple [.tuple [.int 1, .int 2], .tuple [.int 2, .int 3]]), .dat (.int 3)] := written [1, 1, 0] [(1, 2), (2, 3)] 3 (by omega) (some [2, 2]) (by decide +kernel) (by decide +kernel) (by decide +kernel)
  have c2 : m_cheapest [.dat (.tuple [.int 1, .int 1, .int 0]), .dat (.tuple [.tuple [.int 1, .int 2]]), .dat (.int 3)] = .ok .none [.dat (.tuple [.int 1, .int 1, .int 0]), .dat (.tuple [.tuple [.int 1, .int 2]]), .dat (.int 3)] := written [1, 1, 0] [(1, 2)] 3 (by omega) none (by decide +kernel) (by decide +kernel) (by decide +kernel)
  have c3 : m_cheapest [.dat (.tuple [.int 1, .int 1, .int 0]), .dat (.tuple [.tuple [.int 1, .int 2], .tuple [.int 2, .int 3]]), .dat (.int 0)] = .ok (.tuple [.int 1]) [.dat (.tuple [.int 1, .int 1, .int 0]), .dat (.tuple [.tuple [.int 1, .int 2], .tuple [.int 2, .int 3]]), .dat (.int 0)] := written [1, 1, 0] [(1, 2), (2, 3)] 0 (by omega) (some [1]) (by decide +kernel) (by decide +kernel) (by decide +kernel)
  have c4 : m_cheapest [.dat (.tuple [.int 1]), .dat (.tuple [.tuple [.int 1, .int 1], .tuple [.int 2, .int 9]]), .dat (.int 4)] = .ok (.tuple [.int 1, .int 1, .int 1, .int 1, .int 1]) [.dat (.tuple [.int 1]), .dat (.tuple [.tuple [.int 1, .int 1], .tuple [.int 2, .int 9]]), .dat (.int 4)] := written [1] [(1, 1), (2, 9)] 4 (by omega) (some [1, 1, 1, 1, 1]) (by decide +kernel) (by decide +kernel) (by decide +kernel)
  have c5 : m_cheapest [.dat (.tuple [.int 1]), .dat (.tuple [.tuple [.int 1, .int 5], .tuple [.int 2, .int 1]]), .dat (.int 1)] = .ok (.tuple [.int 2]) [.dat (.tuple [.int 1]), .dat (.tuple [.tuple [.int 1, .int 5], .tuple [.int 2, .int 1]]), .dat (.int 1)] := written [1] [(1, 5), (2, 1)] 1 (by omega) (some [2]) (by decide +kernel) (by decide +kernel) (by decide +kernel)
  have c6 : m_cheapest [.dat (.tuple [.int 1]), .dat (.tuple [.tuple [.int 1, .int 5], .tuple [.int 2, .int 1]]), .dat (.int 3)] = .ok (.tuple [.int 2, .int 2]) [.dat (.tuple [.int 1]), .dat (.tuple [.tuple [.int 1, .int 5], .tuple [.int 2, .int 1]]), .dat (.int 3)] := written [1] [(1, 5), (2, 1)] 3 (by omega) (some [2, 2]) (by decide +kernel) (by decide +kernel) (by decide +kernel)
  obtain ⟨w9, h9, t9⟩ : ∃ w, cheapestL [1, 1, 0] [(1, 2), (2, 3)] 9 = some w ∧ toilW [1, 1, 0] [(1, 2), (2, 3)] 9 w = some 16 := ⟨(cheapestL [1, 1, 0] [(1, 2), (2, 3)] 9).getD [], by decide +kernel, by decide +kernel⟩
  have c7 : m_cheapest [.dat (.tuple [.int 1, .int 1, .int 0]), .dat (.tuple [.tuple [.int 1, .int 2], .tuple [.int 2, .int 3]]), .dat (.int 9)] = .ok (encI w9) [.dat (.tuple [.int 1, .int 1, .int 0]), .dat (.tuple [.tuple [.int 1, .int 2], .tuple [.int 2, .int 3]]), .dat (.int 9)] := written [1, 1, 0] [(1, 2), (2, 3)] 9 (by omega) (some w9) (by decide +kernel) (by decide +kernel) h9
  have l9 := r_ltoil (f := [1, 1, 0]) (g := [(1, 2), (2, 3)]) (by simp) 9 w9 (by decide +kernel) (by decide)
  rw [t9] at l9
  have l9 : m__law_toil [.dat (.tuple [.int 1, .int 1, .int 0]), .dat (.tuple [.tuple [.int 1, .int 2], .tuple [.int 2, .int 3]]), .dat (.int 9), .dat (encI w9)] = .ok (.int 16) [.dat (.tuple [.int 1, .int 1, .int 0]), .dat (.tuple [.tuple [.int 1, .int 2], .tuple [.int 2, .int 3]]), .dat (.int 9), .dat (encI w9)] := l9
  have n1 : dNe (.tuple [.int 2, .int 2]) (.tuple [.int 2, .int 2]) = some (.bool false) := dNe_T [2, 2] [2, 2]
  have n2 : dNe (.tuple [.int 1]) (.tuple [.int 1]) = some (.bool false) := dNe_T [1] [1]
  have n3 : dNe (.tuple [.int 1, .int 1, .int 1, .int 1, .int 1]) (.tuple [.int 1, .int 1, .int 1, .int 1, .int 1]) = some (.bool false) := dNe_T [1, 1, 1, 1, 1] [1, 1, 1, 1, 1]
  have n4 : dNe (.tuple [.int 2]) (.tuple [.int 2]) = some (.bool false) := dNe_T [2] [2]
  have ct : dCutT (.tuple [.tuple [.int 1, .int 2], .tuple [.int 2, .int 3]]) none (some 1) = some (.tuple [.tuple [.int 1, .int 2]]) := rfl
  have rp : dRepT (.tuple [.int 1]) (.int 5) = some (.tuple [.int 1, .int 1, .int 1, .int 1, .int 1]) := rfl
  refine ⟨[.scr ns], ?_⟩
  simp [m_law, b_law, -List.map_map, th_ok, th_ex, th_ite, e_bind, e_ret, e_opt, ts_ok, ts_ex, ts_ite, e_bindS, sq_nx, sq_rt, sq_ex, sq_bk, sq_ct, sq_ite, e_seqS, fin_nx, fin_rt, fin_ex, fin_ite, e_fnOf, wb_ok, wb_ex, wb_ite, vA1_b, e_vAnd, vO1_b, e_vOr, vN1_b, e_vNot, ch1_b, e_chM, e_toB, e_mAnd, e_mOr, e_mNot, e_mIte, e_iteS, lp_nx, lp_ct, lp_bk, lp_rt, lp_ex, lp_ite, forL_nil, e_forS, okArgs, isOwn, outs, nam, frz, look, lookAll, ap1, ap2, apA, un1, bin2, opA, isiM, retS, drpS, setS, setN, putS, put, unpS, asg, mCons, mNil, e_mTup, mt1_ok, e_mLst, ml1_ok, callM, argsOf, argOf, ownIx, Sk.wb, List.getElem?_cons_zero, List.getElem?_cons_succ, List.getElem?_nil, List.set_cons_zero, List.set_cons_succ, List.replicate_zero, List.cons_append, List.nil_append, List.foldl_cons, List.foldl_nil, List.getD_cons_zero, List.getD_cons_succ, List.all_cons, List.all_nil, isiD, tyN, dLt, dLe, dGt, dGe, dAdd_i, dEq_i, dNe_i, dSub, iOp, dLen_t, dLen_l, e_seqM, sq1_l, sq1_t, e_partM, pa1_i, sliM, isN_none, notN_none, isN_int, notN_int, isN_bool, notN_bool, isN_str, notN_str, isN_list, notN_list, isN_tup, notN_tup, isN_dict, notN_dict, raiseS, mDat, mNew, e_callAt, cal_some, wbl_ok, wbl_ex, wbl_ite, e_lcM, e_rng1, e_rng2, e_enuM, en1_l, en1_t, e_zipM, zi1_l, dMnN_i, dMx_l, dMx_t, asg_nm, asg_tp, put, e_appM, isOwnL_l, e_apd, apo_l, notN_OI, isN_OI, dNe_n0, List.replicate_succ, lenS, mn, rn1_ok sm, e, c1, c2, c3, c4, c5, c6, c7, l9, n1, n2, n3, n4, ct, rp]
end Zk03
open PySem PySem.W PySem.Calls PyProof.Rows
theorem PySem.Challenge.cw_sinkstones_k03_whole_walks_with_least_to_holds : PySem.Challenge.rw_sinkstones_k03_whole_walks_with_least_to.Holds := by
  w_on; o_law
  refine HandSHeadRun.head_any (r := OpenLaw.row PySem.Challenge.rw_sinkstones_k03_whole_walks_with_least_to) (q := view (OpenLaw.row PySem.Challenge.rw_sinkstones_k03_whole_walks_with_least_to).prog [38]) (H := Zk03.hkL) (ob := Zk03.obL) (M := 6000) (loose := Zk03.looseL) (d := HandSHeadRun.topDef (OpenLaw.row PySem.Challenge.rw_sinkstones_k03_whole_walks_with_least_to).prog 38) (kwd := [])
    Zk03.obL_eq (by kernel_rfl) (fun s => by kernel_rfl) Zk03.runL (by kernel_rfl) (by kernel_rfl) (by kernel_rfl) (by rfl) (by first | assumption | decide +kernel) (by decide +kernel) ⟨rfl, rfl, rfl, rfl, rfl, by decide +kernel⟩ ?hw ?hc
  case hw => w_witness2
  case hc =>
    refine LamX.walk_ofTsE (l := PySem.Challenge.rw_sinkstones_k03_whole_walks_with_least_to) (n := 63) (k := 10) (x := "script") (CX := fun w => L2.CX PySem.Challenge.rw_sinkstones_k03_whole_walks_with_least_to.prog w) rfl (by decide) (by kernel_rfl) ⟨rfl, by decide, by decide⟩ ?F (fun _ _ _ _ _ z => by
      obtain ⟨_, _, _, _, _, _, _, _, _, _, _, _, _, z⟩ := z)
    intro w mg fa h ⟨K, KX, c⟩ G hmg0
    have hmg : mg Zk03.d_law.name = some (.ref fa) := by
      have e : (HandSHeadRun.topDef (OpenLaw.row PySem.Challenge.rw_sinkstones_k03_whole_walks_with_least_to).prog 38).name = Zk03.d_law.name := by kernel_rfl
      rw [← e]
      exact hmg0
    exact ⟨K, KX, Sk.law_at (iL := 23) (d := Zk03.d_law) c KX G rfl rfl rfl rfl hmg (fun _ _ _ _ _ _ us hl => match us, hl with | [_], _ => rfl) (fun base hx => Zk03.ok_law hx) fun ns hl hb => Zk03.good ns hl hb⟩
