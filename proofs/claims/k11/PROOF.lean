import PyProof.Rows.All
import Wide.All
import OpenK.AllK
import Wide.FinOn
import HandS.ForMost
import HandS.TupMul
import HandS.TupAny
import HandS.Zip
import HandS.Rev
import KE.GoesMore
import PyProof.LongRange
import HandS.ForExc
import HandS.IsInst
import HandS.Wide
import HandS.Flow
import HandS.Small
import HandS.CallLocal
import HandS.Defaults
import HandS.Gcd
import HandS.SortRule
import HandS.SortInts
import HandS.Style
import HandS.Codes
import HandS.TryMany
import HandS.ExcIs
import HandS.ExcOwn
import KE.DataMinMax
import HandS.Conv
import HandS.Iter
import HandS.Deep
import HandS.SetFor
import HandS.More
import PySem.Challenge.RW_coldpairs_k11_main_what_wins_from_great
set_option Elab.async false
set_option linter.all false
set_option maxRecDepth 100000
set_option maxHeartbeats 4000000
/-! DL0: tuple * int, however often; zip of a reversed tuple and a list. -/
namespace DL
open PySem PySem.W L2 PySem.Spec PyProof.Rows

/-! ### tuple * int -/
theorem mulT_one (l : Addr) (ys : Array Value) (n : Nat) (sl : Array (Option Value)) (dd : Option Addr) (u : Tok) :
    Meets (Builtin.«tuple.__mul__» ⟨[.ref l, .int 1 u], []⟩) (fun _ R z => z.heap.get? l = some { cls := .type "tuple", dict := dd, data := .seq ys n, slots := sl } ∧ R (.ok (.ret (Value.ref l))) z) :=
  .of_wp fun prog w A R z q => by
    obtain ⟨hp, g, d, tk, os⟩ := z
    obtain ⟨hl, q⟩ := q
    have f1 := AutoSeq1.idx_int
    have c1 : (ys.isEmpty || (1 : Int) == 1) = true := by simp
    wp_walk using wpAny_loadPart' hl
    repeat (first
      | (refine wpAny_ite_true (decide_eq_true c1) ?_; wp_walk using wpAny_loadPart' hl)
      | (refine wpAny_ite_false (decide_eq_false (by decide)) ?_; wp_walk using wpAny_loadPart' hl))
    exact ⟨_, rfl, q⟩
theorem mulT_nil (l : Addr) (ys : Array Value) (n : Nat) (sl : Array (Option Value)) (dd : Option Addr) (k : Int) (u : Tok) (hk : k ≤ 0) (hk2 : -1000 ≤ k) (hy : ys.isEmpty = false) :
    Meets (Builtin.«tuple.__mul__» ⟨[.ref l, .int k u], []⟩) (fun _ R z => z.heap.get? l = some { cls := .type "tuple", dict := dd, data := .seq ys n, slots := sl } ∧
      R (.ok (.ret (Value.ref z.heap.objs.size))) { z with heap := z.heap.push { cls := .type "tuple", data := .seq #[] } }) :=
  .of_wp fun prog w A R z q => by
    obtain ⟨hp, g, d, tk, os⟩ := z
    obtain ⟨hl, q⟩ := q
    have f1 := AutoSeq1.idx_int
    have c0 : (decide (k < -(2 ^ 63)) || decide (k ≥ 2 ^ 63)) = false := by
      rw [decide_eq_false (by omega), decide_eq_false (by omega)]; rfl
    have c1 : (ys.isEmpty || k == 1) = false := by
      rw [hy, Bool.false_or]
      exact beq_eq_false_iff_ne.mpr (by omega)
    have c2 : (decide (k ≤ 0) || ys.isEmpty) = true := by
      rw [decide_eq_true hk]; rfl
    wp_walk using wpAny_loadPart' hl
    repeat (first
      | (refine wpAny_ite_false (decide_eq_false (by rw [c0]; decide)) ?_; wp_walk using wpAny_loadPart' hl)
      | (refine wpAny_ite_false (decide_eq_false (by rw [c1]; decide)) ?_; wp_walk using wpAny_loadPart' hl)
      | (refine wpAny_ite_true (decide_eq_true c2) ?_; wp_walk using wpAny_loadPart' hl)
      | (refine wpAny_ite_false (decide_eq_false (by decide)) ?_; wp_walk using wpAny_loadPart' hl))
    exact ⟨_, rfl, q⟩
def rRepTA (K : PySem.W.Frag) : R2 := fun x y H Q => ∃ l k xs, x = .ref l ∧ y = .int k ∧ SqT K H l xs ∧ xs ≠ [] ∧ k ≤ 1 ∧ 0 ≤ k ∧ (k = 1 → Q (.ref l) H) ∧ (k = 0 → ∀ p, H p = none → Q (.ref p) (upd H p (.tup [])))
section
variable {X : Cx}
theorem op_repTA : OpR X (binaryOp .Mult) (rRepTA X.K) := by
  intro pins s σ H x y v u Q I rx ry h
  obtain ⟨l, k, xs, rfl, rfl, hT, hne, h1, h0, q1, q0⟩ := h
  cases rx
  obtain ⟨t, rfl⟩ := ry
  obtain ⟨its, r, ⟨⟨cls, dd, data, sl⟩, ho, hc, n, hd⟩, hs⟩ := I.tuple hT
  simp only at hc hd
  subst hc hd
  have hi : its.toArray.isEmpty = false := by
    cases its with
    | nil =>
      cases r
      exact absurd rfl hne
    | cons a b => rfl
  have go : ∀ {Qv : Value → Shared → Prop} (h2 : wpAny (model X.prog X.w) X.A.in1.in1.in1 (Builtin.«tuple.__mul__» ⟨[.ref l, .int k t], []⟩) (fun fin s' => ∃ v, fin = .done (.ret v) ∧ Qv v s') X.xe s), True := fun _ => trivial
  have hk : k = 0 ∨ k = 1 := by omega
  rcases hk with rfl | rfl
  · refine wpAny_binaryOp_repeat_ref (T := "tuple") (U := "int") (by decide) ⟨_, ho, rfl⟩ (fun s' => typeIs_int s' 0 t) noFill_tuple_mul F.fills_int_mul F.slot_int_rmul repeat_tuple F.slot_int_index.lookup
      (call_meets F.slot_int_rmul (typeIs_int s 0 t) F.entry_int_rmul (F.args_int_rmul_2 _ _) (int_rmul_tuple 0 t l its.toArray n dd sl) ⟨ho, rfl, ⟨_, ho, rfl⟩, call_meets F.slot_tuple_mul ⟨_, ho, rfl⟩ F.entry_tuple_mul (F.args_tuple_mul_2 _ _) (mulT_nil l its.toArray n sl dd 0 t (by decide) (by decide) hi) ⟨ho, ?_⟩⟩)
    refine ⟨.ref s.heap.objs.size, _, I.laid (t' := s.toks) (o := .tup []) (fun b ob q => Heap.get?_push_of_some _ q) (Nat.le_refl _) ?_, rfl, q0 rfl _ (I.hok.fresh (Nat.le_refl _))⟩
    exact ⟨by rw [sizeLine_eq]; exact Nat.zero_le _, [], .nil, IsTup.new _ _⟩
  · exact wpAny_binaryOp_repeat_ref (T := "tuple") (U := "int") (by decide) ⟨_, ho, rfl⟩ (fun s' => typeIs_int s' 1 t) noFill_tuple_mul F.fills_int_mul F.slot_int_rmul repeat_tuple F.slot_int_index.lookup
      (call_meets F.slot_int_rmul (typeIs_int s 1 t) F.entry_int_rmul (F.args_int_rmul_2 _ _) (int_rmul_tuple 1 t l its.toArray n dd sl) ⟨ho, rfl, ⟨_, ho, rfl⟩, call_meets F.slot_tuple_mul ⟨_, ho, rfl⟩ F.entry_tuple_mul (F.args_tuple_mul_2 _ _) (mulT_one l its.toArray n sl dd t) ⟨ho, ⟨.ref l, H, I, rfl, q1 rfl⟩⟩⟩)
end

/-! ### zip(reversed(t), xs) -/
section
variable {prog : Program} {w : World} {A : Around} {E : Value → Shared → Prop} {s : Shared}
theorem rt_item {j c : Addr} {i : Nat} {ys : Array Value} {x : Value} {Q : Value → Shared → Prop} (hj : RT.IsRt s.heap j c (i : Int)) (hc : IsTup s.heap c ys) (hx : ys[i]? = some x) (hsz : ys.size ≤ sizeLine)
    (hQ : ∀ h', RT.IsRt h' j c ((i : Int) - 1) → Heap.SameBut j s.heap h' → Q x { s with heap := h', toks := s.toks + 1 }) : wpAny (model prog w) A (Builtin.SmallTypes.nextOf (.ref j)) Q E s := by
  obtain ⟨o, ho, hcl, hd⟩ := id hj
  have hi : i < ys.size := (Array.getElem?_eq_some_iff.mp hx).1
  have hT : s.TypeIs (.ref c) "tuple" := RT.IsTup.typeOf' hc
  rw [sizeLine_eq] at hsz
  unfold Builtin.SmallTypes.nextOf
  refine wpAny_bind (wpAny_callSpecial?_slot (name := Str.ofString "__next__") hj.typeIs RT.slot_rt_next (wpAny_call_entry RT.slot_rt_next hj.typeIs RT.entry_rt_next ?_ (RT.args_rt_next _)))
  unfold Builtin.«reversed.__next__»
  refine wpAny_bind (wpAny_of_eq (a := (Value.ref j, [])) rfl ?_); try dsimp only
  refine wpAny_bind (wpAny_field ho hd (x := .ref c) rfl ?_); try dsimp only
  refine wpAny_bind (wpAny_field ho hd (x := rawInt (i : Int)) rfl ?_); show wpAny _ _ (if (i : Int) < 0 then _ else _) _ _ s
  rw [if_neg (by omega)]; try dsimp only
  refine wpAny_bind (wpAny_specialOf hT RT.get_tuple ?_); try dsimp only
  try rw [if_neg (by decide)]
  try dsimp only
  refine wpAny_bind (wpAny_mkInt ?_)
  refine wpAny_bind (wpAny_attempt ?_)
  have fin : seqIndex? (i : Int) ys.size = some i := seqIndex_of (by omega) (by omega)
  refine PyProof.Rows.getItem_tuple (s := { s with toks := s.toks + 1 }) hc (by omega) (by omega) fin hx ?_; try dsimp only
  refine wpAny_bind (wpAny_field (s := { s with toks := s.toks + 1 }) ho hd (x := rawInt (i : Int)) rfl ?_); try dsimp only
  refine wpAny_bind (wpAny_setField (s := { s with toks := s.toks + 1 }) ho hd (by simp) ?_); try dsimp only
  first
  | refine wpAny_pure ⟨x, rfl, wpAny_pure (hQ _ ?_ (Heap.SameBut.update ..))⟩; exact ⟨_, Heap.get?_update_self _ ho (Obj.isFreed_of_fields (Obj.data_mapFields hd _)), (Obj.cls_mapFields ..).trans hcl, by rw [Obj.data_mapFields hd]; simp⟩
  | refine wpAny_bind (wpAny_pure (wpAny_pure ⟨x, rfl, wpAny_pure (hQ _ ?_ (Heap.SameBut.update ..))⟩)); exact ⟨_, Heap.get?_update_self _ ho (Obj.isFreed_of_fields (Obj.data_mapFields hd _)), (Obj.cls_mapFields ..).trans hcl, by rw [Obj.data_mapFields hd]; simp⟩
theorem rt_end {j c : Addr} {Q : Value → Shared → Prop} (hh : A.handled = none) (hj : RT.IsRt s.heap j c (-1))
    (hE : ∀ h' e, Heap.ExtBut j s.heap h' → (∃ o, h'.get? e = some o ∧ o.cls = .type "StopIteration") → E (.ref e) { s with heap := h' }) : wpAny (model prog w) A (Builtin.SmallTypes.nextOf (.ref j)) Q E s := by
  obtain ⟨o, ho, hcl, hd⟩ := id hj
  unfold Builtin.SmallTypes.nextOf
  refine wpAny_bind (wpAny_callSpecial?_slot (name := Str.ofString "__next__") hj.typeIs RT.slot_rt_next (wpAny_call_entry RT.slot_rt_next hj.typeIs RT.entry_rt_next ?_ (RT.args_rt_next _)))
  unfold Builtin.«reversed.__next__»
  refine wpAny_bind (wpAny_of_eq (a := (Value.ref j, [])) rfl ?_); try dsimp only
  refine wpAny_bind (wpAny_field ho hd (x := .ref c) rfl ?_); try dsimp only
  refine wpAny_bind (wpAny_field ho hd (x := rawInt (-1)) rfl ?_); show wpAny _ _ (if (-1 : Int) < 0 then _ else _) _ _ s
  rw [if_pos (by decide)]; try dsimp only
  refine wpAny_bind (wpAny_rule ?_)
  refine wpAny_bind ?_; wp_delta
  refine wpAny_bind (wpAny_setField ho hd (by simp) ?_)
  have ho2 := Heap.get?_update_self (Obj.mapFields (·.setIfInBounds 1 (rawInt (-1)))) ho (Obj.isFreed_of_fields (Obj.data_mapFields hd _))
  refine wpAny_setField (s := { s with heap := s.heap.update j (Obj.mapFields (·.setIfInBounds 1 (rawInt (-1)))) }) ho2 (Obj.data_mapFields hd _) (by simp) ?_; try dsimp only
  first
  | (show wpAny _ _ (newExc (.type "StopIteration") [] >>= _) _ _ _)
  | (refine wpAny_bind ?_; (show wpAny _ _ (newExc (.type "StopIteration") [] >>= _) _ _ _))
  | (refine wpAny_bind ?_; wp_delta; (show wpAny _ _ (newExc (.type "StopIteration") [] >>= _) _ _ _))
  refine wpAny_bind ?_; simp only [newExc, newTuple]
  refine wpAny_bind (wpAny_newObj_type ?_ (by size_fits))
  refine wpAny_bind (m := firstArgMember _ _) (wpAny_of_eq (a := Value.none) (by first | rfl | (simp only [firstArgMember]; rfl)) ?_); refine wpAny_newObj_type ?_ (by size_fits)
  simp only [raiseNew]
  refine wpAny_bind (wpAny_handled ?_); first | rw [show A.in1.handled = none from hh] | rw [hh]
  refine wpAny_bind (wpAny_pure (wpAny_throw ?_)); refine hE _ _ ?_ ⟨_, Heap.get?_push_size _ rfl, rfl⟩
  refine ((?_ : Heap.ExtBut j s.heap _).push _).push _
  exact fun b ob hb e => (Heap.get?_update_other _ _ (Ne.symm hb)).trans ((Heap.get?_update_other _ _ (Ne.symm hb)).trans e)
end
theorem draws_rt {prog : Program} {w : World} {A : Around} (hh : A.handled = none) (j c : Addr) (hne : c ≠ j) (ys : Array Value) (hsz : ys.size ≤ sizeLine) :
    Draws prog w A j [j, c] ys.size (fun i v => ys[ys.size - 1 - i]? = some v) (fun i h => i ≤ ys.size ∧ RT.IsRt h j c ((ys.size : Int) - 1 - (i : Nat)) ∧ IsTup h c ys) where
  live := fun _ _ st => let ⟨o, ho, _⟩ := st.2.1; ⟨o, ho⟩
  frame := fun _ _ _ st hk => ⟨st.1, st.2.1.at fun o e => hk j (by simp) o e, by
    obtain ⟨o, ho, hcl, n, hd⟩ := st.2.2
    exact ⟨o, hk c (by simp) o ho, hcl, n, hd⟩⟩
  item := fun i s Q E hi st hQ => by
    obtain ⟨_, st1, st2⟩ := st
    rw [show (ys.size : Int) - 1 - ((i : Nat) : Int) = ((ys.size - 1 - i : Nat) : Int) by omega] at st1
    have hlt : ys.size - 1 - i < ys.size := by omega
    refine rt_item st1 st2 (x := ys[ys.size - 1 - i]) (by simp [hlt]) hsz fun h' st' sb => hQ _ h' (s.toks + 1) (by simp [hlt]) ⟨by omega, ?_, ?_⟩ sb
    · rw [show (ys.size : Int) - 1 - ((i + 1 : Nat) : Int) = ((ys.size - 1 - i : Nat) : Int) - 1 by omega]
      exact st'
    · obtain ⟨o, ho, hcl, n, hd⟩ := st2
      exact ⟨o, (sb.2 _ hne).trans ho, hcl, n, hd⟩
  done := fun s Q E st hE => by
    obtain ⟨_, st1, _⟩ := st
    rw [show (ys.size : Int) - 1 - ((ys.size : Nat) : Int) = -1 by omega] at st1
    exact rt_end hh st1 hE
abbrev zT (h : Heap) (i1 : Addr) (o2 : Obj) : Heap := (h.push o2).push { cls := .type "tuple", data := .seq #[.ref i1, .ref h.objs.size] }
abbrev zO (h : Heap) (i1 : Addr) (o2 : Obj) : Heap := (zT h i1 o2).push { cls := .type "tuple", data := .seq #[.none, .none] }
abbrev zZ (h : Heap) (i1 : Addr) (o2 : Obj) : Heap := (zO h i1 o2).push { cls := .type "zip", data := .fields #[.none, .bool false, .bool false, .ref (h.push o2).objs.size, .ref (zT h i1 o2).objs.size] }
theorem meets_zipS {i1 c : Addr} {k : Int} {v2 : Value} {o2 : Obj} {H2 : Heap → Prop} (B2 : Begins v2 o2 H2) :
    Meets (Builtin.«zip.__new__» ⟨[.type "zip", .ref i1, v2], []⟩) (fun _ R z => (RT.IsRt z.heap i1 c k ∧ H2 z.heap) ∧ R (.ok (.ret (.ref (zO z.heap i1 o2).objs.size))) { z with heap := zZ z.heap i1 o2 }) :=
  .of_wp fun prog w A R z q => by
    obtain ⟨hp, g, d, tk, os⟩ := z
    obtain ⟨⟨h1, h2⟩, q⟩ := q
    have hsub := sub_zip
    have q1 : ∀ {A' : Around} {E : Value → Shared → Prop} {Q : Value → Shared → Prop}, Q (.ref i1) ⟨hp, g, d, tk, os⟩ → wpAny (model prog w) A' (pyIter (.ref i1)) Q E ⟨hp, g, d, tk, os⟩ := fun q => RT.iter_rt (s := ⟨hp, g, d, tk, os⟩) h1 q
    have q2 : ∀ {A' : Around} {E : Value → Shared → Prop} {Q : Value → Shared → Prop}, Q (.ref hp.objs.size) ⟨hp.push o2, g, d, tk, os⟩ → wpAny (model prog w) A' (pyIter v2) Q E ⟨hp, g, d, tk, os⟩ := fun q => B2.iter prog w _ _ ⟨hp, g, d, tk, os⟩ _ h2 q
    wp_walk using q1, q2
    exact ⟨_, rfl, q⟩
theorem zip_startS {prog : Program} {w : World} {A : Around} {E : Value → Shared → Prop} {s : Shared} {i1 c : Addr} {k : Int} {v2 : Value} {o2 : Obj} {H2 : Heap → Prop} {Q : Value → Shared → Prop} (B2 : Begins v2 o2 H2) (h1 : RT.IsRt s.heap i1 c k) (h2 : H2 s.heap)
    (h : ∀ h', IsZip h' (s.heap.objs.size + 3) (s.heap.objs.size + 1) (s.heap.objs.size + 2) .none → IsPair h' (s.heap.objs.size + 1) (.ref i1) (.ref s.heap.objs.size) → IsPair h' (s.heap.objs.size + 2) .none .none →
      h'.get? s.heap.objs.size = some o2 → h'.objs.size = s.heap.objs.size + 4 → (∀ b o, s.heap.get? b = some o → h'.get? b = some o) → Q (.ref (s.heap.objs.size + 3)) { s with heap := h' }) :
    wpAny (model prog w) A (call (.type "zip") [.ref i1, v2]) Q E s := by
  refine callType_new F.called_zip (by decide) (F.typeCall_zip_2 _ _) (F.newCall_zip_2 _ _) (fun obj => F.args_object_init_3 obj _ _) F.entry_zip_new (meets_zipS (c := c) (k := k) B2) ⟨⟨h1, h2⟩, ?_⟩
  have z2 : (s.heap.push o2).objs.size = s.heap.objs.size + 1 := by rw [Heap.size_push]
  have z3 : (zT s.heap i1 o2).objs.size = s.heap.objs.size + 2 := by rw [Heap.size_push, z2]
  have z4 : (zO s.heap i1 o2).objs.size = s.heap.objs.size + 3 := by rw [Heap.size_push, z3]
  have z5 : (zZ s.heap i1 o2).objs.size = s.heap.objs.size + 4 := by rw [Heap.size_push, z4]
  have gZ : (zZ s.heap i1 o2).get? (zO s.heap i1 o2).objs.size = some { cls := .type "zip", data := .fields #[.none, .bool false, .bool false, .ref (s.heap.push o2).objs.size, .ref (zT s.heap i1 o2).objs.size] } := Heap.get?_push_size _ rfl
  have gO : (zZ s.heap i1 o2).get? (zT s.heap i1 o2).objs.size = some { cls := .type "tuple", data := .seq #[.none, .none] } := Heap.get?_push_of_some _ (Heap.get?_push_size _ rfl)
  have gT : (zZ s.heap i1 o2).get? (s.heap.push o2).objs.size = some { cls := .type "tuple", data := .seq #[.ref i1, .ref s.heap.objs.size] } := Heap.get?_push_of_some _ (Heap.get?_push_of_some _ (Heap.get?_push_size _ rfl))
  have g2 : (zZ s.heap i1 o2).get? s.heap.objs.size = some o2 := Heap.get?_push_of_some _ (Heap.get?_push_of_some _ (Heap.get?_push_of_some _ (Heap.get?_push_size _ B2.free)))
  rw [z4, z3, z2] at gZ
  rw [z3] at gO
  rw [z2] at gT
  show _ ∧ _
  rw [z4]
  exact ⟨⟨_, gZ, rfl⟩, h _ gZ gT gO g2 z5 fun b o e => Heap.get?_push_of_some _ (Heap.get?_push_of_some _ (Heap.get?_push_of_some _ (Heap.get?_push_of_some _ e)))⟩

/-- the tuple at a from behind, the list at b, the items in new pairs -/
def ItzR (K : PySem.W.Frag) (a b : Addr) (n : Nat) : It :=
  ⟨fun i H => i < n ∧ ∃ (xs ys : List V) (x y : V), SqT K H a xs ∧ SqL K H b ys ∧ xs.length = n ∧ xs[n - 1 - i]? = some x ∧ ys[i]? = some y,
    fun i H v H' => ∃ T x y, v = .ref T ∧ H T = none ∧ H' = upd H T (.tup [x, y]) ∧ (∀ xs, SqT K H a xs → xs[n - 1 - i]? = some x) ∧ ∀ ys, SqL K H b ys → ys[i]? = some y,
    fun i H => ∃ xs ys : List V, SqT K H a xs ∧ SqL K H b ys ∧ xs.length = n ∧ i ≤ n ∧ i ≤ ys.length ∧ (n = i ∨ ys.length = i)⟩
theorem turn_zipR {P : Program} {w : World} {K : PySem.W.Frag} {elts : List Expr} {kk : Nat} {tpos : Pos} {a b z TI TO i1 i2 : Addr} (n : Nat) (S : ZipSep2 z TI TO i1 i2 [i1, a] [i2, b]) (ha : a ≠ i1) (hb : b ≠ i2) :
    Turn P w K (.Tuple elts kk tpos) (ItzR K a b n) [z, TI, TO, i1, i2] z (fun i h => IsZip h z TI TO .none ∧ IsPair h TI (.ref i1) (.ref i2) ∧ (∃ x y, IsPair h TO x y) ∧ RT.IsRt h i1 a ((n : Int) - 1 - (i : Nat)) ∧ h.IsListIter i2 b i) where
  mem := by simp
  obj := fun i h st c hc => by
    obtain ⟨hz, hTI, ⟨x, y, hTO⟩, ⟨o1, e1, _, d1⟩, ⟨o2, e2, _, d2⟩⟩ := st
    have e' : c = z ∨ c = TI ∨ c = TO ∨ c = i1 ∨ c = i2 := by simpa using hc
    rcases e' with rfl | rfl | rfl | rfl | rfl
    · exact ⟨_, hz, fun v q => nomatch q⟩
    · exact ⟨_, hTI, fun v q => nomatch q⟩
    · exact ⟨_, hTO, fun v q => nomatch q⟩
    · exact ⟨o1, e1, fun v q => by rw [d1] at q; cases q⟩
    · exact ⟨o2, e2, fun v q => by rw [d2] at q; cases q⟩
  keep := fun i h h' st k => by
    obtain ⟨hz, hTI, ⟨x, y, hTO⟩, h1, h2⟩ := st
    exact ⟨k z (by simp) _ hz, k TI (by simp) _ hTI, ⟨x, y, k TO (by simp) _ hTO⟩, h1.at fun o q => k i1 (by simp) o q, h2.at fun o q => k i2 (by simp) o q⟩
  item := by
    intro X hP hw hK hc i pins s σ H E I hf st hg
    subst hP hw hK
    obtain ⟨hz, hTI, ⟨x0, y0, hTO⟩, h1, h2⟩ := st
    obtain ⟨hin, xs, ys, x, y, hqx, hqy, hn, hx, hy⟩ := hg
    obtain ⟨its, rv, p, hz1⟩ := I.tuple hqx
    obtain ⟨its2, rv2, p2, hz2⟩ := I.list hqy
    obtain ⟨u, hu, ru⟩ := rv.get hx
    obtain ⟨u2, hu2, ru2⟩ := rv2.get hy
    have hzl : z < s.heap.objs.size := Heap.lt_size hz
    have e1 : its.toArray.size = n := by rw [List.size_toArray, ← rv.length]; exact hn
    have e2 : i < its2.toArray.size := by
      have := (List.getElem?_eq_some_iff.mp hu2).1
      simpa using this
    have hh : X.A.in1.handled = none := I.ok.hd hc
    refine wpAny_pyNext_zipD2_item (i := i) S (draws_rt hh i1 a ha its.toArray (by rw [List.size_toArray, ← rv.length]; exact hz1)) (Draws.list hh i2 b hb its2.toArray) hz hTI hTO ⟨by omega, by rw [e1]; exact h1, p⟩ ⟨h2, p2.isList⟩ (by omega) e2
      fun x1 x2 h' tk px1 px2 z' TO' s1' s2' hT hsz hk => ?_
    have ex1 : x1 = u := by
      have q : its.toArray[its.toArray.size - 1 - i]? = some x1 := px1
      rw [e1] at q
      have q2 : its.toArray[n - 1 - i]? = some u := by simpa using hu
      rw [q2] at q
      exact (Option.some.inj q).symm
    have ex2 : x2 = u2 := by
      have q : its2.toArray[i]? = some x2 := px2
      have q2 : its2.toArray[i]? = some u2 := by simpa using hu2
      rw [q2] at q
      exact (Option.some.inj q).symm
    subst ex1 ex2
    refine ⟨_, rfl, wpAny_letOwnedTupleGo_zip (s := { s with heap := h', toks := tk }) z' fun h'' z'' sb => ?_⟩
    have hT2 : h''.get? s.heap.objs.size = some { cls := .type "tuple", data := .seq #[x1, x2] } := (sb.2 _ (Nat.ne_of_gt hzl)).trans hT
    have new : ObjOk X.prog X.w (upd H s.heap.objs.size (.tup [x, y])) h'' s.heap.objs.size (.tup [x, y]) :=
      ⟨by show 2 ≤ sizeLine; decide, [x1, x2], .cons ru (.cons ru2 .nil), ⟨_, hT2, rfl, _, rfl⟩⟩
    have I1 : Inv X pins σ (upd H s.heap.objs.size (.tup [x, y])) { s with heap := h'', toks := tk } :=
      I.turnedNew (t' := tk) (ch := [z, TI, TO, i1, i2]) (fun c o hb q => (sb.2 c (fun q' => hb (by simp [q']))).trans (hk c o (fun q' => hb (by simp [q'])) (fun q' => hb (by simp [q'])) (fun q' => hb (by simp [q'])) (fun q' => hb (by simp [q'])) q)) hf (Nat.le_refl _) new
    have i1z : i1 ≠ z := fun q => S.zf1 (by rw [← q]; simp)
    have i2z : i2 ≠ z := fun q => S.zf2 (by rw [← q]; simp)
    refine ⟨.ref s.heap.objs.size, _, I1, rfl, ⟨_, x, y, rfl, I.hok.fresh (Nat.le_refl _), rfl, fun l hl => by rw [I.tuple_inj hl hqx]; exact hx, fun l hl => by rw [I.list_inj hl hqy]; exact hy⟩, ⟨z'', ?_, ⟨x1, x2, ?_⟩, ?_, ?_⟩, fun c hcm => ?_⟩
    · exact (sb.2 _ S.TIz).trans (hk _ _ S.TIz S.TITO S.TIi1 S.TIi2 hTI)
    · exact (sb.2 _ S.TOz).trans TO'
    · have q := s1'.2.1
      rw [e1] at q
      exact q.at fun o q => (sb.2 _ i1z).trans q
    · exact s2'.1.at fun o q => (sb.2 _ i2z).trans q
    · have hlt : c < s.heap.objs.size := by
        have e' : c = z ∨ c = TI ∨ c = TO ∨ c = i1 ∨ c = i2 := by simpa using hcm
        rcases e' with rfl | rfl | rfl | rfl | rfl
        · exact hzl
        · exact Heap.lt_size hTI
        · exact Heap.lt_size hTO
        · obtain ⟨_, e1, _⟩ := h1; exact Heap.lt_size e1
        · obtain ⟨_, e2, _⟩ := h2; exact Heap.lt_size e2
      rw [upd_ne (Nat.ne_of_lt hlt)]
      exact (hf c hcm).1
  done := by
    intro X hP hw hK hc i pins s σ H E I hf st hg
    subst hP hw hK
    obtain ⟨hz, hTI, ⟨x0, y0, hTO⟩, h1, h2⟩ := st
    obtain ⟨xs, ys, hqx, hqy, hn, hin, hiy, hend⟩ := hg
    obtain ⟨its, rv, p, hz1⟩ := I.tuple hqx
    obtain ⟨its2, rv2, p2, hz2⟩ := I.list hqy
    have e1 : its.toArray.size = n := by rw [List.size_toArray, ← rv.length]; exact hn
    have e2 : its2.toArray.size = ys.length := by rw [List.size_toArray, ← rv2.length]
    have hh : X.A.in1.handled = none := I.ok.hd hc
    exact wpAny_pyNext_zipD2_end (i := i) S (draws_rt hh i1 a ha its.toArray (by rw [List.size_toArray, ← rv.length]; exact hz1)) (Draws.list hh i2 b hb its2.toArray) hz hTI hTO ⟨by omega, by rw [e1]; exact h1, p⟩ ⟨h2, p2.isList⟩ (by omega) (by omega) (by omega)
      fun h' tk hk => ⟨rfl, I.turnedL (t' := tk) (ch := [z, TI, TO, i1, i2]) (fun c o hb q => hk c o (fun q' => hb (by simp [q'])) (fun q' => hb (by simp [q'])) (fun q' => hb (by simp [q'])) (fun q' => hb (by simp [q'])) q) hf⟩
  self := fun A i s Q E st h => wpAny_pyIter_zip st.1 h

theorem sep_nat {m l a b : Nat} (l2 : m < l) (l3 : a < m) (l4 : b < l) (l5 : b ≠ m) : ZipSep2 (l + 3) (l + 1) (l + 2) m l [m, a] [l, b] := by
  have no : ∀ {x y z : Nat}, x ≠ y → x ≠ z → x ∉ [y, z] := fun h1 h2 q => by
    rcases List.mem_cons.mp q with q | q
    · exact h1 q
    · exact h2 (List.mem_singleton.mp q)
  have lt : ∀ {x y : Nat}, x < y → x ≠ y := fun h => Nat.ne_of_lt h
  have gt : ∀ {x y : Nat}, y < x → x ≠ y := fun h => Nat.ne_of_gt h
  exact ⟨lt (show l + 1 < l + 3 by omega), lt (show l + 2 < l + 3 by omega), lt (show l + 1 < l + 2 by omega), gt (show m < l + 1 by omega), List.mem_cons_self, no (gt (by omega)) (gt (by omega)), no (gt (by omega)) (gt (by omega)), gt (show l < l + 1 by omega), List.mem_cons_self, no (gt (by omega)) (gt (by omega)), no (gt (by omega)) (gt (by omega)), no (lt l2) l5.symm, no (gt l2) (gt (by omega))⟩
/-- zip(reversed(e), e2), e a tuple, e2 a list -/
def iZipR (K : PySem.W.Frag) (ta tb : TE) : TI := fun σ H R => ta σ H fun v H1 => ∃ (a : Addr) (xs : List V), v = .ref a ∧ SqT K H1 a xs ∧ tb σ H1 fun u H2 => ∃ (b : Addr) (ys : List V), u = .ref b ∧ SqT K H2 a xs ∧ SqL K H2 b ys ∧ R (ItzR K a b xs.length) H2
theorem pi_zipR {X : Cx} {e e2 : Expr} {ta tb : TE} {p p2 pos pos2 tpos : Pos} {elts : List Expr} {kk : Nat} (hg : Gl X "zip") (hm : X.mg "zip" = none) (hg2 : Gl X "reversed") (hm2 : X.mg "reversed" = none) (he : PE X e ta) (he2 : PE X e2 tb)
    (hs : starEach [e] X.env = (false, eval e X.env) :: starEach [] X.env := by rfl) (hs2 : starEach [e2] X.env = (false, eval e2 X.env) :: starEach [] X.env := by rfl)
    (hs3 : starEach [.Call (.Name "reversed" p2) [e] [] pos2, e2] X.env = (false, eval (.Call (.Name "reversed" p2) [e] [] pos2) X.env) :: starEach [e2] X.env := by rfl)
    (hpl : (backTo pos (starEach [e2] X.env)).any (·.1) = false := by rfl) :
    PI X (.Tuple elts kk tpos) (.Call (.Name "zip" p) [.Call (.Name "reversed" p2) [e] [] pos2, e2] [] pos) (iZipR X.K ta tb) := by
  refine ⟨fun pins s σ H R I h => ?_⟩
  refine Call_ (ld_blt I hg hm PyProof.Rows.boot_zip (PyProof.Rows.callWith_type1 (args_cons (Call_ (ld_blt I hg2 hm2 PyProof.Rows.boot_reversed (PyProof.Rows.callWith_type1 (args_cons (thn (he.run pins s σ H _ I h) fun u s1 ⟨v, H1, I1, r1, q1⟩ => args_nil ?_) hs) hs rfl))) hs3) hs3 hpl))
  obtain ⟨a, xs, ev, hq, q⟩ := q1
  subst ev
  obtain rfl : u = Value.ref a := r1
  obtain ⟨its, rv, p', hz⟩ := I1.tuple hq
  have hl := rv.length
  have hn := line63
  have e1 : ((its.toArray.size : Nat) : Int) - 1 = (xs.length : Int) - 1 - ((0 : Nat) : Int) := by simp only [List.size_toArray]; omega
  refine RT.call_reversed_tup p' (fun A E Q k => len_tuple p' (by simp only [List.size_toArray] <;> omega) k) ?_
  rw [e1]
  have hit : RT.IsRt (s1.heap.push (RT.rtObj a ((xs.length : Int) - 1 - ((0 : Nat) : Int)))) s1.heap.objs.size a ((xs.length : Int) - 1 - ((0 : Nat) : Int)) := ⟨_, Heap.get?_push_size _ rfl, rfl, rfl⟩
  have I2 : Inv X pins σ H1 { s1 with heap := s1.heap.push (RT.rtObj a ((xs.length : Int) - 1 - ((0 : Nat) : Int))), toks := s1.toks + 1 + 1 } := I1.kept (t' := s1.toks + 1 + 1) fun b o e => Heap.get?_push_of_some _ e
  have f0 : FpOk X pins H1 s1.heap.objs.size := I1.fpOk (Nat.le_refl _) (I1.hok.fresh (Nat.le_refl _))
  have I3 := I2.pinned (fp := [s1.heap.objs.size]) (fun b hb => by
    have e : b = s1.heap.objs.size := by simpa using hb
    rw [e]; exact f0) (fun b hb => by
    have e : b = s1.heap.objs.size := by simpa using hb
    rw [e]; exact ⟨_, Heap.get?_push_size _ rfl, fun v q => nomatch q⟩)
  refine args_cons (thn (he2.run _ _ σ H1 _ I3 q) fun u2 s2 ⟨v2, H2, I4, r2, q2⟩ => args_nil ?_) hs2
  obtain ⟨b, ys, ev2, hq1, hq2, q2⟩ := q2
  subst ev2
  obtain rfl : u2 = Value.ref b := r2
  have hpin := I4.pin (s1.heap.objs.size, RT.rtObj a ((xs.length : Int) - 1 - ((0 : Nat) : Int))) (List.mem_append_right _ (List.mem_append_right _ (mem_pinsAt (List.mem_singleton.mpr rfl) (Heap.get?_push_size _ rfl))))
  have hit2 : RT.IsRt s2.heap s1.heap.objs.size a ((xs.length : Int) - 1 - ((0 : Nat) : Int)) := ⟨_, hpin.1, rfl, rfl⟩
  have f2 : FpOk X pins H2 s1.heap.objs.size := ⟨hpin.2.1, f0.2⟩
  have I5 : Inv X pins σ H2 s2 := I4.unpinned
  obtain ⟨its1, rv1, pa, hz1⟩ := I5.tuple hq1
  obtain ⟨its2, rv2, pb, hz2⟩ := I5.list hq2
  have la : a < s2.heap.objs.size := by obtain ⟨_, ho, _⟩ := id pa; exact Heap.lt_size ho
  have lb : b < s2.heap.objs.size := pb.lt
  have l1 : s1.heap.objs.size < s2.heap.objs.size := Heap.lt_size hpin.1
  have na : a < s1.heap.objs.size := by obtain ⟨_, ho, _⟩ := id p'; exact Heap.lt_size ho
  have nb : b ≠ s1.heap.objs.size := fun z => by
    rcases pb.isList with ⟨o, ho, hc, _⟩
    rw [z, hpin.1] at ho
    cases ho
    have e : (Value.type "reversed" : Value) = .type "list" := hc
    exact absurd (Value.type.inj e) (by decide)
  refine zip_startS (c := a) (k := (xs.length : Int) - 1 - ((0 : Nat) : Int)) (begins_list b its2.toArray) hit2 pb.isList fun h' hz' hTI hTO g2 hsz hk => wpAny_pyIter_zip hz' ?_
  have I6 : Inv X pins σ H2 { s2 with heap := h' } := I5.kept (t' := s2.toks) hk
  have fresh : ∀ c, c ∈ [s2.heap.objs.size + 3, s2.heap.objs.size + 1, s2.heap.objs.size + 2, s1.heap.objs.size, s2.heap.objs.size] → FpOk X pins H2 c := fun c hcm => by
    have e' : c = s2.heap.objs.size + 3 ∨ c = s2.heap.objs.size + 1 ∨ c = s2.heap.objs.size + 2 ∨ c = s1.heap.objs.size ∨ c = s2.heap.objs.size := by simpa using hcm
    rcases e' with z | z | z | z | z
    · exact I5.fpOk (by omega) (I5.hok.fresh (by omega))
    · exact I5.fpOk (by omega) (I5.hok.fresh (by omega))
    · exact I5.fpOk (by omega) (I5.hok.fresh (by omega))
    · rw [z]; exact f2
    · exact I5.fpOk (by omega) (I5.hok.fresh (by omega))
  have S : ZipSep2 (s2.heap.objs.size + 3) (s2.heap.objs.size + 1) (s2.heap.objs.size + 2) s1.heap.objs.size s2.heap.objs.size [s1.heap.objs.size, a] [s2.heap.objs.size, b] := sep_nat l1 na lb nb
  exact ⟨s2.heap.objs.size + 3, _, _, _, H2, rfl, I6, turn_zipR xs.length S (Nat.ne_of_lt na) (Nat.ne_of_lt lb), ⟨hz', hTI, ⟨_, _, hTO⟩, hit2.at fun o e => hk _ o e, ⟨_, g2, rfl, rfl⟩⟩, fresh, q2⟩

/-! ### ranges of numbers however great -/
theorem turn_long {P : Program} {w : World} {K : PySem.W.Frag} {tg : Expr} (j : Addr) (lo : Int) (n : Nat) : Turn P w K tg (Itr lo n) [j] j (fun i h => IsLongIter h j (lo + (i : Nat) * 1) ((n : Int) - (i : Nat)) 1) where
  mem := by simp
  obj := fun i h st c hc => by
    have e : c = j := by simpa using hc
    subst e
    exact ⟨_, st, fun v z => by
      have y : Data.fields _ = Data.cell v := z
      cases y⟩
  keep := fun i h h' st k => k j (by simp) _ st
  item := by
    intro X hP hw hK hc i pins s σ H E I hf st hg
    subst hP hw hK
    obtain ⟨f0, f1, f2, f3, f4, f5⟩ := hf j (by simp)
    have W := Walks.longrange (prog := X.prog) (w := X.w) (I.ok.hd hc) j lo 1 n
    refine W.item i s _ _ hg st fun v h' tk hv st' kk => ?_
    obtain ⟨t, rfl⟩ := hv
    have I1 : Inv X pins σ H { s with heap := h', toks := tk } := I.turned (fun c o hb e => kk c o (by simpa using hb) e) f0 f1 f3 f4 f5
    refine ⟨_, rfl, go_of (s := { s with heap := h', toks := tk }) (n := "longrange_iterator") st' rfl rfl (by decide) ⟨.int (lo + i), H, I1, ⟨t, by rw [Int.mul_one]⟩, ⟨rfl, rfl⟩, st', fun c hb => (hf c hb).1⟩⟩
  done := by
    intro X hP hw hK hc i pins s σ H E I hf st hg
    subst hP hw hK
    obtain ⟨f0, f1, f2, f3, f4, f5⟩ := hf j (by simp)
    have hle : n ≤ i := hg
    exact wpAny_pyNext_long_end (I.ok.hd hc) st (by omega) fun h' eb => ⟨rfl, I.turned (t' := s.toks) (fun c o hb e => eb c o hb e) f0 f1 f3 f4 f5⟩
  self := fun _ _ _ _ _ st h => wpAny_pyIter_longiter st h
theorem range_any {X : Cx} {tg : Expr} {pins : List (Addr × Obj)} {σ : L2.St} {H : Hp} {s : Shared} {R : It → Hp → Prop} {E : Value → Shared → Prop} {lo hi : Int} {t u v : Tok} {tk : Nat} (I : Inv X pins σ H s)
    (q : R (Itr lo (hi - lo).toNat) H) : wpAny (model X.prog X.w) X.A (pyIter (.ref s.heap.objs.size)) (PIE X pins σ tg R) E { s with heap := s.heap.push { cls := .type "range", data := .fields #[.int lo t, .int hi u, .int 1 v] }, toks := tk } := by
  have I1 : Inv X pins σ H { s with heap := s.heap.push { cls := .type "range", data := .fields #[.int lo t, .int hi u, .int 1 v] }, toks := tk } := I.kept fun b o e => Heap.get?_push_of_some _ e
  have e1 : lo + ((0 : Nat) : Int) * 1 = lo := by simp
  have e2 : (((hi - lo).toNat : Nat) : Int) - ((0 : Nat) : Int) = Builtin.Range.rangeSize lo hi 1 := by rw [rangeSize_one]; split <;> omega
  by_cases hsm : Builtin.Range.small lo hi 1 = true
  · refine wpAny_pyIter_range (IsRange.new ..) hsm ?_
    refine ⟨_, [(s.heap.push { cls := .type "range", data := .fields #[.int lo t, .int hi u, .int 1 v] }).objs.size], _, _, H, rfl, I1.kept (t' := tk) fun b o e => Heap.get?_push_of_some _ e, turn_range _ lo (hi - lo).toNat, ?_, fun b hb => ?_, q⟩
    · show IsRangeIter _ _ (lo + ((0 : Nat) : Int) * 1) ((((hi - lo).toNat : Nat) : Int) - ((0 : Nat) : Int)) 1
      rw [e1, e2]; exact Heap.get?_push_size _ rfl
    · have e : b = (s.heap.push { cls := .type "range", data := .fields #[.int lo t, .int hi u, .int 1 v] }).objs.size := by simpa using hb
      subst e; exact I1.fpOk (Nat.le_refl _) (I1.hok.fresh (Nat.le_refl _))
  · refine wpAny_pyIter_longrange (IsRange.new ..) (by simpa using hsm) ?_
    refine ⟨_, [(s.heap.push { cls := .type "range", data := .fields #[.int lo t, .int hi u, .int 1 v] }).objs.size], _, _, H, rfl, I1.kept (t' := tk) fun b o e => Heap.get?_push_of_some _ e, turn_long _ lo (hi - lo).toNat, ?_, fun b hb => ?_, q⟩
    · show IsLongIter _ _ (lo + ((0 : Nat) : Int) * 1) ((((hi - lo).toNat : Nat) : Int) - ((0 : Nat) : Int)) 1
      rw [e1, e2]; exact Heap.get?_push_size _ rfl
    · have e : b = (s.heap.push { cls := .type "range", data := .fields #[.int lo t, .int hi u, .int 1 v] }).objs.size := by simpa using hb
      subst e; exact I1.fpOk (Nat.le_refl _) (I1.hok.fresh (Nat.le_refl _))
/-- range(i, j), whatever i and j -/
def iRngA (ta : TA) : TI := fun σ H R => ta σ H fun vs H1 => ∃ i j : Int, vs = [.int i, .int j] ∧ R (Itr i (j - i).toNat) H1
theorem pi_rangeA {X : Cx} {tg : Expr} {a b : Expr} {ta : TA} {p pos : Pos} (hg : Gl X "range") (hm : X.mg "range" = none) (ha : PA X [a, b] ta) (hs : starEach [a, b] X.env = [(false, eval a X.env), (false, eval b X.env)] := by rfl) (hs2 : starEach [b] X.env = [(false, eval b X.env)] := by rfl) :
    PI X tg (.Call (.Name "range" p) [a, b] [] pos) (iRngA ta) := by
  refine ⟨fun pins s σ H R I h => ?_⟩
  refine Call_ (ld_blt I hg hm boot_range (PyProof.Rows.callWith_type1 (thn (ha.run pos pins s σ H _ I h) fun us s1 ⟨vs, H1, I1, r1, q1⟩ => ?_) (by rw [hs, hs2]) (by rw [hs2]; rfl)))
  obtain ⟨i, j, e, q⟩ := q1
  subst e
  cases r1 with
  | cons r rr =>
    cases rr with
    | cons r' rr =>
      cases rr
      obtain ⟨t, rfl⟩ := r
      obtain ⟨t', rfl⟩ := r'
      exact call_range_2 (range_any I1 q)
end DL

set_option Elab.async false
set_option linter.all false
set_option maxRecDepth 100000
set_option maxHeartbeats 4000000
/-! DL: what a def does, told by its data alone. D: data; Rp: a value that stands for data; SR: a frame whose slots hold shared data or objects of its own. -/
namespace DL
open PySem L2

/-! ### data and heaps -/
inductive D where
  | non | bl (b : Bool) | int (i : Int) | str (s : Str) | lst (xs : List D) | tup (xs : List D) | raw (v : V)
  | dK (kvs : List (Key × D)) | dT (kvs : List (List Key × D)) | fro (xs : List D) | zT (kvs : List (List Key × D))
instance : Inhabited D := ⟨.non⟩

mutual
inductive Rp (K : PySem.W.Frag) (H : Hp) : V → D → Prop
  | non : Rp K H .non .non
  | bl (b : Bool) : Rp K H (.bl b) (.bl b)
  | int (i : Int) : Rp K H (.int i) (.int i)
  | str (x : Str) : Rp K H (.str x) (.str x)
  | lst {a : Addr} {vs : List V} {ds : List D} : H a = some (.lst vs) → Rps K H vs ds → Rp K H (.ref a) (.lst ds)
  | tup {a : Addr} {vs : List V} {ds : List D} : H a = some (.tup vs) → Rps K H vs ds → Rp K H (.ref a) (.tup ds)
  | fro {a : Addr} {vs : List V} {ds : List D} : SqL K H a vs → Rps K H vs ds → Rp K H (.ref a) (.fro ds)
  | raw (v : V) : Rp K H v (.raw v)
  | dK {a : Addr} {kvs : List (Key × V)} {kds : List (Key × D)} : H a = some (.dK kvs) → kvs.map (·.1) = kds.map (·.1) → Rps K H (kvs.map (·.2)) (kds.map (·.2)) → Rp K H (.ref a) (.dK kds)
  | dT {a : Addr} {kvs : List (List Key × V)} {kds : List (List Key × D)} : H a = some (.dT kvs) → kvs.map (·.1) = kds.map (·.1) → Rps K H (kvs.map (·.2)) (kds.map (·.2)) → Rp K H (.ref a) (.dT kds)
  | zT {a : Addr} {o : Obj} {kvs : List (List Key × V)} {kds : List (List Key × D)} : H a = some (.frz o (.dT kvs)) → kvs.map (·.1) = kds.map (·.1) → Rps K H (kvs.map (·.2)) (kds.map (·.2)) → Rp K H (.ref a) (.zT kds)
inductive Rps (K : PySem.W.Frag) (H : Hp) : List V → List D → Prop
  | nil : Rps K H [] []
  | cons {v : V} {vs : List V} {d : D} {ds : List D} : Rp K H v d → Rps K H vs ds → Rps K H (v :: vs) (d :: ds)
end

theorem sameT {K : PySem.W.Frag} {H H' : Hp} {a : Addr} {xs : List V} (e : Same H H') (h : H a = some (.tup xs)) : SqT K H' a xs := .inl (.inl (e _ _ h))

section
variable {K : PySem.W.Frag} {H H' : Hp}
mutual
theorem Rp.mono (s : Same H H') : ∀ {v : V} {d : D}, Rp K H v d → Rp K H' v d
  | _, _, .non => .non
  | _, _, .bl b => .bl b
  | _, _, .int i => .int i
  | _, _, .str x => .str x
  | _, _, .lst h r => .lst (s _ _ h) (Rps.mono s r)
  | _, _, .tup h r => .tup (s _ _ h) (Rps.mono s r)
  | _, _, .fro h r => .fro (s.seq h) (Rps.mono s r)
  | _, _, .raw v => .raw v
  | _, _, .dK h e r => .dK (s _ _ h) e (Rps.mono s r)
  | _, _, .dT h e r => .dT (s _ _ h) e (Rps.mono s r)
  | _, _, .zT h e r => .zT (s _ _ h) e (Rps.mono s r)
theorem Rps.mono (s : Same H H') : ∀ {vs : List V} {ds : List D}, Rps K H vs ds → Rps K H' vs ds
  | _, _, .nil => .nil
  | _, _, .cons h r => .cons (Rp.mono s h) (Rps.mono s r)
end
theorem Rps.length : ∀ {vs : List V} {ds : List D}, Rps K H vs ds → vs.length = ds.length
  | _, _, .nil => rfl
  | _, _, .cons _ r => congrArg Nat.succ (Rps.length r)
theorem Rps.append : ∀ {vs us : List V} {ds es : List D}, Rps K H vs ds → Rps K H us es → Rps K H (vs ++ us) (ds ++ es)
  | _, _, _, _, .nil, q => q
  | _, _, _, _, .cons h r, q => .cons h (Rps.append r q)
theorem Rps.get : ∀ {vs : List V} {ds : List D} {i : Nat} {d : D}, Rps K H vs ds → ds[i]? = some d → ∃ v, vs[i]? = some v ∧ Rp K H v d
  | _, _, _, _, .nil, e => by simp at e
  | _, _, 0, _, .cons h _, e => by simp at e; subst e; exact ⟨_, rfl, h⟩
  | _, _, i + 1, d, .cons _ r, e => by
    obtain ⟨v, h1, h2⟩ := Rps.get (i := i) (d := d) r (by simpa using e)
    exact ⟨v, by simpa using h1, h2⟩
theorem Rps.getV : ∀ {vs : List V} {ds : List D} {i : Nat} {v : V}, Rps K H vs ds → vs[i]? = some v → ∃ d, ds[i]? = some d ∧ Rp K H v d
  | _, _, _, _, .nil, e => by simp at e
  | _, _, 0, _, .cons h _, e => by simp at e; subst e; exact ⟨_, rfl, h⟩
  | _, _, i + 1, v, .cons _ r, e => by
    obtain ⟨d, h1, h2⟩ := Rps.getV (i := i) (v := v) r (by simpa using e)
    exact ⟨d, by simpa using h1, h2⟩
theorem Rps.set {v : V} {d : D} (q : Rp K H v d) : ∀ {vs : List V} {ds : List D} (i : Nat), Rps K H vs ds → Rps K H (vs.set i v) (ds.set i d)
  | _, _, _, .nil => .nil
  | _, _, 0, .cons _ r => .cons q r
  | _, _, i + 1, .cons h r => .cons h (Rps.set q i r)
theorem Rps.take : ∀ {vs : List V} {ds : List D} (n : Nat), Rps K H vs ds → Rps K H (vs.take n) (ds.take n)
  | _, _, 0, _ => .nil
  | _, _, _ + 1, .nil => .nil
  | _, _, n + 1, .cons h r => .cons h (Rps.take n r)
theorem Rps.drop : ∀ {vs : List V} {ds : List D} (n : Nat), Rps K H vs ds → Rps K H (vs.drop n) (ds.drop n)
  | _, _, 0, r => r
  | _, _, _ + 1, .nil => .nil
  | _, _, n + 1, .cons _ r => Rps.drop n r
theorem Rps.rev {vs : List V} {ds : List D} (h : Rps K H vs ds) : Rps K H vs.reverse ds.reverse := by
  have all : ∀ {vs us : List V} {ds es : List D}, Rps K H vs ds → Rps K H us es → Rps K H (vs.reverse ++ us) (ds.reverse ++ es) := by
    intro vs
    induction vs with
    | nil =>
      intro us ds es h q
      cases h
      exact q
    | cons v vs ih =>
      intro us ds es h q
      cases h with
      | cons h1 h2 =>
        rw [List.reverse_cons, List.reverse_cons, List.append_assoc, List.append_assoc]
        exact ih h2 (.cons h1 q)
  have := all h .nil
  rwa [List.append_nil, List.append_nil] at this
theorem Rps.ints : ∀ {vs : List V} {ns : List Int}, Rps K H vs (ns.map D.int) → vs = ns.map V.int
  | _, [], h => by cases h; rfl
  | _, n :: ns, h => by
    cases h with
    | cons h1 h2 =>
      cases h1
      rw [Rps.ints h2]
      rfl
theorem Rps.ofInts : ∀ (ns : List Int), Rps K H (ns.map V.int) (ns.map D.int)
  | [] => .nil
  | n :: ns => .cons (.int n) (Rps.ofInts ns)
theorem Rps.bls : ∀ {vs : List V} {ns : List Bool}, Rps K H vs (ns.map D.bl) → vs = ns.map V.bl
  | _, [], h => by cases h; rfl
  | _, n :: ns, h => by
    cases h with
    | cons h1 h2 =>
      cases h1
      rw [Rps.bls h2]
      rfl
theorem Rps.strs : ∀ {vs : List V} {ns : List Str}, Rps K H vs (ns.map D.str) → vs = ns.map V.str
  | _, [], h => by cases h; rfl
  | _, n :: ns, h => by
    cases h with
    | cons h1 h2 =>
      cases h1
      rw [Rps.strs h2]
      rfl
theorem Rps.ofStrs : ∀ (ns : List Str), Rps K H (ns.map V.str) (ns.map D.str)
  | [] => .nil
  | n :: ns => .cons (.str n) (Rps.ofStrs ns)
end

/-- the heap without some addresses -/
def hid (M : List Addr) (H : Hp) : Hp := fun b => if b ∈ M then none else H b
section
variable {M M' : List Addr} {H H' : Hp} {a : Addr} {o : HO}
theorem hid_at (h : a ∉ M) : hid M H a = H a := by unfold hid; rw [if_neg h]
theorem hid_of (h : a ∉ M) (e : H a = some o) : hid M H a = some o := by rw [hid_at h]; exact e
theorem of_hid (e : hid M H a = some o) : a ∉ M ∧ H a = some o := by
  unfold hid at e
  split at e
  · cases e
  · rename_i h; exact ⟨h, e⟩
theorem hid_le : Same (hid M H) H := fun b o e => (of_hid e).2
theorem hid_same (s : Same H H') : Same (hid M H) (hid M H') := fun b o e => hid_of (of_hid e).1 (s _ _ (of_hid e).2)
theorem hid_sub (s : ∀ b ∈ M', b ∈ M) : Same (hid M H) (hid M' H) := fun b o e => hid_of (fun h => (of_hid e).1 (s _ h)) (of_hid e).2
theorem same_upd (h : H a = none) : Same H (upd H a o) := fun b x e => by
  rw [upd_ne (ne_of_none e h)]
  exact e
end

/-! ### a frame -/
inductive Own where
  | l (xs : List D) | dK (kvs : List (Key × D)) | dT (kvs : List (List Key × D)) | gone
inductive Ent where
  | sh (d : D) | ow (k : Nat)
abbrev En := List (Option Ent)
abbrev Ow := List Own
abbrev OA := List (Option Addr)
def OwnAt (K : PySem.W.Frag) (Hh H : Hp) (a : Addr) : Own → Prop
  | .l ds => ∃ vs, H a = some (.lst vs) ∧ Rps K Hh vs ds
  | .dK kds => ∃ kvs, H a = some (.dK kvs) ∧ kvs.map (·.1) = kds.map (·.1) ∧ Rps K Hh (kvs.map (·.2)) (kds.map (·.2))
  | .dT kds => ∃ kvs, H a = some (.dT kvs) ∧ kvs.map (·.1) = kds.map (·.1) ∧ Rps K Hh (kvs.map (·.2)) (kds.map (·.2))
  | .gone => True
def xo (M : List Addr) (O : OA) : List Addr := M ++ O.filterMap id
theorem mem_xo {M : List Addr} {O : OA} {a : Addr} : a ∈ xo M O ↔ a ∈ M ∨ some a ∈ O := by
  unfold xo
  rw [List.mem_append, List.mem_filterMap]
  constructor
  · rintro (h | ⟨x, hx, e⟩)
    · exact .inl h
    · have e' : x = some a := e
      subst e'
      exact .inr hx
  · rintro (h | h)
    · exact .inl h
    · exact .inr ⟨_, h, rfl⟩
/-- tracked, and no tuple -/
def Trk (H : Hp) (m : Addr) : Prop := H m ≠ none ∧ ∀ xs, H m ≠ some (.tup xs)
theorem Trk.same {H H' : Hp} {m : Addr} (s : Same H H') (h : Trk H m) : Trk H' m := by
  cases e : H m with
  | none => exact absurd e h.1
  | some o => exact ⟨fun z => (by rw [s _ _ e] at z; cases z), fun xs => by rw [s _ _ e, ← e]; exact h.2 xs⟩
theorem trk_of {H : Hp} {m : Addr} {o : HO} (h : H m = some o) (n : ∀ xs, o ≠ .tup xs := by intro _ z; nomatch z) : Trk H m := ⟨fun z => (by rw [h] at z; cases z), fun xs z => n xs (by rw [h] at z; exact Option.some.inj z)⟩
structure SR (K : PySem.W.Frag) (M : List Addr) (O : OA) (ω : Ow) (ρ : En) (σ : St) (H : Hp) : Prop where
  trk : ∀ m ∈ M, Trk H m
  nod : ∀ (j k : Nat) (a : Addr), O[j]? = some (some a) → O[k]? = some (some a) → j = k
  dis : ∀ a, some a ∈ O → a ∉ M
  lenO : O.length = ω.length
  own : ∀ (k : Nat) (a : Addr), O[k]? = some (some a) → ∃ w, ω[k]? = some w ∧ w ≠ .gone ∧ OwnAt K (hid (xo M O) H) H a w
  live : ∀ (k : Nat) (w : Own), ω[k]? = some w → w ≠ .gone → ∃ a, O[k]? = some (some a)
  len : ρ.length = σ.length
  sh : ∀ (i : Nat) (d : D), ρ[i]? = some (some (.sh d)) → ∃ v, σ[i]? = some (some v) ∧ Rp K (hid (xo M O) H) v d
  ow : ∀ (i k : Nat), ρ[i]? = some (some (.ow k)) → ∃ a, O[k]? = some (some a) ∧ σ[i]? = some (some (.ref a))

theorem OwnAt.mono {K : PySem.W.Frag} {Hh Hh' H H' : Hp} {a : Addr} (s1 : Same Hh Hh') (s2 : ∀ o, H a = some o → H' a = some o) : ∀ {w : Own}, OwnAt K Hh H a w → OwnAt K Hh' H' a w
  | .l _, ⟨vs, h, r⟩ => ⟨vs, s2 _ h, r.mono s1⟩
  | .dK _, ⟨kvs, h, e, r⟩ => ⟨kvs, s2 _ h, e, r.mono s1⟩
  | .dT _, ⟨kvs, h, e, r⟩ => ⟨kvs, s2 _ h, e, r.mono s1⟩
  | .gone, _ => trivial
theorem OwnAt.tracked {K : PySem.W.Frag} {Hh H : Hp} {a : Addr} : ∀ {w : Own}, OwnAt K Hh H a w → w ≠ .gone → Trk H a
  | .l _, ⟨vs, h, r⟩, _ => trk_of h
  | .dK _, ⟨kvs, h, e, r⟩, _ => trk_of h
  | .dT _, ⟨kvs, h, e, r⟩, _ => trk_of h
  | .gone, _, n => absurd rfl n
section
variable {K : PySem.W.Frag} {M : List Addr} {O : OA} {ω : Ow} {ρ : En} {σ : St} {H H' : Hp}
theorem SR.mono (r : SR K M O ω ρ σ H) (s : Same H H') : SR K M O ω ρ σ H' where
  trk := fun m hm => (r.trk m hm).same s
  nod := r.nod
  dis := r.dis
  lenO := r.lenO
  own := fun k a e => by
    obtain ⟨w, h1, h2, h3⟩ := r.own k a e
    exact ⟨w, h1, h2, h3.mono (hid_same s) fun o e => s _ _ e⟩
  live := r.live
  len := r.len
  sh := fun i d e => by
    obtain ⟨v, h1, h2⟩ := r.sh i d e
    exact ⟨v, h1, h2.mono (hid_same s)⟩
  ow := r.ow
theorem SR.trkX (r : SR K M O ω ρ σ H) : ∀ m ∈ xo M O, Trk H m := fun m hm => by
  rcases mem_xo.mp hm with h | h
  · exact r.trk m h
  · obtain ⟨k, hk⟩ := List.mem_iff_getElem?.mp h
    obtain ⟨w, h1, h2, h3⟩ := r.own k m hk
    exact h3.tracked h2
theorem not_mem_of_new {X : List Addr} {a : Addr} (t : ∀ m ∈ X, Trk H m) (h : H a = none) : a ∉ X := fun z => (t a z).1 h
/-- an assignment of shared data to a slot -/
theorem SR.setSh (r : SR K M O ω ρ σ H) {i : Nat} {v : V} {d : D} (h : Rp K (hid (xo M O) H) v d) : SR K M O ω (ρ.set i (some (.sh d))) (σ.set i (some v)) H where
  trk := r.trk
  nod := r.nod
  dis := r.dis
  lenO := r.lenO
  own := r.own
  live := r.live
  len := by rw [List.length_set, List.length_set]; exact r.len
  sh := fun j e q => by
    by_cases hij : i = j
    · subst hij
      by_cases hl : i < ρ.length
      · rw [List.getElem?_set_self hl] at q
        cases q
        exact ⟨v, List.getElem?_set_self (by rw [← r.len]; exact hl), h⟩
      · rw [List.getElem?_eq_none (by rw [List.length_set]; omega)] at q
        cases q
    · rw [List.getElem?_set_ne hij] at q
      obtain ⟨v', h1, h2⟩ := r.sh j e q
      exact ⟨v', by rw [List.getElem?_set_ne hij]; exact h1, h2⟩
  ow := fun j k q => by
    by_cases hij : i = j
    · subst hij
      by_cases hl : i < ρ.length
      · rw [List.getElem?_set_self hl] at q
        cases q
      · rw [List.getElem?_eq_none (by rw [List.length_set]; omega)] at q
        cases q
    · rw [List.getElem?_set_ne hij] at q
      obtain ⟨a, h1, h2⟩ := r.ow j k q
      exact ⟨a, h1, by rw [List.getElem?_set_ne hij]; exact h2⟩
/-- a slot that is no longer spoken of -/
theorem SR.sub (r : SR K M O ω ρ σ H) {ρ' : En} (hl : ρ'.length = ρ.length) (h : ∀ (i : Nat) (e : Ent), ρ'[i]? = some (some e) → ρ[i]? = some (some e)) : SR K M O ω ρ' σ H where
  trk := r.trk
  nod := r.nod
  dis := r.dis
  lenO := r.lenO
  own := r.own
  live := r.live
  len := by rw [hl]; exact r.len
  sh := fun i d e => r.sh i d (h i _ e)
  ow := fun i k e => r.ow i k (h i _ e)
end

/-! ### what is left as it was -/
/-- behind a piece of code that may change the objects O: all else is kept, O' has O ahead -/
structure Kp (O : OA) (H : Hp) (O' : OA) (H' : Hp) : Prop where
  kp : ∀ b o, H b = some o → some b ∉ O → H' b = some o ∧ some b ∉ O'
  tr : ∀ b, Trk H b → Trk H' b
  ix : ∀ k : Nat, O'[k]? = O[k]? ∨ O[k]? = none ∨ O'[k]? = some none
theorem Kp.same {O : OA} {H H' : Hp} (s : Same H H') : Kp O H O H' := by
  refine ⟨fun b o e n => ⟨s b o e, n⟩, fun b n => n.same s, fun _ => .inl rfl⟩
theorem Kp.trans {O O1 O2 : OA} {H H1 H2 : Hp} (a : Kp O H O1 H1) (b : Kp O1 H1 O2 H2) : Kp O H O2 H2 :=
  ⟨fun c o e n => let ⟨e1, n1⟩ := a.kp c o e n; b.kp c o e1 n1, fun c n => b.tr c (a.tr c n), fun k => by
    rcases b.ix k with h | h | h
    · rcases a.ix k with g | g | g
      · exact .inl (h.trans g)
      · exact .inr (.inl g)
      · exact .inr (.inr (h.trans g))
    · rcases a.ix k with g | g | g
      · exact .inr (.inl (g.symm.trans h))
      · exact .inr (.inl g)
      · rw [g] at h; cases h
    · exact .inr (.inr h)⟩
theorem Kp.hid {M : List Addr} {O O' : OA} {H H' : Hp} (k : Kp O H O' H') : Same (hid (xo M O) H) (hid (xo M O') H') := fun b o e => by
  obtain ⟨n, e⟩ := of_hid e
  have n1 : b ∉ M := fun z => n (mem_xo.mpr (.inl z))
  have n2 : some b ∉ O := fun z => n (mem_xo.mpr (.inr z))
  obtain ⟨e1, n3⟩ := k.kp b o e n2
  exact hid_of (fun z => (mem_xo.mp z).elim n1 n3) e1
theorem Kp.nil {O' : OA} {H H' : Hp} (k : Kp [] H O' H') : Same H H' := fun b o e => (k.kp b o e (by simp)).1

/-! ### judgements: pure expressions -/
def Xs (s : Bool) (M : List Addr) (O : OA) : List Addr := if s = true then xo M O else M
theorem Xs_tr {s : Bool} {K : PySem.W.Frag} {M : List Addr} {O : OA} {ω : Ow} {ρ : En} {σ : St} {H : Hp} (r : SR K M O ω ρ σ H) : ∀ m ∈ Xs s M O, Trk H m := by
  unfold Xs
  split
  · exact r.trkX
  · exact r.trk
theorem Xs_sub {M : List Addr} {O : OA} : ∀ {s : Bool}, ∀ b ∈ Xs s M O, b ∈ xo M O
  | true, _, h => h
  | false, _, h => mem_xo.mpr (.inl h)
theorem Xs_sup {M : List Addr} {O : OA} : ∀ {s : Bool}, ∀ b ∈ M, b ∈ Xs s M O
  | true, _, h => mem_xo.mpr (.inl h)
  | false, _, h => h
section
variable (K : PySem.W.Frag)
/-- the expression gives a value of the data d; what stood in the heap stands. s: the value leans on nothing of the frame's own -/
def Ev (s : Bool) (te : TE) (ρ : En) (ω : Ow) (d : D) : Prop := ∀ M O σ H, SR K M O ω ρ σ H → ∀ Q : VK, (∀ v H', Same H H' → Rp K (hid (Xs s M O) H') v d → Q v H') → te σ H Q
def EvA (s : Bool) (ta : TA) (ρ : En) (ω : Ow) (ds : List D) : Prop := ∀ M O σ H, SR K M O ω ρ σ H → ∀ Q : List V → Hp → Prop, (∀ vs H', Same H H' → Rps K (hid (Xs s M O) H') vs ds → Q vs H') → ta σ H Q
def EvT (tt : TT) (ρ : En) (ω : Ow) (b : Bool) : Prop := ∀ M O σ H, SR K M O ω ρ σ H → ∀ Q : Bool → Hp → Prop, (∀ H', Same H H' → Q b H') → tt σ H Q
def EvO (to : TO) (ρ : En) (ω : Ow) (o : Option Int) : Prop := ∀ M O σ H, SR K M O ω ρ σ H → ∀ Q : Option Int → Hp → Prop, (∀ H', Same H H' → Q o H') → to σ H Q
/-- an operation by values -/
def RD (r : R2) (d1 d2 d : D) : Prop := ∀ X H v1 v2, (∀ m ∈ X, Trk H m) → Rp K (hid X H) v1 d1 → Rp K (hid X H) v2 d2 → ∀ Q : VK, (∀ v H', Same H H' → Rp K (hid X H') v d → Q v H') → r v1 v2 H Q
def RU (r : V → Hp → VK → Prop) (d1 d : D) : Prop := ∀ X H v1, (∀ m ∈ X, Trk H m) → Rp K (hid X H) v1 d1 → ∀ Q : VK, (∀ v H', Same H H' → Rp K (hid X H') v d → Q v H') → r v1 H Q
def RC (r : List V → Hp → VK → Prop) (ds : List D) (d : D) : Prop := ∀ X H vs, (∀ m ∈ X, Trk H m) → Rps K (hid X H) vs ds → ∀ Q : VK, (∀ v H', Same H H' → Rp K (hid X H') v d → Q v H') → r vs H Q
end
def isScal : D → Bool
  | .non => true | .bl _ => true | .int _ => true | .str _ => true | .raw _ => true | _ => false
theorem Rp.scal {K : PySem.W.Frag} {H H' : Hp} {v : V} : ∀ {d : D}, isScal d = true → Rp K H v d → Rp K H' v d
  | _, _, .non => .non
  | _, _, .bl b => .bl b
  | _, _, .int i => .int i
  | _, _, .str x => .str x
  | _, _, .raw v => .raw v
  | _, e, .lst _ _ => nomatch e
  | _, e, .tup _ _ => nomatch e
  | _, e, .dK _ _ _ => nomatch e
  | _, e, .dT _ _ _ => nomatch e
  | _, e, .zT _ _ _ => nomatch e
  | _, e, .fro _ _ => nomatch e

section
variable {K : PySem.W.Frag} {s : Bool} {ρ : En} {ω : Ow} {ta tb te tc : TE} {d d1 d2 d3 : D} {ds : List D}
theorem Ev.weak (h : Ev K true te ρ ω d) : Ev K s te ρ ω d := fun M O σ H r Q q => h M O σ H r Q fun v H' s1 rp => q v H' s1 (rp.mono (hid_sub Xs_sub))
theorem Ev.scal (h : Ev K s te ρ ω d) (e : isScal d = true := by rfl) : Ev K true te ρ ω d := fun M O σ H r Q q => h M O σ H r Q fun v H' s1 rp => q v H' s1 (rp.scal e)
theorem Ev.to (h : Ev K s te ρ ω d) (e : d = d1) : Ev K s te ρ ω d1 := e ▸ h
theorem EvT.to {tt : TT} {b c : Bool} (h : EvT K tt ρ ω b) (e : b = c) : EvT K tt ρ ω c := e ▸ h
theorem ev_var {i : Nat} (e : ρ[i]? = some (some (.sh d))) : Ev K s (tVar i) ρ ω d := Ev.weak fun M O σ H r Q q => by
  obtain ⟨v, h1, h2⟩ := r.sh i d e
  exact ⟨v, h1, q v H (Same.refl H) h2⟩
/-- a list of the frame's own, looked at -/
theorem ev_own {i k : Nat} {ds : List D} (e : ρ[i]? = some (some (.ow k))) (ew : ω[k]? = some (.l ds)) (nM : True := trivial) : ∀ M O σ H, SR K M O ω ρ σ H → ∃ a vs, O[k]? = some (some a) ∧ σ[i]? = some (some (.ref a)) ∧ H a = some (.lst vs) ∧ Rps K (hid (xo M O) H) vs ds := fun M O σ H r => by
  obtain ⟨a, h1, h2⟩ := r.ow i k e
  obtain ⟨w, h3, h4, h5⟩ := r.own k a h1
  rw [ew] at h3
  cases h3
  obtain ⟨vs, h6, h7⟩ := h5
  exact ⟨a, vs, h1, h2, h6, h7⟩
theorem ev_int {i : Int} : Ev K s (tC (.int i)) ρ ω (.int i) := fun M O σ H r Q q => q _ H (Same.refl H) (.int i)
theorem ev_bl {b : Bool} : Ev K s (tC (.bl b)) ρ ω (.bl b) := fun M O σ H r Q q => q _ H (Same.refl H) (.bl b)
theorem ev_non : Ev K s (tC .non) ρ ω .non := fun M O σ H r Q q => q _ H (Same.refl H) .non
theorem ev_str {x : Str} : Ev K s (tC (.str x)) ρ ω (.str x) := fun M O σ H r Q q => q _ H (Same.refl H) (.str x)
theorem ev_raw {v : V} : Ev K s (tC v) ρ ω (.raw v) := fun M O σ H r Q q => q _ H (Same.refl H) (.raw v)
theorem ev_op {r : R2} (ha : Ev K s ta ρ ω d1) (hb : Ev K s tb ρ ω d2) (hr : RD K r d1 d2 d) : Ev K s (tOp r ta tb) ρ ω d := fun M O σ H R Q q =>
  ha M O σ H R _ fun v1 H1 s1 r1 => hb M O σ H1 (R.mono s1) _ fun v2 H2 s2 r2 =>
    hr (Xs s M O) H2 v1 v2 (Xs_tr ((R.mono s1).mono s2)) (r1.mono (hid_same s2)) r2 Q fun v H3 s3 r3 => q v H3 ((s1.trans s2).trans s3) r3
theorem ev_un {r : V → Hp → VK → Prop} (ha : Ev K s ta ρ ω d1) (hr : RU K r d1 d) : Ev K s (tUn r ta) ρ ω d := fun M O σ H R Q q =>
  ha M O σ H R _ fun v1 H1 s1 r1 => hr (Xs s M O) H1 v1 (Xs_tr (R.mono s1)) r1 Q fun v H3 s3 r3 => q v H3 (s1.trans s3) r3
theorem ev_cb {r : List V → Hp → VK → Prop} {t : TA} (ha : EvA K s t ρ ω ds) (hr : RC K r ds d) : Ev K s (tCB r t) ρ ω d := fun M O σ H R Q q =>
  ha M O σ H R _ fun v1 H1 s1 r1 => hr (Xs s M O) H1 v1 (Xs_tr (R.mono s1)) r1 Q fun v H3 s3 r3 => q v H3 (s1.trans s3) r3
theorem ea_nil : EvA K s tNil ρ ω [] := fun M O σ H R Q q => q [] H (Same.refl H) .nil
theorem ea_cons {tr : TA} (h : Ev K s ta ρ ω d) (hr : EvA K s tr ρ ω ds) : EvA K s (tCons ta tr) ρ ω (d :: ds) := fun M O σ H R Q q =>
  h M O σ H R _ fun v H1 s1 r1 => hr M O σ H1 (R.mono s1) _ fun vs H2 s2 r2 => q (v :: vs) H2 (s1.trans s2) (.cons (r1.mono (hid_same s2)) r2)
theorem ev_tup {t : TA} (h : EvA K s t ρ ω ds) (hl : ds.length ≤ 1000 := by exact Nat.le_of_ble_eq_true rfl) : Ev K s (tTup t) ρ ω (.tup ds) := fun M O σ H R Q q =>
  h M O σ H R _ fun vs H1 s1 r1 => ⟨by rw [r1.length]; exact Nat.le_of_lt (small1000 hl), fun p hp => q (.ref p) _ (s1.trans (same_upd hp)) (.tup (hid_of (not_mem_of_new (Xs_tr (R.mono s1)) hp) upd_same) (r1.mono (hid_same (same_upd hp))))⟩
theorem ev_lst {t : TA} (h : EvA K s t ρ ω ds) (hl : ds.length ≤ 1000 := by exact Nat.le_of_ble_eq_true rfl) : Ev K s (tLst t) ρ ω (.lst ds) := fun M O σ H R Q q =>
  h M O σ H R _ fun vs H1 s1 r1 => ⟨by rw [r1.length]; exact Nat.le_of_lt (small1000 hl), fun p hp => q (.ref p) _ (s1.trans (same_upd hp)) (.lst (hid_of (not_mem_of_new (Xs_tr (R.mono s1)) hp) upd_same) (r1.mono (hid_same (same_upd hp))))⟩
/-! tests -/
theorem et_test {b : Bool} (h : Ev K s te ρ ω (.bl b)) : EvT K (tTest te) ρ ω b := fun M O σ H R Q q => h M O σ H R _ fun v H1 s1 r1 => by
  cases r1
  exact ⟨b, rfl, q H1 s1⟩
theorem et_and {t u : TT} {a b : Bool} (h1 : EvT K t ρ ω a) (h2 : a = true → EvT K u ρ ω b) : EvT K (tAnd t u) ρ ω (a && b) := fun M O σ H R Q q => h1 M O σ H R _ fun H1 s1 => by
  cases a with
  | true =>
    show u σ H1 Q
    exact h2 rfl M O σ H1 (R.mono s1) Q fun H2 s2 => q H2 (s1.trans s2)
  | false => exact q H1 s1
theorem et_or {t u : TT} {a b : Bool} (h1 : EvT K t ρ ω a) (h2 : a = false → EvT K u ρ ω b) : EvT K (tOr t u) ρ ω (a || b) := fun M O σ H R Q q => h1 M O σ H R _ fun H1 s1 => by
  cases a with
  | true => exact q H1 s1
  | false =>
    show u σ H1 Q
    exact h2 rfl M O σ H1 (R.mono s1) Q fun H2 s2 => q H2 (s1.trans s2)
theorem et_not {t : TT} {a : Bool} (h1 : EvT K t ρ ω a) : EvT K (tNot t) ρ ω (!a) := fun M O σ H R Q q => h1 M O σ H R _ fun H1 s1 => q H1 s1
theorem ev_andV {a b : Bool} (h1 : Ev K s ta ρ ω (.bl a)) (h2 : a = true → Ev K s tb ρ ω (.bl b)) : Ev K s (tAndV ta tb) ρ ω (.bl (a && b)) := fun M O σ H R Q q => h1 M O σ H R _ fun v H1 s1 r1 => by
  cases r1
  refine ⟨a, rfl, ?_⟩
  cases a with
  | true =>
    show tb σ H1 Q
    exact h2 rfl M O σ H1 (R.mono s1) Q fun v H2 s2 r2 => q v H2 (s1.trans s2) r2
  | false => exact q _ H1 s1 (.bl _)
theorem ev_orV {a b : Bool} (h1 : Ev K s ta ρ ω (.bl a)) (h2 : a = false → Ev K s tb ρ ω (.bl b)) : Ev K s (tOrV ta tb) ρ ω (.bl (a || b)) := fun M O σ H R Q q => h1 M O σ H R _ fun v H1 s1 r1 => by
  cases r1
  refine ⟨a, rfl, ?_⟩
  cases a with
  | true => exact q _ H1 s1 (.bl _)
  | false =>
    show tb σ H1 Q
    exact h2 rfl M O σ H1 (R.mono s1) Q fun v H2 s2 r2 => q v H2 (s1.trans s2) r2
theorem ev_notV {a : Bool} (h1 : Ev K s ta ρ ω (.bl a)) : Ev K s (tNotV ta) ρ ω (.bl (!a)) := fun M O σ H R Q q => h1 M O σ H R _ fun v H1 s1 r1 => by
  cases r1
  exact ⟨a, rfl, q _ H1 s1 (.bl _)⟩
theorem ev_if {t : TT} {b : Bool} (h : EvT K t ρ ω b) (h1 : b = true → Ev K s ta ρ ω d1) (h2 : b = false → Ev K s tb ρ ω d2) : Ev K s (tIf t ta tb) ρ ω (if b = true then d1 else d2) := fun M O σ H R Q q => h M O σ H R _ fun H1 s1 => by
  cases b with
  | true =>
    show ta σ H1 Q
    exact h1 rfl M O σ H1 (R.mono s1) Q fun v H2 s2 r2 => q v H2 (s1.trans s2) r2
  | false =>
    show tb σ H1 Q
    exact h2 rfl M O σ H1 (R.mono s1) Q fun v H2 s2 r2 => q v H2 (s1.trans s2) r2
end
end DL

set_option Elab.async false
set_option linter.all false
set_option maxRecDepth 100000
set_option maxHeartbeats 4000000
/-! DL, part B: code that changes objects of the frame; statements; loops; the rule for a def. -/
namespace DL
open PySem L2

section
variable {K : PySem.W.Frag} {M : List Addr} {O : OA} {ω : Ow} {ρ : En} {σ : St} {H H' : Hp}
/-- one of the frame's own objects is written -/
theorem SR.write (r : SR K M O ω ρ σ H) {k : Nat} {a : Addr} {o : HO} {w : Own} (ha : O[k]? = some (some a)) (hw : w ≠ .gone) (hn : OwnAt K (hid (xo M O) H) (upd H a o) a w) : SR K M O (ω.set k w) ρ σ (upd H a o) ∧ Kp O H O (upd H a o) := by
  have hx : a ∈ xo M O := mem_xo.mpr (.inr (List.mem_of_getElem? ha))
  have eh : hid (xo M O) (upd H a o) = hid (xo M O) H := by
    funext b
    unfold hid
    split
    · rfl
    · rename_i nb
      exact upd_ne (fun e => nb (by rw [e]; exact hx))
  have tr : ∀ b, Trk H b → Trk (upd H a o) b := fun b n => by
    by_cases e : b = a
    · rw [e]; exact hn.tracked hw
    · unfold Trk; rw [upd_ne e]; exact n
  refine ⟨⟨fun m hm => tr m (r.trk m hm), r.nod, r.dis, by rw [List.length_set]; exact r.lenO, fun j b e => ?_, fun j w0 e ng => ?_, r.len, fun i d e => ?_, r.ow⟩, ⟨fun b x e n => ?_, tr, fun _ => .inl rfl⟩⟩
  · obtain ⟨w0, h1, h2, h3⟩ := r.own j b e
    by_cases hj : k = j
    · subst hj
      rw [ha] at e
      cases e
      have hl : k < ω.length := by rw [← r.lenO]; exact (List.getElem?_eq_some_iff.mp ha).1
      exact ⟨w, List.getElem?_set_self hl, hw, by rw [eh]; exact hn⟩
    · refine ⟨w0, by rw [List.getElem?_set_ne hj]; exact h1, h2, ?_⟩
      have nb : b ≠ a := fun z => hj (r.nod k j a ha (by rw [← z]; exact e))
      rw [eh]
      exact h3.mono (Same.refl _) fun x ex => by rw [upd_ne nb]; exact ex
  · by_cases hj : k = j
    · subst hj
      exact ⟨a, ha⟩
    · rw [List.getElem?_set_ne hj] at e
      exact r.live j w0 e ng
  · rw [eh]
    exact r.sh i d e
  · have nb : b ≠ a := fun z => n (by rw [z]; exact List.mem_of_getElem? ha)
    exact ⟨by rw [upd_ne nb]; exact e, n⟩
/-- a new object becomes one of the frame's own -/
theorem SR.take (r : SR K M O ω ρ σ H) (s : Same H H') {p : Addr} {w : Own} (hp : H p = none) (hw : w ≠ .gone) (hn : OwnAt K (hid (xo M O) H) H' p w) : SR K M (O ++ [some p]) (ω ++ [w]) ρ σ H' ∧ Kp O H (O ++ [some p]) H' := by
  have np : p ∉ xo M O := not_mem_of_new r.trkX hp
  have sm : Same (hid (xo M O) H) (hid (xo M (O ++ [some p])) H') := fun b o e => by
    obtain ⟨n, e⟩ := of_hid e
    refine hid_of (fun z => ?_) (s _ _ e)
    rcases mem_xo.mp z with z | z
    · exact n (mem_xo.mpr (.inl z))
    · rcases List.mem_append.mp z with z | z
      · exact n (mem_xo.mpr (.inr z))
      · have e2 : b = p := by simpa using z
        rw [e2, hp] at e
        cases e
  have tr : ∀ b, Trk H b → Trk H' b := fun b n => n.same s
  have up : ∀ {j : Nat} {b : Addr}, O[j]? = some (some b) → (O ++ [some p])[j]? = some (some b) := fun {j b} e => by
    rw [List.getElem?_append_left (List.getElem?_eq_some_iff.mp e).1]
    exact e
  refine ⟨⟨fun m hm => tr m (r.trk m hm), fun j k a h1 h2 => ?_, fun a h => ?_, by simp [r.lenO], fun k a e => ?_, fun k w0 e ng => ?_, r.len, fun i d e => ?_, fun i k e => ?_⟩, ⟨fun b o e n => ⟨s _ _ e, fun z => ?_⟩, tr, fun k => ?_⟩⟩
  · have cs : ∀ {j : Nat}, (O ++ [some p])[j]? = some (some a) → (O[j]? = some (some a)) ∨ (j = O.length ∧ a = p) := fun {j} h => by
      by_cases hj : j < O.length
      · rw [List.getElem?_append_left hj] at h
        exact .inl h
      · rw [List.getElem?_append_right (by omega)] at h
        have : j - O.length = 0 := by
          have := (List.getElem?_eq_some_iff.mp h).1
          simp at this
          omega
        rw [this] at h
        have h' : some p = some a := by simpa using h
        exact .inr ⟨by omega, (Option.some.inj h').symm⟩
    have na : O[j]? = some (some p) → False := fun h => np (mem_xo.mpr (.inr (List.mem_of_getElem? h)))
    have nk : O[k]? = some (some p) → False := fun h => np (mem_xo.mpr (.inr (List.mem_of_getElem? h)))
    rcases cs h1 with h1 | ⟨h1, e1⟩
    · rcases cs h2 with h2 | ⟨h2, e2⟩
      · exact r.nod j k a h1 h2
      · rw [e2] at h1
        exact (na h1).elim
    · rcases cs h2 with h2 | ⟨h2, e2⟩
      · rw [e1] at h2
        exact (nk h2).elim
      · rw [h1, h2]
  · rcases List.mem_append.mp h with h | h
    · exact r.dis a h
    · have e2 : a = p := by simpa using h
      rw [e2]
      exact fun z => np (mem_xo.mpr (.inl z))
  · by_cases hk : k < O.length
    · rw [List.getElem?_append_left hk] at e
      obtain ⟨w0, h1, h2, h3⟩ := r.own k a e
      refine ⟨w0, ?_, h2, h3.mono sm fun o ex => s _ _ ex⟩
      rw [List.getElem?_append_left (by rw [← r.lenO]; exact hk)]
      exact h1
    · rw [List.getElem?_append_right (by omega)] at e
      have hk0 : k - O.length = 0 := by
        have := (List.getElem?_eq_some_iff.mp e).1
        simp at this
        omega
      rw [hk0] at e
      have e' : some p = some a := by simpa using e
      cases e'
      refine ⟨w, ?_, hw, hn.mono sm fun o ex => ex⟩
      rw [List.getElem?_append_right (by rw [← r.lenO]; omega), ← r.lenO, hk0]
      rfl
  · by_cases hk : k < ω.length
    · rw [List.getElem?_append_left hk] at e
      obtain ⟨b, hb⟩ := r.live k w0 e ng
      exact ⟨b, up hb⟩
    · have hk2 : k = ω.length := by
        have := (List.getElem?_eq_some_iff.mp e).1
        simp at this
        omega
      subst hk2
      rw [← r.lenO]
      exact ⟨p, by rw [List.getElem?_append_right (Nat.le_refl _), Nat.sub_self]; rfl⟩
  · obtain ⟨v, h1, h2⟩ := r.sh i d e
    exact ⟨v, h1, h2.mono sm⟩
  · obtain ⟨a, h1, h2⟩ := r.ow i k e
    exact ⟨a, up h1, h2⟩
  · rcases List.mem_append.mp z with z | z
    · exact n z
    · have e2 : b = p := by simpa using z
      rw [e2, hp] at e
      cases e
  · by_cases hk : k < O.length
    · exact .inl (List.getElem?_append_left hk)
    · exact .inr (.inl (List.getElem?_eq_none (by omega)))
theorem SR.setOw (r : SR K M O ω ρ σ H) {i k : Nat} {a : Addr} (h : O[k]? = some (some a)) : SR K M O ω (ρ.set i (some (.ow k))) (σ.set i (some (.ref a))) H where
  trk := r.trk
  nod := r.nod
  dis := r.dis
  lenO := r.lenO
  own := r.own
  live := r.live
  len := by rw [List.length_set, List.length_set]; exact r.len
  sh := fun j e q => by
    by_cases hij : i = j
    · subst hij
      by_cases hl : i < ρ.length
      · rw [List.getElem?_set_self hl] at q
        cases q
      · rw [List.getElem?_eq_none (by rw [List.length_set]; omega)] at q
        cases q
    · rw [List.getElem?_set_ne hij] at q
      obtain ⟨v', h1, h2⟩ := r.sh j e q
      exact ⟨v', by rw [List.getElem?_set_ne hij]; exact h1, h2⟩
  ow := fun j k' q => by
    by_cases hij : i = j
    · subst hij
      by_cases hl : i < ρ.length
      · rw [List.getElem?_set_self hl] at q
        cases q
        exact ⟨a, h, List.getElem?_set_self (by rw [← r.len]; exact hl)⟩
      · rw [List.getElem?_eq_none (by rw [List.length_set]; omega)] at q
        cases q
    · rw [List.getElem?_set_ne hij] at q
      obtain ⟨a, h1, h2⟩ := r.ow j k' q
      exact ⟨a, h1, by rw [List.getElem?_set_ne hij]; exact h2⟩
/-- an own list that nobody changes any more is data like another -/
def thaw (k : Nat) (d : D) (ρ : En) : En := ρ.map fun e => match e with
  | some (.ow j) => if j = k then some (.sh d) else some (.ow j)
  | x => x
def ownD : Own → D
  | .l ds => .lst ds | .dK kds => .dK kds | .dT kds => .dT kds | .gone => .non
theorem SR.give (r : SR K M O ω ρ σ H) {k : Nat} {w : Own} (hw : ω[k]? = some w) (hg : w ≠ .gone) : SR K M (O.set k none) (ω.set k .gone) (thaw k (ownD w) ρ) σ H ∧ Kp O H (O.set k none) H := by
  have mem : ∀ {b : Addr}, some b ∈ O.set k none → some b ∈ O := fun {b} h => by
    obtain ⟨j, hj⟩ := List.mem_iff_getElem?.mp h
    by_cases e : k = j
    · subst e
      by_cases hl : k < O.length
      · rw [List.getElem?_set_self hl] at hj
        cases hj
      · rw [List.getElem?_eq_none (by rw [List.length_set]; omega)] at hj
        cases hj
    · rw [List.getElem?_set_ne e] at hj
      exact List.mem_of_getElem? hj
  have sm : Same (hid (xo M O) H) (hid (xo M (O.set k none)) H) := hid_sub fun b hb => by
    rcases mem_xo.mp hb with h | h
    · exact mem_xo.mpr (.inl h)
    · exact mem_xo.mpr (.inr (mem h))
  have at_ : ∀ {j : Nat} {a : Addr}, (O.set k none)[j]? = some (some a) → j ≠ k ∧ O[j]? = some (some a) := fun {j a} h => by
    by_cases e : k = j
    · subst e
      by_cases hl : k < O.length
      · rw [List.getElem?_set_self hl] at h
        cases h
      · rw [List.getElem?_eq_none (by rw [List.length_set]; omega)] at h
        cases h
    · rw [List.getElem?_set_ne e] at h
      exact ⟨fun z => e z.symm, h⟩
  refine ⟨⟨r.trk, fun i j a h1 h2 => r.nod i j a (at_ h1).2 (at_ h2).2, fun a h => r.dis a (mem h), by rw [List.length_set, List.length_set]; exact r.lenO, fun j a e => ?_, fun j w0 e ng => ?_, by unfold thaw; rw [List.length_map]; exact r.len, fun i d e => ?_, fun i j e => ?_⟩, ⟨fun b o e n => ⟨e, fun z => n (mem z)⟩, fun _ n => n, fun j => ?_⟩⟩
  · obtain ⟨nk, e⟩ := at_ e
    obtain ⟨w0, h1, h2, h3⟩ := r.own j a e
    exact ⟨w0, by rw [List.getElem?_set_ne (fun z => nk z.symm)]; exact h1, h2, h3.mono sm fun _ q => q⟩
  · have hj : k ≠ j := fun z => by
      subst z
      rw [List.getElem?_set_self (List.getElem?_eq_some_iff.mp hw).1] at e
      exact ng (Option.some.inj e).symm
    rw [List.getElem?_set_ne hj] at e
    obtain ⟨b, hb⟩ := r.live j w0 e ng
    exact ⟨b, by rw [List.getElem?_set_ne hj]; exact hb⟩
  · unfold thaw at e
    rw [List.getElem?_map] at e
    cases hq : ρ[i]? with
    | none => rw [hq] at e; cases e
    | some x =>
      rw [hq] at e
      cases x with
      | none => cases e
      | some y =>
        cases y with
        | sh d' =>
          cases e
          obtain ⟨v, h1, h2⟩ := r.sh i d hq
          exact ⟨v, h1, h2.mono sm⟩
        | ow j =>
          by_cases hj : j = k
          · subst hj
            have e' : (some (some (Ent.sh (ownD w)))) = some (some (Ent.sh d)) := by simpa using e
            cases e'
            obtain ⟨a, h1, h2⟩ := r.ow i j hq
            obtain ⟨w0, h3, h4, h5⟩ := r.own j a h1
            rw [hw] at h3
            cases h3
            have na : a ∉ xo M (O.set j none) := fun z => by
              rcases mem_xo.mp z with z | z
              · exact r.dis a (List.mem_of_getElem? h1) z
              · obtain ⟨i', hi'⟩ := List.mem_iff_getElem?.mp z
                obtain ⟨n1, n2⟩ := at_ hi'
                exact n1 (r.nod i' j a n2 h1)
            refine ⟨.ref a, h2, ?_⟩
            cases w with
            | l ds =>
              obtain ⟨vs, h6, h7⟩ := h5
              exact .lst (hid_of na h6) (h7.mono sm)
            | dK ds =>
              obtain ⟨vs, h6, h8, h7⟩ := h5
              exact .dK (hid_of na h6) h8 (h7.mono sm)
            | dT ds =>
              obtain ⟨vs, h6, h8, h7⟩ := h5
              exact .dT (hid_of na h6) h8 (h7.mono sm)
            | gone => exact absurd rfl hg
          · have e' : (some (some (Ent.ow j))) = some (some (Ent.sh d)) := by simpa [hj] using e
            cases e'
  · unfold thaw at e
    rw [List.getElem?_map] at e
    cases hq : ρ[i]? with
    | none => rw [hq] at e; cases e
    | some x =>
      rw [hq] at e
      cases x with
      | none => cases e
      | some y =>
        cases y with
        | sh d' => cases e
        | ow j' =>
          by_cases hj : j' = k
          · have e' : (some (some (Ent.sh (ownD w)))) = some (some (Ent.ow j)) := by simpa [hj] using e
            cases e'
          · have e' : (some (some (Ent.ow j'))) = some (some (Ent.ow j)) := by simpa [hj] using e
            cases e'
            obtain ⟨a, h1, h2⟩ := r.ow i j hq
            exact ⟨a, by rw [List.getElem?_set_ne (fun z => hj z.symm)]; exact h1, h2⟩
  · by_cases hj : k = j
    · subst hj
      have hl : k < O.length := by rw [r.lenO]; exact (List.getElem?_eq_some_iff.mp hw).1
      exact .inr (.inr (List.getElem?_set_self hl))
    · exact .inl (List.getElem?_set_ne hj)
end
end DL

set_option Elab.async false
set_option linter.all false
set_option maxRecDepth 100000
set_option maxHeartbeats 4000000
/-! DL, part C: code that changes things; statements; loops; the rule for a def. -/
namespace DL
open PySem L2

theorem l_ne {xs : List D} : Own.l xs ≠ .gone := fun z => Own.noConfusion z
/-! ### expressions that may change the frame's own objects -/
section
variable (K : PySem.W.Frag)
def WE (te : TE) (ρ : En) (ω : Ow) (Φ : D → Ow → Prop) : Prop := ∀ M O σ H, SR K M O ω ρ σ H → ∀ Q : VK, (∀ v H' ω' d, SR K M O ω' ρ σ H' → Kp O H O H' → Rp K (hid (xo M O) H') v d → Φ d ω' → Q v H') → te σ H Q
def WA (ta : TA) (ρ : En) (ω : Ow) (Φ : List D → Ow → Prop) : Prop := ∀ M O σ H, SR K M O ω ρ σ H → ∀ Q : List V → Hp → Prop, (∀ vs H' ω' ds, SR K M O ω' ρ σ H' → Kp O H O H' → Rps K (hid (xo M O) H') vs ds → Φ ds ω' → Q vs H') → ta σ H Q
def WT (tt : TT) (ρ : En) (ω : Ow) (Φ : Bool → Ow → Prop) : Prop := ∀ M O σ H, SR K M O ω ρ σ H → ∀ Q : Bool → Hp → Prop, (∀ b H' ω', SR K M O ω' ρ σ H' → Kp O H O H' → Φ b ω' → Q b H') → tt σ H Q
end
section
variable {K : PySem.W.Frag} {s : Bool} {ρ : En} {ω : Ow} {ta tb te tc : TE} {d d1 d2 d3 : D} {ds : List D} {Φ : D → Ow → Prop} {Ψ : List D → Ow → Prop} {Θ : Bool → Ow → Prop}
theorem we_ev (h : Ev K true te ρ ω d) (q : Φ d ω) : WE K te ρ ω Φ := fun M O σ H R Q k => h M O σ H R Q fun v H1 s1 r1 => k v H1 ω d (R.mono s1) (.same s1) r1 q
theorem wa_ev {ta : TA} (h : EvA K true ta ρ ω ds) (q : Ψ ds ω) : WA K ta ρ ω Ψ := fun M O σ H R Q k => h M O σ H R Q fun v H1 s1 r1 => k v H1 ω ds (R.mono s1) (.same s1) r1 q
theorem wt_ev {tt : TT} {b : Bool} (h : EvT K tt ρ ω b) (q : Θ b ω) : WT K tt ρ ω Θ := fun M O σ H R Q k => h M O σ H R Q fun H1 s1 => k b H1 ω (R.mono s1) (.same s1) q
theorem WE.imp {Φ' : D → Ow → Prop} (h : WE K te ρ ω Φ) (i : ∀ d ω', Φ d ω' → Φ' d ω') : WE K te ρ ω Φ' := fun M O σ H R Q k => h M O σ H R Q fun v H1 ω1 d1 R1 k1 r1 q1 => k v H1 ω1 d1 R1 k1 r1 (i _ _ q1)
theorem we_op {r : R2} (h : WE K ta ρ ω fun d1 ω1 => WE K tb ρ ω1 fun d2 ω2 => ∃ d, RD K r d1 d2 d ∧ Φ d ω2) : WE K (tOp r ta tb) ρ ω Φ := fun M O σ H R Q k =>
  h M O σ H R _ fun v1 H1 ω1 d1 R1 k1 r1 h2 => h2 M O σ H1 R1 _ fun v2 H2 ω2 d2 R2 k2 r2 ⟨d, hr, q⟩ =>
    hr (xo M O) H2 v1 v2 R2.trkX (r1.mono k2.hid) r2 Q fun v H3 s3 r3 => k v H3 ω2 d (R2.mono s3) ((k1.trans k2).trans (.same s3)) r3 q
theorem we_un {r : V → Hp → VK → Prop} (h : WE K ta ρ ω fun d1 ω1 => ∃ d, RU K r d1 d ∧ Φ d ω1) : WE K (tUn r ta) ρ ω Φ := fun M O σ H R Q k =>
  h M O σ H R _ fun v1 H1 ω1 d1 R1 k1 r1 ⟨d, hr, q⟩ => hr (xo M O) H1 v1 R1.trkX r1 Q fun v H3 s3 r3 => k v H3 ω1 d (R1.mono s3) (k1.trans (.same s3)) r3 q
theorem wa_nil (q : Ψ [] ω) : WA K tNil ρ ω Ψ := fun M O σ H R Q k => k [] H ω [] R (.same (Same.refl H)) .nil q
theorem wa_cons {tr : TA} (h : WE K ta ρ ω fun d ω1 => WA K tr ρ ω1 fun ds ω2 => Ψ (d :: ds) ω2) : WA K (tCons ta tr) ρ ω Ψ := fun M O σ H R Q k =>
  h M O σ H R _ fun v1 H1 ω1 d1 R1 k1 r1 h2 => h2 M O σ H1 R1 _ fun vs H2 ω2 ds R2 k2 r2 q => k (v1 :: vs) H2 ω2 (d1 :: ds) R2 (k1.trans k2) (.cons (r1.mono k2.hid) r2) q
theorem we_cb {r : List V → Hp → VK → Prop} {t : TA} (h : WA K t ρ ω fun ds ω1 => ∃ d, RC K r ds d ∧ Φ d ω1) : WE K (tCB r t) ρ ω Φ := fun M O σ H R Q k =>
  h M O σ H R _ fun v1 H1 ω1 d1 R1 k1 r1 ⟨d, hr, q⟩ => hr (xo M O) H1 v1 R1.trkX r1 Q fun v H3 s3 r3 => k v H3 ω1 d (R1.mono s3) (k1.trans (.same s3)) r3 q
theorem we_tup {t : TA} (h : WA K t ρ ω fun ds ω1 => ds.length ≤ 1000 ∧ Φ (.tup ds) ω1) : WE K (tTup t) ρ ω Φ := fun M O σ H R Q k =>
  h M O σ H R _ fun vs H1 ω1 ds R1 k1 r1 ⟨hl, q⟩ => ⟨by rw [r1.length]; exact Nat.le_of_lt (small1000 hl), fun p hp =>
    k (.ref p) _ ω1 (.tup ds) (R1.mono (same_upd hp)) (k1.trans (.same (same_upd hp))) (.tup (hid_of (not_mem_of_new R1.trkX hp) upd_same) (r1.mono (hid_same (same_upd hp)))) q⟩
theorem we_lst {t : TA} (h : WA K t ρ ω fun ds ω1 => ds.length ≤ 1000 ∧ Φ (.lst ds) ω1) : WE K (tLst t) ρ ω Φ := fun M O σ H R Q k =>
  h M O σ H R _ fun vs H1 ω1 ds R1 k1 r1 ⟨hl, q⟩ => ⟨by rw [r1.length]; exact Nat.le_of_lt (small1000 hl), fun p hp =>
    k (.ref p) _ ω1 (.lst ds) (R1.mono (same_upd hp)) (k1.trans (.same (same_upd hp))) (.lst (hid_of (not_mem_of_new R1.trkX hp) upd_same) (r1.mono (hid_same (same_upd hp)))) q⟩
theorem wt_test (h : WE K te ρ ω fun d ω1 => ∃ b, d = .bl b ∧ Θ b ω1) : WT K (tTest te) ρ ω Θ := fun M O σ H R Q k =>
  h M O σ H R _ fun v1 H1 ω1 d1 R1 k1 r1 ⟨b, e, q⟩ => by
    subst e
    cases r1
    exact ⟨b, rfl, k b H1 ω1 R1 k1 q⟩
theorem wt_and {t u : TT} (h : WT K t ρ ω fun a ω1 => (a = true → WT K u ρ ω1 Θ) ∧ (a = false → Θ false ω1)) : WT K (tAnd t u) ρ ω Θ := fun M O σ H R Q k =>
  h M O σ H R _ fun a H1 ω1 R1 k1 ⟨h1, h2⟩ => by
    cases a with
    | true =>
      show u σ H1 Q
      exact h1 rfl M O σ H1 R1 Q fun b H2 ω2 R2 k2 q => k b H2 ω2 R2 (k1.trans k2) q
    | false => exact k false H1 ω1 R1 k1 (h2 rfl)
theorem wt_or {t u : TT} (h : WT K t ρ ω fun a ω1 => (a = true → Θ true ω1) ∧ (a = false → WT K u ρ ω1 Θ)) : WT K (tOr t u) ρ ω Θ := fun M O σ H R Q k =>
  h M O σ H R _ fun a H1 ω1 R1 k1 ⟨h1, h2⟩ => by
    cases a with
    | true => exact k true H1 ω1 R1 k1 (h1 rfl)
    | false =>
      show u σ H1 Q
      exact h2 rfl M O σ H1 R1 Q fun b H2 ω2 R2 k2 q => k b H2 ω2 R2 (k1.trans k2) q
theorem wt_not {t : TT} (h : WT K t ρ ω fun a ω1 => Θ (!a) ω1) : WT K (tNot t) ρ ω Θ := fun M O σ H R Q k =>
  h M O σ H R _ fun a H1 ω1 R1 k1 q => k (!a) H1 ω1 R1 k1 q
theorem we_if {t : TT} (h : WT K t ρ ω fun b ω1 => (b = true → WE K ta ρ ω1 Φ) ∧ (b = false → WE K tb ρ ω1 Φ)) : WE K (tIf t ta tb) ρ ω Φ := fun M O σ H R Q k =>
  h M O σ H R _ fun a H1 ω1 R1 k1 ⟨h1, h2⟩ => by
    cases a with
    | true =>
      show ta σ H1 Q
      exact h1 rfl M O σ H1 R1 Q fun v H2 ω2 d2 R2 k2 r2 q => k v H2 ω2 d2 R2 (k1.trans k2) r2 q
    | false =>
      show tb σ H1 Q
      exact h2 rfl M O σ H1 R1 Q fun v H2 ω2 d2 R2 k2 r2 q => k v H2 ω2 d2 R2 (k1.trans k2) r2 q
end

/-! ### promises -/
/-- a def that changes nothing: told by which results fit which arguments -/
def spR (K : PySem.W.Frag) (R : List D → D → Prop) : Sp := fun vs H Q _ => ∃ ds M, (∃ d, R ds d) ∧ (∀ m ∈ M, Trk H m) ∧ Rps K (hid M H) vs ds ∧ ∀ d v H', R ds d → Same H H' → Rp K (hid M H') v d → Q v H'
/-- a def that changes its first argument, a list of one's own -/
def spT (K : PySem.W.Frag) (pre : List D → List D → Prop) (R : List D → List D → D → List D → Prop) : Sp := fun vs H Q _ => ∃ a xs ws vr ds M, vs = .ref a :: vr ∧ H a = some (.lst ws) ∧ a ∉ M ∧ pre xs ds ∧ (∀ m ∈ M, Trk H m) ∧
  Rps K (hid (a :: M) H) ws xs ∧ Rps K (hid (a :: M) H) vr ds ∧
  ∀ d v H' xs' ws', R xs ds d xs' → (∀ b o, H b = some o → b ≠ a → H' b = some o) → H' a = some (.lst ws') → Rps K (hid (a :: M) H') ws' xs' → Rp K (hid (a :: M) H') v d → Q v H'
section
variable {K : PySem.W.Frag} {s : Bool} {ρ : En} {ω : Ow} {ta tb te tc : TE} {d d1 d2 d3 : D} {ds : List D} {Φ : D → Ow → Prop} {E : XK} {R : List D → D → Prop}
theorem ev_call {t : TA} (h : EvA K s t ρ ω ds) (hR : R ds d) (hu : ∀ d', R ds d' → d' = d) : Ev K s (tCall (spR K R) [] E t) ρ ω d := fun M O σ H r Q q =>
  h M O σ H r _ fun vs H1 s1 r1 => ⟨ds, Xs s M O, ⟨d, hR⟩, Xs_tr (r.mono s1), by rw [List.append_nil]; exact r1, fun d' v H2 hd s2 r2 => q v H2 (s1.trans s2) (hu d' hd ▸ r2)⟩
theorem we_call {t : TA} (h : WA K t ρ ω fun ds ω1 => (∃ d, R ds d) ∧ ∀ d, R ds d → Φ d ω1) : WE K (tCall (spR K R) [] E t) ρ ω Φ := fun M O σ H r Q q =>
  h M O σ H r _ fun vs H1 ω1 ds R1 k1 r1 ⟨hR, h2⟩ => ⟨ds, xo M O, hR, R1.trkX, by rw [List.append_nil]; exact r1, fun d' v H2 hd s2 r2 => q v H2 ω1 d' (R1.mono s2) (k1.trans (.same s2)) r2 (h2 d' hd)⟩
/-- f(box, ..): the first argument an own list -/
theorem we_callT {i k : Nat} {t : TA} {pre : List D → List D → Prop} {R : List D → List D → D → List D → Prop} (hi : ρ[i]? = some (some (.ow k)))
    (h : WA K t ρ ω fun ds ω1 => ∃ xs, ω1[k]? = some (.l xs) ∧ pre xs ds ∧ ∀ d xs', R xs ds d xs' → Φ d (ω1.set k (.l xs'))) : WE K (tCall (spT K pre R) [] E (tCons (tVar i) t)) ρ ω Φ := fun M O σ H r Q q => by
  obtain ⟨a, ha, hσ⟩ := r.ow i k hi
  refine ⟨.ref a, hσ, ?_⟩
  refine h M O σ H r _ fun vs H1 ω1 ds R1 k1 r1 ⟨xs, e1, hp, hR⟩ => ?_
  obtain ⟨w, h3, h4, h5⟩ := R1.own k a ha
  rw [e1] at h3
  cases h3
  obtain ⟨ws, h6, h7⟩ := h5
  have ma : a ∈ xo M O := mem_xo.mpr (.inr (List.mem_of_getElem? ha))
  -- what is held aside: all of the frame's but a
  let M' := (xo M O).filter fun b => decide (b ≠ a)
  have m1 : ∀ b, b ∈ a :: M' ↔ b ∈ xo M O := fun b => by
    rw [List.mem_cons, List.mem_filter, decide_eq_true_iff]
    constructor
    · rintro (e | h)
      · rw [e]; exact ma
      · exact h.1
    · intro h
      by_cases e : b = a
      · exact .inl e
      · exact .inr ⟨h, e⟩
  have hh : ∀ Hx : Hp, hid (a :: M') Hx = hid (xo M O) Hx := fun Hx => by
    funext b
    unfold hid
    by_cases hb : b ∈ xo M O
    · rw [if_pos ((m1 b).mpr hb), if_pos hb]
    · rw [if_neg (fun z => hb ((m1 b).mp z)), if_neg hb]
  refine ⟨a, xs, ws, vs, ds, M', by rw [List.append_nil], h6, ?_, hp, fun m hm => R1.trkX m (List.mem_filter.mp hm).1, by rw [hh]; exact h7, by rw [hh]; exact r1, fun d v H2 xs' ws' hd k2 h2 r2 r3 => ?_⟩
  · intro z
    exact (of_decide_eq_true (List.mem_filter.mp z).2) rfl
  · rw [hh] at r2 r3
    have eh : Same (hid (xo M O) H1) (hid (xo M O) H2) := fun b o e => by
      obtain ⟨n, e⟩ := of_hid e
      exact hid_of n (k2 b o e fun z => n (by rw [z]; exact ma))
    have tr : ∀ b, Trk H1 b → Trk H2 b := fun b n => by
      by_cases e : b = a
      · rw [e]; exact trk_of h2
      · cases e3 : H1 b with
        | none => exact absurd e3 n.1
        | some o =>
          unfold Trk
          rw [k2 b o e3 e, ← e3]
          exact n
    have kk : Kp O H1 O H2 := ⟨fun b o e n => ⟨k2 b o e fun z => n (by rw [z]; exact List.mem_of_getElem? ha), n⟩, tr, fun _ => .inl rfl⟩
    refine q v H2 (ω1.set k (.l xs')) d ⟨fun m hm => tr m (R1.trk m hm), R1.nod, R1.dis, by rw [List.length_set]; exact R1.lenO, fun j b e => ?_, fun j w0 e ng => ?_, R1.len, fun j d e => ?_, R1.ow⟩ (k1.trans kk) r3 (hR d xs' hd)
    · obtain ⟨w0, g1, g2, g3⟩ := R1.own j b e
      by_cases hj : k = j
      · subst hj
        rw [ha] at e
        cases e
        have hl : k < ω1.length := by rw [← R1.lenO]; exact (List.getElem?_eq_some_iff.mp ha).1
        exact ⟨_, List.getElem?_set_self hl, l_ne, ws', h2, r2⟩
      · have nb : b ≠ a := fun z => hj (R1.nod k j a ha (by rw [← z]; exact e))
        exact ⟨w0, by rw [List.getElem?_set_ne hj]; exact g1, g2, g3.mono eh fun o ex => k2 b o ex nb⟩
    · by_cases hj : k = j
      · subst hj
        exact ⟨a, ha⟩
      · rw [List.getElem?_set_ne hj] at e
        exact R1.live j w0 e ng
    · obtain ⟨v', g1, g2⟩ := R1.sh j d e
      exact ⟨v', g1, g2.mono eh⟩
end

/-! ### statements -/
inductive Out where
  | nx (ρ : En) (ω : Ow) | rt (d : D) (ω : Ow) | bk (ρ : En) (ω : Ow) | ct (ρ : En) (ω : Ow)
structure Conts (K : PySem.W.Frag) (b : Bool) (M : List Addr) (O : OA) (H : Hp) (D' : Ends) (Φ : Out → Prop) : Prop where
  nx : ∀ O' σ' H' ρ' ω', SR K M O' ω' ρ' σ' H' → Kp O H O' H' → Φ (.nx ρ' ω') → D'.nx σ' H'
  rt : ∀ O' σ' H' ρ' ω' v d, SR K M O' ω' ρ' σ' H' → Kp O H O' H' → Rp K (hid (Xs b M O') H') v d → Φ (.rt d ω') → D'.rt v H'
  bk : ∀ O' σ' H' ρ' ω', SR K M O' ω' ρ' σ' H' → Kp O H O' H' → Φ (.bk ρ' ω') → D'.bk σ' H'
  ct : ∀ O' σ' H' ρ' ω', SR K M O' ω' ρ' σ' H' → Kp O H O' H' → Φ (.ct ρ' ω') → D'.ct σ' H'
theorem Conts.go {K : PySem.W.Frag} {b : Bool} {M : List Addr} {O O1 : OA} {H H1 : Hp} {D' : Ends} {Φ : Out → Prop} (c : Conts K b M O H D' Φ) (k : Kp O H O1 H1) : Conts K b M O1 H1 D' Φ :=
  ⟨fun O' σ' H' ρ' ω' r k1 => c.nx O' σ' H' ρ' ω' r (k.trans k1), fun O' σ' H' ρ' ω' v d r k1 => c.rt O' σ' H' ρ' ω' v d r (k.trans k1), fun O' σ' H' ρ' ω' r k1 => c.bk O' σ' H' ρ' ω' r (k.trans k1), fun O' σ' H' ρ' ω' r k1 => c.ct O' σ' H' ρ' ω' r (k.trans k1)⟩
def WS (K : PySem.W.Frag) (b : Bool) (ts : TS) (ρ : En) (ω : Ow) (Φ : Out → Prop) : Prop := ∀ M O σ H D', SR K M O ω ρ σ H → Conts K b M O H D' Φ → ts D' σ H
/-- what is wanted behind a statement that another follows -/
def sq (K : PySem.W.Frag) (b : Bool) (u : TS) (Φ : Out → Prop) : Out → Prop
  | .nx ρ ω => WS K b u ρ ω Φ
  | o => Φ o
/-- .. behind a turn of a loop -/
def lp (I : En → Ow → Prop) (Φ : Out → Prop) : Out → Prop
  | .nx ρ ω => I ρ ω
  | .ct ρ ω => I ρ ω
  | .bk ρ ω => Φ (.nx ρ ω)
  | .rt d ω => Φ (.rt d ω)
section
variable {K : PySem.W.Frag} {b : Bool} {s : Bool} {ρ ρ' : En} {ω ω' : Ow} {ta tb te tc : TE} {d d1 d2 d3 : D} {ds : List D} {Φ : Out → Prop} {t u : TS}
theorem WS.imp {Φ' : Out → Prop} (h : WS K b t ρ ω Φ) (i : ∀ o, Φ o → Φ' o) : WS K b t ρ ω Φ' := fun M O σ H D' r c => h M O σ H D' r
  ⟨fun O' σ' H' ρ' ω' r k1 q => c.nx O' σ' H' ρ' ω' r k1 (i _ q), fun O' σ' H' ρ' ω' v d r k1 rp q => c.rt O' σ' H' ρ' ω' v d r k1 rp (i _ q), fun O' σ' H' ρ' ω' r k1 q => c.bk O' σ' H' ρ' ω' r k1 (i _ q), fun O' σ' H' ρ' ω' r k1 q => c.ct O' σ' H' ρ' ω' r k1 (i _ q)⟩
theorem ws_seq (h : WS K b t ρ ω (sq K b u Φ)) : WS K b (tSeq t u) ρ ω Φ := fun M O σ H D' r c => h M O σ H _ r
  ⟨fun O' σ' H' ρ' ω' r1 k1 q => q M O' σ' H' D' r1 (c.go k1), fun O' σ' H' ρ' ω' v d r1 k1 rp q => c.rt O' σ' H' ρ' ω' v d r1 k1 rp q, fun O' σ' H' ρ' ω' r1 k1 q => c.bk O' σ' H' ρ' ω' r1 k1 q, fun O' σ' H' ρ' ω' r1 k1 q => c.ct O' σ' H' ρ' ω' r1 k1 q⟩
theorem ws_next (q : Φ (.nx ρ ω)) : WS K b tNext ρ ω Φ := fun M O σ H D' r c => c.nx O σ H ρ ω r (.same (Same.refl H)) q
theorem ws_brk (q : Φ (.bk ρ ω)) : WS K b tBreak ρ ω Φ := fun M O σ H D' r c => c.bk O σ H ρ ω r (.same (Same.refl H)) q
theorem ws_cont (q : Φ (.ct ρ ω)) : WS K b tCont ρ ω Φ := fun M O σ H D' r c => c.ct O σ H ρ ω r (.same (Same.refl H)) q
theorem ws_set {i : Nat} (h : Ev K true te ρ ω d) (q : Φ (.nx (ρ.set i (some (.sh d))) ω)) : WS K b (tAsg te (gName i)) ρ ω Φ := fun M O σ H D' r c => h M O σ H r _ fun v H1 s1 r1 =>
  c.nx O _ H1 _ ω ((r.mono s1).setSh r1) (.same s1) q
theorem ws_setW {i : Nat} (h : WE K te ρ ω fun d ω1 => Φ (.nx (ρ.set i (some (.sh d))) ω1)) : WS K b (tAsg te (gName i)) ρ ω Φ := fun M O σ H D' r c => h M O σ H r _ fun v H1 ω1 d R1 k1 r1 q =>
  c.nx O _ H1 _ ω1 (R1.setSh r1) k1 q
theorem ws_drop (h : Ev K s te ρ ω d) (q : Φ (.nx ρ ω)) : WS K b (tDrop te) ρ ω Φ := fun M O σ H D' r c => h M O σ H r _ fun v H1 s1 r1 => c.nx O σ H1 ρ ω (r.mono s1) (.same s1) q
theorem ws_ret (h : Ev K b te ρ ω d) (q : Φ (.rt d ω)) : WS K b (tRet te) ρ ω Φ := fun M O σ H D' r c => h M O σ H r _ fun v H1 s1 r1 => c.rt O σ H1 ρ ω v d (r.mono s1) (.same s1) r1 q
theorem ws_retW (h : WE K te ρ ω fun d ω1 => Φ (.rt d ω1)) : WS K b (tRet te) ρ ω Φ := fun M O σ H D' r c => h M O σ H r _ fun v H1 ω1 d R1 k1 r1 q =>
  c.rt O σ H1 ρ ω1 v d R1 k1 (r1.mono (hid_sub Xs_sub)) q
theorem ws_retN (q : Φ (.rt .non ω)) : WS K b tRetN ρ ω Φ := fun M O σ H D' r c => c.rt O σ H ρ ω .non .non r (.same (Same.refl H)) .non q
theorem ws_if {tt : TT} {c : Bool} (h : EvT K tt ρ ω c) (h1 : c = true → WS K b t ρ ω Φ) (h2 : c = false → WS K b u ρ ω Φ) : WS K b (tIfS tt t u) ρ ω Φ := fun M O σ H D' r k => h M O σ H r _ fun H1 s1 => by
  cases c with
  | true =>
    show t D' σ H1
    exact h1 rfl M O σ H1 D' (r.mono s1) (k.go (.same s1))
  | false =>
    show u D' σ H1
    exact h2 rfl M O σ H1 D' (r.mono s1) (k.go (.same s1))
theorem ws_ifW {tt : TT} (h : WT K tt ρ ω fun c ω1 => (c = true → WS K b t ρ ω1 Φ) ∧ (c = false → WS K b u ρ ω1 Φ)) : WS K b (tIfS tt t u) ρ ω Φ := fun M O σ H D' r k => h M O σ H r _ fun c H1 ω1 R1 k1 ⟨h1, h2⟩ => by
  cases c with
  | true =>
    show t D' σ H1
    exact h1 rfl M O σ H1 D' R1 (k.go k1)
  | false =>
    show u D' σ H1
    exact h2 rfl M O σ H1 D' R1 (k.go k1)
/-- an own object becomes shared data -/
theorem ws_give (k : Nat) {w : Own} (hw : ω[k]? = some w) (hg : w ≠ .gone) (h : WS K b t (thaw k (ownD w) ρ) (ω.set k .gone) Φ) : WS K b t ρ ω Φ := fun M O σ H D' r c => by
  obtain ⟨r1, k1⟩ := r.give hw hg
  exact h M _ σ H D' r1 (c.go k1)
theorem ws_forget (ρ' : En) (hl : ρ'.length = ρ.length) (he : ∀ (i : Nat) (e : Ent), ρ'[i]? = some (some e) → ρ[i]? = some (some e)) (h : WS K b t ρ' ω Φ) : WS K b t ρ ω Φ := fun M O σ H D' r c => h M O σ H D' (r.sub hl he) c

/-! ### what is assigned: shared data, or a new object of one's own -/
inductive NE where
  | d (x : D) | w (x : Own)
def NE.own : NE → Ow
  | .d _ => [] | .w x => [x]
def NE.ent (ω : Ow) : NE → Ent
  | .d x => .sh x | .w _ => .ow ω.length
def NOk (K : PySem.W.Frag) (X : List Addr) (H H' : Hp) (v : V) : NE → Prop
  | .d x => Rp K (hid X H') v x
  | .w x => ∃ p H1, v = .ref p ∧ Same H H1 ∧ Same H1 H' ∧ H1 p = none ∧ x ≠ .gone ∧ OwnAt K (hid X H1) H' p x
def EvN (K : PySem.W.Frag) (te : TE) (ρ : En) (ω : Ow) (n : NE) : Prop := ∀ M O σ H, SR K M O ω ρ σ H → ∀ Q : VK, (∀ v H', Same H H' → NOk K (xo M O) H H' v n → Q v H') → te σ H Q
theorem en_ev (h : Ev K true te ρ ω d) : EvN K te ρ ω (.d d) := fun M O σ H r Q q => h M O σ H r Q fun v H1 s1 r1 => q v H1 s1 r1
theorem en_lst {t : TA} (h : EvA K true t ρ ω ds) (hl : ds.length ≤ 1000 := by exact Nat.le_of_ble_eq_true rfl) : EvN K (tLst t) ρ ω (.w (.l ds)) := fun M O σ H R Q q =>
  h M O σ H R _ fun vs H1 s1 r1 => ⟨by rw [r1.length]; exact Nat.le_of_lt (small1000 hl), fun p hp =>
    q (.ref p) _ (s1.trans (same_upd hp)) ⟨p, H1, rfl, s1, same_upd hp, hp, l_ne, vs, upd_same, r1⟩⟩
theorem en_dK : EvN K tDNewK ρ ω (.w (.dK [])) := fun M O σ H R Q q p hp => q (.ref p) _ (same_upd hp) ⟨p, H, rfl, Same.refl H, same_upd hp, hp, fun z => Own.noConfusion z, [], upd_same, rfl, .nil⟩
theorem en_dT : EvN K tDNewT ρ ω (.w (.dT [])) := fun M O σ H R Q q p hp => q (.ref p) _ (same_upd hp) ⟨p, H, rfl, Same.refl H, same_upd hp, hp, fun z => Own.noConfusion z, [], upd_same, rfl, .nil⟩
/-- the value comes to a slot -/
theorem SR.setN {M : List Addr} {O : OA} {σ : St} {H H' : Hp} (r : SR K M O ω ρ σ H) (s : Same H H') {n : NE} {v : V} (h : NOk K (xo M O) H H' v n) :
    ∃ O', SR K M O' (ω ++ n.own) ρ σ H' ∧ Kp O H O' H' ∧ (∀ (k : Nat) (a : Addr), O[k]? = some (some a) → O'[k]? = some (some a)) ∧ ∀ (ρ1 : En) (ω1 : Ow) (σ1 : St) (O1 : OA) (H1 : Hp) (i : Nat), SR K M O1 ω1 ρ1 σ1 H1 → Same (hid (xo M O') H') (hid (xo M O1) H1) → (∀ (k : Nat) (a : Addr), O'[k]? = some (some a) → O1[k]? = some (some a)) →
      SR K M O1 ω1 (ρ1.set i (some (n.ent ω))) (σ1.set i (some v)) H1 := by
  cases n with
  | d x =>
    have e : ω ++ (NE.d x).own = ω := List.append_nil _
    rw [e]
    exact ⟨O, r.mono s, .same s, fun _ _ e => e, fun ρ1 ω1 σ1 O1 H1 i r1 s1 _ => r1.setSh (Rp.mono s1 h)⟩
  | w x =>
    obtain ⟨p, H1, rfl, s1, s2, hp, hg, ho⟩ := h
    obtain ⟨r2, k2⟩ := (r.mono s1).take s2 hp hg ho
    refine ⟨O ++ [some p], r2, (Kp.same s1).trans k2, fun k a e => by rw [List.getElem?_append_left (List.getElem?_eq_some_iff.mp e).1]; exact e, fun ρ1 ω1 σ1 O1 H3 i r1 _ up => r1.setOw (up ω.length p ?_)⟩
    rw [← r.lenO, List.getElem?_append_right (Nat.le_refl _), Nat.sub_self]
    rfl
theorem ws_setN {i : Nat} {n : NE} (h : EvN K te ρ ω n) (q : Φ (.nx (ρ.set i (some (n.ent ω))) (ω ++ n.own))) : WS K b (tAsg te (gName i)) ρ ω Φ := fun M O σ H D' r c => h M O σ H r _ fun v H1 s1 r1 => by
  obtain ⟨O', r2, k2, _, up⟩ := r.setN s1 r1
  exact c.nx O' _ H1 _ _ (up _ _ _ _ _ i r2 (Same.refl _) fun _ _ e => e) k2 q
/-- a, b = x, y -/
theorem ws_par {i j : Nat} {n m : NE} (h1 : EvN K ta ρ ω n) (h2 : EvN K tb ρ (ω ++ n.own) m) (q : Φ (.nx ((ρ.set i (some (n.ent ω))).set j (some (m.ent (ω ++ n.own)))) ((ω ++ n.own) ++ m.own))) :
    WS K b (tPar i j (tCons ta (tCons tb tNil))) ρ ω Φ := fun M O σ H D' r c => h1 M O σ H r _ fun v H1 s1 r1 => by
  obtain ⟨O1, R1, k1, _, up1⟩ := r.setN s1 r1
  refine h2 M O1 σ H1 R1 _ fun u H2 s2 r2 => ?_
  obtain ⟨O2, R2, k2, ex2, up2⟩ := R1.setN s2 r2
  refine ⟨v, u, rfl, c.nx O2 _ H2 _ _ (up2 _ _ _ _ _ j (up1 _ _ _ _ _ i R2 k2.hid ex2) (Same.refl _) fun _ _ e => e) (k1.trans k2) q⟩
/-- both sides may change things -/
theorem ws_parW {i j : Nat} (h : WA K (tCons ta (tCons tb tNil)) ρ ω fun ds ω1 => ∃ d1 d2, ds = [d1, d2] ∧ Φ (.nx ((ρ.set i (some (.sh d1))).set j (some (.sh d2))) ω1)) :
    WS K b (tPar i j (tCons ta (tCons tb tNil))) ρ ω Φ := fun M O σ H D' r c => h M O σ H r _ fun vs H1 ω1 ds R1 k1 r1 ⟨d1, d2, e, q⟩ => by
  subst e
  cases r1 with
  | cons r1 r2 =>
    cases r2 with
    | cons r2 r3 =>
      cases r3
      exact ⟨_, _, rfl, c.nx O _ H1 _ ω1 ((R1.setSh r1).setSh r2) k1 q⟩

/-! ### targets -/
def WG (K : PySem.W.Frag) (g : TG) (d : D) (ρ ρ' : En) : Prop := ∀ M O ω σ H v, SR K M O ω ρ σ H → Rp K (hid (xo M O) H) v d → ∀ Q : St → Hp → Prop, (∀ σ', SR K M O ω ρ' σ' H → Q σ' H) → g v σ H Q
def WGs (K : PySem.W.Frag) (g : TGs) (ds : List D) (ρ ρ' : En) : Prop := ∀ M O ω σ H vs, SR K M O ω ρ σ H → Rps K (hid (xo M O) H) vs ds → ∀ Q : St → Hp → Prop, (∀ σ', SR K M O ω ρ' σ' H → Q σ' H) → g vs σ H Q
theorem wg_name {i : Nat} : WG K (gName i) d ρ (ρ.set i (some (.sh d))) := fun M O ω σ H v r rp Q q => q _ (r.setSh rp)
theorem wgs_nil : WGs K gNil [] ρ ρ := fun M O ω σ H vs r rp Q q => by
  cases rp
  exact ⟨rfl, q _ r⟩
theorem wgs_cons {g : TG} {gs : TGs} {ρ1 ρ2 : En} (h : WG K g d ρ ρ1) (hs : WGs K gs ds ρ1 ρ2) : WGs K (gCons g gs) (d :: ds) ρ ρ2 := fun M O ω σ H vs r rp Q q => by
  cases rp with
  | cons r1 r2 => exact ⟨_, _, rfl, h M O ω σ H _ r r1 _ fun σ' r' => hs M O ω σ' H _ r' r2 Q q⟩
theorem wg_tup {gs : TGs} {n : Nat} (h : WGs K gs ds ρ ρ') (hn : ds.length = n) : WG K (gTup K n gs) (.tup ds) ρ ρ' := fun M O ω σ H v r rp Q q => by
  cases rp with
  | tup hT hs => exact ⟨_, _, rfl, sameT hid_le hT, by rw [hs.length]; exact hn, h M O ω σ H _ r hs Q q⟩
theorem ws_asg {g : TG} (h : WE K te ρ ω fun d ω1 => ∃ ρ', WG K g d ρ ρ' ∧ Φ (.nx ρ' ω1)) : WS K b (tAsg te g) ρ ω Φ := fun M O σ H D' r c => h M O σ H r _ fun v H1 ω1 d R1 k1 r1 ⟨ρ', hg, q⟩ =>
  hg M O ω1 σ H1 v R1 r1 _ fun σ' R2 => c.nx O σ' H1 ρ' ω1 R2 k1 q

/-! ### what is walked -/
structure Walks (K : PySem.W.Frag) (Hs : Hp) (J : It) (xs : List D) : Prop where
  go : ∀ i Hh H, Same Hs Hh → Same Hh H → i < xs.length → J.go i H
  yl : ∀ i X H x H', Same Hs (hid X H) → (∀ m ∈ X, Trk H m) → i < xs.length → J.yld i H x H' → Same H H' ∧ ∀ d, xs[i]? = some d → Rp K (hid X H') x d
  st : ∀ Hh H, Same Hs Hh → Same Hh H → J.stop xs.length H
def EvI (K : PySem.W.Frag) (wi : TI) (ρ : En) (ω : Ow) (xs : List D) : Prop := ∀ M O σ H, SR K M O ω ρ σ H → ∀ R : It → Hp → Prop, (∀ J H1, Same H H1 → Walks K (hid (xo M O) H1) J xs → R J H1) → wi σ H R
theorem ei_list {tl : TE} (h : Ev K true tl ρ ω (.lst ds)) : EvI K (iList K tl) ρ ω ds := fun M O σ H r R q => h M O σ H r _ fun v H1 s1 r1 => by
  cases r1 with
  | lst ha rs =>
    rename_i a vs
    have e1 := (of_hid ha).2
    refine ⟨a, rfl, ⟨vs, .inl (.inl e1)⟩, q _ _ s1 ⟨fun i Hh H' t1 t2 hi => ?_, fun i X H' x H2 t1 tr hi hy => ?_, fun Hh H' t1 t2 => ?_⟩⟩
    · have e2 := t2 _ _ (t1 _ _ ha)
      rw [← rs.length] at hi
      exact ⟨vs, vs[i], .inl (.inl e2), List.getElem?_eq_getElem hi⟩
    · obtain ⟨rfl, f⟩ := hy
      refine ⟨Same.refl _, fun d hd => ?_⟩
      have e2 := hid_le _ _ (t1 _ _ ha)
      obtain ⟨v, h1, h2⟩ := rs.get hd
      have := f vs (.inl (.inl e2))
      rw [h1] at this
      cases this
      exact h2.mono t1
    · have e2 := t2 _ _ (t1 _ _ ha)
      exact ⟨vs, .inl (.inl e2), by rw [rs.length]; exact Nat.le_refl _⟩
theorem ei_tup {tl : TE} (h : Ev K true tl ρ ω (.tup ds)) : EvI K (iTup K tl) ρ ω ds := fun M O σ H r R q => h M O σ H r _ fun v H1 s1 r1 => by
  cases r1 with
  | tup ha rs =>
    rename_i a vs
    refine ⟨a, rfl, ⟨vs, sameT hid_le ha⟩, q _ _ s1 ⟨fun i Hh H' t1 t2 hi => ?_, fun i X H' x H2 t1 tr hi hy => ?_, fun Hh H' t1 t2 => ?_⟩⟩
    · rw [← rs.length] at hi
      exact ⟨vs, vs[i], sameT t2 (t1 _ _ ha), List.getElem?_eq_getElem hi⟩
    · obtain ⟨rfl, f⟩ := hy
      refine ⟨Same.refl _, fun d hd => ?_⟩
      obtain ⟨v, h1, h2⟩ := rs.get hd
      have := f vs (sameT hid_le (t1 _ _ ha))
      rw [h1] at this
      cases this
      exact h2.mono t1
    · exact ⟨vs, sameT t2 (t1 _ _ ha), by rw [rs.length]; exact Nat.le_refl _⟩
/-- lo, lo + 1, .. -/
def rng (lo : Int) (n : Nat) : List D := (List.range n).map fun (i : Nat) => D.int (lo + (i : Int))
theorem rng_len {lo : Int} {n : Nat} : (rng lo n).length = n := by unfold rng; rw [List.length_map, List.length_range]
theorem rng_get {lo : Int} {n i : Nat} (h : i < n) : (rng lo n)[i]? = some (.int (lo + i)) := by
  unfold rng
  rw [List.getElem?_map, List.getElem?_range h]
  rfl
theorem walks_rng {Hs : Hp} {lo : Int} {n : Nat} : Walks K Hs (Itr lo n) (rng lo n) := by
  refine ⟨fun i Hh H t1 t2 hi => ?_, fun i X H x H' t1 tr hi hy => ?_, fun Hh H t1 t2 => ?_⟩
  · rw [rng_len] at hi; exact hi
  · obtain ⟨rfl, rfl⟩ := hy
    rw [rng_len] at hi
    refine ⟨Same.refl _, fun d hd => ?_⟩
    rw [rng_get hi] at hd
    cases hd
    exact .int _
  · rw [rng_len]; exact Nat.le_refl n
theorem ei_rng1 {j : Int} {t : TA} (h : EvA K s t ρ ω [.int j]) (h1 : -(2 ^ 62) ≤ j) (h2 : j < 2 ^ 62) : EvI K (iRng1 t) ρ ω (rng 0 j.toNat) := fun M O σ H r R q => h M O σ H r _ fun vs H1 s1 r1 => by
  cases r1 with
  | cons r1 r2 =>
    cases r1
    cases r2
    exact ⟨j, rfl, h1, h2, q _ _ s1 walks_rng⟩
theorem ei_rng2 {i j : Int} {t : TA} (h : EvA K s t ρ ω [.int i, .int j]) (h1 : -(2 ^ 62) ≤ i) (h2 : i < 2 ^ 62) (h3 : -(2 ^ 62) ≤ j) (h4 : j < 2 ^ 62) : EvI K (iRng2 t) ρ ω (rng i (j - i).toNat) := fun M O σ H r R q => h M O σ H r _ fun vs H1 s1 r1 => by
  cases r1 with
  | cons r1 r2 =>
    cases r1
    cases r2 with
    | cons r2 r3 =>
      cases r2
      cases r3
      exact ⟨i, j, rfl, ⟨h1, h2, h3, h4⟩, q _ _ s1 walks_rng⟩
/-- for: an invariant of the turn -/
theorem ws_for {wi : TI} {g : TG} {xs : List D} (h : EvI K wi ρ ω xs) (I : Nat → En → Ow → Prop) (h0 : I 0 ρ ω)
    (hs : ∀ i d ρ' ω', xs[i]? = some d → I i ρ' ω' → ∃ ρ2, WG K g d ρ' ρ2 ∧ WS K b t ρ2 ω' (lp (I (i + 1)) Φ)) (hd : ∀ ρ' ω', I xs.length ρ' ω' → Φ (.nx ρ' ω')) : WS K b (tFor wi g t) ρ ω Φ := fun M O σ H D' r c =>
  h M O σ H r _ fun J H1 s1 wk => by
    refine ⟨fun i m σ' H' => m = xs.length - i ∧ i ≤ xs.length ∧ ∃ O' ρ' ω', SR K M O' ω' ρ' σ' H' ∧ Kp O H1 O' H' ∧ I i ρ' ω', ⟨_, rfl, Nat.zero_le _, O, ρ, ω, r.mono s1, .same (Same.refl _), h0⟩, ?_⟩
    rintro i m σ' H' ⟨rfl, hi, O', ρ', ω', r', k', iv⟩
    by_cases hlt : i < xs.length
    · refine .inr ⟨wk.go i _ _ k'.hid hid_le hlt, fun σ2 H2 => ∃ O2 ρ2 ω2, SR K M O2 ω2 ρ2 σ2 H2 ∧ Kp O H1 O2 H2 ∧ I (i + 1) ρ2 ω2, ?_, fun x H2 hy => ?_⟩
      · rintro σ2 H2 ⟨O2, ρ2, ω2, r2, k2, iv2⟩
        exact ⟨_, by omega, rfl, hlt, O2, ρ2, ω2, r2, k2, iv2⟩
      · obtain ⟨s2, f⟩ := wk.yl i _ _ x H2 k'.hid r'.trkX hlt hy
        have rp := f _ (List.getElem?_eq_getElem hlt)
        obtain ⟨ρ2, hg, hb⟩ := hs i _ ρ' ω' (List.getElem?_eq_getElem hlt) iv
        refine hg M O' ω' σ' H2 x (r'.mono s2) rp _ fun σ3 r3 => ?_
        have kk : Kp O H O' H2 := (Kp.same s1).trans (k'.trans (.same s2))
        refine hb M O' σ3 H2 _ r3 ⟨fun O4 σ4 H4 ρ4 ω4 r4 k4 q => ⟨O4, ρ4, ω4, r4, (k'.trans (.same s2)).trans k4, q⟩, fun O4 σ4 H4 ρ4 ω4 v d r4 k4 rp q => c.rt O4 σ4 H4 ρ4 ω4 v d r4 (kk.trans k4) rp q,
          fun O4 σ4 H4 ρ4 ω4 r4 k4 q => c.nx O4 σ4 H4 ρ4 ω4 r4 (kk.trans k4) q, fun O4 σ4 H4 ρ4 ω4 r4 k4 q => ⟨O4, ρ4, ω4, r4, (k'.trans (.same s2)).trans k4, q⟩⟩
    · have e : i = xs.length := by omega
      subst e
      exact .inl ⟨wk.st _ _ k'.hid hid_le, c.nx O' σ' H' ρ' ω' r' ((Kp.same s1).trans k') (hd ρ' ω' iv)⟩
/-- while: an invariant with a measure -/
theorem ws_while {tt : TT} (I : Nat → En → Ow → Prop) (m0 : Nat) (h0 : I m0 ρ ω)
    (hs : ∀ m ρ' ω', I m ρ' ω' → ∃ c, EvT K tt ρ' ω' c ∧ (c = true → WS K b t ρ' ω' (lp (fun ρ2 ω2 => ∃ m', m' < m ∧ I m' ρ2 ω2) Φ)) ∧ (c = false → Φ (.nx ρ' ω'))) : WS K b (tWhile tt t) ρ ω Φ := fun M O σ H D' r c => by
  refine ⟨fun m σ' H' => ∃ O' ρ' ω', SR K M O' ω' ρ' σ' H' ∧ Kp O H O' H' ∧ I m ρ' ω', ⟨m0, O, ρ, ω, r, .same (Same.refl _), h0⟩, ?_⟩
  rintro m σ' H' ⟨O', ρ', ω', r', k', iv⟩
  obtain ⟨v, ht, h1, h2⟩ := hs m ρ' ω' iv
  refine ht M O' σ' H' r' _ fun H1 s1 => ?_
  have kk : Kp O H O' H1 := k'.trans (.same s1)
  cases v with
  | true =>
    refine iteT ⟨fun σ2 H2 => ∃ O2 ρ2 ω2, SR K M O2 ω2 ρ2 σ2 H2 ∧ Kp O H O2 H2 ∧ ∃ m', m' < m ∧ I m' ρ2 ω2, ?_, ?_⟩
    · rintro σ2 H2 ⟨O2, ρ2, ω2, r2, k2, m', hm, iv2⟩
      exact ⟨m', hm, O2, ρ2, ω2, r2, k2, iv2⟩
    · exact h1 rfl M O' σ' H1 _ (r'.mono s1) ⟨fun O4 σ4 H4 ρ4 ω4 r4 k4 q => ⟨O4, ρ4, ω4, r4, kk.trans k4, q⟩, fun O4 σ4 H4 ρ4 ω4 v d r4 k4 rp q => c.rt O4 σ4 H4 ρ4 ω4 v d r4 (kk.trans k4) rp q,
          fun O4 σ4 H4 ρ4 ω4 r4 k4 q => c.nx O4 σ4 H4 ρ4 ω4 r4 (kk.trans k4) q, fun O4 σ4 H4 ρ4 ω4 r4 k4 q => ⟨O4, ρ4, ω4, r4, kk.trans k4, q⟩⟩
  | false => exact iteF (c.nx O' σ' H1 ρ' ω' (r'.mono s1) kk (h2 rfl))
end
end DL

set_option Elab.async false
set_option linter.all false
set_option maxRecDepth 100000
set_option maxHeartbeats 4000000
/-! DL, part D: the rule for a def; operators and built-ins, whatever they are given. -/
namespace DL
open PySem L2 PySem.Spec PyProof.Rows

/-! ### the rule for a def -/
@[reducible] def fin (P : D → Prop) : Out → Prop
  | .rt d _ => P d
  | .nx _ _ => P .non
  | _ => False
def args (n : Nat) (ds : List D) : En := ds.map (fun d => some (.sh d)) ++ List.replicate (n - ds.length) none
theorem sr_start {K : PySem.W.Frag} {M : List Addr} {H : Hp} {N : List Str} {vs : List V} {ds : List D} (trk : ∀ m ∈ M, Trk H m) (r : Rps K (hid M H) vs ds) : SR K M [] [] (args N.length ds) (L2.start N vs) H where
  trk := trk
  nod := fun j k a h => by simp at h
  dis := fun a h => by cases h
  lenO := rfl
  own := fun k a h => by simp at h
  live := fun k w h => by simp at h
  len := by unfold args L2.start; simp [r.length]
  sh := fun i d e => by
    have hx : xo M [] = M := by unfold xo; simp
    rw [hx]
    unfold args at e
    by_cases hi : i < ds.length
    · rw [List.getElem?_append_left (by simpa using hi), List.getElem?_map] at e
      have e2 : ds[i]? = some d := by
        cases q : ds[i]? with
        | none => rw [q] at e; cases e
        | some x => rw [q] at e; cases e; rfl
      obtain ⟨v, h1, h2⟩ := r.get e2
      refine ⟨v, ?_, h2⟩
      unfold L2.start
      rw [List.getElem?_append_left (by rw [List.length_map, r.length]; exact hi), List.getElem?_map, h1]
      rfl
    · rw [List.getElem?_append_right (by simpa using hi), List.getElem?_replicate] at e
      split at e <;> cases e
  ow := fun i k e => by
    unfold args at e
    by_cases hi : i < ds.length
    · rw [List.getElem?_append_left (by simpa using hi), List.getElem?_map] at e
      cases q : ds[i]? with
      | none => rw [q] at e; cases e
      | some x => rw [q] at e; cases e
    · rw [List.getElem?_append_right (by simpa using hi), List.getElem?_replicate] at e
      split at e <;> cases e
section
variable {P : Program} {w : World} {K : PySem.W.Frag} {mg : Str → Option Value} {base : Heap}
theorem ok_pure {x qual : Str} {st : Stmt} {f : Addr} {fd : FuncData} {N ps : List Str} {k : Nat} {R : List D → D → Prop} {t : TS} (F : Fun K x qual st f fd) (S : FnScope N ps (defScope st)) (hl : ∀ ds d, R ds d → ds.length = ps.length)
    (ht : ∀ (cdv : Value) (A : Around) (outer : List Env) (s : Shared) (H : Hp) (E : XK), Room k (A.deeper (envOfC qual (defScope st) s.heap.objs.size f cdv)) → PSs (cxOf CX0 P w K mg base N qual (defScope st) f cdv A outer s H E).nox (defBody st) t)
    (hw : ∀ ds d, R ds d → WS K false t (args N.length ds) [] (fin (R ds))) : FnOk P w K mg base CX0 (k + 1) f fd ps (spR K R) := by
  refine F.ok S (fun vs H Q E h => ?_) (fun cdv A outer s H vs Q E hr h => ?_)
  · obtain ⟨ds, M, ⟨d, hd⟩, _, r, _⟩ := h
    rw [r.length]
    exact hl ds d hd
  · obtain ⟨ds, M, ⟨d, hd⟩, trk, r, q⟩ := h
    refine ⟨t, ht cdv A outer s H E hr, hw ds d hd M [] _ H _ (sr_start trk r) ⟨fun O' σ' H' ρ' ω' r' k' p => ?_, fun O' σ' H' ρ' ω' v d' r' k' rp p => ?_, fun O' σ' H' ρ' ω' r' k' p => p.elim, fun O' σ' H' ρ' ω' r' k' p => p.elim⟩⟩
    · exact q .non .non H' p k'.nil .non
    · exact q d' v H' p k'.nil rp
/-- the first argument a list of one's own -/
@[reducible] def finT (P : D → List D → Prop) : Out → Prop
  | .rt d ω => ∃ xs, ω[0]? = some (.l xs) ∧ P d xs
  | .nx _ ω => ∃ xs, ω[0]? = some (.l xs) ∧ P .non xs
  | _ => False
def argsT (n : Nat) (ds : List D) : En := some (.ow 0) :: args (n - 1) ds
theorem hid_cong {X Y : List Addr} {H : Hp} (h : ∀ b, b ∈ X ↔ b ∈ Y) : hid X H = hid Y H := by
  funext b
  unfold hid
  by_cases hb : b ∈ X
  · rw [if_pos hb, if_pos ((h b).mp hb)]
  · rw [if_neg hb, if_neg (fun z => hb ((h b).mpr z))]
theorem mem_xo1 {M : List Addr} {a b : Addr} : b ∈ xo M [some a] ↔ b ∈ a :: M := by
  constructor
  · intro h
    rcases mem_xo.mp h with h | h
    · exact List.mem_cons_of_mem _ h
    · have e : b = a := by simpa using h
      rw [e]; exact List.mem_cons_self
  · intro h
    rcases List.mem_cons.mp h with h | h
    · exact mem_xo.mpr (.inr (by rw [h]; exact List.mem_singleton.mpr rfl))
    · exact mem_xo.mpr (.inl h)
theorem ok_own {x qual : Str} {st : Stmt} {f : Addr} {fd : FuncData} {N ps : List Str} {k : Nat} {pre : List D → List D → Prop} {R : List D → List D → D → List D → Prop} {t : TS} (F : Fun K x qual st f fd) (S : FnScope N ps (defScope st)) (hl : ∀ xs ds, pre xs ds → ds.length + 1 = ps.length)
    (ht : ∀ (cdv : Value) (A : Around) (outer : List Env) (s : Shared) (H : Hp) (E : XK), Room k (A.deeper (envOfC qual (defScope st) s.heap.objs.size f cdv)) → PSs (cxOf CX0 P w K mg base N qual (defScope st) f cdv A outer s H E).nox (defBody st) t)
    (hw : ∀ xs ds, pre xs ds → WS K true t (argsT N.length ds) [.l xs] (finT (R xs ds))) : FnOk P w K mg base CX0 (k + 1) f fd ps (spT K pre R) := by
  refine F.ok S (fun vs H Q E h => ?_) (fun cdv A outer s H vs Q E hr h => ?_)
  · obtain ⟨a, xs, ws, vr, ds, M, rfl, _, _, hp, _, _, r, _⟩ := h
    rw [List.length_cons, r.length]
    exact hl xs ds hp
  · obtain ⟨a, xs, ws, vr, ds, M, rfl, ha, na, hp, trk, rx, rd, q⟩ := h
    have hn : N.length ≠ 0 := fun z => by
      have h1 := S.pre
      have h2 := hl xs ds hp
      have h3 := congrArg List.length h1
      rw [List.length_take] at h3
      omega
    have hh : hid (xo M [some a]) H = hid (a :: M) H := hid_cong fun b => mem_xo1
    obtain ⟨n0, N', rfl⟩ : ∃ n0 N', N = n0 :: N' := by
      cases N with
      | nil => exact absurd rfl hn
      | cons n0 N' => exact ⟨n0, N', rfl⟩
    have s0 := sr_start (N := N') (K := K) (M := a :: M) (H := H) (vs := vr) (ds := ds) (fun m hm => by
      rcases List.mem_cons.mp hm with e | hm
      · rw [e]; exact trk_of ha
      · exact trk m hm) rd
    have hx0 : xo (a :: M) [] = a :: M := by unfold xo; simp
    have sr : SR K M [some a] [.l xs] (argsT (n0 :: N').length ds) (L2.start (n0 :: N') (.ref a :: vr)) H := by
      refine ⟨trk, fun j k b h1 h2 => ?_, fun b h => ?_, rfl, fun k b h => ?_, fun k w h hg => ?_, ?_, fun i d e => ?_, fun i k e => ?_⟩
      · have c : ∀ {j : Nat}, [some a][j]? = some (some b) → j = 0 := fun {j} h => by
          have := (List.getElem?_eq_some_iff.mp h).1
          simp at this
          exact this
        rw [c h1, c h2]
      · have e : b = a := by simpa using h
        rw [e]; exact na
      · cases k with
        | zero =>
          have e : a = b := by simpa using h
          subst e
          exact ⟨_, rfl, l_ne, ws, ha, by rw [hh]; exact rx⟩
        | succ k => simp at h
      · cases k with
        | zero => exact ⟨a, rfl⟩
        | succ k => simp at h
      · have := s0.len
        unfold argsT L2.start at *
        simp at *
        omega
      · cases i with
        | zero => exact nomatch e
        | succ i =>
          obtain ⟨v, h1, h2⟩ := s0.sh i d (by simpa [argsT] using e)
          refine ⟨v, ?_, by rw [hh, ← hx0]; exact h2⟩
          have : L2.start (n0 :: N') (.ref a :: vr) = some (.ref a) :: L2.start N' vr := by
            unfold L2.start
            simp
          rw [this]
          exact h1
      · cases i with
        | zero =>
          have e' : (some (some (Ent.ow 0))) = some (some (Ent.ow k)) := e
          cases e'
          exact ⟨a, rfl, rfl⟩
        | succ i =>
          obtain ⟨b, h1, _⟩ := s0.ow i k (by simpa [argsT] using e)
          simp at h1
    have fin : ∀ {O' : OA} {σ' : L2.St} {H' : Hp} {ρ' : En} {ω' : Ow} {v : V} {d : D} {xs' : List D}, SR K M O' ω' ρ' σ' H' → Kp [some a] H O' H' → Rp K (hid (xo M O') H') v d → ω'[0]? = some (.l xs') → R xs ds d xs' → Q v H' := by
      intro O' σ' H' ρ' ω' v d xs' r' k' rp e p
      obtain ⟨b, hb⟩ := r'.live 0 _ e l_ne
      have hab : b = a := by
        rcases k'.ix 0 with h | h | h
        · rw [hb] at h
          have h' : some b = some a := by simpa using h
          exact Option.some.inj h'
        · simp at h
        · rw [hb] at h
          cases h
      subst hab
      obtain ⟨w0, g1, g2, g3⟩ := r'.own 0 b hb
      rw [e] at g1
      cases g1
      obtain ⟨ws', g4, g5⟩ := g3
      have sub : Same (hid (xo M O') H') (hid (b :: M) H') := hid_sub fun c hc => by
        rcases List.mem_cons.mp hc with z | z
        · rw [z]; exact mem_xo.mpr (.inr (List.mem_of_getElem? hb))
        · exact mem_xo.mpr (.inl z)
      exact q d v H' xs' ws' p (fun c o ec nc => (k'.kp c o ec fun z => nc (by simpa using z)).1) g4 (g5.mono sub) (rp.mono sub)
    refine ⟨t, ht cdv A outer s H E hr, hw xs ds hp M [some a] _ H _ sr ⟨fun O' σ' H' ρ' ω' r' k' p => ?_, fun O' σ' H' ρ' ω' v d' r' k' rp p => ?_, fun O' σ' H' ρ' ω' r' k' p => p.elim, fun O' σ' H' ρ' ω' r' k' p => p.elim⟩⟩
    · obtain ⟨xs', e, p⟩ := p
      exact fin r' k' .non e p
    · obtain ⟨xs', e, p⟩ := p
      exact fin r' k' rp e p
end

/-! ### a def that stands -/
structure Av (P : Program) (w : World) (K : PySem.W.Frag) (mg : Str → Option Value) (base : Heap) (k : Nat) (x : Str) (ps : List Str) (sp : Sp) : Prop where
  ex : ∃ (f : Addr) (fd : FuncData), FnOk P w K mg base CX0 k f fd ps sp ∧ mg x = some (.ref f) ∧ PySem.W.keepIn K (.ref f) = true ∧ Binds K fd ps [] ∧ ∀ ws : List Value, ws.length = ps.length → bindArgs fd ⟨[], ps.zip ws⟩ = pure (ps.zip ws)
section
variable {X : Cx} {k j : Nat} {x : Str} {ps : List Str} {sp : Sp} {p pos : Pos} {e : Expr} {es : List Expr} {t : TA}
theorem pe_av (a : Av X.prog X.w X.K X.mg X.base k x ps sp) (hr : Room j X.A) (hg : Gl X x) (ha : PA X (e :: es) t) (hk : k ≤ j := by decide) (hdb : (x == ("__debug__" : Str)) = false := by decide)
    (he : starEach (e :: es) X.env = (false, eval e X.env) :: starEach es X.env := by rfl) (hpl : (backTo pos (starEach es X.env)).any (·.1) = false := by rfl) : PE X (.Call (.Name x p) (e :: es) [] pos) (tCall sp [] E0 t) := by
  refine ⟨fun pins s σ H Q I h => ?_⟩
  obtain ⟨f, fd, F, hm, kp, hb, _⟩ := a.ex
  exact (pe_call (E := E0) F (hr.mono hk) hg hm kp hb .nil (fun _ _ _ _ _ _ _ z => z.elim) ha hdb he hpl).run pins s σ H Q I h
end

/-! ### operators -/
theorem OpR.or {X : Cx} {f : Value → Value → Sem Value} {r r' : R2} (h : OpR X f r) (h' : OpR X f r') : OpR X f (fun x y H Q => r x y H Q ∨ r' x y H Q) := by
  intro pins s σ H x y v u Q I rx ry q
  rcases q with q | q
  · exact h pins s σ H x y v u Q I rx ry q
  · exact h' pins s σ H x y v u Q I rx ry q
theorem RD.l {K : PySem.W.Frag} {r r' : R2} {d1 d2 d : D} (h : RD K r d1 d2 d) : RD K (fun x y H Q => r x y H Q ∨ r' x y H Q) d1 d2 d := fun X H v1 v2 t r1 r2 Q q => .inl (h X H v1 v2 t r1 r2 Q q)
theorem RD.r {K : PySem.W.Frag} {r r' : R2} {d1 d2 d : D} (h : RD K r' d1 d2 d) : RD K (fun x y H Q => r x y H Q ∨ r' x y H Q) d1 d2 d := fun X H v1 v2 t r1 r2 Q q => .inr (h X H v1 v2 t r1 r2 Q q)
theorem CallR.or {X : Cx} {f : Value} {r r' : List V → Hp → VK → Prop} (h : CallR X f r) (h' : CallR X f r') : CallR X f (fun x H Q => r x H Q ∨ r' x H Q) := by
  intro pins s σ H x v Q I rx q
  rcases q with q | q
  · exact h pins s σ H x v Q I rx q
  · exact h' pins s σ H x v Q I rx q
theorem RC.l {K : PySem.W.Frag} {r r' : List V → Hp → VK → Prop} {ds : List D} {d : D} (h : RC K r ds d) : RC K (fun x H Q => r x H Q ∨ r' x H Q) ds d := fun X H vs t r1 Q q => .inl (h X H vs t r1 Q q)
theorem RC.r {K : PySem.W.Frag} {r r' : List V → Hp → VK → Prop} {ds : List D} {d : D} (h : RC K r' ds d) : RC K (fun x H Q => r x H Q ∨ r' x H Q) ds d := fun X H vs t r1 Q q => .inr (h X H vs t r1 Q q)
section
variable {K : PySem.W.Frag} {a b : Int}
theorem rd_int {C : Int → Int → Prop} {g : Int → Int → Int} (h : C a b) : RD K (rI C fun i j => .int (g i j)) (.int a) (.int b) (.int (g a b)) := fun X H v1 v2 t r1 r2 Q q => by
  cases r1; cases r2
  exact ⟨a, b, rfl, rfl, h, q _ H (Same.refl H) (.int _)⟩
theorem rd_int0 {g : Int → Int → Int} : RD K (rI0 fun i j => .int (g i j)) (.int a) (.int b) (.int (g a b)) := fun X H v1 v2 t r1 r2 Q q => by
  cases r1; cases r2
  exact ⟨a, b, rfl, rfl, q _ H (Same.refl H) (.int _)⟩
theorem rd_bl0 {g : Int → Int → Bool} : RD K (rI0 fun i j => .bl (g i j)) (.int a) (.int b) (.bl (g a b)) := fun X H v1 v2 t r1 r2 Q q => by
  cases r1; cases r2
  exact ⟨a, b, rfl, rfl, q _ H (Same.refl H) (.bl _)⟩
end
def rStrAdd : R2 := fun x y H Q => ∃ i j, x = .str i ∧ y = .str j ∧ i.length + j.length ≤ sizeLine ∧ Q (.str (i ++ j)) H
def rAddX (K : PySem.W.Frag) : R2 := fun x y H Q => rI0 (fun i j => .int (i + j)) x y H Q ∨ rStrAdd x y H Q ∨ rCat x y H Q ∨ rCatA K x y H Q
theorem op_addX {X : Cx} : OpR X (binaryOp .Add) (rAddX X.K) := OpR.or op_add (OpR.or op_add_str (OpR.or op_cat op_catA))
def rSubX : R2 := rI0 fun i j => .int (i - j)
theorem op_subX {X : Cx} : OpR X (binaryOp .Sub) rSubX := op_sub
def rStrMul : R2 := fun x y H Q => ∃ z n, x = .str z ∧ y = .int n ∧ 0 ≤ n ∧ (n ≤ 1000000 ∧ z.length * n.toNat ≤ 1000000) ∧ Q (.str (Txt.mul z n)) H
def MulOk2 (i j : Int) : Prop := CMul i j ∨ CMulW i j
theorem op_strMul {X : Cx} : OpR X (binaryOp .Mult) rStrMul := by
  intro pins s σ H x y v u Q I rx ry h
  obtain ⟨z, n, rfl, rfl, h0, hl, q⟩ := h
  obtain ⟨t, rfl⟩ := rx
  obtain ⟨t', rfl⟩ := ry
  obtain ⟨h1, hl⟩ := hl
  refine PySem.SB.mul ⟨?_, fun hn _ hz => ?_, fun hn _ => ?_⟩ fun t' k => ⟨.str _, H, I.tok _, ⟨_, rfl⟩, q⟩
  · rw [decide_eq_false (by omega), decide_eq_false (by omega)]; rfl
  · have hn1 : 1 ≤ n := by omega
    have : (1000000 : Int) ≤ (2 ^ 63 - 1) / n := by
      rw [Int.le_ediv_iff_mul_le (by omega)]
      omega
    have hz0 : (z.length : Int) ≤ 1000000 := by
      have h3 : z.length * 1 ≤ z.length * n.toNat := Nat.mul_le_mul_left _ (by omega)
      omega
    omega
  · exact decide_eq_false (Nat.not_lt.mpr (Nat.le_trans hl (by decide)))
def rMulX : R2 := fun x y H Q => rI MulOk2 (fun i j => .int (i * j)) x y H Q ∨ rStrMul x y H Q ∨ rRep x y H Q
/-- a tuple so often -/
def rMulT (K : PySem.W.Frag) : R2 := fun x y H Q => rRepT K x y H Q ∨ rRepTA K x y H Q
theorem op_mulT {X : Cx} : OpR X (binaryOp .Mult) (rMulT X.K) := OpR.or op_repT op_repTA
theorem op_mulX {X : Cx} : OpR X (binaryOp .Mult) rMulX := OpR.or (opI fun _ _ _ _ _ _ _ hc q => mul_int q (hc.elim CMul.ok CMulW.ok)) (OpR.or op_strMul op_rep)
def DivOk (j : Int) : Prop := 0 < j ∧ j.natAbs.log2 < 9000
def rDivX : R2 := rI (fun _ j => DivOk j) fun i j => .int (i / j)
theorem op_divX {X : Cx} : OpR X (binaryOp .FloorDiv) rDivX := op_fdivW
def rModX : R2 := rI (fun _ j => 0 < j) fun i j => .int (i % j)
theorem op_modX {X : Cx} : OpR X (binaryOp .Mod) rModX := op_mod
def rPowX : R2 := rI CPow fun i j => .int (i ^ j.toNat)
theorem op_powX {X : Cx} : OpR X (binaryOp .Pow) rPowX := op_pow
def rXorX : R2 := rI0 fun i j => .int (Builtin.bitXor i j)
theorem op_xorX {X : Cx} : OpR X (binaryOp .BitXor) rXorX := op_xor
section
variable {K : PySem.W.Frag} {a b : Int}
theorem rd_add : RD K (rAddX K) (.int a) (.int b) (.int (a + b)) := .l rd_int0
theorem rd_adds {x y : Str} (h : x.length + y.length ≤ 1000000) : RD K (rAddX K) (.str x) (.str y) (.str (x ++ y)) := .r (.l fun X H v1 v2 t r1 r2 Q q => by
  cases r1; cases r2
  exact ⟨x, y, rfl, rfl, Nat.le_trans h (by decide), q _ H (Same.refl H) (.str _)⟩)
theorem rd_cat {xs ys : List D} (h : xs.length + ys.length ≤ 1000000) : RD K (rAddX K) (.lst xs) (.lst ys) (.lst (xs ++ ys)) := .r (.r (.l fun X H v1 v2 t r1 r2 Q q => by
  cases r1 with
  | lst h1 s1 =>
    cases r2 with
    | lst h2 s2 =>
      refine ⟨_, _, _, _, rfl, rfl, (of_hid h1).2, (of_hid h2).2, by rw [s1.length, s2.length]; exact Nat.le_trans h (by decide), fun p hp => ?_⟩
      exact q _ _ (same_upd hp) (.lst (hid_of (not_mem_of_new t hp) upd_same) ((s1.append s2).mono (hid_same (same_upd hp))))))
theorem rd_catT {xs ys : List D} (h : xs.length + ys.length ≤ 1000000) : RD K (rAddX K) (.tup xs) (.tup ys) (.tup (xs ++ ys)) := .r (.r (.r fun X H v1 v2 t r1 r2 Q q => by
  cases r1 with
  | tup h1 s1 =>
    cases r2 with
    | tup h2 s2 =>
      refine ⟨_, _, _, _, rfl, rfl, sameT hid_le h1, sameT hid_le h2, by rw [s1.length, s2.length]; exact Nat.le_trans h (by decide), fun z => ?_, fun _ z => ?_, fun _ _ p hp => ?_⟩
      · subst z
        cases s1
        exact q _ H (Same.refl H) (.tup h2 s2)
      · subst z
        cases s2
        exact q _ H (Same.refl H) (by rw [List.append_nil]; exact .tup h1 s1)
      · exact q _ _ (same_upd hp) (.tup (hid_of (not_mem_of_new t hp) upd_same) ((s1.append s2).mono (hid_same (same_upd hp))))))
theorem Rps.rep {H : Hp} {vs : List V} {ds : List D} (r : Rps K H vs ds) : ∀ k : Nat, Rps K H (List.replicate k vs).flatten (List.replicate k ds).flatten
  | 0 => .nil
  | k + 1 => by
    rw [List.replicate_succ, List.replicate_succ, List.flatten_cons, List.flatten_cons]
    exact r.append (Rps.rep r k)
/-- t * k -/
theorem rd_repT {xs : List D} {k : Int} (h0 : 0 ≤ k) (h1 : k ≤ 1000) (hn : xs ≠ []) (hl : xs.length ≤ 1000) : RD K (rMulT K) (.tup xs) (.int k) (.tup (List.replicate k.toNat xs).flatten) := fun X H v1 v2 t r1 r2 Q q => by
  cases r2
  cases r1 with
  | tup ha s1 =>
    rename_i a vs
    have hv : vs ≠ [] := fun z => by
      subst z
      cases s1
      exact hn rfl
    by_cases hk : 2 ≤ k
    · exact .inl ⟨_, _, _, rfl, rfl, sameT hid_le ha, hv, hk, h1, by rw [s1.length]; exact hl, fun p hp => q _ _ (same_upd hp) (.tup (hid_of (not_mem_of_new t hp) upd_same) ((s1.rep k.toNat).mono (hid_same (same_upd hp))))⟩
    · refine .inr ⟨_, _, _, rfl, rfl, sameT hid_le ha, hv, by omega, h0, fun e => ?_, fun e p hp => ?_⟩
      · subst e
        have e1 : (List.replicate (1 : Int).toNat xs).flatten = xs := by
          show (List.replicate 1 xs).flatten = xs
          simp
        exact q _ H (Same.refl H) (by rw [e1]; exact .tup ha s1)
      · subst e
        exact q _ _ (same_upd hp) (.tup (hid_of (not_mem_of_new t hp) upd_same) .nil)
theorem rd_sub : RD K rSubX (.int a) (.int b) (.int (a - b)) := rd_int0
theorem rd_mul (h : MulOk2 a b) : RD K rMulX (.int a) (.int b) (.int (a * b)) := .l (rd_int h)
theorem rd_muls {x : Str} {n : Int} (h0 : 0 ≤ n) (h1 : n ≤ 1000000) (h : x.length * n.toNat ≤ 1000000) : RD K rMulX (.str x) (.int n) (.str (Txt.mul x n)) := .r (.l fun X H v1 v2 t r1 r2 Q q => by
  cases r1; cases r2
  exact ⟨x, n, rfl, rfl, h0, ⟨h1, h⟩, q _ H (Same.refl H) (.str _)⟩)
theorem rd_div (h : DivOk b) : RD K rDivX (.int a) (.int b) (.int (a / b)) := rd_int h
theorem rd_mod (h : 0 < b) : RD K rModX (.int a) (.int b) (.int (a % b)) := rd_int (C := fun _ j => 0 < j) h
theorem rd_pow (h : CPow a b) : RD K rPowX (.int a) (.int b) (.int (a ^ b.toNat)) := rd_int h
theorem mul_l (h1 : -(2 ^ 64) < a) (h2 : a < 2 ^ 64) : MulOk2 a b := .inl (.inl ⟨h1, h2⟩)
theorem mul_r (h1 : -(2 ^ 64) < b) (h2 : b < 2 ^ 64) : MulOk2 a b := .inl (.inr ⟨h1, h2⟩)
theorem mul_w {m n : Nat} (ha : a.natAbs < 2 ^ m) (hb : b.natAbs < 2 ^ n) (h0 : 0 < m) (h1 : 0 < n) (h : m + n ≤ 1000000) : MulOk2 a b := .inr (wide_mul ha hb h0 h1 h)
theorem div_w {n : Nat} (h : 0 < b) (hb : b.natAbs < 2 ^ n) (h0 : 0 < n) (h9 : n ≤ 9000) : DivOk b := wide_div (i := 0) h hb h0 h9
end

/-! ### comparisons -/
mutual
def toPy : D → PyData
  | .non => .none | .bl b => .bool b | .int i => .int i | .str x => .str x | .lst xs => .list (toPys xs) | .tup xs => .tuple (toPys xs) | .raw _ => .none | .dK _ => .none | .dT _ => .none | .fro _ => .none | .zT _ => .none
def toPys : List D → List PyData
  | [] => []
  | x :: xs => toPy x :: toPys xs
def isPy : D → Bool
  | .non => true | .bl _ => true | .int _ => true | .str _ => true | .lst xs => arePy xs | .tup xs => arePy xs | .raw _ => false | .dK _ => false | .dT _ => false | .fro _ => false | .zT _ => false
def arePy : List D → Bool
  | [] => true
  | x :: xs => isPy x && arePy xs
end
section
variable {K : PySem.W.Frag} {H : Hp}
mutual
theorem Rp.dp : ∀ {v : V} {d : D}, Rp K H v d → isPy d = true → Dp K H v (toPy d)
  | _, _, .non, _ => .non
  | _, _, .bl b, _ => .bl b
  | _, _, .int i, _ => .int i
  | _, _, .str x, _ => .str x
  | _, _, .lst h r, e => .lst (.inl (.inl h)) (Rps.dp r e)
  | _, _, .tup h r, e => .tup (.inl (.inl h)) (Rps.dp r e)
  | _, _, .raw v, e => nomatch e
  | _, _, .dK _ _ _, e => nomatch e
  | _, _, .dT _ _ _, e => nomatch e
  | _, _, .zT _ _ _, e => nomatch e
  | _, _, .fro _ _, e => nomatch e
theorem Rps.dp : ∀ {vs : List V} {ds : List D}, Rps K H vs ds → arePy ds = true → DpAll K H vs (toPys ds)
  | _, _, .nil, _ => .nil
  | _, _, .cons h r, e => .cons (Rp.dp h (Bool.and_eq_true_iff.mp e).1) (Rps.dp r (Bool.and_eq_true_iff.mp e).2)
end
end
def rEqX (K : PySem.W.Frag) : R2 := fun x y H Q => rEq x y H Q ∨ rEqD K x y H Q
def rNeX (K : PySem.W.Frag) : R2 := fun x y H Q => rNe x y H Q ∨ rNeD K x y H Q
theorem op_eqX {X : Cx} (hu : X.A.units + 64 < cLine) : OpR X (compareOp .Eq) (rEqX X.K) := OpR.or op_eq (op_eqD hu)
theorem op_neX {X : Cx} (hu : X.A.units + 64 < cLine) : OpR X (compareOp .NotEq) (rNeX X.K) := OpR.or op_ne (op_neD hu)
section
variable {K : PySem.W.Frag} {a b : Int}
theorem dec_inj {α β : Type} [DecidableEq α] [DecidableEq β] {f : α → β} (h : ∀ x y, f x = f y → x = y) (x y : α) : decide (f x = f y) = decide (x = y) := by
  by_cases e : x = y
  · rw [decide_eq_true e, decide_eq_true (congrArg f e)]
  · rw [decide_eq_false e, decide_eq_false fun z => e (h _ _ z)]
theorem rd_eq : RD K (rEqX K) (.int a) (.int b) (.bl (decide (a = b))) := .l fun X H v1 v2 t r1 r2 Q q => by
  cases r1; cases r2
  refine ⟨rfl, ?_⟩
  rw [dec_inj (f := V.int) fun x y e => V.int.inj e]
  exact q _ H (Same.refl H) (.bl _)
theorem rd_ne : RD K (rNeX K) (.int a) (.int b) (.bl (!decide (a = b))) := .l fun X H v1 v2 t r1 r2 Q q => by
  cases r1; cases r2
  refine ⟨rfl, ?_⟩
  rw [dec_inj (f := V.int) fun x y e => V.int.inj e]
  exact q _ H (Same.refl H) (.bl _)
theorem rd_eqb {a b : Bool} : RD K (rEqX K) (.bl a) (.bl b) (.bl (decide (a = b))) := .l fun X H v1 v2 t r1 r2 Q q => by
  cases r1; cases r2
  refine ⟨rfl, ?_⟩
  rw [dec_inj (f := V.bl) fun x y e => V.bl.inj e]
  exact q _ H (Same.refl H) (.bl _)
theorem rd_neb {a b : Bool} : RD K (rNeX K) (.bl a) (.bl b) (.bl (!decide (a = b))) := .l fun X H v1 v2 t r1 r2 Q q => by
  cases r1; cases r2
  refine ⟨rfl, ?_⟩
  rw [dec_inj (f := V.bl) fun x y e => V.bl.inj e]
  exact q _ H (Same.refl H) (.bl _)
theorem rd_eqs {a b : Str} : RD K (rEqX K) (.str a) (.str b) (.bl (decide (a = b))) := .l fun X H v1 v2 t r1 r2 Q q => by
  cases r1; cases r2
  refine ⟨rfl, ?_⟩
  rw [dec_inj (f := V.str) fun x y e => V.str.inj e]
  exact q _ H (Same.refl H) (.bl _)
theorem rd_nes {a b : Str} : RD K (rNeX K) (.str a) (.str b) (.bl (!decide (a = b))) := .l fun X H v1 v2 t r1 r2 Q q => by
  cases r1; cases r2
  refine ⟨rfl, ?_⟩
  rw [dec_inj (f := V.str) fun x y e => V.str.inj e]
  exact q _ H (Same.refl H) (.bl _)
theorem rd_eqD {d e : D} (h1 : isPy d = true) (h2 : isPy e = true) (s1 : SeqAt.shaped (toPy d) = true) (s2 : SeqAt.shaped (toPy e) = true) : RD K (rEqX K) d e (.bl (PyData.eqv (toPy d) (toPy e))) := .r fun X H v1 v2 t r1 r2 Q q =>
  ⟨_, _, (r1.mono hid_le).dp h1, (r2.mono hid_le).dp h2, s1, s2, q _ H (Same.refl H) (.bl _)⟩
theorem rd_neD {d e : D} (h1 : isPy d = true) (h2 : isPy e = true) (s1 : SeqAt.shaped (toPy d) = true) (s2 : SeqAt.shaped (toPy e) = true) : RD K (rNeX K) d e (.bl (!PyData.eqv (toPy d) (toPy e))) := .r fun X H v1 v2 t r1 r2 Q q =>
  ⟨_, _, (r1.mono hid_le).dp h1, (r2.mono hid_le).dp h2, s1, s2, q _ H (Same.refl H) (.bl _)⟩
end
def rLtX : R2 := rI0 fun i j => .bl (decide (i < j))
def rLeX : R2 := rI0 fun i j => .bl (decide (i ≤ j))
def rGtX : R2 := rI0 fun i j => .bl (decide (j < i))
def rGeX : R2 := rI0 fun i j => .bl (decide (j ≤ i))
theorem op_ltX {X : Cx} : OpR X (compareOp .Lt) rLtX := op_lt
theorem op_leX {X : Cx} : OpR X (compareOp .LtE) rLeX := op_le
theorem op_gtX {X : Cx} : OpR X (compareOp .Gt) rGtX := op_gt
theorem op_geX {X : Cx} : OpR X (compareOp .GtE) rGeX := op_ge
def rIsX : R2 := fun x y H Q => y = .non ∧ Q (.bl (decide (x = .non))) H
def rIsNX : R2 := fun x y H Q => y = .non ∧ Q (.bl (!decide (x = .non))) H
theorem op_isX {X : Cx} : OpR X (compareOp .Is) rIsX := op_isN
theorem op_isnX {X : Cx} : OpR X (compareOp .IsNot) rIsNX := op_notN
def isNon : D → Bool
  | .non => true | _ => false
def notRaw : D → Bool
  | .raw _ => false | .fro _ => false | .zT _ => false | _ => true
section
variable {K : PySem.W.Frag} {a b : Int} {d : D}
theorem rd_lt : RD K rLtX (.int a) (.int b) (.bl (decide (a < b))) := rd_bl0 (g := fun i j => decide (i < j))
theorem rd_le : RD K rLeX (.int a) (.int b) (.bl (decide (a ≤ b))) := rd_bl0 (g := fun i j => decide (i ≤ j))
theorem rd_gt : RD K rGtX (.int a) (.int b) (.bl (decide (b < a))) := rd_bl0 (g := fun i j => decide (j < i))
theorem rd_ge : RD K rGeX (.int a) (.int b) (.bl (decide (b ≤ a))) := rd_bl0 (g := fun i j => decide (j ≤ i))
theorem Rp.isNon {H : Hp} {v : V} (r : Rp K H v d) (h : notRaw d = true) : decide (v = .non) = isNon d := by
  cases r <;> first | rfl | exact Bool.noConfusion h
theorem rd_is (h : notRaw d = true := by rfl) : RD K rIsX d .non (.bl (isNon d)) := fun X H v1 v2 t r1 r2 Q q => by
  cases r2
  refine ⟨rfl, ?_⟩
  rw [r1.isNon h]
  exact q _ H (Same.refl H) (.bl _)
theorem rd_isn (h : notRaw d = true := by rfl) : RD K rIsNX d .non (.bl (!isNon d)) := fun X H v1 v2 t r1 r2 Q q => by
  cases r2
  refine ⟨rfl, ?_⟩
  rw [r1.isNon h]
  exact q _ H (Same.refl H) (.bl _)
end
/-! in -/
def flatD : D → Bool
  | .non => true | .bl _ => true | .int _ => true | .str _ => true | _ => false
def eqF : D → D → Bool
  | .non, .non => true
  | .bl a, .bl b => a == b
  | .bl a, .int b => (if a then 1 else 0) == b
  | .int a, .bl b => a == (if b then 1 else 0)
  | .int a, .int b => a == b
  | .str a, .str b => a == b
  | _, _ => false
section
variable {K : PySem.W.Frag} {H : Hp}
theorem Rp.flat {v : V} {d : D} (r : Rp K H v d) (h : flatD d = true) : flatV v = true := by
  cases r <;> first | rfl | exact Bool.noConfusion h
theorem Rps.flats : ∀ {vs : List V} {ds : List D}, Rps K H vs ds → ds.all flatD = true → vs.all flatV = true
  | _, _, .nil, _ => rfl
  | _, _, .cons r rs, h => by
    rw [List.all_cons, Bool.and_eq_true] at h ⊢
    exact ⟨r.flat h.1, Rps.flats rs h.2⟩
theorem Rp.eqF {H' : Hp} {v u : V} {d e : D} (r : Rp K H v d) (q : Rp K H' u e) (h : flatD d = true) (h' : flatD e = true) : eqV v u = DL.eqF d e := by
  cases r <;> cases q <;> first | rfl | exact Bool.noConfusion h | exact Bool.noConfusion h'
theorem Rps.inF {H' : Hp} {v : V} {d : D} (r : Rp K H' v d) (h : flatD d = true) : ∀ {vs : List V} {ds : List D}, Rps K H vs ds → ds.all flatD = true → inV v vs = ds.any fun e => DL.eqF e d
  | _, _, .nil, _ => rfl
  | _, _, .cons q qs, h' => by
    rw [List.all_cons, Bool.and_eq_true] at h'
    unfold inV at *
    rw [List.any_cons, List.any_cons, q.eqF r h'.1 h]
    have := Rps.inF r h qs h'.2
    unfold inV at this
    rw [this]
end
def rInX (K : PySem.W.Frag) : R2 := rIn K false
def rNotInX (K : PySem.W.Frag) : R2 := rIn K true
theorem op_inX {X : Cx} : OpR X (compareOp .In) (rInX X.K) := op_in_seq
theorem op_notinX {X : Cx} : OpR X (compareOp .NotIn) (rNotInX X.K) := op_notIn_seq
section
variable {K : PySem.W.Frag} {d : D} {ds : List D}
theorem rd_inL (h1 : flatD d = true) (h2 : ds.all flatD = true) : RD K (rInX K) d (.lst ds) (.bl (ds.any fun e => eqF e d)) := fun X H v1 v2 t r1 r2 Q q => by
  cases r2 with
  | lst ha rs =>
    refine ⟨_, _, rfl, .inl (.inl (.inl (of_hid ha).2)), r1.flat h1, rs.flats h2, ?_⟩
    show Q (.bl (inV v1 _)) H
    rw [rs.inF r1 h1 h2]
    exact q _ H (Same.refl H) (.bl _)
theorem rd_inT (h1 : flatD d = true) (h2 : ds.all flatD = true) : RD K (rInX K) d (.tup ds) (.bl (ds.any fun e => eqF e d)) := fun X H v1 v2 t r1 r2 Q q => by
  cases r2 with
  | tup ha rs =>
    refine ⟨_, _, rfl, .inr (sameT hid_le ha), r1.flat h1, rs.flats h2, ?_⟩
    show Q (.bl (inV v1 _)) H
    rw [rs.inF r1 h1 h2]
    exact q _ H (Same.refl H) (.bl _)
theorem rd_notinL (h1 : flatD d = true) (h2 : ds.all flatD = true) : RD K (rNotInX K) d (.lst ds) (.bl (!ds.any fun e => eqF e d)) := fun X H v1 v2 t r1 r2 Q q => by
  cases r2 with
  | lst ha rs =>
    refine ⟨_, _, rfl, .inl (.inl (.inl (of_hid ha).2)), r1.flat h1, rs.flats h2, ?_⟩
    show Q (.bl (!inV v1 _)) H
    rw [rs.inF r1 h1 h2]
    exact q _ H (Same.refl H) (.bl _)
theorem rd_notinT (h1 : flatD d = true) (h2 : ds.all flatD = true) : RD K (rNotInX K) d (.tup ds) (.bl (!ds.any fun e => eqF e d)) := fun X H v1 v2 t r1 r2 Q q => by
  cases r2 with
  | tup ha rs =>
    refine ⟨_, _, rfl, .inr (sameT hid_le ha), r1.flat h1, rs.flats h2, ?_⟩
    show Q (.bl (!inV v1 _)) H
    rw [rs.inF r1 h1 h2]
    exact q _ H (Same.refl H) (.bl _)
theorem any_int {ns : List Int} {x : Int} : ((ns.map D.int).any fun e => eqF e (.int x)) = ns.contains x := by
  induction ns with
  | nil => rfl
  | cons n ns ih =>
    rw [List.map_cons, List.any_cons, ih, List.contains_cons]
    show (n == x || _) = (x == n || _)
    rw [Bool.beq_comm]
theorem flat_ints {ns : List Int} : (ns.map D.int).all flatD = true := by
  induction ns with
  | nil => rfl
  | cons n ns ih => rw [List.map_cons, List.all_cons, ih]; rfl
theorem flat_strs {ns : List Str} : (ns.map D.str).all flatD = true := by
  induction ns with
  | nil => rfl
  | cons n ns ih => rw [List.map_cons, List.all_cons, ih]; rfl
end
/-! negation -/
section
variable {K : PySem.W.Frag} {a : Int}
def rNegX : V → Hp → VK → Prop := rU fun i => .int (-i)
theorem un_negX {X : Cx} : UnR X (unaryOp .USub) rNegX := un_neg
theorem ru_neg : RU K rNegX (.int a) (.int (-a)) := fun X H v1 t r1 Q q => by
  cases r1
  exact ⟨a, rfl, q _ H (Same.refl H) (.int _)⟩
end
end DL

set_option Elab.async false
set_option linter.all false
set_option maxRecDepth 100000
set_option maxHeartbeats 4000000
/-! DL, part E: comprehensions, subscripts, slices, stores, built-ins. -/
namespace DL
open PySem L2 PySem.Spec PyProof.Rows

/-! ### comprehensions -/
def wipeE (ρ : En) : List Nat → En
  | [] => ρ
  | v :: vs => (wipeE ρ vs).set v none
theorem wipe_at {σ : L2.St} {i : Nat} : ∀ {vs : List Nat}, i ∉ vs → (wipe σ vs)[i]? = σ[i]?
  | [], _ => rfl
  | v :: vs, h => by
    unfold wipe
    rw [List.mem_cons, not_or] at h
    rw [List.getElem?_set_ne (fun e => h.1 e.symm)]
    exact wipe_at h.2
theorem wipeE_at {ρ : En} {i : Nat} {e : Ent} : ∀ {vs : List Nat}, (wipeE ρ vs)[i]? = some (some e) → ρ[i]? = some (some e) ∧ i ∉ vs
  | [], h => ⟨h, by simp⟩
  | v :: vs, h => by
    unfold wipeE at h
    by_cases hi : v = i
    · subst hi
      by_cases hv : v < (wipeE ρ vs).length
      · rw [List.getElem?_set_self hv] at h; cases h
      · rw [List.getElem?_eq_none (by rw [List.length_set]; omega)] at h; cases h
    · rw [List.getElem?_set_ne hi] at h
      obtain ⟨h1, h2⟩ := wipeE_at h
      exact ⟨h1, by simp only [List.mem_cons, not_or]; exact ⟨fun e => hi e.symm, h2⟩⟩
theorem wipeE_length {ρ : En} : ∀ vs : List Nat, (wipeE ρ vs).length = ρ.length
  | [] => rfl
  | v :: vs => by unfold wipeE; rw [List.length_set, wipeE_length vs]
theorem SR.wipe {K : PySem.W.Frag} {M : List Addr} {O : OA} {ω : Ow} {ρ : En} {σ : L2.St} {H : Hp} (r : SR K M O ω ρ σ H) (vs : List Nat) : SR K M O ω (wipeE ρ vs) (L2.wipe σ vs) H where
  trk := r.trk
  nod := r.nod
  dis := r.dis
  lenO := r.lenO
  own := r.own
  live := r.live
  len := by rw [wipeE_length, wipe_length]; exact r.len
  sh := fun i d e => by
    obtain ⟨e, n⟩ := wipeE_at e
    obtain ⟨v, h1, h2⟩ := r.sh i d e
    exact ⟨v, by rw [wipe_at n]; exact h1, h2⟩
  ow := fun i k e => by
    obtain ⟨e, n⟩ := wipeE_at e
    obtain ⟨a, h1, h2⟩ := r.ow i k e
    exact ⟨a, h1, by rw [wipe_at n]; exact h2⟩
theorem wipe_set {σ : L2.St} {i : Nat} {x : Option V} : ∀ {vs : List Nat}, i ∈ vs → wipe (σ.set i x) vs = wipe σ vs
  | [], h => by cases h
  | v :: vs, h => by
    unfold wipe
    by_cases e : i = v
    · subst e
      have hs : ∀ us : List Nat, (wipe (σ.set i x) us).set i none = (wipe σ us).set i none := fun us => by
        induction us with
        | nil => exact List.set_set ..
        | cons u us ih =>
          unfold wipe
          by_cases hu : u = i
          · subst hu
            rw [List.set_set, List.set_set]
            exact ih
          · rw [List.set_comm _ _ hu, List.set_comm _ _ hu, ih]
      exact hs vs
    · rw [wipe_set ((List.mem_cons.mp h).resolve_left e)]
theorem wipe_wipe {σ : L2.St} {vs : List Nat} : ∀ us : List Nat, (∀ u ∈ us, u ∈ vs) → wipe (wipe σ vs) us = wipe σ vs
  | [], _ => rfl
  | u :: us, h => by
    show (wipe (wipe σ vs) us).set u none = wipe σ vs
    rw [wipe_wipe us fun w hw => h w (List.mem_cons_of_mem _ hw)]
    have hu := h u List.mem_cons_self
    apply List.ext_getElem?
    intro j
    by_cases hj : u = j
    · subst hj
      by_cases hb : u < (wipe σ vs).length
      · rw [List.getElem?_set_self hb]
        cases hq : (wipe σ vs)[u]? with
        | none => rw [List.getElem?_eq_none_iff] at hq; omega
        | some y =>
          cases y with
          | none => rfl
          | some y => exact absurd hu (wipe_some hq).2
      · rw [List.getElem?_eq_none (by rw [List.length_set]; omega), List.getElem?_eq_none (by omega)]
    · rw [List.getElem?_set_ne hj]
/-- targets within a comprehension -/
def WGw (K : PySem.W.Frag) (g : TG) (d : D) (vs : List Nat) (ρ ρ' : En) : Prop := ∀ M O ω σ H v, SR K M O ω ρ σ H → Rp K (hid (xo M O) H) v d → ∀ Q : L2.St → Hp → Prop, (∀ σ', SR K M O ω ρ' σ' H → wipe σ' vs = wipe σ vs → Q σ' H) → g v σ H Q
def WGsw (K : PySem.W.Frag) (g : TGs) (ds : List D) (vs : List Nat) (ρ ρ' : En) : Prop := ∀ M O ω σ H us, SR K M O ω ρ σ H → Rps K (hid (xo M O) H) us ds → ∀ Q : L2.St → Hp → Prop, (∀ σ', SR K M O ω ρ' σ' H → wipe σ' vs = wipe σ vs → Q σ' H) → g us σ H Q
section
variable {K : PySem.W.Frag} {s : Bool} {ρ ρ' ρ1 ρ2 : En} {ω : Ow} {ta tb te tc : TE} {d d1 d2 d3 : D} {ds : List D} {vs : List Nat}
theorem wgw_name {i : Nat} (h : i ∈ vs := by decide) : WGw K (gName i) d vs ρ (ρ.set i (some (.sh d))) := fun M O ω σ H v r rp Q q => q _ (r.setSh rp) (wipe_set h)
theorem wgsw_nil : WGsw K gNil [] vs ρ ρ := fun M O ω σ H us r rp Q q => by
  cases rp
  exact ⟨rfl, q _ r rfl⟩
theorem wgsw_cons {g : TG} {gs : TGs} (h : WGw K g d vs ρ ρ1) (hs : WGsw K gs ds vs ρ1 ρ2) : WGsw K (gCons g gs) (d :: ds) vs ρ ρ2 := fun M O ω σ H us r rp Q q => by
  cases rp with
  | cons r1 r2 => exact ⟨_, _, rfl, h M O ω σ H _ r r1 _ fun σ' r' e1 => hs M O ω σ' H _ r' r2 Q fun σ2 r2 e2 => q σ2 r2 (e2.trans e1)⟩
theorem wgw_tup {gs : TGs} {n : Nat} (h : WGsw K gs ds vs ρ ρ') (hn : ds.length = n) : WGw K (gTup K n gs) (.tup ds) vs ρ ρ' := fun M O ω σ H v r rp Q q => by
  cases rp with
  | tup hT hs => exact ⟨_, _, rfl, sameT hid_le hT, by rw [hs.length]; exact hn, h M O ω σ H _ r hs Q q⟩
/-- an object that is not the frame's is held aside -/
theorem SR.aside {M : List Addr} {O : OA} {σ : L2.St} {H H' : Hp} (r : SR K M O ω ρ σ H) (k : Same H H') {p : Addr} (hp : H p = none) (hp' : Trk H' p) : SR K (p :: M) O ω ρ σ H' := by
  have np : p ∉ xo M O := not_mem_of_new r.trkX hp
  have sm : Same (hid (xo M O) H) (hid (xo (p :: M) O) H') := fun b o e => by
    obtain ⟨n, e⟩ := of_hid e
    refine hid_of (fun z => ?_) (k _ _ e)
    rcases mem_xo.mp z with z | z
    · rcases List.mem_cons.mp z with z | z
      · rw [z, hp] at e; cases e
      · exact n (mem_xo.mpr (.inl z))
    · exact n (mem_xo.mpr (.inr z))
  have r' := r.mono k
  refine ⟨fun m hm => ?_, r.nod, fun a h z => ?_, r.lenO, fun j a e => ?_, r.live, r.len, fun i d e => ?_, r.ow⟩
  · rcases List.mem_cons.mp hm with z | z
    · rw [z]; exact hp'
    · exact r'.trk m z
  · rcases List.mem_cons.mp z with z | z
    · exact np (mem_xo.mpr (.inr (by rw [← z]; exact h)))
    · exact r.dis a h z
  · obtain ⟨w, h1, h2, h3⟩ := r.own j a e
    exact ⟨w, h1, h2, h3.mono sm fun o e => k _ _ e⟩
  · obtain ⟨v, h1, h2⟩ := r.sh i d e
    exact ⟨v, h1, h2.mono sm⟩
theorem SR.aside_upd {M : List Addr} {O : OA} {σ : L2.St} {H : Hp} {p : Addr} {o : HO} (r : SR K (p :: M) O ω ρ σ H) (ht : ∀ xs, o ≠ .tup xs := by intro _ z; nomatch z) : SR K (p :: M) O ω ρ σ (upd H p o) ∧ hid (xo (p :: M) O) (upd H p o) = hid (xo (p :: M) O) H := by
  have hx : p ∈ xo (p :: M) O := mem_xo.mpr (.inl List.mem_cons_self)
  have eh : hid (xo (p :: M) O) (upd H p o) = hid (xo (p :: M) O) H := by
    funext b
    unfold hid
    split
    · rfl
    · rename_i nb
      exact upd_ne (fun e => nb (by rw [e]; exact hx))
  refine ⟨⟨fun m hm => ?_, r.nod, r.dis, r.lenO, fun j a e => ?_, r.live, r.len, fun i d e => ?_, r.ow⟩, eh⟩
  · by_cases z : m = p
    · rw [z]; exact trk_of upd_same ht
    · have := r.trk m hm; unfold Trk at *; rw [upd_ne z]; exact this
  · obtain ⟨w, h1, h2, h3⟩ := r.own j a e
    have na : a ≠ p := fun z => r.dis a (List.mem_of_getElem? e) (by rw [z]; exact List.mem_cons_self)
    exact ⟨w, h1, h2, h3.mono (by rw [eh]; exact Same.refl _) fun o e => by rw [upd_ne na]; exact e⟩
  · rw [eh]; exact r.sh i d e
theorem xo_cons_sub {M : List Addr} {O : OA} {p b : Addr} (h : b ∈ xo M O) : b ∈ xo (p :: M) O := by
  rcases mem_xo.mp h with h | h
  · exact mem_xo.mpr (.inl (List.mem_cons_of_mem _ h))
  · exact mem_xo.mpr (.inr h)
/-- [f for a in as if p] -/
theorem ev_lc {α : Type} (as : List α) (toD : α → D) (p : α → Bool) (f : α → D) {wi : TI} {g : TG} {tt : TT} (hi : EvI K wi ρ ω (as.map toD)) (hl : as.length ≤ 1000000)
    (hs : ∀ a, a ∈ as → ∃ ρ2, WGw K g (toD a) vs (wipeE ρ vs) ρ2 ∧ EvT K tt ρ2 ω (p a) ∧ (p a = true → Ev K true te ρ2 ω (f a))) : Ev K s (tLc wi g tt te vs) ρ ω (.lst ((as.filter p).map f)) := Ev.weak fun M O σ H r Q q =>
  hi M O σ H r _ fun J H1 s1 wk p0 hp0 => by
    have r1 := r.mono s1
    have np : p0 ∉ xo M O := not_mem_of_new r1.trkX hp0
    have r2 := r1.aside (same_upd (o := .lst []) hp0) hp0 (trk_of upd_same)
    refine ⟨fun i m H' => m = as.length - i ∧ i ≤ as.length ∧ SR K (p0 :: M) O ω ρ σ H' ∧ Same H1 H' ∧ ∃ acc, H' p0 = some (.lst acc) ∧ acc.length ≤ i ∧ Rps K (hid (xo (p0 :: M) O) H') acc (((as.take i).filter p).map f),
      ⟨_, rfl, Nat.zero_le _, r2, same_upd hp0, [], upd_same, Nat.le_refl _, .nil⟩, ?_⟩
    rintro i m H' ⟨rfl, hi, r3, s3, acc, ha, hla, hr⟩
    have hh : Same (hid (xo M O) H1) (hid (xo (p0 :: M) O) H') := fun b o e => by
      obtain ⟨n, e⟩ := of_hid e
      refine hid_of (fun z => ?_) (s3 _ _ e)
      rcases mem_xo.mp z with z | z
      · rcases List.mem_cons.mp z with z | z
        · rw [z, hp0] at e; cases e
        · exact n (mem_xo.mpr (.inl z))
      · exact n (mem_xo.mpr (.inr z))
    by_cases hlt : i < as.length
    · have hm : i < (as.map toD).length := by rw [List.length_map]; exact hlt
      obtain ⟨ρ2, hg, ht, he⟩ := hs as[i] (List.getElem_mem hlt)
      have et : as.take (i + 1) = as.take i ++ [as[i]] := by rw [List.take_add_one, List.getElem?_eq_getElem hlt]; rfl
      refine .inr ⟨wk.go i _ _ hh hid_le hm, fun H2 => SR K (p0 :: M) O ω ρ σ H2 ∧ Same H1 H2 ∧ ∃ acc, H2 p0 = some (.lst acc) ∧ acc.length ≤ i + 1 ∧ Rps K (hid (xo (p0 :: M) O) H2) acc (((as.take (i + 1)).filter p).map f), ?_, fun x H2 hy => ?_⟩
      · rintro H2 ⟨a1, a2, a3⟩
        exact ⟨_, by omega, rfl, hlt, a1, a2, a3⟩
      · obtain ⟨s4, fx⟩ := wk.yl i _ _ x H2 hh r3.trkX hm hy
        have rp := fx (toD as[i]) (by rw [List.getElem?_map, List.getElem?_eq_getElem hlt]; rfl)
        have r4 := r3.mono s4
        refine hg _ O ω _ H2 x (r4.wipe vs) rp _ fun σ2 r5 e5 => ⟨e5.trans (wipe_wipe vs fun _ h => h), ?_⟩
        refine ht _ O σ2 H2 r5 _ fun H3 s5 => ?_
        have s45 := s4.trans s5
        cases hpa : p as[i] with
        | true =>
          refine iteT ?_
          refine he hpa _ O σ2 H3 (r5.mono s5) _ fun y H4 s6 ry => ?_
          have s46 := s45.trans s6
          have r6 := r3.mono s46
          obtain ⟨r7, eh⟩ := r6.aside_upd (o := .lst (acc ++ [y]))
          refine ⟨acc, s46 _ _ ha, Nat.lt_of_le_of_lt (Nat.le_trans hla (Nat.le_trans hi hl)) (by decide), r7, ?_, acc ++ [y], upd_same, by rw [List.length_append]; simp; omega, ?_⟩
          · intro b o e
            rw [upd_ne (ne_of_none e hp0)]
            exact s46 _ _ (s3 _ _ e)
          · rw [eh, et, List.filter_append, List.map_append]
            refine (hr.mono (hid_same s46)).append ?_
            rw [List.filter_cons, hpa, if_pos rfl, List.filter_nil]
            exact .cons ry .nil
        | false =>
          refine iteF ?_
          refine ⟨r3.mono s45, s3.trans s45, acc, s45 _ _ ha, by omega, ?_⟩
          rw [et, List.filter_append, List.map_append, List.filter_cons, hpa, if_neg Bool.false_ne_true, List.filter_nil, List.map_nil, List.append_nil]
          exact hr.mono (hid_same s45)
    · have e : i = as.length := by omega
      subst e
      rw [List.take_of_length_le (Nat.le_refl _)] at hr
      refine .inl ⟨by rw [← List.length_map (as := as) toD]; exact wk.st _ _ hh hid_le, q (.ref p0) H' (s1.trans s3) (.lst (hid_of np ha) (hr.mono (hid_sub fun b hb => xo_cons_sub hb)))⟩
theorem et_yes : EvT K tYes ρ ω true := fun M O σ H r Q q => q H (Same.refl H)
theorem filter_yes {α : Type} (as : List α) : as.filter (fun _ => true) = as := List.filter_eq_self.mpr fun _ _ => rfl
/-- [f for a in as] -/
theorem ev_map {α : Type} (as : List α) (toD : α → D) (f : α → D) {wi : TI} {g : TG} (hi : EvI K wi ρ ω (as.map toD)) (hl : as.length ≤ 1000000)
    (hs : ∀ a, a ∈ as → ∃ ρ2, WGw K g (toD a) vs (wipeE ρ vs) ρ2 ∧ Ev K true te ρ2 ω (f a)) : Ev K s (tLc wi g tYes te vs) ρ ω (.lst (as.map f)) := by
  have h := ev_lc (s := s) as toD (fun _ => true) f (tt := tYes) (te := te) (g := g) (vs := vs) hi hl fun a ha => by
    obtain ⟨ρ2, h1, h2⟩ := hs a ha
    exact ⟨ρ2, h1, et_yes, fun _ => h2⟩
  rw [filter_yes] at h
  exact h
end
end DL

set_option Elab.async false
set_option linter.all false
set_option maxRecDepth 100000
set_option maxHeartbeats 4000000
/-! DL, part F: subscripts, slices, stores, built-ins. -/
namespace DL
open PySem PySem.W L2 PySem.Spec PyProof.Rows

/-! ### subscripts -/
theorem Rps.atI {K : PySem.W.Frag} {H : Hp} {vs : List V} {ds : List D} {i : Int} {d : D} (r : Rps K H vs ds) (h : L2.atI ds i = some d) : ∃ v, L2.atI vs i = some v ∧ Rp K H v d := by
  unfold L2.atI at *
  rw [r.length]
  cases e : ixN ds.length i with
  | none => rw [e] at h; cases h
  | some j =>
    rw [e] at h
    exact r.get h
def rGetD : R2 := fun x y H Q => ∃ a v, x = .ref a ∧ DGet H a y (some v) ∧ Q v H
theorem ix_dict {X : Cx} (hu : X.A.units + 1 < cLine) : IxR X rGetD := by
  intro value slice pins s σ H x y v u Q I rx ry h hs
  obtain ⟨a, z, rfl, g, q⟩ := h
  cases rx
  have hT := dict_typeIs I g
  unfold subscriptTail
  refine wpAny_bind ?_
  rw [getitemInPython_of_ne hT.not_modules]
  refine wpAny_bind (wpAny_specialOf hT PySem.F.slot_dict_getitem.lookup ?_)
  have fin : wpAny (model X.prog X.w) X.A (subscripted slice false (.ref a) u) (fun r s₃ => wpAny (model X.prog X.w) X.A (letTemporaryGo value (.ref a) r >>= fun _ => pure r) (EP X pins σ Q) X.xe s₃) X.xe s := by
    rw [hs]
    exact wpAny_operating (d_getItem hu I g ry fun w' s3 I3 rw' => wpAny_bind (wpAny_letTemporaryGo (wpAny_pure ⟨z, H, I3, rw', q⟩)))
  first
    | exact wpAny_pure (wpAny_bind fin)
    | exact wpAny_bind (wpAny_pure (wpAny_bind fin))
    | exact wpAny_bind fin
def rIxX (K : PySem.W.Frag) : R2 := fun x y H Q => rIx K x y H Q ∨ rGetD x y H Q
theorem ix_X {X : Cx} (hu : X.A.units + 1 < cLine) : IxR X (rIxX X.K) := ix_seq.or (ix_dict hu)
section
variable {K : PySem.W.Frag} {s : Bool} {b : Bool} {ρ ρ' : En} {ω : Ow} {ta tb te tc : TE} {d d1 d2 d3 : D} {ds : List D} {Φ : Out → Prop} {i : Int} {a : Int}
theorem rd_ixL (h : L2.atI ds i = some d) : RD K (rIxX K) (.lst ds) (.int i) d := fun X H v1 v2 t r1 r2 Q q => by
  cases r2
  cases r1 with
  | lst ha rs =>
    obtain ⟨v, h1, h2⟩ := rs.atI h
    exact .inl (.inl ⟨_, _, i, v, rfl, rfl, .inl (.inl (of_hid ha).2), h1, q v H (Same.refl H) h2⟩)
theorem rd_ixT (h : L2.atI ds i = some d) : RD K (rIxX K) (.tup ds) (.int i) d := fun X H v1 v2 t r1 r2 Q q => by
  cases r2
  cases r1 with
  | tup ha rs =>
    obtain ⟨v, h1, h2⟩ := rs.atI h
    exact .inl (.inr (.inl ⟨_, _, i, v, rfl, rfl, sameT hid_le ha, h1, q v H (Same.refl H) h2⟩))
/-- an item of an own list -/
theorem ev_ixO {j k : Nat} (e : ρ[j]? = some (some (.ow k))) (ew : ω[k]? = some (.l ds)) (hb : Ev K true tb ρ ω (.int i)) (h : L2.atI ds i = some d) : Ev K s (tOp (rIxX K) (tVar j) tb) ρ ω d := Ev.weak fun M O σ H r Q q => by
  obtain ⟨a, vs, h1, h2, h3, h4⟩ := ev_own e ew trivial M O σ H r
  refine ⟨.ref a, h2, ?_⟩
  refine hb M O σ H r _ fun v H1 s1 r1 => ?_
  cases r1
  obtain ⟨v, g1, g2⟩ := h4.atI h
  exact .inl (.inl ⟨_, _, i, v, rfl, rfl, .inl (.inl (s1 _ _ h3)), g1, q v H1 s1 (g2.mono (hid_same s1))⟩)

/-! ### slices -/
def cutD (ds : List D) (lo hi : Option Int) : List D := (ds.drop (HT.sIx ds.length 0 lo)).take (HT.sIx ds.length ds.length hi - HT.sIx ds.length 0 lo)
theorem Rps.cut {H : Hp} {vs : List V} (r : Rps K H vs ds) (lo hi : Option Int) : Rps K H (cutV vs lo hi) (cutD ds lo hi) := by
  unfold cutV cutD
  rw [r.length]
  exact (r.drop _).take _
def rSlW (K : PySem.W.Frag) : V → Option Int → Option Int → Hp → VK → Prop := fun x lo hi H Q => ∃ a xs, x = .ref a ∧ SqT K H a xs ∧ (HT.sIx xs.length 0 lo = 0 ∧ HT.sIx xs.length xs.length hi = xs.length) ∧ Q (.ref a) H
def rSlX (K : PySem.W.Frag) : V → Option Int → Option Int → Hp → VK → Prop := fun x lo hi H Q => rSlL K x lo hi H Q ∨ rSlA K x lo hi H Q ∨ rSlS x lo hi H Q
theorem sl_X {X : Cx} : SlR X (rSlX X.K) := SlR.or sl_list (SlR.or sl_tupA sl_str)
theorem eo_none : EvO K tNoPart ρ ω none := fun M O σ H r Q q => q H (Same.refl H)
theorem eo_part (h : Ev K s te ρ ω (.int i)) : EvO K (tPart te) ρ ω (some i) := fun M O σ H r Q q => h M O σ H r _ fun v H1 s1 r1 => by
  cases r1
  exact ⟨i, rfl, q H1 s1⟩
theorem ev_slL {lo hi : Option Int} {tl th : TO} (h : Ev K s te ρ ω (.lst ds)) (hl : EvO K tl ρ ω lo) (hh : EvO K th ρ ω hi) : Ev K s (tSl (rSlX K) te tl th) ρ ω (.lst (cutD ds lo hi)) := fun M O σ H r Q q =>
  h M O σ H r _ fun v H1 s1 r1 => hl M O σ H1 (r.mono s1) _ fun H2 s2 => hh M O σ H2 ((r.mono s1).mono s2) _ fun H3 s3 => by
    have s23 := s2.trans s3
    have r3 := r1.mono (hid_same s23)
    cases r3 with
    | lst ha rs =>
      refine .inl ⟨_, _, rfl, .inl (.inl (of_hid ha).2), fun p hp => q _ _ ((s1.trans s23).trans (same_upd hp)) (.lst (hid_of (not_mem_of_new (Xs_tr ((r.mono s1).mono s23)) hp) upd_same) ((rs.cut lo hi).mono (hid_same (same_upd hp))))⟩
theorem ev_slT {lo hi : Option Int} {tl th : TO} (h : Ev K s te ρ ω (.tup ds)) (hl : EvO K tl ρ ω lo) (hh : EvO K th ρ ω hi) : Ev K s (tSl (rSlX K) te tl th) ρ ω (.tup (cutD ds lo hi)) := fun M O σ H r Q q =>
  h M O σ H r _ fun v H1 s1 r1 => hl M O σ H1 (r.mono s1) _ fun H2 s2 => hh M O σ H2 ((r.mono s1).mono s2) _ fun H3 s3 => by
    have s23 := s2.trans s3
    have r3 := r1.mono (hid_same s23)
    cases r3 with
    | tup ha rs =>
      refine .inr (.inl ⟨_, _, rfl, sameT hid_le ha, fun hw => ?_, fun _ p hp => q _ _ ((s1.trans s23).trans (same_upd hp)) (.tup (hid_of (not_mem_of_new (Xs_tr ((r.mono s1).mono s23)) hp) upd_same) ((rs.cut lo hi).mono (hid_same (same_upd hp))))⟩)
      have e : cutD ds lo hi = ds := by
        unfold cutD
        rw [← rs.length, hw.1, hw.2, List.drop_zero, Nat.sub_zero, rs.length, List.take_length]
      exact q _ _ (s1.trans s23) (by rw [e]; exact .tup ha rs)
theorem ev_slS {lo hi : Option Int} {tl th : TO} {x : Str} (h : Ev K s te ρ ω (.str x)) (hl : EvO K tl ρ ω lo) (hh : EvO K th ρ ω hi) (hz : x.length ≤ 1000000) : Ev K s (tSl (rSlX K) te tl th) ρ ω (.str (cutS x lo hi)) := fun M O σ H r Q q =>
  h M O σ H r _ fun v H1 s1 r1 => hl M O σ H1 (r.mono s1) _ fun H2 s2 => hh M O σ H2 ((r.mono s1).mono s2) _ fun H3 s3 => by
    cases r1
    exact .inr (.inr ⟨x, rfl, Nat.le_trans hz (by decide), q _ _ ((s1.trans s2).trans s3) (.str _)⟩)

/-! ### own lists are changed -/
/-- xs.append(e) -/
theorem ws_append {j k : Nat} (e : ρ[j]? = some (some (.ow k))) (ew : ω[k]? = some (.l ds)) (hv : Ev K true te ρ ω d) (hl : ds.length ≤ 1000000) (q : Φ (.nx ρ (ω.set k (.l (ds ++ [d]))))) :
    WS K b (tDrop (tBM K "list" rAppend (tVar j) (tCons te tNil))) ρ ω Φ := fun M O σ H D' r c => by
  obtain ⟨a, vs, h1, h2, h3, h4⟩ := ev_own e ew trivial M O σ H r
  refine ⟨.ref a, h2, .inl ⟨rfl, vs, .inl (.inl h3)⟩, ?_⟩
  refine hv M O σ H r _ fun v H1 s1 r1 => ?_
  have r' := r.mono s1
  obtain ⟨r2, k2⟩ := r'.write (o := .lst (vs ++ [v])) h1 l_ne ⟨_, upd_same, (h4.mono (hid_same s1)).append (.cons r1 .nil)⟩
  exact ⟨a, vs, v, rfl, rfl, s1 _ _ h3, by rw [h4.length]; exact Nat.lt_of_le_of_lt hl (by decide), c.nx O σ _ ρ _ r2 ((Kp.same s1).trans k2) q⟩
/-- the item may be reckoned by code that changes things -/
theorem ws_appendW {j k : Nat} (e : ρ[j]? = some (some (.ow k))) (hv : WE K te ρ ω fun d ω1 => ∃ ds, ω1[k]? = some (.l ds) ∧ ds.length ≤ 1000000 ∧ Φ (.nx ρ (ω1.set k (.l (ds ++ [d]))))) (hk : ∃ ds, ω[k]? = some (.l ds)) :
    WS K b (tDrop (tBM K "list" rAppend (tVar j) (tCons te tNil))) ρ ω Φ := fun M O σ H D' r c => by
  obtain ⟨ds0, ew0⟩ := hk
  obtain ⟨a, vs0, h1, h2, h3, _⟩ := ev_own e ew0 trivial M O σ H r
  refine ⟨.ref a, h2, .inl ⟨rfl, vs0, .inl (.inl h3)⟩, ?_⟩
  refine hv M O σ H r _ fun v H1 ω1 d r1 k1 rv ⟨ds, ew, hl, q⟩ => ?_
  obtain ⟨a', vs, g1, g2, g3, g4⟩ := ev_own e ew trivial M O σ H1 r1
  rw [h1] at g1
  cases g1
  obtain ⟨r2, k2⟩ := r1.write (o := .lst (vs ++ [v])) h1 l_ne ⟨_, upd_same, g4.append (.cons rv .nil)⟩
  exact ⟨a, vs, v, rfl, rfl, g3, by rw [g4.length]; exact Nat.lt_of_le_of_lt hl (by decide), c.nx O σ _ ρ _ r2 (k1.trans k2) q⟩
/-- xs.extend(ys) -/
theorem ws_extend {j k : Nat} {es : List D} (e : ρ[j]? = some (some (.ow k))) (ew : ω[k]? = some (.l ds)) (hv : Ev K true te ρ ω (.lst es)) (hl : ds.length + es.length ≤ 1000000) (q : Φ (.nx ρ (ω.set k (.l (ds ++ es))))) :
    WS K b (tDrop (tBM K "list" rExtend (tVar j) (tCons te tNil))) ρ ω Φ := fun M O σ H D' r c => by
  obtain ⟨a, vs, h1, h2, h3, h4⟩ := ev_own e ew trivial M O σ H r
  refine ⟨.ref a, h2, .inl ⟨rfl, vs, .inl (.inl h3)⟩, ?_⟩
  refine hv M O σ H r _ fun v H1 s1 r1 => ?_
  have r' := r.mono s1
  cases r1 with
  | lst hb rs =>
    obtain ⟨r2, k2⟩ := r'.write (o := .lst (vs ++ _)) h1 l_ne ⟨_, upd_same, (h4.mono (hid_same s1)).append rs⟩
    exact ⟨a, _, vs, _, rfl, rfl, s1 _ _ h3, (of_hid hb).2, by rw [h4.length, rs.length]; exact Nat.le_trans hl (by decide), c.nx O σ _ ρ _ r2 ((Kp.same s1).trans k2) q⟩
/-- xs[i] = e -/
theorem ws_setitem {j k : Nat} {ti : TE} {n : Nat} (e : ρ[j]? = some (some (.ow k))) (ew : ω[k]? = some (.l ds)) (hv : Ev K true te ρ ω d) (hi : Ev K true ti ρ ω (.int i)) (hn : ixN ds.length i = some n) (q : Φ (.nx ρ (ω.set k (.l (ds.set n d))))) :
    WS K b (tAsg te (gSub (tVar j) ti rSetL)) ρ ω Φ := fun M O σ H D' r c => hv M O σ H r _ fun v H1 s1 r1 => by
  obtain ⟨a, vs, h1, h2, h3, h4⟩ := ev_own e ew trivial M O σ H1 (r.mono s1)
  refine ⟨.ref a, h2, ?_⟩
  refine hi M O σ H1 (r.mono s1) _ fun u H2 s2 r2 => ?_
  cases r2
  have r' := (r.mono s1).mono s2
  obtain ⟨r3, k3⟩ := r'.write (o := .lst (vs.set n v)) h1 l_ne ⟨_, upd_same, Rps.set (r1.mono (hid_same s2)) n (h4.mono (hid_same s2))⟩
  exact ⟨a, vs, i, n, rfl, rfl, s2 _ _ h3, by rw [h4.length]; exact hn, c.nx O σ _ ρ _ r3 ((Kp.same (s1.trans s2)).trans k3) q⟩
/-- x += e of ints -/
def ipAddX : TIp := fun x y H Q => ∃ i j, x = .int i ∧ y = .int j ∧ Q (.int (i + j)) H
theorem ip_addX {X : Cx} : PIp X .Add ipAddX := fun pins s σ H x y v u Q I rx ry ⟨i, j, e1, e2, q⟩ => iop_add pins s σ H x y v u Q I rx ry ⟨i, j, e1, e2, q⟩
def ipSubX : TIp := fun x y H Q => ∃ i j, x = .int i ∧ y = .int j ∧ Q (.int (i - j)) H
theorem ip_subX {X : Cx} : PIp X .Sub ipSubX := fun pins s σ H x y v u Q I rx ry ⟨i, j, e1, e2, q⟩ => iop_sub pins s σ H x y v u Q I rx ry ⟨i, j, e1, e2, q⟩
theorem ws_augA {j : Nat} {m n : Int} (e : ρ[j]? = some (some (.sh (.int m)))) (hv : Ev K s te ρ ω (.int n)) (q : Φ (.nx (ρ.set j (some (.sh (.int (m + n))))) ω)) : WS K b (tAug j te ipAddX) ρ ω Φ := fun M O σ H D' r c => by
  obtain ⟨x, h1, h2⟩ := r.sh j _ e
  cases h2
  refine ⟨_, h1, ?_⟩
  refine hv M O σ H r _ fun v H1 s1 r1 => ?_
  cases r1
  exact ⟨m, n, rfl, rfl, c.nx O _ H1 _ ω ((r.mono s1).setSh (.int _)) (.same s1) q⟩
theorem ws_augS {j : Nat} {m n : Int} (e : ρ[j]? = some (some (.sh (.int m)))) (hv : Ev K s te ρ ω (.int n)) (q : Φ (.nx (ρ.set j (some (.sh (.int (m - n))))) ω)) : WS K b (tAug j te ipSubX) ρ ω Φ := fun M O σ H D' r c => by
  obtain ⟨x, h1, h2⟩ := r.sh j _ e
  cases h2
  refine ⟨_, h1, ?_⟩
  refine hv M O σ H r _ fun v H1 s1 r1 => ?_
  cases r1
  exact ⟨m, n, rfl, rfl, c.nx O _ H1 _ ω ((r.mono s1).setSh (.int _)) (.same s1) q⟩

/-! ### truth -/
def truD : D → Bool
  | .non => false | .bl b => b | .int i => i != 0 | .str x => ((x.length : Int) != 0) | .lst xs => !xs.isEmpty | .tup xs => !xs.isEmpty | _ => false
def truOk : D → Bool
  | .non => true | .bl _ => true | .int _ => true | .lst _ => true | .tup _ => true | _ => false
theorem Rps.empty {H : Hp} {vs : List V} (r : Rps K H vs ds) : vs.isEmpty = ds.isEmpty := by
  cases r <;> rfl
theorem Rp.tru {H : Hp} {v : V} (r : Rp K H v d) (h : truOk d = true) : TruV K v H (truD d) := by
  cases r with
  | non => rfl
  | bl => rfl
  | int => rfl
  | lst ha rs => exact .inl ⟨_, .inl (.inl ha), by rw [rs.empty]; rfl⟩
  | tup ha rs => exact .inr (.inl ⟨_, .inl (.inl ha), by rw [rs.empty]; rfl⟩)
  | str => exact Bool.noConfusion h
  | raw => exact Bool.noConfusion h
  | dK => exact Bool.noConfusion h
  | dT => exact Bool.noConfusion h
  | zT => exact Bool.noConfusion h
  | fro => exact Bool.noConfusion h
def tTruX (K : PySem.W.Frag) (ta : TE) : TT := fun σ H Q => ta σ H fun x H' => ∃ k, TruV K x H' k ∧ Q k H'
theorem et_tru (h : Ev K s te ρ ω d) (ht : truOk d = true := by rfl) : EvT K (tTruX K te) ρ ω (truD d) := fun M O σ H r Q q => h M O σ H r _ fun v H1 s1 r1 => ⟨_, (r1.mono hid_le).tru ht, q H1 s1⟩
theorem wt_tru {Θ : Bool → Ow → Prop} (h : WE K te ρ ω fun d ω1 => truOk d = true ∧ Θ (truD d) ω1) : WT K (tTruX K te) ρ ω Θ := fun M O σ H r Q q => h M O σ H r _ fun v H1 ω1 d r1 k1 rv ⟨ht, hq⟩ => ⟨_, (rv.mono hid_le).tru ht, q _ H1 ω1 r1 k1 hq⟩
theorem ev_orT (h1 : Ev K s ta ρ ω d1) (ht : truOk d1 = true) (h2 : truD d1 = false → Ev K s tb ρ ω d2) : Ev K s (tOrT K ta tb) ρ ω (if truD d1 = true then d1 else d2) := fun M O σ H r Q q => h1 M O σ H r _ fun v H1 s1 r1 => by
  refine ⟨truD d1, (r1.mono hid_le).tru ht, ?_⟩
  cases e : truD d1 with
  | true =>
    rw [e, if_pos rfl] at q
    exact iteT (q v H1 s1 r1)
  | false =>
    rw [e, if_neg Bool.false_ne_true] at q
    exact iteF (h2 e M O σ H1 (r.mono s1) Q fun v2 H2 s2 r2 => q v2 H2 (s1.trans s2) r2)

/-! ### a < b < c -/
theorem ev_chain {r r' : R2} {c1 : Bool} (ha : Ev K s ta ρ ω d1) (hb : Ev K s tb ρ ω d2) (hr : RD K r d1 d2 (.bl c1)) (hc : c1 = true → Ev K s tc ρ ω d3) {c2 : Bool} (hr' : c1 = true → RD K r' d2 d3 (.bl c2)) : Ev K s (tChain r r' ta tb tc) ρ ω (.bl (c1 && c2)) := fun M O σ H R Q q =>
  ha M O σ H R _ fun v1 H1 s1 r1 => hb M O σ H1 (R.mono s1) _ fun v2 H2 s2 r2 => hr (Xs s M O) H2 v1 v2 (Xs_tr ((R.mono s1).mono s2)) (r1.mono (hid_same s2)) r2 _ fun v H3 s3 r3 => by
    cases r3
    have s123 := (s1.trans s2).trans s3
    refine ⟨c1, rfl, ?_⟩
    cases c1 with
    | true =>
      refine iteT ?_
      refine hc rfl M O σ H3 (R.mono s123) _ fun v3 H4 s4 r4 => ?_
      exact hr' rfl (Xs s M O) H4 v2 v3 (Xs_tr (R.mono (s123.trans s4))) (r2.mono (hid_same (s3.trans s4))) r4 _ fun v5 H5 s5 r5 => q v5 H5 ((s123.trans s4).trans s5) r5
    | false => exact iteF (q _ H3 s123 (.bl _))

/-! ### built-ins -/
def rLenX (K : PySem.W.Frag) : List V → Hp → VK → Prop := fun xs H Q => ∃ x n, xs = [x] ∧ LenV K x H n ∧ Q (.int n) H
theorem cr_lenX {X : Cx} : CallR X (.builtin "len") (rLenX X.K) := call_len
theorem rc_lenL : RC K (rLenX K) [.lst ds] (.int ds.length) := fun X H vs t r Q q => by
  cases r with
  | cons r1 r2 =>
    cases r2
    cases r1 with
    | lst ha rs => exact ⟨_, _, rfl, .inl ⟨_, .inl (.inl (of_hid ha).2), rs.length.symm⟩, q _ H (Same.refl H) (.int _)⟩
theorem rc_lenT : RC K (rLenX K) [.tup ds] (.int ds.length) := fun X H vs t r Q q => by
  cases r with
  | cons r1 r2 =>
    cases r2
    cases r1 with
    | tup ha rs => exact ⟨_, _, rfl, .inr ⟨_, sameT hid_le ha, rs.length.symm⟩, q _ H (Same.refl H) (.int _)⟩
theorem rc_lenS {x : Str} (h : x.length ≤ 1000000) : RC K (rLenX K) [.str x] (.int x.length) := fun X H vs t r Q q => by
  cases r with
  | cons r1 r2 =>
    cases r2
    cases r1
    exact ⟨_, _, rfl, ⟨Nat.le_trans h (by decide), rfl⟩, q _ H (Same.refl H) (.int _)⟩
/-- len of an own list -/
theorem ev_lenO {j k : Nat} (e : ρ[j]? = some (some (.ow k))) (ew : ω[k]? = some (.l ds)) : Ev K s (tCB (rLenX K) (tCons (tVar j) tNil)) ρ ω (.int ds.length) := Ev.weak fun M O σ H r Q q => by
  obtain ⟨a, vs, h1, h2, h3, h4⟩ := ev_own e ew trivial M O σ H r
  exact ⟨.ref a, h2, _, _, rfl, .inl ⟨vs, .inl (.inl h3), h4.length.symm⟩, q _ H (Same.refl H) (.int _)⟩
def rAbsX : List V → Hp → VK → Prop := fun xs H Q => ∃ i, xs = [.int i] ∧ Q (.int (if i < 0 then -i else i)) H
theorem cr_absX {X : Cx} : CallR X (.builtin "abs") rAbsX := call_abs
def absI (i : Int) : Int := if i < 0 then -i else i
theorem rc_abs : RC K rAbsX [.int i] (.int (absI i)) := fun X H vs t r Q q => by
  cases r with
  | cons r1 r2 =>
    cases r2
    cases r1
    exact ⟨i, rfl, q _ H (Same.refl H) (.int _)⟩
def rIntX : List V → Hp → VK → Prop := fun xs H Q => ((∃ i, xs = [.int i] ∧ Q (.int i) H) ∨ ∃ k, xs = [.bl k] ∧ Q (.int (if k then 1 else 0)) H) ∨ ∃ a n, xs = [.str a] ∧ PySem.intText? a = some n ∧ a.length ≤ 640 ∧ Q (.int n) H
theorem cr_intX {X : Cx} : CallR X (.type "int") rIntX := CallR.or call_int1 call_int_str
theorem rc_int : RC K rIntX [.int i] (.int i) := fun X H vs t r Q q => by
  cases r with
  | cons r1 r2 =>
    cases r2
    cases r1
    exact .inl (.inl ⟨i, rfl, q _ H (Same.refl H) (.int _)⟩)
def b2n (k : Bool) : Int := if k then 1 else 0
theorem rc_intb {k : Bool} : RC K rIntX [.bl k] (.int (b2n k)) := fun X H vs t r Q q => by
  cases r with
  | cons r1 r2 =>
    cases r2
    cases r1
    exact .inl (.inr ⟨k, rfl, q _ H (Same.refl H) (.int _)⟩)
theorem rc_ints {x : Str} (h : PySem.intText? x = some i) (hl : x.length ≤ 640) : RC K rIntX [.str x] (.int i) := fun X H vs t r Q q => by
  cases r with
  | cons r1 r2 =>
    cases r2
    cases r1
    exact .inr ⟨x, i, rfl, h, hl, q _ H (Same.refl H) (.int _)⟩
def rStrX : List V → Hp → VK → Prop := fun xs H Q => ∃ i, xs = [.int i] ∧ i.natAbs.log2 < 1920 ∧ Q (.str (toString i)) H
theorem cr_strX {X : Cx} : CallR X (.type "str") rStrX := call_str_int
theorem rc_str (h : i.natAbs.log2 < 1920) : RC K rStrX [.int i] (.str (toString i)) := fun X H vs t r Q q => by
  cases r with
  | cons r1 r2 =>
    cases r2
    cases r1
    exact ⟨i, rfl, h, q _ H (Same.refl H) (.str _)⟩
def rMaxX (K : PySem.W.Frag) : List V → Hp → VK → Prop := fun xs H Q => (∃ i j, xs = [.int i, .int j] ∧ Q (.int (if j > i then j else i)) H) ∨ rMax K xs H Q
def rMinX (K : PySem.W.Frag) : List V → Hp → VK → Prop := fun xs H Q => (∃ i j, xs = [.int i, .int j] ∧ Q (.int (if j < i then j else i)) H) ∨ rMin K xs H Q
theorem cr_maxX {X : Cx} (hc : X.calm = true) : CallR X (.builtin "max") (rMaxX X.K) := CallR.or (call_max2 hc) (cr_max hc)
theorem cr_minX {X : Cx} (hc : X.calm = true) : CallR X (.builtin "min") (rMinX X.K) := CallR.or (call_min2 hc) (cr_min hc)
theorem rc_max2 : RC K (rMaxX K) [.int i, .int a] (.int (max i a)) := fun X H vs t r Q q => by
  cases r with
  | cons r1 r2 =>
    cases r1
    cases r2 with
    | cons r2 r3 =>
      cases r2
      cases r3
      refine .inl ⟨i, a, rfl, ?_⟩
      have e : max i a = if a > i then a else i := by
        split <;> omega
      rw [← e]
      exact q _ H (Same.refl H) (.int _)
theorem rc_min2 : RC K (rMinX K) [.int i, .int a] (.int (min i a)) := fun X H vs t r Q q => by
  cases r with
  | cons r1 r2 =>
    cases r1
    cases r2 with
    | cons r2 r3 =>
      cases r2
      cases r3
      refine .inl ⟨i, a, rfl, ?_⟩
      have e : min i a = if a < i then a else i := by
        split <;> omega
      rw [← e]
      exact q _ H (Same.refl H) (.int _)
def rAllX (K : PySem.W.Frag) : List V → Hp → VK → Prop := rAll K
def rAnyX (K : PySem.W.Frag) : List V → Hp → VK → Prop := rAny K
theorem cr_allX {X : Cx} (hc : X.calm = true) : CallR X (.builtin "all") (rAllX X.K) := cr_all hc
theorem cr_anyX {X : Cx} (hc : X.calm = true) : CallR X (.builtin "any") (rAnyX X.K) := cr_any hc
theorem rc_all {bs : List Bool} : RC K (rAllX K) [.lst (bs.map .bl)] (.bl (bs.all id)) := fun X H vs t r Q q => by
  cases r with
  | cons r1 r2 =>
    cases r2
    cases r1 with
    | lst ha rs => exact ⟨_, bs, rfl, by rw [← rs.bls]; exact .inl (.inl (of_hid ha).2), q _ H (Same.refl H) (.bl _)⟩
theorem rc_any {bs : List Bool} : RC K (rAnyX K) [.lst (bs.map .bl)] (.bl (bs.any id)) := fun X H vs t r Q q => by
  cases r with
  | cons r1 r2 =>
    cases r2
    cases r1 with
    | lst ha rs => exact ⟨_, bs, rfl, by rw [← rs.bls]; exact .inl (.inl (of_hid ha).2), q _ H (Same.refl H) (.bl _)⟩
def rListX (K : PySem.W.Frag) : List V → Hp → VK → Prop := fun xs H Q => ∃ p ys, xs = [.ref p] ∧ (SqL K H p ys ∨ SqT K H p ys) ∧ ∀ l, H l = none → Q (.ref l) (upd H l (.lst ys))
theorem cr_listX {X : Cx} : CallR X (.type "list") (rListX X.K) := call_list_of
theorem rc_listL : RC K (rListX K) [.lst ds] (.lst ds) := fun X H vs t r Q q => by
  cases r with
  | cons r1 r2 =>
    cases r2
    cases r1 with
    | lst ha rs => exact ⟨_, _, rfl, .inl (.inl (.inl (of_hid ha).2)), fun l hl => q _ _ (same_upd hl) (.lst (hid_of (not_mem_of_new t hl) upd_same) (rs.mono (hid_same (same_upd hl))))⟩
theorem rc_listT : RC K (rListX K) [.tup ds] (.lst ds) := fun X H vs t r Q q => by
  cases r with
  | cons r1 r2 =>
    cases r2
    cases r1 with
    | tup ha rs => exact ⟨_, _, rfl, .inr (sameT hid_le ha), fun l hl => q _ _ (same_upd hl) (.lst (hid_of (not_mem_of_new t hl) upd_same) (rs.mono (hid_same (same_upd hl))))⟩
def rTupX (K : PySem.W.Frag) : List V → Hp → VK → Prop := fun xs H Q => ∃ p ys, xs = [.ref p] ∧ ((SqL K H p ys ∧ ∀ l, H l = none → Q (.ref l) (upd H l (.tup ys))) ∨ (SqT K H p ys ∧ Q (.ref p) H))
theorem cr_tupX {X : Cx} : CallR X (.type "tuple") (rTupX X.K) := call_tuple_of
theorem rc_tupL : RC K (rTupX K) [.lst ds] (.tup ds) := fun X H vs t r Q q => by
  cases r with
  | cons r1 r2 =>
    cases r2
    cases r1 with
    | lst ha rs => exact ⟨_, _, rfl, .inl ⟨.inl (.inl (of_hid ha).2), fun l hl => q _ _ (same_upd hl) (.tup (hid_of (not_mem_of_new t hl) upd_same) (rs.mono (hid_same (same_upd hl))))⟩⟩
theorem rc_tupT : RC K (rTupX K) [.tup ds] (.tup ds) := fun X H vs t r Q q => by
  cases r with
  | cons r1 r2 =>
    cases r2
    cases r1 with
    | tup ha rs => exact ⟨_, _, rfl, .inr ⟨sameT hid_le ha, q _ _ (Same.refl H) (.tup ha rs)⟩⟩
/-- isinstance against a built-in class -/
def tyD : D → Option String
  | .non => some "NoneType" | .bl _ => some "bool" | .int _ => some "int" | .str _ => some "str" | .lst _ => some "list" | .tup _ => some "tuple" | .dK _ => some "dict" | .dT _ => some "dict" | .zT _ => none | .raw _ => none | .fro _ => none
theorem Rp.ty {H : Hp} {v : V} {n : String} (r : Rp K H v d) (h : tyD d = some n) : TyX K H v (.type n) := by
  cases r with
  | non => cases h; exact .base .non
  | bl => cases h; exact .base (.bl _)
  | int => cases h; exact .base (.int _)
  | str => cases h; exact .base (.str _)
  | lst ha _ => cases h; exact .base (.lst ha)
  | tup ha _ => cases h; exact .base (.tup ha)
  | dK ha _ _ => cases h; exact .base (.dK ha)
  | dT ha _ _ => cases h; exact .base (.dT ha)
  | zT => cases h
  | raw => cases h
  | fro => cases h
def rIsiX (K : PySem.W.Frag) : List V → Hp → VK → Prop := fun xs H Q => rIsi K xs H Q ∨ rIsiT K xs H Q
theorem cr_isiX {X : Cx} : CallR X (.builtin "isinstance") (rIsiX X.K) := CallR.or call_isi call_isiT
theorem rc_isi {n m : String} {c : Bool} (h : tyD d = some n) (hk : kitB n m = some c) : RC K (rIsiX K) [d, .raw (.ty m)] (.bl c) := fun X H vs t r Q q => by
  cases r with
  | cons r1 r2 =>
    cases r2 with
    | cons r2 r3 =>
      cases r2
      cases r3
      exact .inl ⟨_, _, .type n, .type m, c, rfl, .ty m, (r1.mono hid_le).ty h, kit_ty hk, q _ H (Same.refl H) (.bl _)⟩
theorem ev_isi2 {n m m' : String} {c c' : Bool} (hv : Ev K s te ρ ω d) (h : tyD d = some n) (hk : kitB n m = some c) (hk' : kitB n m' = some c') : Ev K s (tCB (rIsiX K) (tCons te (tCons (tTup (tCons (tC (.ty m)) (tCons (tC (.ty m')) tNil))) tNil))) ρ ω (.bl (c || c')) := fun M O σ H r Q q =>
  hv M O σ H r _ fun v H1 s1 r1 => ⟨by show 2 ≤ sizeLine; decide, fun p hp => by
    refine .inr ⟨v, p, _, .type n, [.type m, .type m'], c || c', rfl, upd_same, .cons (.ty m) (.cons (.ty m') .nil), ((r1.mono hid_le).mono (same_upd hp)).ty h, ?_, q _ _ (s1.trans (same_upd hp)) (.bl _)⟩
    refine kitAny_cons (kit_ty hk) (fun e => ?_) fun e => by rw [e]; rfl
    rw [e, Bool.false_or]
    refine kitAny_cons (kit_ty hk') (fun e2 => ?_) fun e2 => e2
    rw [e2]
    rfl⟩
end
/-- math.isqrt -/
def rIsqrt : List V → Hp → VK → Prop := fun vs H Q => ∃ a : Int, vs = [.int a] ∧ 0 ≤ a ∧ a.toNat.log2 < 9000 ∧ Q (.int ((Float64.isqrt a.toNat : Nat) : Int)) H
theorem cr_isqrt {X : Cx} : CallR X (.builtin "math.isqrt") rIsqrt := by
  intro pins s σ H vs us Q I r h
  obtain ⟨a, rfl, h0, h1, q⟩ := h
  obtain ⟨u, rfl, t, rfl⟩ := vals1 r
  exact call_function_meets MGF.kind_isqrt MGF.plain_isqrt MGF.entry_isqrt (MGF.args_isqrt _) (mg_run_isqrt a t (by omega) (by omega) (by omega)).meets ⟨.int _, H, I.tok _, ⟨_, rfl⟩, q⟩
theorem rc_isqrt {K : PySem.W.Frag} {a : Int} (h0 : 0 ≤ a) (h1 : a.toNat.log2 < 9000) : RC K rIsqrt [.int a] (.int ((Float64.isqrt a.toNat : Nat) : Int)) := fun X H vs t r Q q => by
  cases r with
  | cons r1 r2 =>
    cases r2
    cases r1
    exact ⟨a, rfl, h0, h1, q _ H (Same.refl H) (.int _)⟩
end DL

set_option Elab.async false
set_option linter.all false
set_option maxRecDepth 100000
set_option maxHeartbeats 4000000
/-! DL, part G: calls by keywords, what is walked whatever it is, constants of the module. -/
namespace DL
open PySem PySem.W L2 PySem.Spec PyProof.Rows
section
variable {X : Cx} {k j : Nat} {x : Str} {ps : List Str} {sp : Sp} {p pos : Pos} {e : Expr} {es : List Expr} {t : TA} {kws : List Keyword}
/-- f(k = v, ..), the parameters' names in their order -/
theorem pe_avK (a : Av X.prog X.w X.K X.mg X.base k x ps sp) (hr : Room j X.A) (hg : Gl X x) (hkw : PK X kws t) (hk : k ≤ j := by decide) (hall : (backToKw pos (keywordEach kws X.env)).all (·.1.isSome) = true := by rfl) (hks : (backToKw pos (keywordEach kws X.env)).filterMap (·.1) = ps := by rfl)
    (hdb : (x == ("__debug__" : Str)) = false := by decide) (hpl : ((backTo pos (starEach [] X.env)).any (·.1) || (backToKw pos (keywordEach kws X.env)).any (·.1.isNone)) = false := by rfl) : PE X (.Call (.Name x p) [] kws pos) (tCall sp [] E0 t) := by
  refine ⟨fun pins s σ H Q I h => ?_⟩
  obtain ⟨f, fd, F, hm, kp, hb, hb2⟩ := a.ex
  refine wpAny_Call_Name_kw (ld_glob I hg hm ?_ hdb)
  refine PySem.W.callWith_KW0 (h₀ := X.base) I.ok.mod.kin kp hall ?_ hpl
  refine thn (hkw.run pos pins s σ H _ I h) fun ws s2 ⟨zs, H2, I2, rz, q2⟩ => ⟨I2.kIn, ?_⟩
  rw [hks]
  have q2 : sp zs H2 Q E0 := by
    have q3 : sp (zs ++ []) H2 Q E0 := q2
    rw [List.append_nil] at q3
    exact q3
  have hl : ws.length = ps.length := by rw [← rz.length]; exact F.len _ _ _ _ q2
  refine wpAny_call (codeAny_mono (F.run X.A X.stack s2 H2 ⟨[], ps.zip ws⟩ ws zs Q E0 (hr.mono hk) I2.env0 (.of_eq (hb2 ws hl)) rz q2) fun r s' hq => ?_)
  cases r with
  | error e => exact False.elim hq
  | ok fl =>
    cases fl with
    | ret u => exact I2.after hq
    | next => exact False.elim hq
    | brk => exact False.elim hq
    | cont => exact False.elim hq
theorem pe_gi {n : Int} (h : ∃ t, X.mg x = some (.int n t)) (hg : Gl X x) (hd : (x == ("__debug__" : Str)) = false := by decide) : PE X (.Name x pos) (tC (.int n)) := by
  obtain ⟨t, h⟩ := h
  exact pe_glob hg h ⟨t, rfl⟩ hd
def iSeqX (K : PySem.W.Frag) (tl : TE) : TI := fun σ H R => iList K tl σ H R ∨ iTup K tl σ H R ∨ iStr tl σ H R
theorem pi_seqX {tg l : Expr} {tl : TE} (hl : PE X l tl) : PI X tg l (iSeqX X.K tl) := ⟨fun pins s σ H R I h => by
  rcases h with h | h | h
  · exact (pi_list hl).run pins s σ H R I h
  · exact (pi_tup hl).run pins s σ H R I h
  · exact (pi_str hl).run pins s σ H R I h⟩
theorem pt_tru {a : Expr} {ta : TE} (ha : PE X a ta) (he : ∀ whole, isTrue a X.env whole = (do let v ← whole; standAt a.pos; holding [v] (truthy v)) := by intro _; rfl) : PT X a (tTruX X.K ta) := pt_truth ha he
def rSetX : TSet := fun o i v H Q => rSetL o i v H Q ∨ rSetD o i v H Q
theorem set_X (hu : X.A.units + 1 < cLine) : PSet X rSetX := by
  intro pins s σ H o i v ov iv u Q I ro ri rv h
  rcases h with h | h
  · exact set_list pins s σ H o i v ov iv u Q I ro ri rv h
  · exact set_dict hu pins s σ H o i v ov iv u Q I ro ri rv h
end
section
variable {K : PySem.W.Frag} {s : Bool} {b : Bool} {ρ ρ' : En} {ω : Ow} {ta tb te tc : TE} {d d1 d2 d3 : D} {ds : List D} {Φ : Out → Prop} {i : Int} {a : Int}
theorem ei_list' {tl : TE} (h : Ev K true tl ρ ω (.lst ds)) : EvI K (iSeqX K tl) ρ ω ds := fun M O σ H r R q => .inl (ei_list h M O σ H r R q)
theorem ei_tup' {tl : TE} (h : Ev K true tl ρ ω (.tup ds)) : EvI K (iSeqX K tl) ρ ω ds := fun M O σ H r R q => .inr (.inl (ei_tup h M O σ H r R q))
theorem ws_never (h : False) : WS K b tNever ρ ω Φ := h.elim
theorem ev_andT (h1 : Ev K s ta ρ ω d1) (ht : truOk d1 = true) (h2 : truD d1 = true → Ev K s tb ρ ω d2) : Ev K s (tAndT K ta tb) ρ ω (if truD d1 = true then d2 else d1) := fun M O σ H r Q q => h1 M O σ H r _ fun v H1 s1 r1 => by
  refine ⟨truD d1, (r1.mono hid_le).tru ht, ?_⟩
  cases e : truD d1 with
  | true =>
    rw [e, if_pos rfl] at q
    exact iteT (h2 e M O σ H1 (r.mono s1) Q fun v2 H2 s2 r2 => q v2 H2 (s1.trans s2) r2)
  | false =>
    rw [e, if_neg Bool.false_ne_true] at q
    exact iteF (q v H1 s1 r1)
theorem ev_and {a b : Bool} (h1 : Ev K s ta ρ ω (.bl a)) (h2 : a = true → Ev K s tb ρ ω (.bl b)) : Ev K s (tAndT K ta tb) ρ ω (.bl (a && b)) := by
  refine (ev_andT h1 rfl h2).to ?_
  cases a <;> rfl
theorem ev_or {a b : Bool} (h1 : Ev K s ta ρ ω (.bl a)) (h2 : a = false → Ev K s tb ρ ω (.bl b)) : Ev K s (tOrT K ta tb) ρ ω (.bl (a || b)) := by
  refine (ev_orT h1 rfl h2).to ?_
  cases a <;> rfl
theorem et_trub {c : Bool} (h : Ev K s te ρ ω (.bl c)) : EvT K (tTruX K te) ρ ω c := et_tru h rfl
theorem wt_trub {Θ : Bool → Ow → Prop} (h : WE K te ρ ω fun d ω1 => ∃ c, d = .bl c ∧ Θ c ω1) : WT K (tTruX K te) ρ ω Θ := wt_tru (h.imp fun d ω' ⟨c, e, q⟩ => by
  subst e
  exact ⟨rfl, q⟩)
theorem ws_setitemX {j k : Nat} {ti : TE} {n : Nat} (e : ρ[j]? = some (some (.ow k))) (ew : ω[k]? = some (.l ds)) (hv : Ev K true te ρ ω d) (hi : Ev K true ti ρ ω (.int i)) (hn : ixN ds.length i = some n) (q : Φ (.nx ρ (ω.set k (.l (ds.set n d))))) :
    WS K b (tAsg te (gSub (tVar j) ti rSetX)) ρ ω Φ := fun M O σ H D' r c => hv M O σ H r _ fun v H1 s1 r1 => by
  obtain ⟨a, vs, h1, h2, h3, h4⟩ := ev_own e ew trivial M O σ H1 (r.mono s1)
  refine ⟨.ref a, h2, ?_⟩
  refine hi M O σ H1 (r.mono s1) _ fun u H2 s2 r2 => ?_
  cases r2
  have r' := (r.mono s1).mono s2
  obtain ⟨r3, k3⟩ := r'.write (o := .lst (vs.set n v)) h1 l_ne ⟨_, upd_same, Rps.set (r1.mono (hid_same s2)) n (h4.mono (hid_same s2))⟩
  exact .inl ⟨a, vs, i, n, rfl, rfl, s2 _ _ h3, by rw [h4.length]; exact hn, c.nx O σ _ ρ _ r3 ((Kp.same (s1.trans s2)).trans k3) q⟩
/-- a, b, c = x, y, z -/
theorem ws_par3 {i j l : Nat} {n m o : NE} (h1 : EvN K ta ρ ω n) (h2 : EvN K tb ρ (ω ++ n.own) m) (h3 : EvN K tc ρ ((ω ++ n.own) ++ m.own) o)
    (q : Φ (.nx (((ρ.set i (some (n.ent ω))).set j (some (m.ent (ω ++ n.own)))).set l (some (o.ent ((ω ++ n.own) ++ m.own)))) (((ω ++ n.own) ++ m.own) ++ o.own))) :
    WS K b (tPar3 i j l (tCons ta (tCons tb (tCons tc tNil)))) ρ ω Φ := fun M O σ H D' r c => h1 M O σ H r _ fun v H1 s1 r1 => by
  obtain ⟨O1, R1, k1, ex1, up1⟩ := r.setN s1 r1
  refine h2 M O1 σ H1 R1 _ fun u H2 s2 r2 => ?_
  obtain ⟨O2, R2, k2, ex2, up2⟩ := R1.setN s2 r2
  refine h3 M O2 σ H2 R2 _ fun w H3 s3 r3 => ?_
  obtain ⟨O3, R3, k3, ex3, up3⟩ := R2.setN s3 r3
  exact ⟨v, u, w, rfl, c.nx O3 _ H3 _ _ (up3 _ _ _ _ _ l (up2 _ _ _ _ _ j (up1 _ _ _ _ _ i R3 (k2.trans k3).hid fun k a e => ex3 k a (ex2 k a e)) k3.hid ex3) (Same.refl _) fun _ _ e => e) ((k1.trans k2).trans k3) q⟩
end
/-- a def as the top has made it -/
theorem av_mk {P : Program} {w : World} {K : PySem.W.Frag} {mg : Str → Option Value} {base : Heap} {k : Nat} {x : Str} {ps : List Str} {sp : Sp} {st : Stmt} {f : Addr} {fd : FuncData} (F : Fun K x x st f fd) (G : FnOk P w K mg base CX0 k f fd ps sp) (hm : mg x = some (.ref f))
    (hb : ∀ (kV doc pm : Value) (an : Option Addr) (cdv ct : Value) (us : List Value), us.length = ps.length → bindArgs (PySem.W.fnOf x x (defArgs st) (defBody st) (defScope st) .none kV doc pm an cdv ct) ⟨us, []⟩ = pure (ps.zip us))
    (hb2 : ∀ (kV doc pm : Value) (an : Option Addr) (cdv ct : Value) (us : List Value), us.length = ps.length → bindArgs (PySem.W.fnOf x x (defArgs st) (defBody st) (defScope st) .none kV doc pm an cdv ct) ⟨[], ps.zip us⟩ = pure (ps.zip us)) : Av P w K mg base k x ps sp := by
  obtain ⟨oc, od, kV, doc, pm, an, cdv, ct, osl, rfl, lk, hcd⟩ := F.ex
  exact ⟨f, _, G, hm, F.kp, .all (hb kV doc pm an cdv ct), hb2 kV doc pm an cdv ct⟩
end DL
namespace DL
open PySem PySem.W L2 PySem.Spec PyProof.Rows
section
variable {X : Cx} {k j : Nat} {x : Str} {ps : List Str} {sp : Sp} {p pos : Pos} {e : Expr} {es : List Expr} {t : TA}
theorem pe_avL (a : Av X.prog X.w X.K X.mg X.base k x ps sp) (hr : Room j X.A) (hg : Gl X x) (hk : k ≤ j) (ha : PA X (e :: es) t) (hdb : (x == ("__debug__" : Str)) = false := by decide)
    (he : starEach (e :: es) X.env = (false, eval e X.env) :: starEach es X.env := by rfl) (hpl : (backTo pos (starEach es X.env)).any (·.1) = false := by rfl) : PE X (.Call (.Name x p) (e :: es) [] pos) (tCall sp [] E0 t) := by
  refine ⟨fun pins s σ H Q I h => ?_⟩
  obtain ⟨f, fd, F, hm, kp, hb, _⟩ := a.ex
  exact (pe_call (E := E0) F (hr.mono hk) hg hm kp hb .nil (fun _ _ _ _ _ _ _ z => z.elim) ha hdb he hpl).run pins s σ H Q I h
theorem pe_gs {v : Str} (h : ∃ t, X.mg x = some (.str v t)) (hg : Gl X x) (hd : (x == ("__debug__" : Str)) = false := by decide) : PE X (.Name x pos) (tC (.str v)) := by
  obtain ⟨t, h⟩ := h
  exact pe_glob hg h ⟨t, rfl⟩ hd
end
end DL

set_option Elab.async false
set_option linter.all false
set_option maxRecDepth 100000
set_option maxHeartbeats 4000000
/-! DL, part H: not, isinstance, sizes; enumerate and zip of lists. -/
namespace DL
open PySem PySem.W L2 PySem.Spec PyProof.Rows
section
variable {K : PySem.W.Frag} {s : Bool} {b : Bool} {ρ ρ' : En} {ω : Ow} {ta tb te tc : TE} {d d1 d2 d3 : D} {ds es : List D} {Φ : Out → Prop} {i : Int} {a : Int}
theorem ev_notT (h1 : Ev K s ta ρ ω d1) (ht : truOk d1 = true) : Ev K s (tNotT K ta) ρ ω (.bl (!truD d1)) := fun M O σ H r Q q => h1 M O σ H r _ fun v H1 s1 r1 => ⟨truD d1, (r1.mono hid_le).tru ht, q _ H1 s1 (.bl _)⟩
theorem ev_not {c : Bool} (h1 : Ev K s ta ρ ω (.bl c)) : Ev K s (tNotT K ta) ρ ω (.bl (!c)) := ev_notT h1 rfl
/-! isinstance -/
def isInt : D → Bool
  | .int _ => true | .bl _ => true | _ => false
def isBool : D → Bool
  | .bl _ => true | _ => false
def isLst : D → Bool
  | .lst _ => true | _ => false
def isTup : D → Bool
  | .tup _ => true | _ => false
def isStr : D → Bool
  | .str _ => true | _ => false
theorem ty_of (h : notRaw d = true) : ∃ n, tyD d = some n := by
  cases d <;> first | exact ⟨_, rfl⟩ | exact Bool.noConfusion h
theorem kit_int {n : String} (h : tyD d = some n) : kitB n "int" = some (isInt d) := by
  cases d <;> cases h <;> first | (show _ = some true; decide +kernel) | (show _ = some false; decide +kernel)
theorem kit_bool {n : String} (h : tyD d = some n) : kitB n "bool" = some (isBool d) := by
  cases d <;> cases h <;> first | (show _ = some true; decide +kernel) | (show _ = some false; decide +kernel)
theorem kit_list {n : String} (h : tyD d = some n) : kitB n "list" = some (isLst d) := by
  cases d <;> cases h <;> first | (show _ = some true; decide +kernel) | (show _ = some false; decide +kernel)
theorem kit_tuple {n : String} (h : tyD d = some n) : kitB n "tuple" = some (isTup d) := by
  cases d <;> cases h <;> first | (show _ = some true; decide +kernel) | (show _ = some false; decide +kernel)
theorem kit_str {n : String} (h : tyD d = some n) : kitB n "str" = some (isStr d) := by
  cases d <;> cases h <;> first | (show _ = some true; decide +kernel) | (show _ = some false; decide +kernel)
theorem rc_isInt (h : notRaw d = true) : RC K (rIsiX K) [d, .raw (.ty "int")] (.bl (isInt d)) := let ⟨_, e⟩ := ty_of h; rc_isi e (kit_int e)
theorem rc_isBool (h : notRaw d = true) : RC K (rIsiX K) [d, .raw (.ty "bool")] (.bl (isBool d)) := let ⟨_, e⟩ := ty_of h; rc_isi e (kit_bool e)
theorem rc_isLst (h : notRaw d = true) : RC K (rIsiX K) [d, .raw (.ty "list")] (.bl (isLst d)) := let ⟨_, e⟩ := ty_of h; rc_isi e (kit_list e)
theorem rc_isTup (h : notRaw d = true) : RC K (rIsiX K) [d, .raw (.ty "tuple")] (.bl (isTup d)) := let ⟨_, e⟩ := ty_of h; rc_isi e (kit_tuple e)
theorem rc_isStr (h : notRaw d = true) : RC K (rIsiX K) [d, .raw (.ty "str")] (.bl (isStr d)) := let ⟨_, e⟩ := ty_of h; rc_isi e (kit_str e)
theorem ev_isLT (hv : Ev K s te ρ ω d) (h : notRaw d = true) : Ev K s (tCB (rIsiX K) (tCons te (tCons (tTup (tCons (tC (.ty "list")) (tCons (tC (.ty "tuple")) tNil))) tNil))) ρ ω (.bl (isLst d || isTup d)) :=
  let ⟨_, e⟩ := ty_of h; ev_isi2 hv e (kit_list e) (kit_tuple e)
theorem ev_isBS (hv : Ev K s te ρ ω d) (h : notRaw d = true) : Ev K s (tCB (rIsiX K) (tCons te (tCons (tTup (tCons (tC (.ty "bool")) (tCons (tC (.ty "str")) tNil))) tNil))) ρ ω (.bl (isBool d || isStr d)) :=
  let ⟨_, e⟩ := ty_of h; ev_isi2 hv e (kit_bool e) (kit_str e)
theorem rd_eqbb {a b : Bool} : RD K (rEqX K) (.bl a) (.bl b) (.bl (a == b)) := by
  have h : RD K (rEqX K) (.bl a) (.bl b) (.bl (decide (a = b))) := rd_eqb
  rw [show decide (a = b) = (a == b) by cases a <;> cases b <;> rfl] at h
  exact h
theorem rd_nebb {a b : Bool} : RD K (rNeX K) (.bl a) (.bl b) (.bl (a != b)) := by
  have h : RD K (rNeX K) (.bl a) (.bl b) (.bl (!decide (a = b))) := rd_neb
  rw [show (!decide (a = b)) = (a != b) by cases a <;> cases b <;> rfl] at h
  exact h

/-! ### enumerate, zip of lists -/
def iEnumX (K : PySem.W.Frag) (ta : TA) : TI := iEnum K ta
theorem pi_enumerateX {X : Cx} {e : Expr} {ta : TA} {p pos tpos : Pos} {elts : List Expr} {kk : Nat} (hg : Gl X "enumerate") (hm : X.mg "enumerate" = none) (ha : PA X [e] ta) (hs : starEach [e] X.env = [(false, eval e X.env)] := by rfl) :
    PI X (.Tuple elts kk tpos) (.Call (.Name "enumerate" p) [e] [] pos) (iEnumX X.K ta) := pi_enum hg hm ha hs
def enumD (ds : List D) : List D := ds.zipIdx.map fun p => D.tup [.int (p.2 : Nat), p.1]
theorem enumD_len : (enumD ds).length = ds.length := by unfold enumD; rw [List.length_map, List.length_zipIdx]
theorem enumD_get {j : Nat} (h : ds[j]? = some d) : (enumD ds)[j]? = some (.tup [.int (j : Nat), d]) := by
  unfold enumD
  rw [List.getElem?_map, List.getElem?_zipIdx, h]
  simp
theorem ei_enum {t : TA} (h : EvA K true t ρ ω [.lst ds]) : EvI K (iEnumX K t) ρ ω (enumD ds) := fun M O σ H r R q => h M O σ H r _ fun vs H1 s1 r1 => by
  cases r1 with
  | cons r1 r2 =>
    cases r2
    cases r1 with
    | lst ha rs =>
      rename_i a vs
      have e1 := (of_hid ha).2
      refine ⟨a, vs, rfl, .inl (.inl e1), q _ _ s1 ⟨fun i Hh H' t1 t2 hi => ?_, fun i X H' x H2 t1 tr hi hy => ?_, fun Hh H' t1 t2 => ?_⟩⟩
      · have e2 := t2 _ _ (t1 _ _ ha)
        rw [enumD_len, ← rs.length] at hi
        exact ⟨vs, vs[i], .inl (.inl e2), List.getElem?_eq_getElem hi⟩
      · obtain ⟨T, y, rfl, hT, rfl, f⟩ := hy
        refine ⟨same_upd hT, fun d hd => ?_⟩
        have e2 := hid_le _ _ (t1 _ _ ha)
        rw [enumD_len] at hi
        rw [enumD_get (List.getElem?_eq_getElem hi)] at hd
        cases hd
        obtain ⟨v, h1, h2⟩ := rs.get (List.getElem?_eq_getElem hi)
        have := f vs (.inl (.inl e2))
        rw [h1] at this
        cases this
        exact .tup (hid_of (not_mem_of_new tr hT) upd_same) (.cons (.int _) (.cons ((h2.mono t1).mono (hid_same (same_upd hT))) .nil))
      · have e2 := t2 _ _ (t1 _ _ ha)
        exact ⟨vs, .inl (.inl e2), by rw [enumD_len, rs.length]; exact Nat.le_refl _⟩
def iZipX (K : PySem.W.Frag) (ta : TA) : TI := RZ.iZipA K ta
theorem pi_zipX {X : Cx} {e e2 : Expr} {ta : TA} {p pos tpos : Pos} {elts : List Expr} {kk : Nat} (hg : Gl X "zip") (hm : X.mg "zip" = none) (ha : PA X [e, e2] ta)
    (hs : starEach [e, e2] X.env = (false, eval e X.env) :: starEach [e2] X.env := by rfl) (hpl : (backTo pos (starEach [e2] X.env)).any (·.1) = false := by rfl) :
    PI X (.Tuple elts kk tpos) (.Call (.Name "zip" p) [e, e2] [] pos) (iZipX X.K ta) := RZ.pi_zipA hg hm ha hs hpl
def zipD (ds es : List D) : List D := (ds.zip es).map fun p => D.tup [p.1, p.2]
theorem zipD_len : (zipD ds es).length = min ds.length es.length := by unfold zipD; rw [List.length_map, List.length_zip]
theorem zipD_get {j : Nat} {e : D} (h : ds[j]? = some d) (h' : es[j]? = some e) : (zipD ds es)[j]? = some (.tup [d, e]) := by
  unfold zipD
  rw [List.getElem?_map, show (ds.zip es)[j]? = some (d, e) from List.getElem?_zip_eq_some.mpr ⟨h, h'⟩]
  rfl
theorem ei_zip {t : TA} (h : EvA K true t ρ ω [.lst ds, .lst es]) : EvI K (iZipX K t) ρ ω (zipD ds es) := fun M O σ H r R q => h M O σ H r _ fun vs H1 s1 r1 => by
  cases r1 with
  | cons r1 r2 =>
    cases r2 with
    | cons r2 r3 =>
      cases r3
      cases r1 with
      | lst ha rs =>
        rename_i a vs
        cases r2 with
        | lst hb rt =>
          rename_i b us
          refine ⟨a, b, vs, us, rfl, .inl ⟨.inl (.inl (of_hid ha).2), .inl (.inl (of_hid hb).2), q _ _ s1 ⟨fun i Hh H' t1 t2 hi => ?_, fun i X H' x H2 t1 tr hi hy => ?_, fun Hh H' t1 t2 => ?_⟩⟩⟩
          · have e2 := t2 _ _ (t1 _ _ ha)
            have e3 := t2 _ _ (t1 _ _ hb)
            rw [zipD_len, ← rs.length, ← rt.length] at hi
            exact ⟨vs, us, vs[i], us[i], .inl (.inl e2), .inl (.inl e3), List.getElem?_eq_getElem (by omega), List.getElem?_eq_getElem (by omega)⟩
          · obtain ⟨T, y, z, rfl, hT, rfl, f, g⟩ := hy
            refine ⟨same_upd hT, fun d hd => ?_⟩
            have e2 := hid_le _ _ (t1 _ _ ha)
            have e3 := hid_le _ _ (t1 _ _ hb)
            rw [zipD_len] at hi
            have i1 : i < ds.length := by omega
            have i2 : i < es.length := by omega
            rw [zipD_get (List.getElem?_eq_getElem i1) (List.getElem?_eq_getElem i2)] at hd
            cases hd
            obtain ⟨v, h1, h2⟩ := rs.get (List.getElem?_eq_getElem i1)
            obtain ⟨u, h3, h4⟩ := rt.get (List.getElem?_eq_getElem i2)
            have q1 := f vs (.inl (.inl e2))
            have q2 := g us (.inl (.inl e3))
            rw [h1] at q1
            rw [h3] at q2
            cases q1
            cases q2
            exact .tup (hid_of (not_mem_of_new tr hT) upd_same) (.cons ((h2.mono t1).mono (hid_same (same_upd hT))) (.cons ((h4.mono t1).mono (hid_same (same_upd hT))) .nil))
          · have e2 := t2 _ _ (t1 _ _ ha)
            have e3 := t2 _ _ (t1 _ _ hb)
            refine ⟨vs, us, .inl (.inl e2), .inl (.inl e3), ?_⟩
            rw [zipD_len, rs.length, rt.length]
            omega
theorem ei_zipT {t : TA} (h : EvA K true t ρ ω [.tup ds, .tup es]) : EvI K (iZipX K t) ρ ω (zipD ds es) := fun M O σ H r R q => h M O σ H r _ fun vs H1 s1 r1 => by
  cases r1 with
  | cons r1 r2 =>
    cases r2 with
    | cons r2 r3 =>
      cases r3
      cases r1 with
      | tup ha rs =>
        rename_i a vs
        cases r2 with
        | tup hb rt =>
          rename_i b us
          refine ⟨a, b, vs, us, rfl, .inr ⟨sameT hid_le ha, sameT hid_le hb, q _ _ s1 ⟨fun i Hh H' t1 t2 hi => ?_, fun i X H' x H2 t1 tr hi hy => ?_, fun Hh H' t1 t2 => ?_⟩⟩⟩
          · rw [zipD_len, ← rs.length, ← rt.length] at hi
            exact ⟨vs, us, vs[i], us[i], sameT t2 (t1 _ _ ha), sameT t2 (t1 _ _ hb), List.getElem?_eq_getElem (by omega), List.getElem?_eq_getElem (by omega)⟩
          · obtain ⟨T, y, z, rfl, hT, rfl, f, g⟩ := hy
            refine ⟨same_upd hT, fun d hd => ?_⟩
            rw [zipD_len] at hi
            have i1 : i < ds.length := by omega
            have i2 : i < es.length := by omega
            rw [zipD_get (List.getElem?_eq_getElem i1) (List.getElem?_eq_getElem i2)] at hd
            cases hd
            obtain ⟨v, h1, h2⟩ := rs.get (List.getElem?_eq_getElem i1)
            obtain ⟨u, h3, h4⟩ := rt.get (List.getElem?_eq_getElem i2)
            have q1 := f vs (sameT hid_le (t1 _ _ ha))
            have q2 := g us (sameT hid_le (t1 _ _ hb))
            rw [h1] at q1
            rw [h3] at q2
            cases q1
            cases q2
            exact .tup (hid_of (not_mem_of_new tr hT) upd_same) (.cons ((h2.mono t1).mono (hid_same (same_upd hT))) (.cons ((h4.mono t1).mono (hid_same (same_upd hT))) .nil))
          · refine ⟨vs, us, sameT t2 (t1 _ _ ha), sameT t2 (t1 _ _ hb), ?_⟩
            rw [zipD_len, rs.length, rt.length]
            omega
def iRevX (K : PySem.W.Frag) (te : TE) : TI := RT.iRevA K te
theorem pi_reversedX {X : Cx} {tg e : Expr} {te : TE} {p pos : Pos} (hg : Gl X "reversed") (hm : X.mg "reversed" = none) (he : PE X e te) (hs : starEach [e] X.env = (false, eval e X.env) :: starEach [] X.env := by rfl) : PI X tg (.Call (.Name "reversed" p) [e] [] pos) (iRevX X.K te) := RT.pi_revA hg hm he hs
theorem rev_get {α : Type} {xs : List α} {i : Nat} (h : i < xs.length) : xs.reverse[i]? = xs[xs.length - 1 - i]? := List.getElem?_reverse h
theorem ei_revL (h : Ev K true te ρ ω (.lst ds)) : EvI K (iRevX K te) ρ ω ds.reverse := fun M O σ H r R q => h M O σ H r _ fun v H1 s1 r1 => by
  cases r1 with
  | lst ha rs =>
    rename_i a vs
    have hl := rs.length
    refine ⟨a, vs, rfl, .inl ⟨.inl (.inl (of_hid ha).2), q _ _ s1 ⟨fun i Hh H' t1 t2 hi => ?_, fun i X H' x H2 t1 tr hi hy => ?_, fun Hh H' t1 t2 => ?_⟩⟩⟩
    · rw [List.length_reverse] at hi
      exact ⟨by omega, vs, _, .inl (.inl (t2 _ _ (t1 _ _ ha))), List.getElem?_eq_getElem (by omega)⟩
    · obtain ⟨rfl, f⟩ := hy
      rw [List.length_reverse] at hi
      refine ⟨Same.refl _, fun d hd => ?_⟩
      rw [rev_get hi] at hd
      obtain ⟨v, h1, h2⟩ := rs.get hd
      have := f vs (.inl (.inl (hid_le _ _ (t1 _ _ ha))))
      rw [hl, h1] at this
      cases this
      exact h2.mono t1
    · show vs.length ≤ ds.reverse.length
      rw [List.length_reverse]; omega
theorem ei_revT (h : Ev K true te ρ ω (.tup ds)) : EvI K (iRevX K te) ρ ω ds.reverse := fun M O σ H r R q => h M O σ H r _ fun v H1 s1 r1 => by
  cases r1 with
  | tup ha rs =>
    rename_i a vs
    have hl := rs.length
    refine ⟨a, vs, rfl, .inr ⟨sameT hid_le ha, q _ _ s1 ⟨fun i Hh H' t1 t2 hi => ?_, fun i X H' x H2 t1 tr hi hy => ?_, fun Hh H' t1 t2 => ?_⟩⟩⟩
    · rw [List.length_reverse] at hi
      exact ⟨by omega, vs, _, sameT t2 (t1 _ _ ha), List.getElem?_eq_getElem (by omega)⟩
    · obtain ⟨rfl, f⟩ := hy
      rw [List.length_reverse] at hi
      refine ⟨Same.refl _, fun d hd => ?_⟩
      rw [rev_get hi] at hd
      obtain ⟨v, h1, h2⟩ := rs.get hd
      have := f vs (sameT hid_le (t1 _ _ ha))
      rw [hl, h1] at this
      cases this
      exact h2.mono t1
    · show vs.length ≤ ds.reverse.length
      rw [List.length_reverse]; omega
end

/-! ### sizes -/
def Bd (n : Nat) (x : Int) : Prop := x.natAbs < 2 ^ n
section
variable {m n k : Nat} {a b : Int}
theorem Bd.mono (h : Bd m a) (h' : m ≤ n) : Bd n a := Nat.lt_of_lt_of_le h (Nat.pow_le_pow_right (by decide) h')
theorem Bd.mul (h : Bd m a) (h' : Bd n b) : Bd (m + n) (a * b) := wide_lt h h'
theorem Bd.add (h : Bd n a) (h' : Bd n b) : Bd (n + 1) (a + b) := by
  unfold Bd at *
  rw [Nat.pow_succ]
  omega
theorem Bd.sub (h : Bd n a) (h' : Bd n b) : Bd (n + 1) (a - b) := by
  unfold Bd at *
  rw [Nat.pow_succ]
  omega
theorem Bd.le (h : Bd n b) (h0 : 0 ≤ a) (h1 : a ≤ b) : Bd n a := wide_le h0 h1 h
theorem bd_small (h0 : -(2 ^ 30) < a) (h1 : a < 2 ^ 30) : Bd 30 a := by
  unfold Bd
  omega
theorem Bd.div (h : Bd n a) (h0 : 0 ≤ a) (hb : 0 < b) : Bd n (a / b) := h.le (Int.ediv_nonneg h0 (by omega)) (Int.ediv_le_self _ h0)
theorem Bd.ok (h : Bd m a) (h' : Bd n b) (h1 : m + n + 2 ≤ 1000000 := by decide) : MulOk2 a b := mul_w (m := m + 1) (n := n + 1) (h.mono (Nat.le_succ _)) (h'.mono (Nat.le_succ _)) (Nat.succ_pos _) (Nat.succ_pos _) (by omega)
theorem Bd.divOk (h : Bd n b) (h0 : 0 < b) (h1 : n + 1 ≤ 9000 := by decide) : DivOk b := div_w (n := n + 1) h0 (h.mono (Nat.le_succ _)) (Nat.succ_pos _) h1
theorem Bd.log (h : Bd n a) (h1 : n + 1 ≤ k) : a.natAbs.log2 < k := Nat.lt_of_lt_of_le (PySem.Flt.log2_lt_of (Nat.succ_pos n) (h.mono (Nat.le_succ _))) h1
theorem Bd.logN (h : Bd n a) (h0 : 0 ≤ a) (h1 : n + 1 ≤ k) : a.toNat.log2 < k := by
  have := h.log h1
  rwa [show a.natAbs = a.toNat by omega] at this
/-- the whole part of a root -/
def isq (a : Int) : Int := ((Float64.isqrt a.toNat : Nat) : Int)
theorem isq_spec (h : 0 ≤ a) : 0 ≤ isq a ∧ isq a * isq a ≤ a ∧ a < (isq a + 1) * (isq a + 1) := by
  have h1 := PySem.Float64.isqrt_spec a.toNat
  refine ⟨Int.natCast_nonneg _, ?_, ?_⟩
  · have := h1.1
    unfold isq
    have e : ((Float64.isqrt a.toNat * Float64.isqrt a.toNat : Nat) : Int) ≤ ((a.toNat : Nat) : Int) := Int.ofNat_le.mpr this
    rw [Int.natCast_mul] at e
    omega
  · have := h1.2
    unfold isq
    have e : ((a.toNat : Nat) : Int) < (((Float64.isqrt a.toNat + 1) * (Float64.isqrt a.toNat + 1) : Nat) : Int) := Int.ofNat_lt.mpr this
    rw [Int.natCast_mul, Int.natCast_add] at e
    have e1 : ((1 : Nat) : Int) = 1 := rfl
    rw [e1] at e
    omega
theorem rc_isq {K : PySem.W.Frag} (h : Bd n a) (h0 : 0 ≤ a) (h1 : n + 1 ≤ 9000 := by decide) : RC K rIsqrt [.int a] (.int (isq a)) := rc_isqrt h0 (h.logN h0 h1)
end
end DL

set_option Elab.async false
set_option linter.all false
set_option maxRecDepth 100000
set_option maxHeartbeats 4000000
/-! DL, part I: the script, lists that become one's own, the law's own def. -/
namespace DL
open PySem PySem.W L2 PySem.Spec PyProof.Rows
section
variable {K : PySem.W.Frag} {s : Bool} {b : Bool} {ρ ρ' : En} {ω : Ow} {ta tb te tc : TE} {d d1 d2 d3 : D} {ds es : List D} {Φ : Out → Prop} {i : Int} {a : Int}
theorem ev_slF {lo hi : Option Int} {tl th : TO} (h : Ev K s te ρ ω (.fro ds)) (hl : EvO K tl ρ ω lo) (hh : EvO K th ρ ω hi) : Ev K s (tSl (rSlX K) te tl th) ρ ω (.lst (cutD ds lo hi)) := fun M O σ H r Q q =>
  h M O σ H r _ fun v H1 s1 r1 => hl M O σ H1 (r.mono s1) _ fun H2 s2 => hh M O σ H2 ((r.mono s1).mono s2) _ fun H3 s3 => by
    have s23 := s2.trans s3
    have r3 := r1.mono (hid_same s23)
    cases r3 with
    | fro ha rs =>
      refine .inl ⟨_, _, rfl, hid_le.seq ha, fun p hp => q _ _ ((s1.trans s23).trans (same_upd hp)) (.lst (hid_of (not_mem_of_new (Xs_tr ((r.mono s1).mono s23)) hp) upd_same) ((rs.cut lo hi).mono (hid_same (same_upd hp))))⟩
theorem en_list (h : Ev K true te ρ ω (.lst ds)) : EvN K (tCB (rListX K) (tCons te tNil)) ρ ω (.w (.l ds)) := fun M O σ H r Q q => h M O σ H r _ fun v H1 s1 r1 => by
  cases r1 with
  | lst ha rs => exact ⟨_, _, rfl, .inl (.inl (.inl (of_hid ha).2)), fun l hl => q _ _ (s1.trans (same_upd hl)) ⟨l, H1, rfl, s1, same_upd hl, hl, l_ne, _, upd_same, rs⟩⟩
theorem en_orT {xs ys : List D} (h1 : EvN K ta ρ ω (.w (.l xs))) (h2 : xs = [] → EvN K tb ρ ω (.w (.l ys))) : EvN K (tOrT K ta tb) ρ ω (.w (.l (if xs.isEmpty = true then ys else xs))) := fun M O σ H r Q q => h1 M O σ H r _ fun v H1 s1 n1 => by
  obtain ⟨p, H0, rfl, t1, t2, hp, hg, ho⟩ := n1
  obtain ⟨vs, hv, rs⟩ := ho
  refine ⟨!vs.isEmpty, .inl ⟨vs, .inl (.inl hv), rfl⟩, ?_⟩
  rw [rs.empty]
  cases e : xs.isEmpty with
  | true =>
    rw [e, if_pos rfl] at q
    have e' : xs = [] := List.isEmpty_iff.mp e
    refine iteF (h2 e' M O σ H1 (r.mono s1) Q fun v2 H2 s2 n2 => q v2 H2 (s1.trans s2) ?_)
    obtain ⟨p2, H3, e3, u1, u2, g1, g2, g3⟩ := n2
    exact ⟨p2, H3, e3, s1.trans u1, u2, g1, g2, g3⟩
  | false =>
    rw [e, if_neg Bool.false_ne_true] at q
    exact iteT (q _ H1 s1 ⟨p, H0, rfl, t1, t2, hp, hg, vs, hv, rs⟩)
end

/-! ### the law's own def -/
/-- the drawing box: three numbers; at most m draws so far -/
def Box (m : Nat) (xs : List D) : Prop := ∃ a b c : Int, xs = [.int a, .int b, .int c] ∧ 0 ≤ a ∧ 0 ≤ b ∧ b < 2 ^ 62 ∧ 0 ≤ c ∧ c ≤ m
theorem Box.mono {m n : Nat} {xs : List D} (h : Box m xs) (hn : m ≤ n) : Box n xs := by
  obtain ⟨a, b, c, e, h1, h2, h3, h4, h5⟩ := h
  exact ⟨a, b, c, e, h1, h2, h3, h4, by omega⟩
/-- k draws further on -/
def Nx (k : Nat) (xs xs' : List D) : Prop := ∀ m, Box m xs → Box (m + k) xs'
theorem Nx.trans {j k : Nat} {xs ys zs : List D} (h : Nx j xs ys) (h' : Nx k ys zs) : Nx (j + k) xs zs := fun m hm => by
  rw [← Nat.add_assoc]
  exact h' _ (h m hm)
theorem Nx.mono {j k : Nat} {xs ys : List D} (h : Nx j xs ys) (hk : j ≤ k) : Nx k xs ys := fun m hm => (h m hm).mono (by omega)
def spLaw (K : PySem.W.Frag) : Sp := fun vs H Q _ => ∃ (a : Addr) (ns : List Int), vs = [.ref a] ∧ SqL K H a (ns.map V.int) ∧ ns.length ≤ 63 ∧ ∀ H', Q (.bl true) H'
def finL : Out → Prop
  | .rt d _ => d = .bl true
  | _ => False
theorem ok_law {P : Program} {w : World} {K : PySem.W.Frag} {mg : Str → Option Value} {base : Heap} {x qual : Str} {st : Stmt} {f : Addr} {fd : FuncData} {N ps : List Str} {k : Nat} {tb : TE} {u : TS} (F : Fun K x qual st f fd) (S : FnScope N ps (defScope st)) (hp : ps.length = 1) (hN : 2 ≤ N.length)
    (ht : ∀ (cdv : Value) (A : Around) (outer : List Env) (s : Shared) (H : Hp) (E : XK), Room k (A.deeper (envOfC qual (defScope st) s.heap.objs.size f cdv)) → PSs (cxOf CX0 P w K mg base N qual (defScope st) f cdv A outer s H E).nox (defBody st) (tSeq (tAsg tb (gName 1)) u))
    (hb : ∀ ns : List Int, ns.length ≤ 63 → WE K tb (args N.length [.fro (ns.map .int)]) [] fun d _ => ∃ xs, Box 0 xs ∧ d = .lst xs)
    (hw : ∀ xs, Box 0 xs → WS K false u (none :: some (.ow 0) :: List.replicate (N.length - 2) none) [.l xs] finL) : FnOk P w K mg base CX0 (k + 1) f fd ps (spLaw K) := by
  refine F.ok S (fun vs H Q E h => ?_) (fun cdv A outer s H vs Q E hr h => ?_)
  · obtain ⟨a, ns, rfl, _⟩ := h
    exact hp.symm
  · obtain ⟨a, ns, rfl, hS, hl, q⟩ := h
    have e0 : hid [] H = H := by funext b; unfold hid; rw [if_neg (by simp)]
    have sr := sr_start (K := K) (M := []) (H := H) (N := N) (vs := [.ref a]) (ds := [.fro (ns.map .int)]) (fun m hm => by cases hm) (by rw [e0]; exact .cons (.fro hS (Rps.ofInts ns)) .nil)
    refine ⟨_, ht cdv A outer s H E hr, ?_⟩
    refine hb ns hl [] [] _ H sr _ fun v H1 ω1 d r1 k1 rv ⟨xs, hx, e⟩ => ?_
    subst e
    have hx0 : xo [] ([] : OA) = [] := rfl
    rw [hx0] at rv
    cases rv with
    | lst ha rs =>
      rename_i p vs
      have ep := (of_hid ha).2
      have hlen := r1.len
      obtain ⟨n0, n1, N', rfl⟩ : ∃ n0 n1 N', N = n0 :: n1 :: N' := by
        match N, hN with
        | n0 :: n1 :: N', _ => exact ⟨n0, n1, N', rfl⟩
      have sc : Rps K (hid (xo [] [some p]) H1) vs xs := by
        obtain ⟨z1, z2, z3, e, _⟩ := hx
        subst e
        cases rs with
        | cons a1 b1 =>
          cases b1 with
          | cons a2 b2 =>
            cases b2 with
            | cons a3 b3 =>
              cases b3
              exact .cons (a1.scal rfl) (.cons (a2.scal rfl) (.cons (a3.scal rfl) .nil))
      have sr2 : SR K [] [some p] [.l xs] (none :: some (.ow 0) :: List.replicate N'.length none) ((L2.start (n0 :: n1 :: N') [.ref a]).set 1 (some (.ref p))) H1 := by
        refine ⟨fun m hm => (by cases hm), fun j k c h1 h2 => ?_, fun c _ h => (by cases h), rfl, fun j c h => ?_, fun j w h hg => ?_, ?_, fun j d h => ?_, fun j k h => ?_⟩
        · have cs : ∀ {j : Nat}, [some p][j]? = some (some c) → j = 0 := fun {j} h => by
            have := (List.getElem?_eq_some_iff.mp h).1
            simp at this
            exact this
          rw [cs h1, cs h2]
        · cases j with
          | zero =>
            have e : p = c := by simpa using h
            subst e
            exact ⟨_, rfl, l_ne, vs, ep, sc⟩
          | succ j => simp at h
        · cases j with
          | zero => exact ⟨p, rfl⟩
          | succ j => simp at h
        · simp [L2.start]
        · match j, h with
          | 0, h => simp at h
          | 1, h => simp at h
          | j + 2, h =>
            have h' : (List.replicate N'.length (none : Option Ent))[j]? = some (some (.sh d)) := by simpa using h
            rw [List.getElem?_replicate] at h'
            split at h' <;> cases h'
        · match j, h with
          | 0, h => simp at h
          | 1, h =>
            have e : k = 0 := by
              have h' : (some (some (Ent.ow 0))) = some (some (Ent.ow k)) := by simpa using h
              cases h'
              rfl
            subst e
            exact ⟨p, rfl, by simp [L2.start]⟩
          | j + 2, h =>
            have h' : (List.replicate N'.length (none : Option Ent))[j]? = some (some (.ow k)) := by simpa using h
            rw [List.getElem?_replicate] at h'
            split at h' <;> cases h'
      have hw' := hw xs hx
      rw [show (n0 :: n1 :: N').length - 2 = N'.length from by simp] at hw'
      refine hw' [] [some p] _ H1 _ sr2 ⟨fun O' σ' H' ρ' ω' r' k' z => z.elim, fun O' σ' H' ρ' ω' v d r' k' rp z => ?_, fun O' σ' H' ρ' ω' r' k' z => z.elim, fun O' σ' H' ρ' ω' r' k' z => z.elim⟩
      have z' : d = .bl true := z
      subst z'
      cases rp
      exact q H'
end DL
namespace DL
open PySem PySem.W L2 PySem.Spec PyProof.Rows
section
variable {K : PySem.W.Frag} {s : Bool} {b : Bool} {ρ ρ' : En} {ω : Ow} {ta tb te tc : TE} {d d1 d2 d3 : D} {ds es : List D} {Φ : Out → Prop} {i : Int} {a : Int}
/-- an own list, looked at as data -/
theorem ev_varO {j k : Nat} (e : ρ[j]? = some (some (.ow k))) (ew : ω[k]? = some (.l ds)) : Ev K false (tVar j) ρ ω (.lst ds) := fun M O σ H r Q q => by
  obtain ⟨a, vs, h1, h2, h3, h4⟩ := ev_own e ew trivial M O σ H r
  have na : a ∉ M := r.dis a (List.mem_of_getElem? h1)
  exact ⟨.ref a, h2, q _ H (Same.refl H) (.lst (hid_of na h3) (h4.mono (hid_sub fun b hb => mem_xo.mpr (.inl hb))))⟩
theorem cut_ints {ns : List Int} (lo hi : Option Int) : ∃ ms : List Int, cutD (ns.map .int) lo hi = ms.map .int ∧ ms.length ≤ ns.length := by
  unfold cutD
  refine ⟨(ns.drop (HT.sIx (ns.map D.int).length 0 lo)).take (HT.sIx (ns.map D.int).length (ns.map D.int).length hi - HT.sIx (ns.map D.int).length 0 lo), by rw [List.map_take, List.map_drop], ?_⟩
  rw [List.length_take, List.length_drop]
  omega
/-- any number of draws more -/
def Sm (xs ys : List D) : Prop := ∃ k, Nx k xs ys
end
/-- the same, whatever kind -/
noncomputable def sameD (x y : D) : Bool := @decide (x = y) (Classical.propDecidable _)
theorem sameD_self (x : D) : sameD x x = true := @decide_eq_true (x = x) (Classical.propDecidable _) rfl
theorem sameD_of {x y : D} (h : x = y) : sameD x y = true := h ▸ sameD_self x
theorem sameD_no {x y : D} (h : x ≠ y) : sameD x y = false := @decide_eq_false (x = y) (Classical.propDecidable _) h
theorem sameD_dec {x y : D} {c : Bool} (h : c = true ↔ x = y) : sameD x y = c := by
  cases c with
  | true => exact sameD_of (h.mp rfl)
  | false => exact sameD_no fun e => Bool.noConfusion (h.mpr e)
/-- data of so many storeys, its lists not too long -/
def okD : Nat → D → Prop
  | 0, .non => True | 0, .bl _ => True | 0, .int _ => True | 0, .str _ => True | 0, _ => False
  | _ + 1, .non => True | _ + 1, .bl _ => True | _ + 1, .int _ => True | _ + 1, .str _ => True
  | n + 1, .lst xs => xs.length ≤ 1000000 ∧ ∀ x ∈ xs, okD n x
  | n + 1, .tup xs => xs.length ≤ 1000000 ∧ ∀ x ∈ xs, okD n x
  | _ + 1, _ => False
theorem ok_int {n : Nat} {i : Int} : okD n (.int i) := by cases n <;> trivial
theorem ok_bl {n : Nat} {i : Bool} : okD n (.bl i) := by cases n <;> trivial
theorem ok_str {n : Nat} {i : Str} : okD n (.str i) := by cases n <;> trivial
theorem ok_non {n : Nat} : okD n .non := by cases n <;> trivial
def okDs (n : Nat) : List D → Prop
  | [] => True
  | x :: xs => okD n x ∧ okDs n xs
theorem okDs_mem {n : Nat} {x : D} : ∀ {xs : List D}, okDs n xs → x ∈ xs → okD n x
  | _ :: _, h, .head _ => h.1
  | _ :: _, h, .tail _ m => okDs_mem h.2 m
theorem ok_lst {n : Nat} {xs : List D} (h : okDs n xs) (hl : xs.length ≤ 1000000 := by exact Nat.le_of_ble_eq_true rfl) : okD (n + 1) (.lst xs) := ⟨hl, fun _ hx => okDs_mem h hx⟩
theorem ok_tup {n : Nat} {xs : List D} (h : okDs n xs) (hl : xs.length ≤ 1000000 := by exact Nat.le_of_ble_eq_true rfl) : okD (n + 1) (.tup xs) := ⟨hl, fun _ hx => okDs_mem h hx⟩
theorem arePy_mem {x : D} : ∀ {xs : List D}, arePy xs = true → x ∈ xs → isPy x = true
  | _ :: _, h, .head _ => (Bool.and_eq_true_iff.mp h).1
  | _ :: _, h, .tail _ m => arePy_mem (Bool.and_eq_true_iff.mp h).2 m
theorem arePy_of {xs : List D} (h : ∀ x ∈ xs, isPy x = true) : arePy xs = true := by
  induction xs with
  | nil => rfl
  | cons x xs ih => exact Bool.and_eq_true_iff.mpr ⟨h x List.mem_cons_self, ih fun y hy => h y (List.mem_cons_of_mem _ hy)⟩
theorem okD_py : ∀ (n : Nat) {y : D}, okD n y → isPy y = true
  | 0, .non, _ => rfl | 0, .bl _, _ => rfl | 0, .int _, _ => rfl | 0, .str _, _ => rfl
  | _ + 1, .non, _ => rfl | _ + 1, .bl _, _ => rfl | _ + 1, .int _, _ => rfl | _ + 1, .str _, _ => rfl
  | n + 1, .lst xs, h => arePy_of fun x hx => okD_py n (h.2 x hx)
  | n + 1, .tup xs, h => arePy_of fun x hx => okD_py n (h.2 x hx)
theorem isPy_raw {x : D} (h : isPy x = true) : notRaw x = true := by
  cases x <;> first | rfl | exact h
/-- lists are the same if they are as long and the same item by item -/
theorem zip_same : ∀ {xs ys : List D}, xs.length = ys.length → ((xs.zip ys).map fun p => sameD p.1 p.2).all id = sameD (.lst xs) (.lst ys)
  | [], [], _ => (sameD_self _).symm
  | x :: xs, y :: ys, h => by
    rw [List.zip_cons_cons, List.map_cons, List.all_cons, zip_same (by simpa using h)]
    show (sameD x y && _) = _
    refine (sameD_dec ?_).symm
    rw [Bool.and_eq_true]
    constructor
    · rintro ⟨h1, h2⟩
      have e1 : x = y := @of_decide_eq_true _ (Classical.propDecidable _) h1
      have e2 : D.lst xs = .lst ys := @of_decide_eq_true _ (Classical.propDecidable _) h2
      cases e2
      rw [e1]
    · intro e
      cases e
      exact ⟨sameD_self _, sameD_self _⟩
  | [], _ :: _, h => by simp at h
  | _ :: _, [], h => by simp at h
theorem lst_tup (xs ys : List D) : sameD (.lst xs) (.lst ys) = sameD (.tup xs) (.tup ys) := by
  by_cases h : xs = ys
  · rw [h, sameD_self, sameD_self]
  · rw [sameD_no (fun e => h (D.lst.inj e)), sameD_no (fun e => h (D.tup.inj e))]
/-- a def that nobody calls -/
theorem av_void {P : Program} {w : World} {K : PySem.W.Frag} {mg : Str → Option Value} {base : Heap} {x : Str} {ps : List Str} {st : Stmt} {f : Addr} {fd : FuncData} (F : L2.Fun K x x st f fd) (hm : mg x = some (.ref f))
    (hb : ∀ (kV doc pm : Value) (an : Option Addr) (cdv ct : Value) (us : List Value), us.length = ps.length → bindArgs (PySem.W.fnOf x x (L2.defArgs st) (L2.defBody st) (L2.defScope st) .none kV doc pm an cdv ct) ⟨us, []⟩ = pure (ps.zip us))
    (hb2 : ∀ (kV doc pm : Value) (an : Option Addr) (cdv ct : Value) (us : List Value), us.length = ps.length → bindArgs (PySem.W.fnOf x x (L2.defArgs st) (L2.defBody st) (L2.defScope st) .none kV doc pm an cdv ct) ⟨[], ps.zip us⟩ = pure (ps.zip us)) : Av P w K mg base 0 x ps (spR K fun _ _ => False) :=
  av_mk F ⟨fun _ _ _ _ ⟨_, _, ⟨_, h⟩, _⟩ => h.elim, fun _ _ _ _ _ _ _ _ _ _ _ _ _ ⟨_, _, ⟨_, h⟩, _⟩ => h.elim⟩ hm hb hb2
theorem Av.mono {P : Program} {w : World} {K : PySem.W.Frag} {mg : Str → Option Value} {base : Heap} {j k : Nat} {x : Str} {ps : List Str} {sp : L2.Sp} (a : Av P w K mg base j x ps sp) (h : j ≤ k) : Av P w K mg base k x ps sp := by
  obtain ⟨f, fd, F, r⟩ := a.ex
  exact ⟨f, fd, F.mono h, r⟩
end DL

set_option Elab.async false
set_option linter.all false
set_option maxRecDepth 100000
set_option maxHeartbeats 4000000
/-! DL, part J: figures: how long a number's text is, a one with noughts behind it. -/
namespace DL
open PySem PySem.W L2 PySem.Spec PyProof.Rows
theorem digits_lt : ∀ l : List Nat, (∀ c ∈ l, 48 ≤ c ∧ c ≤ 57) → ∀ a : Nat, l.foldl (fun acc c => acc * 10 + (c - 48)) a < (a + 1) * 10 ^ l.length
  | [], _, a => by simp
  | c :: l, h, a => by
    have ih := digits_lt l (fun x hx => h x (List.mem_cons_of_mem _ hx)) (a * 10 + (c - 48))
    have hc := h c List.mem_cons_self
    rw [List.foldl_cons, List.length_cons, Nat.pow_succ]
    refine Nat.lt_of_lt_of_le ih ?_
    rw [Nat.mul_comm (10 ^ l.length) 10, ← Nat.mul_assoc]
    exact Nat.mul_le_mul_right _ (by omega)
theorem numL_bound (n : Nat) : n < 10 ^ (TL.numL n).length := by
  have h := digits_lt (TL.numL n) (fun c hc => TL.numL_digits n c hc) 0
  have e : (TL.numL n).foldl (fun acc c => acc * 10 + (c - 48)) 0 = n := TL.numL_val n
  rw [e] at h
  omega
theorem noughts_val (k : Nat) : ∀ a : Nat, (List.replicate k 48).foldl (fun acc c => acc * 10 + (c - 48)) a = a * 10 ^ k := by
  induction k with
  | zero => intro a; simp
  | succ k ih =>
    intro a
    rw [List.replicate_succ, List.foldl_cons, ih, Nat.pow_succ, Nat.mul_comm (10 ^ k) 10, ← Nat.mul_assoc]
    rfl
theorem foldl_app (z : Array Nat) : ∀ (k : Nat) (acc : Array Nat), ((List.replicate k z).foldl (· ++ ·) acc).toList = acc.toList ++ (List.replicate k z.toList).flatten
  | 0, acc => by simp
  | k + 1, acc => by
    rw [List.replicate_succ, List.foldl_cons, foldl_app z k, List.replicate_succ, List.flatten_cons, Array.toList_append, List.append_assoc]
theorem mul_tl (x : Str) (n : Nat) : (Txt.mul x (n : Int)).cps.toList = (List.replicate n x.cps.toList).flatten := by
  unfold Txt.mul
  by_cases h0 : n = 0
  · subst h0
    rw [if_pos (by decide)]
    rfl
  · rw [if_neg (by omega)]
    by_cases h1 : ((n : Int) == 1 || x.length == 0) = true
    · rw [if_pos h1]
      rw [Bool.or_eq_true] at h1
      rcases h1 with h1 | h1
      · have : n = 1 := by
          have := eq_of_beq h1
          omega
        subst this
        simp
      · have hx : x.cps.toList = [] := by
          have : x.cps.size = 0 := eq_of_beq h1
          exact List.eq_nil_of_length_eq_zero (by simpa using this)
        rw [hx]
        have : ∀ k, (List.replicate k ([] : List Nat)).flatten = [] := fun k => by
          induction k with
          | zero => rfl
          | succ k ih => rw [List.replicate_succ, List.flatten_cons, ih]; rfl
        rw [this]
    · rw [if_neg h1]
      show ((List.replicate (n : Int).toNat x.cps).foldl (· ++ ·) #[]).toList = _
      rw [foldl_app, Int.toNat_natCast]
      rfl
theorem flat_one (k c : Nat) : (List.replicate k [c]).flatten = List.replicate k c := by
  induction k with
  | zero => rfl
  | succ k ih => rw [List.replicate_succ, List.flatten_cons, ih, List.replicate_succ]; rfl
theorem app_tl (x y : Str) : (x ++ y).cps.toList = x.cps.toList ++ y.cps.toList := by
  show (x.cps ++ y.cps).toList = _
  rw [Array.toList_append]
theorem one_noughts (k : Nat) (hk : k ≤ 600) : PySem.intText? ((("1" : Str) ++ Txt.mul ("0" : Str) (k : Int))) = some ((10 : Int) ^ k) ∧ ((("1" : Str) ++ Txt.mul ("0" : Str) (k : Int))).length ≤ 640 := by
  have e : ((("1" : Str) ++ Txt.mul ("0" : Str) (k : Int))).cps.toList = 49 :: List.replicate k 48 := by
    rw [app_tl, mul_tl]
    show [49] ++ (List.replicate k [48]).flatten = _
    rw [flat_one]
    rfl
  have hl : ((("1" : Str) ++ Txt.mul ("0" : Str) (k : Int))).length = k + 1 := by
    show (((("1" : Str) ++ Txt.mul ("0" : Str) (k : Int))).cps).size = k + 1
    rw [← Array.length_toList, e]
    simp
  refine ⟨?_, by omega⟩
  have es : (("1" : Str) ++ Txt.mul ("0" : Str) (k : Int)) = SX.S (49 :: List.replicate k 48) := TL.ext_tl e
  rw [es, SX.int_S (by
    rw [List.all_eq_true]
    intro c hc
    rcases List.mem_cons.mp hc with h | h
    · subst h; decide
    · rw [List.eq_of_mem_replicate h]; decide) (List.cons_ne_nil _ _) (by simp; omega)]
  unfold PySem.NumText.digitsVal
  rw [List.foldl_cons, noughts_val]
  have : (((0 * 10 + (49 - 48)) * 10 ^ k : Nat) : Int) = (10 : Int) ^ k := by
    rw [show 0 * 10 + (49 - 48) = 1 by decide, Nat.one_mul, Int.natCast_pow]
    rfl
  rw [this]
/-- the length of a number's text: more noughts than the number -/
theorem text_len (n : Nat) : (((toString ((n : Nat) : Int)) : Str)).length = (TL.numL n).length := by
  show (Str.ofString (toString ((n : Nat) : Int))).length = _
  rw [SX.num_S, SX.S_len]
end DL

set_option Elab.async false
set_option linter.all false
set_option maxRecDepth 100000
set_option maxHeartbeats 4000000
/-! DL, part K: own errors: raise X(), several clauses with «as», calls of a door that may let an error out. -/
namespace DL
open PySem PySem.W L2 PySem.Spec PyProof.Rows
/-- one clause: its class, the slot of its name, what its suite is read as -/
abbrev Clause := Value × Nat × (Addr → Value → Option Addr → TS)
/-- the ends of a suite whose name goes out of use -/
def outOf (i : Nat) (D : Ends) : Ends := { nx := fun τ G => D.nx (τ.set i none) G, rt := D.rt, bk := fun τ G => D.bk (τ.set i none) G, ct := fun τ G => D.ct (τ.set i none) G }
def wClauses (K : PySem.W.Frag) (W0 : WX) (D : Ends) : List Clause → WX
  | [] => W0
  | (c, i, ts) :: l => fun cls d τ G => ∃ b, PySem.W.exmOne K cls c = some b ∧ (b = true → ∀ a, G a = none → ts a cls d (outOf i D) (τ.set i (some (.ref a))) G) ∧ (b = false → wClauses K W0 D l cls d τ G)
inductive ClausesOk (X : Cx) : List ExceptHandler → List Clause → Prop
  | nil : ClausesOk X [] []
  | cons {x n : Str} {c : Value} {i : Nat} {ts : Addr → Value → Option Addr → TS} {st : Stmt} {sts : List Stmt} {pa pb : Pos} {hs : List ExceptHandler} {l : List Clause} (nm : Names X x c) (at_ : X.N[i]? = some n) (lo : X.env.kindOf n = some .local)
      (su : ∀ (a : Addr) (oe : Obj) (cls : Value) (d : Option Addr) (pn : List (Addr × Obj)), Zc cls d oe → (∃ vs, oe.data = .fields vs) → PSs (X.suite a ((a, oe) :: pn)) (st :: sts) (ts a cls d)) (more : ClausesOk X hs l) :
      ClausesOk X (.ExceptHandler (some (.Name x pa)) (some n) (st :: sts) pb :: hs) ((c, i, ts) :: l)
section
variable {X : Cx} {body : List Stmt} {hd0 : ExceptHandler} {hds : List ExceptHandler} {l : List Clause} {pos : Pos} {tb : WX → TS} {W0 : WX}
theorem ps_clauses (e1 : X.stack = X.env :: X.outer) (e2 : X.env.frame = some X.env.locals) (nd : X.N.Nodup) (tk : Takes X W0)
    (hb : ∀ (V : WX) (pn : List (Addr × Obj)) (xe : Value → Shared → Prop), Takes (X.tr pn xe) V → PassesOwn (model X.prog X.w) X.A X.env xe → PSs (X.tr pn xe) body (tb V))
    (ok : ClausesOk X (hd0 :: hds) l) : PS X (.Try body (hd0 :: hds) [] [] pos) (fun D τ G => tb (wClauses X.K W0 D l) D τ G) := by
  constructor
  intro pins s τ G D I start
  have fine := I.ok
  have fr : X.A.frames = some (X.env :: X.outer) := by
    rw [fine.frames]
    exact congrArg some e1
  refine wpAny_Try_except (wpAny_mono ((hb (wClauses X.K W0 D l) (X.pn ++ pins)
    (fun e s₁ => wpAny (model X.prog X.w) X.A (noteFrame e X.env) (fun _ s₂ => wpAny (model X.prog X.w) X.A (setFlight e none)
      (fun _ s₃ => wpAny (model X.prog X.w) X.A (handleBy e X.env (hd0 :: hds)) (SP X pins D) X.xe s₃) X.xe s₂) X.xe s₁)
    (fun u z xx => ?caught) PassesOwn.looking).run [] s τ G D (I.toTry _) start) (fun f z sp => ?through) (fun e z he => he))
  case through =>
    cases f with
    | next => exact let ⟨τ', G', J, q⟩ := sp; wpAny_execs_nil ⟨τ', G', J.ofTry fine, q⟩
    | brk => exact let ⟨τ', G', J, q⟩ := sp; ⟨τ', G', J.ofTry fine, q⟩
    | cont => exact let ⟨τ', G', J, q⟩ := sp; ⟨τ', G', J.ofTry fine, q⟩
    | ret u => exact let ⟨v, τ', G', J, r, q⟩ := sp; ⟨v, τ', G', J.ofTry fine, r, q⟩
  case caught =>
    obtain ⟨a, B, z0, pins', τ', G', cls, d, rfl, J', nb, up, sky, na, os, ag, w⟩ := xx
    have J : Inv X pins τ' G' z0 := J'.ofTry fine
    rw [show (X.tr (X.pn ++ pins) _).stack = X.env :: X.outer from e1] at sky
    show wpAny (model X.prog X.w) X.A (noteFrame (.ref a) X.env) _ _ _
    refine Sky.land Zc.steady fr e2 sky fun g3 fl3 up3 => ?_
    have J3 : Inv X pins τ' G' { z with heap := g3 } := J.landed nb fl3.1 (up.trans up3) os ag
    obtain ⟨oe3, vs3, he3, hz3, hd3⟩ := fl3.there
    have off : a ∉ frs (X.env :: X.outer) := fun hm => by
      obtain ⟨_, o', e', hnf⟩ := fl3.2.2.1.mem hm
      rw [he3] at e'
      cases e'
      exact hnf _ hd3
    have offL : a ≠ X.env.locals := fun q => off (List.mem_filterMap.mpr ⟨X.env, List.mem_cons_self, by rw [e2, q]⟩)
    have offF : a ∉ X.fs := fun hm => by
      obtain ⟨e, he, q⟩ := List.mem_filterMap.mp hm
      exact off (List.mem_filterMap.mpr ⟨e, List.mem_cons_of_mem _ he, q⟩)
    have S3 := J3.suite he3 hd3 na offL offF
    have go : ∀ {hs' : List ExceptHandler} {l' : List Clause}, ClausesOk X hs' l' → wClauses X.K W0 D l' cls d τ' G' → wpAny (model X.prog X.w) X.A (handleBy (.ref a) X.env hs') (SP X pins D) X.xe { z with heap := g3 } := by
      intro hs' l' ck
      induction ck with
      | nil =>
        intro w
        refine wpAny_handleBy_nil ?_
        obtain ⟨_, _, _, oe, vs, T, oT, ts', he, hz, hd, h1, hr⟩ := id fl3
        unfold PySem.passOn
        refine wpAny_bind (wpAny_field he hd h1 ?_)
        rw [if_neg (show ¬ ((Value.ref T == Value.none) = true) by simp)]
        have fin : wpAny (model X.prog X.w) X.A (setFlight (.ref a) X.env.frame) (fun _ y => wpAny (model X.prog X.w) X.A (throw (.ref a) : Sem Flow) (SP X pins D) X.xe y) X.xe { z with heap := g3 } := by
          rw [e2]
          refine HandSPX.setFlight_upZ fl3 fun g4 hh4 up4 => wpAny_throw (tk _ _ ⟨a, B, z0, pins, τ', G', cls, d, rfl, J, nb, (up.trans up3).trans up4, .inr (.inr ?_), na, os, ag, w⟩)
          rw [e1]
          exact hh4
        first
          | exact wpAny_bind (wpAny_pure (wpAny_bind fin))
          | exact wpAny_bind fin
      | @cons x n c i ts st sts pa pb hs2 l2 nm at_ lo su more ih =>
        rintro ⟨b, hb1, yes, no⟩
        have loc : Loc X.env.scope n := .inl lo
        refine wpAny_handleBy_cons (codeAny_handlers_test ?_) (by intro q; cases q)
        have LT : PySem.W.Looks (model X.prog X.w) g3 (typeOf (.ref a)) cls := fun A Q E s k q => wpAny_typeOf_ref (k _ _ he3) (by rw [hz3.1]; exact q)
        have LM := PySem.W.exm_one (M := model X.prog X.w) (J3.kIn) LT hb1
        have ask : ∀ {Q E : Value → Shared → Prop}, Q c { z with heap := g3 } → wpAny (model X.prog X.w) (X.A.mark (some (.ref a))) (eval (.Name x pa) X.env) Q E { z with heap := g3 } := fun {Q E} q => by
          obtain ⟨hg, hdb, hm | ⟨hm, hv, hn⟩⟩ := nm
          · exact ld_glob (X := X.suite a ((a, oe3) :: (X.pn ++ pins))) S3 hg hm q hdb
          · exact ld_blt (X := X.suite a ((a, oe3) :: (X.pn ++ pins))) S3 hg hm hv q hn hdb
        refine ask (LM.here ?_)
        cases b with
        | false =>
          show wpAny _ X.A (handleBy (.ref a) X.env hs2) _ _ _
          exact ih (no rfl)
        | true =>
          refine codeAny_handlers_suite_as (HandSPX.lands_againZ fl3 fun g4 fl4 up4 => ?_)
          have J4 : Inv X pins τ' G' { z with heap := g4 } := J.landed nb fl4.1 ((up.trans up3).trans up4) os ag
          obtain ⟨oe4, vs4, he4, hz4, hd4⟩ := fl4.there
          have S4 := J4.suite he4 hd4 na offL offF
          refine store_ok (X := X.suite a ((a, oe4) :: (X.pn ++ pins))) (v := .ref a) S4 nd at_ loc rfl (fun y S5 => ?_) (.inr lo)
          refine wpAny_mono ((su a oe4 cls d (X.pn ++ pins) hz4 ⟨_, hd4⟩).run [] y _ G' _ S5 (yes rfl a na)) (fun f y6 sp => ?_) (fun _ _ q => False.elim q)
          have last : ∀ {τ6 : L2.St} {G6 : Hp} {Q : Shared → Prop}, Inv (X.suite a ((a, oe4) :: (X.pn ++ pins))) [] τ6 G6 y6 → (∀ y7, Inv X pins (τ6.set i none) G6 y7 → Q y7) →
              wpAny (model X.prog X.w) X.A (do bindName X.env n .none; unbindBehindTheSuite X.env n pb) (fun _ y7 => Q y7) X.xe y6 := fun {τ6 G6 Q} S6 hq => gone_ok (S6.unsuite fine) nd at_ lo hq
          cases f with
          | next => exact let ⟨τ6, G6, S6, q6⟩ := sp; last S6 fun y7 J7 => ⟨_, _, J7, q6⟩
          | brk => exact let ⟨τ6, G6, S6, q6⟩ := sp; last S6 fun y7 J7 => ⟨_, _, J7, q6⟩
          | cont => exact let ⟨τ6, G6, S6, q6⟩ := sp; last S6 fun y7 J7 => ⟨_, _, J7, q6⟩
          | ret u => exact let ⟨v6, τ6, G6, S6, r6, q6⟩ := sp; last S6 fun y7 J7 => ⟨_, _, _, J7, r6, q6⟩
    exact go ok w
end
/-- X() of an own class -/
theorem pmk_void {X : Cx} {C : Addr} {bmB : List Value} {B newId initId : String} {x : Str} {p pos : Pos} (F : ExcBaseFacts B newId initId bmB) (q : PySem.W.excIn X.K C bmB newId = true) (gC : X.mg x = some (.ref C)) (kC : PySem.W.keepIn X.K (.ref C) = true) (r : Raises X (.ref C)) (hg : Gl X x)
    (hdb : (x == ("__debug__" : Str)) = false := by decide) : PMk X (.Call (.Name x p) [] [] pos) (fun _ H Q => Q (.ref C) none H) := fun pins s σ H Q I h => by
  refine wpAny_Call_Name_kw (ld_glob I hg gC ?_ hdb)
  refine PySem.W.callWith_K0 I.kIn kC ?_
  obtain ⟨bm, N, nm, qn, bs, hdct, sn, sub, ab, col, dd, k0, k1, k2, k3, k5, mN, hC, hN, hni, T⟩ := exc_obj I.kIn q
  exact wpAny_call_exc_subT F T hC hN hni (fun h' e hm => mk_of I hm r h (I.hok.gone hm.new)) (by show 0 ≤ sizeLine; exact Nat.zero_le _)
/-- a local name that holds one of several defs, which may let an error out -/
structure Holds2 (P : Program) (w : World) (K : PySem.W.Frag) (mg : Str → Option Value) (base : Heap) (k : Nat) (f : Addr) (sp : Sp) : Prop where
  ex : ∃ (fd : FuncData) (ps : List Str), FnOk P w K mg base (L2.CX P w) k f fd ps sp ∧ PySem.W.keepIn K (.ref f) = true ∧ Binds K fd ps []
def tDoor (i : Nat) (S : Addr → Option Sp) (E : XK) (t : TA) : TE := fun σ H Q => ∃ f sp, σ[i]? = some (some (.ref f)) ∧ S f = some sp ∧ t σ H fun vs H1 => sp vs H1 Q E
theorem pe_door {X : Cx} {k i : Nat} {x : Str} {p pos : Pos} {e : Expr} {es : List Expr} {t : TA} {E : XK} {S : Addr → Option Sp} (A : ∀ f sp, S f = some sp → Holds2 X.prog X.w X.K X.mg X.base k f sp) (hr : Room k X.A) (hx : Passes (L2.CX X.prog X.w) X E) (hN : X.N[i]? = some x) (hv : Vis X.env.scope x) (ha : PA X (e :: es) t)
    (hdb : (x == ("__debug__" : Str)) = false := by decide) (hcd : (x == ("__classdict__" : Str)) = false := by decide)
    (he : starEach (e :: es) X.env = (false, eval e X.env) :: starEach es X.env := by rfl) (hpl : (backTo pos (starEach es X.env)).any (·.1) = false := by rfl) : PE X (.Call (.Name x p) (e :: es) [] pos) (tDoor i S E t) := by
  refine ⟨fun pins s σ H Q I h => ?_⟩
  obtain ⟨f, sp, hs, hS, ht⟩ := h
  obtain ⟨fd, ps, F, hk, hb⟩ := (A f sp hS).ex
  refine (pe_callL (i := i) (f := f) (sp := sp) (dvs := []) (E := E) F hr hN hv hk hb .nil hx ha hdb hcd he hpl).run pins s σ H Q I ⟨hs, ?_⟩
  simpa only [List.append_nil] using ht
end DL

set_option Elab.async false
set_option linter.all false
set_option maxRecDepth 100000
set_option maxHeartbeats 4000000
/-! DL, part L: what lets an error out, told by data. -/
namespace DL
open PySem PySem.W L2 PySem.Spec PyProof.Rows
/-- a def that returns, or lets an error of a class out -/
def spX (K : PySem.W.Frag) (R : List D → D → Prop) (X : List D → Value → Prop) : Sp := fun vs H Q E => ∃ ds M, ((∃ d, R ds d) ∨ ∃ c, X ds c) ∧ (∀ m ∈ M, Trk H m) ∧ Rps K (hid M H) vs ds ∧
  (∀ d v H', R ds d → Same H H' → Rp K (hid M H') v d → Q v H') ∧ ∀ c H', X ds c → Same H H' → E c none H'
def WSX (K : PySem.W.Frag) (E : XK) (b : Bool) (ts : TS) (ρ : En) (ω : Ow) (Φ : Out → Prop) (Ψ : Value → Prop) : Prop := ∀ M O σ H D', SR K M O ω ρ σ H → Conts K b M O H D' Φ → (∀ c O' H', Ψ c → Kp O H O' H' → E c none H') → ts D' σ H
/-- an expression that may let an error out -/
def WEX (K : PySem.W.Frag) (E : XK) (s : Bool) (te : TE) (ρ : En) (ω : Ow) (Φ : D → Prop) (Ψ : Value → Prop) : Prop := ∀ M O σ H, SR K M O ω ρ σ H → ∀ Q : VK, (∀ v H' d, Same H H' → Rp K (hid (Xs s M O) H') v d → Φ d → Q v H') → (∀ c H', Ψ c → Same H H' → E c none H') → te σ H Q
@[reducible] def sqX (K : PySem.W.Frag) (E : XK) (b : Bool) (u : TS) (Φ : Out → Prop) (Ψ : Value → Prop) : Out → Prop
  | .nx ρ ω => WSX K E b u ρ ω Φ Ψ
  | o => Φ o
def tRaise (E : XK) (c : Value) : TS := fun _ _ H => E c none H
section
variable {K : PySem.W.Frag} {E : XK} {b s : Bool} {ρ : En} {ω : Ow} {t u : TS} {te : TE} {ta : TA} {d : D} {ds : List D} {Φ : Out → Prop} {Ψ : Value → Prop} {R : List D → D → Prop} {Y : List D → Value → Prop}
theorem wx_of (h : WS K b t ρ ω Φ) : WSX K E b t ρ ω Φ Ψ := fun M O σ H D' r c _ => h M O σ H D' r c
theorem wx_seq (h : WSX K E b t ρ ω (sqX K E b u Φ Ψ) Ψ) : WSX K E b (tSeq t u) ρ ω Φ Ψ := fun M O σ H D' r c x => h M O σ H _ r
  ⟨fun O' σ' H' ρ' ω' r1 k1 q => q M O' σ' H' D' r1 (c.go k1) fun e O2 H2 z k2 => x e O2 H2 z (k1.trans k2), fun O' σ' H' ρ' ω' v d r1 k1 rp q => c.rt O' σ' H' ρ' ω' v d r1 k1 rp q, fun O' σ' H' ρ' ω' r1 k1 q => c.bk O' σ' H' ρ' ω' r1 k1 q, fun O' σ' H' ρ' ω' r1 k1 q => c.ct O' σ' H' ρ' ω' r1 k1 q⟩ x
theorem wx_if {tt : TT} {c : Bool} (h : EvT K tt ρ ω c) (h1 : c = true → WSX K E b t ρ ω Φ Ψ) (h2 : c = false → WSX K E b u ρ ω Φ Ψ) : WSX K E b (tIfS tt t u) ρ ω Φ Ψ := fun M O σ H D' r k x => h M O σ H r _ fun H1 s1 => by
  cases c with
  | true =>
    show t D' σ H1
    exact h1 rfl M O σ H1 D' (r.mono s1) (k.go (.same s1)) fun e O2 H2 z k2 => x e O2 H2 z ((Kp.same s1).trans k2)
  | false =>
    show u D' σ H1
    exact h2 rfl M O σ H1 D' (r.mono s1) (k.go (.same s1)) fun e O2 H2 z k2 => x e O2 H2 z ((Kp.same s1).trans k2)
theorem wx_raise {c : Value} (h : Ψ c) : WSX K E b (tRaise E c) ρ ω Φ Ψ := fun M O σ H D' r k x => x c O H h (.same (Same.refl H))
theorem wx_ret (h : WEX K E b te ρ ω (fun d => Φ (.rt d ω)) Ψ) : WSX K E b (tRet te) ρ ω Φ Ψ := fun M O σ H D' r k x => h M O σ H r _ (fun v H1 d s1 r1 q => k.rt O σ H1 ρ ω v d (r.mono s1) (.same s1) r1 q) fun c H1 z s1 => x c O H1 z (.same s1)
theorem wx_set {i : Nat} (h : WEX K E true te ρ ω (fun d => Φ (.nx (ρ.set i (some (.sh d))) ω)) Ψ) : WSX K E b (tAsg te (gName i)) ρ ω Φ Ψ := fun M O σ H D' r k x => h M O σ H r _ (fun v H1 d s1 r1 q => k.nx O _ H1 _ ω ((r.mono s1).setSh r1) (.same s1) q) fun c H1 z s1 => x c O H1 z (.same s1)
theorem wxe_ev {F : D → Prop} (h : Ev K s te ρ ω d) (q : F d) : WEX K E s te ρ ω F Ψ := fun M O σ H r Q k _ => h M O σ H r _ fun v H1 s1 r1 => k v H1 d s1 r1 q
theorem wxe_call {F : D → Prop} (h : EvA K s ta ρ ω ds) (h0 : (∃ d, R ds d) ∨ ∃ c, Y ds c) (h1 : ∀ d, R ds d → F d) (h2 : ∀ c, Y ds c → Ψ c) : WEX K E s (tCall (spX K R Y) [] E ta) ρ ω F Ψ := fun M O σ H r Q k x =>
  h M O σ H r _ fun vs H1 s1 r1 => ⟨ds, Xs s M O, h0, Xs_tr (r.mono s1), by rw [List.append_nil]; exact r1, fun d v H2 hd s2 r2 => k v H2 d (s1.trans s2) r2 (h1 d hd), fun c H2 hc s2 => x c H2 (h2 c hc) (s1.trans s2)⟩
/-- the doors: which address holds which promise -/
abbrev Doors := Addr → Option ((List D → D → Prop) × (List D → Value → Prop))
def Doors.sp (T : Doors) (K : PySem.W.Frag) : Addr → Option Sp := fun f => (T f).map fun p => spX K p.1 p.2
theorem wxe_door {F : D → Prop} {T : Doors} {i : Nat} {f : Addr} (e : ρ[i]? = some (some (.sh (.raw (.ref f))))) (hT : T f = some (R, Y)) (h : EvA K s ta ρ ω ds) (h0 : (∃ d, R ds d) ∨ ∃ c, Y ds c) (h1 : ∀ d, R ds d → F d) (h2 : ∀ c, Y ds c → Ψ c) :
    WEX K E s (tDoor i (T.sp K) E ta) ρ ω F Ψ := fun M O σ H r Q k x => by
  obtain ⟨v, hv, rv⟩ := r.sh i _ e
  cases rv
  refine ⟨f, spX K R Y, hv, by unfold Doors.sp; rw [hT]; rfl, ?_⟩
  exact h M O σ H r _ fun vs H1 s1 r1 => ⟨ds, Xs s M O, h0, Xs_tr (r.mono s1), r1, fun d v H2 hd s2 r2 => k v H2 d (s1.trans s2) r2 (h1 d hd), fun c H2 hc s2 => x c H2 (h2 c hc) (s1.trans s2)⟩
theorem WSX.elim (h : WSX K E b t ρ ω Φ Ψ) (hn : ∀ c, ¬ Ψ c) : WS K b t ρ ω Φ := fun M O σ H D' r c => h M O σ H D' r c fun e O2 H2 z => (hn e z).elim
end
section
variable {P : Program} {w : World} {K : PySem.W.Frag} {mg : Str → Option Value} {base : Heap}
/-- the def, by its reading -/
theorem ok_exc {x qual : Str} {st : Stmt} {f : Addr} {fd : FuncData} {N ps : List Str} {k : Nat} {R : List D → D → Prop} {Y : List D → Value → Prop} {t : XK → TS} (F : Fun K x qual st f fd) (S : FnScope N ps (defScope st)) (hl : ∀ ds, ((∃ d, R ds d) ∨ ∃ c, Y ds c) → ds.length = ps.length)
    (ht : ∀ (cdv : Value) (A : Around) (outer : List Env) (s : Shared) (H : Hp) (E : XK), Room k (A.deeper (envOfC qual (defScope st) s.heap.objs.size f cdv)) → PSs (cxOf (L2.CX P w) P w K mg base N qual (defScope st) f cdv A outer s H E) (defBody st) (t E))
    (hw : ∀ ds E, ((∃ d, R ds d) ∨ ∃ c, Y ds c) → WSX K E false (t E) (args N.length ds) [] (fin (R ds)) (Y ds)) : FnOk P w K mg base (L2.CX P w) (k + 1) f fd ps (spX K R Y) := by
  obtain ⟨oc, od, kV, doc, pm, an, cdv, ct, osl, rfl, lk, hcd⟩ := F.ex
  refine fn_of lk hcd S (fun vs H Q E h => ?_) (fun A outer s H vs Q E hr h => ?_)
  · obtain ⟨ds, M, hd, _, r, _⟩ := h
    rw [r.length]
    exact hl ds hd
  · obtain ⟨ds, M, hd, trk, r, q, x⟩ := h
    refine ⟨t E, ht cdv A outer s H E hr, hw ds E hd M [] _ H _ (sr_start trk r) ⟨fun O' σ' H' ρ' ω' r' k' p => ?_, fun O' σ' H' ρ' ω' v d' r' k' rp p => ?_, fun O' σ' H' ρ' ω' r' k' p => p.elim, fun O' σ' H' ρ' ω' r' k' p => p.elim⟩ fun c O' H' z k' => x c H' z k'.nil⟩
    · exact q .non .non H' p k'.nil .non
    · exact q d' v H' p k'.nil rp
/-- where it returns, it lets nothing out -/
theorem ok_back {f : Addr} {fd : FuncData} {ps : List Str} {k : Nat} {R : List D → D → Prop} {Y : List D → Value → Prop} {R' : List D → D → Prop} (F : FnOk P w K mg base (L2.CX P w) k f fd ps (spX K R Y))
    (h : ∀ ds, (∃ d, R' ds d) → (∃ d, R ds d) ∧ (∀ c, ¬ Y ds c) ∧ ∀ d, R ds d → R' ds d) : FnOk P w K mg base CX0 k f fd ps (spR K R') := by
  have pass : ∀ {vs : List V} {H : Hp} {Q : VK} {E : XK}, spR K R' vs H Q E → spX K R Y vs H Q E0 := fun {vs H Q E} ⟨ds, M, hd, trk, r, q⟩ => by
    obtain ⟨h1, h2, h3⟩ := h ds hd
    exact ⟨ds, M, .inl h1, trk, r, fun d v H' hR => q d v H' (h3 d hR), fun c H' z => (h2 c z).elim⟩
  refine ⟨fun vs H Q E q => F.len vs H Q E0 (pass q), fun A outer s H args us vs Q E hr he hb hv hs => ?_⟩
  refine codeAny_mono (F.run A outer s H args us vs Q E0 hr he hb hv (pass hs)) fun r s' z => ?_
  cases r with
  | ok fl => cases fl <;> exact z
  | error e =>
    obtain ⟨_, _, _, _, _, _, _, _, _, _, _, _, y⟩ := z
    exact y.elim
end
/-! ### a def that stands and may let an error out -/
structure AvX (P : Program) (w : World) (K : PySem.W.Frag) (mg : Str → Option Value) (base : Heap) (k : Nat) (x : Str) (ps : List Str) (sp : Sp) : Prop where
  ex : ∃ (f : Addr) (fd : FuncData), FnOk P w K mg base (L2.CX P w) k f fd ps sp ∧ mg x = some (.ref f) ∧ PySem.W.keepIn K (.ref f) = true ∧ Binds K fd ps []
theorem avx_mk {P : Program} {w : World} {K : PySem.W.Frag} {mg : Str → Option Value} {base : Heap} {k : Nat} {x : Str} {ps : List Str} {sp : Sp} {st : Stmt} {f : Addr} {fd : FuncData} (F : Fun K x x st f fd) (G : FnOk P w K mg base (L2.CX P w) k f fd ps sp) (hm : mg x = some (.ref f))
    (hb : ∀ (kV doc pm : Value) (an : Option Addr) (cdv ct : Value) (us : List Value), us.length = ps.length → bindArgs (PySem.W.fnOf x x (defArgs st) (defBody st) (defScope st) .none kV doc pm an cdv ct) ⟨us, []⟩ = pure (ps.zip us)) : AvX P w K mg base k x ps sp := by
  obtain ⟨oc, od, kV, doc, pm, an, cdv, ct, osl, rfl, lk, hcd⟩ := F.ex
  exact ⟨f, _, G, hm, F.kp, .all (hb kV doc pm an cdv ct)⟩
theorem AvX.holds {P : Program} {w : World} {K : PySem.W.Frag} {mg : Str → Option Value} {base : Heap} {j k : Nat} {x : Str} {ps : List Str} {sp : Sp} (a : AvX P w K mg base k x ps sp) (hk : k ≤ j) {f : Addr} (hf : mg x = some (.ref f)) : Holds2 P w K mg base j f sp := by
  obtain ⟨f', fd, F, hm, kp, hb⟩ := a.ex
  cases hf.symm.trans hm
  exact ⟨fd, ps, F.mono hk, kp, hb⟩
theorem pe_avx {X : Cx} {k j : Nat} {x : Str} {ps : List Str} {sp : Sp} {p pos : Pos} {e : Expr} {es : List Expr} {t : TA} {E : XK} (a : AvX X.prog X.w X.K X.mg X.base k x ps sp) (hr : Room j X.A) (hx : Passes (L2.CX X.prog X.w) X E) (hg : Gl X x) (ha : PA X (e :: es) t) (hk : k ≤ j := by decide) (hdb : (x == ("__debug__" : Str)) = false := by decide)
    (he : starEach (e :: es) X.env = (false, eval e X.env) :: starEach es X.env := by rfl) (hpl : (backTo pos (starEach es X.env)).any (·.1) = false := by rfl) : PE X (.Call (.Name x p) (e :: es) [] pos) (tCall sp [] E t) := by
  refine ⟨fun pins s σ H Q I h => ?_⟩
  obtain ⟨f, fd, F, hm, kp, hb⟩ := a.ex
  exact (pe_call (E := E) F (hr.mono hk) hg hm kp hb .nil hx ha hdb he hpl).run pins s σ H Q I h
theorem pe_avxS {X : Cx} {k j : Nat} {x : Str} {ps : List Str} {sp : Sp} {p pos : Pos} {e : Expr} {es : List Expr} {t : TA} {E : L2.St → XK} (a : AvX X.prog X.w X.K X.mg X.base k x ps sp) (hr : Room j X.A) (hx : ∀ σ, PassesAt (L2.CX X.prog X.w) X σ (E σ)) (hg : Gl X x) (ha : PA X (e :: es) t) (hk : k ≤ j := by decide) (hdb : (x == ("__debug__" : Str)) = false := by decide)
    (he : starEach (e :: es) X.env = (false, eval e X.env) :: starEach es X.env := by rfl) (hpl : (backTo pos (starEach es X.env)).any (·.1) = false := by rfl) : PE X (.Call (.Name x p) (e :: es) [] pos) (tCallS sp E t) := by
  refine ⟨fun pins s σ H Q I h => ?_⟩
  obtain ⟨f, fd, F, hm, kp, hb⟩ := a.ex
  exact (pe_callS (E := E) F (hr.mono hk) hg hm kp hb hx ha hdb he hpl).run pins s σ H Q I h
theorem pe_fn {X : Cx} {x : Str} {f : Addr} {pos : Pos} (h : X.mg x = some (.ref f)) (hg : Gl X x) (hd : (x == ("__debug__" : Str)) = false := by decide) : PE X (.Name x pos) (tC (.ref f)) := pe_glob hg h rfl hd
/-! ### what the text says of an own error -/
structure OwnErr (K : PySem.W.Frag) (mg : Str → Option Value) (x : Str) (C : Addr) : Prop where
  g : mg x = some (.ref C)
  q : ∃ bmB, PySem.W.excIn K C bmB "ValueError.__new__" = true ∧ ExcBaseFacts "ValueError" "ValueError.__new__" "ValueError.__init__" bmB
  kp : PySem.W.keepIn K (.ref C) = true
  sb : PySem.W.subIn K (.ref C) (.type "BaseException") = some true
  ty : PySem.W.typeIn K (.ref C) = some (.type "type")
  hg : PySem.W.findIn K (.ref C) "__getattribute__" = some (some (.builtin "BaseException.__getattribute__"))
  hk : PySem.W.findIn K (.ref C) "__getattr__" = some none
  hd : PySem.W.hasDictIn K C = true
  ha : PySem.W.findIn K (.ref C) "__class__" = some (some (.builtin "object.__class__"))
  hn : PySem.W.specialIn K (.builtin "object.__class__") "__get__" = some (some (.builtin "getset_descriptor.__get__"))
  ht : PySem.W.takesIn K (.builtin "object.__class__") = some true
  hm : PySem.W.mroIn K C (.type "object") = some true
  ve : PySem.W.kitOne K (.ref C) (.type "ValueError") = some true
theorem OwnErr.exc {K : PySem.W.Frag} {mg : Str → Option Value} {x : Str} {C : Addr} (h : OwnErr K mg x C) : ExcC K C := ⟨h.hg, h.hk, h.sb, h.hd, h.ha, h.hn, h.ht, h.hm⟩
theorem ve_of {K : PySem.W.Frag} {C : Addr} (h : PySem.W.subIn K (.ref C) (.type "ValueError") = some true) : PySem.W.kitOne K (.ref C) (.type "ValueError") = some true := by
  have e : PySem.W.kitMeta "ValueError" = true := by decide +kernel
  show (if (Value.ref C == Value.type "ValueError") = true then some true else if PySem.W.kitMeta "ValueError" = true then PySem.W.subIn K (.ref C) (.type "ValueError") else none) = some true
  rw [if_pos e, h]
  split <;> rfl
theorem ps_err {X : Cx} {E : XK} {x : Str} {C : Addr} {p pos pos' : Pos} (G : OwnErr X.K X.mg x C) (hc : X.calm = true) (tk : Takes X (fun cls d _ H => E cls d H)) (hg : Gl X x) (hdb : (x == ("__debug__" : Str)) = false := by decide) : PS X (.Raise (some (.Call (.Name x p) [] [] pos)) none pos') (tRaise E (.ref C)) := by
  obtain ⟨bmB, q, F⟩ := G.q
  exact ps_raise hc tk (pmk_void F q G.g G.kp (raises_own G.sb G.ty) hg hdb)
/-! ### caught: name = "kind" if isinstance(slip, ValueError) else None -/
def tSay (K : PySem.W.Frag) (i j : Nat) (x : Str) : Addr → Value → Option Addr → TS := fun a cls d D' σ G => ∃ C, cls = .ref C ∧ d = none ∧ ExcC K C ∧ PySem.W.kitOne K (.ref C) (.type "ValueError") = some true ∧ σ[i]? = some (some (.ref a)) ∧ D'.nx (σ.set j (some (.str x))) G
theorem ps_say {X : Cx} {i j : Nat} {x : Str} {a : Addr} {oe : Obj} {cls : Value} {d : Option Addr} {pn : List (Addr × Obj)} {sts : List Stmt}
    (body : ∀ C, cls = .ref C → d = none → ExcC X.K C → PSs (X.suite a ((a, oe) :: pn)) sts (tAsg (tIf (tTruX X.K (tCB (rIsE X.K C a) (tCons (tVar i) (tCons (tC (.ty "ValueError")) tNil)))) (tC (.str x)) (tC .non)) (gName j))) :
    PSs (X.suite a ((a, oe) :: pn)) sts (tSay X.K i j x a cls d) := by
  refine ⟨fun pins s σ H D I h => ?_⟩
  obtain ⟨C, rfl, rfl, ex, kt, hs, q⟩ := h
  refine (body C rfl rfl ex).run pins s σ H D I ?_
  exact ⟨_, hs, _, _, true, rfl, fun u ru => ru, kt, ⟨true, rfl, q⟩⟩
/-! ### the try of a door that lets an error out -/
def tTry (K : PySem.W.Frag) (sp : Sp) (ta : TA) (i : Nat) (l : List Clause) : TS := fun D σ H => tAsg (tCallS sp (L2.WE (wClauses K (fun _ _ _ _ => False) D l)) ta) (gName i) D σ H
inductive Picks (K : PySem.W.Frag) (cls : Value) : List Clause → Nat → (Addr → Value → Option Addr → TS) → Prop
  | hd {c : Value} {i : Nat} {ts : Addr → Value → Option Addr → TS} {l : List Clause} : PySem.W.exmOne K cls c = some true → Picks K cls ((c, i, ts) :: l) i ts
  | tl {c : Value} {i j : Nat} {ts ts' : Addr → Value → Option Addr → TS} {l : List Clause} : PySem.W.exmOne K cls c = some false → Picks K cls l i ts → Picks K cls ((c, j, ts') :: l) i ts
theorem Picks.go {K : PySem.W.Frag} {W0 : WX} {D : Ends} {cls : Value} {d : Option Addr} {τ : L2.St} {G : Hp} {l : List Clause} {i : Nat} {ts : Addr → Value → Option Addr → TS} (h : Picks K cls l i ts) (q : ∀ a, G a = none → ts a cls d (outOf i D) (τ.set i (some (.ref a))) G) : wClauses K W0 D l cls d τ G := by
  induction h with
  | hd e => exact ⟨true, e, fun _ => q, fun z => Bool.noConfusion z⟩
  | tl e _ ih => exact ⟨false, e, fun z => Bool.noConfusion z, fun _ => ih q⟩
/-- a slot of which nothing is known holds anything -/
theorem SR.any {K : PySem.W.Frag} {M : List Addr} {O : OA} {ω : Ow} {ρ : En} {σ : L2.St} {H : Hp} (r : SR K M O ω ρ σ H) {i : Nat} (hi : ρ[i]? = some none) (v : Option V) : SR K M O ω ρ (σ.set i v) H where
  trk := r.trk
  nod := r.nod
  dis := r.dis
  lenO := r.lenO
  own := r.own
  live := r.live
  len := by rw [List.length_set]; exact r.len
  sh := fun j d h => by
    obtain ⟨w, hw, q⟩ := r.sh j d h
    refine ⟨w, ?_, q⟩
    rw [List.getElem?_set_ne (fun e => by subst e; rw [hi] at h; cases h)]
    exact hw
  ow := fun j k h => by
    obtain ⟨a, ha, hw⟩ := r.ow j k h
    refine ⟨a, ha, ?_⟩
    rw [List.getElem?_set_ne (fun e => by subst e; rw [hi] at h; cases h)]
    exact hw
theorem ws_try {K : PySem.W.Frag} {b s : Bool} {ρ : En} {ω : Ow} {Φ : Out → Prop} {ta : TA} {ds : List D} {R : List D → D → Prop} {Y : List D → Value → Prop} {i j m : Nat} {l : List Clause} {x : Str} (h : EvA K s ta ρ ω ds) (h0 : ∃ c, Y ds c) (hR : ∀ d, ¬ R ds d) (hj : ρ[j]? = some none) (hjm : j ≠ m)
    (hY : ∀ c, Y ds c → ∃ C, c = .ref C ∧ ExcC K C ∧ PySem.W.kitOne K (.ref C) (.type "ValueError") = some true ∧ Picks K c l j (tSay K j m x)) (q : Φ (.nx (ρ.set m (some (.sh (.str x)))) ω)) : WS K b (tTry K (spX K R Y) ta i l) ρ ω Φ := fun M O σ H D' r c =>
  h M O σ H r _ fun vs H1 s1 r1 => ⟨ds, Xs s M O, .inr h0, Xs_tr (r.mono s1), r1, fun d v H2 hd => (hR d hd).elim, fun e H2 he s2 => by
    obtain ⟨C, rfl, ex, kt, pk⟩ := hY e he
    have R2 := (r.mono s1).mono s2
    have hlen : j < σ.length := by
      rw [← r.len]
      exact (List.getElem?_eq_some_iff.mp hj).1
    refine pk.go fun a ha => ⟨C, rfl, rfl, ex, kt, by rw [List.getElem?_set_self hlen], ?_⟩
    have A := (R2.any hj (some (.ref a))).setSh (i := m) (v := .str x) (d := .str x) (.str x)
    have hj2 : (ρ.set m (some (.sh (.str x))))[j]? = some none := by
      rw [List.getElem?_set_ne (fun z => hjm z.symm)]
      exact hj
    exact c.nx O _ H2 _ ω (A.any hj2 none) (.same (s1.trans s2)) q⟩
end DL

set_option Elab.async false
set_option linter.all false
set_option maxRecDepth 100000
set_option maxHeartbeats 4000000
/-! DL, part M: min and max of a tuple; own dicts with numbers as keys. -/
namespace DL
open PySem PySem.W L2 PySem.Spec PyProof.Rows
def rMinT (K : PySem.W.Frag) : List V → Hp → VK → Prop := fun xs H Q => ∃ a i j, xs = [.ref a] ∧ SqT K H a [.int i, .int j] ∧ Q (.int (min i j)) H
def rMaxT (K : PySem.W.Frag) : List V → Hp → VK → Prop := fun xs H Q => ∃ a i j, xs = [.ref a] ∧ SqT K H a [.int i, .int j] ∧ Q (.int (max i j)) H
theorem two_ints {i j : Int} {us : List Value} (r : Vals [V.int i, V.int j] us) (h : Heap) : ∃ as, ReadsAll h us [PyData.int i, PyData.int j] as := by
  obtain ⟨t, u, rfl⟩ := Vals.int2 r
  exact ⟨_, .cons (.int i t) (.cons (.int j u) .nil)⟩
theorem alike_ints {i j : Int} : AlikeAll [PyData.int i, PyData.int j] := ⟨fun x hx y hy => by
  have h1 : x = .int i ∨ x = .int j := by simpa using hx
  have h2 : y = .int i ∨ y = .int j := by simpa using hy
  rcases h1 with rfl | rfl <;> rcases h2 with rfl | rfl <;> simp [alike], fun x hx z => by
  subst z
  have h1 : PyData.none = .int i ∨ PyData.none = .int j := by simpa using hx
  rcases h1 with h | h <;> cases h⟩
theorem cr_minT {X : Cx} (hc : X.calm = true) (hu : X.A.units + 1 < cLine) : CallR X (.builtin "min") (rMinT X.K) := by
  intro pins s σ H xs us Q I r h
  obtain ⟨a, i, j, rfl, ht, q⟩ := h
  obtain ⟨its, rv, hl, _⟩ := I.tuple ht
  rw [Vals.ref1 r]
  obtain ⟨as, ra⟩ := two_ints rv s.heap
  refine min_tuple_data (I.ok.hd hc) hl (x := .int i) (xs := [.int j]) ra alike_ints (by simpa [PyData.depthAll, PyData.depth] using hu) fun n v h' tk bs _ rd hk => ?_
  have e : minD (.int i) [.int j] = .int (min i j) := minD_ints i [j]
  rw [e] at rd
  cases rd with
  | int _ t => exact ⟨.int _, H, I.kept hk, ⟨t, rfl⟩, q⟩
theorem cr_maxT {X : Cx} (hc : X.calm = true) (hu : X.A.units + 1 < cLine) : CallR X (.builtin "max") (rMaxT X.K) := by
  intro pins s σ H xs us Q I r h
  obtain ⟨a, i, j, rfl, ht, q⟩ := h
  obtain ⟨its, rv, hl, _⟩ := I.tuple ht
  rw [Vals.ref1 r]
  obtain ⟨as, ra⟩ := two_ints rv s.heap
  refine max_tuple_data (I.ok.hd hc) hl (x := .int i) (xs := [.int j]) ra alike_ints (by simpa [PyData.depthAll, PyData.depth] using hu) fun n v h' tk bs _ rd hk => ?_
  have e : maxD (.int i) [.int j] = .int (max i j) := maxD_ints i [j]
  rw [e] at rd
  cases rd with
  | int _ t => exact ⟨.int _, H, I.kept hk, ⟨t, rfl⟩, q⟩
def rMinY (K : PySem.W.Frag) : List V → Hp → VK → Prop := fun xs H Q => rMinX K xs H Q ∨ rMinT K xs H Q
def rMaxY (K : PySem.W.Frag) : List V → Hp → VK → Prop := fun xs H Q => rMaxX K xs H Q ∨ rMaxT K xs H Q
theorem cr_minY {X : Cx} (hc : X.calm = true) (hu : X.A.units + 1 < cLine) : CallR X (.builtin "min") (rMinY X.K) := CallR.or (cr_minX hc) (cr_minT hc hu)
theorem cr_maxY {X : Cx} (hc : X.calm = true) (hu : X.A.units + 1 < cLine) : CallR X (.builtin "max") (rMaxY X.K) := CallR.or (cr_maxX hc) (cr_maxT hc hu)
section
variable {K : PySem.W.Frag} {s b : Bool} {ρ ρ' : En} {ω : Ow} {ta tb te ti : TE} {d : D} {ds : List D} {Φ : Out → Prop} {i j : Int}
theorem rc_minY : RC K (rMinY K) [.int i, .int j] (.int (min i j)) := fun X H vs t r Q q => .inl (rc_min2 X H vs t r Q q)
theorem rc_maxY : RC K (rMaxY K) [.int i, .int j] (.int (max i j)) := fun X H vs t r Q q => .inl (rc_max2 X H vs t r Q q)
theorem rc_minT : RC K (rMinY K) [.tup [.int i, .int j]] (.int (min i j)) := fun X H vs t r Q q => by
  cases r with
  | cons r1 r2 =>
    cases r2
    cases r1 with
    | tup ha rs =>
      cases rs with
      | cons a1 rs =>
        cases rs with
        | cons a2 rs =>
          cases rs
          cases a1
          cases a2
          exact .inr ⟨_, i, j, rfl, sameT hid_le ha, q _ H (Same.refl H) (.int _)⟩
theorem rc_maxT : RC K (rMaxY K) [.tup [.int i, .int j]] (.int (max i j)) := fun X H vs t r Q q => by
  cases r with
  | cons r1 r2 =>
    cases r2
    cases r1 with
    | tup ha rs =>
      cases rs with
      | cons a1 rs =>
        cases rs with
        | cons a2 rs =>
          cases rs
          cases a1
          cases a2
          exact .inr ⟨_, i, j, rfl, sameT hid_le ha, q _ H (Same.refl H) (.int _)⟩
/-! ### k in d, k not in d -/
def rInDc : R2 := fun y x H Q => ∃ a o, x = .ref a ∧ DGet H a y o ∧ Q (.bl o.isSome) H
def rNotInDc : R2 := fun y x H Q => ∃ a o, x = .ref a ∧ DGet H a y o ∧ Q (.bl (!o.isSome)) H
theorem op_inDc {X : Cx} (hu : X.A.units + 1 < cLine) : OpR X (compareOp .In) rInDc := by
  intro pins s σ H x y v u Q I rx ry h
  obtain ⟨a, o, rfl, g, q⟩ := h
  cases ry
  exact d_in hu I g rx fun s' I' => ⟨.bl _, H, I', rfl, q⟩
theorem op_notinDc {X : Cx} (hu : X.A.units + 1 < cLine) : OpR X (compareOp .NotIn) rNotInDc := by
  intro pins s σ H x y v u Q I rx ry h
  obtain ⟨a, o, rfl, g, q⟩ := h
  cases ry
  exact d_notIn hu I g rx fun s' I' => ⟨.bl _, H, I', rfl, q⟩
theorem ev_ownK {k : Nat} {m : Nat} {kds : List (Key × D)} (e : ρ[m]? = some (some (.ow k))) (ew : ω[k]? = some (.dK kds)) : ∀ M O σ H, SR K M O ω ρ σ H → ∃ a kvs, O[k]? = some (some a) ∧ σ[m]? = some (some (.ref a)) ∧ H a = some (.dK kvs) ∧ kvs.map (·.1) = kds.map (·.1) ∧ Rps K (hid (xo M O) H) (kvs.map (·.2)) (kds.map (·.2)) := fun M O σ H r => by
  obtain ⟨a, h1, h2⟩ := r.ow m k e
  obtain ⟨w, h3, h4, h5⟩ := r.own k a h1
  rw [ew] at h3
  cases h3
  obtain ⟨kvs, h6, h7, h8⟩ := h5
  exact ⟨a, kvs, h1, h2, h6, h7, h8⟩
def hasK {β : Type} (kds : List (Key × β)) (k : Key) : Bool := kds.any fun x => decide (x.1 = k)
theorem isSome_keys {β : Type} {k : Key} : ∀ {xs : List (Key × V)} {ys : List (Key × β)}, xs.map (·.1) = ys.map (·.1) → (valV xs k).isSome = hasK ys k := fun {xs ys} h => by
  rw [← valV_any]
  unfold hasK
  induction xs generalizing ys with
  | nil =>
    cases ys with
    | nil => rfl
    | cons y ys => cases h
  | cons x xs ih =>
    cases ys with
    | nil => cases h
    | cons y ys =>
      rw [List.map_cons, List.map_cons] at h
      injection h with h1 h2
      rw [List.any_cons, List.any_cons, ih h2, h1]
theorem ev_inK {k m : Nat} {kds : List (Key × D)} (hv : Ev K s te ρ ω (.int i)) (e : ρ[m]? = some (some (.ow k))) (ew : ω[k]? = some (.dK kds)) : Ev K s (tOp rInDc te (tVar m)) ρ ω (.bl (hasK kds (.inl i))) := fun M O σ H r Q q => hv M O σ H r _ fun v H1 s1 r1 => by
  obtain ⟨a, kvs, h1, h2, h3, h4, _⟩ := ev_ownK e ew M O σ H1 (r.mono s1)
  cases r1
  refine ⟨.ref a, h2, a, _, rfl, DGet.k (k := .inl i) h3, ?_⟩
  rw [isSome_keys h4]
  exact q _ H1 s1 (.bl _)
/-- what a dict holds when k has been set -/
def putD (kds : List (Key × D)) (k : Key) (d : D) : List (Key × D) := if hasK kds k = true then kds.map (fun x => if x.1 = k then (x.1, d) else x) else kds ++ [(k, d)]
theorem putD_has {kds : List (Key × D)} {k x : Key} {d : D} : hasK (putD kds k d) x = (hasK kds x || decide (x = k)) := by
  unfold putD
  split
  · rename_i h
    have e : hasK (kds.map fun x => if x.1 = k then (x.1, d) else x) x = hasK kds x := by
      unfold hasK
      rw [List.any_map]
      congr 1
      funext y
      show decide ((if y.1 = k then (y.1, d) else y).1 = x) = decide (y.1 = x)
      split <;> rfl
    rw [e]
    by_cases z : x = k
    · subst z; rw [h]; rfl
    · rw [decide_eq_false z, Bool.or_false]
  · unfold hasK
    rw [List.any_append, List.any_cons, List.any_nil, Bool.or_false]
    congr 1
    by_cases z : x = k
    · rw [decide_eq_true z, decide_eq_true z.symm]
    · rw [decide_eq_false z, decide_eq_false fun y => z y.symm]
theorem putD_len {kds : List (Key × D)} {k : Key} {d : D} : (putD kds k d).length ≤ kds.length + 1 := by
  unfold putD
  split
  · rw [List.length_map]; omega
  · simp
theorem Rps.put {H : Hp} {k : Key} {v : V} {d : D} (rv : Rp K H v d) {kvs : List (Key × V)} {kds : List (Key × D)} (h : kvs.map (·.1) = kds.map (·.1)) (r : Rps K H (kvs.map (·.2)) (kds.map (·.2))) :
    (putK kvs k v).map (·.1) = (putD kds k d).map (·.1) ∧ Rps K H ((putK kvs k v).map (·.2)) ((putD kds k d).map (·.2)) := by
  have hs := isSome_keys (k := k) h
  unfold putK putD
  rw [valV_any, hs]
  by_cases c : hasK kds k = true
  · rw [if_pos c, if_pos c]
    have go : ∀ {kvs : List (Key × V)} {kds : List (Key × D)}, kvs.map (·.1) = kds.map (·.1) → Rps K H (kvs.map (·.2)) (kds.map (·.2)) →
        (kvs.map fun kv => if kv.1 = k then (kv.1, v) else kv).map (·.1) = (kds.map fun x => if x.1 = k then (x.1, d) else x).map (·.1) ∧ Rps K H ((kvs.map fun kv => if kv.1 = k then (kv.1, v) else kv).map (·.2)) ((kds.map fun x => if x.1 = k then (x.1, d) else x).map (·.2)) := by
      intro kvs
      induction kvs with
      | nil =>
        intro kds h r
        cases kds with
        | nil => exact ⟨rfl, .nil⟩
        | cons y ys => cases h
      | cons x xs ih =>
        intro kds h r
        cases kds with
        | nil => cases h
        | cons y ys =>
          rw [List.map_cons, List.map_cons] at h r
          injection h with h1 h2
          cases r with
          | cons r1 r2 =>
            obtain ⟨g1, g2⟩ := ih h2 r2
            simp only [List.map_cons]
            rw [h1]
            by_cases e : y.1 = k
            · rw [if_pos e, if_pos e]
              exact ⟨by rw [g1], .cons rv g2⟩
            · rw [if_neg e, if_neg e]
              exact ⟨by rw [g1, h1], .cons r1 g2⟩
    exact go h r
  · rw [if_neg c, if_neg c, List.map_append, List.map_append, List.map_append, List.map_append, h]
    exact ⟨rfl, Rps.append r (.cons rv .nil)⟩
theorem ws_putK {k m : Nat} {kds : List (Key × D)} (e : ρ[m]? = some (some (.ow k))) (ew : ω[k]? = some (.dK kds)) (hv : Ev K true te ρ ω d) (hi : Ev K true ti ρ ω (.int i)) (hl : kds.length ≤ 1000000) (q : Φ (.nx ρ (ω.set k (.dK (putD kds (.inl i) d))))) :
    WS K b (tAsg te (gSub (tVar m) ti rSetX)) ρ ω Φ := fun M O σ H D' r c => hv M O σ H r _ fun v H1 s1 r1 => by
  obtain ⟨a, kvs, h1, h2, h3, h4, h5⟩ := ev_ownK e ew M O σ H1 (r.mono s1)
  refine ⟨.ref a, h2, ?_⟩
  refine hi M O σ H1 (r.mono s1) _ fun u H2 s2 r2 => ?_
  cases r2
  have r' := (r.mono s1).mono s2
  have len : kvs.length = kds.length := by
    have := congrArg List.length h4
    rwa [List.length_map, List.length_map] at this
  obtain ⟨p1, p2⟩ := Rps.put (k := .inl i) (r1.mono (hid_same s2)) h4 (h5.mono (hid_same s2))
  obtain ⟨r3, k3⟩ := r'.write (o := .dK (putK kvs (.inl i) v)) (w := .dK (putD kds (.inl i) d)) h1 (fun z => Own.noConfusion z) ⟨_, upd_same, p1, p2⟩
  refine .inr ⟨a, _, rfl, DPut.k (k := .inl i) (s2 _ _ h3) ?_, c.nx O σ _ ρ _ r3 ((Kp.same (s1.trans s2)).trans k3) q⟩
  rw [len]
  exact Nat.lt_of_le_of_lt hl (by decide)
end
end DL

set_option Elab.async false
set_option linter.all false
set_option maxRecDepth 100000
set_option maxHeartbeats 4000000
/-! DL, part N: zip of a reversed tuple and a list. -/
namespace DL
open PySem PySem.W L2 PySem.Spec PyProof.Rows
section
variable {K : PySem.W.Frag} {s : Bool} {b : Bool} {ρ ρ' : En} {ω : Ow} {ta tb te tc : TE} {d d1 d2 d3 : D} {ds es : List D} {Φ : Out → Prop} {i : Int} {a : Int}
theorem ei_zipR (h : Ev K true ta ρ ω (.tup ds)) (h' : Ev K true tb ρ ω (.lst es)) : EvI K (iZipR K ta tb) ρ ω (zipD ds.reverse es) := fun M O σ H r R q => h M O σ H r _ fun v H1 s1 r1 => by
  cases r1 with
  | tup ha rs =>
    rename_i a vs
    refine ⟨a, vs, rfl, sameT hid_le ha, h' M O σ H1 (r.mono s1) _ fun u H2 s2 r2 => ?_⟩
    cases r2 with
    | lst hb rt =>
      rename_i c us
      have ha2 := hid_same s2 _ _ ha
      have rs2 := rs.mono (hid_same s2)
      refine ⟨c, us, rfl, sameT hid_le ha2, .inl (.inl (of_hid hb).2), q _ _ (s1.trans s2) ⟨fun i Hh H' t1 t2 hi => ?_, fun i X H' x H2 t1 tr hi hy => ?_, fun Hh H' t1 t2 => ?_⟩⟩
      · have e3 := t2 _ _ (t1 _ _ hb)
        rw [zipD_len, List.length_reverse, ← rs2.length, ← rt.length] at hi
        exact ⟨by omega, vs, us, _, _, sameT t2 (t1 _ _ ha2), .inl (.inl e3), rfl, List.getElem?_eq_getElem (by omega), List.getElem?_eq_getElem (by omega)⟩
      · obtain ⟨T, y, z, rfl, hT, rfl, f, g⟩ := hy
        refine ⟨same_upd hT, fun d hd => ?_⟩
        have e3 := hid_le _ _ (t1 _ _ hb)
        rw [zipD_len, List.length_reverse] at hi
        have i1 : i < ds.length := by omega
        have i2 : i < es.length := by omega
        have i3 : ds.length - 1 - i < ds.length := by omega
        rw [zipD_get (by rw [rev_get i1]; exact List.getElem?_eq_getElem i3) (List.getElem?_eq_getElem i2)] at hd
        cases hd
        obtain ⟨v, h1, h2⟩ := rs2.get (List.getElem?_eq_getElem i3)
        obtain ⟨u, h3, h4⟩ := rt.get (List.getElem?_eq_getElem i2)
        have q1 := f vs (sameT hid_le (t1 _ _ ha2))
        have q2 := g us (.inl (.inl e3))
        rw [rs2.length, h1] at q1
        rw [h3] at q2
        cases q1
        cases q2
        exact .tup (hid_of (not_mem_of_new tr hT) upd_same) (.cons ((h2.mono t1).mono (hid_same (same_upd hT))) (.cons ((h4.mono t1).mono (hid_same (same_upd hT))) .nil))
      · have e3 := t2 _ _ (t1 _ _ hb)
        refine ⟨vs, us, sameT t2 (t1 _ _ ha2), .inl (.inl e3), rfl, ?_⟩
        rw [zipD_len, List.length_reverse, rs2.length, rt.length]
        omega
end
end DL

set_option Elab.async false
set_option linter.all false
set_option maxRecDepth 100000
set_option maxHeartbeats 4000000
/-! DL, part P: texts joined, signs counted; list(range(..)); sorted numbers; sums. -/
namespace DL
open PySem PySem.W L2 PySem.Spec PyProof.Rows
section
variable {K : PySem.W.Frag} {s : Bool} {b : Bool} {ρ ρ' : En} {ω : Ow} {to ta tb te tc : TE} {d d1 d2 d3 : D} {ds es : List D} {Φ : Out → Prop} {i j : Int} {a : Str}
/-! ### texts -/
def rJoin (K : PySem.W.Frag) : V → List V → Hp → VK → Prop := fun x xs H Q => ∃ a p, ∃ ys : List Str, x = .str a ∧ xs = [.ref p] ∧ (SqL K H p (ys.map V.str) ∨ SqT K H p (ys.map V.str)) ∧ (ys.map (·.length)).sum + ys.length * a.length ≤ 16777216 ∧ Q (.str (Txt.join a ys)) H
theorem mt_joinX {X : Cx} : MtR X "str.join" (rJoin X.K) := mt_join
def rCount (K : PySem.W.Frag) : V → List V → Hp → VK → Prop := fun x xs H Q => ∃ a c, x = .str a ∧ xs = [.str c] ∧ Q (.int (Txt.count a c)) H
theorem mt_countX {X : Cx} : MtR X "str.count" (rCount X.K) := mt_count
theorem ev_join {ys : List Str} (h1 : Ev K s to ρ ω (.str a)) (h2 : Ev K s te ρ ω (.lst (ys.map D.str))) (hz : (ys.map (·.length)).sum + ys.length * a.length ≤ 16777216) : Ev K s (tBM K "str" (rJoin K) to (tCons te tNil)) ρ ω (.str (Txt.join a ys)) := fun M O σ H r Q q =>
  h1 M O σ H r _ fun v1 H1 s1 r1 => by
    cases r1
    refine ⟨rfl, h2 M O σ H1 (r.mono s1) _ fun v2 H2 s2 r2 => ?_⟩
    cases r2 with
    | lst ha rs =>
      have e := rs.strs
      subst e
      exact ⟨a, _, ys, rfl, rfl, .inl (.inl (.inl (of_hid ha).2)), hz, q _ _ (s1.trans s2) (.str _)⟩
theorem ev_count {c : Str} (h1 : Ev K s to ρ ω (.str a)) (h2 : Ev K s te ρ ω (.str c)) : Ev K s (tBM K "str" (rCount K) to (tCons te tNil)) ρ ω (.int (Txt.count a c)) := fun M O σ H r Q q =>
  h1 M O σ H r _ fun v1 H1 s1 r1 => by
    cases r1
    refine ⟨rfl, h2 M O σ H1 (r.mono s1) _ fun v2 H2 s2 r2 => ?_⟩
    cases r2
    exact ⟨a, c, rfl, rfl, q _ _ (s1.trans s2) (.int _)⟩
/-- a text of one-sign texts -/
def sgn (c : Nat) : Str := ⟨#[c]⟩
def txt (cs : List Nat) : Str := ⟨cs.toArray⟩
theorem txt_len (cs : List Nat) : (txt cs).length = cs.length := by
  show cs.toArray.size = cs.length
  rw [List.size_toArray]
theorem txt_tl (cs : List Nat) : (txt cs).cps.toList = cs := rfl
theorem txt_eq {x : Str} {cs : List Nat} (h : x.cps.toList = cs) : x = txt cs := by
  obtain ⟨⟨l⟩⟩ := x
  have e : l = cs := h
  subst e
  rfl
theorem txt_inj {xs ys : List Nat} (h : txt xs = txt ys) : xs = ys := by
  have := congrArg (fun z : Str => z.cps.toList) h
  exact this
theorem txt_app (xs ys : List Nat) : txt xs ++ txt ys = txt (xs ++ ys) := txt_eq (by
  show ((txt xs).cps ++ (txt ys).cps).toList = xs ++ ys
  rw [Array.toList_append]
  rfl)
theorem join_txt2 : ∀ yss : List (List Nat), Str.join "" (yss.map txt) = txt yss.flatten
  | [] => txt_eq rfl
  | [x] => by
    show txt x = txt [x].flatten
    simp
  | x :: y :: r => by
    have ih := join_txt2 (y :: r)
    show txt x ++ ("" : Str) ++ Str.join "" ((y :: r).map txt) = _
    rw [ih]
    have e : txt x ++ ("" : Str) = txt x := txt_eq (by
      show ((txt x).cps ++ ("" : Str).cps).toList = x
      rw [Array.toList_append]
      show x ++ [] = x
      rw [List.append_nil])
    rw [e, txt_app]
    rfl
theorem join_txt (yss : List (List Nat)) : Txt.join "" (yss.map txt) = txt yss.flatten := by rw [TL.join_eq, join_txt2]
theorem sum_len : ∀ yss : List (List Nat), ((yss.map txt).map (·.length)).sum = yss.flatten.length
  | [] => rfl
  | x :: r => by
    rw [List.map_cons, List.map_cons, List.sum_cons, sum_len r, txt_len, List.flatten_cons, List.length_append]
/-- "".join of texts -/
theorem ev_join0 {yss : List (List Nat)} (h2 : Ev K s te ρ ω (.lst (yss.map fun y => D.str (txt y)))) (hz : yss.flatten.length ≤ 16777216) : Ev K s (tBM K "str" (rJoin K) (tC (.str "")) (tCons te tNil)) ρ ω (.str (txt yss.flatten)) := by
  have h2' : Ev K s te ρ ω (.lst ((yss.map txt).map D.str)) := h2.to (by rw [List.map_map]; rfl)
  refine (ev_join ev_str h2' ?_).to (congrArg D.str (join_txt yss))
  rw [sum_len]
  show _ + _ * 0 ≤ _
  omega
theorem flat_sgn (cs : List Nat) : (cs.map fun c => [c]).flatten = cs := by
  induction cs with
  | nil => rfl
  | cons c r ih => rw [List.map_cons, List.flatten_cons, ih]; rfl
theorem ev_joinS {cs : List Nat} (h2 : Ev K s te ρ ω (.lst (cs.map fun c => D.str (sgn c)))) (hz : cs.length ≤ 16777216) : Ev K s (tBM K "str" (rJoin K) (tC (.str "")) (tCons te tNil)) ρ ω (.str (txt cs)) := by
  have h2' : Ev K s te ρ ω (.lst ((cs.map fun c => [c]).map fun y => D.str (txt y))) := h2.to (by rw [List.map_map]; rfl)
  exact (ev_join0 h2' (by rw [flat_sgn]; exact hz)).to (by rw [flat_sgn])
theorem cnt_nat (c : Nat) : ∀ cs : List Nat, PyProof.Rows.cnt c cs = ((cs.countP (· == c) : Nat) : Int)
  | [] => rfl
  | d :: r => by
    rw [PyProof.Rows.cnt_cons, cnt_nat c r, List.countP_cons]
    by_cases h : d = c
    · rw [if_pos h, if_pos (by simpa using h)]
      omega
    · rw [if_neg h, if_neg (by simpa using h)]
      omega
theorem count_txt (cs : List Nat) (c : Nat) : Txt.count (txt cs) (sgn c) = ((cs.countP (· == c) : Nat) : Int) := by
  have e : Txt.count (txt cs) (sgn c) = PyProof.Rows.cnt c cs := PyProof.Rows.count_is (txt cs) c
  rw [e, cnt_nat]
/-! ### list(range(a, b)) -/
theorem rps_rg (i j : Int) {H : Hp} : Rps K H (rgV i j) (rng i (j - i).toNat) := by
  unfold rgV rng
  generalize List.range (j - i).toNat = l
  induction l with
  | nil => exact .nil
  | cons x r ih => exact .cons (.int _) ih
theorem ev_listRg2 (h1 : Ev K s ta ρ ω (.int i)) (h2 : Ev K s tb ρ ω (.int j)) (ok : RgOk i j) : Ev K s (tLstRg (tRg2 ta tb)) ρ ω (.lst (rng i (j - i).toNat)) := fun M O σ H r Q q =>
  h1 M O σ H r _ fun v1 H1 s1 r1 => h2 M O σ H1 (r.mono s1) _ fun v2 H2 s2 r2 => by
    cases r1
    cases r2
    exact ⟨i, j, rfl, rfl, ok, fun p hp => q _ _ ((s1.trans s2).trans (same_upd hp)) (.lst (hid_of (not_mem_of_new (Xs_tr ((r.mono s1).mono s2)) hp) upd_same) (rps_rg i j))⟩
theorem ei_rngA {t : TA} (h : EvA K s t ρ ω [.int i, .int j]) : EvI K (iRngA t) ρ ω (rng i (j - i).toNat) := fun M O σ H r R q => h M O σ H r _ fun vs H1 s1 r1 => by
  cases r1 with
  | cons r1 r2 =>
    cases r1
    cases r2 with
    | cons r2 r3 =>
      cases r2
      cases r3
      exact ⟨i, j, rfl, q _ _ s1 walks_rng⟩
/-! ### sorted numbers -/
theorem rc_sortI {ns ms : List Int} (hp : ms.Perm ns) (hs : ms.Pairwise (· ≤ ·)) : RC K (rSortedI K) [.lst (ns.map .int)] (.lst (ms.map .int)) := fun X H vs t r Q q => by
  cases r with
  | cons r1 r2 =>
    cases r2
    cases r1 with
    | lst ha rs =>
      have e := rs.ints
      subst e
      refine ⟨_, ns, rfl, .inl (.inl (of_hid ha).2), fun ns' p hp' hs' hn => ?_⟩
      have e2 : ns' = ms := List.Perm.eq_of_pairwise (le := (· ≤ ·)) (fun a b _ _ h1 h2 => Int.le_antisymm h1 h2) hs' hs (hp'.trans hp.symm)
      subst e2
      exact q _ _ (same_upd hn) (.lst (hid_of (not_mem_of_new t hn) upd_same) (Rps.ofInts _))
/-! ### sum of numbers -/
theorem rc_sumL {ns : List Int} : RC K (rSum K) [.lst (ns.map .int)] (.int ns.sum) := fun X H vs t r Q q => by
  cases r with
  | cons r1 r2 =>
    cases r2
    cases r1 with
    | lst ha rs =>
      have e := rs.ints
      subst e
      exact ⟨_, ns, rfl, .inl (.inl (of_hid ha).2), q _ H (Same.refl H) (.int _)⟩
end
end DL

set_option Elab.async false
set_option linter.all false
set_option maxRecDepth 100000
set_option maxHeartbeats 4000000
/-! M1: whole parts of roots; pairs by floors: lesser and greater ones are counted. -/
namespace DL
open PySem

theorem ilt_or_ge (a b : Int) : a < b ∨ b ≤ a := by omega
theorem sq_lt {a b : Int} (ha : 0 ≤ a) (h : a < b) : a * a < b * b := by
  have h1 : a * a ≤ a * b := Int.mul_le_mul_of_nonneg_left (Int.le_of_lt h) ha
  have h2 : a * b < b * b := Int.mul_lt_mul_of_pos_right h (by omega)
  omega
theorem sq_le {a b : Int} (ha : 0 ≤ a) (h : a ≤ b) : a * a ≤ b * b := by
  have h1 : a * a ≤ a * b := Int.mul_le_mul_of_nonneg_left h ha
  have h2 : a * b ≤ b * b := Int.mul_le_mul_of_nonneg_right h (by omega)
  omega
theorem lt_of_sq {a b : Int} (hb : 0 ≤ b) (h : a * a < b * b) : a < b := by
  rcases ilt_or_ge a b with h1 | h1
  · exact h1
  · have := sq_le hb h1
    omega
theorem le_isq {k n : Int} (hn : 0 ≤ n) : k ≤ isq n ↔ k ≤ 0 ∨ k * k ≤ n := by
  obtain ⟨h0, h1, h2⟩ := isq_spec hn
  constructor
  · intro h
    by_cases hk : k ≤ 0
    · exact .inl hk
    · have := sq_le (by omega : 0 ≤ k) h
      exact .inr (by omega)
  · rintro (h | h)
    · omega
    · have : k < isq n + 1 := lt_of_sq (by omega) (by omega)
      omega
theorem isq_lt {k n : Int} (hn : 0 ≤ n) : isq n < k ↔ 0 < k ∧ n < k * k := by
  have := le_isq (k := k) hn
  constructor
  · intro h
    have h1 : ¬ (k ≤ 0 ∨ k * k ≤ n) := fun z => by
      have := this.mpr z
      omega
    rw [not_or] at h1
    omega
  · rintro ⟨h1, h2⟩
    have h3 : ¬ k ≤ isq n := fun z => by
      rcases this.mp z with z | z <;> omega
    omega
theorem isq_unique {n r : Int} (h0 : 0 ≤ r) (h1 : r * r ≤ n) (h2 : n < (r + 1) * (r + 1)) : isq n = r := by
  have hn : 0 ≤ n := Int.le_trans (Int.mul_nonneg h0 h0) h1
  have a := (le_isq (k := r) hn).mpr (.inr h1)
  have b := (isq_lt (k := r + 1) hn).mpr ⟨by omega, h2⟩
  omega
theorem lt_div {a b c : Int} (h : 0 < c) : a / c < b ↔ a < b * c := Int.ediv_lt_iff_lt_mul h
theorem le_div {a b c : Int} (h : 0 < c) : a ≤ b / c ↔ a * c ≤ b := Int.le_ediv_iff_mul_le h

/-- the lesser, the greater of the pair of n; how many lesser ones to v -/
def lowF (s n : Int) : Int := (n * (2 - s) + isq (n * n * (s * s + 4))) / 2
def highF (s n : Int) : Int := lowF s n + s * n
def cntF (s v : Int) : Int := ((v + 1) * (s - 2) + isq ((v + 1) * (v + 1) * (s * s + 4))) / (2 * s)
theorem disc_nn (s n : Int) : 0 ≤ n * n * (s * s + 4) := by
  have h1 : 0 ≤ n * n := by
    rcases Int.le_total 0 n with h | h
    · exact Int.mul_nonneg h h
    · exact Int.mul_nonneg_of_nonpos_of_nonpos h h
  have h2 : 0 ≤ s * s := by
    rcases Int.le_total 0 s with h | h
    · exact Int.mul_nonneg h h
    · exact Int.mul_nonneg_of_nonpos_of_nonpos h h
  exact Int.mul_nonneg h1 (by omega)
theorem sq_nn (n : Int) : 0 ≤ n * n := by
  rcases Int.le_total 0 n with h | h
  · exact Int.mul_nonneg h h
  · exact Int.mul_nonneg_of_nonpos_of_nonpos h h
theorem sq_pos {n : Int} (h : n ≠ 0) : 0 < n * n := by
  rcases Int.lt_or_gt_of_ne h with h | h
  · exact Int.mul_pos_of_neg_of_neg h h
  · exact Int.mul_pos h h

/-- s s + 4 is no square's ratio: x x = n n (s s + 4) only for n = 0 -/
theorem no_root {s : Int} (hs : 1 ≤ s) : ∀ (k : Nat) (n x : Int), n.natAbs ≤ k → x * x = n * n * (s * s + 4) → n = 0 := by
  intro k
  induction k using Nat.strongRecOn with
  | _ k ih =>
    intro n x hn h
    by_cases n0 : n = 0
    · exact n0
    · exfalso
      -- y = |x| - s |n| lies between 0 and |n|
      have key : ∀ n x : Int, 0 < n → 0 ≤ x → n.natAbs ≤ k → x * x = n * n * (s * s + 4) → False := by
        intro n x hn0 hx0 hnk h
        have e1 : n * n * (s * s + 4) = (s * n) * (s * n) + 4 * (n * n) := by grind
        have hlt : s * n < x := lt_of_sq hx0 (by
          have := Int.mul_pos hn0 hn0
          omega)
        have hsn : 0 ≤ s * n := Int.mul_nonneg (by omega) (by omega)
        have hlt2 : x < s * n + 2 * n := by
          refine lt_of_sq (by omega) ?_
          have e2 : (s * n + 2 * n) * (s * n + 2 * n) = (s * n) * (s * n) + 4 * (n * n) + 4 * (s * (n * n)) := by grind
          have : 0 < s * (n * n) := Int.mul_pos (by omega) (Int.mul_pos hn0 hn0)
          omega
        -- x = s n + y, 0 < y < 2 n, y y + 2 s n y = 4 n n
        have hy : (x - s * n) * (x - s * n) + 2 * (s * (n * (x - s * n))) = 4 * (n * n) := by
          have : x * x = s * n * (s * n) + 4 * (n * n) := by rw [h, e1]
          grind
        have hy0 : 0 < x - s * n := by omega
        have hy1 : x - s * n < 2 * n := by omega
        generalize x - s * n = y at *
        -- y is even
        have hev : y % 2 = 0 := by
          rcases (by omega : y % 2 = 0 ∨ y % 2 = 1) with h0 | h0
          · exact h0
          · have e3 : y * y % 2 = 1 := by
              rw [Int.mul_emod, h0]
              rfl
            have e4 : (4 * (n * n)) % 2 = 0 := by omega
            omega
        obtain ⟨z, hz⟩ : ∃ z, y = 2 * z := ⟨y / 2, by omega⟩
        subst hz
        -- z z + s n z = n n: a smaller solution
        have hz2 : z * z + s * (n * z) = n * n := by grind
        have hzn : z < n := by omega
        have hz0 : 0 < z := by omega
        have h' : (s * z + 2 * n) * (s * z + 2 * n) = z * z * (s * s + 4) + 4 * (s * (n * z)) + 4 * (n * n) - 4 * (z * z) := by grind
        have h'' : (2 * n + s * z) * (2 * n + s * z) = (s * s + 4) * (z * z) + 8 * (s * (n * z)) := by grind
        have e5 : (2 * n - s * z) * (2 * n - s * z) = z * z * (s * s + 4) := by grind
        have := ih z.natAbs (by omega) z (2 * n - s * z) (Nat.le_refl _) e5
        omega
      have ea : (n.natAbs : Int) * n.natAbs = n * n := Int.natAbs_mul_self' n
      have eb : (x.natAbs : Int) * x.natAbs = x * x := Int.natAbs_mul_self' x
      exact key n.natAbs x.natAbs (by omega) (by omega) (by omega) (by rw [ea, eb]; exact h)
section
variable {s n v : Int}
theorem F_ne {m : Int} (hs : 1 ≤ s) (hm : m ≠ 0) : m * m + (s - 2) * (m * n) - s * (n * n) ≠ 0 := fun z => by
  have e : (2 * s * n - m * (s - 2)) * (2 * s * n - m * (s - 2)) = m * m * (s * s + 4) := by grind
  exact hm (no_root hs _ _ _ (Nat.le_refl _) e)
/-- lesser ones are counted -/
theorem low_le (hs : 1 ≤ s) (hn : 0 ≤ n) (hv : 0 ≤ v) : lowF s n ≤ v ↔ n ≤ cntF s v := by
  unfold lowF cntF
  generalize hm : v + 1 = m
  have hm1 : 1 ≤ m := by omega
  rw [le_div (by omega)]
  have e1 : (n * (2 - s) + isq (n * n * (s * s + 4))) / 2 ≤ v ↔ isq (n * n * (s * s + 4)) < 2 * m + n * (s - 2) := by
    have := lt_div (a := n * (2 - s) + isq (n * n * (s * s + 4))) (b := v + 1) (c := 2) (by decide)
    have e : n * (s - 2) = - (n * (2 - s)) := by grind
    omega
  have e2 : n * (2 * s) ≤ m * (s - 2) + isq (m * m * (s * s + 4)) ↔ 2 * s * n - m * (s - 2) ≤ isq (m * m * (s * s + 4)) := by
    have e : n * (2 * s) = 2 * s * n := by grind
    omega
  rw [e1, e2, isq_lt (disc_nn s n), le_isq (disc_nn s m)]
  have F0 := F_ne (s := s) (n := n) (m := m) hs (by omega)
  have a1 : (2 * m + n * (s - 2)) * (2 * m + n * (s - 2)) - n * n * (s * s + 4) = 4 * (m * m + (s - 2) * (m * n) - s * (n * n)) := by grind
  have a2 : m * m * (s * s + 4) - (2 * s * n - m * (s - 2)) * (2 * s * n - m * (s - 2)) = 4 * (s * (m * m + (s - 2) * (m * n) - s * (n * n))) := by grind
  generalize hF : m * m + (s - 2) * (m * n) - s * (n * n) = F at *
  have mn : 0 ≤ m * n := Int.mul_nonneg (by omega) hn
  have nn : 0 ≤ n * n := sq_nn n
  have mm : 0 < m * m := Int.mul_pos (by omega) (by omega)
  rcases Int.lt_or_gt_of_ne F0 with h | h
  · -- F < 0: neither
    have sF : s * F < 0 := Int.mul_neg_of_pos_of_neg (by omega) h
    have hB : 0 < 2 * s * n - m * (s - 2) := by
      rcases ilt_or_ge 0 (2 * s * n - m * (s - 2)) with hB | hB
      · exact hB
      · exfalso
        have h1 : n * (2 * s * n - m * (s - 2)) ≤ 0 := Int.mul_nonpos_of_nonneg_of_nonpos hn hB
        have h2 : n * (2 * s * n - m * (s - 2)) = 2 * (s * (n * n)) - (s - 2) * (m * n) := by grind
        have h3 : 0 ≤ s * (n * n) := Int.mul_nonneg (by omega) nn
        omega
    constructor
    · rintro ⟨_, h2⟩; omega
    · rintro (h2 | h2) <;> omega
  · have sF : 0 < s * F := Int.mul_pos (by omega) h
    have hA : 0 < 2 * m + n * (s - 2) := by
      rcases ilt_or_ge 0 (2 * m + n * (s - 2)) with hA | hA
      · exact hA
      · exfalso
        have h1 : m * (2 * m + n * (s - 2)) ≤ 0 := Int.mul_nonpos_of_nonneg_of_nonpos (by omega) hA
        have h2 : m * (2 * m + n * (s - 2)) = 2 * (m * m) + (s - 2) * (m * n) := by grind
        have h3 : 0 ≤ s * (n * n) := Int.mul_nonneg (by omega) nn
        omega
    constructor
    · rintro _; exact .inr (by omega)
    · rintro _; exact ⟨hA, by omega⟩
/-- greater ones are the others -/
theorem high_le (hs : 1 ≤ s) (hn : 0 ≤ n) (hv : 0 ≤ v) : highF s n ≤ v ↔ n ≤ v - cntF s v := by
  unfold highF lowF cntF
  generalize hm : v + 1 = m
  have hm1 : 1 ≤ m := by omega
  have e1 : (n * (2 - s) + isq (n * n * (s * s + 4))) / 2 + s * n ≤ v ↔ isq (n * n * (s * s + 4)) < 2 * m - n * (s + 2) := by
    have := lt_div (a := n * (2 - s) + isq (n * n * (s * s + 4))) (b := v + 1 - s * n) (c := 2) (by decide)
    have e : n * (s + 2) = - (n * (2 - s)) + 4 * n := by grind
    have e' : s * n = - (n * (2 - s)) + 2 * n := by grind
    omega
  have e2 : n ≤ v - (m * (s - 2) + isq (m * m * (s * s + 4))) / (2 * s) ↔ isq (m * m * (s * s + 4)) < m * (s + 2) - 2 * s * n := by
    have := lt_div (a := m * (s - 2) + isq (m * m * (s * s + 4))) (b := m - n) (c := 2 * s) (by omega)
    have e : (m - n) * (2 * s) - m * (s - 2) = m * (s + 2) - 2 * s * n := by grind
    omega
  rw [e1, e2, isq_lt (disc_nn s n), isq_lt (disc_nn s m)]
  have a1 : (2 * m - n * (s + 2)) * (2 * m - n * (s + 2)) - n * n * (s * s + 4) = 4 * (m * m - (s + 2) * (m * n) + s * (n * n)) := by grind
  have a2 : (m * (s + 2) - 2 * s * n) * (m * (s + 2) - 2 * s * n) - m * m * (s * s + 4) = 4 * (s * (m * m - (s + 2) * (m * n) + s * (n * n))) := by grind
  have a3 : (2 * m - n * (s + 2)) * (m * (s + 2) - 2 * s * n) = 2 * ((s + 2) * (m * m - (s + 2) * (m * n) + s * (n * n))) + m * n * (s * s + 4) := by grind
  have mn : 0 ≤ m * n := Int.mul_nonneg (by omega) hn
  have mnD : 0 ≤ m * n * (s * s + 4) := Int.mul_nonneg mn (by have := sq_nn s; omega)
  generalize hF : m * m - (s + 2) * (m * n) + s * (n * n) = F at *
  generalize 2 * m - n * (s + 2) = A at *
  generalize m * (s + 2) - 2 * s * n = B at *
  constructor
  · rintro ⟨h1, h2⟩
    have hF0 : 0 < F := by omega
    have sF : 0 < s * F := Int.mul_pos (by omega) hF0
    have sF2 : 0 < (s + 2) * F := Int.mul_pos (by omega) hF0
    refine ⟨?_, by omega⟩
    rcases ilt_or_ge 0 B with hB | hB
    · exact hB
    · have : A * B ≤ 0 := Int.mul_nonpos_of_nonneg_of_nonpos (by omega) hB
      omega
  · rintro ⟨h1, h2⟩
    have sF : 0 < s * F := by omega
    have hF0 : 0 < F := by
      rcases ilt_or_ge 0 F with h | h
      · exact h
      · have : s * F ≤ 0 := Int.mul_nonpos_of_nonneg_of_nonpos (by omega) h
        omega
    have sF2 : 0 < (s + 2) * F := Int.mul_pos (by omega) hF0
    refine ⟨?_, by omega⟩
    rcases ilt_or_ge 0 A with hA | hA
    · exact hA
    · have : A * B ≤ 0 := Int.mul_nonpos_of_nonpos_of_nonneg hA (by omega)
      omega
end
section
variable {s n m v : Int}
theorem low_zero (hs : 1 ≤ s) : lowF s 0 = 0 := by
  unfold lowF
  rw [show (0 : Int) * 0 * (s * s + 4) = 0 by grind, show isq 0 = 0 from isq_unique (by decide) (by decide) (by decide)]
  omega
theorem low_ge (hs : 1 ≤ s) (hn : 0 ≤ n) : n ≤ lowF s n := by
  unfold lowF
  have h : s * n ≤ isq (n * n * (s * s + 4)) := (le_isq (disc_nn s n)).mpr (.inr (by
    have := sq_nn n
    have e : n * n * (s * s + 4) = s * n * (s * n) + 4 * (n * n) := by grind
    omega))
  rw [le_div (by decide)]
  have e : n * (2 - s) = 2 * n - s * n := by grind
  omega
theorem low_le2 (hs : 1 ≤ s) (hn : 0 ≤ n) : lowF s n ≤ 2 * n := by
  unfold lowF
  have h : isq (n * n * (s * s + 4)) < s * n + 2 * n + 1 := (isq_lt (disc_nn s n)).mpr ⟨by have := Int.mul_nonneg (by omega : 0 ≤ s) hn; omega, by
    have h0 : 0 ≤ s * (n * n) := Int.mul_nonneg (by omega) (sq_nn n)
    have h1 := Int.mul_nonneg (by omega : 0 ≤ s) hn
    have e : (s * n + 2 * n + 1) * (s * n + 2 * n + 1) = n * n * (s * s + 4) + 4 * (s * (n * n)) + 2 * (s * n) + 4 * n + 1 := by grind
    omega⟩
  have := (lt_div (a := n * (2 - s) + isq (n * n * (s * s + 4))) (b := 2 * n + 1) (c := 2) (by decide)).mpr (by
    have e : n * (2 - s) = 2 * n - s * n := by grind
    omega)
  omega
theorem low_nn (hs : 1 ≤ s) (hn : 0 ≤ n) : 0 ≤ lowF s n := Int.le_trans hn (low_ge hs hn)
theorem cnt_nn (hs : 1 ≤ s) (hv : 0 ≤ v) : 0 ≤ cntF s v := (low_le hs (Int.le_refl 0) hv).mp (by rw [low_zero hs]; exact hv)
theorem cnt_le (hs : 1 ≤ s) (hv : 0 ≤ v) : cntF s v ≤ v := by
  have h := low_ge hs (cnt_nn hs hv)
  have h2 := (low_le hs (cnt_nn hs hv) hv).mpr (Int.le_refl _)
  omega
/-- the lesser ones rise -/
theorem low_mono (hs : 1 ≤ s) (hn : 0 ≤ n) (h : n ≤ m) : lowF s n ≤ lowF s m := by
  have hm : 0 ≤ m := by omega
  exact (low_le hs hn (low_nn hs hm)).mpr (Int.le_trans h ((low_le hs hm (low_nn hs hm)).mp (Int.le_refl _)))
theorem high_nn (hs : 1 ≤ s) (hn : 0 ≤ n) : 0 ≤ highF s n := by
  have := low_nn hs hn
  have := Int.mul_nonneg (by omega : 0 ≤ s) hn
  unfold highF
  omega
theorem high_zero (hs : 1 ≤ s) : highF s 0 = 0 := by
  unfold highF
  rw [low_zero hs]
  omega
theorem high_le2 (hs : 1 ≤ s) (hs2 : s ≤ 50) (hn : 0 ≤ n) : highF s n ≤ 52 * n := by
  have h1 := low_le2 hs hn
  have h2 : s * n ≤ 50 * n := Int.mul_le_mul_of_nonneg_right hs2 hn
  unfold highF
  omega
theorem high_mono0 (hs : 1 ≤ s) (hn : 0 ≤ n) (h : n ≤ m) : highF s n ≤ highF s m := by
  have h1 := low_mono hs hn h
  have h2 : s * n ≤ s * m := Int.mul_le_mul_of_nonneg_left h (by omega)
  unfold highF
  omega
theorem cnt_step (hs : 1 ≤ s) (hv : 0 ≤ v) : cntF s v ≤ cntF s (v + 1) ∧ cntF s (v + 1) ≤ cntF s v + 1 := by
  have c0 := cnt_nn hs hv
  have c1 := cnt_le hs hv
  constructor
  · refine (low_le hs c0 (by omega)).mp ?_
    have := (low_le hs c0 hv).mpr (Int.le_refl _)
    omega
  · have h1 := (high_le hs (n := v - cntF s v) (by omega) hv).mpr (Int.le_refl _)
    have h2 := (high_le hs (n := v - cntF s v) (v := v + 1) (by omega) (by omega)).mp (by omega)
    omega
/-- strictly -/
theorem low_lt (hs : 1 ≤ s) (hn : 0 ≤ n) (h : n < m) : lowF s n < lowF s m := by
  rcases ilt_or_ge (lowF s n) (lowF s m) with q | q
  · exact q
  · exfalso
    have hm : 0 ≤ m := by omega
    have l0 := low_nn hs hn
    have h1 := (low_le hs hm l0).mp q
    by_cases n0 : n = 0
    · subst n0
      rw [low_zero hs] at q
      have := low_ge hs hm
      omega
    · have l1 := low_ge hs hn
      have h2 : ¬ n ≤ cntF s (lowF s n - 1) := fun z => by
        have := (low_le hs hn (by omega)).mpr z
        omega
      have h3 := (cnt_step hs (v := lowF s n - 1) (by omega)).2
      rw [show lowF s n - 1 + 1 = lowF s n by omega] at h3
      omega
theorem high_lt (hs : 1 ≤ s) (hn : 0 ≤ n) (h : n < m) : highF s n + s < highF s m := by
  have h1 := low_lt hs hn h
  have h2 : s * (n + 1) ≤ s * m := Int.mul_le_mul_of_nonneg_left (by omega) (by omega)
  have e : s * (n + 1) = s * n + s := by grind
  unfold highF
  omega
theorem low_step (hs : 1 ≤ s) (hn : 0 ≤ n) : lowF s n + 1 ≤ lowF s (n + 1) ∧ lowF s (n + 1) ≤ lowF s n + 2 := by
  have h0 := low_lt hs hn (show n < n + 1 by omega)
  refine ⟨by omega, ?_⟩
  rcases ilt_or_ge (lowF s n + 2) (lowF s (n + 1)) with q | q
  · exfalso
    have l0 := low_nn hs hn
    have lg := low_ge hs hn
    have c0 : n ≤ cntF s (lowF s n) := (low_le hs hn l0).mp (Int.le_refl _)
    have c2 : cntF s (lowF s n + 2) < n + 1 := by
      rcases ilt_or_ge (cntF s (lowF s n + 2)) (n + 1) with z | z
      · exact z
      · have := (low_le hs (n := n + 1) (by omega) (by omega)).mpr z
        omega
    have s1 := cnt_step hs l0
    have s2 := cnt_step hs (v := lowF s n + 1) (by omega)
    rw [show lowF s n + 1 + 1 = lowF s n + 2 by omega] at s2
    have k0 : 0 ≤ lowF s n + 1 - n := by omega
    have a1 := (high_le hs (n := lowF s n + 2 - n) (v := lowF s n + 2) (by omega) (by omega)).mpr (by omega)
    have a2 : ¬ highF s (lowF s n + 1 - n) ≤ lowF s n := fun z => by
      have := (high_le hs k0 l0).mp z
      omega
    have a3 := high_lt hs k0 (show lowF s n + 1 - n < lowF s n + 2 - n by omega)
    omega
  · exact q
/-- the number whose pair has the value -/
theorem low_at (hs : 1 ≤ s) (hv : 1 ≤ v) : lowF s (cntF s v) = v ∨ lowF s (cntF s v) ≠ v ∧ highF s (v - cntF s v) = v := by
  by_cases h : lowF s (cntF s v) = v
  · exact .inl h
  · refine .inr ⟨h, ?_⟩
    have c0 := cnt_nn hs (show 0 ≤ v by omega)
    have c1 := cnt_le hs (show 0 ≤ v by omega)
    have l1 := (low_le hs c0 (show 0 ≤ v by omega)).mpr (Int.le_refl _)
    have l2 := (low_le hs c0 (show 0 ≤ v - 1 by omega)).mp (by omega)
    have s1 := cnt_step hs (v := v - 1) (by omega)
    rw [show v - 1 + 1 = v by omega] at s1
    have a1 := (high_le hs (n := v - cntF s v) (v := v) (by omega) (by omega)).mpr (by omega)
    have a2 : ¬ highF s (v - cntF s v) ≤ v - 1 := fun z => by
      have := (high_le hs (by omega) (by omega)).mp z
      omega
    omega
theorem low_num (hs : 1 ≤ s) (hn : 0 ≤ n) : cntF s (lowF s n) = n := by
  have l0 := low_nn hs hn
  have h1 := (low_le hs hn l0).mp (Int.le_refl _)
  have h2 := (low_le hs (cnt_nn hs l0) l0).mpr (Int.le_refl _)
  rcases ilt_or_ge n (cntF s (lowF s n)) with z | z
  · have := low_lt hs hn z
    omega
  · omega
theorem high_num (hs : 1 ≤ s) (hn : 0 ≤ n) : highF s n - cntF s (highF s n) = n := by
  have l0 := high_nn hs hn
  have h1 := (high_le hs hn l0).mp (Int.le_refl _)
  have c1 := cnt_le hs l0
  have h2 := (high_le hs (n := highF s n - cntF s (highF s n)) (by omega) l0).mpr (Int.le_refl _)
  rcases ilt_or_ge n (highF s n - cntF s (highF s n)) with z | z
  · have := high_lt hs hn z
    omega
  · omega
/-- no number is a lesser and a greater one -/
theorem low_ne_high (hs : 1 ≤ s) (hn : 1 ≤ n) (hm : 1 ≤ m) : lowF s n ≠ highF s m := fun e => by
  have h1 := low_num hs (show 0 ≤ n by omega)
  have h2 := high_num hs (show 0 ≤ m by omega)
  rw [← e, h1] at h2
  have l1 := low_ge hs (show 0 ≤ n by omega)
  have s1 := cnt_step hs (v := lowF s n - 1) (by omega)
  rw [show lowF s n - 1 + 1 = lowF s n by omega] at s1
  have a1 : ¬ n ≤ cntF s (lowF s n - 1) := fun z => by
    have := (low_le hs (by omega) (by omega)).mpr z
    omega
  have a2 : ¬ m ≤ lowF s n - 1 - cntF s (lowF s n - 1) := fun z => by
    have := (high_le hs (n := m) (v := lowF s n - 1) (by omega) (by omega)).mpr z
    omega
  omega
end
/-- what the first k pairs have -/
def told (s : Int) (k : Nat) (x : Int) : Prop := ∃ i : Nat, i < k ∧ (x = lowF s i ∨ x = highF s i)
theorem low_fresh {s : Int} (hs : 1 ≤ s) (k : Nat) : ¬ told s k (lowF s k) := fun ⟨i, hi, h⟩ => by
  rcases h with h | h
  · have := low_lt hs (n := (i : Int)) (m := (k : Int)) (by omega) (by omega)
    omega
  · by_cases h0 : i = 0
    · subst h0
      have e : highF s ((0 : Nat) : Int) = 0 := high_zero hs
      rw [e] at h
      have := low_ge hs (n := (k : Int)) (by omega)
      omega
    · exact low_ne_high hs (n := (k : Int)) (m := (i : Int)) (by omega) (by omega) h
theorem below_told {s : Int} (hs : 1 ≤ s) {k : Nat} {x : Int} (h0 : 0 ≤ x) (hx : x < lowF s k) : told s k x := by
  by_cases hz : x = 0
  · subst hz
    refine ⟨0, ?_, .inl (low_zero hs).symm⟩
    by_cases hk : k = 0
    · subst hk
      have : lowF s ((0 : Nat) : Int) = 0 := low_zero hs
      omega
    · omega
  · have c0 := cnt_nn hs h0
    have c1 := cnt_le hs h0
    rcases low_at hs (show 1 ≤ x by omega) with h | ⟨_, h⟩
    · refine ⟨(cntF s x).toNat, ?_, .inl (by rw [show (((cntF s x).toNat : Nat) : Int) = cntF s x by omega]; exact h.symm)⟩
      by_cases hik : (cntF s x).toNat < k
      · exact hik
      · have := low_mono hs (n := (k : Int)) (m := cntF s x) (by omega) (by omega)
        omega
    · refine ⟨(x - cntF s x).toNat, ?_, .inr (by rw [show (((x - cntF s x).toNat : Nat) : Int) = x - cntF s x by omega]; exact h.symm)⟩
      by_cases hik : (x - cntF s x).toNat < k
      · exact hik
      · have := high_mono0 hs (n := (k : Int)) (m := x - cntF s x) (by omega) (by omega)
        have hh : highF s (k : Int) = lowF s k + s * k := rfl
        have : 0 ≤ s * (k : Int) := Int.mul_nonneg (by omega) (by omega)
        omega
end DL

set_option Elab.async false
set_option linter.all false
set_option maxRecDepth 100000
set_option maxHeartbeats 4000000
/-! M2: floors of slopes (whole + times * root of m) / under. -/
namespace DL
open PySem
/-- the whole part from below of t times the root of m -/
def eF (m t : Int) : Int := if 0 ≤ t then isq (t * t * m) else - isq (t * t * m) - 1
def rfF (m w t u : Int) : Int := (w + eF m t) / u
def flF (m w t u k : Int) : Int := rfF m (w * k) (t * k) u
theorem sqm_nn {m : Int} (hm : 0 ≤ m) (t : Int) : 0 ≤ t * t * m := Int.mul_nonneg (sq_nn t) hm
theorem cross_le {A B m r s : Int} (hm : 0 ≤ m) (hA : 0 ≤ A) (hB : 0 ≤ B) (r0 : 0 ≤ r) (s0 : 0 ≤ s) (h1 : r * r ≤ A * A * m) (h2 : s * s ≤ B * B * m) : r * s ≤ A * B * m := by
  rcases ilt_or_ge (A * B * m) (r * s) with h | h
  · have h3 : (A * B * m) * (A * B * m) < (r * s) * (r * s) := sq_lt (Int.mul_nonneg (Int.mul_nonneg hA hB) hm) h
    have h4 : (r * r) * (s * s) ≤ (A * A * m) * (B * B * m) := Int.mul_le_mul h1 h2 (sq_nn s) (sqm_nn hm A)
    have e1 : (r * s) * (r * s) = (r * r) * (s * s) := by grind
    have e2 : (A * B * m) * (A * B * m) = (A * A * m) * (B * B * m) := by grind
    omega
  · exact h
theorem cross_lt {A B m r s : Int} (hm : 0 ≤ m) (hA : 0 ≤ A) (hB : 0 ≤ B) (r0 : 0 ≤ r) (s0 : 0 ≤ s) (h1 : A * A * m < r * r) (h2 : B * B * m < s * s) : A * B * m < r * s := by
  rcases ilt_or_ge (A * B * m) (r * s) with h | h
  · exact h
  · have h3 : (r * s) * (r * s) ≤ (A * B * m) * (A * B * m) := sq_le (Int.mul_nonneg r0 s0) h
    have p1 : 0 ≤ A * A * m := sqm_nn hm A
    have p2 : 0 ≤ B * B * m := sqm_nn hm B
    have h4 : (A * A * m + 1) * (B * B * m + 1) ≤ (r * r) * (s * s) := Int.mul_le_mul (by omega) (by omega) (by omega) (sq_nn r)
    have e1 : (r * s) * (r * s) = (r * r) * (s * s) := by grind
    have e2 : (A * B * m) * (A * B * m) = (A * A * m) * (B * B * m) := by grind
    have e3 : (A * A * m + 1) * (B * B * m + 1) = (A * A * m) * (B * B * m) + A * A * m + B * B * m + 1 := by grind
    omega
theorem isq_super {A B m : Int} (hm : 0 ≤ m) (hA : 0 ≤ A) (hB : 0 ≤ B) : isq (A * A * m) + isq (B * B * m) ≤ isq ((A + B) * (A + B) * m) ∧ isq ((A + B) * (A + B) * m) ≤ isq (A * A * m) + isq (B * B * m) + 1 := by
  obtain ⟨a0, a1, a2⟩ := isq_spec (sqm_nn hm A)
  obtain ⟨b0, b1, b2⟩ := isq_spec (sqm_nn hm B)
  generalize isq (A * A * m) = r at *
  generalize isq (B * B * m) = s at *
  have e : (A + B) * (A + B) * m = A * A * m + 2 * (A * B * m) + B * B * m := by grind
  constructor
  · refine (le_isq (sqm_nn hm _)).mpr (.inr ?_)
    have := cross_le hm hA hB a0 b0 a1 b1
    have e2 : (r + s) * (r + s) = r * r + 2 * (r * s) + s * s := by grind
    omega
  · have h : isq ((A + B) * (A + B) * m) < r + s + 2 := by
      refine (isq_lt (sqm_nn hm _)).mpr ⟨by omega, ?_⟩
      have := cross_lt hm hA hB (show 0 ≤ r + 1 by omega) (show 0 ≤ s + 1 by omega) a2 b2
      have e2 : (r + s + 2) * (r + s + 2) = (r + 1) * (r + 1) + 2 * ((r + 1) * (s + 1)) + (s + 1) * (s + 1) := by grind
      omega
    omega
theorem eF_super {m t a b : Int} (hm : 0 ≤ m) (ha : 1 ≤ a) (hb : 1 ≤ b) (ht : t ≠ 0) : eF m (t * a) + eF m (t * b) ≤ eF m (t * (a + b)) := by
  unfold eF
  rcases ilt_or_ge t 0 with h | h
  · have n1 : t * a < 0 := Int.mul_neg_of_neg_of_pos h (by omega)
    have n2 : t * b < 0 := Int.mul_neg_of_neg_of_pos h (by omega)
    have n3 : t * (a + b) < 0 := Int.mul_neg_of_neg_of_pos h (by omega)
    rw [if_neg (by omega), if_neg (by omega), if_neg (by omega)]
    have s := (isq_super (A := - (t * a)) (B := - (t * b)) hm (by omega) (by omega)).2
    have e1 : -(t * a) * -(t * a) = t * a * (t * a) := by grind
    have e2 : -(t * b) * -(t * b) = t * b * (t * b) := by grind
    have e3 : (-(t * a) + -(t * b)) * (-(t * a) + -(t * b)) = t * (a + b) * (t * (a + b)) := by grind
    rw [e1, e2, e3] at s
    omega
  · have n1 : 0 ≤ t * a := Int.mul_nonneg h (by omega)
    have n2 : 0 ≤ t * b := Int.mul_nonneg h (by omega)
    have n3 : 0 ≤ t * (a + b) := Int.mul_nonneg h (by omega)
    rw [if_pos n1, if_pos n2, if_pos n3]
    have s := (isq_super (A := t * a) (B := t * b) hm n1 n2).1
    have e3 : (t * a + t * b) * (t * a + t * b) = t * (a + b) * (t * (a + b)) := by grind
    rw [e3] at s
    exact s
theorem div_super {X Y u : Int} (hu : 1 ≤ u) : X / u + Y / u ≤ (X + Y) / u := by
  refine (le_div (by omega)).mpr ?_
  have h1 := Int.ediv_mul_le X (show u ≠ 0 by omega)
  have h2 := Int.ediv_mul_le Y (show u ≠ 0 by omega)
  have e : (X / u + Y / u) * u = X / u * u + Y / u * u := by grind
  omega
theorem div_mono {X Y u : Int} (hu : 1 ≤ u) (h : X ≤ Y) : X / u ≤ Y / u := Int.ediv_le_ediv (by omega) h
section
variable {m w t u : Int}
theorem fl_super {a b : Int} (hm : 0 ≤ m) (hu : 1 ≤ u) (ht : t ≠ 0) (ha : 1 ≤ a) (hb : 1 ≤ b) : flF m w t u a + flF m w t u b ≤ flF m w t u (a + b) := by
  unfold flF rfF
  refine Int.le_trans (div_super hu) (div_mono hu ?_)
  have := eF_super hm ha hb ht
  have e : w * (a + b) = w * a + w * b := by grind
  omega
theorem fl_step {k : Int} (hm : 0 ≤ m) (hu : 1 ≤ u) (ht : t ≠ 0) (h1 : 1 ≤ flF m w t u 1) (hk : 1 ≤ k) : flF m w t u k + 1 ≤ flF m w t u (k + 1) := by
  have := fl_super (w := w) hm hu ht hk (Int.le_refl 1)
  omega
theorem fl_add (hm : 0 ≤ m) (hu : 1 ≤ u) (ht : t ≠ 0) (h1 : 1 ≤ flF m w t u 1) : ∀ (n : Nat) {k : Int}, 1 ≤ k → flF m w t u k + n ≤ flF m w t u (k + n)
  | 0, k, _ => by
    rw [show k + ((0 : Nat) : Int) = k by omega]
    omega
  | n + 1, k, hk => by
    have h := fl_add hm hu ht h1 n hk
    have s := fl_step (w := w) hm hu ht h1 (k := k + n) (by omega)
    rw [show k + ((n + 1 : Nat) : Int) = k + n + 1 by omega]
    omega
theorem fl_lt {j k : Int} (hm : 0 ≤ m) (hu : 1 ≤ u) (ht : t ≠ 0) (h1 : 1 ≤ flF m w t u 1) (hj : 1 ≤ j) (h : j < k) : flF m w t u j < flF m w t u k := by
  have := fl_add (w := w) hm hu ht h1 (k - j).toNat hj
  rw [show j + ((k - j).toNat : Int) = k by omega] at this
  omega
theorem fl_ge {k : Int} (hm : 0 ≤ m) (hu : 1 ≤ u) (ht : t ≠ 0) (h1 : 1 ≤ flF m w t u 1) (hk : 1 ≤ k) : k ≤ flF m w t u k := by
  have := fl_add (w := w) hm hu ht h1 (k - 1).toNat (Int.le_refl 1)
  rw [show (1 : Int) + ((k - 1).toNat : Int) = k by omega] at this
  omega
theorem fl_inj {j k : Int} (hm : 0 ≤ m) (hu : 1 ≤ u) (ht : t ≠ 0) (h1 : 1 ≤ flF m w t u 1) (hj : 1 ≤ j) (hk : 1 ≤ k) (h : flF m w t u j = flF m w t u k) : j = k := by
  rcases ilt_or_ge j k with g | g
  · have := fl_lt (w := w) hm hu ht h1 hj g
    omega
  · by_cases e : j = k
    · exact e
    · have := fl_lt (w := w) hm hu ht h1 hk (show k < j by omega)
      omega
/-- the law's own floor -/
def lfF (m w t u k : Int) : Int := if 0 < t then (k * w + isq (k * k * t * t * m)) / u else (k * w - isq (k * k * t * t * m) - 1) / u
theorem lf_eq {k : Int} (ht : t ≠ 0) (hk : 1 ≤ k) : lfF m w t u k = flF m w t u k := by
  unfold lfF flF rfF eF
  have e : t * k * (t * k) * m = k * k * t * t * m := by grind
  rw [e, Int.mul_comm k w]
  rcases ilt_or_ge t 0 with h | h
  · have n1 : t * k < 0 := Int.mul_neg_of_neg_of_pos h (by omega)
    rw [if_neg (by omega), if_neg (by omega)]
    congr 1
    omega
  · have n1 : 0 ≤ t * k := Int.mul_nonneg h (by omega)
    rw [if_pos (by omega), if_pos n1]
/-- no number's square is m times a square -/
theorem nosq (hm : 0 ≤ m) (hs : isq m * isq m ≠ m) : ∀ (c : Nat) (n x : Int), n.natAbs ≤ c → x * x = n * n * m → n = 0 := by
  obtain ⟨a0, a1, a2⟩ := isq_spec hm
  generalize isq m = a at *
  have pos : ∀ (c : Nat) (n x : Int), 0 ≤ n → 0 ≤ x → n.natAbs ≤ c → x * x = n * n * m → n = 0 := by
    intro c
    induction c with
    | zero => intro n x hn _ hc _; omega
    | succ c ih =>
      intro n x hn hx hc h
      by_cases h0 : n = 0
      · exact h0
      · have l1 : a * n ≤ x := by
          rcases ilt_or_ge x (a * n) with g | g
          · have := sq_lt hx g
            have e : (a * n) * (a * n) = n * n * (a * a) := by grind
            have := Int.mul_le_mul_of_nonneg_left a1 (sq_nn n)
            omega
          · exact g
        have l2 : x < (a + 1) * n := by
          rcases ilt_or_ge x ((a + 1) * n) with g | g
          · exact g
          · have g2 := sq_le (show 0 ≤ (a + 1) * n from Int.mul_nonneg (by omega) hn) g
            have e : ((a + 1) * n) * ((a + 1) * n) = n * n * ((a + 1) * (a + 1)) := by grind
            have p : 0 < n * n := sq_pos h0
            have := Int.mul_lt_mul_of_pos_left a2 p
            omega
        have e2 : (a + 1) * n = a * n + n := by grind
        have l3 : 0 ≤ m * n - a * x := by
          have q1 : (a * x) * n ≤ (m * n) * n := by
            have := Int.mul_le_mul_of_nonneg_right l1 hx
            have e : (m * n) * n = n * n * m := by grind
            have e' : (a * x) * n = (a * n) * x := by grind
            omega
          have := Int.le_of_mul_le_mul_right q1 (show 0 < n by omega)
          omega
        have z := ih (x - a * n) (m * n - a * x) (by omega) l3 (by omega) (by
          have e : (m * n - a * x) * (m * n - a * x) - (x - a * n) * (x - a * n) * m = (a * a - m) * (x * x - n * n * m) := by grind
          rw [h, Int.sub_self, Int.mul_zero] at e
          omega)
        have hx2 : x = a * n := by omega
        rw [hx2] at h
        have e3 : (a * n) * (a * n) = n * n * (a * a) := by grind
        rw [e3] at h
        have := Int.eq_of_mul_eq_mul_left (show n * n ≠ 0 from by have := sq_pos h0; omega) h
        exact absurd this hs
  intro c n x hc h
  have := pos c (n.natAbs : Int) (x.natAbs : Int) (by omega) (by omega) (by omega) (by
    rw [← Int.natCast_mul, ← Int.natCast_mul, Int.natAbs_mul_self, Int.natAbs_mul_self]
    exact h)
  omega
/-- what _law_floor_fits asks -/
theorem fits_pos {k r q sq : Int} (hu : 1 ≤ u) (hq : q = (k * w + r) / u) (r0 : 0 ≤ r) (r1 : r * r ≤ sq) (r2 : sq < (r + 1) * (r + 1)) :
    (q * u - k * w ≤ 0 ∨ (q * u - k * w) * (q * u - k * w) ≤ sq) ∧ 0 < (q + 1) * u - k * w ∧ sq < ((q + 1) * u - k * w) * ((q + 1) * u - k * w) := by
  have h1 := Int.ediv_mul_le (k * w + r) (show u ≠ 0 by omega)
  have h2 := Int.lt_ediv_add_one_mul_self (k * w + r) (show 0 < u by omega)
  rw [← hq] at h1 h2
  refine ⟨?_, by omega, ?_⟩
  · rcases ilt_or_ge 0 (q * u - k * w) with g | g
    · right
      exact Int.le_trans (sq_le (by omega) (show q * u - k * w ≤ r by omega)) r1
    · exact .inl g
  · exact Int.lt_of_lt_of_le r2 (sq_le (by omega) (by omega))
theorem fits_neg {k r q sq : Int} (hu : 1 ≤ u) (hq : q = (k * w - r - 1) / u) (r0 : 0 ≤ r) (r1 : r * r < sq) (r2 : sq < (r + 1) * (r + 1)) :
    q * u - k * w ≤ 0 ∧ sq ≤ (q * u - k * w) * (q * u - k * w) ∧ (0 ≤ (q + 1) * u - k * w ∨ ((q + 1) * u - k * w) * ((q + 1) * u - k * w) < sq) := by
  have h1 := Int.ediv_mul_le (k * w - r - 1) (show u ≠ 0 by omega)
  have h2 := Int.lt_ediv_add_one_mul_self (k * w - r - 1) (show 0 < u by omega)
  rw [← hq] at h1 h2
  refine ⟨by omega, ?_, ?_⟩
  · have := sq_le (show 0 ≤ r + 1 by omega) (show r + 1 ≤ -(q * u - k * w) by omega)
    have e : -(q * u - k * w) * -(q * u - k * w) = (q * u - k * w) * (q * u - k * w) := by grind
    omega
  · rcases ilt_or_ge ((q + 1) * u - k * w) 0 with g | g
    · right
      have := sq_le (show 0 ≤ -((q + 1) * u - k * w) by omega) (show -((q + 1) * u - k * w) ≤ r by omega)
      have e : -((q + 1) * u - k * w) * -((q + 1) * u - k * w) = ((q + 1) * u - k * w) * ((q + 1) * u - k * w) := by grind
      omega
    · exact .inl g
end
theorem bd60 {i : Int} (h1 : 0 ≤ i) (h2 : i ≤ 10 ^ 60) : Bd 200 i := (show Bd 200 ((10 : Int) ^ 60) by unfold Bd; decide +kernel).le h1 h2
end DL

set_option Elab.async false
set_option linter.all false
set_option maxRecDepth 100000
set_option maxHeartbeats 4000000
/-! M3: numbers written by the row 1, s + 1, ..: words (the last digit first), shifts, cuts. -/
namespace DL
open PySem

/-- one nought more behind the word of v -/
def shF (s v : Int) : Int := v + s * cntF s v
section
variable {s v w n d : Int}
theorem cnt_iff (hs : 1 ≤ s) (hv : 0 ≤ v) {p : Int} (hp : 0 ≤ p) : cntF s v = p ↔ lowF s p ≤ v ∧ v < lowF s (p + 1) := by
  constructor
  · intro e
    refine ⟨(low_le hs hp hv).mpr (by omega), ?_⟩
    rcases ilt_or_ge v (lowF s (p + 1)) with h | h
    · exact h
    · have := (low_le hs (by omega) hv).mp h
      omega
  · rintro ⟨a, b⟩
    have h1 := (low_le hs hp hv).mp a
    rcases ilt_or_ge p (cntF s v) with h | h
    · have := (low_le hs (show 0 ≤ p + 1 by omega) hv).mpr (by omega)
      omega
    · omega
theorem hcnt_iff (hs : 1 ≤ s) (hv : 0 ≤ v) {p : Int} (hp : 0 ≤ p) : v - cntF s v = p ↔ highF s p ≤ v ∧ v < highF s (p + 1) := by
  constructor
  · intro e
    refine ⟨(high_le hs hp hv).mpr (by omega), ?_⟩
    rcases ilt_or_ge v (highF s (p + 1)) with h | h
    · exact h
    · have := (high_le hs (by omega) hv).mp h
      omega
  · rintro ⟨a, b⟩
    have h1 := (high_le hs hp hv).mp a
    rcases ilt_or_ge p (v - cntF s v) with h | h
    · have := (high_le hs (show 0 ≤ p + 1 by omega) hv).mpr (by omega)
      omega
    · omega
theorem low_one (hs : 1 ≤ s) : lowF s 1 = 1 := by
  have a := low_ge hs (show (0 : Int) ≤ 1 by decide)
  rcases ilt_or_ge 1 (lowF s 1) with h | h
  · obtain ⟨i, hi, e⟩ := below_told (k := 1) hs (show (0 : Int) ≤ 1 by decide) h
    have : i = 0 := by omega
    subst this
    have e1 : lowF s ((0 : Nat) : Int) = 0 := low_zero hs
    have e2 : highF s ((0 : Nat) : Int) = 0 := high_zero hs
    omega
  · omega
theorem cnt_zero (hs : 1 ≤ s) : cntF s 0 = 0 := (cnt_iff hs (Int.le_refl 0) (Int.le_refl 0)).mpr ⟨by rw [low_zero hs]; exact Int.le_refl 0, by rw [Int.zero_add, low_one hs]; decide⟩
theorem cnt_mono (hs : 1 ≤ s) (hv : 0 ≤ v) (h : v ≤ w) : cntF s v ≤ cntF s w := by
  have c := cnt_nn hs hv
  have := ((cnt_iff hs hv c).mp rfl).1
  exact (low_le hs c (by omega)).mp (by omega)
theorem cnt_pos (hs : 1 ≤ s) (hv : 1 ≤ v) : 1 ≤ cntF s v := (low_le hs (by decide) (by omega)).mp (by rw [low_one hs]; exact hv)
theorem sh_nn (hs : 1 ≤ s) (hv : 0 ≤ v) : v ≤ shF s v := by
  have := Int.mul_nonneg (show 0 ≤ s by omega) (cnt_nn hs hv)
  unfold shF; omega
theorem sh_gt (hs : 1 ≤ s) (hv : 1 ≤ v) : v < shF s v := by
  have := Int.mul_le_mul hs (cnt_pos hs hv) (by decide) (by omega)
  unfold shF; omega
theorem sh_zero (hs : 1 ≤ s) : shF s 0 = 0 := by unfold shF; rw [cnt_zero hs]; omega
theorem sh_add (hs : 1 ≤ s) (hv : 0 ≤ v) (h : v ≤ w) : shF s v + (w - v) ≤ shF s w := by
  have := Int.mul_le_mul_of_nonneg_left (cnt_mono hs hv h) (show 0 ≤ s by omega)
  unfold shF; omega
theorem sh_lt (hs : 1 ≤ s) (hv : 0 ≤ v) (h : v < w) : shF s v < shF s w := by
  have := sh_add hs hv (show v ≤ w by omega)
  omega
theorem sh_le (hs : 1 ≤ s) (hv : 0 ≤ v) (h : v ≤ w) : shF s v ≤ shF s w := by
  have := sh_add hs hv h
  omega
theorem sh_inj (hs : 1 ≤ s) (hv : 0 ≤ v) (hw : 0 ≤ w) (h : shF s v = shF s w) : v = w := by
  rcases ilt_or_ge v w with a | a
  · have := sh_lt hs hv a; omega
  · rcases ilt_or_ge w v with b | b
    · have := sh_lt hs hw b; omega
    · omega
/-- the next shift is one on, or s + 1 -/
theorem sh_next (hs : 1 ≤ s) (hv : 0 ≤ v) : (cntF s (v + 1) = cntF s v ∧ shF s (v + 1) = shF s v + 1) ∨ (cntF s (v + 1) = cntF s v + 1 ∧ shF s (v + 1) = shF s v + 1 + s) := by
  obtain ⟨a, b⟩ := cnt_step hs hv
  have : cntF s (v + 1) = cntF s v ∨ cntF s (v + 1) = cntF s v + 1 := by omega
  rcases this with h | h
  · left; unfold shF; rw [h]; exact ⟨rfl, by omega⟩
  · right
    refine ⟨h, ?_⟩
    unfold shF
    rw [h, show s * (cntF s v + 1) = s * cntF s v + s by grind]
    omega
theorem sh_cnt (hs : 1 ≤ s) (hv : 0 ≤ v) (h0 : 0 ≤ d) (h1 : d ≤ s) : cntF s (shF s v + d) = shF s v + d - cntF s v := by
  have c0 := cnt_nn hs hv
  obtain ⟨a, b⟩ := (cnt_iff hs hv c0).mp rfl
  have n0 := sh_nn hs hv
  have := (hcnt_iff (v := shF s v + d) hs (by omega) c0).mpr (by
    have e : shF s v = v + s * cntF s v := rfl
    have e1 : highF s (cntF s v) = lowF s (cntF s v) + s * cntF s v := rfl
    have e2 : highF s (cntF s v + 1) = lowF s (cntF s v + 1) + s * (cntF s v + 1) := rfl
    have e3 : s * (cntF s v + 1) = s * cntF s v + s := by grind
    constructor <;> omega)
  omega
theorem low_iff (hs : 1 ≤ s) (hv : 1 ≤ v) : lowF s (cntF s v) = v ↔ cntF s v = cntF s (v - 1) + 1 := by
  have st := cnt_step (v := v - 1) hs (by omega)
  rw [show v - 1 + 1 = v by omega] at st
  have c0 := cnt_nn hs (show 0 ≤ v by omega)
  have a := ((cnt_iff hs (show 0 ≤ v by omega) c0).mp rfl).1
  constructor
  · intro e
    rcases ilt_or_ge (cntF s (v - 1)) (cntF s v) with h | h
    · omega
    · have := (low_le (v := v - 1) hs c0 (by omega)).mpr h
      omega
  · intro e
    rcases ilt_or_ge (v - 1) (lowF s (cntF s v)) with h | h
    · omega
    · have := (low_le (v := v - 1) hs c0 (by omega)).mp h
      omega
theorem low_sh (h : lowF s (cntF s v) = v) : shF s v = highF s (cntF s v) := by
  show v + s * cntF s v = lowF s (cntF s v) + s * cntF s v
  rw [h]
theorem sh_low (hs : 1 ≤ s) (hv : 1 ≤ v) : lowF s (cntF s (shF s v)) = shF s v ↔ lowF s (cntF s v) ≠ v := by
  have e := sh_cnt (d := 0) hs (show 0 ≤ v by omega) (Int.le_refl 0) (by omega)
  rw [Int.add_zero] at e
  have g := sh_gt hs hv
  have c1 := cnt_pos hs hv
  have c2 := cnt_le hs (show 0 ≤ v by omega)
  constructor
  · intro h1 h2
    have h3 := low_sh h2
    exact low_ne_high hs (n := cntF s (shF s v)) (m := cntF s v) (by omega) c1 (by omega)
  · intro h
    rcases low_at (v := shF s v) hs (by omega) with a | ⟨_, a⟩
    · exact a
    · rw [show shF s v - cntF s (shF s v) = cntF s v by omega] at a
      have e1 : highF s (cntF s v) = lowF s (cntF s v) + s * cntF s v := rfl
      have e2 : shF s v = v + s * cntF s v := rfl
      exact absurd (by omega) h

/-! ### the last digit left away -/
@[irreducible] def cutF (s n : Int) : Int := min (n - s * (n - cntF s n)) (lowF s (n - cntF s n + 1) - 1)
theorem cut_spec (hs : 1 ≤ s) (hn : 0 ≤ n) : 0 ≤ cutF s n ∧ cntF s (cutF s n) = n - cntF s n ∧ shF s (cutF s n) ≤ n ∧ n < shF s (cutF s n + 1) := by
  have c1 := cnt_le hs hn
  obtain ⟨a, b⟩ := (hcnt_iff (p := n - cntF s n) hs hn (by omega)).mp rfl
  have e1 : highF s (n - cntF s n) = lowF s (n - cntF s n) + s * (n - cntF s n) := rfl
  have e2 : highF s (n - cntF s n + 1) = lowF s (n - cntF s n + 1) + s * (n - cntF s n + 1) := rfl
  have e3 : s * (n - cntF s n + 1) = s * (n - cntF s n) + s := by grind
  have lt := low_lt hs (show 0 ≤ n - cntF s n by omega) (show n - cntF s n < n - cntF s n + 1 by omega)
  have l0 := low_nn hs (show 0 ≤ n - cntF s n by omega)
  have hC : lowF s (n - cntF s n) ≤ cutF s n ∧ cutF s n < lowF s (n - cntF s n + 1) := by unfold cutF; omega
  have c : cntF s (cutF s n) = n - cntF s n := (cnt_iff hs (by omega) (by omega)).mpr hC
  refine ⟨by omega, c, ?_, ?_⟩
  · unfold shF
    rw [c]
    unfold cutF
    omega
  · rcases sh_next (v := cutF s n) hs (by omega) with ⟨x, y⟩ | ⟨x, y⟩
    · rw [y]
      have : cutF s n + 1 < lowF s (n - cntF s n + 1) := by
        have := ((cnt_iff (v := cutF s n + 1) (p := n - cntF s n) hs (by omega) (by omega)).mp (by omega)).2
        omega
      have e : cutF s n = n - s * (n - cntF s n) := by unfold cutF at *; omega
      unfold shF
      rw [c]
      omega
    · rw [y]
      have := ((cnt_iff (v := cutF s n + 1) (p := n - cntF s n + 1) hs (by omega) (by omega)).mp (by omega)).1
      unfold shF
      rw [c]
      omega
theorem cut_eq (hs : 1 ≤ s) (hv : 0 ≤ v) (h1 : shF s v ≤ n) (h2 : n < shF s (v + 1)) : cutF s n = v := by
  have hn : 0 ≤ n := by have := sh_nn hs hv; omega
  obtain ⟨c0, _, c1, c2⟩ := cut_spec hs hn
  rcases ilt_or_ge (cutF s n) v with h | h
  · have := sh_le hs (show 0 ≤ cutF s n + 1 by omega) (show cutF s n + 1 ≤ v by omega)
    omega
  · rcases ilt_or_ge v (cutF s n) with h' | h'
    · have := sh_le hs (show 0 ≤ v + 1 by omega) (show v + 1 ≤ cutF s n by omega)
      omega
    · omega
theorem cut_sh (hs : 1 ≤ s) (hv : 0 ≤ v) : cutF s (shF s v) = v := cut_eq hs hv (Int.le_refl _) (sh_lt hs hv (by omega))
theorem cut_zero (hs : 1 ≤ s) : cutF s 0 = 0 := by
  have := cut_sh (v := 0) hs (Int.le_refl 0)
  rwa [sh_zero hs] at this
theorem cut_lt (hs : 1 ≤ s) (hn : 1 ≤ n) : cutF s n < n := by
  obtain ⟨c0, _, c1, _⟩ := cut_spec hs (show 0 ≤ n by omega)
  by_cases h : cutF s n = 0
  · omega
  · have := sh_gt (v := cutF s n) hs (by omega)
    omega
theorem cut_last (hs : 1 ≤ s) (hn : 0 ≤ n) : 0 ≤ n - shF s (cutF s n) ∧ n - shF s (cutF s n) ≤ s := by
  obtain ⟨c0, _, c1, c2⟩ := cut_spec hs hn
  rcases sh_next hs c0 with ⟨_, y⟩ | ⟨_, y⟩ <;> omega
theorem cut_mono (hs : 1 ≤ s) (hv : 0 ≤ v) (h : v ≤ w) : cutF s v ≤ cutF s w := by
  obtain ⟨c0, _, c1, c2⟩ := cut_spec hs hv
  obtain ⟨b0, _, b1, b2⟩ := cut_spec (n := w) hs (by omega)
  rcases ilt_or_ge (cutF s w) (cutF s v) with a | a
  · have := sh_le hs (show 0 ≤ cutF s w + 1 by omega) (show cutF s w + 1 ≤ cutF s v by omega)
    omega
  · exact a
/-- cut is one on just where the last digit is 0 -/
theorem cut_next (hs : 1 ≤ s) (hn : 0 ≤ n) : (shF s (cutF s (n + 1)) = n + 1 ∧ cutF s (n + 1) = cutF s n + 1) ∨ (shF s (cutF s (n + 1)) ≠ n + 1 ∧ cutF s (n + 1) = cutF s n) := by
  obtain ⟨c0, _, c1, c2⟩ := cut_spec hs hn
  by_cases h : shF s (cutF s n + 1) = n + 1
  · left
    have e : cutF s (n + 1) = cutF s n + 1 := by rw [← h]; exact cut_sh hs (by omega)
    exact ⟨by rw [e]; exact h, e⟩
  · right
    have e : cutF s (n + 1) = cutF s n := cut_eq hs c0 (by omega) (by omega)
    exact ⟨by rw [e]; omega, e⟩
end

/-! ### words, the last digit first -/
def DgR (s : Int) (r : List Int) : Prop := ∀ d ∈ r, 0 ≤ d ∧ d ≤ s
def WdR (s : Int) : List Int → Prop
  | [] => True
  | d :: r => 0 ≤ d ∧ d ≤ s ∧ (r = [] → d ≠ 0) ∧ (r.headD 0 = s → d = 0) ∧ WdR s r
def valR (s : Int) : List Int → Int
  | [] => 0
  | d :: r => shF s (valR s r) + d
theorem WdR.dg {s : Int} : ∀ {r : List Int}, WdR s r → DgR s r
  | [], _ => fun d h => by cases h
  | d :: r, ⟨a, b, _, _, h⟩ => fun e he => by
    rcases List.mem_cons.mp he with rfl | he
    · exact ⟨a, b⟩
    · exact h.dg e he
section
variable {s : Int}
theorem val_nn (hs : 1 ≤ s) : ∀ {r : List Int}, DgR s r → 0 ≤ valR s r
  | [], _ => Int.le_refl 0
  | d :: r, h => by
    have a := val_nn hs (r := r) fun e he => h e (List.mem_cons_of_mem _ he)
    have b := sh_nn hs a
    have c := h d List.mem_cons_self
    show 0 ≤ shF s (valR s r) + d
    omega
theorem wd_pos (hs : 1 ≤ s) : ∀ {r : List Int}, WdR s r → r ≠ [] → 1 ≤ valR s r
  | [], _, h => absurd rfl h
  | d :: r, ⟨a, b, c, e, h⟩, _ => by
    show 1 ≤ shF s (valR s r) + d
    by_cases hr : r = []
    · have := c hr
      subst hr
      show 1 ≤ shF s 0 + d
      rw [sh_zero hs]
      omega
    · have g := wd_pos hs h hr
      have := sh_gt hs g
      omega
theorem cnt_one (hs : 1 ≤ s) : cntF s 1 = 1 := by
  have := low_num hs (show (0 : Int) ≤ 1 by decide)
  rwa [low_one hs] at this
theorem wd_gap (hs : 1 ≤ s) {d : Int} {r : List Int} (h : WdR s (d :: r)) : shF s (valR s r) ≤ valR s (d :: r) ∧ valR s (d :: r) < shF s (valR s r + 1) := by
  obtain ⟨a, b, c, e, h⟩ := h
  have v0 := val_nn hs h.dg
  show shF s (valR s r) ≤ shF s (valR s r) + d ∧ shF s (valR s r) + d < shF s (valR s r + 1)
  refine ⟨by omega, ?_⟩
  by_cases hd : d = 0
  · have := sh_lt hs v0 (show valR s r < valR s r + 1 by omega)
    omega
  · have hc : cntF s (valR s r + 1) = cntF s (valR s r) + 1 := by
      cases r with
      | nil =>
        show cntF s (0 + 1) = cntF s 0 + 1
        rw [cnt_zero hs, Int.zero_add, cnt_one hs]
      | cons x r =>
        have hx : x ≠ s := fun z => hd (e z)
        obtain ⟨a', b', _, _, h'⟩ := h
        have u0 := val_nn hs h'.dg
        have e1 := sh_cnt (d := x) hs u0 a' b'
        have e2 := sh_cnt (d := x + 1) hs u0 (by omega) (by omega)
        show cntF s (shF s (valR s r) + x + 1) = cntF s (shF s (valR s r) + x) + 1
        rw [Int.add_assoc, e2, e1]
        omega
    rcases sh_next hs v0 with ⟨x, _⟩ | ⟨_, y⟩ <;> omega
theorem wd_uniq (hs : 1 ≤ s) : ∀ {r t : List Int}, WdR s r → WdR s t → valR s r = valR s t → r = t
  | [], [], _, _, _ => rfl
  | [], e :: t, _, h, q => by
    have := wd_pos hs h (by simp)
    have z : (0 : Int) = valR s (e :: t) := q
    omega
  | d :: r, [], h, _, q => by
    have := wd_pos hs h (by simp)
    have z : valR s (d :: r) = 0 := q
    omega
  | d :: r, e :: t, h, h', q => by
    obtain ⟨a1, a2⟩ := wd_gap hs h
    obtain ⟨b1, b2⟩ := wd_gap hs h'
    obtain ⟨_, _, _, _, hr⟩ := h
    obtain ⟨_, _, _, _, ht⟩ := h'
    have v0 := val_nn hs hr.dg
    have u0 := val_nn hs ht.dg
    have hv : valR s r = valR s t := by
      rw [← cut_eq hs v0 a1 a2, ← cut_eq hs u0 b1 b2, q]
    have e1 := wd_uniq hs hr ht hv
    subst e1
    have z : shF s (valR s r) + d = shF s (valR s r) + e := q
    have : d = e := by omega
    rw [this]
def wdN (s : Int) : Nat → Int → List Int
  | 0, _ => []
  | k + 1, n => if n ≤ 0 then [] else (n - shF s (cutF s n)) :: wdN s k (cutF s n)
/-- the word of a number -/
@[irreducible] def wdR (s n : Int) : List Int := wdN s n.toNat n
theorem wdR_def (s n : Int) : wdR s n = wdN s n.toNat n := by unfold wdR; rfl
theorem wdN_ok (hs : 1 ≤ s) : ∀ (k : Nat) (n : Int), 0 ≤ n → n.toNat ≤ k → WdR s (wdN s k n) ∧ valR s (wdN s k n) = n
  | 0, n, h0, h => ⟨trivial, by show (0 : Int) = n; omega⟩
  | k + 1, n, h0, h => by
    show WdR s (if n ≤ 0 then [] else _) ∧ valR s (if n ≤ 0 then [] else _) = n
    by_cases hn : n ≤ 0
    · rw [if_pos hn]
      exact ⟨trivial, by show (0 : Int) = n; omega⟩
    rw [if_neg hn]
    obtain ⟨c0, _, c1, c2⟩ := cut_spec hs h0
    have cl := cut_lt (n := n) hs (by omega)
    obtain ⟨d0, d1⟩ := cut_last hs h0
    obtain ⟨w, v⟩ := wdN_ok hs k (cutF s n) c0 (by omega)
    refine ⟨⟨d0, d1, fun e => ?_, fun e => ?_, w⟩, ?_⟩
    · rw [e] at v
      have : (0 : Int) = cutF s n := v
      rw [← this, sh_zero hs]
      omega
    · cases hr : wdN s k (cutF s n) with
      | nil => rw [hr] at e; have : (0 : Int) = s := e; omega
      | cons x r =>
        rw [hr] at e w v
        have ex : x = s := e
        subst ex
        obtain ⟨_, g⟩ := wd_gap hs w
        obtain ⟨_, _, _, _, h'⟩ := w
        have u0 := val_nn hs h'.dg
        have ev : valR x (x :: r) = shF x (valR x r) + x := rfl
        rcases sh_next hs u0 with ⟨_, y⟩ | ⟨y0, y⟩
        · omega
        · have e1 : cutF x n + 1 = shF x (valR x r + 1) := by omega
          have lw : lowF x (cntF x (valR x r + 1)) = valR x r + 1 := (low_iff hs (by omega)).mpr (by rw [show valR x r + 1 - 1 = valR x r by omega]; exact y0)
          have nl : ¬ lowF x (cntF x (cutF x n + 1)) = cutF x n + 1 := fun z => by
            rw [e1] at z
            exact (sh_low hs (by omega)).mp z lw
          rw [low_iff hs (by omega), show cutF x n + 1 - 1 = cutF x n by omega] at nl
          rcases sh_next (v := cutF x n) hs c0 with ⟨_, z⟩ | ⟨z0, _⟩
          · omega
          · exact absurd z0 nl
    · show shF s (valR s (wdN s k (cutF s n))) + (n - shF s (cutF s n)) = n
      rw [v]
      omega
theorem wd_ok {n : Int} (hs : 1 ≤ s) (hn : 0 ≤ n) : WdR s (wdR s n) := by rw [wdR_def]; exact (wdN_ok hs _ n hn (Nat.le_refl _)).1
theorem wd_val {n : Int} (hs : 1 ≤ s) (hn : 0 ≤ n) : valR s (wdR s n) = n := by rw [wdR_def]; exact (wdN_ok hs _ n hn (Nat.le_refl _)).2
theorem wd_eq (hs : 1 ≤ s) {r : List Int} (h : WdR s r) : r = wdR s (valR s r) := wd_uniq hs h (wd_ok hs (val_nn hs h.dg)) (wd_val hs (val_nn hs h.dg)).symm
theorem wd_nil (hs : 1 ≤ s) : wdR s 0 = [] := by rw [wdR_def]; rfl
theorem wd_ne {n : Int} (hs : 1 ≤ s) (hn : 1 ≤ n) : wdR s n ≠ [] := fun e => by
  have := wd_val hs (show 0 ≤ n by omega)
  rw [e] at this
  have z : (0 : Int) = n := this
  omega
theorem wd_cons {n : Int} (hs : 1 ≤ s) (hn : 1 ≤ n) : wdR s n = (n - shF s (cutF s n)) :: wdR s (cutF s n) := by
  obtain ⟨c0, _⟩ := cut_spec hs (show 0 ≤ n by omega)
  obtain ⟨k, hk⟩ : ∃ k, n.toNat = k + 1 := ⟨n.toNat - 1, by omega⟩
  have e : wdR s n = (n - shF s (cutF s n)) :: wdN s k (cutF s n) := by
    rw [wdR_def, hk]
    show (if n ≤ 0 then [] else _) = _
    rw [if_neg (by omega)]
  have w := wd_ok hs (show 0 ≤ n by omega)
  rw [e] at w ⊢
  have cl := cut_lt (n := n) hs hn
  have v := (wdN_ok hs k (cutF s n) c0 (by omega)).2
  have := wd_eq hs w.2.2.2.2
  rw [v] at this
  rw [← this]
theorem wd_tail {n : Int} (hs : 1 ≤ s) (hn : 0 ≤ n) : (wdR s n).tail = wdR s (cutF s n) := by
  by_cases h : n = 0
  · subst h
    rw [cut_zero hs, wd_nil hs]
    rfl
  · rw [wd_cons hs (by omega)]
    rfl

/-! ### noughts at the end -/
def nz : List Int → Nat
  | [] => 0
  | d :: r => if d = 0 then nz r + 1 else 0
theorem nz_le : ∀ r : List Int, nz r ≤ r.length
  | [] => Nat.le_refl _
  | d :: r => by
    show (if d = 0 then nz r + 1 else 0) ≤ r.length + 1
    have := nz_le r
    split <;> omega
theorem nz_low (hs : 1 ≤ s) : ∀ {r : List Int}, WdR s r → r ≠ [] → (nz r % 2 = 0 ↔ lowF s (cntF s (valR s r)) = valR s r)
  | [], _, h => absurd rfl h
  | d :: r, w, _ => by
    have hp := wd_pos hs w (by simp)
    obtain ⟨a, b, c, e, h⟩ := w
    have v0 := val_nn hs h.dg
    show ((if d = 0 then nz r + 1 else 0) % 2 = 0 ↔ _)
    by_cases hd : d = 0
    · rw [if_pos hd]
      have hr : r ≠ [] := fun z => c z hd
      have ih := nz_low hs h hr
      have p := wd_pos hs h hr
      have e1 : valR s (d :: r) = shF s (valR s r) := by rw [hd]; exact Int.add_zero _
      rw [e1, sh_low hs p, show (lowF s (cntF s (valR s r)) ≠ valR s r) ↔ ¬ nz r % 2 = 0 from (not_congr ih).symm]
      omega
    · rw [if_neg hd]
      refine ⟨fun _ => (low_iff hs hp).mpr ?_, fun _ => rfl⟩
      show cntF s (shF s (valR s r) + d) = cntF s (shF s (valR s r) + d - 1) + 1
      rw [sh_cnt hs v0 a b, show shF s (valR s r) + d - 1 = shF s (valR s r) + (d - 1) by omega, sh_cnt hs v0 (by omega) (by omega)]
      omega
/-- shifted so often -/
def shK (s : Int) : Nat → Int → Int
  | 0, v => v
  | k + 1, v => shF s (shK s k v)
@[irreducible] def shN (s : Int) (k : Nat) (v : Int) : Int := shK s k v
theorem shN_0 (s v : Int) : shN s 0 v = v := by unfold shN; rfl
theorem shN_s (s : Int) (k : Nat) (v : Int) : shN s (k + 1) v = shF s (shN s k v) := by unfold shN; rfl
theorem shN_1 (s v : Int) : shN s 1 v = shF s v := by rw [shN_s, shN_0]
theorem val_zeros (r : List Int) : ∀ k : Nat, valR s (List.replicate k 0 ++ r) = shN s k (valR s r)
  | 0 => (shN_0 s _).symm
  | k + 1 => by
    rw [shN_s]
    show shF s (valR s (List.replicate k 0 ++ r)) + 0 = shF s (shN s k (valR s r))
    rw [val_zeros r k, Int.add_zero]
theorem wd_zeros {r : List Int} (hs : 1 ≤ s) (h : WdR s r) (hr : r ≠ []) : ∀ k : Nat, WdR s (List.replicate k 0 ++ r)
  | 0 => h
  | k + 1 => ⟨Int.le_refl 0, by omega, fun e => absurd (List.append_eq_nil_iff.mp e).2 hr, fun _ => rfl, wd_zeros hs h hr k⟩
theorem nz_zeros (r : List Int) : ∀ k : Nat, nz (List.replicate k 0 ++ r) = k + nz r
  | 0 => by simp
  | k + 1 => by
    show (if (0 : Int) = 0 then nz (List.replicate k 0 ++ r) + 1 else 0) = _
    rw [if_pos rfl, nz_zeros r k]
    omega
theorem shN_nn (hs : 1 ≤ s) {v : Int} (hv : 0 ≤ v) : ∀ k : Nat, v ≤ shN s k v
  | 0 => by rw [shN_0]; exact Int.le_refl _
  | k + 1 => by
    have a := shN_nn hs hv k
    have := sh_nn hs (show 0 ≤ shN s k v by omega)
    rw [shN_s]
    omega
theorem wd_shN {v : Int} (hs : 1 ≤ s) (hv : 1 ≤ v) (k : Nat) : wdR s (shN s k v) = List.replicate k 0 ++ wdR s v := by
  have w := wd_zeros hs (wd_ok hs (show 0 ≤ v by omega)) (wd_ne hs hv) k
  have := wd_eq hs w
  rw [val_zeros, wd_val hs (by omega)] at this
  exact this.symm
end

/-! ### the steps -/
/-- the k-th step and the one ahead of it -/
def qp (s : Int) : Nat → Int × Int
  | 0 => (1, 1)
  | k + 1 => (s * (qp s k).1 + (qp s k).2, (qp s k).1)
def qF (s : Int) (k : Nat) : Int := (qp s k).1
def qm (s : Int) (k : Nat) : Int := (qp s k).2
theorem q_zero (s : Int) : qF s 0 = 1 := rfl
theorem qm_zero (s : Int) : qm s 0 = 1 := rfl
theorem q_succ (s : Int) (k : Nat) : qF s (k + 1) = s * qF s k + qm s k := rfl
theorem qm_succ (s : Int) (k : Nat) : qm s (k + 1) = qF s k := rfl
section
variable {s : Int}
theorem q_pos (hs : 1 ≤ s) : ∀ k : Nat, 1 ≤ qm s k ∧ qm s k ≤ qF s k
  | 0 => ⟨by rw [qm_zero]; decide, by rw [qm_zero, q_zero]; decide⟩
  | k + 1 => by
    obtain ⟨a, b⟩ := q_pos hs k
    rw [q_succ, qm_succ]
    have := Int.mul_le_mul_of_nonneg_right hs (show 0 ≤ qF s k by omega)
    constructor <;> omega
theorem q_up (hs : 1 ≤ s) (k : Nat) : qF s k + 1 ≤ qF s (k + 1) := by
  obtain ⟨a, b⟩ := q_pos hs k
  rw [q_succ]
  have := Int.mul_le_mul_of_nonneg_right hs (show 0 ≤ qF s k by omega)
  omega
theorem q_top (hs : 1 ≤ s) (k : Nat) : qF s (k + 1) ≤ (s + 1) * qF s k := by
  obtain ⟨a, b⟩ := q_pos hs k
  rw [q_succ, show (s + 1) * qF s k = s * qF s k + qF s k by grind]
  omega
theorem q_ge (hs : 1 ≤ s) : ∀ k : Nat, (k : Int) + 1 ≤ qF s k
  | 0 => by rw [q_zero]; decide
  | k + 1 => by
    have a := q_ge hs k
    have b := q_up hs k
    omega
theorem q_mono (hs : 1 ≤ s) {j k : Nat} (h : j ≤ k) : qF s j ≤ qF s k := by
  induction h with
  | refl => exact Int.le_refl _
  | @step m _ ih =>
    have := q_up hs m
    exact Int.le_trans ih (by show qF s m ≤ qF s (m + 1); omega)
theorem q_more (hs : 1 ≤ s) : ∀ k : Nat, qF 1 k ≤ qF s k ∧ qm 1 k ≤ qm s k
  | 0 => ⟨Int.le_refl _, Int.le_refl _⟩
  | k + 1 => by
    obtain ⟨a, b⟩ := q_more hs k
    obtain ⟨c, d⟩ := q_pos (s := 1) (by decide) k
    rw [q_succ, q_succ, qm_succ, qm_succ]
    refine ⟨?_, a⟩
    have := Int.mul_le_mul hs a (by omega) (by omega)
    omega
/-- the number of digits, the first times the k-th step -/
def linR (s : Int) : Nat → List Int → Int
  | _, [] => 0
  | k, d :: r => d * qF s k + linR s (k + 1) r
theorem lin_gen (hs : 1 ≤ s) : ∀ (r : List Int) (k : Nat), DgR s r → linR s k r = qm s k * valR s r + (qF s k - qm s k) * cntF s (valR s r)
  | [], k, _ => by
    show (0 : Int) = qm s k * 0 + (qF s k - qm s k) * cntF s 0
    rw [cnt_zero hs]
    omega
  | d :: r, k, h => by
    have hr : DgR s r := fun e he => h e (List.mem_cons_of_mem _ he)
    have hd := h d List.mem_cons_self
    have v0 := val_nn hs hr
    show d * qF s k + linR s (k + 1) r = qm s k * (shF s (valR s r) + d) + (qF s k - qm s k) * cntF s (shF s (valR s r) + d)
    rw [lin_gen hs r (k + 1) hr, sh_cnt hs v0 hd.1 hd.2, q_succ, qm_succ]
    have e : shF s (valR s r) = valR s r + s * cntF s (valR s r) := rfl
    rw [e]
    grind
theorem lin_val (hs : 1 ≤ s) {r : List Int} (h : DgR s r) : linR s 0 r = valR s r := by
  rw [lin_gen hs r 0 h, qm_zero, q_zero]
  omega
theorem lin_snoc (d : Int) : ∀ (r : List Int) (k : Nat), linR s k (r ++ [d]) = linR s k r + d * qF s (k + r.length)
  | [], k => by
    show d * qF s k + 0 = 0 + d * qF s k
    omega
  | e :: r, k => by
    show e * qF s k + linR s (k + 1) (r ++ [d]) = e * qF s k + linR s (k + 1) r + d * qF s (k + (r.length + 1))
    rw [lin_snoc d r (k + 1), show k + 1 + r.length = k + (r.length + 1) by omega]
    omega

/-! ### the greatest place first -/
def grM (s : Int) : Nat → Int → List Int
  | 0, _ => []
  | k + 1, n => n / qF s k :: grM s k (n % qF s k)
theorem gr_len : ∀ (k : Nat) (n : Int), (grM s k n).length = k
  | 0, _ => rfl
  | k + 1, n => congrArg Nat.succ (gr_len k _)
def WdA (s : Int) : List Int → Prop
  | [] => True
  | d :: r => 0 ≤ d ∧ d ≤ s ∧ (r.headD 0 = s → d = 0) ∧ WdA s r
theorem wda_snoc (hs : 1 ≤ s) {e : Int} (h0 : 0 ≤ e) (h1 : e ≤ s) : ∀ {r : List Int}, WdA s r → (e = s → ∀ x, r.getLast? = some x → x = 0) → WdA s (r ++ [e])
  | [], _, _ => ⟨h0, h1, fun z => by have z' : (0 : Int) = s := z; omega, trivial⟩
  | [d], ⟨a, b, _, _⟩, q => ⟨a, b, fun z => q z d rfl, h0, h1, fun z => by have z' : (0 : Int) = s := z; omega, trivial⟩
  | d :: d' :: r, ⟨a, b, c, h⟩, q => ⟨a, b, c, wda_snoc hs h0 h1 h fun z x hx => q z x (by rw [List.getLast?_cons_cons]; exact hx)⟩
theorem wdr_of : ∀ {r : List Int}, WdA s r → (∀ x, r.getLast? = some x → x ≠ 0) → WdR s r
  | [], _, _ => trivial
  | [d], ⟨a, b, c, _⟩, q => ⟨a, b, fun _ => q d rfl, c, trivial⟩
  | d :: d' :: r, ⟨a, b, c, h⟩, q => ⟨a, b, fun z => by simp at z, c, wdr_of h fun x hx => q x (by rw [List.getLast?_cons_cons]; exact hx)⟩
theorem gr_ok (hs : 1 ≤ s) : ∀ (k : Nat) (n : Int), 0 ≤ n → n < qF s k → WdA s (grM s k n).reverse ∧ linR s 0 (grM s k n).reverse = n
  | 0, n, h0, h1 => by
    rw [q_zero] at h1
    exact ⟨trivial, by show (0 : Int) = n; omega⟩
  | k + 1, n, h0, h1 => by
    obtain ⟨p, q⟩ := q_pos hs k
    have m0 := Int.emod_nonneg n (show qF s k ≠ 0 by omega)
    have m1 := Int.emod_lt_of_pos n (show 0 < qF s k by omega)
    have de := Int.mul_ediv_add_emod n (qF s k)
    obtain ⟨a, b⟩ := gr_ok hs k (n % qF s k) m0 m1
    have d0 : 0 ≤ n / qF s k := Int.ediv_nonneg h0 (by omega)
    have d1 : n / qF s k ≤ s := by
      have := q_top hs k
      have : n / qF s k < s + 1 := (lt_div (by omega)).mpr (by omega)
      omega
    have e : (grM s (k + 1) n).reverse = (grM s k (n % qF s k)).reverse ++ [n / qF s k] := by
      show (n / qF s k :: grM s k (n % qF s k)).reverse = _
      rw [List.reverse_cons]
    rw [e]
    refine ⟨wda_snoc hs d0 d1 a fun z x hx => ?_, ?_⟩
    · cases k with
      | zero => rw [List.getLast?_reverse] at hx; cases hx
      | succ k =>
        rw [List.getLast?_reverse] at hx
        have hx' : some (n % qF s (k + 1) / qF s k) = some x := hx
        have : n % qF s (k + 1) < qF s k := by
          rw [z] at de
          have e1 : qF s (k + 1 + 1) = s * qF s (k + 1) + qm s (k + 1) := rfl
          have e2 : qm s (k + 1) = qF s k := rfl
          have e3 : qF s (k + 1) * s = s * qF s (k + 1) := Int.mul_comm _ _
          omega
        have := Int.ediv_eq_zero_of_lt m0 this
        cases hx'
        exact this
    · rw [lin_snoc, b, List.length_reverse, gr_len, Nat.zero_add]
      have : n / qF s k * qF s k = qF s k * (n / qF s k) := Int.mul_comm _ _
      omega
theorem WdA.dg : ∀ {r : List Int}, WdA s r → DgR s r
  | [], _ => fun d h => by cases h
  | d :: r, ⟨a, b, _, h⟩ => fun e he => by
    rcases List.mem_cons.mp he with rfl | he
    · exact ⟨a, b⟩
    · exact h.dg e he
theorem gr_wd (hs : 1 ≤ s) {k : Nat} {n : Int} (h0 : qF s k ≤ n) (h1 : n < qF s (k + 1)) : (grM s (k + 1) n).reverse = wdR s n := by
  obtain ⟨p, q⟩ := q_pos hs k
  obtain ⟨a, b⟩ := gr_ok hs (k + 1) n (by omega) h1
  have w : WdR s (grM s (k + 1) n).reverse := wdr_of a fun x hx => by
    rw [List.getLast?_reverse] at hx
    have hx' : some (n / qF s k) = some x := hx
    cases hx'
    have := (le_div (show 0 < qF s k by omega)).mpr (show 1 * qF s k ≤ n by omega)
    omega
  have := wd_eq hs w
  rw [lin_val hs a.dg] at b
  rw [b] at this
  exact this
theorem q_find (hs : 1 ≤ s) {n : Int} (hn : 1 ≤ n) : ∃ k, qF s k ≤ n ∧ n < qF s (k + 1) := by
  have all : ∀ j : Nat, qF s j ≤ n ∨ ∃ k, qF s k ≤ n ∧ n < qF s (k + 1) := by
    intro j
    induction j with
    | zero => left; rw [q_zero]; exact hn
    | succ j ih =>
      rcases ih with h | h
      · rcases ilt_or_ge n (qF s (j + 1)) with a | a
        · exact .inr ⟨j, h, a⟩
        · exact .inl a
      · exact .inr h
  rcases all n.toNat with h | h
  · have := q_ge hs n.toNat
    omega
  · exact h
theorem wd_len (hs : 1 ≤ s) {n : Int} (hn : 1 ≤ n) : ∃ k, (wdR s n).length = k + 1 ∧ qF s k ≤ n ∧ n < qF s (k + 1) ∧ (wdR s n).reverse = grM s (k + 1) n := by
  obtain ⟨k, h0, h1⟩ := q_find hs hn
  have e := gr_wd hs h0 h1
  refine ⟨k, by rw [← e, List.length_reverse, gr_len], h0, h1, by rw [← e, List.reverse_reverse]⟩
theorem wd_len_eq (hs : 1 ≤ s) {k : Nat} {n : Int} (h0 : qF s k ≤ n) (h1 : n < qF s (k + 1)) : (wdR s n).length = k + 1 := by
  rw [← gr_wd hs h0 h1, List.length_reverse, gr_len]
theorem wd_len_le (hs : 1 ≤ s) {k : Nat} {n : Int} (hn : 0 ≤ n) (h : n < qF s k) : (wdR s n).length ≤ k := by
  by_cases h0 : n = 0
  · subst h0; rw [wd_nil hs]; exact Nat.zero_le _
  · obtain ⟨j, e, a, b, _⟩ := wd_len (n := n) hs (by omega)
    rw [e]
    rcases Nat.lt_or_ge j k with z | z
    · exact z
    · have := q_mono hs z
      omega
theorem q_290 : (10 : Int) ^ 60 < qF 1 290 := by decide +kernel
theorem wd_len60 (hs : 1 ≤ s) {n : Int} (hn : 0 ≤ n) (h : n ≤ 10 ^ 60) : (wdR s n).length ≤ 290 := by
  have := (q_more hs 290).1
  have := q_290
  exact wd_len_le hs hn (by omega)
end
end DL

set_option Elab.async false
set_option linter.all false
set_option maxRecDepth 100000
set_option maxHeartbeats 4000000
/-! M4: words and steps as data; slices; errors out of arguments. -/
namespace DL
open PySem PySem.W L2 PySem.Spec PyProof.Rows
abbrev numD (ns : List Int) : List D := ns.map D.int
/-- a word, told with the greatest place first -/
abbrev digD (r : List Int) : D := .tup (numD r.reverse)
/-- the first steps -/
def qs (s : Int) (k : Nat) : List Int := (List.range k).map (qF s)
theorem qs_len {s : Int} {k : Nat} : (qs s k).length = k := by unfold qs; rw [List.length_map, List.length_range]
theorem qs_succ {s : Int} {k : Nat} : qs s (k + 1) = qs s k ++ [qF s k] := by
  unfold qs
  rw [List.range_succ, List.map_append]
  rfl
theorem qs_get {s : Int} {k i : Nat} (h : i < k) : (qs s k)[i]? = some (qF s i) := by
  unfold qs
  rw [List.getElem?_map, List.getElem?_range h]
  rfl
theorem qs_take {s : Int} {j k : Nat} (h : j ≤ k) : (qs s k).take j = qs s j := by
  unfold qs
  rw [← List.map_take, List.take_range, Nat.min_eq_left h]
theorem ix_neg {n k : Nat} (h : k < n) : L2.ixN n (-((k : Int) + 1)) = some (n - 1 - k) := by
  unfold L2.ixN
  rw [if_neg (by omega)]
  first
  | rw [if_pos (by omega)]
  | rw [if_neg (by omega)]
  congr 1
  omega
theorem at_last {α : Type} (xs : List α) (x : α) : L2.atI (xs ++ [x]) (-1) = some x := by
  unfold L2.atI
  rw [show (-1 : Int) = -(((0 : Nat) : Int) + 1) by rfl, ix_neg (by rw [List.length_append]; exact Nat.succ_pos _)]
  show (xs ++ [x])[(xs ++ [x]).length - 1 - 0]? = some x
  rw [List.length_append, show xs.length + [x].length - 1 - 0 = xs.length from rfl, List.getElem?_append_right (Nat.le_refl _), Nat.sub_self]
  rfl
theorem at_last2 {α : Type} (xs : List α) (y x : α) : L2.atI (xs ++ [y] ++ [x]) (-2) = some y := by
  unfold L2.atI
  have hl : (xs ++ [y] ++ [x]).length = xs.length + 2 := by simp
  rw [show (-2 : Int) = -(((1 : Nat) : Int) + 1) by rfl, ix_neg (by rw [hl]; omega), hl]
  show (xs ++ [y] ++ [x])[xs.length + 2 - 1 - 1]? = some y
  rw [show xs.length + 2 - 1 - 1 = xs.length by omega, List.append_assoc, List.getElem?_append_right (Nat.le_refl _), Nat.sub_self]
  rfl
theorem num_push (xs : List Int) (x : Int) : numD xs ++ [.int x] = numD (xs ++ [x]) := by
  show numD xs ++ [.int x] = List.map D.int (xs ++ [x])
  rw [List.map_append]
  rfl
/-- found[-1], found[-2] where the first steps stand -/
theorem last_q {s : Int} {k : Nat} : L2.atI (numD (qs s (k + 1))) (-1) = some (.int (qF s k)) := by
  rw [qs_succ, ← num_push]
  exact at_last _ _
theorem last_qm {s : Int} {k : Nat} : L2.atI (numD (qs s (k + 2))) (-2) = some (.int (qF s k)) := by
  rw [qs_succ, qs_succ, ← num_push, ← num_push]
  exact at_last2 _ _ _
theorem q_push {s : Int} {k : Nat} : numD (qs s (k + 1)) ++ [.int (s * qF s k + qm s k)] = numD (qs s (k + 2)) := by
  rw [num_push, qs_succ (k := k + 1)]
  rfl
theorem cut_to {ds : List D} {k : Nat} (h : k ≤ ds.length) : cutD ds none (some (k : Int)) = ds.take k := by
  unfold cutD
  rw [HT.sIx_none, HT.sIx_nat, List.drop_zero, Nat.sub_zero, Nat.min_eq_left h]
theorem cut_from {ds : List D} {k : Nat} : cutD ds (some (k : Int)) none = ds.drop k := by
  unfold cutD
  rw [HT.sIx_none, HT.sIx_nat]
  rcases Nat.lt_or_ge k ds.length with h | h
  · rw [Nat.min_eq_left (Nat.le_of_lt h), List.take_of_length_le (by rw [List.length_drop]; omega)]
  · rw [Nat.min_eq_right h, List.drop_of_length_le (Nat.le_refl _), List.drop_of_length_le h, List.take_nil]
theorem six_m1 (n : Nat) : HT.sIx n n (some (-1)) = n - 1 := by
  show (if (-1 : Int) < 0 then ((-1 : Int) + (n : Int)).toNat else min (-1 : Int).toNat n) = n - 1
  rw [if_pos (by decide)]
  omega
theorem cut_m1 {ds : List D} : cutD ds none (some (-1)) = ds.dropLast := by
  unfold cutD
  rw [six_m1, HT.sIx_none, List.drop_zero, Nat.sub_zero, List.dropLast_eq_take]
theorem rev_drop {α : Type} (r : List α) : r.reverse.dropLast = r.tail.reverse := by
  cases r with
  | nil => rfl
  | cons d r => rw [List.reverse_cons, List.dropLast_concat]; rfl
theorem nz_at {s : Int} (hs : 1 ≤ s) : ∀ {r : List Int}, WdR s r → r ≠ [] → nz r < r.length ∧ (∀ f, f < nz r → r[f]? = some 0) ∧ ∃ d, r[nz r]? = some d ∧ d ≠ 0
  | [], _, h => absurd rfl h
  | d :: r, ⟨a, b, c, e, h⟩, _ => by
    by_cases hd : d = 0
    · have hr : r ≠ [] := fun z => c z hd
      obtain ⟨i1, i2, x, i3, i4⟩ := nz_at hs h hr
      have e1 : nz (d :: r) = nz r + 1 := if_pos hd
      rw [e1]
      refine ⟨by show nz r + 1 < r.length + 1; omega, fun f hf => ?_, x, by rw [List.getElem?_cons_succ]; exact i3, i4⟩
      cases f with
      | zero => rw [hd]; rfl
      | succ f => rw [List.getElem?_cons_succ]; exact i2 f (by omega)
    · have e1 : nz (d :: r) = 0 := if_neg hd
      rw [e1]
      exact ⟨Nat.succ_pos _, fun f hf => by omega, d, rfl, hd⟩
theorem flat_zeros (k : Nat) : (List.replicate k [D.int 0]).flatten = numD (List.replicate k 0) := by
  induction k with
  | zero => rfl
  | succ k ih => rw [List.replicate_succ, List.flatten_cons, ih, List.replicate_succ]; rfl
theorem dig_zeros (r : List Int) (k : Nat) : numD r.reverse ++ numD (List.replicate k 0) = numD (List.replicate k 0 ++ r).reverse := by
  rw [List.reverse_append, List.reverse_replicate, numD, numD, numD, List.map_append]
theorem isPy_numD (ns : List Int) : arePy (numD ns) = true := arePy_of fun x hx => by
  obtain ⟨n, _, rfl⟩ := List.mem_map.mp hx
  rfl
theorem isPy_tup (xs : List D) : isPy (.tup xs) = arePy xs := by rw [isPy]
theorem isPy_lst (xs : List D) : isPy (.lst xs) = arePy xs := by rw [isPy]
theorem isPy_dig (r : List Int) : isPy (digD r) = true := by rw [isPy_tup]; exact isPy_numD _
theorem isPy_numL (r : List Int) : isPy (.lst (numD r)) = true := by rw [isPy_lst]; exact isPy_numD _
theorem ok_numD {n : Nat} (ns : List Int) (h : ns.length ≤ 1000000) : okD (n + 1) (.tup (numD ns)) := ⟨by rw [List.length_map]; exact h, fun x hx => by
  obtain ⟨n, _, rfl⟩ := List.mem_map.mp hx
  exact ok_int⟩
theorem ok_dig {n : Nat} {r : List Int} (h : r.length ≤ 1000000) : okD (n + 1) (digD r) := ok_numD _ (by rw [List.length_reverse]; exact h)
theorem ok_numL {n : Nat} (ns : List Int) (h : ns.length ≤ 1000000) : okD (n + 1) (.lst (numD ns)) := ⟨by rw [List.length_map]; exact h, fun x hx => by
  obtain ⟨n, _, rfl⟩ := List.mem_map.mp hx
  exact ok_int⟩

theorem ne_of_fn {K : PySem.W.Frag} {f g : Addr} {oc oc' kV kV' dc dc' pm pm' cd cd' ct ct' : Value} {od od' an an' : Option Addr} {sl sl' : Array (Option Value)} {x x' y y' : Str} {ar ar' : Arguments} {bd bd' : List Stmt} {sc sc' : Scope}
    (h : K.lookup f = some ⟨oc, od, .func (PySem.W.fnOf x x' ar bd sc .none kV dc pm an cd ct), sl⟩) (h' : K.lookup g = some ⟨oc', od', .func (PySem.W.fnOf y y' ar' bd' sc' .none kV' dc' pm' an' cd' ct'), sl'⟩) (hn : x ≠ y) : f ≠ g := fun e => by
  subst e
  rw [h] at h'
  injection h' with h'
  injection h' with _ _ h' _
  injection h' with h'
  exact hn (congrArg FuncData.name h')

/-! ### words -/
theorem num_inj : ∀ {a b : List Int}, numD a = numD b → a = b
  | [], [], _ => rfl
  | [], _ :: _, h => by simp at h
  | _ :: _, [], h => by simp at h
  | x :: a, y :: b, h => by
    have h' : D.int x :: numD a = D.int y :: numD b := h
    injection h' with h1 h2
    injection h1 with h1
    rw [h1, num_inj h2]
theorem dig_inj {a b : List Int} (h : digD a = digD b) : a = b := by
  injection h with h
  exact List.reverse_inj.mp (num_inj h)
theorem lin_at {s d : Int} {i : Nat} : ∀ {r : List Int} {k : Nat}, r[i]? = some d → linR s (k + i) (r.drop i) = d * qF s (k + i) + linR s (k + i + 1) (r.drop (i + 1)) := fun {r k} h => by
  obtain ⟨hi, e⟩ := List.getElem?_eq_some_iff.mp h
  rw [List.drop_eq_getElem_cons hi, e]
  rfl
theorem dig_rev (r : List Int) : (numD r.reverse).reverse = numD r := by
  rw [numD, ← List.map_reverse, List.reverse_reverse]
/-- the numbers that are written with not too many digits -/
def Wr (s n : Int) : Prop := 1 ≤ s ∧ s ≤ 50 ∧ 0 ≤ n ∧ (wdR s n).length ≤ 1000 ∧ Bd 8000 n
theorem wr60 {s n : Int} (h1 : 1 ≤ s) (h2 : s ≤ 50) (h3 : 0 ≤ n) (h4 : n ≤ 10 ^ 60) : Wr s n := ⟨h1, h2, h3, by have := wd_len60 h1 h3 h4; omega, (bd60 h3 h4).mono (by decide)⟩
theorem qs_rev {s : Int} {L i : Nat} (h : i < L) : (numD (qs s L)).reverse[i]? = some (.int (qF s (L - 1 - i))) := by
  rw [rev_get (by rw [List.length_map, qs_len]; exact h), List.length_map, qs_len, List.getElem?_map, qs_get (by omega)]
  rfl
theorem q_divOk {s n : Int} {k : Nat} (hs : 1 ≤ s) (hb : Bd 8000 n) (h : qF s k ≤ n) : DivOk (qF s k) := by
  have := (q_pos hs k)
  exact (hb.le (by omega) h).divOk (by omega)
theorem at_rev {α : Type} {xs : List α} {f : Nat} {x : α} (h : xs[f]? = some x) : L2.atI xs.reverse ((xs.length : Int) - 1 - (f : Nat)) = some x := by
  have hf := (List.getElem?_eq_some_iff.mp h).1
  have e : (xs.length : Int) - 1 - (f : Nat) = ((xs.length - 1 - f : Nat) : Int) := by omega
  rw [e]
  refine atI_nat ?_
  rw [List.getElem?_reverse (by omega), show xs.length - 1 - (xs.length - 1 - f) = f by omega]
  exact h
/-- a word's number, cut or not -/
theorem val_cut {s n : Int} (hs : 1 ≤ s) (hn : 0 ≤ n) : valR s (wdR s n).tail = cutF s n := by
  rw [wd_tail hs hn]
  exact wd_val hs (cut_spec hs hn).1
theorem dg_wd {s n : Int} (hs : 1 ≤ s) (hn : 0 ≤ n) : DgR s (wdR s n) := (wd_ok hs hn).dg
theorem dg_tail {s : Int} {r : List Int} (h : DgR s r) : DgR s r.tail := fun d hd => h d (List.mem_of_mem_tail hd)
theorem dig_cut (r : List Int) : cutD (numD r.reverse) none (some (-1)) = numD r.tail.reverse := by
  rw [cut_m1, numD, ← List.map_dropLast, rev_drop]
theorem shN_zero {s : Int} (hs : 1 ≤ s) : ∀ k : Nat, shN s k 0 = 0
  | 0 => shN_0 s 0
  | k + 1 => by rw [shN_s, shN_zero hs k, sh_zero hs]
theorem dg_zeros {s : Int} (hs : 1 ≤ s) {r : List Int} (h : DgR s r) (k : Nat) : DgR s (List.replicate k 0 ++ r) := fun d hd => by
  rcases List.mem_append.mp hd with z | z
  · rw [List.eq_of_mem_replicate z]; omega
  · exact h d z
/-- word + (0,) * t -/
theorem ev_zeros {K : PySem.W.Frag} {b : Bool} {ρ : En} {ω : Ow} {ta tb : TE} {r : List Int} {t : Nat} (h : Ev K b ta ρ ω (digD r)) (h' : Ev K b tb ρ ω (.int (t : Nat))) (h1 : t ≤ 1000) (h2 : r.length ≤ 1000) :
    Ev K b (tOp (rAddX K) ta (tOp (rMulT K) (tTup (tCons (tC (.int 0)) tNil)) tb)) ρ ω (digD (List.replicate t 0 ++ r)) :=
  (ev_op h (ev_op (ev_tup (ea_cons ev_int ea_nil)) h' (rd_repT (by omega) (by omega) (by simp) (by decide))) (rd_catT (by rw [Int.toNat_natCast, flat_zeros, List.length_map, List.length_map, List.length_reverse, List.length_replicate]; omega))).to (by rw [Int.toNat_natCast, flat_zeros, digD, dig_zeros])

/-! ### errors out of arguments -/
def WAX (K : PySem.W.Frag) (E : XK) (s : Bool) (ta : TA) (ρ : En) (ω : Ow) (Φ : List D → Prop) (Ψ : Value → Prop) : Prop := ∀ M O σ H, SR K M O ω ρ σ H → ∀ Q : List V → Hp → Prop, (∀ vs H' ds, Same H H' → Rps K (hid (Xs s M O) H') vs ds → Φ ds → Q vs H') → (∀ c H', Ψ c → Same H H' → E c none H') → ta σ H Q
section
variable {K : PySem.W.Frag} {E E' : XK} {b s : Bool} {ρ : En} {ω : Ow} {t u : TS} {te : TE} {ta tr : TA} {d : D} {ds : List D} {Φ : List D → Prop} {F : D → Prop} {Ψ : Value → Prop} {R : List D → D → Prop} {Y : List D → Value → Prop}
theorem wxa_ev (h : EvA K s ta ρ ω ds) (q : Φ ds) : WAX K E s ta ρ ω Φ Ψ := fun M O σ H r Q k _ => h M O σ H r _ fun vs H1 s1 r1 => k vs H1 ds s1 r1 q
theorem wxa_nil (q : Φ []) : WAX K E s tNil ρ ω Φ Ψ := wxa_ev ea_nil q
theorem wxa_cons (h : WEX K E s te ρ ω (fun d => WAX K E s tr ρ ω (fun ds => Φ (d :: ds)) Ψ) Ψ) : WAX K E s (tCons te tr) ρ ω Φ Ψ := fun M O σ H r Q k x =>
  h M O σ H r _ (fun v H1 d s1 r1 q => q M O σ H1 (r.mono s1) _ (fun vs H2 ds s2 r2 q2 => k (v :: vs) H2 (d :: ds) (s1.trans s2) (.cons (r1.mono (hid_same s2)) r2) q2) fun c H2 z s2 => x c H2 z (s1.trans s2)) x
theorem wxe_callA (h : WAX K E s ta ρ ω (fun ds => (∃ d, R ds d) ∧ ∀ d, R ds d → F d) Ψ) : WEX K E s (tCall (spR K R) [] E' ta) ρ ω F Ψ := fun M O σ H r Q k x =>
  h M O σ H r _ (fun vs H1 ds s1 r1 ⟨h0, h1⟩ => ⟨ds, Xs s M O, h0, Xs_tr (r.mono s1), by rw [List.append_nil]; exact r1, fun d v H2 hd s2 r2 => k v H2 d (s1.trans s2) r2 (h1 d hd)⟩) x
theorem wxe_callX (h : WAX K E s ta ρ ω (fun ds => ((∃ d, R ds d) ∨ ∃ c, Y ds c) ∧ (∀ d, R ds d → F d) ∧ ∀ c, Y ds c → Ψ c) Ψ) : WEX K E s (tCall (spX K R Y) [] E ta) ρ ω F Ψ := fun M O σ H r Q k x =>
  h M O σ H r _ (fun vs H1 ds s1 r1 ⟨h0, h1, h2⟩ => ⟨ds, Xs s M O, h0, Xs_tr (r.mono s1), by rw [List.append_nil]; exact r1, fun d v H2 hd s2 r2 => k v H2 d (s1.trans s2) r2 (h1 d hd), fun c H2 hc s2 => x c H2 (h2 c hc) (s1.trans s2)⟩) x
theorem wxe_op {r : R2} {ta tb : TE} (h : WEX K E s ta ρ ω (fun d1 => WEX K E s tb ρ ω (fun d2 => ∃ d, RD K r d1 d2 d ∧ F d) Ψ) Ψ) : WEX K E s (tOp r ta tb) ρ ω F Ψ := fun M O σ H R Q k x =>
  h M O σ H R _ (fun v1 H1 d1 s1 r1 q1 => q1 M O σ H1 (R.mono s1) _ (fun v2 H2 d2 s2 r2 ⟨d, hr, q⟩ => hr (Xs s M O) H2 v1 v2 (Xs_tr ((R.mono s1).mono s2)) (r1.mono (hid_same s2)) r2 Q fun v H3 s3 r3 => k v H3 d ((s1.trans s2).trans s3) r3 q) fun c H2 z s2 => x c H2 z (s1.trans s2)) x
/-- a call that surely lets an error out -/
theorem wxe_bad (h : EvA K s ta ρ ω ds) (hy : ∃ c, Y ds c) (hn : ∀ d, ¬ R ds d) (h2 : ∀ c, Y ds c → Ψ c) : WEX K E s (tCall (spX K R Y) [] E ta) ρ ω F Ψ := wxe_call h (.inr hy) (fun d hd => (hn d hd).elim) h2
/-- a call of a def that may let an error out, where it lets none out -/
theorem ev_callX (h : EvA K s ta ρ ω ds) (hR : R ds d) (hu : ∀ d', R ds d' → d' = d) (hn : ∀ c, ¬ Y ds c) : Ev K s (tCall (spX K R Y) [] E ta) ρ ω d := fun M O σ H r Q q =>
  h M O σ H r _ fun vs H1 s1 r1 => ⟨ds, Xs s M O, .inl ⟨d, hR⟩, Xs_tr (r.mono s1), by rw [List.append_nil]; exact r1, fun d' v H2 hd s2 r2 => q v H2 (s1.trans s2) (hu d' hd ▸ r2), fun c H2 hc s2 => (hn c hc).elim⟩
theorem wx_ifX {tt : TT} {Φ : Out → Prop} (h : ∀ M O σ H, SR K M O ω ρ σ H → ∀ Q : Bool → Hp → Prop, (∀ c H', Same H H' → (c = true → WSX K E b t ρ ω Φ Ψ) ∧ (c = false → WSX K E b u ρ ω Φ Ψ) → Q c H') → (∀ c H', Ψ c → Same H H' → E c none H') → tt σ H Q) : WSX K E b (tIfS tt t u) ρ ω Φ Ψ := fun M O σ H D' r k x =>
  h M O σ H r _ (fun c H1 s1 ⟨h1, h2⟩ => by
    cases c with
    | true =>
      show t D' σ H1
      exact h1 rfl M O σ H1 D' (r.mono s1) (k.go (.same s1)) fun e O2 H2 z k2 => x e O2 H2 z ((Kp.same s1).trans k2)
    | false =>
      show u D' σ H1
      exact h2 rfl M O σ H1 D' (r.mono s1) (k.go (.same s1)) fun e O2 H2 z k2 => x e O2 H2 z ((Kp.same s1).trans k2)) fun c H1 z s1 => x c O H1 z (.same s1)
/-- if x: .., x reckoned by what may let an error out -/
theorem wx_ifT {te : TE} {Φ : Out → Prop} (h : WEX K E s te ρ ω (fun d => ∃ c, d = .bl c ∧ (c = true → WSX K E b t ρ ω Φ Ψ) ∧ (c = false → WSX K E b u ρ ω Φ Ψ)) Ψ) : WSX K E b (tIfS (tTest te) t u) ρ ω Φ Ψ := wx_ifX fun M O σ H r Q q x =>
  h M O σ H r _ (fun v H1 d s1 r1 ⟨c, e, h1⟩ => by
    subst e
    cases r1
    exact ⟨c, rfl, q c H1 s1 h1⟩) x
end
end DL

set_option Elab.async false
set_option linter.all false
set_option maxRecDepth 100000
set_option maxHeartbeats 4000000
/-! M5: letters of lesser and greater ones; how they grow. -/
namespace DL
open PySem PySem.W L2 PySem.Spec PyProof.Rows
/-- a loop whose body may let an error out -/
theorem wx_for {K : PySem.W.Frag} {E : XK} {b : Bool} {ρ : En} {ω : Ow} {t : TS} {Φ : Out → Prop} {Ψ : Value → Prop} {wi : TI} {g : TG} {xs : List D} (h : EvI K wi ρ ω xs) (I : Nat → En → Ow → Prop) (h0 : I 0 ρ ω)
    (hs : ∀ i d ρ' ω', xs[i]? = some d → I i ρ' ω' → ∃ ρ2, WG K g d ρ' ρ2 ∧ WSX K E b t ρ2 ω' (lp (I (i + 1)) Φ) Ψ) (hd : ∀ ρ' ω', I xs.length ρ' ω' → Φ (.nx ρ' ω')) : WSX K E b (tFor wi g t) ρ ω Φ Ψ := fun M O σ H D' r c x =>
  h M O σ H r _ fun J H1 s1 wk => by
    refine ⟨fun i m σ' H' => m = xs.length - i ∧ i ≤ xs.length ∧ ∃ O' ρ' ω', SR K M O' ω' ρ' σ' H' ∧ Kp O H1 O' H' ∧ I i ρ' ω', ⟨_, rfl, Nat.zero_le _, O, ρ, ω, r.mono s1, .same (Same.refl _), h0⟩, ?_⟩
    rintro i m σ' H' ⟨rfl, hi, O', ρ', ω', r', k', iv⟩
    by_cases hlt : i < xs.length
    · refine .inr ⟨wk.go i _ _ k'.hid hid_le hlt, fun σ2 H2 => ∃ O2 ρ2 ω2, SR K M O2 ω2 ρ2 σ2 H2 ∧ Kp O H1 O2 H2 ∧ I (i + 1) ρ2 ω2, ?_, fun y H2 hy => ?_⟩
      · rintro σ2 H2 ⟨O2, ρ2, ω2, r2, k2, iv2⟩
        exact ⟨_, by omega, rfl, hlt, O2, ρ2, ω2, r2, k2, iv2⟩
      · obtain ⟨s2, f⟩ := wk.yl i _ _ y H2 k'.hid r'.trkX hlt hy
        have rp := f _ (List.getElem?_eq_getElem hlt)
        obtain ⟨ρ2, hg, hb⟩ := hs i _ ρ' ω' (List.getElem?_eq_getElem hlt) iv
        refine hg M O' ω' σ' H2 y (r'.mono s2) rp _ fun σ3 r3 => ?_
        have kk : Kp O H O' H2 := (Kp.same s1).trans (k'.trans (.same s2))
        refine hb M O' σ3 H2 _ r3 ⟨fun O4 σ4 H4 ρ4 ω4 r4 k4 q => ⟨O4, ρ4, ω4, r4, (k'.trans (.same s2)).trans k4, q⟩, fun O4 σ4 H4 ρ4 ω4 v d r4 k4 rp q => c.rt O4 σ4 H4 ρ4 ω4 v d r4 (kk.trans k4) rp q,
          fun O4 σ4 H4 ρ4 ω4 r4 k4 q => c.nx O4 σ4 H4 ρ4 ω4 r4 (kk.trans k4) q, fun O4 σ4 H4 ρ4 ω4 r4 k4 q => ⟨O4, ρ4, ω4, r4, (k'.trans (.same s2)).trans k4, q⟩⟩ fun e O4 H4 z k4 => x e O4 H4 z (kk.trans k4)
    · have e : i = xs.length := by omega
      subst e
      exact .inl ⟨wk.st _ _ k'.hid hid_le, c.nx O' σ' H' ρ' ω' r' ((Kp.same s1).trans k') (hd ρ' ω' iv)⟩
/-- the sign of the letter of v: l or h -/
def ltr (s v : Int) : Nat := if lowF s (cntF s v) = v then 108 else 104
theorem sgn_l : ("l" : Str) = sgn 108 := by decide +kernel
theorem sgn_h : ("h" : Str) = sgn 104 := by decide +kernel
theorem txt_nil : txt [] = ("" : Str) := by decide +kernel
/-- the letters of n values from v on -/
def ltrs (s v : Int) (n : Nat) : List Nat := (List.range n).map fun i : Nat => ltr s (v + (i : Nat))
theorem ltrs_len {s v : Int} {n : Nat} : (ltrs s v n).length = n := by unfold ltrs; rw [List.length_map, List.length_range]
theorem ltrs_succ {s v : Int} {n : Nat} : ltrs s v (n + 1) = ltrs s v n ++ [ltr s (v + (n : Nat))] := by
  unfold ltrs
  rw [List.range_succ, List.map_append]
  rfl
theorem ltrs_add {s v : Int} {n : Nat} : ∀ m : Nat, ltrs s v (n + m) = ltrs s v n ++ ltrs s (v + (n : Nat)) m
  | 0 => (List.append_nil _).symm
  | m + 1 => by
    rw [show n + (m + 1) = n + m + 1 from rfl, ltrs_succ, ltrs_add m, ltrs_succ, List.append_assoc, show v + ((n + m : Nat) : Int) = v + (n : Nat) + (m : Nat) by omega]
theorem ltrs_take {s v : Int} {n k : Nat} : (ltrs s v n).take k = ltrs s v (min k n) := by
  unfold ltrs
  rw [← List.map_take, List.take_range]
theorem ltr_iff {s v : Int} : ltr s v = 108 ↔ lowF s (cntF s v) = v := by
  unfold ltr
  by_cases h : lowF s (cntF s v) = v
  · rw [if_pos h]; exact ⟨fun _ => h, fun _ => rfl⟩
  · rw [if_neg h]; exact ⟨fun z => absurd z (by decide), fun z => absurd z h⟩
theorem ltr_or {s v : Int} : ltr s v = 108 ∨ ltr s v = 104 := by
  unfold ltr
  split
  · exact .inl rfl
  · exact .inr rfl
theorem ltr_cnt {s v : Int} (hs : 1 ≤ s) (hv : 0 ≤ v) : cntF s (v + 1) = cntF s v + (if ltr s (1 + v) == 108 then 1 else 0) := by
  have a := low_iff (v := v + 1) hs (by omega)
  rw [show v + 1 - 1 = v by omega] at a
  have st := cnt_step hs hv
  unfold ltr
  rw [show 1 + v = v + 1 by omega]
  by_cases h : lowF s (cntF s (v + 1)) = v + 1
  · rw [if_pos h, if_pos (by decide)]
    exact a.mp h
  · rw [if_neg h, if_neg (by decide)]
    have := mt a.mpr h
    omega
/-- the lesser ones among n values are counted -/
theorem ltrs_cnt {s v : Int} (hs : 1 ≤ s) (hv : 0 ≤ v) : ∀ n : Nat, (((ltrs s (1 + v) n).countP (· == 108) : Nat) : Int) = cntF s (v + (n : Nat)) - cntF s v
  | 0 => by
    rw [show v + ((0 : Nat) : Int) = v by omega]
    show (0 : Int) = _
    omega
  | n + 1 => by
    have ih := ltrs_cnt hs hv n
    have st := ltr_cnt (v := v + (n : Nat)) hs (by omega)
    rw [ltrs_succ, List.countP_append, Int.natCast_add, ih, show v + ((n + 1 : Nat) : Int) = v + (n : Nat) + 1 by omega, st, show 1 + v + (n : Nat) = 1 + (v + (n : Nat)) by omega]
    by_cases h : ltr s (1 + (v + (n : Nat))) == 108
    · rw [List.countP_cons, if_pos h, if_pos h]
      show _ + ((0 + 1 : Nat) : Int) = _
      omega
    · rw [List.countP_cons, if_neg h, if_neg h]
      show _ + ((0 + 0 : Nat) : Int) = _
      omega
theorem ltrs_two {s v : Int} : ∀ n : Nat, (ltrs s v n).countP (· == 104) + (ltrs s v n).countP (· == 108) = n
  | 0 => rfl
  | n + 1 => by
    have ih := ltrs_two (s := s) (v := v) n
    rw [ltrs_succ, List.countP_append, List.countP_append]
    rcases ltr_or (s := s) (v := v + (n : Nat)) with e | e
    · rw [e]
      have a : List.countP (· == 104) [108] = 0 := rfl
      have b : List.countP (· == 108) [108] = 1 := rfl
      omega
    · rw [e]
      have a : List.countP (· == 104) [104] = 1 := rfl
      have b : List.countP (· == 108) [104] = 0 := rfl
      omega
/-- grown once -/
def grF (s : Int) (cs : List Nat) : List Nat := (cs.map fun c => if c = 108 then List.replicate s.toNat 108 ++ [104] else [108]).flatten
theorem grF_app (s : Int) (xs ys : List Nat) : grF s (xs ++ ys) = grF s xs ++ grF s ys := by
  unfold grF
  rw [List.map_append, List.flatten_append]
theorem ltr_in {s v d : Int} (hs : 1 ≤ s) (hv : 0 ≤ v) (h0 : 1 ≤ d) (h1 : d ≤ s) : ltr s (shF s v + d) = 108 := by
  have g := sh_nn hs hv
  refine ltr_iff.mpr ((low_iff hs (by omega)).mpr ?_)
  rw [sh_cnt hs hv (by omega) h1, show shF s v + d - 1 = shF s v + (d - 1) by omega, sh_cnt hs hv (by omega) (by omega)]
  omega
theorem ltrs_in {s v : Int} (hs : 1 ≤ s) (hv : 0 ≤ v) : ∀ n : Nat, (n : Int) ≤ s → ltrs s (1 + shF s v) n = List.replicate n 108
  | 0, _ => rfl
  | n + 1, h => by
    rw [ltrs_succ, ltrs_in hs hv n (by omega), show 1 + shF s v + (n : Nat) = shF s v + ((n : Nat) + 1) by omega, ltr_in hs hv (by omega) (by omega), List.replicate_succ', ]
theorem gr_ltrs {s : Int} (hs : 1 ≤ s) : ∀ v : Nat, grF s (ltrs s 1 v) = ltrs s 1 (shF s (v : Nat)).toNat
  | 0 => by
    rw [show ((0 : Nat) : Int) = 0 from rfl, sh_zero hs]
    rfl
  | v + 1 => by
    have ih := gr_ltrs hs v
    have g := sh_nn hs (show 0 ≤ (v : Int) by omega)
    have ev : (((shF s (v : Nat)).toNat : Nat) : Int) = shF s (v : Nat) := Int.toNat_of_nonneg (by omega)
    rw [ltrs_succ, grF_app, ih]
    rcases sh_next (v := (v : Int)) hs (by omega) with ⟨x, y⟩ | ⟨x, y⟩
    · have e : (shF s ((v + 1 : Nat) : Int)).toNat = (shF s (v : Nat)).toNat + 1 := by
        rw [show ((v + 1 : Nat) : Int) = (v : Int) + 1 by omega, y]
        omega
      have nl : ¬ lowF s (cntF s ((v : Int) + 1)) = (v : Int) + 1 := fun z => by
        have := (low_iff hs (by omega)).mp z
        rw [show (v : Int) + 1 - 1 = v by omega] at this
        omega
      have l1 : ltr s (1 + (v : Nat)) = 104 := by
        rcases ltr_or (s := s) (v := 1 + (v : Nat)) with z | z
        · exact absurd (by rw [show (1 : Int) + (v : Nat) = (v : Int) + 1 by omega] at z; exact ltr_iff.mp z) nl
        · exact z
      have l2 : ltr s (1 + (((shF s (v : Nat)).toNat : Nat) : Int)) = 108 := by
        rw [ev, show 1 + shF s (v : Nat) = shF s ((v : Int) + 1) by omega]
        exact ltr_iff.mpr ((sh_low hs (by omega)).mpr nl)
      rw [e, ltrs_succ, l1, l2]
      rfl
    · have e : (shF s ((v + 1 : Nat) : Int)).toNat = (shF s (v : Nat)).toNat + (s.toNat + 1) := by
        rw [show ((v + 1 : Nat) : Int) = (v : Int) + 1 by omega, y]
        omega
      have lw : lowF s (cntF s ((v : Int) + 1)) = (v : Int) + 1 := (low_iff hs (by omega)).mpr (by rw [show (v : Int) + 1 - 1 = v by omega]; exact x)
      have l1 : ltr s (1 + (v : Nat)) = 108 := by
        rw [show (1 : Int) + (v : Nat) = (v : Int) + 1 by omega]
        exact ltr_iff.mpr lw
      have l2 : ltr s (1 + shF s (v : Nat) + (s.toNat : Nat)) = 104 := by
        rw [show 1 + shF s (v : Nat) + (s.toNat : Nat) = shF s ((v : Int) + 1) by omega]
        rcases ltr_or (s := s) (v := shF s ((v : Int) + 1)) with z | z
        · exact absurd lw ((sh_low hs (by omega)).mp (ltr_iff.mp z))
        · exact z
      rw [e, ltrs_add, ev, ltrs_succ, ltrs_in hs (by omega) s.toNat (by omega), l1, l2]
      show _ ++ ((List.replicate s.toNat 108 ++ [104]) ++ []) = _
      rw [List.append_nil]
/-- l, grown so often -/
def gN (s : Int) : Nat → List Nat
  | 0 => [108]
  | k + 1 => grF s (gN s k)
theorem gN_ltrs {s : Int} (hs : 1 ≤ s) : ∀ k : Nat, gN s k = ltrs s 1 (shN s k 1).toNat
  | 0 => by
    rw [shN_0]
    show [108] = [ltr s (1 + ((0 : Nat) : Int))]
    rw [show (1 : Int) + ((0 : Nat) : Int) = 1 by decide, ltr_iff.mpr (by rw [cnt_one hs, low_one hs])]
  | k + 1 => by
    have g := shN_nn hs (show (0 : Int) ≤ 1 by decide) k
    show grF s (gN s k) = _
    rw [gN_ltrs hs k, gr_ltrs hs, shN_s, Int.toNat_of_nonneg (by omega)]
theorem gN_len {s : Int} (hs : 1 ≤ s) (k : Nat) : (((gN s k).length : Nat) : Int) = shN s k 1 := by
  have g := shN_nn hs (show (0 : Int) ≤ 1 by decide) k
  rw [gN_ltrs hs, ltrs_len]
  exact Int.toNat_of_nonneg (by omega)
/-- how many l, how many h -/
def gp (s : Int) : Nat → Int × Int
  | 0 => (1, 0)
  | k + 1 => ((gp s k).1 * s + (gp s k).2, (gp s k).1)
theorem gp_eq {s : Int} (hs : 1 ≤ s) : ∀ k : Nat, (gp s k).1 = cntF s (shN s k 1) ∧ (gp s k).2 = shN s k 1 - cntF s (shN s k 1)
  | 0 => by
    rw [shN_0, cnt_one hs]
    exact ⟨rfl, rfl⟩
  | k + 1 => by
    obtain ⟨a, b⟩ := gp_eq hs k
    have g := shN_nn hs (show (0 : Int) ≤ 1 by decide) k
    have c := sh_cnt (v := shN s k 1) (d := 0) hs (by omega) (Int.le_refl 0) (by omega)
    rw [Int.add_zero] at c
    have e : shF s (shN s k 1) = shN s k 1 + s * cntF s (shN s k 1) := rfl
    have e1 : (gp s (k + 1)).1 = (gp s k).1 * s + (gp s k).2 := rfl
    have e2 : (gp s (k + 1)).2 = (gp s k).1 := rfl
    have e3 : cntF s (shN s k 1) * s = s * cntF s (shN s k 1) := Int.mul_comm _ _
    rw [e1, e2, shN_s, a, b, e3]
    constructor <;> omega
theorem gp_len {s : Int} (hs : 1 ≤ s) (k : Nat) : (((gN s k).length : Nat) : Int) = (gp s k).1 + (gp s k).2 := by
  obtain ⟨a, b⟩ := gp_eq hs k
  rw [gN_len hs, a, b]
  omega
theorem gp_cnt {s : Int} (hs : 1 ≤ s) (k : Nat) : (((gN s k).countP (· == 108) : Nat) : Int) = (gp s k).1 ∧ (((gN s k).countP (· == 104) : Nat) : Int) = (gp s k).2 := by
  obtain ⟨a, b⟩ := gp_eq hs k
  have g := shN_nn hs (show (0 : Int) ≤ 1 by decide) k
  have c := ltrs_cnt hs (Int.le_refl 0) (shN s k 1).toNat
  have t := ltrs_two (s := s) (v := 1) (shN s k 1).toNat
  have e : (((shN s k 1).toNat : Nat) : Int) = shN s k 1 := Int.toNat_of_nonneg (by omega)
  rw [cnt_zero hs, show (1 : Int) + 0 = 1 by decide, e, Int.zero_add] at c
  rw [gN_ltrs hs, a, b]
  constructor <;> omega
theorem cutS_to {cs : List Nat} {k : Nat} : cutS (txt cs) none (some (k : Int)) = txt (cs.take k) := by
  refine txt_eq ?_
  unfold cutS
  rw [HT.sIx_none, HT.sIx_nat, txt_len, List.drop_zero, Nat.sub_zero]
  show cs.take (min k cs.length) = cs.take k
  rcases Nat.le_total k cs.length with h | h
  · rw [Nat.min_eq_left h]
  · rw [Nat.min_eq_right h, List.take_length, List.take_of_length_le h]
/-- a text's signs, one by one -/
theorem ei_text {K : PySem.W.Frag} {ρ : En} {ω : Ow} {te : TE} {cs : List Nat} (h : Ev K true te ρ ω (.str (txt cs))) : EvI K (iSeqX K te) ρ ω (cs.map fun c => D.str (sgn c)) := fun M O σ H r R q => .inr (.inr (h M O σ H r _ fun v H1 s1 r1 => by
  cases r1
  refine ⟨txt cs, rfl, q _ _ s1 ⟨fun i Hh H' t1 t2 hi => ?_, fun i X H' x H2 t1 tr hi hy => ?_, fun Hh H' t1 t2 => ?_⟩⟩
  · rw [List.length_map] at hi
    show i < (txt cs).cps.size
    exact hi
  · obtain ⟨rfl, c, hc, rfl⟩ := hy
    refine ⟨Same.refl _, fun d hd => ?_⟩
    have hc' : cs[i]? = some c := by
      have e : (txt cs).cps[i]? = cs[i]? := by
        show cs.toArray[i]? = cs[i]?
        simp
      rw [← e]
      exact hc
    rw [List.getElem?_map, hc'] at hd
    cases hd
    exact .str _
  · show (txt cs).cps.size ≤ _
    rw [List.length_map]
    exact Nat.le_refl _))
end DL

set_option Elab.async false
set_option linter.all false
set_option maxRecDepth 100000
set_option maxHeartbeats 4000000
/-! heads: numbers with a last digit above 0 -/
namespace DL
section
variable {s n m v w : Int}
def hdF (s n : Int) : Int := n - cutF s n
theorem hd_nz0 (hs : 1 ≤ s) (hn : 1 ≤ n) : nz (wdR s n) = 0 ↔ shF s (cutF s n) ≠ n := by
  rw [wd_cons hs hn]
  show (if n - shF s (cutF s n) = 0 then nz (wdR s (cutF s n)) + 1 else 0) = 0 ↔ _
  by_cases h : n - shF s (cutF s n) = 0
  · rw [if_pos h]
    omega
  · rw [if_neg h]
    omega
theorem hd_step (hs : 1 ≤ s) (hn : 0 ≤ n) : (nz (wdR s (n + 1)) = 0 ∧ hdF s (n + 1) = hdF s n + 1) ∨ (nz (wdR s (n + 1)) ≠ 0 ∧ hdF s (n + 1) = hdF s n) := by
  have z := hd_nz0 hs (show 1 ≤ n + 1 by omega)
  unfold hdF
  rcases cut_next hs hn with ⟨a, b⟩ | ⟨a, b⟩
  · exact .inr ⟨fun e => z.mp e a, by omega⟩
  · exact .inl ⟨z.mpr a, by omega⟩
theorem hd_mono (hs : 1 ≤ s) (hv : 0 ≤ v) (h : v ≤ w) : hdF s v ≤ hdF s w := by
  obtain ⟨k, rfl⟩ : ∃ k : Nat, w = v + k := ⟨(w - v).toNat, by omega⟩
  clear h
  induction k with
  | zero => rw [show v + ((0 : Nat) : Int) = v by omega]; exact Int.le_refl _
  | succ k ih =>
    have := hd_step hs (show 0 ≤ v + (k : Int) by omega)
    rw [show v + ((k + 1 : Nat) : Int) = v + (k : Int) + 1 by omega]
    omega
theorem hd_zero (hs : 1 ≤ s) : hdF s 0 = 0 := by unfold hdF; rw [cut_zero hs]; rfl
theorem hd_le (hs : 1 ≤ s) (hn : 0 ≤ n) : hdF s n ≤ n := by
  have := (cut_spec hs hn).1
  unfold hdF
  omega
theorem hd_nn (hs : 1 ≤ s) (hn : 0 ≤ n) : 0 ≤ hdF s n := by
  have := hd_mono hs (Int.le_refl 0) hn
  rw [hd_zero hs] at this
  exact this
theorem cnt_half (hs : 1 ≤ s) (hv : 0 ≤ v) : v / 2 ≤ cntF s v := by
  have h := low_le2 hs (show 0 ≤ v / 2 by omega)
  exact (low_le hs (by omega) hv).mp (by omega)
theorem hd_ge (hs : 1 ≤ s) (hn : 0 ≤ n) : n ≤ 3 * hdF s n + 1 := by
  obtain ⟨c0, _, c2, _⟩ := cut_spec hs hn
  have h := cnt_half hs c0
  have m := Int.mul_le_mul_of_nonneg_right hs (cnt_nn hs c0)
  have e : shF s (cutF s n) = cutF s n + s * cntF s (cutF s n) := rfl
  unfold hdF
  omega
theorem hd_find (hs : 1 ≤ s) (hm : 1 ≤ m) : ∀ N : Nat, m ≤ hdF s N → ∃ n, 1 ≤ n ∧ hdF s n = m ∧ hdF s (n - 1) = m - 1
  | 0, h => by
    rw [show ((0 : Nat) : Int) = 0 from rfl, hd_zero hs] at h
    omega
  | N + 1, h => by
    by_cases z : m ≤ hdF s N
    · exact hd_find hs hm N z
    · have st := hd_step hs (show 0 ≤ (N : Int) by omega)
      rw [show ((N + 1 : Nat) : Int) = (N : Int) + 1 by omega] at h
      refine ⟨(N : Int) + 1, by omega, by omega, ?_⟩
      rw [show (N : Int) + 1 - 1 = N by omega]
      omega
/-- the number at the head of row m -/
noncomputable def headF (s m : Int) : Int := Classical.epsilon fun n => 1 ≤ n ∧ hdF s n = m ∧ hdF s (n - 1) = m - 1
theorem head_spec (hs : 1 ≤ s) (hm : 1 ≤ m) : 1 ≤ headF s m ∧ hdF s (headF s m) = m ∧ hdF s (headF s m - 1) = m - 1 :=
  Classical.epsilon_spec (hd_find hs hm (3 * m + 1).toNat (by
    rw [Int.toNat_of_nonneg (by omega)]
    have := hd_ge hs (show 0 ≤ 3 * m + 1 by omega)
    omega))
theorem head_le (hs : 1 ≤ s) (hm : 1 ≤ m) (hv : 0 ≤ v) : headF s m ≤ v ↔ m ≤ hdF s v := by
  obtain ⟨a, b, c⟩ := head_spec hs hm
  constructor
  · intro h
    have := hd_mono hs (show 0 ≤ headF s m by omega) h
    omega
  · intro h
    by_cases z : headF s m ≤ v
    · exact z
    · have := hd_mono hs hv (show v ≤ headF s m - 1 by omega)
      omega
theorem head_nz (hs : 1 ≤ s) (hm : 1 ≤ m) : nz (wdR s (headF s m)) = 0 := by
  obtain ⟨a, b, c⟩ := head_spec hs hm
  have := hd_step hs (show 0 ≤ headF s m - 1 by omega)
  rw [show headF s m - 1 + 1 = headF s m by omega] at this
  omega
theorem head_ge (hs : 1 ≤ s) (hm : 1 ≤ m) : m ≤ headF s m := by
  obtain ⟨a, b, c⟩ := head_spec hs hm
  have := hd_le hs (show 0 ≤ headF s m by omega)
  omega
theorem head_up (hs : 1 ≤ s) (hm : 1 ≤ m) : headF s m ≤ 3 * m + 1 := by
  have := hd_ge hs (show 0 ≤ 3 * m + 1 by omega)
  exact (head_le hs hm (by omega)).mpr (by omega)
theorem head_of (hs : 1 ≤ s) (hn : 1 ≤ n) (h : nz (wdR s n) = 0) : 1 ≤ hdF s n ∧ headF s (hdF s n) = n := by
  have st := hd_step hs (show 0 ≤ n - 1 by omega)
  rw [show n - 1 + 1 = n by omega] at st
  have g := hd_nn hs (show 0 ≤ n - 1 by omega)
  have p : 1 ≤ hdF s n := by omega
  obtain ⟨a, b, c⟩ := head_spec hs p
  have l := (head_le hs p (show 0 ≤ n by omega)).mpr (Int.le_refl _)
  have := mt (head_le hs p (show 0 ≤ n - 1 by omega)).mp (by omega)
  exact ⟨p, by omega⟩
theorem head_lt (hs : 1 ≤ s) (hm : 1 ≤ m) : headF s m < headF s (m + 1) := by
  obtain ⟨a, b, c⟩ := head_spec hs hm
  obtain ⟨a', b', c'⟩ := head_spec hs (show 1 ≤ m + 1 by omega)
  have := mt (head_le hs (show 1 ≤ m + 1 by omega) (show 0 ≤ headF s m by omega)).mp (by omega)
  omega
theorem head_gap (hs : 1 ≤ s) (hm : 1 ≤ m) : headF s (m + 1) ≤ headF s m + 4 := by
  obtain ⟨a, b, c⟩ := head_spec hs hm
  refine (head_le hs (by omega) (by omega)).mpr ?_
  have c1 := cut_spec hs (show 0 ≤ headF s m by omega)
  have c2 := cut_spec hs (show 0 ≤ headF s m + 4 by omega)
  by_cases z : cutF s (headF s m + 4) ≤ cutF s (headF s m) + 3
  · have : hdF s (headF s m) = headF s m - cutF s (headF s m) := rfl
    show m + 1 ≤ headF s m + 4 - cutF s (headF s m + 4)
    omega
  · have t0 := low_step hs (cnt_nn hs (show 0 ≤ cutF s (headF s m) + 1 by omega))
    have t1 := (cnt_iff hs (show 0 ≤ cutF s (headF s m) + 1 by omega) (cnt_nn hs (show 0 ≤ cutF s (headF s m) + 1 by omega))).mp rfl
    have t2 := (low_le hs (show 0 ≤ cntF s (cutF s (headF s m) + 1) + 1 by have := cnt_nn hs (show 0 ≤ cutF s (headF s m) + 1 by omega); omega) (show 0 ≤ cutF s (headF s m) + 4 by omega)).mp (by omega)
    have t3 := sh_le hs (show 0 ≤ cutF s (headF s m) + 4 by omega) (show cutF s (headF s m) + 4 ≤ cutF s (headF s m + 4) by omega)
    have e1 : shF s (cutF s (headF s m) + 4) = cutF s (headF s m) + 4 + s * cntF s (cutF s (headF s m) + 4) := rfl
    have e2 : shF s (cutF s (headF s m) + 1) = cutF s (headF s m) + 1 + s * cntF s (cutF s (headF s m) + 1) := rfl
    have mm := Int.mul_le_mul_of_nonneg_left t2 (show 0 ≤ s by omega)
    rw [Int.mul_add] at mm
    omega
theorem nz_split : ∀ r : List Int, r = List.replicate (nz r) 0 ++ r.drop (nz r) ∧ nz (r.drop (nz r)) = 0
  | [] => ⟨rfl, rfl⟩
  | d :: r => by
    by_cases h : d = 0
    · have e : nz (d :: r) = nz r + 1 := if_pos h
      obtain ⟨a, b⟩ := nz_split r
      rw [e]
      refine ⟨?_, b⟩
      rw [List.replicate_succ, List.cons_append, List.drop_succ_cons, ← a, h]
    · have e : nz (d :: r) = 0 := if_neg h
      rw [e]
      exact ⟨rfl, e⟩
theorem wd_drop : ∀ {r : List Int} (k : Nat), WdR s r → WdR s (r.drop k)
  | _, 0, h => h
  | [], _ + 1, h => h
  | _ :: _, k + 1, h => wd_drop k h.2.2.2.2
/-- the head of the row in which n stands -/
def rootF (s n : Int) : Int := valR s ((wdR s n).drop (nz (wdR s n)))
theorem root_spec (hs : 1 ≤ s) (hn : 1 ≤ n) : 1 ≤ rootF s n ∧ rootF s n ≤ n ∧ nz (wdR s (rootF s n)) = 0 ∧ shN s (nz (wdR s n)) (rootF s n) = n ∧ wdR s (rootF s n) = (wdR s n).drop (nz (wdR s n)) := by
  obtain ⟨a, b⟩ := nz_split (wdR s n)
  have ok := wd_drop (nz (wdR s n)) (wd_ok hs (show 0 ≤ n by omega))
  have ne : (wdR s n).drop (nz (wdR s n)) ≠ [] := fun z => by
    have := (nz_at hs (wd_ok hs (show 0 ≤ n by omega)) (wd_ne hs hn)).1
    have := List.drop_eq_nil_iff.mp z
    omega
  have e := wd_eq hs ok
  have p := wd_pos hs ok ne
  have v : shN s (nz (wdR s n)) (rootF s n) = n := by
    show shN s (nz (wdR s n)) (valR s ((wdR s n).drop (nz (wdR s n)))) = n
    rw [← val_zeros, ← a, wd_val hs (by omega)]
  have e' : wdR s (rootF s n) = (wdR s n).drop (nz (wdR s n)) := e.symm
  refine ⟨p, ?_, by rw [e']; exact b, v, e'⟩
  have := shN_nn hs (show 0 ≤ rootF s n from Int.le_trans (by decide) p) (nz (wdR s n))
  omega
theorem root_sh (hs : 1 ≤ s) (hv : 1 ≤ v) (h : nz (wdR s v) = 0) (k : Nat) : nz (wdR s (shN s k v)) = k ∧ rootF s (shN s k v) = v := by
  have e := wd_shN hs hv k
  have z : nz (wdR s (shN s k v)) = k := by rw [e, nz_zeros, h]; rfl
  refine ⟨z, ?_⟩
  unfold rootF
  rw [z, e, List.drop_append_of_le_length (by rw [List.length_replicate]; exact Nat.le_refl _), List.drop_of_length_le (by rw [List.length_replicate]; exact Nat.le_refl _), List.nil_append, wd_val hs (by omega)]
end
end DL

set_option Elab.async false
set_option linter.all false
set_option maxRecDepth 100000
set_option maxHeartbeats 4000000
/-! DLQ: extend by a tuple. -/
namespace DL
open PySem PySem.W L2 PySem.Spec PyProof.Rows
theorem extend_tupW (l : Addr) (items : Array Value) (n : Nat) (b : Addr) (items2 : Array Value) (n2 : Nat) (dd : Option Addr) (sl : Array (Option Value)) (hs0 : ¬(!items.isEmpty && Builtin.List.listTooLong (items.size + items2.size)) = true) (hs1 : items.size ≤ sizeLine) (hs2 : items.size + items2.size ≤ sizeLine + 1) :
    Meets (Builtin.«list.extend» ⟨[.ref l, .ref b], []⟩) (fun _ R s => s.heap.get? l = some { cls := .type "list", dict := none, data := .seq items n, slots := #[] } ∧ s.heap.get? b = some { cls := .type "tuple", dict := dd, data := .seq items2 n2, slots := sl } ∧ R (.ok (.ret Value.none)) { s with heap := s.heap.update l (Obj.mapSeq fun x => x ++ items2), toks := s.toks }) :=
  .of_wp fun prog w A R s h => by
    obtain ⟨hp, g, d, tk, os⟩ := s; obtain ⟨hl, hb, h⟩ := h; have f1 := AutoSeq1.idx_int; have f2 := AutoSeq1.sub_tuple_tuple; have f3 := AutoSeq1.sub_list_list; have f4 := AutoSeq1.sub_tuple_list; have f5 := AutoSeq1.sub_list_tuple;
    have hz' : (items ++ items2).size ≤ sizeLine + 1 := by rw [Array.size_append]; exact hs2
    wp_walk using (wpAny_updateSeq hl rfl (hz := hs1) (_hz' := hz')), wpAny_loadPart' hl, wpAny_loadPart' hb; exact ⟨_, rfl, h⟩
def rExtendT (K : PySem.W.Frag) : V → List V → Hp → VK → Prop := fun x vs H Q => ∃ l b xs zs, x = .ref l ∧ vs = [.ref b] ∧ H l = some (.lst xs) ∧ SqT K H b zs ∧ xs.length + zs.length ≤ sizeLine ∧ Q .non (upd H l (.lst (xs ++ zs)))
theorem mt_extendT {X : Cx} : MtM X "list.extend" (rExtendT X.K) := by
  intro pins s σ H x vs v us Q I rx rv h
  obtain ⟨l, b, xs, zs, rfl, rfl, hH, hB, hz, q⟩ := h
  cases rx
  obtain ⟨u, rfl, ru⟩ := rv.one
  cases ru
  obtain ⟨z, its, n, r, hl, e⟩ := I.lstM hH
  obtain ⟨its2, r2, ⟨⟨cls, dd, data, sl⟩, ho, hc, n2, hd⟩, hs⟩ := I.tuple hB
  simp only at hc hd
  subst hc hd
  have hl2 := r2.length
  have hsz : its.toArray.size + its2.toArray.size ≤ sizeLine := by rw [List.size_toArray, List.size_toArray]; omega
  have hlong : ¬ (!its.toArray.isEmpty && Builtin.List.listTooLong (its.toArray.size + its2.toArray.size)) = true := by
    rw [notLongL hsz, Bool.and_false]
    exact Bool.false_ne_true
  refine call_meets F.slot_list_extend ⟨_, e, rfl⟩ F.entry_list_extend (F.args_list_extend_2 _ _)
    (extend_tupW l its.toArray n b its2.toArray n2 dd sl hlong (by rw [List.size_toArray]; omega) (by omega)) ⟨e, ho, ?_⟩
  refine ⟨.non, _, I.lset (its' := its ++ its2) hH e (by simp) (r.append r2) ?_, rfl, q⟩
  rw [List.length_append]
  omega
section
variable {K : PySem.W.Frag} {ρ : En} {ω : Ow} {Φ : Out → Prop} {te : TE} {ds : List D} {b : Bool}
theorem ws_extendT {j k : Nat} {es : List D} (e : ρ[j]? = some (some (.ow k))) (ew : ω[k]? = some (.l ds)) (hv : Ev K true te ρ ω (.tup es)) (hl : ds.length + es.length ≤ 1000000) (q : Φ (.nx ρ (ω.set k (.l (ds ++ es))))) :
    WS K b (tDrop (tBM K "list" (rExtendT K) (tVar j) (tCons te tNil))) ρ ω Φ := fun M O σ H D' r c => by
  obtain ⟨a, vs, h1, h2, h3, h4⟩ := ev_own e ew trivial M O σ H r
  refine ⟨.ref a, h2, .inl ⟨rfl, vs, .inl (.inl h3)⟩, ?_⟩
  refine hv M O σ H r _ fun v H1 s1 r1 => ?_
  have r' := r.mono s1
  cases r1 with
  | tup hb rs =>
    obtain ⟨r2, k2⟩ := r'.write (o := .lst (vs ++ _)) h1 l_ne ⟨_, upd_same, (h4.mono (hid_same s1)).append rs⟩
    exact ⟨a, _, vs, _, rfl, rfl, s1 _ _ h3, sameT hid_le hb, by rw [h4.length, rs.length]; exact Nat.le_trans hl (by decide), c.nx O σ _ ρ _ r2 ((Kp.same s1).trans k2) q⟩
end
/-- a comprehension within a comprehension -/
theorem blkOk_in {X : Cx} {s : Shared} {H : Hp} {scope : Scope} {cl : List (Str × Addr)} {C : Addr} {fp : List Addr} {N : List Str} {sc scope2 : Scope} {own : List (Str × Nat)} (e1 : X.N = N) (e : X.env.scope = sc) (h : blkC N (relS scope sc) scope2 own = true) :
    BlkOk (X.blk s H scope (compEnvC scope cl C X.env) fp).N (X.blk s H scope (compEnvC scope cl C X.env) fp).env.scope scope2 own := by
  subst e1 e
  exact blkOk_by h
end DL

set_option Elab.async false
set_option linter.all false
set_option maxRecDepth 100000
set_option maxHeartbeats 4000000
/-! DLT: dicts whose keys are pairs of ints; sorted lists of pairs; x in a list of pairs. -/
namespace DL
open PySem PySem.W L2 PySem.Spec PyProof.Rows
/-! ### tables -/
section
variable {κ β : Type} [DecidableEq κ]
def hasG (kds : List (κ × β)) (k : κ) : Bool := kds.any fun x => decide (x.1 = k)
def getG (kds : List (κ × β)) (k : κ) : Option β := (kds.find? fun kv => decide (kv.1 = k)).map (·.2)
def putG (kds : List (κ × β)) (k : κ) (d : β) : List (κ × β) := if hasG kds k = true then kds.map (fun x => if x.1 = k then (x.1, d) else x) else kds ++ [(k, d)]
theorem getG_nil {k : κ} : getG ([] : List (κ × β)) k = none := rfl
theorem getG_cons {x : κ × β} {r : List (κ × β)} {k : κ} : getG (x :: r) k = if x.1 = k then some x.2 else getG r k := by
  unfold getG
  rw [List.find?_cons]
  by_cases e : x.1 = k
  · rw [decide_eq_true e, if_pos e]; rfl
  · rw [decide_eq_false e, if_neg e]
theorem hasG_cons {x : κ × β} {r : List (κ × β)} {k : κ} : hasG (x :: r) k = (decide (x.1 = k) || hasG r k) := rfl
theorem hasG_get {k : κ} : ∀ {m : List (κ × β)}, hasG m k = (getG m k).isSome
  | [] => rfl
  | x :: r => by
    rw [hasG_cons, getG_cons, hasG_get (m := r)]
    by_cases e : x.1 = k
    · rw [decide_eq_true e, if_pos e]; rfl
    · rw [decide_eq_false e, if_neg e]; rfl
theorem getG_app {k : κ} {y : List (κ × β)} : ∀ {m : List (κ × β)}, getG (m ++ y) k = (getG m k).or (getG y k)
  | [] => by rw [List.nil_append, getG_nil]; rfl
  | x :: r => by
    rw [List.cons_append, getG_cons, getG_cons, getG_app (m := r)]
    by_cases e : x.1 = k
    · rw [if_pos e, if_pos e]; rfl
    · rw [if_neg e, if_neg e]
theorem getG_upd {k j : κ} {d : β} : ∀ {m : List (κ × β)}, getG (m.map fun x => if x.1 = k then (x.1, d) else x) j = if j = k then (getG m j).map (fun _ => d) else getG m j
  | [] => by rw [List.map_nil, getG_nil]; split <;> rfl
  | x :: r => by
    rw [List.map_cons, getG_cons, getG_cons, getG_upd (m := r)]
    by_cases e : x.1 = k
    · rw [if_pos e]
      by_cases h : x.1 = j
      · have : j = k := h.symm.trans e
        rw [if_pos h, if_pos h, if_pos this]; rfl
      · rw [if_neg h, if_neg h]
    · rw [if_neg e]
      by_cases h : x.1 = j
      · have : ¬ j = k := fun z => e (h.trans z)
        rw [if_pos h, if_pos h, if_neg this]
      · rw [if_neg h, if_neg h]
theorem getG_put {m : List (κ × β)} {k j : κ} {d : β} : getG (putG m k d) j = if j = k then some d else getG m j := by
  unfold putG
  split
  · rename_i h
    rw [getG_upd]
    by_cases e : j = k
    · rw [if_pos e, if_pos e]
      rw [hasG_get, ← e] at h
      cases q : getG m j with
      | none => rw [q] at h; cases h
      | some x => rfl
    · rw [if_neg e, if_neg e]
  · rename_i h
    rw [getG_app, getG_cons, getG_nil]
    by_cases e : j = k
    · rw [if_pos e, if_pos e.symm]
      rw [hasG_get, ← e] at h
      cases q : getG m j with
      | none => rfl
      | some x => rw [q] at h; exact absurd rfl h
    · rw [if_neg e, if_neg fun z => e z.symm, Option.or_none]
theorem hasG_put {m : List (κ × β)} {k j : κ} {d : β} : hasG (putG m k d) j = (hasG m j || decide (j = k)) := by
  rw [hasG_get, hasG_get, getG_put]
  by_cases e : j = k
  · rw [if_pos e, decide_eq_true e, Bool.or_true]; rfl
  · rw [if_neg e, decide_eq_false e, Bool.or_false]
theorem putG_len {m : List (κ × β)} {k : κ} {d : β} : (putG m k d).length ≤ m.length + 1 := by
  unfold putG
  split
  · rw [List.length_map]; omega
  · simp
theorem hasG_iff {m : List (κ × β)} {k : κ} : hasG m k = true ↔ k ∈ m.map (·.1) := by
  unfold hasG
  rw [List.any_eq_true, List.mem_map]
  constructor
  · rintro ⟨x, h, e⟩; exact ⟨x, h, of_decide_eq_true e⟩
  · rintro ⟨x, h, e⟩; exact ⟨x, h, decide_eq_true e⟩
theorem putG_keys {m : List (κ × β)} {k : κ} {d : β} : (putG m k d).map (·.1) = if hasG m k = true then m.map (·.1) else m.map (·.1) ++ [k] := by
  unfold putG
  split
  · rename_i h
    rw [List.map_map]
    apply List.map_congr_left
    intro x _
    show (if x.1 = k then (x.1, d) else x).1 = x.1
    split <;> rfl
  · rw [List.map_append]; rfl
theorem putG_nodup {m : List (κ × β)} {k : κ} {d : β} (h : (m.map (·.1)).Nodup) : ((putG m k d).map (·.1)).Nodup := by
  rw [putG_keys]
  split
  · exact h
  · rename_i n
    rw [hasG_iff] at n
    refine List.nodup_append.mpr ⟨h, by simp, ?_⟩
    intro a ha b hb e
    have : b = k := by simpa using hb
    exact n (by rw [← this, ← e]; exact ha)
end
section
variable {κ : Type} [DecidableEq κ] {K : PySem.W.Frag} {H : Hp}
theorem isSome_keysG {β : Type} {k : κ} : ∀ {xs : List (κ × V)} {ys : List (κ × β)}, xs.map (·.1) = ys.map (·.1) → (valV xs k).isSome = hasG ys k := fun {xs ys} h => by
  rw [← valV_any]
  unfold hasG
  induction xs generalizing ys with
  | nil =>
    cases ys with
    | nil => rfl
    | cons y ys => cases h
  | cons x xs ih =>
    cases ys with
    | nil => cases h
    | cons y ys =>
      rw [List.map_cons, List.map_cons] at h
      injection h with h1 h2
      rw [List.any_cons, List.any_cons, ih h2, h1]
theorem Rps.getK {k : κ} {d : D} : ∀ {kvs : List (κ × V)} {kds : List (κ × D)}, kvs.map (·.1) = kds.map (·.1) → Rps K H (kvs.map (·.2)) (kds.map (·.2)) → getG kds k = some d → ∃ v, valV kvs k = some v ∧ Rp K H v d := fun {kvs kds} h r g => by
  induction kvs generalizing kds with
  | nil =>
    cases kds with
    | nil => cases g
    | cons y ys => cases h
  | cons x xs ih =>
    cases kds with
    | nil => cases h
    | cons y ys =>
      rw [List.map_cons, List.map_cons] at h r
      injection h with h1 h2
      cases r with
      | cons r1 r2 =>
        rw [getG_cons] at g
        by_cases e : y.1 = k
        · rw [if_pos e] at g
          cases g
          exact ⟨x.2, valV_pos (h1.trans e), r1⟩
        · rw [if_neg e] at g
          obtain ⟨v, q1, q2⟩ := ih h2 r2 g
          exact ⟨v, by rw [valV_neg fun z => e (h1.symm.trans z)]; exact q1, q2⟩
theorem Rps.putK {k : κ} {v : V} {d : D} (rv : Rp K H v d) {kvs : List (κ × V)} {kds : List (κ × D)} (h : kvs.map (·.1) = kds.map (·.1)) (r : Rps K H (kvs.map (·.2)) (kds.map (·.2))) :
    (L2.putK kvs k v).map (·.1) = (putG kds k d).map (·.1) ∧ Rps K H ((L2.putK kvs k v).map (·.2)) ((putG kds k d).map (·.2)) := by
  have hs := isSome_keysG (k := k) h
  unfold L2.putK putG
  rw [valV_any, hs]
  by_cases c : hasG kds k = true
  · rw [if_pos c, if_pos c]
    have go : ∀ {kvs : List (κ × V)} {kds : List (κ × D)}, kvs.map (·.1) = kds.map (·.1) → Rps K H (kvs.map (·.2)) (kds.map (·.2)) →
        (kvs.map fun kv => if kv.1 = k then (kv.1, v) else kv).map (·.1) = (kds.map fun x => if x.1 = k then (x.1, d) else x).map (·.1) ∧ Rps K H ((kvs.map fun kv => if kv.1 = k then (kv.1, v) else kv).map (·.2)) ((kds.map fun x => if x.1 = k then (x.1, d) else x).map (·.2)) := by
      intro kvs
      induction kvs with
      | nil =>
        intro kds h r
        cases kds with
        | nil => exact ⟨rfl, .nil⟩
        | cons y ys => cases h
      | cons x xs ih =>
        intro kds h r
        cases kds with
        | nil => cases h
        | cons y ys =>
          rw [List.map_cons, List.map_cons] at h r
          injection h with h1 h2
          cases r with
          | cons r1 r2 =>
            obtain ⟨g1, g2⟩ := ih h2 r2
            simp only [List.map_cons]
            rw [h1]
            by_cases e : y.1 = k
            · rw [if_pos e, if_pos e]
              exact ⟨by rw [g1], .cons rv g2⟩
            · rw [if_neg e, if_neg e]
              exact ⟨by rw [g1, h1], .cons r1 g2⟩
    exact go h r
  · rw [if_neg c, if_neg c, List.map_append, List.map_append, List.map_append, List.map_append, h]
    exact ⟨rfl, Rps.append r (.cons rv .nil)⟩
end
/-! ### pairs of ints as keys -/
abbrev ZZ := Int × Int
def pk (p : ZZ) : List Key := [.inl p.1, .inl p.2]
abbrev pD (p : ZZ) : D := .tup [.int p.1, .int p.2]
def pT {β : Type} (m : List (ZZ × β)) : List (List Key × β) := m.map fun x => (pk x.1, x.2)
theorem pk_inj {p q : ZZ} : pk p = pk q ↔ p = q := by
  constructor
  · intro h
    unfold pk at h
    injection h with h1 h2
    injection h2 with h2 _
    injection h1 with h1
    injection h2 with h2
    exact Prod.ext h1 h2
  · intro h; rw [h]
section
variable {β : Type}
theorem hasT {m : List (ZZ × β)} {p : ZZ} : hasG (pT m) (pk p) = hasG m p := by
  unfold hasG pT
  rw [List.any_map]
  congr 1
  funext x
  show decide (pk x.1 = pk p) = decide (x.1 = p)
  by_cases e : x.1 = p
  · rw [decide_eq_true e, decide_eq_true (pk_inj.mpr e)]
  · rw [decide_eq_false e, decide_eq_false fun z => e (pk_inj.mp z)]
theorem getT {p : ZZ} : ∀ {m : List (ZZ × β)}, getG (pT m) (pk p) = getG m p
  | [] => rfl
  | x :: r => by
    show getG ((pk x.1, x.2) :: pT r) (pk p) = _
    rw [getG_cons, getG_cons, getT (m := r)]
    by_cases e : x.1 = p
    · rw [if_pos e, if_pos (pk_inj.mpr e)]
    · rw [if_neg e, if_neg fun z => e (pk_inj.mp z)]
theorem putT {m : List (ZZ × β)} {p : ZZ} {d : β} : putG (pT m) (pk p) d = pT (putG m p d) := by
  unfold putG
  rw [hasT]
  split
  · unfold pT
    rw [List.map_map, List.map_map]
    apply List.map_congr_left
    intro x _
    show (if pk x.1 = pk p then (pk x.1, d) else (pk x.1, x.2)) = ((fun y : ZZ × β => (pk y.1, y.2)) (if x.1 = p then (x.1, d) else x))
    by_cases e : x.1 = p
    · rw [if_pos e, if_pos (pk_inj.mpr e)]
    · rw [if_neg e, if_neg fun z => e (pk_inj.mp z)]
  · unfold pT; rw [List.map_append]; rfl
end
section
variable {K : PySem.W.Frag} {s b : Bool} {ρ ρ' : En} {ω : Ow} {ta tb te ti : TE} {d : D} {ds : List D} {Φ : Out → Prop} {i j : Int} {p : ZZ} {H : Hp}
/-- the tuple of a pair stands in the heap as a key -/
theorem Rp.key {v : V} (r : Rp K H v (pD p)) : ∃ a, v = .ref a ∧ H a = some (.tup ((pk p).map kV)) := by
  cases r with
  | tup ha rs =>
    cases rs with
    | cons r1 rs =>
      cases rs with
      | cons r2 rs =>
        cases rs
        cases r1
        cases r2
        exact ⟨_, rfl, ha⟩
theorem ev_ownT {k m : Nat} {kds : List (List Key × D)} (e : ρ[m]? = some (some (.ow k))) (ew : ω[k]? = some (.dT kds)) : ∀ M O σ H, SR K M O ω ρ σ H → ∃ a kvs, O[k]? = some (some a) ∧ σ[m]? = some (some (.ref a)) ∧ H a = some (.dT kvs) ∧ kvs.map (·.1) = kds.map (·.1) ∧ Rps K (hid (xo M O) H) (kvs.map (·.2)) (kds.map (·.2)) := fun M O σ H r => by
  obtain ⟨a, h1, h2⟩ := r.ow m k e
  obtain ⟨w, h3, h4, h5⟩ := r.own k a h1
  rw [ew] at h3
  cases h3
  obtain ⟨kvs, h6, h7, h8⟩ := h5
  exact ⟨a, kvs, h1, h2, h6, h7, h8⟩
theorem ev_inT {k m : Nat} {kds : List (ZZ × D)} (hv : Ev K s te ρ ω (pD p)) (e : ρ[m]? = some (some (.ow k))) (ew : ω[k]? = some (.dT (pT kds))) : Ev K s (tOp rInDc te (tVar m)) ρ ω (.bl (hasG kds p)) := fun M O σ H r Q q => hv M O σ H r _ fun v H1 s1 r1 => by
  obtain ⟨a, kvs, h1, h2, h3, h4, _⟩ := ev_ownT e ew M O σ H1 (r.mono s1)
  obtain ⟨c, rfl, hc⟩ := r1.key
  refine ⟨.ref a, h2, a, _, rfl, DGet.t (k := pk p) h3 (of_hid hc).2, ?_⟩
  rw [isSome_keysG h4, hasT]
  exact q _ H1 s1 (.bl _)
theorem ev_notinT {k m : Nat} {kds : List (ZZ × D)} (hv : Ev K s te ρ ω (pD p)) (e : ρ[m]? = some (some (.ow k))) (ew : ω[k]? = some (.dT (pT kds))) : Ev K s (tOp rNotInDc te (tVar m)) ρ ω (.bl (!hasG kds p)) := fun M O σ H r Q q => hv M O σ H r _ fun v H1 s1 r1 => by
  obtain ⟨a, kvs, h1, h2, h3, h4, _⟩ := ev_ownT e ew M O σ H1 (r.mono s1)
  obtain ⟨c, rfl, hc⟩ := r1.key
  refine ⟨.ref a, h2, a, _, rfl, DGet.t (k := pk p) h3 (of_hid hc).2, ?_⟩
  rw [isSome_keysG h4, hasT]
  exact q _ H1 s1 (.bl _)
/-- own d[p] -/
theorem ev_getO {k m : Nat} {kds : List (ZZ × D)} (hv : Ev K true te ρ ω (pD p)) (e : ρ[m]? = some (some (.ow k))) (ew : ω[k]? = some (.dT (pT kds))) (hg : getG kds p = some d) : Ev K s (tOp (rIxX K) (tVar m) te) ρ ω d := Ev.weak fun M O σ H r Q q => by
  obtain ⟨a, kvs0, h1, h2, _⟩ := ev_ownT e ew M O σ H r
  refine ⟨.ref a, h2, ?_⟩
  refine hv M O σ H r _ fun v H1 s1 r1 => ?_
  obtain ⟨a', kvs, h1', h2', h3, h4, h5⟩ := ev_ownT e ew M O σ H1 (r.mono s1)
  rw [h1] at h1'
  cases h1'
  obtain ⟨c, rfl, hc⟩ := r1.key
  obtain ⟨u, q1, q2⟩ := Rps.getK (k := pk p) h4 h5 (by rw [getT]; exact hg)
  refine .inr ⟨a, u, rfl, ?_, q u H1 s1 q2⟩
  rw [← q1]
  exact DGet.t h3 (of_hid hc).2
/-- d[p], d shared -/
theorem rd_ixDT {kds : List (ZZ × D)} (hg : getG kds p = some d) : RD K (rIxX K) (.dT (pT kds)) (pD p) d := fun X H v1 v2 t r1 r2 Q q => by
  cases r1 with
  | dT ha h4 h5 =>
    obtain ⟨c, rfl, hc⟩ := r2.key
    obtain ⟨u, q1, q2⟩ := Rps.getK (k := pk p) h4 h5 (by rw [getT]; exact hg)
    refine .inr ⟨_, u, rfl, ?_, q u H (Same.refl H) q2⟩
    rw [← q1]
    exact DGet.t (of_hid ha).2 (of_hid hc).2
theorem rd_ixDZ {kds : List (ZZ × D)} (hg : getG kds p = some d) : RD K (rIxX K) (.zT (pT kds)) (pD p) d := fun X H v1 v2 t r1 r2 Q q => by
  cases r1 with
  | zT ha h4 h5 =>
    obtain ⟨c, rfl, hc⟩ := r2.key
    obtain ⟨u, q1, q2⟩ := Rps.getK (k := pk p) h4 h5 (by rw [getT]; exact hg)
    refine .inr ⟨_, u, rfl, ?_, q u H (Same.refl H) q2⟩
    rw [← q1]
    exact .inr ⟨_, pk p, c, .inr ⟨_, (of_hid ha).2⟩, rfl, (of_hid hc).2, rfl⟩
theorem rd_inDT {kds : List (ZZ × D)} : RD K rInDc (pD p) (.dT (pT kds)) (.bl (hasG kds p)) := fun X H v1 v2 t r1 r2 Q q => by
  cases r2 with
  | dT ha h4 h5 =>
    obtain ⟨c, rfl, hc⟩ := r1.key
    refine ⟨_, _, rfl, DGet.t (k := pk p) (of_hid ha).2 (of_hid hc).2, ?_⟩
    rw [isSome_keysG h4, hasT]
    exact q _ H (Same.refl H) (.bl _)
/-- own d[p] = v -/
theorem ws_putT {k m : Nat} {kds : List (ZZ × D)} (e : ρ[m]? = some (some (.ow k))) (ew : ω[k]? = some (.dT (pT kds))) (hv : Ev K true te ρ ω d) (hi : Ev K true ti ρ ω (pD p)) (hl : kds.length ≤ 1000000) (q : Φ (.nx ρ (ω.set k (.dT (pT (putG kds p d)))))) :
    WS K b (tAsg te (gSub (tVar m) ti rSetX)) ρ ω Φ := fun M O σ H D' r c => hv M O σ H r _ fun v H1 s1 r1 => by
  obtain ⟨a, kvs, h1, h2, h3, h4, h5⟩ := ev_ownT e ew M O σ H1 (r.mono s1)
  refine ⟨.ref a, h2, ?_⟩
  refine hi M O σ H1 (r.mono s1) _ fun u H2 s2 r2 => ?_
  obtain ⟨cc, rfl, hc⟩ := r2.key
  have r' := (r.mono s1).mono s2
  have len : kvs.length = kds.length := by
    have := congrArg List.length h4
    rw [List.length_map, List.length_map] at this
    rw [this]
    unfold pT
    rw [List.length_map]
  obtain ⟨p1, p2⟩ := Rps.putK (k := pk p) (r1.mono (hid_same s2)) h4 (h5.mono (hid_same s2))
  rw [putT] at p1 p2
  obtain ⟨r3, k3⟩ := r'.write (o := .dT (L2.putK kvs (pk p) v)) (w := .dT (pT (putG kds p d))) h1 (fun z => Own.noConfusion z) ⟨_, upd_same, p1, p2⟩
  refine .inr ⟨a, _, rfl, DPut.t (k := pk p) (s2 _ _ h3) (of_hid hc).2 ?_, c.nx O σ _ ρ _ r3 ((Kp.same (s1.trans s2)).trans k3) q⟩
  rw [len]
  exact Nat.lt_of_le_of_lt hl (by decide)
end
end DL

set_option Elab.async false
set_option linter.all false
set_option maxRecDepth 100000
set_option maxHeartbeats 4000000
/-! DLU: dicts walked under a lock; sorted lists of pairs; data that are equal. -/
namespace DL
open PySem PySem.W L2 PySem.Spec PyProof.Rows
/-! ### data without dicts -/
mutual
def dfree : D → Bool
  | .lst xs => dfrees xs | .tup xs => dfrees xs | .fro xs => dfrees xs | .dK _ => false | .dT _ => false | .zT _ => false
  | .non => true | .bl _ => true | .int _ => true | .str _ => true | .raw _ => true
def dfrees : List D → Bool
  | [] => true
  | x :: xs => dfree x && dfrees xs
end
theorem dfrees_of : ∀ {xs : List D}, (∀ x ∈ xs, dfree x = true) → dfrees xs = true
  | [], _ => by unfold dfrees; rfl
  | x :: xs, h => by
    unfold dfrees
    rw [h x List.mem_cons_self, dfrees_of fun y hy => h y (List.mem_cons_of_mem _ hy)]
    rfl
theorem dfrees_map {α : Type} {f : α → D} {xs : List α} (h : ∀ x, dfree (f x) = true) : dfrees (xs.map f) = true := dfrees_of fun y hy => by
  obtain ⟨x, _, rfl⟩ := List.mem_map.mp hy
  exact h x
/-- a dict stands at d, locked or not -/
def DAt (H : Hp) (d : Addr) : Prop := ∃ kvs : List (List Key × V), H d = some (.dT kvs) ∨ ∃ o, H d = some (.frz o (.dT kvs))
section
variable {K : PySem.W.Frag} {H : Hp} {c : Addr} {o : HO}
theorem DAt.ne {a : Addr} {u : HO} (h : DAt H c) (e : H a = some u) (n1 : ∀ kvs, u ≠ .dT kvs) (n2 : ∀ o kvs, u ≠ .frz o (.dT kvs)) : a ≠ c := fun z => by
  obtain ⟨kvs, h | ⟨ob, h⟩⟩ := h
  · rw [z, h] at e; exact n1 kvs (Option.some.inj e).symm
  · rw [z, h] at e; exact n2 ob kvs (Option.some.inj e).symm
theorem upd_at {a : Addr} {u : HO} (n : a ≠ c) (e : H a = some u) : upd H c o a = some u := by rw [upd_ne n]; exact e
mutual
theorem Rp.lock (h : DAt H c) : ∀ {v : V} {d : D}, Rp K H v d → dfree d = true → Rp K (upd H c o) v d
  | _, _, .non, _ => .non
  | _, _, .bl b, _ => .bl b
  | _, _, .int i, _ => .int i
  | _, _, .str x, _ => .str x
  | _, _, .lst e r, q => .lst (upd_at (h.ne e (fun _ z => nomatch z) (fun _ _ z => nomatch z)) e) (Rps.lock h r (by unfold dfree at q; exact q))
  | _, _, .tup e r, q => .tup (upd_at (h.ne e (fun _ z => nomatch z) (fun _ _ z => nomatch z)) e) (Rps.lock h r (by unfold dfree at q; exact q))
  | _, _, .fro e r, q => .fro (by
      rcases e with (e | ⟨ob, e⟩) | e
      · exact .inl (.inl (upd_at (h.ne e (fun _ z => nomatch z) (fun _ _ z => nomatch z)) e))
      · exact .inl (.inr ⟨ob, upd_at (h.ne e (fun _ z => nomatch z) (fun _ _ z => by cases z)) e⟩)
      · exact .inr e) (Rps.lock h r (by unfold dfree at q; exact q))
  | _, _, .raw v, _ => .raw v
  | _, _, .dK _ _ _, q => nomatch q
  | _, _, .dT _ _ _, q => nomatch q
  | _, _, .zT _ _ _, q => nomatch q
theorem Rps.lock (h : DAt H c) : ∀ {vs : List V} {ds : List D}, Rps K H vs ds → dfrees ds = true → Rps K (upd H c o) vs ds
  | _, _, .nil, _ => .nil
  | _, _, .cons r rs, q => by
    unfold dfrees at q
    rw [Bool.and_eq_true] at q
    exact .cons (Rp.lock h r q.1) (Rps.lock h rs q.2)
end
end
def AllE : En → Prop
  | [] => True
  | some (.sh d) :: r => dfree d = true ∧ AllE r
  | some (.ow _) :: r => AllE r
  | none :: r => AllE r
def AllO : Ow → Prop
  | [] => True
  | .l ds :: r => dfrees ds = true ∧ AllO r
  | .dK kds :: r => dfrees (kds.map (·.2)) = true ∧ AllO r
  | .dT kds :: r => dfrees (kds.map (·.2)) = true ∧ AllO r
  | .gone :: r => AllO r
theorem AllE.at : ∀ {ρ : En} {i : Nat} {d : D}, AllE ρ → ρ[i]? = some (some (.sh d)) → dfree d = true
  | [], _, _, _, e => by cases e
  | some (.sh d) :: r, 0, _, h, e => by cases e; exact h.1
  | some (.ow _) :: r, 0, _, h, e => by cases e
  | none :: r, 0, _, h, e => by cases e
  | some (.sh d) :: r, i + 1, _, h, e => AllE.at h.2 e
  | some (.ow _) :: r, i + 1, _, h, e => AllE.at (ρ := r) h e
  | none :: r, i + 1, _, h, e => AllE.at (ρ := r) h e
theorem hid_upd {X : List Addr} {H : Hp} {c : Addr} {o : HO} (n : c ∉ X) : hid X (upd H c o) = upd (hid X H) c o := by
  funext b
  by_cases e : b = c
  · subst e
    rw [hid_at n, upd_same, upd_same]
  · rw [upd_ne e]
    unfold hid
    split
    · rfl
    · exact upd_ne e
section
variable {K : PySem.W.Frag} {M : List Addr} {O : OA} {ω : Ow} {ρ : En} {σ : L2.St} {H H' : Hp} {c : Addr} {o : HO}
theorem OwnAt.lock {Hh : Hp} {a : Addr} (h : DAt Hh c) (n : a ≠ c) : ∀ {w : Own} {r : Ow}, OwnAt K Hh H a w → AllO (w :: r) → OwnAt K (upd Hh c o) (upd H c o) a w
  | .l _, _, ⟨vs, e, r⟩, q => ⟨vs, upd_at n e, r.lock h q.1⟩
  | .dK _, _, ⟨kvs, e, e2, r⟩, q => ⟨kvs, upd_at n e, e2, r.lock h q.1⟩
  | .dT _, _, ⟨kvs, e, e2, r⟩, q => ⟨kvs, upd_at n e, e2, r.lock h q.1⟩
  | .gone, _, _, _ => trivial
theorem AllO.at : ∀ {ω : Ow} {i : Nat} {w : Own}, AllO ω → ω[i]? = some w → AllO [w]
  | [], _, _, _, e => by cases e
  | .l ds :: r, 0, _, h, e => by cases e; exact ⟨h.1, trivial⟩
  | .dK ds :: r, 0, _, h, e => by cases e; exact ⟨h.1, trivial⟩
  | .dT ds :: r, 0, _, h, e => by cases e; exact ⟨h.1, trivial⟩
  | .gone :: r, 0, _, h, e => by cases e; exact trivial
  | .l ds :: r, i + 1, _, h, e => AllO.at h.2 e
  | .dK ds :: r, i + 1, _, h, e => AllO.at h.2 e
  | .dT ds :: r, i + 1, _, h, e => AllO.at h.2 e
  | .gone :: r, i + 1, _, h, e => AllO.at (ω := r) h e
/-- the dict at c, which is nobody's own, is locked or unlocked -/
theorem SR.relock (r : SR K M O ω ρ σ H) (h : DAt H c) (n : c ∉ xo M O) (hρ : AllE ρ) (hω : AllO ω) : SR K M O ω ρ σ (upd H c o) := by
  have eh : hid (xo M O) (upd H c o) = upd (hid (xo M O) H) c o := hid_upd n
  have hh : DAt (hid (xo M O) H) c := by
    obtain ⟨kvs, h | ⟨ob, h⟩⟩ := h
    · exact ⟨kvs, .inl (hid_of n h)⟩
    · exact ⟨kvs, .inr ⟨ob, hid_of n h⟩⟩
  refine ⟨fun m hm => ?_, r.nod, r.dis, r.lenO, fun k a e => ?_, r.live, r.len, fun i d e => ?_, r.ow⟩
  · have := r.trk m hm
    unfold Trk at *
    rw [upd_ne fun z => n (by rw [← z]; exact mem_xo.mpr (.inl hm))]
    exact this
  · obtain ⟨w, h1, h2, h3⟩ := r.own k a e
    have na : a ≠ c := fun z => n (by rw [← z]; exact mem_xo.mpr (.inr (List.mem_of_getElem? e)))
    exact ⟨w, h1, h2, by rw [eh]; exact h3.lock hh na (hω.at h1)⟩
  · obtain ⟨v, h1, h2⟩ := r.sh i d e
    exact ⟨v, h1, by rw [eh]; exact h2.lock hh (hρ.at e)⟩
/-- a slot is told to hold what it holds -/
theorem SR.put (r : SR K M O ω ρ σ H) {i : Nat} {v : V} {d : D} (e : σ[i]? = some (some v)) (h : Rp K (hid (xo M O) H) v d) : SR K M O ω (ρ.set i (some (.sh d))) σ H := by
  have e2 : σ.set i (some v) = σ := by
    refine List.ext_getElem? fun j => ?_
    by_cases z : i = j
    · subst z
      rw [List.getElem?_set_self (List.getElem?_eq_some_iff.mp e).1, e]
    · rw [List.getElem?_set_ne z]
  have := r.setSh (i := i) h
  rwa [e2] at this
theorem SR.drop (r : SR K M O ω ρ σ H) (i : Nat) : SR K M O ω (ρ.set i none) σ H := r.sub (List.length_set ..) fun j e h => by
  by_cases z : i = j
  · subst z
    by_cases hl : i < ρ.length
    · rw [List.getElem?_set_self hl] at h; cases h
    · rw [List.getElem?_eq_none (by rw [List.length_set]; omega)] at h; cases h
  · rwa [List.getElem?_set_ne z] at h
end
section
variable {K : PySem.W.Frag} {s b : Bool} {ρ ρ' : En} {ω : Ow} {te : TE} {t : TS} {d : D} {ds : List D} {Φ : Out → Prop} {m : Nat} {kds : List (List Key × D)}
theorem Same.unlock {H H' : Hp} {c : Addr} {o : HO} {u : HO} (h : H c = some u) (s : Same (upd H c o) H') : Same H (upd H' c u) := fun b x e => by
  by_cases z : b = c
  · subst z
    rw [h] at e
    cases e
    exact upd_same
  · rw [upd_ne z]
    exact s b x (by rw [upd_ne z]; exact e)
/-- what walks the dict in slot m, as a value -/
theorem ev_lock (e : ρ[m]? = some (some (.sh (.dT kds)))) (hk : dfrees (kds.map (·.2)) = true) (h : Ev K true te (ρ.set m (some (.sh (.zT kds)))) ω d) (hd : dfree d = true) (hρ : AllE (ρ.set m none)) (hω : AllO ω) : Ev K s (tLockE te) ρ ω d := Ev.weak fun M O σ H r Q q => by
  obtain ⟨v, h1, h2⟩ := r.sh m _ e
  cases h2 with
  | @dT c kvs _ hc hkk hr =>
    obtain ⟨nc, hc⟩ := of_hid hc
    refine ⟨c, .dT kvs, hc, trivial, fun od => ?_⟩
    have r1 : SR K M O ω (ρ.set m none) σ (upd H c (.frz od (.dT kvs))) := (r.drop m).relock ⟨kvs, .inl hc⟩ nc hρ hω
    have rz : Rp K (hid (xo M O) (upd H c (.frz od (.dT kvs)))) (.ref c) (.zT kds) := by
      refine .zT (o := od) (hid_of nc upd_same) hkk ?_
      rw [hid_upd nc]
      exact hr.lock ⟨kvs, .inl (hid_of nc hc)⟩ hk
    have r2 := r1.put h1 rz
    rw [List.set_set] at r2
    refine h M O σ _ r2 _ fun x H1 s1 rx => ?_
    have hz : H1 c = some (.frz od (.dT kvs)) := s1 _ _ upd_same
    refine ⟨hz, q x _ (Same.unlock hc s1) ?_⟩
    show Rp K (hid (xo M O) _) x d
    rw [hid_upd nc]
    exact rx.lock ⟨kvs, .inr ⟨od, hid_of nc hz⟩⟩ hd
def lk (m : Nat) (Φ : Out → Prop) : Out → Prop
  | .nx ρ ω => AllE (ρ.set m none) ∧ AllO ω ∧ Φ (.nx (ρ.set m none) ω)
  | .rt d ω => dfree d = true ∧ AllO ω ∧ Φ (.rt d ω)
  | _ => False
theorem allE_none : ∀ n : Nat, AllE (List.replicate n none)
  | 0 => trivial
  | n + 1 => allE_none n
/-- a statement that walks the dict in slot m -/
theorem ws_lock (e : ρ[m]? = some (some (.sh (.dT kds)))) (hk : dfrees (kds.map (·.2)) = true) (hρ : AllE (ρ.set m none)) (hω : AllO ω) (h : WS K b t (ρ.set m (some (.sh (.zT kds)))) ω (lk m Φ)) : WS K b (tLock t) ρ ω Φ := fun M O σ H D' r cc => by
  obtain ⟨v, h1, h2⟩ := r.sh m _ e
  cases h2 with
  | @dT c kvs _ hc hkk hr =>
    obtain ⟨nc, hc⟩ := of_hid hc
    refine ⟨c, .dT kvs, hc, trivial, fun od => ?_⟩
    have r1 : SR K M O ω (ρ.set m none) σ (upd H c (.frz od (.dT kvs))) := (r.drop m).relock ⟨kvs, .inl hc⟩ nc hρ hω
    have rz : Rp K (hid (xo M O) (upd H c (.frz od (.dT kvs)))) (.ref c) (.zT kds) := by
      refine .zT (o := od) (hid_of nc upd_same) hkk ?_
      rw [hid_upd nc]
      exact hr.lock ⟨kvs, .inl (hid_of nc hc)⟩ hk
    have r2 := r1.put h1 rz
    rw [List.set_set] at r2
    have nM : c ∉ M := fun z => nc (mem_xo.mpr (.inl z))
    have nO : some c ∉ O := fun z => nc (mem_xo.mpr (.inr z))
    have back : ∀ {O' : OA} {H1 : Hp}, Kp O (upd H c (.frz od (.dT kvs))) O' H1 → H1 c = some (.frz od (.dT kvs)) ∧ c ∉ xo M O' ∧ Kp O H O' (upd H1 c (.dT kvs)) := fun {O' H1} k => by
      obtain ⟨k1, k2⟩ := k.kp c _ upd_same nO
      refine ⟨k1, fun z => (mem_xo.mp z).elim nM k2, fun b x e n => ?_, fun b hb => ?_, k.ix⟩
      · by_cases z : b = c
        · subst z
          rw [hc] at e
          cases e
          exact ⟨upd_same, k2⟩
        · obtain ⟨k3, k4⟩ := k.kp b x (by rw [upd_ne z]; exact e) n
          exact ⟨by rw [upd_ne z]; exact k3, k4⟩
      · by_cases z : b = c
        · subst z
          exact trk_of upd_same
        · have := k.tr b (by unfold Trk at *; rw [upd_ne z]; exact hb)
          unfold Trk at *
          rw [upd_ne z]
          exact this
    refine h M O σ _ _ r2 ⟨fun O' σ' H1 ρ1 ω1 ra ka ⟨q1, q2, q3⟩ => ?_, fun O' σ' H1 ρ1 ω1 x dx ra ka rx ⟨q1, q2, q3⟩ => ?_, fun _ _ _ _ _ _ _ q => q.elim, fun _ _ _ _ _ _ _ q => q.elim⟩
    · obtain ⟨b1, b2, b3⟩ := back ka
      exact ⟨b1, cc.nx O' σ' _ _ ω1 ((ra.drop m).relock ⟨kvs, .inr ⟨od, b1⟩⟩ b2 q1 q2) b3 q3⟩
    · obtain ⟨b1, b2, b3⟩ := back ka
      have rn : SR K M O' ω1 (List.replicate ρ1.length none) σ' H1 := ra.sub (by rw [List.length_replicate]) fun i en z => by
        rw [List.getElem?_replicate] at z
        split at z <;> cases z
      refine ⟨b1, cc.rt O' σ' _ _ ω1 x dx (rn.relock ⟨kvs, .inr ⟨od, b1⟩⟩ b2 (allE_none _) q2) b3 ?_ q3⟩
      have b4 : c ∉ Xs b M O' := fun z => b2 (Xs_sub c z)
      rw [hid_upd b4]
      exact Rp.lock ⟨kvs, .inr ⟨od, hid_of b4 b1⟩⟩ rx q1
/-- the keys of a locked dict, in their order -/
theorem ei_keys {md : List (ZZ × D)} (h : Ev K true te ρ ω (.zT (pT md))) : EvI K (iKeys te) ρ ω (md.map fun x => pD x.1) := fun M O σ H r R q => h M O σ H r _ fun v H1 s1 r1 => by
  cases r1 with
  | @zT c ob kvs _ hc hkk hr =>
    have hl : kvs.length = md.length := by
      have := congrArg List.length hkk
      rw [List.length_map, List.length_map] at this
      rw [this]
      unfold pT
      rw [List.length_map]
    refine ⟨c, ob, rfl, .inr ⟨kvs, (of_hid hc).2, q _ _ s1 ⟨fun i Hh H' t1 t2 hi => ?_, fun i X H' x H2 t1 tr hi hy => ?_, fun Hh H' t1 t2 => ?_⟩⟩⟩
    · rw [List.length_map] at hi
      exact ⟨t2 _ _ (t1 _ _ hc), by omega⟩
    · obtain ⟨rfl, k, v, a, e1, rfl, e2⟩ := hy
      refine ⟨Same.refl _, fun d hd => ?_⟩
      rw [List.length_map] at hi
      have e3 : (kvs.map (·.1))[i]? = some k := by rw [List.getElem?_map, e1]; rfl
      rw [hkk] at e3
      unfold pT at e3
      rw [List.map_map, List.getElem?_map, List.getElem?_eq_getElem hi] at e3
      have e3 : pk (md[i]).1 = k := Option.some.inj e3
      rw [List.getElem?_map, List.getElem?_eq_getElem hi] at hd
      have hd : pD (md[i]).1 = d := Option.some.inj hd
      rw [← hd]
      rw [← e3] at e2
      have na : a ∉ X := fun z => (tr a z).2 _ e2
      exact .tup (hid_of na e2) (.cons (.int _) (.cons (.int _) .nil))
    · exact ⟨t2 _ _ (t1 _ _ hc), by rw [List.length_map, hl]; exact Nat.le_refl _⟩
end
/-! ### sorted lists of pairs -/
def plt (p q : ZZ) : Bool := SrtO.lexB p q
theorem plt_iff {p q : ZZ} : plt p q = true ↔ p.1 < q.1 ∨ (p.1 = q.1 ∧ p.2 < q.2) := SrtO.lexB_iff
theorem plt_no {p q : ZZ} : plt p q = false ↔ q.1 < p.1 ∨ (p.1 = q.1 ∧ q.2 ≤ p.2) := by
  rw [plt, SrtO.lexB_no]; omega
theorem srt_uniq : ∀ {l m : List ZZ}, SrtO.Srtd plt l → SrtO.Srtd plt m → l.Perm m → l = m
  | [], m, _, _, h => (List.Perm.eq_nil h.symm).symm
  | x :: l, [], _, _, h => absurd h.length_eq (by simp)
  | x :: l, y :: m, hl, hm, h => by
    have h1 : plt x y = false := by
      rcases List.mem_cons.mp (h.mem_iff.mp (List.mem_cons_self (a := x) (l := l))) with e | hx
      · rw [e]; exact plt_no.mpr (by omega)
      · exact (List.pairwise_cons.mp hm).1 x hx
    have h2 : plt y x = false := by
      rcases List.mem_cons.mp (h.mem_iff.mpr (List.mem_cons_self (a := y) (l := m))) with e | hy
      · rw [e]; exact plt_no.mpr (by omega)
      · exact (List.pairwise_cons.mp hl).1 y hy
    have a := plt_no.mp h1
    have b := plt_no.mp h2
    have e : x = y := Prod.ext (by omega) (by omega)
    subst e
    rw [srt_uniq (List.pairwise_cons.mp hl).2 (List.pairwise_cons.mp hm).2 h.cons_inv]
section
variable {K : PySem.W.Frag}
/-- the pair that stands at a value -/
def atV (H : Hp) (v : V) : ZZ := match v with
  | .ref a => match H a with
    | some (.tup [.int i, .int j]) => (i, j)
    | _ => (0, 0)
  | _ => (0, 0)
theorem Rps.pairs {H : Hp} : ∀ {vs : List V} {ps : List ZZ}, Rps K H vs (ps.map pD) → (∀ x ∈ vs, ∃ t, x = V.ref t ∧ H t = some (.tup [.int (atV H x).1, .int (atV H x).2])) ∧ vs.map (atV H) = ps
  | [], [], _ => ⟨fun x hx => (by cases hx), rfl⟩
  | [], _ :: _, h => by cases h
  | _ :: _, [], h => by cases h
  | v :: vs, p :: ps, h => by
    cases h with
    | cons r rs =>
      obtain ⟨h1, h2⟩ := Rps.pairs rs
      obtain ⟨a, rfl, ha⟩ := Rp.key (p := p) r
      have e : atV H (.ref a) = p := by
        unfold atV
        simp only
        rw [show H a = some (.tup [.int p.1, .int p.2]) from ha]
      refine ⟨fun x hx => ?_, ?_⟩
      · rcases List.mem_cons.mp hx with z | z
        · subst z
          exact ⟨a, rfl, by rw [e]; exact ha⟩
        · exact h1 x z
      · rw [List.map_cons, e, h2]
theorem Rps.ofPairs {H : Hp} {k : V → ZZ} : ∀ {ys : List V}, (∀ x ∈ ys, ∃ t, x = V.ref t ∧ H t = some (.tup [.int (k x).1, .int (k x).2])) → Rps K H ys ((ys.map k).map pD)
  | [], _ => .nil
  | y :: ys, h => by
    obtain ⟨t, e, ht⟩ := h y List.mem_cons_self
    refine .cons ?_ (Rps.ofPairs fun x hx => h x (List.mem_cons_of_mem _ hx))
    rw [e] at ht ⊢
    exact .tup ht (.cons (.int _) (.cons (.int _) .nil))
theorem rc_sortP {ps qs : List ZZ} (hp : qs.Perm ps) (hs : SrtO.Srtd plt qs) : RC K (rSortedPO K) [.lst (ps.map pD)] (.lst (qs.map pD)) := fun X H vs t r Q q => by
  cases r with
  | cons r1 r2 =>
    cases r2
    cases r1 with
    | lst ha rs =>
      rename_i a xs
      obtain ⟨h1, h2⟩ := Rps.pairs rs
      refine ⟨a, xs, atV (hid X H), rfl, .inl (.inl (of_hid ha).2), fun x hx => ?_, fun ys p g1 g2 hn => ?_⟩
      · obtain ⟨t, e, ht⟩ := h1 x hx
        exact ⟨t, e, (of_hid ht).2⟩
      · have ep : (ys.map (atV (hid X H))).Perm ps := by rw [← h2]; exact g2.perm.map _
        have es : SrtO.Srtd plt (ys.map (atV (hid X H))) := SrtO.srtd_map (lt := plt) g1
        have eq : ys.map (atV (hid X H)) = qs := srt_uniq es hs (ep.trans hp.symm)
        refine q _ _ (same_upd hn) (.lst (hid_of (not_mem_of_new t hn) upd_same) ?_)
        rw [← eq]
        exact (Rps.ofPairs fun x hx => h1 x (g2.perm.mem_iff.mp hx)).mono (hid_same (same_upd hn))
end
/-! ### equal data: ints within lists and tuples -/
mutual
def okI : Nat → D → Bool
  | _, .int _ => true | _, .non => true
  | n + 1, .lst xs => okIs n xs | n + 1, .tup xs => okIs n xs
  | _, _ => false
def okIs : Nat → List D → Bool
  | _, [] => true
  | n, x :: xs => okI n x && okIs n xs
end
theorem okIs_of {n : Nat} : ∀ {xs : List D}, (∀ x ∈ xs, okI n x = true) → okIs n xs = true
  | [], _ => by unfold okIs; rfl
  | x :: xs, h => by
    unfold okIs
    rw [h x List.mem_cons_self, okIs_of fun y hy => h y (List.mem_cons_of_mem _ hy)]
    rfl
theorem okIs_map {α : Type} {n : Nat} {f : α → D} {xs : List α} (h : ∀ x, okI n (f x) = true) : okIs n (xs.map f) = true := okIs_of fun y hy => by
  obtain ⟨x, _, rfl⟩ := List.mem_map.mp hy
  exact h x
theorem okI_pD {n : Nat} {p : ZZ} : okI (n + 1) (pD p) = true := by
  skip
  unfold okI
  rw [okIs, okIs, okIs, okI, okI]
  rfl
theorem okI_lst {n : Nat} {xs : List D} (h : okIs n xs = true) : okI (n + 1) (.lst xs) = true := by unfold okI; exact h
theorem okI_tup {n : Nat} {xs : List D} (h : okIs n xs = true) : okI (n + 1) (.tup xs) = true := by unfold okI; exact h
mutual
theorem okI_py : ∀ (n : Nat) (d : D), okI n d = true → isPy d = true ∧ (toPy d).canLay0 = true ∧ (toPy d).depth ≤ n
  | _, .int i, _ => by refine ⟨rfl, by unfold toPy PyData.canLay0; rfl, by unfold toPy PyData.depth; omega⟩
  | _, .non, _ => by refine ⟨rfl, by unfold toPy PyData.canLay0; rfl, by unfold toPy PyData.depth; omega⟩
  | n + 1, .lst xs, h => by
    obtain ⟨a, b, c⟩ := okIs_py n xs (by unfold okI at h; exact h)
    refine ⟨by unfold isPy; exact a, by unfold toPy PyData.canLay0; exact b, ?_⟩
    unfold toPy PyData.depth
    omega
  | n + 1, .tup xs, h => by
    obtain ⟨a, b, c⟩ := okIs_py n xs (by unfold okI at h; exact h)
    refine ⟨by unfold isPy; exact a, by unfold toPy PyData.canLay0; exact b, ?_⟩
    unfold toPy PyData.depth
    omega
  | 0, .lst xs, h => by unfold okI at h; cases h
  | 0, .tup xs, h => by unfold okI at h; cases h
  | n, .bl _, h => by unfold okI at h; cases h
  | n, .str _, h => by unfold okI at h; cases h
  | n, .raw _, h => by unfold okI at h; cases h
  | n, .dK _, h => by unfold okI at h; cases h
  | n, .dT _, h => by unfold okI at h; cases h
  | n, .fro _, h => by unfold okI at h; cases h
  | n, .zT _, h => by unfold okI at h; cases h
theorem okIs_py : ∀ (n : Nat) (xs : List D), okIs n xs = true → arePy xs = true ∧ PyData.canLayAll0 (toPys xs) = true ∧ PyData.depthAll (toPys xs) ≤ n
  | n, [], _ => by refine ⟨by unfold arePy; rfl, by unfold toPys PyData.canLayAll0; rfl, by unfold toPys PyData.depthAll; omega⟩
  | n, x :: xs, h => by
    unfold okIs at h
    rw [Bool.and_eq_true] at h
    obtain ⟨a, b, c⟩ := okI_py n x h.1
    obtain ⟨a', b', c'⟩ := okIs_py n xs h.2
    refine ⟨by unfold arePy; rw [a, a']; rfl, by unfold toPys PyData.canLayAll0; rw [b, b']; rfl, ?_⟩
    unfold toPys PyData.depthAll
    omega
end
mutual
theorem eqv_iff : ∀ (n m : Nat) (x y : D), okI n x = true → okI m y = true → (PyData.eqv (toPy x) (toPy y) = true ↔ x = y)
  | _, _, .int i, .int j, _, _ => by
    unfold toPy PyData.eqv
    constructor
    · intro h; rw [eq_of_beq h]
    · intro h; injection h with h; rw [h]; exact beq_self_eq_true _
  | _, _, .non, .non, _, _ => by unfold toPy PyData.eqv; exact ⟨fun _ => rfl, fun _ => rfl⟩
  | n + 1, m + 1, .lst xs, .lst ys, h, h' => by
    unfold okI at h h'
    unfold toPy PyData.eqv
    rw [eqvs_iff n m xs ys h h']
    exact ⟨fun e => by rw [e], fun e => by injection e⟩
  | n + 1, m + 1, .tup xs, .tup ys, h, h' => by
    unfold okI at h h'
    unfold toPy PyData.eqv
    rw [eqvs_iff n m xs ys h h']
    exact ⟨fun e => by rw [e], fun e => by injection e⟩
  | _, _, .int _, .non, _, _ => by unfold toPy PyData.eqv; simp
  | _, _, .non, .int _, _, _ => by unfold toPy PyData.eqv; simp
  | _, _, .int _, .lst _, _, _ => by unfold toPy PyData.eqv; simp
  | _, _, .int _, .tup _, _, _ => by unfold toPy PyData.eqv; simp
  | _, _, .non, .lst _, _, _ => by unfold toPy PyData.eqv; simp
  | _, _, .non, .tup _, _, _ => by unfold toPy PyData.eqv; simp
  | _, _, .lst _, .int _, _, _ => by unfold toPy PyData.eqv; simp
  | _, _, .lst _, .non, _, _ => by unfold toPy PyData.eqv; simp
  | _, _, .lst _, .tup _, _, _ => by unfold toPy PyData.eqv; simp
  | _, _, .tup _, .int _, _, _ => by unfold toPy PyData.eqv; simp
  | _, _, .tup _, .non, _, _ => by unfold toPy PyData.eqv; simp
  | _, _, .tup _, .lst _, _, _ => by unfold toPy PyData.eqv; simp
  | 0, _, .lst xs, .lst _, h, _ => by unfold okI at h; cases h
  | 0, _, .tup xs, .tup _, h, _ => by unfold okI at h; cases h
  | _ + 1, 0, .lst xs, .lst _, _, h => by unfold okI at h; cases h
  | _ + 1, 0, .tup xs, .tup _, _, h => by unfold okI at h; cases h
  | n, _, .bl _, _, h, _ => by unfold okI at h; cases h
  | n, _, .str _, _, h, _ => by unfold okI at h; cases h
  | n, _, .raw _, _, h, _ => by unfold okI at h; cases h
  | n, _, .dK _, _, h, _ => by unfold okI at h; cases h
  | n, _, .dT _, _, h, _ => by unfold okI at h; cases h
  | n, _, .fro _, _, h, _ => by unfold okI at h; cases h
  | n, _, .zT _, _, h, _ => by unfold okI at h; cases h
  | _, n, _, .bl _, _, h => by unfold okI at h; cases h
  | _, n, _, .str _, _, h => by unfold okI at h; cases h
  | _, n, _, .raw _, _, h => by unfold okI at h; cases h
  | _, n, _, .dK _, _, h => by unfold okI at h; cases h
  | _, n, _, .dT _, _, h => by unfold okI at h; cases h
  | _, n, _, .fro _, _, h => by unfold okI at h; cases h
  | _, n, _, .zT _, _, h => by unfold okI at h; cases h
theorem eqvs_iff : ∀ (n m : Nat) (xs ys : List D), okIs n xs = true → okIs m ys = true → (PyData.eqvAll (toPys xs) (toPys ys) = true ↔ xs = ys)
  | _, _, [], [], _, _ => by unfold toPys PyData.eqvAll; exact ⟨fun _ => rfl, fun _ => rfl⟩
  | _, _, [], _ :: _, _, _ => by rw [toPys, toPys, PyData.eqvAll]; simp
  | _, _, _ :: _, [], _, _ => by rw [toPys, toPys, PyData.eqvAll]; simp
  | n, m, x :: xs, y :: ys, h, h' => by
    unfold okIs at h h'
    rw [Bool.and_eq_true] at h h'
    rw [toPys, toPys, PyData.eqvAll, Bool.and_eq_true, eqv_iff n m x y h.1 h'.1, eqvs_iff n m xs ys h.2 h'.2]
    exact ⟨fun e => by rw [e.1, e.2], fun e => by injection e with a b; exact ⟨a, b⟩⟩
end
theorem eqv_same {n m : Nat} {x y : D} (h : okI n x = true) (h' : okI m y = true) : PyData.eqv (toPy x) (toPy y) = sameD x y := (sameD_dec (eqv_iff n m x y h h')).symm
theorem okI_shaped {n : Nat} {x : D} (h : okI n x = true) (hn : n ≤ 64 := by decide) : SeqAt.shaped (toPy x) = true := by
  obtain ⟨_, b, c⟩ := okI_py n x h
  unfold SeqAt.shaped
  rw [b, decide_eq_true (by omega)]
  rfl
section
variable {K : PySem.W.Frag} {d e : D} {ds : List D} {n m : Nat}
theorem rd_eqS (h : okI n d = true) (h' : okI m e = true) (hn : n ≤ 64 := by decide) (hm : m ≤ 64 := by decide) : RD K (rEqX K) d e (.bl (sameD d e)) := by
  have := rd_eqD (K := K) (okI_py n d h).1 (okI_py m e h').1 (okI_shaped h hn) (okI_shaped h' hm)
  rwa [eqv_same h h'] at this
theorem rd_neS (h : okI n d = true) (h' : okI m e = true) (hn : n ≤ 64 := by decide) (hm : m ≤ 64 := by decide) : RD K (rNeX K) d e (.bl (!sameD d e)) := by
  have := rd_neD (K := K) (okI_py n d h).1 (okI_py m e h').1 (okI_shaped h hn) (okI_shaped h' hm)
  rwa [eqv_same h h'] at this
theorem toPys_any {f : PyData → Bool} : ∀ {ds : List D}, (toPys ds).any f = ds.any fun z => f (toPy z)
  | [] => rfl
  | x :: r => by rw [toPys, List.any_cons, List.any_cons, toPys_any]
theorem any_same (h : okI n d = true) : ∀ {ds : List D}, okIs m ds = true → (ds.any fun z => PyData.eqv (toPy z) (toPy d)) = ds.any fun z => sameD z d
  | [], _ => rfl
  | x :: r, h' => by
    unfold okIs at h'
    rw [Bool.and_eq_true] at h'
    rw [List.any_cons, List.any_cons, any_same h h'.2, eqv_same h'.1 h]
theorem rd_inS (h : okI n d = true) (h' : okIs m ds = true) (hn : n ≤ 63 := by decide) (hm : m ≤ 63 := by decide) : RD K (rInD K) d (.lst ds) (.bl (ds.any fun z => sameD z d)) := fun X H v1 v2 t r1 r2 Q q => by
  have hl : okI (m + 1) (.lst ds) = true := okI_lst h'
  have e2 : toPy (.lst ds) = .list (toPys ds) := by unfold toPy; rfl
  refine ⟨toPy d, toPys ds, (r1.mono hid_le).dp (okI_py n d h).1, ?_, okI_shaped h (by omega), ?_, ?_⟩
  · rw [← e2]; exact (r2.mono hid_le).dp (okI_py _ _ hl).1
  · rw [← e2]; exact okI_shaped hl (by omega)
  · rw [toPys_any, any_same h h']
    exact q _ H (Same.refl H) (.bl _)
theorem rd_notinS (h : okI n d = true) (h' : okIs m ds = true) (hn : n ≤ 63 := by decide) (hm : m ≤ 63 := by decide) : RD K (rNotInD K) d (.lst ds) (.bl (!ds.any fun z => sameD z d)) := fun X H v1 v2 t r1 r2 Q q => by
  have hl : okI (m + 1) (.lst ds) = true := okI_lst h'
  have e2 : toPy (.lst ds) = .list (toPys ds) := by unfold toPy; rfl
  refine ⟨toPy d, toPys ds, (r1.mono hid_le).dp (okI_py n d h).1, ?_, okI_shaped h (by omega), ?_, ?_⟩
  · rw [← e2]; exact (r2.mono hid_le).dp (okI_py _ _ hl).1
  · rw [← e2]; exact okI_shaped hl (by omega)
  · rw [toPys_any, any_same h h']
    exact q _ H (Same.refl H) (.bl _)
end
theorem pD_inj {p q : ZZ} : pD p = pD q ↔ p = q := by
  constructor
  · intro h
    skip
    injection h with h
    injection h with h1 h2
    injection h2 with h2 _
    injection h1 with h1
    injection h2 with h2
    exact Prod.ext h1 h2
  · intro h; rw [h]
theorem any_pD {p : ZZ} {ps : List ZZ} : ((ps.map pD).any fun z => sameD z (pD p)) = decide (p ∈ ps) := by
  induction ps with
  | nil => rfl
  | cons x r ih =>
    rw [List.map_cons, List.any_cons, ih]
    by_cases e : x = p
    · subst e
      rw [sameD_self, decide_eq_true (List.mem_cons_self (a := x) (l := r))]; rfl
    · rw [sameD_no fun z => e (pD_inj.mp z), Bool.false_or]
      by_cases h : p ∈ r
      · rw [decide_eq_true h, decide_eq_true (List.mem_cons_of_mem _ h)]
      · rw [decide_eq_false h, decide_eq_false fun z => (List.mem_cons.mp z).elim (fun z => e z.symm) h]
end DL

set_option Elab.async false
set_option linter.all false
set_option maxRecDepth 100000
set_option maxHeartbeats 4000000
/-! M7: moves, and lost places by all moves. -/
namespace DL
open PySem PySem.W L2
/-! ### boxes of pairs -/
def cells (N : Nat) : List ZZ := (List.range N).flatMap fun (i : Nat) => (List.range N).map fun (j : Nat) => ((i : Int), (j : Int))
theorem mem_cells {N : Nat} {p : ZZ} : p ∈ cells N ↔ 0 ≤ p.1 ∧ p.1 < N ∧ 0 ≤ p.2 ∧ p.2 < N := by
  unfold cells
  rw [List.mem_flatMap]
  constructor
  · rintro ⟨i, hi, h⟩
    obtain ⟨j, hj, rfl⟩ := List.mem_map.mp h
    have := List.mem_range.mp hi
    have := List.mem_range.mp hj
    exact ⟨Int.natCast_nonneg _, by show (i : Int) < N; omega, Int.natCast_nonneg _, by show (j : Int) < N; omega⟩
  · rintro ⟨h1, h2, h3, h4⟩
    refine ⟨p.1.toNat, List.mem_range.mpr (by omega), List.mem_map.mpr ⟨p.2.toNat, List.mem_range.mpr (by omega), ?_⟩⟩
    exact Prod.ext (by show ((p.1.toNat : Nat) : Int) = p.1; omega) (by show ((p.2.toNat : Nat) : Int) = p.2; omega)
theorem srt_flat {f : Nat → List ZZ} (h1 : ∀ i, SrtO.Srtd plt (f i)) (h2 : ∀ i, ∀ p ∈ f i, p.1 = (i : Int)) : ∀ N : Nat, SrtO.Srtd plt ((List.range N).flatMap f)
  | 0 => List.Pairwise.nil
  | N + 1 => by
    rw [List.range_succ, List.flatMap_append]
    refine SrtO.srtd_app.mpr ⟨srt_flat h1 h2 N, by simpa using h1 N, fun a ha b hb => ?_⟩
    obtain ⟨i, hi, hm⟩ := List.mem_flatMap.mp ha
    have e1 := h2 i a hm
    have e2 := h2 N b (by simpa using hb)
    have := List.mem_range.mp hi
    exact plt_no.mpr (by omega)
theorem srt_row (i : Int) : ∀ N : Nat, SrtO.Srtd plt ((List.range N).map fun (j : Nat) => (i, (j : Int)))
  | 0 => List.Pairwise.nil
  | N + 1 => by
    rw [List.range_succ, List.map_append]
    refine SrtO.srtd_app.mpr ⟨srt_row i N, List.pairwise_singleton _ _, fun a ha b hb => ?_⟩
    obtain ⟨j, hj, rfl⟩ := List.mem_map.mp ha
    have e2 : b = (i, (N : Int)) := by simpa using hb
    subst e2
    have := List.mem_range.mp hj
    exact plt_no.mpr (.inr ⟨rfl, by show (j : Int) ≤ N; omega⟩)
theorem srt_cells (N : Nat) : SrtO.Srtd plt (cells N) := srt_flat (fun i => srt_row i N) (fun i p hp => by
  obtain ⟨j, _, rfl⟩ := List.mem_map.mp hp
  rfl) N
theorem nodup_row (i : Int) (N : Nat) : ((List.range N).map fun (j : Nat) => (i, (j : Int))).Nodup := List.Pairwise.map _ (fun a b h z => h (by have := congrArg Prod.snd z; simp at this; omega)) List.nodup_range
theorem nodup_flat {f : Nat → List ZZ} (h1 : ∀ i, (f i).Nodup) (h2 : ∀ i, ∀ p ∈ f i, p.1 = (i : Int)) : ∀ N : Nat, ((List.range N).flatMap f).Nodup
  | 0 => List.Pairwise.nil
  | N + 1 => by
    rw [List.range_succ, List.flatMap_append]
    refine List.nodup_append.mpr ⟨nodup_flat h1 h2 N, by simpa using h1 N, fun a ha b hb z => ?_⟩
    obtain ⟨i, hi, hm⟩ := List.mem_flatMap.mp ha
    have e1 := h2 i a hm
    have e2 := h2 N b (by simpa using hb)
    have := List.mem_range.mp hi
    rw [z] at e1
    omega
theorem nodup_cells (N : Nat) : (cells N).Nodup := nodup_flat (fun i => nodup_row i N) (fun i p hp => by
  obtain ⟨j, _, rfl⟩ := List.mem_map.mp hp
  rfl) N
theorem len_cells (N : Nat) : (cells N).length = N * N := by
  unfold cells
  rw [List.length_flatMap]
  have : ((List.range N).map fun (a : Nat) => ((List.range N).map fun (j : Nat) => ((a : Int), (j : Int))).length) = List.replicate N N := by
    rw [List.eq_replicate_iff]
    refine ⟨by rw [List.length_map, List.length_range], fun b hb => ?_⟩
    obtain ⟨i, _, rfl⟩ := List.mem_map.mp hb
    rw [List.length_map, List.length_range]
  rw [this, List.sum_replicate_nat]
theorem perm_mem {α : Type} [DecidableEq α] : ∀ {xs ys : List α}, xs.Nodup → ys.Nodup → (∀ a, a ∈ xs ↔ a ∈ ys) → xs.Perm ys
  | [], ys, _, _, h => by
    cases ys with
    | nil => exact List.Perm.nil
    | cons y _ => exact absurd ((h y).mpr List.mem_cons_self) (by simp)
  | x :: xs, ys, h1, h2, h => by
    have hx := (h x).mp List.mem_cons_self
    have n1 := List.nodup_cons.mp h1
    refine (List.Perm.cons x (perm_mem n1.2 (h2.erase x) fun a => ?_)).trans (List.perm_cons_erase hx).symm
    rw [h2.mem_erase_iff, ← h a, List.mem_cons]
    constructor
    · intro z
      exact ⟨fun e => n1.1 (e ▸ z), .inr z⟩
    · rintro ⟨z, w⟩
      exact w.resolve_left z
theorem len_sub {α : Type} [DecidableEq α] : ∀ {xs ys : List α}, xs.Nodup → (∀ a ∈ xs, a ∈ ys) → xs.length ≤ ys.length
  | [], _, _, _ => Nat.zero_le _
  | x :: xs, ys, h1, h => by
    have hx := h x List.mem_cons_self
    have n1 := List.nodup_cons.mp h1
    have := len_sub (xs := xs) (ys := ys.erase x) n1.2 fun a ha => by
      have := h a (List.mem_cons_of_mem _ ha)
      exact (List.mem_erase_of_ne fun e => n1.1 (by rw [← e]; exact ha)).mpr this
    have hl := List.length_erase_of_mem hx
    have : 0 < ys.length := List.length_pos_of_mem hx
    rw [List.length_cons]
    omega
/-! ### moves -/
def leadsF (s : Int) (p q : ZZ) : Bool := decide (0 ≤ p.1 - q.1) && decide (0 ≤ p.2 - q.2) && !decide (p.1 - q.1 + (p.2 - q.2) = 0) && (decide (p.1 - q.1 = 0) || decide (p.2 - q.2 = 0) || decide (absI (p.1 - q.1 - (p.2 - q.2)) < s))
theorem leads_iff {s : Int} {p q : ZZ} : leadsF s p q = true ↔ q.1 ≤ p.1 ∧ q.2 ≤ p.2 ∧ (q.1 < p.1 ∨ q.2 < p.2) ∧ (p.1 = q.1 ∨ p.2 = q.2 ∨ (p.1 - q.1 - (p.2 - q.2) < s ∧ p.2 - q.2 - (p.1 - q.1) < s)) := by
  unfold leadsF absI
  simp only [Bool.and_eq_true, Bool.or_eq_true, Bool.not_eq_true', decide_eq_true_eq, decide_eq_false_iff_not]
  split <;> omega
/-- the places to which a move leads, ascending -/
def ledF (s : Int) (p : ZZ) : List ZZ := (List.range (p.1 + 1).toNat).flatMap fun (i : Nat) => (((List.range (p.2 + 1).toNat).map fun (j : Nat) => ((i : Int), (j : Int))).filter fun q => leadsF s p q)
theorem mem_led {s : Int} {p q : ZZ} : q ∈ ledF s p ↔ 0 ≤ q.1 ∧ 0 ≤ q.2 ∧ leadsF s p q = true := by
  unfold ledF
  rw [List.mem_flatMap]
  constructor
  · rintro ⟨i, hi, h⟩
    obtain ⟨h1, h2⟩ := List.mem_filter.mp h
    obtain ⟨j, hj, rfl⟩ := List.mem_map.mp h1
    exact ⟨Int.natCast_nonneg _, Int.natCast_nonneg _, h2⟩
  · rintro ⟨h1, h2, h3⟩
    have h4 := leads_iff.mp h3
    refine ⟨q.1.toNat, List.mem_range.mpr (by omega), List.mem_filter.mpr ⟨List.mem_map.mpr ⟨q.2.toNat, List.mem_range.mpr (by omega), ?_⟩, h3⟩⟩
    exact Prod.ext (by show ((q.1.toNat : Nat) : Int) = q.1; omega) (by show ((q.2.toNat : Nat) : Int) = q.2; omega)
theorem srt_led (s : Int) (p : ZZ) : SrtO.Srtd plt (ledF s p) := srt_flat (fun i => (srt_row i _).filter _) (fun i q hq => by
  obtain ⟨j, _, rfl⟩ := List.mem_map.mp (List.mem_filter.mp hq).1
  rfl) _
theorem nodup_led (s : Int) (p : ZZ) : (ledF s p).Nodup := nodup_flat (fun i => (nodup_row i _).filter _) (fun i q hq => by
  obtain ⟨j, _, rfl⟩ := List.mem_map.mp (List.mem_filter.mp hq).1
  rfl) _
theorem len_led {s : Int} {p : ZZ} {N : Nat} (h1 : p.1 < N) (h2 : p.2 < N) : (ledF s p).length ≤ N * N := by
  rw [← len_cells N]
  refine len_sub (nodup_led s p) fun q hq => ?_
  obtain ⟨a, b, c⟩ := mem_led.mp hq
  have c := leads_iff.mp c
  exact mem_cells.mpr (by omega)
/-! ### lost -/
def lostN (s : Int) (t : Bool) : Nat → ZZ → Bool
  | 0, _ => false
  | n + 1, p => (!((ledF s p).any fun q => lostN s t n q)) && !(t && decide (p.1 + p.2 = 0))
def wt (p : ZZ) : Nat := (p.1 + p.2).toNat
@[irreducible] def lostF (s : Int) (t : Bool) (p : ZZ) : Bool := lostN s t (wt p + 1) p
theorem led_wt {s : Int} {p q : ZZ} (h : q ∈ ledF s p) : wt q < wt p := by
  obtain ⟨a, b, c⟩ := mem_led.mp h
  have c := leads_iff.mp c
  unfold wt
  omega
theorem any_congr {α : Type} {f g : α → Bool} : ∀ {xs : List α}, (∀ x ∈ xs, f x = g x) → xs.any f = xs.any g
  | [], _ => rfl
  | x :: xs, h => by rw [List.any_cons, List.any_cons, h x List.mem_cons_self, any_congr fun y hy => h y (List.mem_cons_of_mem _ hy)]
theorem lostN_eq {s : Int} {t : Bool} : ∀ (n m : Nat) (p : ZZ), wt p < n → wt p < m → lostN s t n p = lostN s t m p
  | 0, _, _, h, _ => absurd h (Nat.not_lt_zero _)
  | _, 0, _, _, h => absurd h (Nat.not_lt_zero _)
  | n + 1, m + 1, p, h1, h2 => by
    show ((!_) && _) = ((!_) && _)
    rw [any_congr fun q hq => by
      have := led_wt hq
      exact lostN_eq n m q (by omega) (by omega)]
theorem lost_eq {s : Int} {t : Bool} (p : ZZ) : lostF s t p = ((!((ledF s p).any fun q => lostF s t q)) && !(t && decide (p.1 + p.2 = 0))) := by
  unfold lostF
  show ((!_) && _) = ((!_) && _)
  rw [any_congr fun q hq => by
    have := led_wt hq
    exact lostN_eq (wt p) (wt q + 1) q (by omega) (by omega)]
/-- just one function is so -/
theorem lost_uniq {s : Int} {t : Bool} {f : ZZ → Bool} (h : ∀ p : ZZ, 0 ≤ p.1 → 0 ≤ p.2 → f p = ((!((ledF s p).any fun q => f q)) && !(t && decide (p.1 + p.2 = 0)))) : ∀ (n : Nat) (p : ZZ), wt p ≤ n → 0 ≤ p.1 → 0 ≤ p.2 → lostF s t p = f p
  | n, p, hn, h1, h2 => by
    rw [lost_eq, h p h1 h2]
    congr 2
    refine any_congr fun q hq => ?_
    obtain ⟨a, b, c⟩ := mem_led.mp hq
    have := led_wt hq
    match n, hn with
    | 0, hn => omega
    | n + 1, hn => exact lost_uniq h n q (by omega) a b
theorem lost_iff {s : Int} {t : Bool} {p : ZZ} : lostF s t p = true ↔ (∀ q, q ∈ ledF s p → lostF s t q = false) ∧ ¬ (t = true ∧ p.1 + p.2 = 0) := by
  rw [lost_eq, Bool.and_eq_true, Bool.not_eq_true', Bool.not_eq_true', List.any_eq_false]
  constructor
  · rintro ⟨a, b⟩
    refine ⟨fun q hq => by simpa using a q hq, fun ⟨c, d⟩ => ?_⟩
    rw [c, decide_eq_true d] at b
    cases b
  · rintro ⟨a, b⟩
    refine ⟨fun q hq => by rw [a q hq]; exact Bool.false_ne_true, ?_⟩
    cases t with
    | false => rfl
    | true => rw [decide_eq_false fun z => b ⟨rfl, z⟩]; rfl
def sw (p : ZZ) : ZZ := (p.2, p.1)
theorem sw_sw (p : ZZ) : sw (sw p) = p := rfl
theorem leads_sw {s : Int} {p q : ZZ} : leadsF s (sw p) (sw q) = leadsF s p q := by
  rw [Bool.eq_iff_iff, leads_iff, leads_iff]
  show q.2 ≤ p.2 ∧ q.1 ≤ p.1 ∧ (q.2 < p.2 ∨ q.1 < p.1) ∧ (p.2 = q.2 ∨ p.1 = q.1 ∨ _) ↔ _
  show q.2 ≤ p.2 ∧ q.1 ≤ p.1 ∧ (q.2 < p.2 ∨ q.1 < p.1) ∧ (p.2 = q.2 ∨ p.1 = q.1 ∨ (p.2 - q.2 - (p.1 - q.1) < s ∧ p.1 - q.1 - (p.2 - q.2) < s)) ↔ _
  omega
theorem led_sw {s : Int} {p q : ZZ} : q ∈ ledF s (sw p) ↔ sw q ∈ ledF s p := by
  rw [mem_led, mem_led, ← leads_sw, sw_sw]
  show 0 ≤ q.1 ∧ 0 ≤ q.2 ∧ _ ↔ 0 ≤ q.2 ∧ 0 ≤ q.1 ∧ _
  exact ⟨fun ⟨a, b, c⟩ => ⟨b, a, c⟩, fun ⟨a, b, c⟩ => ⟨b, a, c⟩⟩
theorem lost_sw {s : Int} {t : Bool} : ∀ (n : Nat) (p : ZZ), wt p ≤ n → lostF s t (sw p) = lostF s t p
  | n, p, hn => by
    rw [Bool.eq_iff_iff, lost_iff, lost_iff]
    have e : (sw p).1 + (sw p).2 = p.1 + p.2 := by show p.2 + p.1 = _; omega
    rw [e]
    have h : (∀ q, q ∈ ledF s (sw p) → lostF s t q = false) ↔ (∀ q, q ∈ ledF s p → lostF s t q = false) := by
      constructor
      · intro h q hq
        have := led_wt hq
        have g := h (sw q) (led_sw.mpr (by rw [sw_sw]; exact hq))
        match n, hn with
        | 0, hn => omega
        | n + 1, hn => rw [← lost_sw n q (by omega)]; exact g
      · intro h q hq
        have hq := led_sw.mp hq
        have := led_wt hq
        have g := h (sw q) hq
        match n, hn with
        | 0, hn => omega
        | n + 1, hn =>
          have := lost_sw (s := s) (t := t) n (sw q) (by omega)
          rw [sw_sw] at this
          rw [this]
          exact g
    rw [h]
theorem lost_swap {s : Int} {t : Bool} (p : ZZ) : lostF s t (sw p) = lostF s t p := lost_sw _ p (Nat.le_refl _)
/-- the lost pairs below N, ascending -/
def lostP (s : Int) (t : Bool) (N : Nat) : List ZZ := (cells N).filter fun p => lostF s t p && decide (p.1 ≤ p.2)
theorem mem_lostP {s : Int} {t : Bool} {N : Nat} {p : ZZ} : p ∈ lostP s t N ↔ 0 ≤ p.1 ∧ p.1 ≤ p.2 ∧ p.2 < N ∧ lostF s t p = true := by
  unfold lostP
  rw [List.mem_filter, mem_cells, Bool.and_eq_true, decide_eq_true_iff]
  constructor
  · rintro ⟨⟨a, b, c, d⟩, e, f⟩; exact ⟨a, f, d, e⟩
  · rintro ⟨a, b, c, d⟩; exact ⟨⟨a, by omega, by omega, c⟩, d, b⟩
theorem srt_lostP (s : Int) (t : Bool) (N : Nat) : SrtO.Srtd plt (lostP s t N) := (srt_cells N).filter _
theorem nodup_lostP (s : Int) (t : Bool) (N : Nat) : (lostP s t N).Nodup := (nodup_cells N).filter _
theorem len_lostP (s : Int) (t : Bool) (N : Nat) : (lostP s t N).length ≤ N * N := by
  rw [← len_cells N]; exact List.length_filter_le _ _
end DL

set_option Elab.async false
set_option linter.all false
set_option maxRecDepth 100000
set_option maxHeartbeats 4000000
/-! DLV: a local name that holds one of several defs. -/
namespace DL
open PySem PySem.W L2 PySem.Spec PyProof.Rows
theorem hu65 {A : Around} {k : Nat} (hr : Room k A) : A.units + 65 < cLine := by have := hr.un; omega
structure Loc (P : Program) (w : World) (K : PySem.W.Frag) (mg : Str → Option Value) (base : Heap) (k : Nat) (ps : List Str) (f : Addr) (sp : Sp) : Prop where
  ex : ∃ fd : FuncData, FnOk P w K mg base CX0 k f fd ps sp ∧ PySem.W.keepIn K (.ref f) = true ∧ Binds K fd ps [] ∧ ∀ ws : List Value, ws.length = ps.length → bindArgs fd ⟨[], ps.zip ws⟩ = pure (ps.zip ws)
theorem Av.loc {P : Program} {w : World} {K : PySem.W.Frag} {mg : Str → Option Value} {base : Heap} {k : Nat} {x : Str} {ps : List Str} {sp : Sp} {f : Addr} (a : Av P w K mg base k x ps sp) (hm : mg x = some (.ref f)) : Loc P w K mg base k ps f sp := by
  obtain ⟨f', fd, F, hm', kp, hb, hb2⟩ := a.ex
  rw [hm] at hm'
  cases hm'
  exact ⟨fd, F, kp, hb, hb2⟩
def tLoc (i : Nat) (S : Addr → Option Sp) (t : TA) : TE := fun σ H Q => ∃ f sp, σ[i]? = some (some (.ref f)) ∧ S f = some sp ∧ t σ H fun vs H1 => sp vs H1 Q E0
section
variable {X : Cx} {k i : Nat} {x : Str} {ps : List Str} {p pos : Pos} {e : Expr} {es : List Expr} {t : TA} {kws : List Keyword} {S : Addr → Option Sp}
theorem pe_locK (A : ∀ f sp, S f = some sp → Loc X.prog X.w X.K X.mg X.base k ps f sp) (hr : Room k X.A) (hN : X.N[i]? = some x) (hv : Vis X.env.scope x) (hkw : PK X kws t)
    (hdb : (x == ("__debug__" : Str)) = false := by decide) (hcd : (x == ("__classdict__" : Str)) = false := by decide)
    (hall : (backToKw pos (keywordEach kws X.env)).all (·.1.isSome) = true := by rfl) (hks : (backToKw pos (keywordEach kws X.env)).filterMap (·.1) = ps := by rfl)
    (hpl : ((backTo pos (starEach [] X.env)).any (·.1) || (backToKw pos (keywordEach kws X.env)).any (·.1.isNone)) = false := by rfl) : PE X (.Call (.Name x p) [] kws pos) (tLoc i S t) := by
  refine ⟨fun pins s σ H Q I h => ?_⟩
  obtain ⟨f, sp, hs, hS, ht⟩ := h
  obtain ⟨fd, F, kp, hb, hb2⟩ := (A f sp hS).ex
  refine wpAny_Call_Name_kw (thn ((pe_var (pos := p) hN hv hdb hcd).run pins s σ H (fun v H1 => v = .ref f ∧ H1 = H) I ⟨.ref f, hs, rfl, rfl⟩) fun u s1 ⟨v, H1, I1, r1, q1⟩ => ?_)
  obtain ⟨rfl, rfl⟩ := q1
  cases r1
  refine PySem.W.callWith_KW0 (h₀ := X.base) I.ok.mod.kin kp hall ?_ hpl
  refine thn (hkw.run pos pins s1 σ _ _ I1 ht) fun ws s2 ⟨zs, H2, I2, rz, q2⟩ => ⟨I2.kIn, ?_⟩
  rw [hks]
  have hl : ws.length = ps.length := by rw [← rz.length]; exact F.len _ _ _ _ q2
  refine wpAny_call (codeAny_mono (F.run X.A X.stack s2 H2 ⟨[], ps.zip ws⟩ ws zs Q E0 hr I2.env0 (.of_eq (hb2 ws hl)) rz q2) fun r s' hq => ?_)
  cases r with
  | error e => exact False.elim hq
  | ok fl =>
    cases fl with
    | ret u => exact I2.after hq
    | next => exact False.elim hq
    | brk => exact False.elim hq
    | cont => exact False.elim hq
theorem pe_loc (A : ∀ f sp, S f = some sp → Loc X.prog X.w X.K X.mg X.base k ps f sp) (hr : Room k X.A) (hN : X.N[i]? = some x) (hv : Vis X.env.scope x) (ha : PA X (e :: es) t)
    (hdb : (x == ("__debug__" : Str)) = false := by decide) (hcd : (x == ("__classdict__" : Str)) = false := by decide)
    (he : starEach (e :: es) X.env = (false, eval e X.env) :: starEach es X.env := by rfl) (hpl : (backTo pos (starEach es X.env)).any (·.1) = false := by rfl) : PE X (.Call (.Name x p) (e :: es) [] pos) (tLoc i S t) := by
  refine ⟨fun pins s σ H Q I h => ?_⟩
  obtain ⟨f, sp, hs, hS, ht⟩ := h
  obtain ⟨fd, F, hk, hb, _⟩ := (A f sp hS).ex
  refine (pe_callL (i := i) (f := f) (sp := sp) (dvs := []) (E := E0) F hr hN hv hk hb .nil (fun _ _ _ _ _ _ _ z => z.elim) ha hdb hcd he hpl).run pins s σ H Q I ⟨hs, ?_⟩
  have e0 : (fun (vs : List V) (H1 : Hp) => sp (vs ++ []) H1 Q E0) = fun vs H1 => sp vs H1 Q E0 := by
    funext vs H1
    rw [List.append_nil]
  rw [e0]
  exact ht
end
section
variable {K : PySem.W.Frag} {s : Bool} {ρ : En} {ω : Ow} {ta : TA} {d : D} {ds : List D} {R : List D → D → Prop} {S : Addr → Option Sp} {i : Nat} {f : Addr}
theorem ev_loc (e : ρ[i]? = some (some (.sh (.raw (.ref f))))) (hS : S f = some (spR K R)) (h : EvA K s ta ρ ω ds) (hR : R ds d) (hu : ∀ d', R ds d' → d' = d) : Ev K s (tLoc i S ta) ρ ω d := fun M O σ H r Q q => by
  obtain ⟨v, h1, h2⟩ := r.sh i _ e
  cases h2
  exact ⟨f, _, h1, hS, h M O σ H r _ fun vs H1 s1 r1 => ⟨ds, Xs s M O, ⟨d, hR⟩, Xs_tr (r.mono s1), r1, fun d' v H2 hd s2 r2 => q v H2 (s1.trans s2) (hu d' hd ▸ r2)⟩⟩
end
end DL

set_option Elab.async false
set_option linter.all false
set_option maxRecDepth 100000
set_option maxHeartbeats 4000000
/-! DLW: a comprehension that makes a list of the frame's own; own dicts as data. -/
namespace DL
open PySem PySem.W L2 PySem.Spec PyProof.Rows
section
variable {K : PySem.W.Frag} {M : List Addr} {O : OA} {ω : Ow} {ρ : En} {σ : L2.St} {H H' : Hp}
theorem upd_upd {H : Hp} {p : Addr} {a b : HO} : upd (upd H p a) p b = upd H p b := by
  funext c
  by_cases e : c = p
  · rw [e, upd_same, upd_same]
  · rw [upd_ne e, upd_ne e, upd_ne e]
theorem upd_self {H : Hp} {p : Addr} {o : HO} (h : H p = some o) : upd H p o = H := by
  funext c
  by_cases e : c = p
  · rw [e, upd_same, h]
  · rw [upd_ne e]
theorem SR.take2 (r : SR K M O ω ρ σ H) (s : Same H H') {p : Addr} {ds : List D} {vs : List V} (hp : H p = none) (hv : H' p = some (.lst vs)) (hr : Rps K (hid (p :: xo M O) H') vs ds) : SR K M (O ++ [some p]) (ω ++ [.l ds]) ρ σ H' ∧ Kp O H (O ++ [some p]) H' := by
  have s2 : Same H (upd H' p (.lst [])) := fun b o e => by
    rw [upd_ne (ne_of_none e hp)]
    exact s b o e
  obtain ⟨r1, k1⟩ := r.take (w := .l []) s2 hp l_ne ⟨[], upd_same, .nil⟩
  have ha : (O ++ [some p])[O.length]? = some (some p) := by rw [List.getElem?_append_right (Nat.le_refl _), Nat.sub_self]; rfl
  have eh : hid (xo M (O ++ [some p])) (upd H' p (.lst [])) = hid (p :: xo M O) H' := by
    funext b
    have hm : b ∈ xo M (O ++ [some p]) ↔ b ∈ p :: xo M O := by
      rw [mem_xo, List.mem_cons, mem_xo, List.mem_append]
      constructor
      · rintro (h | h | h)
        · exact .inr (.inl h)
        · exact .inr (.inr h)
        · exact .inl (by simpa using h)
      · rintro (h | h | h)
        · exact .inr (.inr (by rw [h]; simp))
        · exact .inl h
        · exact .inr (.inl h)
    unfold hid
    by_cases hb : b ∈ p :: xo M O
    · rw [if_pos hb, if_pos (hm.mpr hb)]
    · rw [if_neg hb, if_neg fun z => hb (hm.mp z)]
      exact upd_ne fun e => hb (by rw [e]; exact List.mem_cons_self)
  obtain ⟨r2, k2⟩ := r1.write (o := .lst vs) (w := .l ds) ha l_ne ⟨vs, upd_same, by rw [eh]; exact hr⟩
  rw [upd_upd, upd_self hv] at r2 k2
  refine ⟨?_, k1.trans k2⟩
  have e : (ω ++ [Own.l []]).set O.length (Own.l ds) = ω ++ [Own.l ds] := by
    rw [r.lenO, List.set_append_right _ _ (Nat.le_refl _), Nat.sub_self]
    rfl
  rw [e] at r2
  exact r2
end
/-- a new list at an address of its own -/
def EvL (K : PySem.W.Frag) (te : TE) (ρ : En) (ω : Ow) (ds : List D) : Prop := ∀ M O σ H, SR K M O ω ρ σ H → ∀ Q : VK, (∀ p H' vs, Same H H' → H p = none → H' p = some (.lst vs) → Rps K (hid (p :: xo M O) H') vs ds → Q (.ref p) H') → te σ H Q
section
variable {K : PySem.W.Frag} {s b : Bool} {ρ ρ' ρ1 ρ2 : En} {ω : Ow} {ta tb te tc : TE} {d d1 d2 d3 : D} {ds : List D} {vs : List Nat} {Φ : Out → Prop}
theorem ws_setL {i : Nat} (h : EvL K te ρ ω ds) (q : Φ (.nx (ρ.set i (some (.ow ω.length))) (ω ++ [.l ds]))) : WS K b (tAsg te (gName i)) ρ ω Φ := fun M O σ H D' r c => h M O σ H r _ fun p H1 vs s1 hp hv hr => by
  obtain ⟨r2, k2⟩ := r.take2 s1 hp hv hr
  have ha : (O ++ [some p])[ω.length]? = some (some p) := by rw [← r.lenO, List.getElem?_append_right (Nat.le_refl _), Nat.sub_self]; rfl
  exact c.nx _ _ H1 _ _ (r2.setOw ha) k2 q
/-- [f for a in as if p], a list of one's own -/
theorem el_lc {α : Type} (as : List α) (toD : α → D) (p : α → Bool) (f : α → D) {wi : TI} {g : TG} {tt : TT} (hi : EvI K wi ρ ω (as.map toD)) (hl : as.length ≤ 1000000)
    (hs : ∀ a, a ∈ as → ∃ ρ2, WGw K g (toD a) vs (wipeE ρ vs) ρ2 ∧ EvT K tt ρ2 ω (p a) ∧ (p a = true → Ev K true te ρ2 ω (f a))) : EvL K (tLc wi g tt te vs) ρ ω ((as.filter p).map f) := fun M O σ H r Q q =>
  hi M O σ H r _ fun J H1 s1 wk p0 hp0 => by
    have r1 := r.mono s1
    have np : p0 ∉ xo M O := not_mem_of_new r1.trkX hp0
    have hq0 : H p0 = none := by
      cases e : H p0 with
      | none => rfl
      | some o => rw [s1 _ _ e] at hp0; cases hp0
    have r2 := r1.aside (same_upd (o := .lst []) hp0) hp0 (trk_of upd_same)
    refine ⟨fun i m H' => m = as.length - i ∧ i ≤ as.length ∧ SR K (p0 :: M) O ω ρ σ H' ∧ Same H1 H' ∧ ∃ acc, H' p0 = some (.lst acc) ∧ acc.length ≤ i ∧ Rps K (hid (xo (p0 :: M) O) H') acc (((as.take i).filter p).map f),
      ⟨_, rfl, Nat.zero_le _, r2, same_upd hp0, [], upd_same, Nat.le_refl _, .nil⟩, ?_⟩
    rintro i m H' ⟨rfl, hi, r3, s3, acc, ha, hla, hr⟩
    have hh : Same (hid (xo M O) H1) (hid (xo (p0 :: M) O) H') := fun b o e => by
      obtain ⟨n, e⟩ := of_hid e
      refine hid_of (fun z => ?_) (s3 _ _ e)
      rcases mem_xo.mp z with z | z
      · rcases List.mem_cons.mp z with z | z
        · rw [z, hp0] at e; cases e
        · exact n (mem_xo.mpr (.inl z))
      · exact n (mem_xo.mpr (.inr z))
    by_cases hlt : i < as.length
    · have hm : i < (as.map toD).length := by rw [List.length_map]; exact hlt
      obtain ⟨ρ2, hg, ht, he⟩ := hs as[i] (List.getElem_mem hlt)
      have et : as.take (i + 1) = as.take i ++ [as[i]] := by rw [List.take_add_one, List.getElem?_eq_getElem hlt]; rfl
      refine .inr ⟨wk.go i _ _ hh hid_le hm, fun H2 => SR K (p0 :: M) O ω ρ σ H2 ∧ Same H1 H2 ∧ ∃ acc, H2 p0 = some (.lst acc) ∧ acc.length ≤ i + 1 ∧ Rps K (hid (xo (p0 :: M) O) H2) acc (((as.take (i + 1)).filter p).map f), ?_, fun x H2 hy => ?_⟩
      · rintro H2 ⟨a1, a2, a3⟩
        exact ⟨_, by omega, rfl, hlt, a1, a2, a3⟩
      · obtain ⟨s4, fx⟩ := wk.yl i _ _ x H2 hh r3.trkX hm hy
        have rp := fx (toD as[i]) (by rw [List.getElem?_map, List.getElem?_eq_getElem hlt]; rfl)
        have r4 := r3.mono s4
        refine hg _ O ω _ H2 x (r4.wipe vs) rp _ fun σ2 r5 e5 => ⟨e5.trans (wipe_wipe vs fun _ h => h), ?_⟩
        refine ht _ O σ2 H2 r5 _ fun H3 s5 => ?_
        have s45 := s4.trans s5
        cases hpa : p as[i] with
        | true =>
          refine iteT ?_
          refine he hpa _ O σ2 H3 (r5.mono s5) _ fun y H4 s6 ry => ?_
          have s46 := s45.trans s6
          have r6 := r3.mono s46
          obtain ⟨r7, eh⟩ := r6.aside_upd (o := .lst (acc ++ [y]))
          refine ⟨acc, s46 _ _ ha, Nat.lt_of_le_of_lt (Nat.le_trans hla (Nat.le_trans hi hl)) (by decide), r7, ?_, acc ++ [y], upd_same, by rw [List.length_append]; simp; omega, ?_⟩
          · intro b o e
            rw [upd_ne (ne_of_none e hp0)]
            exact s46 _ _ (s3 _ _ e)
          · rw [eh, et, List.filter_append, List.map_append]
            refine (hr.mono (hid_same s46)).append ?_
            rw [List.filter_cons, hpa, if_pos rfl, List.filter_nil]
            exact .cons ry .nil
        | false =>
          refine iteF ?_
          refine ⟨r3.mono s45, s3.trans s45, acc, s45 _ _ ha, by omega, ?_⟩
          rw [et, List.filter_append, List.map_append, List.filter_cons, hpa, if_neg Bool.false_ne_true, List.filter_nil, List.map_nil, List.append_nil]
          exact hr.mono (hid_same s45)
    · have e : i = as.length := by omega
      subst e
      rw [List.take_of_length_le (Nat.le_refl _)] at hr
      have ex : hid (p0 :: xo M O) H' = hid (xo (p0 :: M) O) H' := hid_cong fun b => by
        rw [List.mem_cons, mem_xo, mem_xo, List.mem_cons, or_assoc]
      refine .inl ⟨by rw [← List.length_map (as := as) toD]; exact wk.st _ _ hh hid_le, q p0 H' acc (s1.trans s3) hq0 ha (by rw [ex]; exact hr)⟩
theorem el_map {α : Type} (as : List α) (toD : α → D) (f : α → D) {wi : TI} {g : TG} (hi : EvI K wi ρ ω (as.map toD)) (hl : as.length ≤ 1000000)
    (hs : ∀ a, a ∈ as → ∃ ρ2, WGw K g (toD a) vs (wipeE ρ vs) ρ2 ∧ Ev K true te ρ2 ω (f a)) : EvL K (tLc wi g tYes te vs) ρ ω (as.map f) := by
  have h := el_lc as toD (fun _ => true) f (tt := tYes) (te := te) (g := g) (vs := vs) hi hl fun a ha => by
    obtain ⟨ρ2, h1, h2⟩ := hs a ha
    exact ⟨ρ2, h1, et_yes, fun _ => h2⟩
  rw [filter_yes] at h
  exact h
theorem EvL.to {es : List D} (h : EvL K te ρ ω ds) (e : ds = es) : EvL K te ρ ω es := e ▸ h
/-- a slot is no longer spoken of -/
theorem ws_lose (j : Nat) {t : TS} (h : WS K b t (ρ.set j none) ω Φ) : WS K b t ρ ω Φ := fun M O σ H D' r c => h M O σ H D' (r.drop j) c
/-- an own dict, looked at as data -/
theorem ev_varOT {j k : Nat} {kds : List (List Key × D)} (e : ρ[j]? = some (some (.ow k))) (ew : ω[k]? = some (.dT kds)) : Ev K false (tVar j) ρ ω (.dT kds) := fun M O σ H r Q q => by
  obtain ⟨a, kvs, h1, h2, h3, h4, h5⟩ := ev_ownT e ew M O σ H r
  have na : a ∉ M := r.dis a (List.mem_of_getElem? h1)
  exact ⟨.ref a, h2, q _ H (Same.refl H) (.dT (hid_of na h3) h4 (h5.mono (hid_sub fun b hb => mem_xo.mpr (.inl hb))))⟩
theorem rng0 (n : Nat) : rng 0 n = (List.range n).map fun (i : Nat) => D.int (i : Int) := by
  unfold rng
  apply List.map_congr_left
  intro i _
  rw [Int.zero_add]
theorem rng0_get {n i : Nat} (h : i < n) : (rng 0 n)[i]? = some (.int (i : Int)) := by rw [rng_get h, Int.zero_add]
/-- range(j), j a natural number -/
theorem ei_rngN {n : Nat} {t : TA} {j : Int} (h : EvA K s t ρ ω [.int j]) (e : j.toNat = n) (h1 : j < 2 ^ 62) (h0 : -(2 ^ 62) ≤ j) : EvI K (iRng1 t) ρ ω ((List.range n).map fun (i : Nat) => D.int (i : Int)) := by
  have := ei_rng1 (K := K) h h0 h1
  rw [e, rng0] at this
  exact this
end
end DL

set_option Elab.async false
set_option linter.all false
set_option maxRecDepth 100000
set_option maxHeartbeats 4000000
/-! M8: pairs of either play; they are the lost ones. -/
namespace DL
open PySem PySem.W L2
/-! ### played the other way, a slack from 2 -/
def oLow (s n : Int) : Int := ((n * s + 1) * (2 - s) + 2 * (s - 2) + isq ((n * s + 1) * (n * s + 1) * (s * s + 4))) / (2 * s)
def oHigh (s n : Int) : Int := oLow s n + s * n + 1
section
variable {s n m v : Int}
theorem olow_iff (hs : 2 ≤ s) (hn : 0 ≤ n) (hm : 0 ≤ m) : oLow s n ≤ n + m ↔ (n * s + 1) * (n * s + 1) < (m * s + 1) * (m * s + 1) + s * ((n * s + 1) * (m * s + 1)) := by
  have hx : 0 ≤ n * s := Int.mul_nonneg hn (by omega)
  have hy : 0 ≤ m * s := Int.mul_nonneg hm (by omega)
  rw [show oLow s n ≤ n + m ↔ oLow s n < n + m + 1 by omega]
  unfold oLow
  rw [lt_div (show 0 < 2 * s by omega)]
  generalize e1 : n * s + 1 = x at *
  generalize e2 : m * s + 1 = y at *
  have d0 : 0 ≤ x * x * (s * s + 4) := disc_nn s x
  have er : (n + m + 1) * (2 * s) - x * (2 - s) - 2 * (s - 2) = 2 * y + s * x := by
    rw [← e1, ← e2]; grind
  rw [show x * (2 - s) + 2 * (s - 2) + isq (x * x * (s * s + 4)) < (n + m + 1) * (2 * s) ↔ isq (x * x * (s * s + 4)) < 2 * y + s * x by omega, isq_lt d0]
  have sx : 0 ≤ s * x := Int.mul_nonneg (by omega) (by omega)
  have e3 : (2 * y + s * x) * (2 * y + s * x) = 4 * (y * y + s * (x * y)) + x * x * (s * s) := by grind
  have e4 : x * x * (s * s + 4) = x * x * (s * s) + 4 * (x * x) := by grind
  rw [e3, e4]
  omega
theorem ohigh_iff (hs : 2 ≤ s) (hn : 0 ≤ n) (hm : 0 ≤ m) : oHigh s m ≤ n + m ↔ n + m < oLow s n := by
  rw [show n + m < oLow s n ↔ ¬ oLow s n ≤ n + m by omega, olow_iff hs hn hm]
  have hx : 0 ≤ n * s := Int.mul_nonneg hn (by omega)
  have hy : 0 ≤ m * s := Int.mul_nonneg hm (by omega)
  rw [show oHigh s m ≤ n + m ↔ oLow s m < n + m - s * m by unfold oHigh; omega]
  unfold oLow
  rw [lt_div (show 0 < 2 * s by omega)]
  generalize e1 : n * s + 1 = x at *
  generalize e2 : m * s + 1 = y at *
  have d0 : 0 ≤ y * y * (s * s + 4) := disc_nn s y
  have er : (n + m - s * m) * (2 * s) - y * (2 - s) - 2 * (s - 2) = 2 * x - s * y := by
    rw [← e1, ← e2]; grind
  rw [show y * (2 - s) + 2 * (s - 2) + isq (y * y * (s * s + 4)) < (n + m - s * m) * (2 * s) ↔ isq (y * y * (s * s + 4)) < 2 * x - s * y by omega, isq_lt d0]
  have e3 : (2 * x - s * y) * (2 * x - s * y) = 4 * (x * x - s * (x * y)) + y * y * (s * s) := by grind
  have e4 : y * y * (s * s + 4) = y * y * (s * s) + 4 * (y * y) := by grind
  have ne : x * x ≠ y * y + s * (x * y) := fun z => by
    have z2 : (2 * x - s * y) * (2 * x - s * y) = y * y * (s * s + 4) := by rw [e3, e4]; omega
    have := no_root (show 1 ≤ s by omega) _ y _ (Nat.le_refl _) z2
    omega
  rw [e3, e4]
  constructor
  · rintro ⟨a, b⟩; omega
  · intro h
    refine ⟨?_, by omega⟩
    have sxy : 0 ≤ s * (x * y) := Int.mul_nonneg (by omega) (Int.mul_nonneg (by omega) (by omega))
    have yy : 0 < y * y := sq_pos (by omega)
    have h2 : s * y * x < x * x := by
      have : s * (x * y) = s * y * x := by grind
      omega
    have h3 : s * y < x := Int.lt_of_mul_lt_mul_right h2 (by omega)
    omega
theorem olow_zero (hs : 2 ≤ s) : oLow s 0 = 0 := by
  unfold oLow
  rw [Int.zero_mul, Int.zero_add, Int.one_mul, Int.one_mul, Int.one_mul]
  have ss := Int.mul_le_mul_of_nonneg_right hs (show 0 ≤ s by omega)
  have e : isq (s * s + 4) = if s = 2 then 2 else s := by
    split
    · rename_i h
      subst h
      decide +kernel
    · refine isq_unique (by omega) (by omega) ?_
      have : (s + 1) * (s + 1) = s * s + 2 * s + 1 := by grind
      omega
  rw [e]
  split
  · rename_i h; subst h; decide
  · exact Int.ediv_eq_zero_of_lt (by omega) (by omega)
theorem olow_gt (hs : 2 ≤ s) (hn : 1 ≤ n) : n < oLow s n := by
  have h := mt (olow_iff hs (show 0 ≤ n by omega) (Int.le_refl 0)).mp
  rw [Int.add_zero] at h
  have : ¬ oLow s n ≤ n := h (by
    rw [Int.zero_mul, Int.zero_add, Int.one_mul, Int.mul_one]
    have a : s * (n * s) ≤ n * s * (n * s) := Int.mul_le_mul_of_nonneg_right (by have := Int.mul_le_mul_of_nonneg_right hn (show 0 ≤ s by omega); omega) (Int.mul_nonneg (by omega) (by omega))
    have b : (n * s + 1) * (n * s + 1) = n * s * (n * s) + 2 * (n * s) + 1 := by grind
    have c : s * (n * s + 1) = s * (n * s) + s := by grind
    have d := Int.mul_le_mul_of_nonneg_right hn (show 0 ≤ s by omega)
    omega)
  omega
theorem olow_nn (hs : 2 ≤ s) (hn : 0 ≤ n) : n ≤ oLow s n := by
  by_cases h : n = 0
  · rw [h, olow_zero hs]; exact Int.le_refl 0
  · have := olow_gt hs (show 1 ≤ n by omega); omega
theorem olow_step (hs : 2 ≤ s) (hn : 0 ≤ n) : oLow s n < oLow s (n + 1) := by
  have g := olow_nn hs (show 0 ≤ n + 1 by omega)
  obtain ⟨m, e⟩ : ∃ m, oLow s (n + 1) = n + 1 + m := ⟨oLow s (n + 1) - (n + 1), by omega⟩
  have hm : 0 ≤ m := by omega
  have h := (olow_iff hs (show 0 ≤ n + 1 by omega) hm).mp (by omega)
  have h2 := (olow_iff hs hn hm).mpr (by
    have hx : 0 ≤ n * s := Int.mul_nonneg hn (by omega)
    have hy : 0 ≤ m * s := Int.mul_nonneg hm (by omega)
    have e1 : (n + 1) * s + 1 = n * s + 1 + s := by grind
    rw [e1] at h
    obtain ⟨x, ex⟩ : ∃ x, n * s + 1 = x := ⟨_, rfl⟩
    obtain ⟨y, ey⟩ : ∃ y, m * s + 1 = y := ⟨_, rfl⟩
    rw [ex, ey] at h
    rw [ex, ey]
    have x1 : 1 ≤ x := by omega
    have y1 : 1 ≤ y := by omega
    have a1 : (x + s) * (x + s) = x * x + s * (2 * x + s) := by grind
    have a2 : s * ((x + s) * y) = s * (x * y) + s * (s * y) := by grind
    have yy : 0 < y * y := sq_pos (by omega)
    by_cases c : s * y ≤ 2 * x + s
    · have := Int.mul_le_mul_of_nonneg_left c (show 0 ≤ s by omega)
      omega
    · have c2 : x < s * y := by omega
      have := Int.mul_le_mul_of_nonneg_left (show x ≤ s * y by omega) (show 0 ≤ x by omega)
      have e5 : x * (s * y) = s * (x * y) := by grind
      omega)
  omega
end
/-! ### a game's pairs -/
structure Gm (s m : Int) (a b : Int → Int) : Prop where
  nn : ∀ n, 0 ≤ n → 0 ≤ a n
  st : ∀ n, 0 ≤ n → a n < a (n + 1)
  hb : ∀ n, b n = a n + s * n + m
  cov : ∀ v, 0 ≤ v → ∃ k, 0 ≤ k ∧ (v = a k ∨ v = b k)
  sep : ∀ i j, 0 ≤ i → 0 ≤ j → a i = b j → i = 0 ∧ j = 0 ∧ m = 0
section
variable {s m : Int} {a b : Int → Int}
theorem Gm.add (G : Gm s m a b) {n : Int} (hn : 0 ≤ n) : ∀ k : Nat, a n + k ≤ a (n + k)
  | 0 => by rw [show n + ((0 : Nat) : Int) = n by omega]; omega
  | k + 1 => by
    have := G.add hn k
    have := G.st (n + k) (by omega)
    rw [show n + ((k + 1 : Nat) : Int) = n + k + 1 by omega]
    omega
theorem Gm.lt (G : Gm s m a b) {n k : Int} (hn : 0 ≤ n) (h : n < k) : a n < a k := by
  have := G.add hn (k - n).toNat
  rw [show n + (((k - n).toNat : Nat) : Int) = k by omega] at this
  omega
theorem Gm.le (G : Gm s m a b) {n k : Int} (hn : 0 ≤ n) (h : n ≤ k) : a n ≤ a k := by
  by_cases e : n = k
  · rw [e]; exact Int.le_refl _
  · exact Int.le_of_lt (G.lt hn (by omega))
theorem Gm.inj (G : Gm s m a b) {n k : Int} (hn : 0 ≤ n) (hk : 0 ≤ k) (h : a n = a k) : n = k := by
  rcases Int.lt_trichotomy n k with z | z | z
  · have := G.lt hn z; omega
  · exact z
  · have := G.lt hk z; omega
theorem Gm.ge (G : Gm s m a b) {n : Int} (hn : 0 ≤ n) : n ≤ a n := by
  have := G.add (Int.le_refl 0) n.toNat
  have := G.nn 0 (Int.le_refl 0)
  rw [show (0 : Int) + ((n.toNat : Nat) : Int) = n by omega] at *
  omega
theorem Gm.ab (G : Gm s m a b) (hs : 0 ≤ s) (hm : 0 ≤ m) {n : Int} (hn : 0 ≤ n) : a n ≤ b n := by
  rw [G.hb]
  have := Int.mul_nonneg hs hn
  omega
theorem Gm.blt (G : Gm s m a b) (hs : 0 ≤ s) {n k : Int} (hn : 0 ≤ n) (h : n < k) : b n < b k := by
  rw [G.hb, G.hb]
  have := G.lt hn h
  have := Int.mul_le_mul_of_nonneg_left (show n ≤ k by omega) hs
  omega
/-- what the first k pairs have -/
def toldG (a b : Int → Int) (k : Nat) (x : Int) : Prop := ∃ i : Nat, i < k ∧ (x = a i ∨ x = b i)
theorem Gm.fresh (G : Gm s m a b) (k : Nat) : ¬ toldG a b k (a k) := by
  rintro ⟨i, hi, h | h⟩
  · have := G.inj (by omega) (by omega) h; omega
  · have := G.sep k i (by omega) (by omega) h; omega
theorem Gm.below (G : Gm s m a b) (hs : 0 ≤ s) (hm : 0 ≤ m) {k : Nat} {x : Int} (h0 : 0 ≤ x) (hx : x < a k) : toldG a b k x := by
  obtain ⟨i, hi, h⟩ := G.cov x h0
  have hl : a i < a k := by
    rcases h with h | h
    · omega
    · have := G.ab hs hm hi; omega
  have : i < k := by
    rcases ilt_or_ge i k with z | z
    · exact z
    · have := G.le (show (0 : Int) ≤ k by omega) z; omega
  exact ⟨i.toNat, by omega, by rw [show ((i.toNat : Nat) : Int) = i by omega]; exact h⟩
end
theorem gm_low {s : Int} (hs : 1 ≤ s) : Gm s 0 (lowF s) (highF s) where
  nn := fun n hn => low_nn hs hn
  st := fun n hn => low_lt hs hn (by omega)
  hb := fun n => by unfold highF; omega
  cov := fun v hv => by
    by_cases e : v = 0
    · exact ⟨0, Int.le_refl 0, .inl (by rw [low_zero hs]; exact e)⟩
    · have c0 := cnt_nn hs hv
      have c1 := cnt_le hs hv
      rcases low_at hs (show 1 ≤ v by omega) with h | ⟨_, h⟩
      · exact ⟨_, c0, .inl h.symm⟩
      · exact ⟨v - cntF s v, by omega, .inr h.symm⟩
  sep := fun i j hi hj h => by
    by_cases e1 : i = 0
    · subst e1
      rw [low_zero hs] at h
      by_cases e2 : j = 0
      · exact ⟨rfl, e2, rfl⟩
      · have := high_lt hs (Int.le_refl 0) (show 0 < j by omega)
        rw [high_zero hs] at this
        omega
    · by_cases e2 : j = 0
      · subst e2
        rw [high_zero hs] at h
        have := low_ge hs hi
        omega
      · exact absurd h (low_ne_high hs (by omega) (by omega))
theorem gm_olow {s : Int} (hs : 2 ≤ s) : Gm s 1 (oLow s) (oHigh s) where
  nn := fun n hn => Int.le_trans hn (olow_nn hs hn)
  st := fun n hn => olow_step hs hn
  hb := fun n => rfl
  cov := fun v hv => by
    -- the last n with oLow n at most v
    have ex : ∀ k : Nat, oLow s ((k : Int)) > v → ∃ n : Nat, n < k ∧ oLow s n ≤ v ∧ v < oLow s (n + 1) := by
      intro k
      induction k with
      | zero => intro h; rw [show ((0 : Nat) : Int) = 0 from rfl, olow_zero hs] at h; omega
      | succ k ih =>
        intro h
        by_cases c : oLow s k ≤ v
        · exact ⟨k, Nat.lt_succ_self k, c, by rw [show ((k : Int) + 1) = ((k + 1 : Nat) : Int) by omega]; exact h⟩
        · obtain ⟨n, h1, h2⟩ := ih (by omega)
          exact ⟨n, by omega, h2⟩
    obtain ⟨n, _, h1, h2⟩ := ex (v.toNat + 1) (by
      have := olow_gt hs (show 1 ≤ ((v.toNat + 1 : Nat) : Int) by omega)
      omega)
    by_cases e : oLow s n = v
    · exact ⟨n, by omega, .inl e.symm⟩
    · have hn := olow_nn hs (show (0 : Int) ≤ n by omega)
      refine ⟨v - (n + 1), by omega, .inr ?_⟩
      have g1 := (ohigh_iff (m := v - (n + 1)) hs (show (0 : Int) ≤ n + 1 by omega) (by omega)).mpr (by rw [show (n : Int) + 1 + (v - (n + 1)) = v by omega]; exact h2)
      have g2 := mt (ohigh_iff (m := v - (n + 1)) hs (show (0 : Int) ≤ n by omega) (by omega)).mp (by omega)
      omega
  sep := fun i j hi hj h => by
    exfalso
    have hb : oHigh s j = oLow s j + s * j + 1 := rfl
    have hj2 := olow_nn hs hj
    have sj := Int.mul_nonneg (show 0 ≤ s by omega) hj
    have hi2 := olow_nn hs hi
    -- v: the number of both
    have g1 := (ohigh_iff (n := oLow s i - j) (m := j) hs (by omega) hj).mp (by omega)
    have g2 := mt (ohigh_iff (n := oLow s i - j - 1) (m := j) hs (by omega) hj).mpr (by omega)
    have mono : ∀ (k : Nat) (n : Int), 0 ≤ n → oLow s n ≤ oLow s (n + k) := by
      intro k
      induction k with
      | zero => intro n _; rw [show n + ((0 : Nat) : Int) = n by omega]; exact Int.le_refl _
      | succ k ih =>
        intro n hn
        have := ih n hn
        have := olow_step hs (show 0 ≤ n + k by omega)
        rw [show n + ((k + 1 : Nat) : Int) = n + k + 1 by omega]
        omega
    have k1 : i < oLow s i - j := by
      rcases ilt_or_ge i (oLow s i - j) with z | z
      · exact z
      · have := mono (i - (oLow s i - j)).toNat (oLow s i - j) (by omega)
        rw [show oLow s i - j + (((i - (oLow s i - j)).toNat : Nat) : Int) = i by omega] at this
        omega
    have := mono (oLow s i - j - 1 - i).toNat i hi
    rw [show i + (((oLow s i - j - 1 - i).toNat : Nat) : Int) = oLow s i - j - 1 by omega] at this
    omega
/-! ### the lost places are the pairs -/
def isP (a b : Int → Int) (p : ZZ) : Prop := ∃ k, 0 ≤ k ∧ ((p.1 = a k ∧ p.2 = b k) ∨ (p.1 = b k ∧ p.2 = a k))
theorem isP_sw {a b : Int → Int} {p : ZZ} : isP a b (sw p) ↔ isP a b p := by
  constructor <;> rintro ⟨k, hk, h | h⟩
  · exact ⟨k, hk, .inr ⟨h.2, h.1⟩⟩
  · exact ⟨k, hk, .inl ⟨h.2, h.1⟩⟩
  · exact ⟨k, hk, .inr ⟨h.2, h.1⟩⟩
  · exact ⟨k, hk, .inl ⟨h.2, h.1⟩⟩
section
variable {s m : Int} {a b : Int → Int}
/-- from a pair no move leads to a pair: the first heap the lesser one -/
theorem Gm.stay0 (G : Gm s m a b) (hs : 1 ≤ s) (hm : 0 ≤ m) {k : Int} (hk : 0 ≤ k) {q : ZZ} (hl : leadsF s (a k, b k) q = true) : ¬ isP a b q := by
  rintro ⟨j, hj, h⟩
  have l := leads_iff.mp hl
  have l : q.1 ≤ a k ∧ q.2 ≤ b k ∧ (q.1 < a k ∨ q.2 < b k) ∧ (a k = q.1 ∨ b k = q.2 ∨ (a k - q.1 - (b k - q.2) < s ∧ b k - q.2 - (a k - q.1) < s)) := l
  have hbk := G.hb k
  have hbj := G.hb j
  have s1 := Int.mul_nonneg (show 0 ≤ s by omega) hk
  have s2 := Int.mul_nonneg (show 0 ≤ s by omega) hj
  rcases h with ⟨e1, e2⟩ | ⟨e1, e2⟩
  · have ne : j ≠ k := fun z => by rw [z] at e1 e2; omega
    rcases l.2.2.2 with c | c | c
    · exact ne (G.inj hj hk (by omega))
    · rcases Int.lt_trichotomy j k with z | z | z
      · have := G.blt (show 0 ≤ s by omega) hj z; omega
      · exact ne z
      · have := G.blt (show 0 ≤ s by omega) hk z; omega
    · rcases Int.lt_trichotomy j k with z | z | z
      · have := Int.mul_le_mul_of_nonneg_left (show j + 1 ≤ k by omega) (show 0 ≤ s by omega)
        rw [Int.mul_add, Int.mul_one] at this
        omega
      · exact ne z
      · have := Int.mul_le_mul_of_nonneg_left (show k + 1 ≤ j by omega) (show 0 ≤ s by omega)
        rw [Int.mul_add, Int.mul_one] at this
        omega
  · have both : k = 0 → j = 0 → m = 0 → False := fun k0 j0 m0 => by
      subst k0 j0
      rw [Int.mul_zero] at hbk
      omega
    rcases l.2.2.2 with c | c | c
    · obtain ⟨x, y, z⟩ := G.sep k j hk hj (by omega)
      exact both x y z
    · obtain ⟨x, y, z⟩ := G.sep j k hj hk (by omega)
      exact both y x z
    · by_cases z : k = 0 ∧ j = 0
      · obtain ⟨rfl, rfl⟩ := z
        rw [Int.mul_zero] at hbk
        omega
      · have h1 := Int.mul_le_mul_of_nonneg_right hs (show 0 ≤ k + j by omega)
        have h2 : s * (k + j) = s * k + s * j := Int.mul_add ..
        have h3 := Int.mul_le_mul_of_nonneg_left (show 1 ≤ k + j by omega) (show 0 ≤ s by omega)
        omega
theorem Gm.stay (G : Gm s m a b) (hs : 1 ≤ s) (hm : 0 ≤ m) {p q : ZZ} (hp : isP a b p) (hl : leadsF s p q = true) : ¬ isP a b q := by
  obtain ⟨k, hk, ⟨e1, e2⟩ | ⟨e1, e2⟩⟩ := hp
  · exact G.stay0 hs hm hk (by rw [show (a k, b k) = p from Prod.ext e1.symm e2.symm]; exact hl)
  · intro hq
    refine G.stay0 (q := sw q) hs hm hk ?_ (isP_sw.mpr hq)
    rw [show (a k, b k) = sw p from Prod.ext e2.symm e1.symm, leads_sw]
    exact hl
/-- to a pair from where the first heap is not the greater one -/
theorem Gm.go0 (G : Gm s m a b) (hs : 1 ≤ s) (hm : m = 0 ∨ (m = 1 ∧ 2 ≤ s)) {p : ZZ} (h0 : 0 ≤ p.1) (h1 : p.1 ≤ p.2) (hn : ¬ isP a b p) (hz : m = 1 → p.1 + p.2 ≠ 0) : ∃ q : ZZ, 0 ≤ q.1 ∧ 0 ≤ q.2 ∧ leadsF s p q = true ∧ isP a b q := by
  obtain ⟨x, y⟩ := p
  have h0 : 0 ≤ x := h0
  have h1 : x ≤ y := h1
  have hz : m = 1 → x + y ≠ 0 := hz
  have m0 : 0 ≤ m := by omega
  obtain ⟨k, hk, hx⟩ := G.cov x h0
  have hbk := G.hb k
  have ak := G.nn k hk
  have sk := Int.mul_nonneg (show 0 ≤ s by omega) hk
  have viaA : x = a k → ∃ q : ZZ, 0 ≤ q.1 ∧ 0 ≤ q.2 ∧ leadsF s (x, y) q = true ∧ isP a b q := by
    intro hx
    rcases Int.lt_trichotomy y (b k) with c | c | c
    · -- both heaps
      by_cases cd : m ≤ y - x
      · have j0 : 0 ≤ (y - x - m) / s := Int.ediv_nonneg (by omega) (by omega)
        have j1 : s * ((y - x - m) / s) ≤ y - x - m := Int.mul_ediv_self_le (by omega)
        have j2 : y - x - m < s * ((y - x - m) / s) + s := Int.lt_mul_ediv_self_add (by omega)
        generalize hj : (y - x - m) / s = j at *
        have hbj := G.hb j
        have lt : j < k := by
          rcases ilt_or_ge j k with z | z
          · exact z
          · have := Int.mul_le_mul_of_nonneg_left z (show 0 ≤ s by omega); omega
        have aj := G.lt j0 lt
        have nj := G.nn j j0
        have sj := Int.mul_nonneg (show 0 ≤ s by omega) j0
        refine ⟨(a j, b j), nj, by show 0 ≤ b j; omega, leads_iff.mpr ?_, j, j0, .inl ⟨rfl, rfl⟩⟩
        show a j ≤ x ∧ b j ≤ y ∧ (a j < x ∨ b j < y) ∧ (x = a j ∨ y = b j ∨ (x - a j - (y - b j) < s ∧ y - b j - (x - a j) < s))
        omega
      · have hm1 : m = 1 ∧ 2 ≤ s := by omega
        have z0 := G.hb 0
        rw [Int.mul_zero] at z0
        have k1 : 1 ≤ k := by
          rcases ilt_or_ge k 1 with z | z
          · exfalso
            have k0 : k = 0 := by omega
            have ex0 : a 0 = 0 := by
              obtain ⟨i, hi, h⟩ := G.cov 0 (Int.le_refl 0)
              have := G.le (Int.le_refl 0) hi
              have := G.nn 0 (Int.le_refl 0)
              have := G.ab (show 0 ≤ s by omega) m0 hi
              omega
            rw [k0] at hx
            exact hz hm1.1 (by omega)
          · exact z
        have a0 := G.nn 0 (Int.le_refl 0)
        have lt := G.lt (Int.le_refl 0) (show 0 < k by omega)
        have ne : a k ≠ b 0 := fun z => by have := G.sep k 0 hk (Int.le_refl 0) z; omega
        refine ⟨(a 0, b 0), a0, by show 0 ≤ b 0; omega, leads_iff.mpr ?_, 0, Int.le_refl 0, .inl ⟨rfl, rfl⟩⟩
        show a 0 ≤ x ∧ b 0 ≤ y ∧ (a 0 < x ∨ b 0 < y) ∧ (x = a 0 ∨ y = b 0 ∨ (x - a 0 - (y - b 0) < s ∧ y - b 0 - (x - a 0) < s))
        omega
    · exact absurd ⟨k, hk, .inl ⟨hx, c⟩⟩ hn
    · refine ⟨(a k, b k), ak, by show 0 ≤ b k; omega, leads_iff.mpr ?_, k, hk, .inl ⟨rfl, rfl⟩⟩
      show a k ≤ x ∧ b k ≤ y ∧ (a k < x ∨ b k < y) ∧ (x = a k ∨ _)
      exact ⟨by omega, by omega, .inr c, .inl hx⟩
  rcases hx with hx | hx
  · exact viaA hx
  · by_cases e : a k = b k
    · exact viaA (hx.trans e.symm)
    · refine ⟨(b k, a k), by show 0 ≤ b k; omega, ak, leads_iff.mpr ?_, k, hk, .inr ⟨rfl, rfl⟩⟩
      show b k ≤ x ∧ a k ≤ y ∧ (b k < x ∨ a k < y) ∧ (x = b k ∨ _)
      exact ⟨by omega, by omega, .inr (by omega), .inl hx⟩
theorem Gm.go (G : Gm s m a b) (hs : 1 ≤ s) (hm : m = 0 ∨ (m = 1 ∧ 2 ≤ s)) {p : ZZ} (h0 : 0 ≤ p.1) (h1 : 0 ≤ p.2) (hn : ¬ isP a b p) (hz : m = 1 → p.1 + p.2 ≠ 0) : ∃ q : ZZ, 0 ≤ q.1 ∧ 0 ≤ q.2 ∧ leadsF s p q = true ∧ isP a b q := by
  by_cases c : p.1 ≤ p.2
  · exact G.go0 hs hm h0 c hn hz
  · obtain ⟨q, q1, q2, q3, q4⟩ := G.go0 (p := sw p) hs hm h1 (by show p.2 ≤ p.1; omega) (fun z => hn (isP_sw.mp z)) (by intro e; have := hz e; show p.2 + p.1 ≠ 0; omega)
    exact ⟨sw q, q2, q1, by rw [← leads_sw, sw_sw]; exact q3, isP_sw.mpr q4⟩
end
noncomputable def decP (P : Prop) : Bool := @decide P (Classical.propDecidable P)
theorem decP_iff {P : Prop} : decP P = true ↔ P := @decide_eq_true_iff P (Classical.propDecidable P)
/-- a set of places that no move keeps and that a move reaches from all others is the lost ones -/
theorem lost_is {s : Int} {t : Bool} {P : ZZ → Prop} (h1 : ∀ p q, P p → q ∈ ledF s p → ¬ P q) (h2 : ∀ p : ZZ, 0 ≤ p.1 → 0 ≤ p.2 → ¬ P p → ¬ (t = true ∧ p.1 + p.2 = 0) → ∃ q, q ∈ ledF s p ∧ P q) (h3 : t = true → ∀ p, P p → p.1 + p.2 ≠ 0) {p : ZZ} (g1 : 0 ≤ p.1) (g2 : 0 ≤ p.2) : lostF s t p = true ↔ P p := by
  have e := lost_uniq (s := s) (t := t) (f := fun p => decP (P p)) (fun p a b => by
    rw [Bool.eq_iff_iff, decP_iff, Bool.and_eq_true, Bool.not_eq_true', Bool.not_eq_true', List.any_eq_false]
    constructor
    · intro hp
      refine ⟨fun q hq z => h1 p q hp hq (decP_iff.mp z), ?_⟩
      cases t with
      | false => rfl
      | true => exact decide_eq_false (h3 rfl p hp)
    · rintro ⟨x, y⟩
      refine Classical.byContradiction fun hp => ?_
      obtain ⟨q, q1, q2⟩ := h2 p a b hp fun ⟨z1, z2⟩ => by
        rw [z1, decide_eq_true z2] at y
        cases y
      exact x q q1 (decP_iff.mpr q2)) _ p (Nat.le_refl _) g1 g2
  rw [e, decP_iff]
theorem lost_low {s : Int} (hs : 1 ≤ s) {p : ZZ} (g1 : 0 ≤ p.1) (g2 : 0 ≤ p.2) : lostF s false p = true ↔ isP (lowF s) (highF s) p :=
  lost_is (fun p q hp hq => (gm_low hs).stay hs (Int.le_refl 0) hp (mem_led.mp hq).2.2) (fun p a b hn _ => by
    obtain ⟨q, q1, q2, q3, q4⟩ := (gm_low hs).go hs (.inl rfl) a b hn (fun z => by cases z)
    exact ⟨q, mem_led.mpr ⟨q1, q2, q3⟩, q4⟩) (fun z => Bool.noConfusion z) g1 g2
theorem lost_olow {s : Int} (hs : 2 ≤ s) {p : ZZ} (g1 : 0 ≤ p.1) (g2 : 0 ≤ p.2) : lostF s true p = true ↔ isP (oLow s) (oHigh s) p :=
  lost_is (fun p q hp hq => (gm_olow hs).stay (by omega) (by decide) hp (mem_led.mp hq).2.2) (fun p a b hn hz => by
    obtain ⟨q, q1, q2, q3, q4⟩ := (gm_olow hs).go (by omega) (.inr ⟨rfl, hs⟩) a b hn (fun _ e => hz ⟨rfl, e⟩)
    exact ⟨q, mem_led.mpr ⟨q1, q2, q3⟩, q4⟩) (fun _ p ⟨k, hk, h⟩ => by
    have a0 := (gm_olow hs).nn k hk
    have : oHigh s k = oLow s k + s * k + 1 := rfl
    have := Int.mul_nonneg (show 0 ≤ s by omega) hk
    omega) g1 g2
/-! ### slack 1, the other way -/
def p1F (n : Int) : ZZ := if n = 0 then (0, 1) else if n = 1 then (2, 2) else (lowF 1 n, highF 1 n)
def isP1 (p : ZZ) : Prop := ∃ k, 0 ≤ k ∧ (p = p1F k ∨ p = sw (p1F k))
theorem isP1_sw {p : ZZ} : isP1 (sw p) ↔ isP1 p := by
  constructor <;> rintro ⟨k, hk, h | h⟩
  · exact ⟨k, hk, .inr (by rw [← h, sw_sw])⟩
  · exact ⟨k, hk, .inl (by have := congrArg sw h; rwa [sw_sw, sw_sw] at this)⟩
  · exact ⟨k, hk, .inr (by rw [h])⟩
  · exact ⟨k, hk, .inl (by rw [h, sw_sw])⟩
theorem low12 : lowF 1 1 = 1 ∧ highF 1 1 = 2 ∧ lowF 1 2 = 3 ∧ highF 1 2 = 5 := by decide +kernel
theorem p1_cases {p : ZZ} (h : isP1 p) : p = (0, 1) ∨ p = (1, 0) ∨ p = (2, 2) ∨ ∃ k, 2 ≤ k ∧ (p = (lowF 1 k, highF 1 k) ∨ p = (highF 1 k, lowF 1 k)) := by
  obtain ⟨k, hk, h⟩ := h
  unfold p1F at h
  by_cases e0 : k = 0
  · rw [if_pos e0] at h
    rcases h with h | h
    · exact .inl h
    · exact .inr (.inl h)
  · rw [if_neg e0] at h
    by_cases e1 : k = 1
    · rw [if_pos e1] at h
      rcases h with h | h
      · exact .inr (.inr (.inl h))
      · exact .inr (.inr (.inl h))
    · rw [if_neg e1] at h
      exact .inr (.inr (.inr ⟨k, by omega, h⟩))
theorem p1_k {k : Int} (hk : 2 ≤ k) : isP1 (lowF 1 k, highF 1 k) ∧ isP1 (highF 1 k, lowF 1 k) := by
  have e : p1F k = (lowF 1 k, highF 1 k) := by unfold p1F; rw [if_neg (by omega), if_neg (by omega)]
  exact ⟨⟨k, by omega, .inl e.symm⟩, ⟨k, by omega, .inr (by rw [e]; rfl)⟩⟩
theorem p1_3 : isP1 (0, 1) ∧ isP1 (1, 0) ∧ isP1 (2, 2) := ⟨⟨0, by decide, .inl rfl⟩, ⟨0, by decide, .inr rfl⟩, ⟨1, by decide, .inl rfl⟩⟩
theorem low_k3 {k : Int} (hk : 2 ≤ k) : 3 ≤ lowF 1 k ∧ highF 1 k = lowF 1 k + k := by
  have := (gm_low (s := 1) (by decide)).le (show (0 : Int) ≤ 2 by decide) hk
  have h2 := low12.2.2.1
  exact ⟨by omega, by unfold highF; omega⟩
theorem p1_stay0 {p q : ZZ} (hp : p = (0, 1) ∨ p = (2, 2) ∨ ∃ k, 2 ≤ k ∧ p = (lowF 1 k, highF 1 k)) (q0 : 0 ≤ q.1) (q1 : 0 ≤ q.2) (hl : leadsF 1 p q = true) : ¬ isP1 q := by
  intro hq
  have l := leads_iff.mp hl
  obtain ⟨x, y⟩ := q
  have q0 : 0 ≤ x := q0
  have q1 : 0 ≤ y := q1
  have eq : ∀ {u v : Int}, (x, y) = ((u, v) : ZZ) → x = u ∧ y = v := fun e => ⟨congrArg Prod.fst e, congrArg Prod.snd e⟩
  rcases hp with rfl | rfl | ⟨k, hk, rfl⟩
  · have l : x ≤ 0 ∧ y ≤ 1 ∧ (x < 0 ∨ y < 1) ∧ _ := l
    rcases p1_cases hq with e | e | e | ⟨j, hj, e | e⟩
    · have := eq e; omega
    · have := eq e; omega
    · have := eq e; omega
    · have := eq e; have := low_k3 hj; omega
    · have := eq e; have := low_k3 hj; omega
  · have l : x ≤ 2 ∧ y ≤ 2 ∧ (x < 2 ∨ y < 2) ∧ (2 = x ∨ 2 = y ∨ (2 - x - (2 - y) < 1 ∧ 2 - y - (2 - x) < 1)) := l
    rcases p1_cases hq with e | e | e | ⟨j, hj, e | e⟩
    · have := eq e; omega
    · have := eq e; omega
    · have := eq e; omega
    · have := eq e; have := low_k3 hj; omega
    · have := eq e; have := low_k3 hj; omega
  · have k3 := low_k3 hk
    have l' : x ≤ lowF 1 k ∧ y ≤ highF 1 k ∧ (x < lowF 1 k ∨ y < highF 1 k) ∧ (lowF 1 k = x ∨ highF 1 k = y ∨ (lowF 1 k - x - (highF 1 k - y) < 1 ∧ highF 1 k - y - (lowF 1 k - x) < 1)) := l
    rcases p1_cases hq with e | e | e | ⟨j, hj, e⟩
    · have := eq e; omega
    · have := eq e; omega
    · have := eq e; omega
    · refine (gm_low (s := 1) (by decide)).stay0 (by decide) (Int.le_refl 0) (show 0 ≤ k by omega) hl ⟨j, by omega, ?_⟩
      rcases e with e | e
      · exact .inl (eq e)
      · exact .inr (eq e)
theorem p1_go0 {x y : Int} (h0 : 0 ≤ x) (h1 : x ≤ y) (hn : ¬ isP1 (x, y)) (hz : x + y ≠ 0) : ∃ q : ZZ, 0 ≤ q.1 ∧ 0 ≤ q.2 ∧ leadsF 1 (x, y) q = true ∧ isP1 q := by
  have mk : ∀ u v : Int, 0 ≤ u → 0 ≤ v → isP1 (u, v) → (u ≤ x ∧ v ≤ y ∧ (u < x ∨ v < y) ∧ (x = u ∨ y = v ∨ (x - u - (y - v) < 1 ∧ y - v - (x - u) < 1))) → ∃ q : ZZ, 0 ≤ q.1 ∧ 0 ≤ q.2 ∧ leadsF 1 (x, y) q = true ∧ isP1 q :=
    fun u v hu hv hp hl => ⟨(u, v), hu, hv, leads_iff.mpr hl, hp⟩
  have G := gm_low (s := 1) (by decide)
  by_cases c0 : x = 0
  · by_cases cy : y = 1
    · exact absurd (by rw [c0, cy]; exact p1_3.1) hn
    · exact mk 0 1 (by decide) (by decide) p1_3.1 (by omega)
  by_cases c1 : x = 1
  · exact mk 1 0 (by decide) (by decide) p1_3.2.1 (by omega)
  by_cases c2 : x = 2
  · by_cases cy : y = 2
    · exact absurd (by rw [c2, cy]; exact p1_3.2.2) hn
    · exact mk 2 2 (by decide) (by decide) p1_3.2.2 (by omega)
  have x3 : 3 ≤ x := by omega
  obtain ⟨k, hk, hx⟩ := G.cov x h0
  have k2 : 2 ≤ k := by
    rcases ilt_or_ge k 2 with z | z
    · exfalso
      have : k = 0 ∨ k = 1 := by omega
      have l12 := low12
      have lz := low_zero (s := 1) (by decide)
      have hz0 := high_zero (s := 1) (by decide)
      rcases this with e | e
      · rw [e] at hx; omega
      · rw [e] at hx; omega
    · exact z
  have k3 := low_k3 k2
  rcases hx with hx | hx
  · rcases Int.lt_trichotomy y (highF 1 k) with c | c | c
    · by_cases d2 : 2 ≤ y - x
      · have j3 := low_k3 d2
        have := G.lt (show 0 ≤ y - x by omega) (show y - x < k by omega)
        exact mk (lowF 1 (y - x)) (highF 1 (y - x)) (by omega) (by omega) (p1_k d2).1 (by omega)
      · by_cases d1 : y - x = 1
        · exact mk 0 1 (by decide) (by decide) p1_3.1 (by omega)
        · exact mk 2 2 (by decide) (by decide) p1_3.2.2 (by omega)
    · exact absurd (by rw [hx, c]; exact (p1_k k2).1) hn
    · exact mk (lowF 1 k) (highF 1 k) (by omega) (by omega) (p1_k k2).1 (by omega)
  · exact mk (highF 1 k) (lowF 1 k) (by omega) (by omega) (p1_k k2).2 (by omega)
theorem lost_one {p : ZZ} (g1 : 0 ≤ p.1) (g2 : 0 ≤ p.2) : lostF 1 true p = true ↔ isP1 p := by
  refine lost_is (fun p q hp hq => ?_) (fun p a b hn hz => ?_) (fun _ p hp => ?_) g1 g2
  · obtain ⟨q1, q2, q3⟩ := mem_led.mp hq
    rcases p1_cases hp with e | e | e | ⟨k, hk, e | e⟩
    · exact p1_stay0 (.inl e) q1 q2 q3
    · exact fun z => p1_stay0 (p := sw p) (q := sw q) (.inl (by rw [e]; rfl)) q2 q1 (by rw [leads_sw]; exact q3) (isP1_sw.mpr z)
    · exact p1_stay0 (.inr (.inl e)) q1 q2 q3
    · exact p1_stay0 (.inr (.inr ⟨k, hk, e⟩)) q1 q2 q3
    · exact fun z => p1_stay0 (p := sw p) (q := sw q) (.inr (.inr ⟨k, hk, by rw [e]; rfl⟩)) q2 q1 (by rw [leads_sw]; exact q3) (isP1_sw.mpr z)
  · by_cases c : p.1 ≤ p.2
    · obtain ⟨q, q1, q2, q3, q4⟩ := p1_go0 (x := p.1) (y := p.2) a c hn (fun e => hz ⟨rfl, e⟩)
      exact ⟨q, mem_led.mpr ⟨q1, q2, q3⟩, q4⟩
    · obtain ⟨q, q1, q2, q3, q4⟩ := p1_go0 (x := p.2) (y := p.1) b (by omega) (fun z => hn (isP1_sw.mp z)) (fun e => hz ⟨rfl, by omega⟩)
      exact ⟨sw q, mem_led.mpr ⟨q2, q1, by rw [← leads_sw, sw_sw]; exact q3⟩, isP1_sw.mpr q4⟩
  · rcases p1_cases hp with e | e | e | ⟨k, hk, e | e⟩
    · rw [e]; decide
    · rw [e]; decide
    · rw [e]; decide
    · have := low_k3 hk; rw [e]; show lowF 1 k + highF 1 k ≠ 0; omega
    · have := low_k3 hk; rw [e]; show highF 1 k + lowF 1 k ≠ 0; omega
end DL

set_option Elab.async false
set_option linter.all false
set_option maxRecDepth 100000
set_option maxHeartbeats 4000000
/-! DLX: count of a list of ints; pairs of either play in lists. -/
namespace DL
open PySem PySem.W L2 PySem.Spec PyProof.Rows
section
variable {K : PySem.W.Frag} {s : Bool} {ρ : En} {ω : Ow} {to te : TE}
theorem ev_countL {ns : List Int} {k : Int} (h1 : Ev K s to ρ ω (.lst (ns.map D.int))) (h2 : Ev K s te ρ ω (.int k)) : Ev K s (tBM K "list" (rCntI K) to (tCons te tNil)) ρ ω (.int ((ns.count k : Nat) : Int)) := fun M O σ H r Q q =>
  h1 M O σ H r _ fun v1 H1 s1 r1 => by
    cases r1 with
    | lst ha rs =>
      refine ⟨.inl ⟨rfl, _, .inl (.inl (of_hid ha).2)⟩, h2 M O σ H1 (r.mono s1) _ fun v2 H2 s2 r2 => ?_⟩
      cases r2
      have e := rs.ints
      subst e
      exact ⟨_, ns, k, rfl, rfl, .inl (.inl (s2 _ _ (of_hid ha).2)), q _ _ (s1.trans s2) (.int _)⟩
end
/-! ### pairs of either play -/
def aG (s m : Int) : Int → Int := if m = 0 then lowF s else oLow s
def bG (s m : Int) : Int → Int := if m = 0 then highF s else oHigh s
def gOk (s m : Int) : Prop := (m = 0 ∧ 1 ≤ s) ∨ (m = 1 ∧ 2 ≤ s)
theorem gm_g {s m : Int} (h : gOk s m) : Gm s m (aG s m) (bG s m) := by
  unfold aG bG
  rcases h with ⟨rfl, h⟩ | ⟨rfl, h⟩
  · rw [if_pos rfl, if_pos rfl]; exact gm_low h
  · rw [if_neg (by decide), if_neg (by decide)]; exact gm_olow h
def gP (s m : Int) (k : Nat) : List ZZ := (List.range k).map fun (i : Nat) => (aG s m (i : Int), bG s m (i : Int))
theorem gP_succ {s m : Int} {k : Nat} : gP s m (k + 1) = gP s m k ++ [(aG s m (k : Int), bG s m (k : Int))] := by
  unfold gP
  rw [List.range_succ, List.map_append]
  rfl
theorem gP_len {s m : Int} {k : Nat} : (gP s m k).length = k := by unfold gP; rw [List.length_map, List.length_range]
/-- the pairs of play the other way -/
def oP (s : Int) (k : Nat) : List ZZ := if s = 1 then (List.range k).map (fun (i : Nat) => p1F (i : Int)) else gP s 1 k
theorem oP_len {s : Int} {k : Nat} : (oP s k).length = k := by
  unfold oP
  split
  · rw [List.length_map, List.length_range]
  · exact gP_len
theorem oP_one {k : Nat} : (([((0 : Int), (1 : Int)), (2, 2)] : List ZZ) ++ (gP 1 0 k).drop 2).take k = oP 1 k := by
  unfold oP
  rw [if_pos rfl]
  refine List.ext_getElem? fun i => ?_
  rw [List.getElem?_take]
  by_cases hk : i < k
  · rw [if_pos hk, List.getElem?_map, List.getElem?_range hk]
    show _ = some (p1F (i : Int))
    match i, hk with
    | 0, _ => rfl
    | 1, _ => rfl
    | i + 2, hk =>
      show ((gP 1 0 k).drop 2)[i]? = _
      rw [List.getElem?_drop]
      unfold gP
      rw [List.getElem?_map, List.getElem?_range (by omega)]
      unfold p1F
      rw [if_neg (by omega), if_neg (by omega)]
      unfold aG bG
      rw [if_pos rfl, if_pos rfl, show 2 + i = i + 2 by omega]
      rfl
  · rw [if_neg hk, List.getElem?_eq_none (by rw [List.length_map, List.length_range]; omega)]
theorem srt_incr {f : Nat → ZZ} (h : ∀ i j : Nat, i < j → (f i).1 < (f j).1) : ∀ N : Nat, SrtO.Srtd plt ((List.range N).map f) ∧ ((List.range N).map f).Nodup
  | 0 => ⟨List.Pairwise.nil, List.Pairwise.nil⟩
  | N + 1 => by
    obtain ⟨h1, h2⟩ := srt_incr h N
    rw [List.range_succ, List.map_append]
    refine ⟨SrtO.srtd_app.mpr ⟨h1, List.pairwise_singleton _ _, fun a ha b hb => ?_⟩, List.nodup_append.mpr ⟨h2, by simp, fun a ha b hb e => ?_⟩⟩
    · obtain ⟨i, hi, rfl⟩ := List.mem_map.mp ha
      have e2 : b = f N := by simpa using hb
      have := h i N (List.mem_range.mp hi)
      rw [e2]
      exact plt_no.mpr (.inl this)
    · obtain ⟨i, hi, rfl⟩ := List.mem_map.mp ha
      have e2 : b = f N := by simpa using hb
      have := h i N (List.mem_range.mp hi)
      rw [e, e2] at this
      omega
/-- the lost pairs below a bound are the pairs below it -/
theorem lost_filter {s : Int} {t : Bool} {f : Nat → ZZ} (h1 : ∀ i j : Nat, i < j → (f i).1 < (f j).1) (h2 : ∀ i : Nat, 0 ≤ (f i).1 ∧ (f i).1 ≤ (f i).2 ∧ (i : Int) ≤ (f i).2) (h3 : ∀ p : ZZ, 0 ≤ p.1 → p.1 ≤ p.2 → (lostF s t p = true ↔ ∃ i : Nat, p = f i)) {N M : Nat} (hM : N < M) :
    ((List.range M).map f).filter (fun p => decide (p.2 ≤ (N : Int))) = lostP s t (N + 1) := by
  obtain ⟨s1, n1⟩ := srt_incr h1 M
  refine srt_uniq (s1.filter _) (srt_lostP s t (N + 1)) (perm_mem (n1.filter _) (nodup_lostP s t (N + 1)) fun p => ?_)
  rw [List.mem_filter, List.mem_map, mem_lostP, decide_eq_true_iff]
  constructor
  · rintro ⟨⟨i, hi, rfl⟩, e⟩
    obtain ⟨a, b, c⟩ := h2 i
    exact ⟨a, b, by omega, (h3 _ a b).mpr ⟨i, rfl⟩⟩
  · rintro ⟨a, b, c, d⟩
    obtain ⟨i, rfl⟩ := (h3 _ a b).mp d
    obtain ⟨_, _, g⟩ := h2 i
    exact ⟨⟨i, List.mem_range.mpr (by omega), rfl⟩, by omega⟩
theorem isP_fst {s m : Int} {a b : Int → Int} (G : Gm s m a b) (hs : 1 ≤ s) (hm : 0 ≤ m) {p : ZZ} (h : p.1 ≤ p.2) : isP a b p ↔ ∃ i : Nat, p = (a i, b i) := by
  constructor
  · rintro ⟨k, hk, ⟨e1, e2⟩ | ⟨e1, e2⟩⟩
    · exact ⟨k.toNat, by rw [show ((k.toNat : Nat) : Int) = k by omega]; exact Prod.ext e1 e2⟩
    · have := G.ab (show 0 ≤ s by omega) hm hk
      exact ⟨k.toNat, by rw [show ((k.toNat : Nat) : Int) = k by omega]; exact Prod.ext (by show p.1 = a k; omega) (by show p.2 = b k; omega)⟩
  · rintro ⟨i, rfl⟩
    exact ⟨i, by omega, .inl ⟨rfl, rfl⟩⟩
theorem filter_g {s m : Int} {t : Bool} (h : gOk s m) (hl : ∀ {p : ZZ}, 0 ≤ p.1 → 0 ≤ p.2 → (lostF s t p = true ↔ isP (aG s m) (bG s m) p)) {N M : Nat} (hM : N < M) : (gP s m M).filter (fun p => decide (p.2 ≤ (N : Int))) = lostP s t (N + 1) := by
  have G := gm_g h
  have hs : 1 ≤ s := by rcases h with h | h <;> omega
  have hm : 0 ≤ m := by rcases h with h | h <;> omega
  refine lost_filter (fun i j hij => G.lt (by omega) (by omega)) (fun i => ?_) (fun p h0 h1 => ?_) hM
  · have a1 := G.nn i (by omega)
    have a2 := G.ab (show 0 ≤ s by omega) hm (show (0 : Int) ≤ i by omega)
    have a3 := G.ge (show (0 : Int) ≤ i by omega)
    exact ⟨a1, a2, by show (i : Int) ≤ bG s m i; omega⟩
  · rw [hl h0 (by omega)]
    exact isP_fst G hs hm h1
theorem filter0 {s : Int} (hs : 1 ≤ s) {N M : Nat} (hM : N < M) : (gP s 0 M).filter (fun p => decide (p.2 ≤ (N : Int))) = lostP s false (N + 1) :=
  filter_g (.inl ⟨rfl, hs⟩) (fun g1 g2 => by unfold aG bG; rw [if_pos rfl, if_pos rfl]; exact lost_low hs g1 g2) hM
theorem p1_incr {i j : Nat} (h : i < j) : (p1F i).1 < (p1F j).1 := by
  unfold p1F
  have l := fun (n : Nat) (hn : 2 ≤ n) => low_k3 (k := (n : Int)) (by omega)
  by_cases j0 : (j : Int) = 0
  · omega
  rw [if_neg j0]
  by_cases i0 : (i : Int) = 0
  · rw [if_pos i0]
    by_cases j1 : (j : Int) = 1
    · rw [if_pos j1]; decide
    · rw [if_neg j1]; have := l j (by omega); show (0 : Int) < lowF 1 j; omega
  rw [if_neg i0]
  have j1 : ¬ (j : Int) = 1 := by omega
  rw [if_neg j1]
  by_cases i1 : (i : Int) = 1
  · rw [if_pos i1]; have := l j (by omega); show (2 : Int) < lowF 1 j; omega
  · rw [if_neg i1]
    exact (gm_low (s := 1) (by decide)).lt (by omega) (by omega)
theorem filter1 {s : Int} (hs : 1 ≤ s) {N M : Nat} (hM : N < M) : (oP s M).filter (fun p => decide (p.2 ≤ (N : Int))) = lostP s true (N + 1) := by
  unfold oP
  by_cases e : s = 1
  · subst e
    rw [if_pos rfl]
    refine lost_filter (fun i j h => p1_incr h) (fun i => ?_) (fun p h0 h1 => ?_) hM
    · unfold p1F
      by_cases i0 : (i : Int) = 0
      · rw [if_pos i0]; exact ⟨by decide, by decide, by show (i : Int) ≤ 1; omega⟩
      rw [if_neg i0]
      by_cases i1 : (i : Int) = 1
      · rw [if_pos i1]; exact ⟨by decide, by decide, by show (i : Int) ≤ 2; omega⟩
      rw [if_neg i1]
      have := low_k3 (k := (i : Int)) (by omega)
      exact ⟨by show (0 : Int) ≤ lowF 1 i; omega, by show lowF 1 i ≤ highF 1 i; omega, by show (i : Int) ≤ highF 1 i; omega⟩
    · rw [lost_one h0 (by omega)]
      constructor
      · rintro ⟨k, hk, h | h⟩
        · exact ⟨k.toNat, by rw [show ((k.toNat : Nat) : Int) = k by omega]; exact h⟩
        · refine ⟨k.toNat, ?_⟩
          rw [show ((k.toNat : Nat) : Int) = k by omega]
          have le : (p1F k).1 ≤ (p1F k).2 := by
            unfold p1F
            by_cases i0 : k = 0
            · rw [if_pos i0]; decide
            rw [if_neg i0]
            by_cases i1 : k = 1
            · rw [if_pos i1]; decide
            rw [if_neg i1]
            have := low_k3 (k := k) (by omega)
            show lowF 1 k ≤ highF 1 k
            omega
          have e1 : p.1 = (p1F k).2 := congrArg Prod.fst h
          have e2 : p.2 = (p1F k).1 := congrArg Prod.snd h
          exact Prod.ext (by omega) (by omega)
      · rintro ⟨i, rfl⟩
        exact ⟨i, by omega, .inl rfl⟩
  · rw [if_neg e]
    exact filter_g (.inr ⟨rfl, by omega⟩) (fun g1 g2 => by unfold aG bG; rw [if_neg (by decide), if_neg (by decide)]; exact lost_olow (by omega) g1 g2) hM
/-! ### each number once -/
def flG (s m : Int) (k : Nat) : List Int := (gP s m k).flatMap fun p => [p.1, p.2]
theorem flG_succ {s m : Int} {k : Nat} : flG s m (k + 1) = flG s m k ++ [aG s m (k : Int), bG s m (k : Int)] := by
  unfold flG
  rw [gP_succ, List.flatMap_append]
  simp
theorem count_g {s m : Int} (h : gOk s m) {x : Int} (hx : 1 ≤ x) : ∀ k : Nat, (flG s m k).count x = if decP (toldG (aG s m) (bG s m) k x) = true then 1 else 0
  | 0 => by
    rw [if_neg fun z => ?_]
    · rfl
    · obtain ⟨i, hi, _⟩ := decP_iff.mp z
      omega
  | k + 1 => by
    have G := gm_g h
    have hs : 1 ≤ s := by rcases h with h | h <;> omega
    have hm : 0 ≤ m := by rcases h with h | h <;> omega
    have G0 : m = 0 → aG s m 0 = 0 := fun z => by
      unfold aG
      rw [if_pos z, low_zero hs]
    rw [flG_succ, List.count_append, count_g h hx k, List.count_cons, List.count_cons, List.count_nil, Nat.zero_add]
    by_cases e1 : aG s m k = x
    · have n1 : ¬ toldG (aG s m) (bG s m) k x := by rw [← e1]; exact G.fresh k
      have n2 : ¬ bG s m k = x := fun z => by
        obtain ⟨_, k0, m0⟩ := G.sep k k (by omega) (by omega) (e1.trans z.symm)
        have := G0 m0
        rw [show (k : Int) = 0 from k0] at e1
        omega
      rw [if_neg fun z => n1 (decP_iff.mp z), if_pos (beq_iff_eq.mpr e1), if_neg fun z => n2 (beq_iff_eq.mp z), if_pos (decP_iff.mpr ⟨k, Nat.lt_succ_self k, .inl e1.symm⟩)]
    · rw [if_neg (c := (aG s m k == x) = true) fun z => e1 (beq_iff_eq.mp z)]
      by_cases e2 : bG s m k = x
      · have n1 : ¬ toldG (aG s m) (bG s m) k x := by
          rintro ⟨i, hi, z | z⟩
          · obtain ⟨i0, k0, m0⟩ := G.sep i k (by omega) (by omega) (by omega)
            omega
          · have := G.blt (show 0 ≤ s by omega) (show (0 : Int) ≤ i by omega) (show (i : Int) < k by omega)
            omega
        rw [if_neg fun z => n1 (decP_iff.mp z), if_pos (beq_iff_eq.mpr e2), if_pos (decP_iff.mpr ⟨k, Nat.lt_succ_self k, .inr e2.symm⟩)]
      · rw [if_neg (c := (bG s m k == x) = true) fun z => e2 (beq_iff_eq.mp z)]
        have e : toldG (aG s m) (bG s m) (k + 1) x ↔ toldG (aG s m) (bG s m) k x := by
          constructor
          · rintro ⟨i, hi, z⟩
            by_cases ik : i = k
            · subst ik
              rcases z with z | z
              · exact absurd z.symm e1
              · exact absurd z.symm e2
            · exact ⟨i, by omega, z⟩
          · rintro ⟨i, hi, z⟩
            exact ⟨i, by omega, z⟩
        by_cases z : toldG (aG s m) (bG s m) k x
        · rw [if_pos (decP_iff.mpr z), if_pos (decP_iff.mpr (e.mpr z))]
        · rw [if_neg fun y => z (decP_iff.mp y), if_neg fun y => z (e.mp (decP_iff.mp y))]
theorem count_one {s m : Int} (h : gOk s m) {x : Int} {k : Nat} (hx : 1 ≤ x) (hk : x ≤ aG s m k) : (flG s m (k + 1)).count x = 1 := by
  have G := gm_g h
  have hs : 1 ≤ s := by rcases h with h | h <;> omega
  have hm : 0 ≤ m := by rcases h with h | h <;> omega
  rw [count_g h hx, if_pos (decP_iff.mpr ?_)]
  by_cases e : x = aG s m k
  · exact ⟨k, Nat.lt_succ_self k, .inl e⟩
  · obtain ⟨i, hi, z⟩ := G.below (show 0 ≤ s by omega) hm (k := k) (show 0 ≤ x by omega) (by omega)
    exact ⟨i, by omega, z⟩
end DL

set_option Elab.async false
set_option linter.all false
set_option maxRecDepth 100000
set_option maxHeartbeats 4000000
/-! M9: lost places by floors and by last digits; a list so often. -/
namespace DL
open PySem PySem.W L2
section
variable {s : Int}
theorem lost_mm {t : Bool} (p : ZZ) : lostF s t p = lostF s t (min p.1 p.2, max p.1 p.2) := by
  by_cases h : p.1 ≤ p.2
  · rw [show min p.1 p.2 = p.1 by omega, show max p.1 p.2 = p.2 by omega]
  · rw [show min p.1 p.2 = p.2 by omega, show max p.1 p.2 = p.1 by omega]
    exact (lost_swap p).symm
theorem isP_le (hs : 1 ≤ s) {i j : Int} (h0 : 0 ≤ i) (h1 : i ≤ j) : isP (lowF s) (highF s) (i, j) ↔ ∃ k, 0 ≤ k ∧ i = lowF s k ∧ j = highF s k := by
  constructor
  · rintro ⟨k, hk, ⟨e1, e2⟩ | ⟨e1, e2⟩⟩
    · exact ⟨k, hk, e1, e2⟩
    · have := (gm_low hs).ab (show 0 ≤ s by omega) (Int.le_refl 0) hk
      have e1 : i = highF s k := e1
      have e2 : j = lowF s k := e2
      exact ⟨k, hk, by omega, by omega⟩
  · rintro ⟨k, hk, e1, e2⟩
    exact ⟨k, hk, .inl ⟨e1, e2⟩⟩
theorem lost_le (hs : 1 ≤ s) {i j : Int} (h0 : 0 ≤ i) (h1 : i ≤ j) : lostF s false (i, j) = true ↔ ∃ k, 0 ≤ k ∧ i = lowF s k ∧ j = highF s k := by
  rw [lost_low hs (show 0 ≤ (i, j).1 from h0) (show 0 ≤ (i, j).2 from Int.le_trans h0 h1)]
  exact isP_le hs h0 h1
theorem lost_floor (hs : 1 ≤ s) {i j : Int} (h0 : 0 ≤ i) (h1 : 0 ≤ j) : (decide ((max i j - min i j) % s = 0) && decide (lowF s ((max i j - min i j) / s) = min i j)) = lostF s false (i, j) := by
  rw [lost_mm, Bool.eq_iff_iff, Bool.and_eq_true, decide_eq_true_iff, decide_eq_true_iff]
  show _ ↔ lostF s false (min i j, max i j) = true
  rw [lost_le hs (show 0 ≤ min i j by omega) (by omega)]
  constructor
  · rintro ⟨a, b⟩
    refine ⟨_, Int.ediv_nonneg (by omega) (by omega), b.symm, ?_⟩
    unfold highF
    rw [b, Int.mul_ediv_cancel' (Int.dvd_of_emod_eq_zero a)]
    omega
  · rintro ⟨k, hk, e1, e2⟩
    have e : max i j - min i j = s * k := by rw [e1, e2]; unfold highF; omega
    rw [e, Int.mul_emod_right, Int.mul_ediv_cancel_left _ (by omega)]
    exact ⟨rfl, e1.symm⟩
theorem lost_zero (hs : 1 ≤ s) {j : Int} (h1 : 0 ≤ j) : lostF s false (0, j) = decide (j = 0) := by
  rw [Bool.eq_iff_iff, lost_le hs (Int.le_refl 0) h1, decide_eq_true_iff]
  constructor
  · rintro ⟨k, hk, e1, e2⟩
    have := low_ge hs hk
    have k0 : k = 0 := by omega
    rw [k0, high_zero hs] at e2
    exact e2
  · intro e
    exact ⟨0, Int.le_refl 0, (low_zero hs).symm, by rw [high_zero hs]; exact e⟩
theorem lost_dig (hs : 1 ≤ s) {i j : Int} (h0 : 1 ≤ i) (h1 : i ≤ j) : (decide (((nz (wdR s i) : Nat) : Int) % 2 = 0) && decide (shF s i = j)) = lostF s false (i, j) := by
  rw [Bool.eq_iff_iff, lost_le hs (by omega) h1, Bool.and_eq_true, decide_eq_true_iff, decide_eq_true_iff]
  have a := nz_low hs (wd_ok hs (show 0 ≤ i by omega)) (wd_ne hs h0)
  rw [wd_val hs (show 0 ≤ i by omega)] at a
  constructor
  · rintro ⟨x, y⟩
    have z := a.mp (by omega)
    exact ⟨cntF s i, cnt_nn hs (by omega), z.symm, by rw [← y]; exact low_sh z⟩
  · rintro ⟨k, hk, e1, e2⟩
    have c : cntF s i = k := by rw [e1]; exact low_num hs hk
    have z : lowF s (cntF s i) = i := by rw [c]; exact e1.symm
    exact ⟨by have := a.mpr z; omega, by rw [low_sh z, c]; exact e2.symm⟩
end
section
variable {K : PySem.W.Frag}
/-- xs * k, a list -/
theorem rd_repL {ds : List D} {k : Int} (h0 : 0 ≤ k) (h1 : k ≤ 1000) (h : ds.length ≤ 1000) : RD K rMulX (.lst ds) (.int k) (.lst (List.replicate k.toNat ds).flatten) := .r (.r fun X H v1 v2 t r1 r2 Q q => by
  cases r2
  cases r1 with
  | lst ha rs =>
    refine ⟨_, _, _, rfl, rfl, (of_hid ha).2, by omega, by omega, ?_, fun p hp => ?_⟩
    · rw [rs.length]
      have := Nat.mul_le_mul h (show k.toNat ≤ 1000 by omega)
      exact Nat.le_trans this (by decide)
    · exact q _ _ (same_upd hp) (.lst (hid_of (not_mem_of_new t hp) upd_same) ((rs.rep k.toNat).mono (hid_same (same_upd hp)))))
end
theorem pD_ok {n : Nat} (p : ZZ) : okD (n + 1) (pD p) := ok_tup ⟨ok_int, ok_int, trivial⟩
theorem ok_pairs {n : Nat} {ps : List ZZ} (h : ps.length ≤ 1000000) : okD (n + 2) (.lst (ps.map pD)) := ⟨by rw [List.length_map]; exact h, fun x hx => by
  obtain ⟨p, _, rfl⟩ := List.mem_map.mp hx
  exact pD_ok p⟩
theorem py_pairs (ps : List ZZ) : isPy (.lst (ps.map pD)) = true := by
  rw [isPy]
  exact arePy_of fun x hx => by
    obtain ⟨p, _, rfl⟩ := List.mem_map.mp hx
    rfl
theorem pairs_free (ps : List ZZ) : dfree (.lst (ps.map pD)) = true := by
  unfold dfree
  exact dfrees_map fun x => rfl
theorem ints_free (ns : List Int) : dfree (.lst (ns.map D.int)) = true := by
  unfold dfree
  exact dfrees_map fun x => rfl
def FreeO : Option Ent → Prop
  | some (.sh d) => dfree d = true
  | _ => True
theorem AllE.cons {y : Option Ent} {r : En} (h : FreeO y) (hr : AllE r) : AllE (y :: r) := match y, h with
  | none, _ => hr
  | some (.ow _), _ => hr
  | some (.sh _), h => ⟨h, hr⟩
end DL

set_option Elab.async false
set_option linter.all false
set_option maxRecDepth 100000
set_option maxHeartbeats 4000000
/-! DLY: written dicts with pairs as keys, d.get(k, x); sorted of such a dict. -/
namespace DL
open PySem PySem.W L2 PySem.Spec PyProof.Rows
/-! ### sorted(d), d's keys pairs -/
section
variable {prog : Program} {w : World}
theorem walk_raw {A : Around} (hh : A.handled = none) {I d : Addr} (hne : d ≠ I) {o : Obj} {es : Array DictEntry} {ep n : Nat} (hdt : o.data = .dict es ep) (hsz : es.size = n) :
    PySem.Walks prog w A I [I, d] [I] n (fun i v => ∃ en, es[i]? = some en ∧ v = en.key) (fun i h => h.IsKeyIter I d i n ep ∧ h.get? d = some o) where
  sub := fun b hb => by simp at hb; simp [hb]
  frame := fun _ _ _ st hk => ⟨st.1.at fun o e => hk I (by simp) o e, hk d (by simp) _ st.2⟩
  item := fun i s Q E hi st hQ => by
    have hlt : i < es.size := by omega
    have hen : es[i]? = some es[i] := by simp [hlt]
    refine next_key_item st.1 st.2 hdt hsz hen fun h' st' sb => ?_
    exact hQ _ h' s.toks ⟨_, hen, rfl⟩ ⟨st', (sb.2 d hne).trans st.2⟩ fun b o hb e => (sb.2 b fun z => hb (by simp [z])).trans e
  done := fun s Q E st hQ => next_key_end hh st.1 st.2 hdt hsz (Nat.le_refl _) fun h' eb => hQ h' s.toks fun b o hb e => eb b o (fun z => hb (by simp [z])) e
  self := fun _ _ _ _ st hQ => wpAny_pyIter_keyiter st.1 hQ
theorem kdl_raw {d : Addr} {o : Obj} {es : Array DictEntry} {ep n : Nat} (lo : (d == sysModules) = false) (hx : o.ExactDict) (hdt : o.data = .dict es ep) (hsz : es.size = n) :
    KdlSrc prog w "dict" d d n (fun i v => ∃ en, es[i]? = some en ∧ v = en.key) (fun h => h.get? d = some o) where
  type := fun _ e => ⟨o, e, hx.1⟩
  there := fun _ e => ⟨Heap.lt_size e, Heap.lt_size e⟩
  keep := fun _ _ e k => k d (.inl rfl) _ e
  notList := by decide
  notTuple := by decide
  hint := fun _ _ s _ e hq => kdl_hint_dict ⟨o, e, hx.1⟩ hq
  iter := fun _ s hh e => ⟨_, _, (fun _ _ hq => iter_keys lo e hx hdt hq), walk_raw hh (Nat.ne_of_lt (Heap.lt_size e)) hdt hsz, ⟨⟨_, Heap.get?_push_size _ rfl, rfl, by rw [hsz]; rfl⟩, Heap.get?_push_of_some _ e⟩⟩
end
def pkV (k : List Key) : ZZ := match k with
  | [.inl i, .inl j] => (i, j)
  | _ => (0, 0)
/-- sorted(d) of a dict whose keys are pairs: their tuples, sorted -/
def rSortedDT : List V → Hp → VK → Prop := fun vs H Q => ∃ (a : Addr) (kvs : List (List Key × V)), vs = [V.ref a] ∧ H a = some (.dT kvs) ∧ (∀ x ∈ kvs, ∃ i j : Int, x.1 = [.inl i, .inl j]) ∧
  ∀ (ys : List V) (k : V → ZZ) (p : Addr), SrtO.Srtd (ltP k) ys → (ys.map k).Perm (kvs.map fun x => pkV x.1) → (∀ y ∈ ys, ∃ t, y = V.ref t ∧ H t = some (.tup [.int (k y).1, .int (k y).2])) → H p = none → Q (.ref p) (upd H p (.lst ys))
theorem pairs_back : ∀ {us : List Value}, (∀ u ∈ us, ∃ a, u = Value.ref a) → Vals (us.map backV) us
  | [], _ => .nil
  | u :: us, h => by
    obtain ⟨a, rfl⟩ := h u List.mem_cons_self
    exact .cons (show RelV (.ref a) (.ref a) from rfl) (pairs_back fun v hv => h v (List.mem_cons_of_mem _ hv))
theorem cr_sortedDT {X : Cx} (hcalm : X.calm = true) : CallR X (.builtin "sorted") rSortedDT := by
  intro pins s σ H xs us Q I r q
  obtain ⟨a, kvs, rfl, hd, hks, q⟩ := q
  obtain ⟨u, rfl, rx⟩ := vals1 r
  cases rx
  obtain ⟨z, lo, xs, pr, o, es, ep, ho, hx, hdt, he, _⟩ := I.hok a _ hd
  have l1 : es.size = xs.length := size_of_entries he
  have l2 : kvs.length = xs.length := Paired.length pr
  have hsz : es.size = kvs.length := by omega
  -- the entries: the keys' tuples
  have ent : ∀ (i : Nat) (en : DictEntry), es[i]? = some en → ∃ (k : List Key) (v : V) (t : Addr), kvs[i]? = some (k, v) ∧ en.key = .ref t ∧ H t = some (.tup (k.map kV)) := by
    intro i en hen
    have hi : i < kvs.length := by
      have := (Array.getElem?_eq_some_iff.mp hen).1
      omega
    obtain ⟨b, hb, e1, e2, _⟩ := paired_get pr (List.getElem?_eq_getElem hi)
    have q := entry_at he i
    rw [hb, hen] at q
    cases q
    exact ⟨kvs[i].1, kvs[i].2, b.2.1, List.getElem?_eq_getElem hi, rfl, e2⟩
  refine Calls.call_function_entry PyProof.Rows.kind_sorted PyProof.Rows.plain_sorted PyProof.Rows.entry_sorted (PyProof.Rows.args_sorted1 _) ?_
  unfold Builtin.«sorted»
  refine wpAny_bind (m := checkCount "sorted" 1 1 _) (wpAny_pure ?_)
  refine wpAny_bind (PySem.W.kdu_collect (A := X.A.in1) (kdl_raw (prog := X.prog) (w := X.w) lo hx hdt hsz) (I.ok.hd hcalm) ho z fun h' tk acc hk hacc => ?_)
  have hal : acc.toList.length = kvs.length := by rw [Array.length_toList, hacc.1]
  have I1 : Inv X pins σ H { s with heap := h', toks := tk } := I.kept hk
  -- what was collected
  have col : ∀ (j : Nat) (v : Value), acc.toList[j]? = some v → ∃ (t : Addr) (i1 i2 : Int) (y : V), v = .ref t ∧ H t = some (.tup [.int i1, .int i2]) ∧ kvs[j]? = some ([.inl i1, .inl i2], y) := by
    intro j v hv
    obtain ⟨en, h1, rfl⟩ := hacc.2 j v (by rw [← Array.getElem?_toList]; exact hv)
    obtain ⟨k, y, t, e1, e2, e3⟩ := ent j en h1
    obtain ⟨i1, i2, ek⟩ := hks _ (List.mem_of_getElem? e1)
    have ek : k = [.inl i1, .inl i2] := ek
    subst ek
    exact ⟨t, i1, i2, y, e2, e3, e1⟩
  have refs : ∀ v ∈ acc.toList, ∃ a, v = Value.ref a := fun v hv => by
    obtain ⟨j, hj⟩ := List.mem_iff_getElem?.mp hv
    obtain ⟨t, _, _, _, e, _⟩ := col j v hj
    exact ⟨t, e⟩
  have kp : ∀ v ∈ acc.toList, ∃ t, v = .ref t ∧ H t = some (.tup [.int (atV H (backV v)).1, .int (atV H (backV v)).2]) := fun v hv => by
    obtain ⟨j, hj⟩ := List.mem_iff_getElem?.mp hv
    obtain ⟨t, i1, i2, _, e, e2, _⟩ := col j v hj
    subst e
    refine ⟨t, rfl, ?_⟩
    have : atV H (backV (.ref t)) = (i1, i2) := by
      unfold backV atV
      simp only
      rw [e2]
    rw [this]
    exact e2
  have keys : acc.toList.map (fun v => atV H (backV v)) = kvs.map fun x => pkV x.1 := by
    refine List.ext_getElem? fun j => ?_
    rw [List.getElem?_map, List.getElem?_map]
    cases hj : acc.toList[j]? with
    | none =>
      have : kvs.length ≤ j := by rw [← hal]; exact List.getElem?_eq_none_iff.mp hj
      rw [List.getElem?_eq_none this]
      rfl
    | some v =>
      obtain ⟨t, i1, i2, y, e, e2, e3⟩ := col j v hj
      rw [e3]
      subst e
      show some (atV H (backV (.ref t))) = some (pkV [.inl i1, .inl i2])
      unfold backV atV
      simp only
      rw [e2]
      rfl
  refine wpAny_bind (wpAny_newList ?_ (by rw [hal]; exact z))
  have hoL : (h'.push (seqObj "list" acc.toList.toArray 0)).get? h'.objs.size = some (seqObj "list" acc.toList.toArray 0) := Heap.get?_push_size _ rfl
  show wpAny _ _ _ _ _ { s with heap := h'.push (seqObj "list" acc.toList.toArray 0), toks := tk }
  refine wpAny_bind (wpAny_holding (wpAny_call_entry PyProof.Rows.slot_list_sort ⟨_, hoL, rfl⟩ PyProof.Rows.entry_list_sort
    (SrtO.list_sort_ord (s := { s with heap := h'.push (seqObj "list" acc.toList.toArray 0), toks := tk }) (SrtO.swo_lex fun v => atV H (backV v)) hoL (by rw [hal]; exact z) (fun h2 => SrtO.pairs_sortableO (k := fun v => atV H (backV v)) (by omega) (fun v hv => ?_) fun o2 e2 => ?_) fun out g1 g2 => ⟨_, rfl, ?_⟩) (PyProof.Rows.args_list_sort _)))
  · obtain ⟨t, rfl, ht⟩ := kp v hv
    obtain ⟨_, its2, r2, o3, ho3, hc3, n3, hd3⟩ := I1.hok _ _ ht
    obtain ⟨u1, u2, rfl, ri, rj⟩ := vals2 r2
    obtain ⟨t1, rfl⟩ := ri
    obtain ⟨t2, rfl⟩ := rj
    exact ⟨t, o3, t1, t2, n3, rfl, Heap.get?_push_of_some _ ho3, hc3, hd3⟩
  · rw [hoL] at e2
    cases e2
    intro c
    exact absurd (Value.type.inj c) (by decide)
  · obtain ⟨e', he'⟩ := PyProof.Rows.sortedHeap_at (vs := acc.toList) (out := out.toArray) hoL
    have h3 : ∀ u ∈ out, ∃ a, u = Value.ref a := fun u hu => refs u (g2.perm.mem_iff.mp hu)
    have hlen : (out.map backV).length ≤ sizeLine := by
      rw [List.length_map, g2.perm.length_eq, hal]
      exact z
    have srt : SrtO.Srtd (ltP (atV H)) (out.map backV) := SrtO.srtd_map (lt := ltP (atV H)) (f := backV) g1
    have prm : ((out.map backV).map (atV H)).Perm (kvs.map fun x => pkV x.1) := by
      rw [← keys, List.map_map]
      exact g2.perm.map _
    refine wpAny_pure ⟨_, rfl, .ref h'.objs.size, upd H h'.objs.size (.lst (out.map backV)), I1.laid (t' := tk) (fun b u e => ?_) (Nat.le_refl _)
      (show ObjOk X.prog X.w _ _ _ (.lst (out.map backV)) from ⟨hlen, out, e', vals_back h3, he'⟩), rfl, q _ (atV H) _ srt prm (fun y hy => ?_) (I1.hok.fresh (Nat.le_refl _))⟩
    · have hb : b < h'.objs.size := Heap.lt_size e
      rw [PyProof.Rows.sortedHeap_old (Nat.ne_of_lt hb) (by rw [size_push']; exact Nat.lt_succ_of_lt hb)]
      exact Heap.get?_push_of_some _ e
    · obtain ⟨v, hv, rfl⟩ := List.mem_map.mp hy
      obtain ⟨t, e, ht⟩ := kp v (g2.perm.mem_iff.mp hv)
      exact ⟨t, by rw [e]; rfl, ht⟩
section
variable {K : PySem.W.Frag} {s : Bool} {ρ : En} {ω : Ow}
theorem pkV_pk (p : ZZ) : pkV (pk p) = p := rfl
/-- sorted(d), d the frame's own -/
theorem ev_sortDT {j k : Nat} {m : List (ZZ × D)} {qs : List ZZ} (e : ρ[j]? = some (some (.ow k))) (ew : ω[k]? = some (.dT (pT m))) (hp : qs.Perm (m.map (·.1))) (hs : SrtO.Srtd plt qs) : Ev K s (tCB rSortedDT (tCons (tVar j) tNil)) ρ ω (.lst (qs.map pD)) := Ev.weak fun M O σ H r Q q => by
  obtain ⟨a, kvs, h1, h2, h3, h4, h5⟩ := ev_ownT e ew M O σ H r
  refine ⟨.ref a, h2, a, kvs, rfl, h3, fun x hx => ?_, fun ys kk p g1 g2 g3 hn => ?_⟩
  · have hm : x.1 ∈ kvs.map (·.1) := List.mem_map.mpr ⟨x, hx, rfl⟩
    rw [h4] at hm
    unfold pT at hm
    rw [List.map_map] at hm
    obtain ⟨y, _, ey⟩ := List.mem_map.mp hm
    exact ⟨y.1.1, y.1.2, ey.symm⟩
  · have ek : (kvs.map fun x => pkV x.1) = m.map (·.1) := by
      have : kvs.map (fun x => pkV x.1) = (kvs.map (·.1)).map pkV := by rw [List.map_map]; rfl
      rw [this, h4]
      unfold pT
      rw [List.map_map, List.map_map]
      rfl
    rw [ek] at g2
    have es : SrtO.Srtd plt (ys.map kk) := SrtO.srtd_map (lt := plt) g1
    have eq : ys.map kk = qs := srt_uniq es hs (g2.trans hp.symm)
    refine q _ _ (same_upd hn) (.lst (hid_of (not_mem_of_new r.trkX hn) upd_same) ?_)
    rw [← eq]
    refine (Rps.ofPairs (H := hid (xo M O) H) fun y hy => ?_).mono (hid_same (same_upd hn))
    obtain ⟨t, e1, e2⟩ := g3 y hy
    exact ⟨t, e1, hid_of (fun z => (r.trkX t z).2 _ e2) e2⟩
end
end DL

set_option Elab.async false
set_option linter.all false
set_option maxRecDepth 100000
set_option maxHeartbeats 4000000
/-! DLZ: written dicts whose keys are pairs, and d.get(k, x). -/
namespace DL
open PySem PySem.W L2 PySem.Spec PyProof.Rows
theorem hu4 {A : Around} {k : Nat} (hr : Room k A) : A.units + 4 < cLine := by have := hr.un; omega
def mergeT (acc : List (List Key × V)) (kvs : List (List Key × Addr × V)) : List (List Key × V) := kvs.foldl (fun acc kv => L2.putK acc kv.1 kv.2.2) acc
theorem mergeT_len : ∀ (kvs : List (List Key × Addr × V)) (acc : List (List Key × V)), (mergeT acc kvs).length ≤ acc.length + kvs.length
  | [], acc => by show acc.length ≤ acc.length + 0; omega
  | p :: r, acc => by
    have h1 := mergeT_len r (L2.putK acc p.1 p.2.2)
    have h2 := length_putK acc p.1 p.2.2
    show (mergeT (L2.putK acc p.1 p.2.2) r).length ≤ _
    rw [List.length_cons]
    omega
section
variable {X : Cx} {pins : List (Addr × Obj)} {σ : L2.St} {H : Hp} {E : Value → Shared → Prop}
theorem store_T {A : Around} (hu : A.units + 4 < cLine) {d : Addr} : ∀ (kvs : List (List Key × Addr × V)) (vs : List (Value × Value)) (acc : List (List Key × V)) (H : Hp) (s : Shared) (Q : PUnit → Shared → Prop),
    Inv X pins σ H s → H d = some (.dT acc) → VV (kvs.map fun kv => (V.ref kv.2.1, kv.2.2)) vs → (∀ kv ∈ kvs, H kv.2.1 = some (.tup (kv.1.map kV))) → acc.length + kvs.length ≤ sizeLine →
    (∀ s', Inv X pins σ (upd H d (.dT (mergeT acc kvs))) s' → Q PUnit.unit s') →
    wpAny (model X.prog X.w) A (forIn vs PUnit.unit fun (x : Value × Value) (_ : PUnit) => (do dictSet d x.1 x.2; pure (ForInStep.yield PUnit.unit) : Sem (ForInStep PUnit))) Q E s
  | [], vs, acc, H, s, Q, I, hd, rel, _, _, q => by
    cases rel
    rw [List.forIn_nil]
    refine wpAny_pure (q s ?_)
    rw [show mergeT acc [] = acc from rfl, upd_self hd]
    exact I
  | kv :: kvs, vs, acc, H, s, Q, I, hd, rel, hk, hl, q => by
    cases rel with
    | @cons _ b _ bs hb t =>
      obtain ⟨key, v⟩ := b
      obtain ⟨h1, h2⟩ := hb
      cases (show key = Value.ref kv.2.1 from h1)
      rw [List.length_cons] at hl
      rw [List.forIn_cons]
      obtain ⟨z, lo, xs, rx, dd⟩ := dt_of I.hok hd
      have hz : xs.length ≤ sizeLine := by rw [← Paired.length rx]; exact z
      have eb := hk kv List.mem_cons_self
      refine wpAny_bind (wpAny_bind (wpAny_dictSet_heap (hsz := hz) (knd := tupleKind (mixKind X.prog X.w)) ?_ (key_of I.hok eb) dd fun h' dd' hs => wpAny_pure ?_))
      · show A.units < cLine
        omega
      obtain ⟨o, es, ep, ho, g2, g3, g4, _, g5⟩ := dd'
      have lp := length_putK acc kv.1 kv.2.2
      have I2 : Inv X pins σ (upd H d (.dT (L2.putK acc kv.1 kv.2.2))) { s with heap := h', toks := s.toks + (tupleKind (mixKind X.prog X.w)).draws kv.1 } :=
        d_write I (by rw [hd]; exact True.intro) hs ⟨o, ho⟩ ⟨by omega, lo, _, (rx.put kv.1 eb h2).keeps fun c ys ec => (by rw [upd_ne (ne_of ec hd (fun z => nomatch z))]; exact ec), o, es, ep, ho, g2, g3, g4, g5⟩
      refine store_T hu kvs bs (L2.putK acc kv.1 kv.2.2) (upd H d (.dT (L2.putK acc kv.1 kv.2.2))) _ Q I2 upd_same t (fun k2 hk2 => ?_) (by omega) fun s' I' => ?_
      · have e2 := hk k2 (List.mem_cons_of_mem _ hk2)
        rw [upd_ne (ne_of e2 hd (fun z => nomatch z))]
        exact e2
      · refine q s' ?_
        rw [upd_upd] at I'
        exact I'
end
/-- {k: v, ..} with tuples as keys -/
def tDispT (trs : List (TE × TE)) : TE := fun σ H Q => ∀ p, H p = none → tPairs trs σ (upd H p (.dT [])) fun ps H2 => H2 p = some (.dT []) ∧ ∃ kvs : List (List Key × Addr × V), ps = kvs.map (fun kv => (V.ref kv.2.1, kv.2.2)) ∧ kvs.length ≤ 15 ∧ (∀ kv ∈ kvs, H2 kv.2.1 = some (.tup (kv.1.map kV))) ∧ Q (.ref p) (upd H2 p (.dT (mergeT [] kvs)))
theorem pe_dispT {X : Cx} {pos : Pos} {keys : List (Option Expr)} {values : List Expr} {trs : List (TE × TE)} (hu : X.A.units + 4 < cLine) (h : PPs X pos keys values trs) (hall : keys.all (·.isSome) = true) (hl : keys.length = values.length) (h0 : keys ≠ [])
    (h15 : keys.length ≤ 15) : PE X (.Dict keys values pos) (tDispT trs) := by
  refine ⟨fun pins s σ H Q I q => ?_⟩
  have hn := I.hok.fresh (Nat.le_refl s.heap.objs.size)
  have I1 := I.laid (a := s.heap.objs.size) (o := .dT []) (h' := s.heap.push { cls := .type "dict", data := .dict #[] }) (t' := s.toks) (fun _ _ q => Heap.get?_push_of_some _ q) (Nat.le_refl _) (dt_empty s.heap I.big)
  have hlen := pairTrees_length keys values X.env pos hall hl
  have hne : pairTrees keys values X.env pos ≠ [] := fun he => by
    rw [he] at hlen
    exact h0 (List.length_eq_zero_iff.mp hlen.symm)
  rw [arm_eval_Dict, zip_pairTrees keys values X.env pos hall hl, dictDisplay_pairs (pairTrees keys values X.env pos) hne (by omega)]
  refine wpAny_bind (wpAny_standAt (wpAny_bind ?_))
  unfold subDict
  refine wpAny_bind (wpAny_alloc ?_)
  refine wpAny_bind (wpAny_holding ?_)
  rw [if_pos (by omega)]
  refine wpAny_bind (thn (h.run pins _ σ _ _ I1 (q _ hn)) fun ws s2 ⟨ps, H2, I2, rel, e, kvs, ep, lk, hk, q2⟩ => ?_)
  subst ep
  refine wpAny_holding ?_
  refine wpAny_bind (store_T hu kvs ws [] H2 s2 _ I2 e rel hk (by rw [sizeLine_eq]; show 0 + _ ≤ _; omega) fun s' I' => wpAny_pure (wpAny_pure (wpAny_pure ?_)))
  exact ⟨.ref s.heap.objs.size, _, I', rfl, q2⟩
section
variable {K : PySem.W.Frag} {s : Bool} {ρ : En} {ω : Ow} {ty tx td : TE} {d : D} {p : ZZ}
/-- the pairs of a display -/
inductive EvPs (K : PySem.W.Frag) (s : Bool) (ρ : En) (ω : Ow) : List (TE × TE) → List (ZZ × D) → Prop
  | nil : EvPs K s ρ ω [] []
  | cons {tk tv : TE} {r : List (TE × TE)} {p : ZZ} {d : D} {m : List (ZZ × D)} : Ev K s tk ρ ω (pD p) → Ev K s tv ρ ω d → EvPs K s ρ ω r m → EvPs K s ρ ω ((tk, tv) :: r) ((p, d) :: m)
theorem EvPs.go : ∀ {trs : List (TE × TE)} {m : List (ZZ × D)}, EvPs K s ρ ω trs m → ∀ M O σ H, SR K M O ω ρ σ H → ∀ Q : List (V × V) → Hp → Prop,
    (∀ (kvs : List (List Key × Addr × V)) H', Same H H' → kvs.map (·.1) = m.map (fun x => pk x.1) → (∀ kv ∈ kvs, H' kv.2.1 = some (.tup (kv.1.map kV))) → Rps K (hid (Xs s M O) H') (kvs.map (·.2.2)) (m.map (·.2)) → Q (kvs.map fun kv => (V.ref kv.2.1, kv.2.2)) H') → tPairs trs σ H Q
  | _, _, .nil, M, O, σ, H, r, Q, q => q [] H (Same.refl H) rfl (fun _ h => by cases h) .nil
  | _, _, .cons (p := p) hk hv hr, M, O, σ, H, r, Q, q => hk M O σ H r _ fun x H1 s1 r1 => hv M O σ H1 (r.mono s1) _ fun y H2 s2 r2 => hr.go M O σ H2 ((r.mono s1).mono s2) _ fun kvs H3 s3 e1 e2 e3 => by
    obtain ⟨a, rfl, ha⟩ := r1.key
    have ha := (of_hid ha).2
    refine q ((pk p, a, y) :: kvs) H3 ((s1.trans s2).trans s3) (by rw [List.map_cons, List.map_cons, e1]) (fun kv hkv => ?_) (.cons (r2.mono (hid_same s3)) e3)
    rcases List.mem_cons.mp hkv with z | z
    · subst z; exact s3 _ _ (s2 _ _ ha)
    · exact e2 kv z
theorem mergeT_keys : ∀ (kvs : List (List Key × Addr × V)) (acc : List (List Key × V)) (m mc : List (ZZ × D)), {H : Hp} → kvs.map (·.1) = m.map (fun x => pk x.1) → acc.map (·.1) = (pT mc).map (·.1) → Rps K H (kvs.map (·.2.2)) (m.map (·.2)) → Rps K H (acc.map (·.2)) ((pT mc).map (·.2)) →
    (mergeT acc kvs).map (·.1) = (pT (m.foldl (fun a x => putG a x.1 x.2) mc)).map (·.1) ∧ Rps K H ((mergeT acc kvs).map (·.2)) ((pT (m.foldl (fun a x => putG a x.1 x.2) mc)).map (·.2))
  | [], acc, [], mc, H, _, h2, _, h4 => ⟨h2, h4⟩
  | [], _, _ :: _, _, _, h1, _, _, _ => by cases h1
  | _ :: _, _, [], _, _, h1, _, _, _ => by cases h1
  | kv :: kvs, acc, x :: m, mc, H, h1, h2, h3, h4 => by
    rw [List.map_cons, List.map_cons] at h1 h3
    injection h1 with a b
    cases h3 with
    | cons r1 r2 =>
      obtain ⟨g1, g2⟩ := Rps.putK (k := kv.1) r1 h2 h4
      rw [a, putT] at g1 g2
      rw [← a] at g1 g2
      exact mergeT_keys kvs (L2.putK acc kv.1 kv.2.2) m (putG mc x.1 x.2) b g1 r2 g2
/-- {k: v, ..}.get(p, x) -/
theorem ev_dispget {trs : List (TE × TE)} {m : List (ZZ × D)} (h : EvPs K s ρ ω trs m) (hl : m.length ≤ 15) (hf : dfrees (m.map (·.2)) = true) (hy : Ev K s ty ρ ω (pD p)) (hx : Ev K s tx ρ ω d) : Ev K s (tDGet2 (tDispT trs) ty tx) ρ ω ((getG (m.foldl (fun a x => putG a x.1 x.2) []) p).getD d) := fun M O σ H r Q q p0 hp0 => by
  have r1 : SR K M O ω ρ σ (upd H p0 (.dT [])) := r.mono (same_upd hp0)
  refine h.go M O σ _ r1 _ fun kvs H2 s2 e1 e2 e3 => ?_
  have hz : H2 p0 = some (.dT []) := s2 _ _ upd_same
  have lk : kvs.length = m.length := by
    have := congrArg List.length e1
    rwa [List.length_map, List.length_map] at this
  refine ⟨hz, kvs, rfl, by omega, e2, ?_⟩
  have np : p0 ∉ xo M O := not_mem_of_new r.trkX hp0
  have np2 : p0 ∉ Xs s M O := fun z => np (Xs_sub p0 z)
  have s3 : Same H (upd H2 p0 (.dT (mergeT [] kvs))) := fun b o e => by
    rw [upd_ne (ne_of_none e hp0)]
    exact s2 _ _ (same_upd hp0 _ _ e)
  have r3 := r.mono s3
  have hd2 : DAt (hid (Xs s M O) H2) p0 := ⟨[], .inl (hid_of np2 hz)⟩
  have e4 : Rps K (hid (Xs s M O) (upd H2 p0 (.dT (mergeT [] kvs)))) (kvs.map (·.2.2)) (m.map (·.2)) := by
    rw [hid_upd np2]
    exact e3.lock hd2 hf
  obtain ⟨g1, g2⟩ := mergeT_keys kvs [] m [] e1 rfl e4 .nil
  refine ⟨p0, rfl, .inr ⟨_, .inl upd_same⟩, hy M O σ _ r3 _ fun v H3 s4 rv => hx M O σ H3 (r3.mono s4) _ fun w H4 s5 rw_ => ?_⟩
  obtain ⟨b, rfl, hb⟩ := rv.key
  refine ⟨_, DGet.t (k := pk p) (s5 _ _ (s4 _ _ upd_same)) (s5 _ _ (of_hid hb).2), ?_⟩
  have s6 := (s3.trans s4).trans s5
  cases hg : getG (m.foldl (fun a x => putG a x.1 x.2) []) p with
  | some d' =>
    obtain ⟨u, q1, q2⟩ := Rps.getK (k := pk p) g1 g2 (by rw [getT]; exact hg)
    rw [q1]
    exact q u H4 s6 ((by rw [hg]; exact q2.mono (hid_same (s4.trans s5))))
  | none =>
    have := isSome_keysG (k := pk p) g1
    rw [hasT, hasG_get, hg] at this
    cases hv : valV (mergeT [] kvs) (pk p) with
    | some u => rw [hv] at this; cases this
    | none => exact q w H4 s6 (by rw [hg]; exact rw_)
end
end DL

set_option Elab.async false
set_option linter.all false
set_option maxRecDepth 100000
set_option maxHeartbeats 4000000
/-! M10: pairs of play the other way by numbers. -/
namespace DL
open PySem PySem.W L2
def pA1 (n : Int) : Int := (p1F n).1
def pB1 (n : Int) : Int := (p1F n).2
def oA (s : Int) : Int → Int := if s = 1 then pA1 else oLow s
def oB (s : Int) : Int → Int := if s = 1 then pB1 else oHigh s
/-- the number of the lost pair, by floors -/
def onF (s i j : Int) : Int := if s = 1 then (if max i j < 3 then (if min i j = 0 ∧ max i j = 1 then 0 else if min i j = 2 ∧ max i j = 2 then 1 else -1)
    else if (max i j - min i j) % s = 0 ∧ lowF s ((max i j - min i j) / s) = min i j then (max i j - min i j) / s else -1)
  else if (min i j < max i j ∧ (max i j - min i j - 1) % s = 0) ∧ oLow s ((max i j - min i j - 1) / s) = min i j then (max i j - min i j - 1) / s else -1
section
variable {s : Int}
theorem olow_up (hs : 2 ≤ s) {n : Int} (hn : 0 ≤ n) : oLow s n ≤ 2 * n + 1 := by
  have := (olow_iff hs hn (show 0 ≤ n + 1 by omega)).mpr (by
    have e : (n + 1) * s + 1 = n * s + 1 + s := by grind
    rw [e]
    have hx : 0 ≤ n * s := Int.mul_nonneg hn (by omega)
    obtain ⟨x, ex⟩ : ∃ x, n * s + 1 = x := ⟨_, rfl⟩
    rw [ex]
    have h1 : 0 ≤ s * (x * (x + s)) := Int.mul_nonneg (by omega) (Int.mul_nonneg (by omega) (by omega))
    have := sq_lt (show 0 ≤ x by omega) (show x < x + s by omega)
    omega)
  omega
theorem oA_up (hs : 1 ≤ s) {n : Int} (hn : 0 ≤ n) : 0 ≤ oA s n ∧ oA s n ≤ 2 * n + 1 := by
  unfold oA
  by_cases e : s = 1
  · rw [if_pos e]
    unfold pA1 p1F
    by_cases e0 : n = 0
    · rw [if_pos e0]; exact ⟨by decide, by show (0 : Int) ≤ _; omega⟩
    rw [if_neg e0]
    by_cases e1 : n = 1
    · rw [if_pos e1]; exact ⟨by decide, by show (2 : Int) ≤ _; omega⟩
    rw [if_neg e1]
    have := low_nn (s := 1) (by decide) hn
    have := low_le2 (s := 1) (by decide) hn
    exact ⟨by show 0 ≤ lowF 1 n; omega, by show lowF 1 n ≤ _; omega⟩
  · rw [if_neg e]
    have := olow_nn (s := s) (by omega) hn
    have := olow_up (s := s) (by omega) hn
    omega
theorem oB_up (hs : 1 ≤ s) (h2 : s ≤ 50) {n : Int} (hn : 0 ≤ n) : oA s n ≤ oB s n ∧ oB s n ≤ 52 * n + 2 := by
  have ha := oA_up hs hn
  unfold oA at ha
  unfold oA oB
  by_cases e : s = 1
  · rw [if_pos e] at ha
    rw [if_pos e, if_pos e]
    unfold pA1 p1F at ha
    unfold pA1 pB1 p1F
    by_cases e0 : n = 0
    · rw [if_pos e0]; exact ⟨by decide, by show (1 : Int) ≤ _; omega⟩
    rw [if_neg e0] at ha
    rw [if_neg e0]
    by_cases e1 : n = 1
    · rw [if_pos e1]; exact ⟨by decide, by show (2 : Int) ≤ _; omega⟩
    rw [if_neg e1] at ha
    have ha : 0 ≤ lowF 1 n ∧ _ := ha
    rw [if_neg e1]
    have := low_le2 (s := 1) (by decide) hn
    exact ⟨by show lowF 1 n ≤ lowF 1 n + 1 * n; omega, by show lowF 1 n + 1 * n ≤ _; omega⟩
  · rw [if_neg e] at ha
    rw [if_neg e, if_neg e]
    have := Int.mul_le_mul_of_nonneg_right h2 hn
    have := Int.mul_nonneg (show 0 ≤ s by omega) hn
    exact ⟨by unfold oHigh; omega, by unfold oHigh; omega⟩
theorem oP_get {k : Nat} (hs : 1 ≤ s) : oP s k = (List.range k).map fun (i : Nat) => (oA s i, oB s i) := by
  unfold oP oA oB
  by_cases e : s = 1
  · rw [if_pos e, if_pos e, if_pos e]; rfl
  · rw [if_neg e, if_neg e, if_neg e]
    unfold gP aG bG
    rw [if_neg (by decide), if_neg (by decide)]
/-- the lost places of play the other way, the first heap not the greater one -/
theorem lost_o (hs : 1 ≤ s) {i j : Int} (h0 : 0 ≤ i) (h1 : i ≤ j) : lostF s true (i, j) = true ↔ ∃ k, 0 ≤ k ∧ i = oA s k ∧ j = oB s k := by
  unfold oA oB
  by_cases e : s = 1
  · subst e
    rw [lost_one (show 0 ≤ (i, j).1 from h0) (show 0 ≤ (i, j).2 by show 0 ≤ j; omega), if_pos rfl, if_pos rfl]
    constructor
    · rintro ⟨k, hk, h | h⟩
      · exact ⟨k, hk, congrArg Prod.fst h, congrArg Prod.snd h⟩
      · have e1 : i = (p1F k).2 := congrArg Prod.fst h
        have e2 : j = (p1F k).1 := congrArg Prod.snd h
        have le : (p1F k).1 ≤ (p1F k).2 := by
          have := (oB_up (s := 1) (by decide) (by decide) hk).1
          unfold oA oB at this
          rw [if_pos rfl, if_pos rfl] at this
          unfold pA1 pB1 at this
          exact this
        exact ⟨k, hk, by unfold pA1; omega, by unfold pB1; omega⟩
    · rintro ⟨k, hk, e1, e2⟩
      exact ⟨k, hk, .inl (Prod.ext e1 e2)⟩
  · rw [if_neg e, if_neg e, lost_olow (by omega) (show 0 ≤ (i, j).1 from h0) (show 0 ≤ (i, j).2 by show 0 ≤ j; omega)]
    constructor
    · rintro ⟨k, hk, ⟨e1, e2⟩ | ⟨e1, e2⟩⟩
      · exact ⟨k, hk, e1, e2⟩
      · have e1 : i = oHigh s k := e1
        have e2 : j = oLow s k := e2
        have : oHigh s k = oLow s k + s * k + 1 := rfl
        have := Int.mul_nonneg (show 0 ≤ s by omega) hk
        omega
    · rintro ⟨k, hk, e1, e2⟩
      exact ⟨k, hk, .inl ⟨e1, e2⟩⟩
theorem p1_small : ∀ k : Int, 2 ≤ k → p1F k = (lowF 1 k, highF 1 k) := fun k hk => by unfold p1F; rw [if_neg (by omega), if_neg (by omega)]
theorem on_lost (hs : 1 ≤ s) {i j : Int} (h0 : 0 ≤ i) (h1 : 0 ≤ j) : decide (0 ≤ onF s i j) = lostF s true (i, j) := by
  rw [lost_mm, Bool.eq_iff_iff, decide_eq_true_iff]
  show _ ↔ lostF s true (min i j, max i j) = true
  rw [lost_o hs (show 0 ≤ min i j by omega) (by omega)]
  generalize hx : min i j = x
  generalize hy : max i j = y
  have x0 : 0 ≤ x := by omega
  have xy : x ≤ y := by omega
  unfold onF oA oB
  rw [hx, hy]
  by_cases e : s = 1
  · subst e
    rw [if_pos rfl, if_pos rfl, if_pos rfl]
    by_cases c : y < 3
    · rw [if_pos c]
      constructor
      · intro h
        by_cases e1 : x = 0 ∧ y = 1
        · exact ⟨0, Int.le_refl 0, e1.1, e1.2⟩
        · rw [if_neg e1] at h
          by_cases e2 : x = 2 ∧ y = 2
          · exact ⟨1, by decide, e2.1, e2.2⟩
          · rw [if_neg e2] at h; omega
      · rintro ⟨k, hk, e1, e2⟩
        by_cases k0 : k = 0
        · subst k0
          have e1 : x = 0 := e1
          have e2 : y = 1 := e2
          rw [if_pos ⟨e1, e2⟩]
          decide
        by_cases k1 : k = 1
        · subst k1
          have e1 : x = 2 := e1
          have e2 : y = 2 := e2
          rw [if_neg (by omega), if_pos ⟨e1, e2⟩]
          decide
        have l3 := low_k3 (k := k) (by omega)
        unfold pB1 at e2
        rw [p1_small k (by omega)] at e2
        have e2 : y = highF 1 k := e2
        omega
    · rw [if_neg c]
      constructor
      · intro h
        by_cases g : (y - x) % 1 = 0 ∧ lowF 1 ((y - x) / 1) = x
        · rw [if_pos g] at h
          rw [Int.ediv_one] at g h
          have k2 : 2 ≤ y - x := by
            rcases ilt_or_ge (y - x) 2 with z | z
            · exfalso
              have l12 := low12
              have lz := low_zero (s := 1) (by decide)
              have : y - x = 0 ∨ y - x = 1 := by omega
              rcases this with z | z
              · rw [z] at g; omega
              · rw [z] at g; omega
            · exact z
          refine ⟨y - x, by omega, by unfold pA1; rw [p1_small _ k2]; exact g.2.symm, ?_⟩
          unfold pB1
          rw [p1_small _ k2]
          show y = lowF 1 (y - x) + 1 * (y - x)
          omega
        · rw [if_neg g] at h; omega
      · rintro ⟨k, hk, e1, e2⟩
        have k2 : 2 ≤ k := by
          rcases ilt_or_ge k 2 with z | z
          · exfalso
            have : k = 0 ∨ k = 1 := by omega
            rcases this with z | z
            · subst z
              have e2 : y = 1 := e2
              omega
            · subst z
              have e2 : y = 2 := e2
              omega
          · exact z
        unfold pA1 at e1
        unfold pB1 at e2
        rw [p1_small k k2] at e1 e2
        have e1 : x = lowF 1 k := e1
        have e2 : y = lowF 1 k + 1 * k := e2
        have ek : y - x = k := by omega
        rw [ek, Int.ediv_one, if_pos ⟨Int.emod_one k, e1.symm⟩]
        exact hk
  · rw [if_neg e, if_neg e, if_neg e]
    constructor
    · intro h
      by_cases g : (x < y ∧ (y - x - 1) % s = 0) ∧ oLow s ((y - x - 1) / s) = x
      · refine ⟨(y - x - 1) / s, Int.ediv_nonneg (by omega) (by omega), g.2.symm, ?_⟩
        unfold oHigh
        rw [g.2, Int.mul_ediv_cancel' (Int.dvd_of_emod_eq_zero g.1.2)]
        omega
      · rw [if_neg g] at h; omega
    · rintro ⟨k, hk, e1, e2⟩
      have hb : oHigh s k = oLow s k + s * k + 1 := rfl
      have sk := Int.mul_nonneg (show 0 ≤ s by omega) hk
      have ek : y - x - 1 = s * k := by omega
      rw [ek, Int.mul_emod_right, Int.mul_ediv_cancel_left _ (by omega), if_pos ⟨⟨by omega, rfl⟩, e1.symm⟩]
      exact hk
/-- one heap greater by one or two: no pair -/
theorem near_no (hs : 1 ≤ s) {k : Int} (hk : 0 ≤ k) : lostF s true (oA s k, oB s k + 1) = false ∧ lostF s true (oA s k, oB s k + 2) = false ∧ lostF s true (oA s k + 1, oB s k) = false := by
  have inj : ∀ {i j : Int}, 0 ≤ i → 0 ≤ j → oA s i = oA s j → i = j := by
    intro i j hi hj h
    have lt : ∀ {i j : Int}, 0 ≤ i → i < j → oA s i < oA s j := by
      intro i j hi hij
      unfold oA
      by_cases e : s = 1
      · rw [if_pos e]
        unfold pA1
        have := p1_incr (i := i.toNat) (j := j.toNat) (by omega)
        rwa [show ((i.toNat : Nat) : Int) = i by omega, show ((j.toNat : Nat) : Int) = j by omega] at this
      · rw [if_neg e]
        exact (gm_olow (s := s) (by omega)).lt hi hij
    rcases Int.lt_trichotomy i j with z | z | z
    · have := lt hi z; omega
    · exact z
    · have := lt hj z; omega
  have bounds := fun (n : Int) (hn : 0 ≤ n) => oA_up hs hn
  have ab : ∀ n, 0 ≤ n → oA s n ≤ oB s n := by
    intro n hn
    unfold oA oB
    by_cases e : s = 1
    · subst e
      have := (oB_up (s := 1) (by decide) (by decide) hn).1
      unfold oA oB at this
      exact this
    · rw [if_neg e, if_neg e]
      have := Int.mul_nonneg (show 0 ≤ s by omega) hn
      unfold oHigh
      omega
  have a0 := (bounds k hk).1
  have b0 := ab k hk
  have no : ∀ {x y : Int}, 0 ≤ x → x ≤ y → (∀ n, 0 ≤ n → x = oA s n → y = oB s n → False) → lostF s true (x, y) = false := by
    intro x y h0 h1 h
    cases z : lostF s true (x, y) with
    | false => rfl
    | true =>
      obtain ⟨n, hn, e1, e2⟩ := (lost_o hs h0 h1).mp z
      exact (h n hn e1 e2).elim
  refine ⟨no a0 (by omega) fun n hn e1 e2 => ?_, no a0 (by omega) fun n hn e1 e2 => ?_, ?_⟩
  · have := inj hk hn e1
    subst this
    omega
  · have := inj hk hn e1
    subst this
    omega
  · have main : ∀ {x y : Int}, 0 ≤ x → x ≤ y → ((x = oA s k + 1 ∧ y = oB s k) ∨ (x = oB s k ∧ y = oA s k + 1)) → lostF s true (x, y) = false := by
      intro x y h0 h1 hxy
      refine no h0 h1 fun n hn e1 e2 => ?_
      by_cases e : s = 1
      · subst e
        unfold oA at hxy e1
        unfold oB at hxy e2
        rw [if_pos rfl] at e1 e2
        rw [if_pos rfl, if_pos rfl] at hxy
        unfold pA1 at hxy e1
        unfold pB1 at hxy e2
        -- few cases: numbers 0, 1, or pairs by floors
        have cs : ∀ n : Int, 0 ≤ n → (p1F n = (0, 1) ∧ n = 0) ∨ (p1F n = (2, 2) ∧ n = 1) ∨ (2 ≤ n ∧ (p1F n).1 = lowF 1 n ∧ (p1F n).2 = lowF 1 n + n ∧ 3 ≤ lowF 1 n) := by
          intro n hn
          by_cases n0 : n = 0
          · exact .inl ⟨by rw [n0]; rfl, n0⟩
          by_cases n1 : n = 1
          · exact .inr (.inl ⟨by rw [n1]; rfl, n1⟩)
          have := low_k3 (k := n) (by omega)
          refine .inr (.inr ⟨by omega, by rw [p1_small n (by omega)], ?_, this.1⟩)
          rw [p1_small n (by omega)]
          exact this.2
        have G := gm_low (s := 1) (by decide)
        rcases cs k hk with ⟨ek, _⟩ | ⟨ek, _⟩ | ⟨k2, ea, eb, k3⟩
        · rw [ek] at hxy
          have hxy : (x = 0 + 1 ∧ y = 1) ∨ (x = 1 ∧ y = 0 + 1) := hxy
          rcases cs n hn with ⟨en, _⟩ | ⟨en, _⟩ | ⟨n2, na, nb, n3⟩
          · rw [en] at e1 e2
            have e1 : x = 0 := e1
            omega
          · rw [en] at e1 e2
            have e1 : x = 2 := e1
            omega
          · omega
        · rw [ek] at hxy
          have hxy : (x = 2 + 1 ∧ y = 2) ∨ (x = 2 ∧ y = 2 + 1) := hxy
          rcases cs n hn with ⟨en, _⟩ | ⟨en, _⟩ | ⟨n2, na, nb, n3⟩
          · rw [en] at e1 e2
            have e1 : x = 0 := e1
            omega
          · rw [en] at e1 e2
            have e2 : y = 2 := e2
            omega
          · omega
        · rcases cs n hn with ⟨en, _⟩ | ⟨en, _⟩ | ⟨n2, na, nb, n3⟩
          · rw [en] at e1 e2
            have e1 : x = 0 := e1
            omega
          · rw [en] at e1 e2
            have e1 : x = 2 := e1
            omega
          · rcases Int.lt_trichotomy n k with z | z | z
            · have := G.lt (show 0 ≤ n by omega) z; omega
            · subst z; omega
            · have := G.lt (show 0 ≤ k by omega) z; omega
      · have G := gm_olow (s := s) (by omega)
        unfold oA at hxy e1
        unfold oB at hxy e2
        rw [if_neg e] at e1 e2
        rw [if_neg e, if_neg e] at hxy
        have hb1 : oHigh s k = oLow s k + s * k + 1 := rfl
        have hb2 : oHigh s n = oLow s n + s * n + 1 := rfl
        have sk := Int.mul_nonneg (show 0 ≤ s by omega) hk
        have sn := Int.mul_nonneg (show 0 ≤ s by omega) hn
        rcases Int.lt_trichotomy n k with z | z | z
        · have := G.lt hn z
          have := G.blt (show 0 ≤ s by omega) hn z
          omega
        · subst z
          by_cases n0 : s * n = 0
          · omega
          · omega
        · have := G.lt hk z
          have := G.blt (show 0 ≤ s by omega) hk z
          omega
    rw [lost_mm]
    show lostF s true (min (oA s k + 1) (oB s k), max (oA s k + 1) (oB s k)) = false
    exact main (by omega) (by omega) (by omega)
end
end DL

set_option Elab.async false
set_option linter.all false
set_option maxRecDepth 100000
set_option maxHeartbeats 4000000
/-! DM1: a comprehension with two fors, into a list of one's own; the least number that a door takes up to a value; what wins. -/
namespace DL
open PySem PySem.W L2 PySem.Spec PyProof.Rows
section
variable {K : PySem.W.Frag} {s b : Bool} {ρ ρ' ρ1 ρ2 : En} {ω : Ow} {ta tb te tc : TE} {d d1 d2 d3 : D} {ds : List D} {vs vs1 : List Nat} {Φ : Out → Prop}
theorem el_lc2 {α β : Type} (as : List α) (toD : α → D) (bs : List β) (toD1 : β → D) (f : α → β → D) {wi wi1 : TI} {g g1 : TG} (hi : EvI K wi ρ ω (as.map toD)) (hl : as.length * bs.length ≤ 1000000)
    (hs : ∀ a, a ∈ as → ∃ ρ2, WGw K g (toD a) vs (wipeE ρ vs) ρ2 ∧ EvI K wi1 ρ2 ω (bs.map toD1) ∧ ∀ b, b ∈ bs → ∃ ρ3, WGw K g1 (toD1 b) vs1 (wipeE ρ2 vs1) ρ3 ∧ Ev K true te ρ3 ω (f a b)) :
    EvL K (tLc2 wi g tYes wi1 g1 tYes te vs vs1) ρ ω (as.flatMap fun a => bs.map (f a)) := fun M O σ H r Q q =>
  hi M O σ H r _ fun J H1 s1 wk p0 hp0 => by
    have r1 := r.mono s1
    have hq0 : H p0 = none := by
      cases e : H p0 with
      | none => rfl
      | some o => rw [s1 _ _ e] at hp0; cases hp0
    have r2 := r1.aside (same_upd (o := .lst []) hp0) hp0 (trk_of upd_same)
    refine ⟨fun i m H' => m = as.length - i ∧ i ≤ as.length ∧ SR K (p0 :: M) O ω ρ σ H' ∧ Same H1 H' ∧ ∃ acc, H' p0 = some (.lst acc) ∧ acc.length ≤ i * bs.length ∧ Rps K (hid (xo (p0 :: M) O) H') acc ((as.take i).flatMap fun a => bs.map (f a)),
      ⟨_, rfl, Nat.zero_le _, r2, same_upd hp0, [], upd_same, by simp, .nil⟩, ?_⟩
    rintro i m H' ⟨rfl, hi, r3, s3, acc, ha, hla, hr⟩
    have hh : Same (hid (xo M O) H1) (hid (xo (p0 :: M) O) H') := fun b o e => by
      obtain ⟨n, e⟩ := of_hid e
      refine hid_of (fun z => ?_) (s3 _ _ e)
      rcases mem_xo.mp z with z | z
      · rcases List.mem_cons.mp z with z | z
        · rw [z, hp0] at e; cases e
        · exact n (mem_xo.mpr (.inl z))
      · exact n (mem_xo.mpr (.inr z))
    by_cases hlt : i < as.length
    · have hm : i < (as.map toD).length := by rw [List.length_map]; exact hlt
      obtain ⟨ρ2, hg, hi1, he⟩ := hs as[i] (List.getElem_mem hlt)
      have et : as.take (i + 1) = as.take i ++ [as[i]] := by rw [List.take_add_one, List.getElem?_eq_getElem hlt]; rfl
      have hml : i * bs.length + bs.length ≤ 1000000 := Nat.le_trans (by rw [← Nat.succ_mul]; exact Nat.mul_le_mul_right _ hlt) hl
      refine .inr ⟨wk.go i _ _ hh hid_le hm, fun H2 => SR K (p0 :: M) O ω ρ σ H2 ∧ Same H1 H2 ∧ ∃ acc, H2 p0 = some (.lst acc) ∧ acc.length ≤ (i + 1) * bs.length ∧ Rps K (hid (xo (p0 :: M) O) H2) acc ((as.take (i + 1)).flatMap fun a => bs.map (f a)), ?_, fun x H2 hy => ?_⟩
      · rintro H2 ⟨a1, a2, a3⟩
        exact ⟨_, by omega, rfl, hlt, a1, a2, a3⟩
      · obtain ⟨s4, fx⟩ := wk.yl i _ _ x H2 hh r3.trkX hm hy
        have rp := fx (toD as[i]) (by rw [List.getElem?_map, List.getElem?_eq_getElem hlt]; rfl)
        have r4 := r3.mono s4
        refine hg _ O ω _ H2 x (r4.wipe vs) rp _ fun σ2 r5 e5 => ⟨e5.trans (wipe_wipe vs fun _ h => h), ?_⟩
        refine et_yes (K := K) (ρ := ρ2) (ω := ω) _ O σ2 H2 r5 _ fun H3 s5 => ?_
        refine iteT ?_
        refine hi1 _ O σ2 H3 (r5.mono s5) _ fun J1 H4 s6 wk1 => ?_
        have s46 := (s4.trans s5).trans s6
        refine ⟨fun j k H => k = bs.length - j ∧ j ≤ bs.length ∧ SR K (p0 :: M) O ω ρ2 σ2 H ∧ SR K (p0 :: M) O ω ρ σ H ∧ Same H1 H ∧ Same (hid (xo (p0 :: M) O) H4) (hid (xo (p0 :: M) O) H) ∧ ∃ acc, H p0 = some (.lst acc) ∧ acc.length ≤ i * bs.length + j ∧ Rps K (hid (xo (p0 :: M) O) H) acc (((as.take i).flatMap fun a => bs.map (f a)) ++ (bs.take j).map (f as[i])),
          ⟨_, rfl, Nat.zero_le _, (r5.mono s5).mono s6, r3.mono s46, s3.trans s46, Same.refl _, acc, s46 _ _ ha, by omega, by
            rw [List.take_zero, List.map_nil, List.append_nil]; exact hr.mono (hid_same s46)⟩, ?_⟩
        rintro j k H5 ⟨rfl, hj, q1, q2, q3, q4, acc2, hb, hlb, hr2⟩
        by_cases hlt2 : j < bs.length
        · have hm2 : j < (bs.map toD1).length := by rw [List.length_map]; exact hlt2
          obtain ⟨ρ3, hg1, he1⟩ := he bs[j] (List.getElem_mem hlt2)
          have et2 : bs.take (j + 1) = bs.take j ++ [bs[j]] := by rw [List.take_add_one, List.getElem?_eq_getElem hlt2]; rfl
          refine .inr ⟨wk1.go j _ _ q4 hid_le hm2, fun H6 => SR K (p0 :: M) O ω ρ2 σ2 H6 ∧ SR K (p0 :: M) O ω ρ σ H6 ∧ Same H1 H6 ∧ Same (hid (xo (p0 :: M) O) H4) (hid (xo (p0 :: M) O) H6) ∧ ∃ acc, H6 p0 = some (.lst acc) ∧ acc.length ≤ i * bs.length + (j + 1) ∧ Rps K (hid (xo (p0 :: M) O) H6) acc (((as.take i).flatMap fun a => bs.map (f a)) ++ (bs.take (j + 1)).map (f as[i])), ?_, fun x H6 hy2 => ?_⟩
          · rintro H6 ⟨a1, a2, a3, a4, a5⟩
            exact ⟨_, by omega, rfl, hlt2, a1, a2, a3, a4, a5⟩
          · obtain ⟨s7, fx2⟩ := wk1.yl j _ _ x H6 q4 q1.trkX hm2 hy2
            have rp2 := fx2 (toD1 bs[j]) (by rw [List.getElem?_map, List.getElem?_eq_getElem hlt2]; rfl)
            refine hg1 _ O ω _ H6 x ((q1.mono s7).wipe vs1) rp2 _ fun σ3 r6 e6 => ⟨e6.trans (wipe_wipe vs1 fun _ h => h), ?_⟩
            refine et_yes (K := K) (ρ := ρ3) (ω := ω) _ O σ3 H6 r6 _ fun H9 s9 => ?_
            refine iteT ?_
            refine he1 _ O σ3 H9 (r6.mono s9) _ fun y H7 s8 ry => ?_
            have s78 := (s7.trans s9).trans s8
            obtain ⟨r7, eh⟩ := (q1.mono s78).aside_upd (o := .lst (acc2 ++ [y]))
            obtain ⟨r8, _⟩ := (q2.mono s78).aside_upd (o := .lst (acc2 ++ [y]))
            refine ⟨acc2, s78 _ _ hb, Nat.lt_of_le_of_lt (m := 1000000) (by omega) (by decide), r7, r8, ?_, ?_, acc2 ++ [y], upd_same, by rw [List.length_append]; simp; omega, ?_⟩
            · intro b o e
              rw [upd_ne (ne_of_none e hp0)]
              exact s78 _ _ (q3 _ _ e)
            · rw [eh]; exact q4.trans (hid_same s78)
            · rw [eh, et2, List.map_append, ← List.append_assoc]
              exact (hr2.mono (hid_same s78)).append (.cons ry .nil)
        · have e : j = bs.length := by omega
          subst e
          rw [List.take_of_length_le (Nat.le_refl _)] at hr2
          refine .inl ⟨by rw [← List.length_map (as := bs) toD1]; exact wk1.st _ _ q4 hid_le, q2, q3, acc2, hb, by rw [Nat.succ_mul]; exact hlb, ?_⟩
          rw [et, List.flatMap_append, List.flatMap_cons, List.flatMap_nil, List.append_nil]
          exact hr2
    · have e : i = as.length := by omega
      subst e
      rw [List.take_of_length_le (Nat.le_refl _)] at hr
      have ex : hid (p0 :: xo M O) H' = hid (xo (p0 :: M) O) H' := hid_cong fun b => by
        rw [List.mem_cons, mem_xo, mem_xo, List.mem_cons, or_assoc]
      refine .inl ⟨by rw [← List.length_map (as := as) toD]; exact wk.st _ _ hh hid_le, q p0 H' acc (s1.trans s3) hq0 ha (by rw [ex]; exact hr)⟩
end
end DL

set_option Elab.async false
set_option linter.all false
set_option maxRecDepth 100000
set_option maxHeartbeats 4000000
/-! M11: the least number whose door reaches a value; where the lost places led to lie; what wins. -/
namespace DL
open PySem PySem.W L2
def leastN (f : Int → Int) (v : Int) : Nat → Int → Int
  | 0, n => n
  | k + 1, n => if v ≤ f n then n else leastN f v k (n + 1)
theorem leastN_spec {f : Int → Int} {v : Int} (hf : ∀ m, 0 ≤ m → m ≤ f m) : ∀ (k : Nat) (n : Int), 0 ≤ n → v ≤ n + k → (∀ m, 0 ≤ m → m < n → f m < v) →
    0 ≤ leastN f v k n ∧ leastN f v k n ≤ n + k ∧ v ≤ f (leastN f v k n) ∧ ∀ m, 0 ≤ m → m < leastN f v k n → f m < v
  | 0, n, h0, h1, h2 => by
    have := hf n h0
    exact ⟨h0, by show n ≤ _; omega, by show v ≤ f n; omega, h2⟩
  | k + 1, n, h0, h1, h2 => by
    unfold leastN
    by_cases h : v ≤ f n
    · rw [if_pos h]
      exact ⟨h0, by omega, h, h2⟩
    · rw [if_neg h]
      obtain ⟨a, b, c, d⟩ := leastN_spec (v := v) hf k (n + 1) (by omega) (by omega) (fun m hm hn => by
        by_cases e : m = n
        · subst e; omega
        · exact h2 m hm (by omega))
      exact ⟨a, by omega, c, d⟩
/-- the least number whose door reaches v -/
@[irreducible] def leastF (f : Int → Int) (v : Int) : Int := leastN f v v.toNat 0
theorem least_spec {f : Int → Int} {v : Int} (hf : ∀ m, 0 ≤ m → m ≤ f m) (hv : 0 ≤ v) : 0 ≤ leastF f v ∧ leastF f v ≤ v ∧ v ≤ f (leastF f v) ∧ ∀ m, 0 ≤ m → m < leastF f v → f m < v := by
  unfold leastF
  obtain ⟨a, b, c, d⟩ := leastN_spec (v := v) hf v.toNat 0 (Int.le_refl 0) (by omega) (fun m h1 h2 => by omega)
  exact ⟨a, by omega, c, d⟩
theorem least_eq {f : Int → Int} {v n : Int} (hf : ∀ m, 0 ≤ m → m ≤ f m) (hv : 0 ≤ v) (h0 : 0 ≤ n) (h1 : v ≤ f n) (h2 : ∀ m, 0 ≤ m → m < n → f m < v) : leastF f v = n := by
  obtain ⟨a, b, c, d⟩ := least_spec hf hv
  rcases Int.lt_trichotomy (leastF f v) n with z | z | z
  · have := h2 _ a z; omega
  · exact z
  · have := d n h0 z; omega
/-- the doors: lesser and greater ones of the lost pairs -/
def dA (s : Int) (t : Bool) : Int → Int := if t then oA s else lowF s
def dB (s : Int) (t : Bool) : Int → Int := if t then oB s else highF s
section
variable {s : Int} {t : Bool}
theorem oA_lt (hs : 1 ≤ s) {n m : Int} (hn : 0 ≤ n) (h : n < m) : oA s n < oA s m := by
  unfold oA
  by_cases e : s = 1
  · rw [if_pos e]
    unfold pA1 p1F
    have l2 := low_ge (s := 1) (n := m) (by decide) (by omega)
    have lt := fun h' : 0 ≤ n => low_lt (s := 1) (n := n) (m := m) (by decide) h' h
    by_cases a : n = 0
    · rw [if_pos a, if_neg (by omega)]
      by_cases b : m = 1
      · rw [if_pos b]; show (0 : Int) < 2; decide
      · rw [if_neg b]; show (0 : Int) < lowF 1 m; omega
    · rw [if_neg a, if_neg (show ¬ m = 0 by omega), if_neg (show ¬ m = 1 by omega)]
      by_cases b : n = 1
      · rw [if_pos b]
        show (2 : Int) < lowF 1 m
        have := low_lt (s := 1) (n := 1) (m := m) (by decide) (by decide) (by omega)
        have e1 := low_one (s := 1) (by decide)
        have := low_lt (s := 1) (n := 1) (m := 2) (by decide) (by decide) (by decide)
        have e2 : lowF 1 2 = 3 := by decide +kernel
        by_cases c : m = 2
        · subst c; omega
        · have := low_lt (s := 1) (n := 2) (m := m) (by decide) (by decide) (by omega); omega
      · rw [if_neg b]
        exact lt hn
  · rw [if_neg e]
    have G := gm_olow (s := s) (by omega)
    exact G.lt hn h
theorem dA_lt (hs : 1 ≤ s) {n m : Int} (hn : 0 ≤ n) (h : n < m) : dA s t n < dA s t m := by
  cases t
  · exact low_lt hs hn h
  · exact oA_lt hs hn h
/-- how far apart the pair of number n lies -/
theorem d_gap (hs : 1 ≤ s) {n : Int} (hn : 0 ≤ n) : (dB s t n - dA s t n = s * n) ∨ (2 ≤ s ∧ dB s t n - dA s t n = s * n + 1) ∨ (s = 1 ∧ t = true ∧ n < 2 ∧ dB s t n - dA s t n = 1 - n ∧ dB s t n = n + 1) := by
  unfold dA dB
  cases t
  · rw [if_neg Bool.false_ne_true, if_neg Bool.false_ne_true]
    left
    show lowF s n + s * n - lowF s n = _
    omega
  · rw [if_pos rfl, if_pos rfl]
    unfold oA oB
    by_cases e : s = 1
    · rw [if_pos e, if_pos e]
      unfold pA1 pB1 p1F
      by_cases a : n = 0
      · right; right
        rw [if_pos a]
        subst a
        exact ⟨e, rfl, by decide, rfl, rfl⟩
      · by_cases b : n = 1
        · right; right
          rw [if_neg a, if_pos b]
          subst b
          exact ⟨e, rfl, by decide, rfl, rfl⟩
        · left
          rw [if_neg a, if_neg b]
          show lowF 1 n + 1 * n - lowF 1 n = _
          rw [e]
          omega
    · right; left
      rw [if_neg e, if_neg e]
      refine ⟨by omega, ?_⟩
      show oLow s n + s * n + 1 - oLow s n = _
      omega
theorem dB_ge (hs : 1 ≤ s) {n : Int} (hn : 0 ≤ n) : dA s t n ≤ dB s t n := by
  have := Int.mul_nonneg (show 0 ≤ s by omega) hn
  rcases d_gap (t := t) hs hn with h | ⟨_, h⟩ | ⟨_, _, h, h', _⟩ <;> omega
theorem dB_lt (hs : 1 ≤ s) {n m : Int} (hn : 0 ≤ n) (h : n < m) : dB s t n < dB s t m := by
  have a := dA_lt (t := t) hs hn h
  have mm : s * n + s ≤ s * m := by
    have := Int.mul_le_mul_of_nonneg_left (show n + 1 ≤ m by omega) (show 0 ≤ s by omega)
    rw [Int.mul_add, Int.mul_one] at this
    exact this
  have a0 : ∀ k, 0 ≤ k → k ≤ dA s t k := fun k hk => by
    unfold dA
    cases t
    · rw [if_neg Bool.false_ne_true]; exact low_ge hs hk
    · rw [if_pos rfl]
      have : ∀ j : Nat, (j : Int) ≤ oA s j := fun j => by
        induction j with
        | zero => exact (oA_up hs (Int.le_refl 0)).1
        | succ j ih =>
          have := oA_lt hs (show 0 ≤ (j : Int) by omega) (show (j : Int) < ((j + 1 : Nat) : Int) by omega)
          omega
      have := this k.toNat
      rwa [Int.toNat_of_nonneg hk] at this
  have b0 := a0 m (by omega)
  rcases d_gap (t := t) hs hn with h1 | ⟨h0, h1⟩ | ⟨h0, ht, h1, h2, h3⟩ <;> rcases d_gap (t := t) hs (show 0 ≤ m by omega) with g1 | ⟨g0, g1⟩ | ⟨g0, gt, g1, g2, g3⟩
  · omega
  · omega
  · subst g0; omega
  · omega
  · omega
  · omega
  · subst h0
    have : m ≠ 0 := by omega
    omega
  · omega
  · omega
theorem dA_ge (hs : 1 ≤ s) {k : Int} (hk : 0 ≤ k) : k ≤ dA s t k := by
  have : ∀ j : Nat, (j : Int) ≤ dA s t j := fun j => by
    induction j with
    | zero =>
      unfold dA
      cases t
      · rw [if_neg Bool.false_ne_true]; exact low_ge hs (Int.le_refl 0)
      · rw [if_pos rfl]; exact (oA_up hs (Int.le_refl 0)).1
    | succ j ih =>
      have := dA_lt (t := t) hs (show 0 ≤ (j : Int) by omega) (show (j : Int) < ((j + 1 : Nat) : Int) by omega)
      omega
  have := this k.toNat
  rwa [Int.toNat_of_nonneg hk] at this
theorem dB_ge0 (hs : 1 ≤ s) {k : Int} (hk : 0 ≤ k) : k ≤ dB s t k := Int.le_trans (dA_ge hs hk) (dB_ge hs hk)
theorem leastA (hs : 1 ≤ s) {k : Int} (hk : 0 ≤ k) : leastF (dA s t) (dA s t k) = k :=
  least_eq (fun m hm => dA_ge hs hm) (Int.le_trans hk (dA_ge hs hk)) hk (Int.le_refl _) (fun m h1 h2 => dA_lt hs h1 h2)
theorem leastB (hs : 1 ≤ s) {k : Int} (hk : 0 ≤ k) : leastF (dB s t) (dB s t k) = k :=
  least_eq (fun m hm => dB_ge0 hs hm) (Int.le_trans hk (dB_ge0 hs hk)) hk (Int.le_refl _) (fun m h1 h2 => dB_lt hs h1 h2)
theorem lost_d (hs : 1 ≤ s) {i j : Int} (h0 : 0 ≤ i) (h1 : i ≤ j) : lostF s t (i, j) = true ↔ ∃ k, 0 ≤ k ∧ i = dA s t k ∧ j = dB s t k := by
  unfold dA dB
  cases t
  · rw [if_neg Bool.false_ne_true, if_neg Bool.false_ne_true]; exact lost_le hs h0 h1
  · rw [if_pos rfl, if_pos rfl]; exact lost_o hs h0 h1
theorem lost_pair (hs : 1 ≤ s) {k : Int} (hk : 0 ≤ k) : lostF s t (dA s t k, dB s t k) = true ∧ lostF s t (dB s t k, dA s t k) = true := by
  have a := (lost_d (t := t) hs (Int.le_trans hk (dA_ge hs hk)) (dB_ge hs hk)).mpr ⟨k, hk, rfl, rfl⟩
  refine ⟨a, ?_⟩
  rw [← lost_swap]
  exact a
/-- the numbers that are looked at -/
def nearI (s : Int) (t : Bool) (p : ZZ) : List Int := [leastF (dA s t) p.1, leastF (dB s t) p.1, leastF (dA s t) p.2, leastF (dB s t) p.2]
def nearJ (s : Int) (p : ZZ) : List Int := ((List.range 3).map fun (i : Nat) => absI (p.1 - p.2) / s - 1 + (i : Int)).filter fun n => decide (0 ≤ n)
theorem mem_nearJ {p : ZZ} {k : Int} (hk : 0 ≤ k) (h1 : absI (p.1 - p.2) / s - 1 ≤ k) (h2 : k ≤ absI (p.1 - p.2) / s + 1) : k ∈ nearJ s p := by
  refine List.mem_filter.mpr ⟨List.mem_map.mpr ⟨(k - (absI (p.1 - p.2) / s - 1)).toNat, List.mem_range.mpr (by omega), by omega⟩, decide_eq_true hk⟩
theorem near_all (hs : 1 ≤ s) {p q : ZZ} (p1 : 0 ≤ p.1) (p2 : 0 ≤ p.2) (q1 : 0 ≤ q.1) (q2 : 0 ≤ q.2) (hl : lostF s t q = true) (hw : leadsF s p q = true) :
    ∃ k, k ∈ nearI s t p ++ nearJ s p ∧ 0 ≤ k ∧ (q = (dA s t k, dB s t k) ∨ q = (dB s t k, dA s t k)) := by
  obtain ⟨k, hk, e⟩ : ∃ k, 0 ≤ k ∧ (q = (dA s t k, dB s t k) ∨ q = (dB s t k, dA s t k)) := by
    by_cases z : q.1 ≤ q.2
    · obtain ⟨k, hk, a, b⟩ := (lost_d hs q1 z).mp hl
      exact ⟨k, hk, .inl (Prod.ext a b)⟩
    · rw [← lost_swap] at hl
      obtain ⟨k, hk, a, b⟩ := (lost_d (i := q.2) (j := q.1) hs q2 (by omega)).mp hl
      exact ⟨k, hk, .inr (Prod.ext b a)⟩
  refine ⟨k, ?_, hk, e⟩
  obtain ⟨_, _, _, hc⟩ := leads_iff.mp hw
  have ee : (q.1 = dA s t k ∧ q.2 = dB s t k) ∨ (q.1 = dB s t k ∧ q.2 = dA s t k) := by
    rcases e with e | e
    · exact .inl ⟨congrArg Prod.fst e, congrArg Prod.snd e⟩
    · exact .inr ⟨congrArg Prod.fst e, congrArg Prod.snd e⟩
  have lA := leastA (t := t) hs hk
  have lB := leastB (t := t) hs hk
  rw [List.mem_append]
  rcases hc with hc | hc | ⟨c1, c2⟩
  · left
    unfold nearI
    rcases ee with ⟨a, b⟩ | ⟨a, b⟩
    · rw [hc, a, lA]; exact List.mem_cons_self
    · rw [hc, a, lB]; exact List.mem_cons_of_mem _ List.mem_cons_self
  · left
    unfold nearI
    rcases ee with ⟨a, b⟩ | ⟨a, b⟩
    · rw [hc, b, lB]; exact List.mem_cons_of_mem _ (List.mem_cons_of_mem _ (List.mem_cons_of_mem _ List.mem_cons_self))
    · rw [hc, b, lA]; exact List.mem_cons_of_mem _ (List.mem_cons_of_mem _ List.mem_cons_self)
  · right
    have gB := dB_ge (t := t) hs hk
    obtain ⟨g, hg⟩ : ∃ g, dB s t k - dA s t k = g := ⟨_, rfl⟩
    obtain ⟨D, hD⟩ : ∃ D, absI (p.1 - p.2) = D := ⟨_, rfl⟩
    have d0 : 0 ≤ D ∧ (D - g < s ∧ g - D < s) := by
      unfold absI at hD
      split at hD <;> rcases ee with ⟨a, b⟩ | ⟨a, b⟩ <;> omega
    obtain ⟨d0, d1, d2⟩ := d0
    have m1 := Int.mul_ediv_add_emod D s
    have m2 := Int.emod_nonneg D (show s ≠ 0 by omega)
    have m3 := Int.emod_lt_of_pos D (show 0 < s by omega)
    refine mem_nearJ hk ?_ ?_
    · rw [hD]
      rcases Int.lt_or_le k (D / s - 1) with z | z
      · exfalso
        have := Int.mul_le_mul_of_nonneg_left (show k + 2 ≤ D / s by omega) (show 0 ≤ s by omega)
        rw [Int.mul_add] at this
        rcases d_gap (t := t) hs hk with h | ⟨h0, h⟩ | ⟨h0, ht, h1, h2, _⟩
        · omega
        · omega
        · subst h0; omega
      · exact z
    · rw [hD]
      rcases Int.lt_or_le (D / s + 1) k with z | z
      · exfalso
        have := Int.mul_le_mul_of_nonneg_left (show D / s + 2 ≤ k by omega) (show 0 ≤ s by omega)
        rw [Int.mul_add] at this
        rcases d_gap (t := t) hs hk with h | ⟨h0, h⟩ | ⟨h0, ht, h1, h2, _⟩
        · omega
        · omega
        · subst h0; omega
      · exact z
theorem near_nn (hs : 1 ≤ s) {p : ZZ} (p1 : 0 ≤ p.1) (p2 : 0 ≤ p.2) {k : Int} (h : k ∈ nearI s t p ++ nearJ s p) : 0 ≤ k ∧ k ≤ max p.1 p.2 + 1 := by
  rcases List.mem_append.mp h with h | h
  · have a1 := least_spec (f := dA s t) (v := p.1) (fun m hm => dA_ge hs hm) p1
    have a2 := least_spec (f := dB s t) (v := p.1) (fun m hm => dB_ge0 hs hm) p1
    have a3 := least_spec (f := dA s t) (v := p.2) (fun m hm => dA_ge hs hm) p2
    have a4 := least_spec (f := dB s t) (v := p.2) (fun m hm => dB_ge0 hs hm) p2
    unfold nearI at h
    simp only [List.mem_cons, List.not_mem_nil, or_false] at h
    rcases h with h | h | h | h <;> omega
  · obtain ⟨h1, h2⟩ := List.mem_filter.mp h
    obtain ⟨i, hi, e⟩ := List.mem_map.mp h1
    have hi := List.mem_range.mp hi
    have h2 := of_decide_eq_true h2
    have d0 : 0 ≤ absI (p.1 - p.2) ∧ absI (p.1 - p.2) ≤ max p.1 p.2 := by unfold absI; split <;> omega
    have := Int.ediv_le_self (a := absI (p.1 - p.2)) s d0.1
    omega
/-- what wins: the lost places led to, ascending -/
@[irreducible] def winsF (s : Int) (t : Bool) (p : ZZ) : List ZZ := (ledF s p).filter fun q => lostF s t q
theorem mem_wins {p q : ZZ} : q ∈ winsF s t p ↔ 0 ≤ q.1 ∧ 0 ≤ q.2 ∧ leadsF s p q = true ∧ lostF s t q = true := by
  unfold winsF
  rw [List.mem_filter, mem_led]
  constructor
  · rintro ⟨⟨a, b, c⟩, d⟩; exact ⟨a, b, c, d⟩
  · rintro ⟨a, b, c, d⟩; exact ⟨⟨a, b, c⟩, d⟩
theorem srt_wins (s : Int) (t : Bool) (p : ZZ) : SrtO.Srtd plt (winsF s t p) := by unfold winsF; exact (srt_led s p).filter _
theorem nodup_wins (s : Int) (t : Bool) (p : ZZ) : (winsF s t p).Nodup := by unfold winsF; exact (nodup_led s p).filter _
theorem wins_def (s : Int) (t : Bool) (p : ZZ) : winsF s t p = (ledF s p).filter fun q => lostF s t q := by unfold winsF; rfl
/-- a lost place wins nowhere; others do -/
theorem wins_nil {p : ZZ} (p1 : 0 ≤ p.1) (p2 : 0 ≤ p.2) : winsF s t p = [] ↔ lostF s t p = true ∨ (t = true ∧ p.1 + p.2 = 0) := by
  rw [List.eq_nil_iff_forall_not_mem]
  constructor
  · intro h
    by_cases z : t = true ∧ p.1 + p.2 = 0
    · exact .inr z
    · left
      refine lost_iff.mpr ⟨fun q hq => ?_, z⟩
      obtain ⟨a, b, c⟩ := mem_led.mp hq
      cases e : lostF s t q with
      | false => rfl
      | true => exact absurd (mem_wins.mpr ⟨a, b, c, e⟩) (h q)
  · rintro (h | ⟨ht, h⟩) q hq
    · obtain ⟨a, b, c, d⟩ := mem_wins.mp hq
      have := (lost_iff.mp h).1 q (mem_led.mpr ⟨a, b, c⟩)
      rw [d] at this
      cases this
    · obtain ⟨a, b, c, d⟩ := mem_wins.mp hq
      have := leads_iff.mp c
      omega
end
end DL

set_option Elab.async false
set_option linter.all false
set_option maxRecDepth 100000
set_option maxHeartbeats 4000000
/-! M12: the places tried by law k11 hold all lost places led to; own objects behind any others. -/
namespace DL
open PySem PySem.W L2
/-- the number of the pair of v -/
def pwF (s v : Int) : Int := if lowF s (cntF s v) = v then cntF s v else v - cntF s v
def plF (s k : Int) : ZZ := (lowF s k, highF s k)
section
variable {s : Int}
theorem pwF_nn (hs : 1 ≤ s) {v : Int} (hv : 0 ≤ v) : 0 ≤ pwF s v ∧ pwF s v ≤ v := by
  have a := cnt_nn hs hv
  have b := cnt_le hs hv
  unfold pwF
  split <;> omega
theorem pwF_low (hs : 1 ≤ s) {k : Int} (hk : 0 ≤ k) : pwF s (lowF s k) = k := by
  unfold pwF
  rw [low_num hs hk, if_pos rfl]
theorem pwF_high (hs : 1 ≤ s) {k : Int} (hk : 1 ≤ k) : pwF s (highF s k) = k := by
  have h0 := high_nn hs (show 0 ≤ k by omega)
  have lk : k ≤ highF s k := by
    have a := low_ge hs (show 0 ≤ k by omega)
    have b := Int.mul_nonneg (show 0 ≤ s by omega) (show 0 ≤ k by omega)
    unfold highF
    omega
  have n := high_num hs (show 0 ≤ k by omega)
  unfold pwF
  by_cases c : lowF s (cntF s (highF s k)) = highF s k
  · exfalso
    by_cases z : 1 ≤ cntF s (highF s k)
    · exact low_ne_high hs z hk c
    · have e : cntF s (highF s k) = 0 := by have := cnt_nn hs h0; omega
      rw [e, low_zero hs] at c
      omega
  · rw [if_neg c]
    exact n
/-- the places that law k11 tries -/
def trF (s : Int) (p : ZZ) : List ZZ := (([p.1, p.2].filter fun v => decide (0 < v)).map fun v => plF s (pwF s v)) ++ [plF s ((max p.1 p.2 - min p.1 p.2) / s), plF s ((max p.1 p.2 - min p.1 p.2) / s + 1)]
theorem tr_lost (hs : 1 ≤ s) {p : ZZ} (p1 : 0 ≤ p.1) (p2 : 0 ≤ p.2) {q : ZZ} (h : q ∈ (0, 0) :: trF s p) : ∃ k, 0 ≤ k ∧ q = plF s k := by
  rcases List.mem_cons.mp h with h | h
  · exact ⟨0, Int.le_refl 0, by rw [h]; unfold plF; rw [low_zero hs, high_zero hs]⟩
  unfold trF at h
  have d0 : 0 ≤ (max p.1 p.2 - min p.1 p.2) / s := Int.ediv_nonneg (by omega) (by omega)
  rcases List.mem_append.mp h with h | h
  · obtain ⟨v, hv, e⟩ := List.mem_map.mp h
    have v0 := of_decide_eq_true (List.mem_filter.mp hv).2
    exact ⟨_, (pwF_nn hs (by omega)).1, e.symm⟩
  · simp only [List.mem_cons, List.not_mem_nil, or_false] at h
    rcases h with h | h
    · exact ⟨_, d0, h⟩
    · exact ⟨_, by omega, h⟩
theorem tr_all (hs : 1 ≤ s) {p q : ZZ} (p1 : 0 ≤ p.1) (p2 : 0 ≤ p.2) {k : Int} (hk : 0 ≤ k) (e : q = plF s k ∨ q = sw (plF s k)) (hw : leadsF s p q = true) : plF s k ∈ (0, 0) :: trF s p := by
  have ee : (q.1 = lowF s k ∧ q.2 = highF s k) ∨ (q.1 = highF s k ∧ q.2 = lowF s k) := by
    rcases e with e | e
    · exact .inl ⟨congrArg Prod.fst e, congrArg Prod.snd e⟩
    · exact .inr ⟨congrArg Prod.fst e, congrArg Prod.snd e⟩
  by_cases k0 : k = 0
  · subst k0
    unfold plF
    rw [low_zero hs, high_zero hs]
    exact List.mem_cons_self
  refine List.mem_cons_of_mem _ ?_
  unfold trF
  rw [List.mem_append]
  have lk := low_ge hs hk
  have lh : lowF s k ≤ highF s k := by
    have := Int.mul_nonneg (show 0 ≤ s by omega) hk
    unfold highF
    omega
  have wl := pwF_low hs hk
  have wh := pwF_high hs (show 1 ≤ k by omega)
  have one : ∀ v, v ∈ [p.1, p.2] → (v = lowF s k ∨ v = highF s k) → plF s k ∈ ([p.1, p.2].filter fun v => decide (0 < v)).map fun v => plF s (pwF s v) := fun v hv hx => by
    refine List.mem_map.mpr ⟨v, List.mem_filter.mpr ⟨hv, decide_eq_true ?_⟩, ?_⟩
    · rcases hx with h | h <;> omega
    · rcases hx with h | h
      · rw [h, wl]
      · rw [h, wh]
  obtain ⟨_, _, _, hc⟩ := leads_iff.mp hw
  rcases hc with hc | hc | ⟨c1, c2⟩
  · left
    refine one p.1 List.mem_cons_self ?_
    rcases ee with ⟨a, b⟩ | ⟨a, b⟩ <;> omega
  · left
    refine one p.2 (List.mem_cons_of_mem _ List.mem_cons_self) ?_
    rcases ee with ⟨a, b⟩ | ⟨a, b⟩ <;> omega
  · right
    obtain ⟨g, hg⟩ : ∃ g, s * k = g := ⟨_, rfl⟩
    have hh : highF s k - lowF s k = g := by unfold highF; omega
    have gg : 0 ≤ g := by omega
    obtain ⟨D, hD⟩ : ∃ D, max p.1 p.2 - min p.1 p.2 = D := ⟨_, rfl⟩
    have d12 : 0 ≤ D ∧ D - g < s ∧ g - D < s := by rcases ee with ⟨a, b⟩ | ⟨a, b⟩ <;> omega
    rw [hD]
    have m1 := Int.mul_ediv_add_emod D s
    have m2 := Int.emod_nonneg D (show s ≠ 0 by omega)
    have m3 := Int.emod_lt_of_pos D (show 0 < s by omega)
    have k1 : D / s ≤ k := by
      rcases Int.lt_or_le k (D / s) with z | z
      · exfalso
        have := Int.mul_le_mul_of_nonneg_left (show k + 1 ≤ D / s by omega) (show 0 ≤ s by omega)
        rw [Int.mul_add] at this
        omega
      · exact z
    have k2 : k ≤ D / s + 1 := by
      rcases Int.lt_or_le (D / s + 1) k with z | z
      · exfalso
        have := Int.mul_le_mul_of_nonneg_left (show D / s + 2 ≤ k by omega) (show 0 ≤ s by omega)
        rw [Int.mul_add] at this
        omega
      · exact z
    by_cases z : k = D / s
    · rw [z]; exact List.mem_cons_self
    · have : k = D / s + 1 := by omega
      rw [this]; exact List.mem_cons_of_mem _ List.mem_cons_self
/-- what is due: each place tried, both ways round, once, if led to -/
def duS (s : Int) (p : ZZ) (acc : List ZZ) (q : ZZ) : List ZZ := if q ∉ acc ∧ leadsF s p q = true then acc ++ [q] else acc
theorem duS_nodup {p q : ZZ} {acc : List ZZ} (h : acc.Nodup) : (duS s p acc q).Nodup := by
  unfold duS
  split
  · rename_i c
    rw [List.nodup_append]
    exact ⟨h, by simp, fun a ha b hb e => c.1 (by rw [List.mem_singleton] at hb; rw [← hb, ← e]; exact ha)⟩
  · exact h
theorem duS_mem {p q x : ZZ} {acc : List ZZ} (h : ∀ y, y ∈ acc → leadsF s p y = true) : x ∈ duS s p acc q ↔ x ∈ acc ∨ (x = q ∧ leadsF s p x = true) := by
  unfold duS
  split
  · rename_i c
    rw [List.mem_append, List.mem_singleton]
    constructor
    · rintro (z | z)
      · exact .inl z
      · exact .inr ⟨z, by rw [z]; exact c.2⟩
    · rintro (z | ⟨z, _⟩)
      · exact .inl z
      · exact .inr z
  · rename_i c
    constructor
    · exact .inl
    · rintro (z | ⟨z, y⟩)
      · exact z
      · subst z
        by_cases m : x ∈ acc
        · exact m
        · exact absurd ⟨m, y⟩ c
/-- .. of the first of the places tried -/
def Due (s : Int) (p : ZZ) (ts acc : List ZZ) : Prop := acc.Nodup ∧ acc.length ≤ 2 * ts.length ∧ ∀ x, x ∈ acc ↔ leadsF s p x = true ∧ ∃ q, q ∈ ts ∧ (x = q ∨ x = sw q)
theorem due_nil {p : ZZ} : Due s p [] [] := ⟨List.nodup_nil, Nat.le_refl _, fun x => ⟨fun h => (by cases h), fun ⟨_, _, h, _⟩ => (by cases h)⟩⟩
theorem duS_len {p q : ZZ} {acc : List ZZ} : (duS s p acc q).length ≤ acc.length + 1 := by
  unfold duS
  split
  · rw [List.length_append]; exact Nat.le_refl _
  · omega
theorem due_step {p q : ZZ} {ts acc : List ZZ} (h : Due s p ts acc) : Due s p (ts ++ [q]) (duS s p (duS s p acc q) (sw q)) := by
  obtain ⟨h1, h2, h3⟩ := h
  have l1 : ∀ y, y ∈ acc → leadsF s p y = true := fun y hy => ((h3 y).mp hy).1
  have l2 : ∀ y, y ∈ duS s p acc q → leadsF s p y = true := fun y hy => by
    rcases (duS_mem l1).mp hy with z | ⟨_, z⟩
    · exact l1 y z
    · exact z
  refine ⟨duS_nodup (duS_nodup h1), ?_, fun x => ?_⟩
  · have a := duS_len (s := s) (p := p) (q := q) (acc := acc)
    have b := duS_len (s := s) (p := p) (q := sw q) (acc := duS s p acc q)
    rw [List.length_append]
    show _ ≤ 2 * (_ + 1)
    omega
  · rw [duS_mem l2, duS_mem l1, h3]
    constructor
    · rintro ((⟨a, y, b, c⟩ | ⟨a, b⟩) | ⟨a, b⟩)
      · exact ⟨a, y, List.mem_append_left _ b, c⟩
      · exact ⟨b, q, List.mem_append_right _ List.mem_cons_self, .inl a⟩
      · exact ⟨b, q, List.mem_append_right _ List.mem_cons_self, .inr a⟩
    · rintro ⟨a, y, b, c⟩
      rcases List.mem_append.mp b with b | b
      · exact .inl (.inl ⟨a, y, b, c⟩)
      · have b := List.mem_singleton.mp b
        subst b
        rcases c with c | c
        · exact .inl (.inr ⟨c, a⟩)
        · exact .inr ⟨c, a⟩
theorem due_wins (hs : 1 ≤ s) {p : ZZ} (p1 : 0 ≤ p.1) (p2 : 0 ≤ p.2) {acc : List ZZ} (h : Due s p ((0, 0) :: trF s p) acc) : (winsF s false p).Perm acc := by
  obtain ⟨h1, _, h3⟩ := h
  refine perm_mem (nodup_wins s false p) h1 fun q => ?_
  rw [h3, mem_wins]
  constructor
  · rintro ⟨a, b, c, d⟩
    obtain ⟨k, hk, e⟩ : ∃ k, 0 ≤ k ∧ (q = plF s k ∨ q = sw (plF s k)) := by
      by_cases z : q.1 ≤ q.2
      · obtain ⟨k, hk, x, y⟩ := (lost_le hs a z).mp d
        exact ⟨k, hk, .inl (Prod.ext x y)⟩
      · rw [← lost_swap] at d
        obtain ⟨k, hk, x, y⟩ := (lost_le (i := q.2) (j := q.1) hs b (by omega)).mp d
        exact ⟨k, hk, .inr (Prod.ext y x)⟩
    exact ⟨c, _, tr_all hs p1 p2 hk e c, e⟩
  · rintro ⟨c, y, hy, e⟩
    obtain ⟨k, hk, rfl⟩ := tr_lost hs p1 p2 hy
    have a0 := low_nn hs hk
    have b0 := high_nn hs hk
    have l0 := lost_pair (t := false) hs hk
    rcases e with rfl | rfl
    · exact ⟨a0, b0, c, l0.1⟩
    · exact ⟨b0, a0, c, l0.2⟩
end
/-! ### own objects behind any others -/
theorem ow_get {T : Ow} {w : Own} : (T ++ [w])[T.length]? = some w := by rw [List.getElem?_append_right (Nat.le_refl _), Nat.sub_self]; rfl
theorem ow_set {T : Ow} {w w' : Own} : (T ++ [w]).set T.length w' = T ++ [w'] := by rw [List.set_append_right _ _ (Nat.le_refl _), Nat.sub_self]; rfl
end DL

set_option Elab.async false
set_option linter.all false
set_option maxRecDepth 100000
set_option maxHeartbeats 4000000
namespace LW
open PySem PySem.W L2 DL PyProof.Rows
/-! ### the text by places -/
def topS (i : Nat) : Stmt := PySem.Challenge.pw_coldpairs_k11_main_what_wins_from_great.main.body.getD i (.Pass ⟨0, 0, 0, 0⟩)
structure Top (mg : Str → Option Value) : Prop where
  un : True
  z_bool : mg "bool" = none
  z_isinstance : mg "isinstance" = none
  z_int : mg "int" = none
  z_len : mg "len" = none
  z_tuple : mg "tuple" = none
  z_all : mg "all" = none
  z_list : mg "list" = none
  z_max : mg "max" = none
  z_min : mg "min" = none
  z_abs : mg "abs" = none
  z_range : mg "range" = none
  z_sorted : mg "sorted" = none
  z_enumerate : mg "enumerate" = none
  z_zip : mg "zip" = none
  z_str : mg "str" = none
  z_ValueError : mg "ValueError" = none
  c_MOST_SLACK : ∃ t, mg "MOST_SLACK" = some (.int 50 t)
  c_GREAT : ∃ t, mg "GREAT" = some (.int 1000000000000000000000000000000000000000000000000000000000000 t)
  m_isqrt : mg "isqrt" = some (.builtin "math.isqrt")
abbrev i_CanNot : Nat := 0
abbrev i_TooMany : Nat := 1
abbrev i_Unfit : Nat := 2
abbrev i_answer : Nat := 3
abbrev i_other_low_in : Nat := 4
abbrev i_other_high_in : Nat := 5
abbrev i_low_in : Nat := 6
abbrev i_high_in : Nat := 7
/-- where the errors and the doors stand -/
structure Ad (K : PySem.W.Frag) (mg : Str → Option Value) (ad : Nat → Addr) : Prop where
  un : True
  e_CanNot : OwnErr K mg "CanNot" (ad i_CanNot)
  e_TooMany : OwnErr K mg "TooMany" (ad i_TooMany)
  e_Unfit : OwnErr K mg "Unfit" (ad i_Unfit)
  s_CanNot_CanNot : PySem.W.subIn K (.ref (ad i_CanNot)) (.ref (ad i_CanNot)) = some true
  s_CanNot_TooMany : PySem.W.subIn K (.ref (ad i_CanNot)) (.ref (ad i_TooMany)) = some false
  s_CanNot_Unfit : PySem.W.subIn K (.ref (ad i_CanNot)) (.ref (ad i_Unfit)) = some false
  s_TooMany_CanNot : PySem.W.subIn K (.ref (ad i_TooMany)) (.ref (ad i_CanNot)) = some false
  s_TooMany_TooMany : PySem.W.subIn K (.ref (ad i_TooMany)) (.ref (ad i_TooMany)) = some true
  s_TooMany_Unfit : PySem.W.subIn K (.ref (ad i_TooMany)) (.ref (ad i_Unfit)) = some false
  s_Unfit_CanNot : PySem.W.subIn K (.ref (ad i_Unfit)) (.ref (ad i_CanNot)) = some false
  s_Unfit_TooMany : PySem.W.subIn K (.ref (ad i_Unfit)) (.ref (ad i_TooMany)) = some false
  s_Unfit_Unfit : PySem.W.subIn K (.ref (ad i_Unfit)) (.ref (ad i_Unfit)) = some true
  d_answer : mg "answer" = some (.ref (ad i_answer))
  d_other_low_in : mg "other_low_in" = some (.ref (ad i_other_low_in))
  d_other_high_in : mg "other_high_in" = some (.ref (ad i_other_high_in))
  d_low_in : mg "low_in" = some (.ref (ad i_low_in))
  d_high_in : mg "high_in" = some (.ref (ad i_high_in))
  n_answer_other_low_in : ad i_answer ≠ ad i_other_low_in
  n_answer_other_high_in : ad i_answer ≠ ad i_other_high_in
  n_answer_low_in : ad i_answer ≠ ad i_low_in
  n_answer_high_in : ad i_answer ≠ ad i_high_in
  n_other_low_in_answer : ad i_other_low_in ≠ ad i_answer
  n_other_low_in_other_high_in : ad i_other_low_in ≠ ad i_other_high_in
  n_other_low_in_low_in : ad i_other_low_in ≠ ad i_low_in
  n_other_low_in_high_in : ad i_other_low_in ≠ ad i_high_in
  n_other_high_in_answer : ad i_other_high_in ≠ ad i_answer
  n_other_high_in_other_low_in : ad i_other_high_in ≠ ad i_other_low_in
  n_other_high_in_low_in : ad i_other_high_in ≠ ad i_low_in
  n_other_high_in_high_in : ad i_other_high_in ≠ ad i_high_in
  n_low_in_answer : ad i_low_in ≠ ad i_answer
  n_low_in_other_low_in : ad i_low_in ≠ ad i_other_low_in
  n_low_in_other_high_in : ad i_low_in ≠ ad i_other_high_in
  n_low_in_high_in : ad i_low_in ≠ ad i_high_in
  n_high_in_answer : ad i_high_in ≠ ad i_answer
  n_high_in_other_low_in : ad i_high_in ≠ ad i_other_low_in
  n_high_in_other_high_in : ad i_high_in ≠ ad i_other_high_in
  n_high_in_low_in : ad i_high_in ≠ ad i_low_in
section
variable {P : Program} {w : World} {K : PySem.W.Frag} {mg : Str → Option Value} {base : Heap} {ad : Nat → Addr}
/-! ### is_number -/
abbrev s_is_number : Stmt := topS 8
abbrev N_is_number : List Str := ["thing"]
theorem sc_is_number : FnScope N_is_number ["thing"] (defScope s_is_number) := ⟨rfl, rfl, rfl, by decide +kernel, rfl, by decide +kernel, by decide +kernel⟩
def isNum : D → Bool
  | .int _ => true | _ => false
abbrev R_is_number : List D → D → Prop := fun ds d => ∃ x, notRaw x = true ∧ ds = [x] ∧ d = .bl (isNum x)
theorem l_is_number : ∀ ds d, R_is_number ds d → ds.length = 1 := fun _ _ ⟨_, _, e, _⟩ => by rw [e]; rfl
theorem u_is_number {x : D} : ∀ d', R_is_number [x] d' → d' = .bl (isNum x) := fun _ ⟨_, _, e, e'⟩ => by cases e; exact e'
def sp_is_number (K : PySem.W.Frag) : Sp := spR K R_is_number
def t_is_number (K : PySem.W.Frag) : TS := (tRet (tAndT K (tCB (rIsiX K) (tCons (tVar 0) (tCons (tC (.ty "int")) tNil))) (tNotT K (tCB (rIsiX K) (tCons (tVar 0) (tCons (tC (.ty "bool")) tNil))))))
theorem p_is_number (T : Top mg) {f : Addr} {cdv : Value} {A : Around} {outer : List Env} {s : Shared} {H : Hp} {E : XK} (hr : Room 0 (A.deeper (envOfC "is_number" (defScope s_is_number) s.heap.objs.size f cdv))) : PSs (cxOf CX0 P w K mg base N_is_number "is_number" (defScope s_is_number) f cdv A outer s H E).nox (defBody s_is_number) (t_is_number K) :=
  (pss_one (ps_ret (pe_andT (pe_callB cr_isiX (by rfl) T.z_isinstance (by decide +kernel) (pa_cons (pv 0) (pa_cons (pe_bltn (v := .ty "int") (by rfl) T.z_int (by decide +kernel) rfl) pa_nil))) (pe_one (pe_notT (pe_callB cr_isiX (by rfl) T.z_isinstance (by decide +kernel) (pa_cons (pv 0) (pa_cons (pe_bltn (v := .ty "bool") (by rfl) T.z_bool (by decide +kernel) rfl) pa_nil))))))))
theorem w_is_number : ∀ ds d, R_is_number ds d → WS K false (t_is_number K) (args N_is_number.length ds) [] (fin (R_is_number ds)) := by
  rintro ds d ⟨x, hx, rfl, rfl⟩
  refine ws_ret (ev_and (ev_cb (ea_cons (ev_var rfl) (ea_cons ev_raw ea_nil)) (rc_isInt hx)) (fun _ => ev_not (ev_cb (ea_cons (ev_var rfl) (ea_cons ev_raw ea_nil)) (rc_isBool hx)))) ⟨x, hx, rfl, ?_⟩
  cases x <;> rfl
theorem av_is_number (T : Top mg) {f : Addr} {fd : FuncData} (F : Fun K "is_number" "is_number" s_is_number f fd) (hm : mg "is_number" = some (.ref f)) : Av P w K mg base 1 "is_number" ["thing"] (sp_is_number K) :=
  av_mk F (ok_pure F sc_is_number (fun ds d h => l_is_number ds d h) (fun cdv A outer s H E hr => p_is_number T hr) w_is_number) hm (fun _ _ _ _ _ _ us hl => match us, hl with | [_], _ => rfl) (fun _ _ _ _ _ _ us hl => match us, hl with | [_], _ => rfl)
/-! ### is_within -/
abbrev s_is_within : Stmt := topS 9
abbrev N_is_within : List Str := ["thing", "least", "most"]
theorem sc_is_within : FnScope N_is_within ["thing", "least", "most"] (defScope s_is_within) := ⟨rfl, rfl, rfl, by decide +kernel, rfl, by decide +kernel, by decide +kernel⟩
def wiB (lo hi : Int) : D → Bool
  | .int n => decide (lo ≤ n) && decide (n ≤ hi)
  | _ => false
abbrev R_is_within : List D → D → Prop := fun ds d => ∃ x lo hi, notRaw x = true ∧ ds = [x, .int lo, .int hi] ∧ d = .bl (wiB lo hi x)
theorem l_is_within : ∀ ds d, R_is_within ds d → ds.length = 3 := fun _ _ ⟨_, _, _, _, e, _⟩ => by rw [e]; rfl
theorem u_is_within {x : D} {lo hi : Int} : ∀ d', R_is_within [x, .int lo, .int hi] d' → d' = .bl (wiB lo hi x) := fun _ ⟨_, _, _, _, e, e'⟩ => by cases e; exact e'
def sp_is_within (K : PySem.W.Frag) : Sp := spR K R_is_within
def t_is_within (K : PySem.W.Frag) : TS := (tRet (tAndT K (tCall (sp_is_number K) [] E0 (tCons (tVar 0) tNil)) (tChain rLeX rLeX (tVar 1) (tVar 0) (tVar 2))))
theorem p_is_within (T : Top mg) (a_is_number : Av P w K mg base 1 "is_number" ["thing"] (sp_is_number K)) {f : Addr} {cdv : Value} {A : Around} {outer : List Env} {s : Shared} {H : Hp} {E : XK} (hr : Room 1 (A.deeper (envOfC "is_within" (defScope s_is_within) s.heap.objs.size f cdv))) : PSs (cxOf CX0 P w K mg base N_is_within "is_within" (defScope s_is_within) f cdv A outer s H E).nox (defBody s_is_within) (t_is_within K) :=
  (pss_one (ps_ret (pe_andT (pe_av a_is_number hr rfl (pa_cons (pv 0) pa_nil)) (pe_one (pe_chain op_leX op_leX (pv 1) (pv 0) (pv 2))))))
theorem w_is_within : ∀ ds d, R_is_within ds d → WS K false (t_is_within K) (args N_is_within.length ds) [] (fin (R_is_within ds)) := by
  rintro ds d ⟨x, lo, hi, hx, rfl, rfl⟩
  refine ws_ret (d := .bl (wiB lo hi x)) ?_ ⟨x, lo, hi, hx, rfl, rfl⟩
  have h1 : Ev K false (tCall (sp_is_number K) [] E0 (tCons (tVar 0) tNil)) (args N_is_within.length [x, .int lo, .int hi]) [] (.bl (isNum x)) := ev_call (ea_cons (ev_var rfl) ea_nil) ⟨x, hx, rfl, rfl⟩ u_is_number
  cases x with
  | int n =>
    exact (ev_and h1 fun _ => ev_chain (ev_var rfl) (ev_var rfl) rd_le (fun _ => ev_var rfl) (fun _ => rd_le)).to rfl
  | _ => exact (ev_and (b := false) h1 fun e => Bool.noConfusion e).to rfl
theorem av_is_within (T : Top mg) (a_is_number : Av P w K mg base 1 "is_number" ["thing"] (sp_is_number K)) {f : Addr} {fd : FuncData} (F : Fun K "is_within" "is_within" s_is_within f fd) (hm : mg "is_within" = some (.ref f)) : Av P w K mg base 2 "is_within" ["thing", "least", "most"] (sp_is_within K) :=
  av_mk F (ok_pure F sc_is_within (fun ds d h => l_is_within ds d h) (fun cdv A outer s H E hr => p_is_within T a_is_number hr) w_is_within) hm (fun _ _ _ _ _ _ us hl => match us, hl with | [_, _, _], _ => rfl) (fun _ _ _ _ _ _ us hl => match us, hl with | [_, _, _], _ => rfl)
/-! ### is_long -/
abbrev s_is_long : Stmt := topS 10
abbrev N_is_long : List Str := ["thing", "length"]
theorem sc_is_long : FnScope N_is_long ["thing", "length"] (defScope s_is_long) := ⟨rfl, rfl, rfl, by decide +kernel, rfl, by decide +kernel, by decide +kernel⟩
def ilB (n : Int) : D → Bool
  | .tup xs => decide ((xs.length : Int) = n)
  | _ => false
abbrev R_is_long : List D → D → Prop := fun ds d => ∃ x n, notRaw x = true ∧ ds = [x, .int n] ∧ d = .bl (ilB n x)
theorem l_is_long : ∀ ds d, R_is_long ds d → ds.length = 2 := fun _ _ ⟨_, _, _, e, _⟩ => by rw [e]; rfl
theorem u_is_long {x : D} {n : Int} : ∀ d', R_is_long [x, .int n] d' → d' = .bl (ilB n x) := fun _ ⟨_, _, _, e, e'⟩ => by cases e; exact e'
theorem c_is_long {K : PySem.W.Frag} {s : Bool} {E : XK} {t : TA} {ρ : En} {ω : Ow} {x : D} {n : Int} (h : EvA K s t ρ ω [x, .int n]) (h1 : notRaw x = true) : Ev K s (tCall (spR K R_is_long) [] E t) ρ ω (.bl (ilB n x)) :=
  ev_call h ⟨x, n, h1, rfl, rfl⟩ u_is_long
def sp_is_long (K : PySem.W.Frag) : Sp := spR K R_is_long
def t_is_long (K : PySem.W.Frag) : TS := (tRet (tAndT K (tCB (rIsiX K) (tCons (tVar 0) (tCons (tC (.ty "tuple")) tNil))) (tOp (rEqX K) (tCB (rLenX K) (tCons (tVar 0) tNil)) (tVar 1))))
theorem p_is_long (T : Top mg) {f : Addr} {cdv : Value} {A : Around} {outer : List Env} {s : Shared} {H : Hp} {E : XK} (hr : Room 0 (A.deeper (envOfC "is_long" (defScope s_is_long) s.heap.objs.size f cdv))) : PSs (cxOf CX0 P w K mg base N_is_long "is_long" (defScope s_is_long) f cdv A outer s H E).nox (defBody s_is_long) (t_is_long K) :=
  (pss_one (ps_ret (pe_andT (pe_callB cr_isiX (by rfl) T.z_isinstance (by decide +kernel) (pa_cons (pv 0) (pa_cons (pe_bltn (v := .ty "tuple") (by rfl) T.z_tuple (by decide +kernel) rfl) pa_nil))) (pe_one (pe_cmpR (op_eqX hr.units) (pe_callB cr_lenX (by rfl) T.z_len (by decide +kernel) (pa_cons (pv 0) pa_nil)) (pv 1) (nomark _))))))
theorem w_is_long : ∀ ds d, R_is_long ds d → WS K false (t_is_long K) (args N_is_long.length ds) [] (fin (R_is_long ds)) := by
  rintro ds d ⟨x, n, hx, rfl, rfl⟩
  refine ws_ret (d := .bl (ilB n x)) ?_ ⟨x, n, hx, rfl, rfl⟩
  have h1 : Ev K false (tCB (rIsiX K) (tCons (tVar 0) (tCons (tC (.ty "tuple")) tNil))) (args N_is_long.length [x, .int n]) [] (.bl (isTup x)) := ev_cb (ea_cons (ev_var rfl) (ea_cons ev_raw ea_nil)) (rc_isTup hx)
  cases x with
  | tup xs => exact (ev_and h1 fun _ => ev_op (ev_cb (ea_cons (ev_var rfl) ea_nil) rc_lenT) (ev_var rfl) rd_eq).to rfl
  | _ => exact (ev_and (b := false) h1 fun e => Bool.noConfusion e).to rfl
theorem av_is_long (T : Top mg) {f : Addr} {fd : FuncData} (F : Fun K "is_long" "is_long" s_is_long f fd) (hm : mg "is_long" = some (.ref f)) : Av P w K mg base 1 "is_long" ["thing", "length"] (sp_is_long K) :=
  av_mk F (ok_pure F sc_is_long (fun ds d h => l_is_long ds d h) (fun cdv A outer s H E hr => p_is_long T hr) w_is_long) hm (fun _ _ _ _ _ _ us hl => match us, hl with | [_, _], _ => rfl) (fun _ _ _ _ _ _ us hl => match us, hl with | [_, _], _ => rfl)
/-! ### are_within -/
abbrev s_are_within : Stmt := topS 11
abbrev N_are_within : List Str := ["thing", "least", "most", "own"]
theorem sc_are_within : FnScope N_are_within ["thing", "least", "most"] (defScope s_are_within) := ⟨rfl, rfl, rfl, by decide +kernel, rfl, by decide +kernel, by decide +kernel⟩
def awB (lo hi : Int) : D → Bool
  | .tup xs => (xs.map (wiB lo hi)).all id
  | _ => false
def shortT : D → Prop
  | .tup xs => xs.length ≤ 1000000
  | _ => True
abbrev R_are_within : List D → D → Prop := fun ds d => ∃ x lo hi, isPy x = true ∧ shortT x ∧ ds = [x, .int lo, .int hi] ∧ d = .bl (awB lo hi x)
theorem l_are_within : ∀ ds d, R_are_within ds d → ds.length = 3 := fun _ _ ⟨_, _, _, _, _, e, _⟩ => by rw [e]; rfl
theorem u_are_within {x : D} {lo hi : Int} : ∀ d', R_are_within [x, .int lo, .int hi] d' → d' = .bl (awB lo hi x) := fun _ ⟨_, _, _, _, _, e, e'⟩ => by cases e; exact e'
theorem c_are_within {K : PySem.W.Frag} {s : Bool} {E : XK} {t : TA} {ρ : En} {ω : Ow} {x : D} {lo hi : Int} (h : EvA K s t ρ ω [x, .int lo, .int hi]) (h1 : isPy x = true) (h2 : shortT x) : Ev K s (tCall (spR K R_are_within) [] E t) ρ ω (.bl (awB lo hi x)) :=
  ev_call h ⟨x, lo, hi, h1, h2, rfl, rfl⟩ u_are_within
def sp_are_within (K : PySem.W.Frag) : Sp := spR K R_are_within
def t_are_within (K : PySem.W.Frag) : TS := (tRet (tAndT K (tCB (rIsiX K) (tCons (tVar 0) (tCons (tC (.ty "tuple")) tNil))) (tCB (rAllX K) (tCons (tLc (iSeqX K (tVar 0)) (gName 3) tYes (tCall (sp_is_within K) [] E0 (tCons (tVar 3) (tCons (tVar 1) (tCons (tVar 2) tNil)))) [3]) tNil))))
theorem p_are_within (T : Top mg) (a_is_within : Av P w K mg base 2 "is_within" ["thing", "least", "most"] (sp_is_within K)) {f : Addr} {cdv : Value} {A : Around} {outer : List Env} {s : Shared} {H : Hp} {E : XK} (hr : Room 2 (A.deeper (envOfC "are_within" (defScope s_are_within) s.heap.objs.size f cdv))) : PSs (cxOf CX0 P w K mg base N_are_within "are_within" (defScope s_are_within) f cdv A outer s H E).nox (defBody s_are_within) (t_are_within K) :=
  (pss_one (ps_ret (pe_andT (pe_callB cr_isiX (by rfl) T.z_isinstance (by decide +kernel) (pa_cons (pv 0) (pa_cons (pe_bltn (v := .ty "tuple") (by rfl) T.z_tuple (by decide +kernel) rfl) pa_nil))) (pe_one (pe_callB (cr_allX rfl) (by rfl) T.z_all (by decide +kernel) (pa_cons (pe_lc (own := [("own", 3)]) rfl sc_are_within.nd (pi_seqX (pv 0)) (blkOk_by (own := [("own", 3)]) (N := N_are_within) (sc := defScope s_are_within) (by decide +kernel)) (fun _ _ _ _ _ => (pg_name (i := 3) sc_are_within.nd rfl (.inl rfl))) (fun _ _ _ _ _ => pts_nil) (fun _ _ _ _ _ => (pe_av a_is_within hr rfl (pa_cons (pv 3) (pa_cons (pv 1) (pa_cons (pv 2) pa_nil)))))) pa_nil))))))
theorem w_are_within : ∀ ds d, R_are_within ds d → WS K false (t_are_within K) (args N_are_within.length ds) [] (fin (R_are_within ds)) := by
  rintro ds d ⟨x, lo, hi, hx, hs, rfl, rfl⟩
  refine ws_ret (d := .bl (awB lo hi x)) ?_ ⟨x, lo, hi, hx, hs, rfl, rfl⟩
  have h1 : Ev K false (tCB (rIsiX K) (tCons (tVar 0) (tCons (tC (.ty "tuple")) tNil))) (args N_are_within.length [x, .int lo, .int hi]) [] (.bl (isTup x)) := ev_cb (ea_cons (ev_var rfl) (ea_cons ev_raw ea_nil)) (rc_isTup (isPy_raw hx))
  cases x with
  | tup xs =>
    refine (ev_and h1 fun _ => ev_cb (ea_cons ((ev_map xs (fun x => x) (fun x => .bl (wiB lo hi x)) (ei_tup' ((ev_var rfl).to (by rw [List.map_id']))) hs (fun a ha => ⟨_, wgw_name, ev_call (ea_cons (ev_var rfl) (ea_cons (ev_var rfl) (ea_cons (ev_var rfl) ea_nil))) ⟨a, lo, hi, isPy_raw (arePy_mem hx ha), rfl, rfl⟩ u_is_within⟩)).to (show _ = D.lst ((xs.map (wiB lo hi)).map .bl) by rw [List.map_map]; rfl)) ea_nil) rc_all).to rfl
  | _ => exact (ev_and (b := false) h1 fun e => Bool.noConfusion e).to rfl
theorem av_are_within (T : Top mg) (a_is_within : Av P w K mg base 2 "is_within" ["thing", "least", "most"] (sp_is_within K)) {f : Addr} {fd : FuncData} (F : Fun K "are_within" "are_within" s_are_within f fd) (hm : mg "are_within" = some (.ref f)) : Av P w K mg base 3 "are_within" ["thing", "least", "most"] (sp_are_within K) :=
  av_mk F (ok_pure F sc_are_within (fun ds d h => l_are_within ds d h) (fun cdv A outer s H E hr => p_are_within T a_is_within hr) w_are_within) hm (fun _ _ _ _ _ _ us hl => match us, hl with | [_, _, _], _ => rfl) (fun _ _ _ _ _ _ us hl => match us, hl with | [_, _, _], _ => rfl)
/-! ### tupled -/
abbrev s_tupled : Stmt := topS 12
abbrev N_tupled : List Str := ["value", "own"]
theorem sc_tupled : FnScope N_tupled ["value"] (defScope s_tupled) := ⟨rfl, rfl, rfl, by decide +kernel, rfl, by decide +kernel, by decide +kernel⟩
/-- tuples in the place of lists, to a depth -/
def tupD : Nat → D → D
  | 0, x => x
  | n + 1, .lst xs => .tup (xs.map (tupD n))
  | n + 1, .tup xs => .tup (xs.map (tupD n))
  | _ + 1, x => x
def Rtup (n : Nat) : List D → D → Prop := fun ds d => ∃ x, ds = [x] ∧ okD n x ∧ d = tupD n x
abbrev R_tupled : List D → D → Prop := Rtup 3
theorem l_tupled : ∀ ds d, R_tupled ds d → ds.length = 1 := fun _ _ ⟨_, e, _⟩ => by rw [e]; rfl
theorem u_tup {n : Nat} {x : D} : ∀ d', Rtup n [x] d' → d' = tupD n x := fun _ ⟨_, e, _, e'⟩ => by cases e; exact e'
theorem c_tupled {K : PySem.W.Frag} {s : Bool} {E : XK} {t : TA} {ρ : En} {ω : Ow} {x : D} (h : EvA K s t ρ ω [x]) (h1 : okD 3 x) : Ev K s (tCall (spR K R_tupled) [] E t) ρ ω (tupD 3 x) :=
  ev_call h ⟨x, rfl, h1, rfl⟩ u_tup
def sp_tupled (K : PySem.W.Frag) : Sp := spR K R_tupled
def t_tupled (K : PySem.W.Frag) (sp_tupled : PySem.W.Frag → Sp) : TS := (tRet (tIf (tTruX K (tCB (rIsiX K) (tCons (tVar 0) (tCons (tTup (tCons (tC (.ty "list")) (tCons (tC (.ty "tuple")) tNil))) tNil)))) (tCB (rTupX K) (tCons (tLc (iSeqX K (tVar 0)) (gName 1) tYes (tCall (sp_tupled K) [] E0 (tCons (tVar 1) tNil)) [1]) tNil)) (tVar 0)))
theorem p_tupled {sp_tupled : PySem.W.Frag → Sp} {kr : Nat} (hkr : 0 ≤ kr) (T : Top mg) (a_tupled : Av P w K mg base kr "tupled" ["value"] (sp_tupled K)) {f : Addr} {cdv : Value} {A : Around} {outer : List Env} {s : Shared} {H : Hp} {E : XK} (hr : Room kr (A.deeper (envOfC "tupled" (defScope s_tupled) s.heap.objs.size f cdv))) : PSs (cxOf CX0 P w K mg base N_tupled "tupled" (defScope s_tupled) f cdv A outer s H E).nox (defBody s_tupled) (t_tupled K sp_tupled) :=
  (pss_one (ps_ret (pe_ifExp (pt_tru (pe_callB cr_isiX (by rfl) T.z_isinstance (by decide +kernel) (pa_cons (pv 0) (pa_cons (pe_tup (pa_cons (pe_bltn (v := .ty "list") (by rfl) T.z_list (by decide +kernel) rfl) (pa_cons (pe_bltn (v := .ty "tuple") (by rfl) T.z_tuple (by decide +kernel) rfl) pa_nil))) pa_nil)))) (pe_callTy cr_tupX (by rfl) T.z_tuple (by decide +kernel) (pa_cons (pe_lc (own := [("own", 1)]) rfl sc_tupled.nd (pi_seqX (pv 0)) (blkOk_by (own := [("own", 1)]) (N := N_tupled) (sc := defScope s_tupled) (by decide +kernel)) (fun _ _ _ _ _ => (pg_name (i := 1) sc_tupled.nd rfl (.inl rfl))) (fun _ _ _ _ _ => pts_nil) (fun _ _ _ _ _ => (pe_avL a_tupled hr rfl (Nat.le_refl _) (pa_cons (pv 1) pa_nil)))) pa_nil)) (pv 0))))
theorem w_tup (n : Nat) (S : List D → D → Prop) (hS : ∀ x m, n = m + 1 → okD m x → S [x] (tupD m x) ∧ ∀ d', S [x] d' → d' = tupD m x) : ∀ ds d, Rtup n ds d → WS K false (t_tupled K fun K => spR K S) (args N_tupled.length ds) [] (fin (Rtup n ds)) := by
  rintro ds d ⟨x, rfl, hx, rfl⟩
  have rx := isPy_raw (okD_py n hx)
  refine ws_ret (d := tupD n x) ((ev_if (et_trub (s := false) (ev_isLT (ev_var rfl) rx)) (d1 := tupD n x) (fun hL => ?_) (fun hL => (ev_var rfl).to ?_)).to (by cases isLst x || isTup x <;> rfl)) ⟨x, rfl, hx, rfl⟩
  · cases x with
    | lst xs =>
      obtain ⟨m, rfl⟩ : ∃ m, n = m + 1 := by
        cases n with
        | zero => exact absurd hx (by intro h; exact h)
        | succ m => exact ⟨m, rfl⟩
      exact ev_cb (ea_cons (ev_map xs (fun x => x) (tupD m) (ei_list' ((ev_var rfl).to (by rw [List.map_id']))) hx.1 (fun a ha => ⟨_, wgw_name, ev_call (ea_cons (ev_var rfl) ea_nil) (hS a m rfl (hx.2 a ha)).1 (hS a m rfl (hx.2 a ha)).2⟩)) ea_nil) rc_tupL
    | tup xs =>
      obtain ⟨m, rfl⟩ : ∃ m, n = m + 1 := by
        cases n with
        | zero => exact absurd hx (by intro h; exact h)
        | succ m => exact ⟨m, rfl⟩
      exact ev_cb (ea_cons (ev_map xs (fun x => x) (tupD m) (ei_tup' ((ev_var rfl).to (by rw [List.map_id']))) hx.1 (fun a ha => ⟨_, wgw_name, ev_call (ea_cons (ev_var rfl) ea_nil) (hS a m rfl (hx.2 a ha)).1 (hS a m rfl (hx.2 a ha)).2⟩)) ea_nil) rc_tupL
    | _ => exact Bool.noConfusion hL
  · cases x with
    | lst xs => exact Bool.noConfusion hL
    | tup xs => exact Bool.noConfusion hL
    | _ => cases n <;> rfl
theorem av_tup (T : Top mg) {f : Addr} {fd : FuncData} (F : Fun K "tupled" "tupled" s_tupled f fd) (hm : mg "tupled" = some (.ref f)) : ∀ n, Av P w K mg base (n + 1) "tupled" ["value"] (spR K (Rtup n))
  | 0 => av_mk F (ok_pure F sc_tupled (fun ds d ⟨_, e, _⟩ => by rw [e]; rfl) (fun cdv A outer s H E hr => p_tupled (sp_tupled := fun K => spR K fun _ _ => False) (Nat.zero_le _) T (av_void F hm (fun _ _ _ _ _ _ us hl => match us, hl with | [_], _ => rfl) (fun _ _ _ _ _ _ us hl => match us, hl with | [_], _ => rfl)) hr) (w_tup 0 _ fun x m e => by omega)) hm (fun _ _ _ _ _ _ us hl => match us, hl with | [_], _ => rfl) (fun _ _ _ _ _ _ us hl => match us, hl with | [_], _ => rfl)
  | n + 1 => av_mk F (ok_pure F sc_tupled (fun ds d ⟨_, e, _⟩ => by rw [e]; rfl) (fun cdv A outer s H E hr => p_tupled (sp_tupled := fun K => spR K (Rtup n)) (Nat.zero_le _) T (av_tup T F hm n) hr) (w_tup (n + 1) _ fun x m e hx => by
      have e' : n = m := by omega
      subst e'
      exact ⟨⟨x, rfl, hx, rfl⟩, u_tup⟩)) hm (fun _ _ _ _ _ _ us hl => match us, hl with | [_], _ => rfl) (fun _ _ _ _ _ _ us hl => match us, hl with | [_], _ => rfl)
theorem av_tupled (T : Top mg) {f : Addr} {fd : FuncData} (F : Fun K "tupled" "tupled" s_tupled f fd) (hm : mg "tupled" = some (.ref f)) : Av P w K mg base 4 "tupled" ["value"] (sp_tupled K) := av_tup T F hm 3
/-! ### sure_within -/
abbrev s_sure_within : Stmt := topS 13
abbrev N_sure_within : List Str := ["thing", "least", "most"]
theorem sc_sure_within : FnScope N_sure_within ["thing", "least", "most"] (defScope s_sure_within) := ⟨rfl, rfl, rfl, by decide +kernel, rfl, by decide +kernel, by decide +kernel⟩
abbrev R_sure_within : List D → D → Prop := fun ds d => ∃ n lo hi, lo ≤ n ∧ n ≤ hi ∧ ds = [.int n, .int lo, .int hi] ∧ d = .int n
theorem l_sure_within : ∀ ds d, R_sure_within ds d → ds.length = 3 := fun _ _ ⟨_, _, _, _, _, e, _⟩ => by rw [e]; rfl
theorem u_sure_within {n lo hi : Int} : ∀ d', R_sure_within [.int n, .int lo, .int hi] d' → d' = .int n := fun _ ⟨_, _, _, _, _, e, e'⟩ => by cases e; exact e'
theorem c_sure_within {K : PySem.W.Frag} {s : Bool} {E : XK} {t : TA} {ρ : En} {ω : Ow} {n lo hi : Int} (h : EvA K s t ρ ω [.int n, .int lo, .int hi]) (h1 : lo ≤ n) (h2 : n ≤ hi) : Ev K s (tCall (spR K R_sure_within) [] E t) ρ ω (.int n) :=
  ev_call h ⟨n, lo, hi, h1, h2, rfl, rfl⟩ u_sure_within
def sp_sure_within (K : PySem.W.Frag) : Sp := spR K R_sure_within
def t_sure_within (K : PySem.W.Frag) : TS := (tSeq (tIfS (tNot (tTruX K (tCall (sp_is_within K) [] E0 (tCons (tVar 0) (tCons (tVar 1) (tCons (tVar 2) tNil)))))) tNever tNext)
    (tRet (tVar 0)))
theorem p_sure_within (T : Top mg) (a_is_within : Av P w K mg base 2 "is_within" ["thing", "least", "most"] (sp_is_within K)) {f : Addr} {cdv : Value} {A : Around} {outer : List Env} {s : Shared} {H : Hp} {E : XK} (hr : Room 2 (A.deeper (envOfC "sure_within" (defScope s_sure_within) s.heap.objs.size f cdv))) : PSs (cxOf CX0 P w K mg base N_sure_within "sure_within" (defScope s_sure_within) f cdv A outer s H E).nox (defBody s_sure_within) (t_sure_within K) :=
  (pss_cons (ps_if (pt_not (pt_tru (pe_av a_is_within hr rfl (pa_cons (pv 0) (pa_cons (pv 1) (pa_cons (pv 2) pa_nil)))))) (pss_one ps_never) pss_nil)
    (pss_one (ps_ret (pv 0))))
theorem w_sure_within : ∀ ds d, R_sure_within ds d → WS K false (t_sure_within K) (args N_sure_within.length ds) [] (fin (R_sure_within ds)) := by
  rintro ds d ⟨n, lo, hi, h1, h2, rfl, rfl⟩
  have e : wiB lo hi (.int n) = true := by
    show (decide (lo ≤ n) && decide (n ≤ hi)) = true
    rw [decide_eq_true h1, decide_eq_true h2]; rfl
  refine ws_seq (ws_if (c := false) ?_ (fun z => Bool.noConfusion z) fun _ => ws_next ?_)
  · exact (et_not (et_trub (ev_call (s := false) (ea_cons (ev_var rfl) (ea_cons (ev_var rfl) (ea_cons (ev_var rfl) ea_nil))) ⟨.int n, lo, hi, rfl, rfl, rfl⟩ u_is_within))).to (by rw [e]; rfl)
  · exact ws_ret (ev_var rfl) ⟨n, lo, hi, h1, h2, rfl, rfl⟩
theorem av_sure_within (T : Top mg) (a_is_within : Av P w K mg base 2 "is_within" ["thing", "least", "most"] (sp_is_within K)) {f : Addr} {fd : FuncData} (F : Fun K "sure_within" "sure_within" s_sure_within f fd) (hm : mg "sure_within" = some (.ref f)) : Av P w K mg base 3 "sure_within" ["thing", "least", "most"] (sp_sure_within K) :=
  av_mk F (ok_pure F sc_sure_within (fun ds d h => l_sure_within ds d h) (fun cdv A outer s H E hr => p_sure_within T a_is_within hr) w_sure_within) hm (fun _ _ _ _ _ _ us hl => match us, hl with | [_, _, _], _ => rfl) (fun _ _ _ _ _ _ us hl => match us, hl with | [_, _, _], _ => rfl)
/-! ### sure_slack -/
abbrev s_sure_slack : Stmt := topS 14
abbrev N_sure_slack : List Str := ["thing"]
theorem sc_sure_slack : FnScope N_sure_slack ["thing"] (defScope s_sure_slack) := ⟨rfl, rfl, rfl, by decide +kernel, rfl, by decide +kernel, by decide +kernel⟩
abbrev R_sure_slack : List D → D → Prop := fun ds d => ∃ n, 1 ≤ n ∧ n ≤ 50 ∧ ds = [.int n] ∧ d = .int n
theorem l_sure_slack : ∀ ds d, R_sure_slack ds d → ds.length = 1 := fun _ _ ⟨_, _, _, e, _⟩ => by rw [e]; rfl
theorem u_sure_slack {n : Int} : ∀ d', R_sure_slack [.int n] d' → d' = .int n := fun _ ⟨_, _, _, e, e'⟩ => by cases e; exact e'
theorem c_sure_slack {K : PySem.W.Frag} {s : Bool} {E : XK} {t : TA} {ρ : En} {ω : Ow} {n : Int} (h : EvA K s t ρ ω [.int n]) (h1 : 1 ≤ n) (h2 : n ≤ 50) : Ev K s (tCall (spR K R_sure_slack) [] E t) ρ ω (.int n) :=
  ev_call h ⟨n, h1, h2, rfl, rfl⟩ u_sure_slack
def sp_sure_slack (K : PySem.W.Frag) : Sp := spR K R_sure_slack
def t_sure_slack (K : PySem.W.Frag) : TS := (tRet (tCall (sp_sure_within K) [] E0 (tCons (tVar 0) (tCons (tC (.int 1)) (tCons (tC (.int 50)) tNil)))))
theorem p_sure_slack (T : Top mg) (a_sure_within : Av P w K mg base 3 "sure_within" ["thing", "least", "most"] (sp_sure_within K)) {f : Addr} {cdv : Value} {A : Around} {outer : List Env} {s : Shared} {H : Hp} {E : XK} (hr : Room 3 (A.deeper (envOfC "sure_slack" (defScope s_sure_slack) s.heap.objs.size f cdv))) : PSs (cxOf CX0 P w K mg base N_sure_slack "sure_slack" (defScope s_sure_slack) f cdv A outer s H E).nox (defBody s_sure_slack) (t_sure_slack K) :=
  (pss_one (ps_ret (pe_av a_sure_within hr rfl (pa_cons (pv 0) (pa_cons pe_int (pa_cons (pe_gi T.c_MOST_SLACK rfl) pa_nil))))))
theorem w_sure_slack : ∀ ds d, R_sure_slack ds d → WS K false (t_sure_slack K) (args N_sure_slack.length ds) [] (fin (R_sure_slack ds)) := by
  rintro ds d ⟨n, h1, h2, rfl, rfl⟩
  exact ws_ret (c_sure_within (ea_cons (ev_var rfl) (ea_cons ev_int (ea_cons ev_int ea_nil))) h1 h2) ⟨n, h1, h2, rfl, rfl⟩
theorem av_sure_slack (T : Top mg) (a_sure_within : Av P w K mg base 3 "sure_within" ["thing", "least", "most"] (sp_sure_within K)) {f : Addr} {fd : FuncData} (F : Fun K "sure_slack" "sure_slack" s_sure_slack f fd) (hm : mg "sure_slack" = some (.ref f)) : Av P w K mg base 4 "sure_slack" ["thing"] (sp_sure_slack K) :=
  av_mk F (ok_pure F sc_sure_slack (fun ds d h => l_sure_slack ds d h) (fun cdv A outer s H E hr => p_sure_slack T a_sure_within hr) w_sure_slack) hm (fun _ _ _ _ _ _ us hl => match us, hl with | [_], _ => rfl) (fun _ _ _ _ _ _ us hl => match us, hl with | [_], _ => rfl)
/-! ### sure_place -/
abbrev s_sure_place : Stmt := topS 15
abbrev N_sure_place : List Str := ["value", "own"]
theorem sc_sure_place : FnScope N_sure_place ["value"] (defScope s_sure_place) := ⟨rfl, rfl, rfl, by decide +kernel, rfl, by decide +kernel, by decide +kernel⟩
abbrev R_sure_place : List D → D → Prop := fun ds d => ∃ i j : Int, 0 ≤ i ∧ i ≤ 10 ^ 60 ∧ 0 ≤ j ∧ j ≤ 10 ^ 60 ∧ (ds = [.tup [.int i, .int j]] ∨ ds = [.lst [.int i, .int j]]) ∧ d = .tup [.int i, .int j]
theorem l_sure_place : ∀ ds d, R_sure_place ds d → ds.length = 1 := fun _ _ ⟨_, _, _, _, _, _, e, _⟩ => by rcases e with e | e <;> rw [e] <;> rfl
theorem u_sure_placeT {i j : Int} : ∀ d', R_sure_place [.tup [.int i, .int j]] d' → d' = .tup [.int i, .int j] := fun _ ⟨_, _, _, _, _, _, e, e'⟩ => by
  rcases e with e | e
  · cases e; exact e'
  · cases e
theorem u_sure_placeL {i j : Int} : ∀ d', R_sure_place [.lst [.int i, .int j]] d' → d' = .tup [.int i, .int j] := fun _ ⟨_, _, _, _, _, _, e, e'⟩ => by
  rcases e with e | e
  · cases e
  · cases e; exact e'
theorem c_sure_placeT {K : PySem.W.Frag} {s : Bool} {E : XK} {t : TA} {ρ : En} {ω : Ow} {i j : Int} (h : EvA K s t ρ ω [.tup [.int i, .int j]]) (h1 : 0 ≤ i) (h2 : i ≤ 10 ^ 60) (h3 : 0 ≤ j) (h4 : j ≤ 10 ^ 60) : Ev K s (tCall (spR K R_sure_place) [] E t) ρ ω (.tup [.int i, .int j]) :=
  ev_call h ⟨i, j, h1, h2, h3, h4, .inl rfl, rfl⟩ u_sure_placeT
theorem c_sure_placeL {K : PySem.W.Frag} {s : Bool} {E : XK} {t : TA} {ρ : En} {ω : Ow} {i j : Int} (h : EvA K s t ρ ω [.lst [.int i, .int j]]) (h1 : 0 ≤ i) (h2 : i ≤ 10 ^ 60) (h3 : 0 ≤ j) (h4 : j ≤ 10 ^ 60) : Ev K s (tCall (spR K R_sure_place) [] E t) ρ ω (.tup [.int i, .int j]) :=
  ev_call h ⟨i, j, h1, h2, h3, h4, .inr rfl, rfl⟩ u_sure_placeL
def sp_sure_place (K : PySem.W.Frag) : Sp := spR K R_sure_place
def t_sure_place (K : PySem.W.Frag) : TS := (tSeq (tAsg (tCall (sp_tupled K) [] E0 (tCons (tVar 0) tNil)) (gName 1))
    (tSeq (tIfS (tOr (tNot (tTruX K (tCall (sp_is_long K) [] E0 (tCons (tVar 1) (tCons (tC (.int 2)) tNil))))) (tNot (tTruX K (tCall (sp_are_within K) [] E0 (tCons (tVar 1) (tCons (tC (.int 0)) (tCons (tC (.int 1000000000000000000000000000000000000000000000000000000000000)) tNil))))))) tNever tNext)
    (tRet (tVar 1))))
theorem p_sure_place (T : Top mg) (a_tupled : Av P w K mg base 4 "tupled" ["value"] (sp_tupled K)) (a_are_within : Av P w K mg base 3 "are_within" ["thing", "least", "most"] (sp_are_within K)) (a_is_long : Av P w K mg base 1 "is_long" ["thing", "length"] (sp_is_long K)) {f : Addr} {cdv : Value} {A : Around} {outer : List Env} {s : Shared} {H : Hp} {E : XK} (hr : Room 4 (A.deeper (envOfC "sure_place" (defScope s_sure_place) s.heap.objs.size f cdv))) : PSs (cxOf CX0 P w K mg base N_sure_place "sure_place" (defScope s_sure_place) f cdv A outer s H E).nox (defBody s_sure_place) (t_sure_place K) :=
  (pss_cons (ps_set (i := 1) sc_sure_place.nd rfl (.inl rfl) (pe_av a_tupled hr rfl (pa_cons (pv 0) pa_nil)))
    (pss_cons (ps_if (PW.pt (pw_or (pt_not (pt_tru (pe_av a_is_long hr rfl (pa_cons (pv 1) (pa_cons pe_int pa_nil))))) (pw_or1 (pt_not (pt_tru (pe_av a_are_within hr rfl (pa_cons (pv 1) (pa_cons pe_int (pa_cons (pe_gi T.c_GREAT rfl) pa_nil))))))))) (pss_one ps_never) pss_nil)
    (pss_one (ps_ret (pv 1)))))
theorem w_sure_place : ∀ ds d, R_sure_place ds d → WS K false (t_sure_place K) (args N_sure_place.length ds) [] (fin (R_sure_place ds)) := by
  rintro ds d ⟨i, j, h1, h2, h3, h4, e, rfl⟩
  have ok : okD 3 (.tup [.int i, .int j]) ∧ okD 3 (.lst [.int i, .int j]) := ⟨ok_tup ⟨ok_int, ok_int, trivial⟩, ok_lst ⟨ok_int, ok_int, trivial⟩⟩
  have rest : WS K false (tSeq (tIfS (tOr (tNot (tTruX K (tCall (sp_is_long K) [] E0 (tCons (tVar 1) (tCons (tC (.int 2)) tNil))))) (tNot (tTruX K (tCall (sp_are_within K) [] E0 (tCons (tVar 1) (tCons (tC (.int 0)) (tCons (tC (.int 1000000000000000000000000000000000000000000000000000000000000)) tNil))))))) tNever tNext) (tRet (tVar 1))) [some (.sh (ds.getD 0 .non)), some (.sh (.tup [.int i, .int j]))] [] (fin (R_sure_place ds)) := by
    refine ws_seq (ws_if (c := false) ((et_or (a := false) ((et_not (et_trub (s := true) (c_is_long (ea_cons (ev_var rfl) (ea_cons ev_int ea_nil)) rfl))).to rfl) (fun _ => (et_not (et_trub (s := true) (c_are_within (ea_cons (ev_var rfl) (ea_cons ev_int (ea_cons ev_int ea_nil))) rfl (show shortT (.tup [.int i, .int j]) from show (2 : Nat) ≤ 1000000 by decide)))).to ?_))) (fun z => Bool.noConfusion z) (fun _ => ws_next ?_))
    · show (!((decide (0 ≤ i) && decide (i ≤ _)) && ((decide (0 ≤ j) && decide (j ≤ _)) && true))) = false
      rw [decide_eq_true h1, decide_eq_true h3, decide_eq_true (show i ≤ 1000000000000000000000000000000000000000000000000000000000000 from h2), decide_eq_true (show j ≤ 1000000000000000000000000000000000000000000000000000000000000 from h4)]
      rfl
    · exact ws_ret (ev_var rfl) ⟨i, j, h1, h2, h3, h4, e, rfl⟩
  rcases e with rfl | rfl
  · exact ws_seq (ws_set ((c_tupled (ea_cons (ev_var rfl) ea_nil) ok.1).to rfl) rest)
  · exact ws_seq (ws_set ((c_tupled (ea_cons (ev_var rfl) ea_nil) ok.2).to rfl) rest)
theorem av_sure_place (T : Top mg) (a_tupled : Av P w K mg base 4 "tupled" ["value"] (sp_tupled K)) (a_are_within : Av P w K mg base 3 "are_within" ["thing", "least", "most"] (sp_are_within K)) (a_is_long : Av P w K mg base 1 "is_long" ["thing", "length"] (sp_is_long K)) {f : Addr} {fd : FuncData} (F : Fun K "sure_place" "sure_place" s_sure_place f fd) (hm : mg "sure_place" = some (.ref f)) : Av P w K mg base 5 "sure_place" ["value"] (sp_sure_place K) :=
  av_mk F (ok_pure F sc_sure_place (fun ds d h => l_sure_place ds d h) (fun cdv A outer s H E hr => p_sure_place T a_tupled a_are_within a_is_long hr) w_sure_place) hm (fun _ _ _ _ _ _ us hl => match us, hl with | [_], _ => rfl) (fun _ _ _ _ _ _ us hl => match us, hl with | [_], _ => rfl)
/-! ### floor_of -/
abbrev s_floor_of : Stmt := topS 17
abbrev N_floor_of : List Str := ["whole", "square", "under"]
theorem sc_floor_of : FnScope N_floor_of ["whole", "square", "under"] (defScope s_floor_of) := ⟨rfl, rfl, rfl, by decide +kernel, rfl, by decide +kernel, by decide +kernel⟩
abbrev R_floor_of : List D → D → Prop := fun ds d => ∃ w s u, 0 ≤ s ∧ Bd 8000 s ∧ 0 < u ∧ Bd 8000 u ∧ ds = [.int w, .int s, .int u] ∧ d = .int ((w + isq s) / u)
theorem l_floor_of : ∀ ds d, R_floor_of ds d → ds.length = 3 := fun _ _ ⟨_, _, _, _, _, _, _, e, _⟩ => by rw [e]; rfl
theorem u_floor_of {w s u : Int} : ∀ d', R_floor_of [.int w, .int s, .int u] d' → d' = .int ((w + isq s) / u) := fun _ ⟨_, _, _, _, _, _, _, e, e'⟩ => by cases e; exact e'
theorem c_floor_of {K : PySem.W.Frag} {b : Bool} {E : XK} {t : TA} {ρ : En} {ω : Ow} {w s u : Int} (h : EvA K b t ρ ω [.int w, .int s, .int u]) (h1 : 0 ≤ s) (h2 : Bd 8000 s) (h3 : 0 < u) (h4 : Bd 8000 u) : Ev K b (tCall (spR K R_floor_of) [] E t) ρ ω (.int ((w + isq s) / u)) :=
  ev_call h ⟨w, s, u, h1, h2, h3, h4, rfl, rfl⟩ u_floor_of
theorem disc_bd {s n : Int} {k : Nat} (h1 : 1 ≤ s) (h2 : s ≤ 50) (h : Bd k n) : Bd (k + k + 31) (n * n * (s * s + 4)) := by
  have : 0 ≤ s * s ∧ s * s ≤ 2500 := ⟨sq_nn s, by have := sq_le (show 0 ≤ s by omega) h2; omega⟩
  exact ((h.mul h).mul (bd_small (a := s * s + 4) (by omega) (by omega))).mono (by omega)
/-- the numerator as the program has it -/
theorem e_cnt {K : PySem.W.Frag} {b : Bool} {E : XK} {ρ : En} {ω : Ow} {i j : Nat} {s m : Int} (ei : ρ[i]? = some (some (.sh (.int s)))) (ej : ρ[j]? = some (some (.sh (.int m)))) (h1 : 1 ≤ s) (h2 : s ≤ 50) (h4 : Bd 401 m) :
    Ev K b (tCall (spR K R_floor_of) [] E (tCons (tOp rMulX (tVar j) (tOp rSubX (tVar i) (tC (.int 2)))) (tCons (tOp rMulX (tOp rMulX (tVar j) (tVar j)) (tOp (rAddX K) (tOp rMulX (tVar i) (tVar i)) (tC (.int 4)))) (tCons (tOp rMulX (tC (.int 2)) (tVar i)) tNil)))) ρ ω
      (.int ((m * (s - 2) + isq (m * m * (s * s + 4))) / (2 * s))) := by
  have ss : 0 ≤ s * s ∧ s * s ≤ 2500 := ⟨sq_nn s, by have := sq_le (show 0 ≤ s by omega) h2; omega⟩
  exact c_floor_of (ea_cons (ev_op (ev_var ej) (ev_op (ev_var ei) ev_int rd_sub) (rd_mul (mul_r (by omega) (by omega))))
    (ea_cons (ev_op (ev_op (ev_var ej) (ev_var ej) (rd_mul (h4.ok h4))) (ev_op (ev_op (ev_var ei) (ev_var ei) (rd_mul (mul_r (by omega) (by omega)))) ev_int rd_add) (rd_mul (mul_r (by omega) (by omega))))
    (ea_cons (ev_op ev_int (ev_var ei) (rd_mul (mul_r (by omega) (by omega)))) ea_nil)))
    (disc_nn s m) ((disc_bd h1 h2 h4).mono (by decide)) (by omega) ((bd_small (by omega) (by omega)).mono (by decide))
def sp_floor_of (K : PySem.W.Frag) : Sp := spR K R_floor_of
def t_floor_of (K : PySem.W.Frag) : TS := (tRet (tOp rDivX (tOp (rAddX K) (tVar 0) (tCB rIsqrt (tCons (tVar 1) tNil))) (tVar 2)))
theorem p_floor_of (T : Top mg) {f : Addr} {cdv : Value} {A : Around} {outer : List Env} {s : Shared} {H : Hp} {E : XK} (hr : Room 0 (A.deeper (envOfC "floor_of" (defScope s_floor_of) s.heap.objs.size f cdv))) : PSs (cxOf CX0 P w K mg base N_floor_of "floor_of" (defScope s_floor_of) f cdv A outer s H E).nox (defBody s_floor_of) (t_floor_of K) :=
  (pss_one (ps_ret (pe_op op_divX (pe_op op_addX (pv 0) (pe_callBfun cr_isqrt rfl T.m_isqrt (pa_cons (pv 1) pa_nil))) (pv 2))))
theorem w_floor_of : ∀ ds d, R_floor_of ds d → WS K false (t_floor_of K) (args N_floor_of.length ds) [] (fin (R_floor_of ds)) := by
  rintro ds d ⟨w, s, u, h1, h2, h3, h4, rfl, rfl⟩
  exact ws_ret (ev_op (ev_op (ev_var rfl) (ev_cb (ea_cons (ev_var rfl) ea_nil) (rc_isq h2 h1)) rd_add) (ev_var rfl) (rd_div (h4.divOk h3))) ⟨w, s, u, h1, h2, h3, h4, rfl, rfl⟩
theorem av_floor_of (T : Top mg) {f : Addr} {fd : FuncData} (F : Fun K "floor_of" "floor_of" s_floor_of f fd) (hm : mg "floor_of" = some (.ref f)) : Av P w K mg base 1 "floor_of" ["whole", "square", "under"] (sp_floor_of K) :=
  av_mk F (ok_pure F sc_floor_of (fun ds d h => l_floor_of ds d h) (fun cdv A outer s H E hr => p_floor_of T hr) w_floor_of) hm (fun _ _ _ _ _ _ us hl => match us, hl with | [_, _, _], _ => rfl) (fun _ _ _ _ _ _ us hl => match us, hl with | [_, _, _], _ => rfl)
/-! ### low_in -/
abbrev s_low_in : Stmt := topS 18
abbrev N_low_in : List Str := ["slack", "number"]
theorem sc_low_in : FnScope N_low_in ["slack", "number"] (defScope s_low_in) := ⟨rfl, rfl, rfl, by decide +kernel, rfl, by decide +kernel, by decide +kernel⟩
abbrev R_low_in : List D → D → Prop := fun ds d => ∃ s n, 1 ≤ s ∧ s ≤ 50 ∧ 0 ≤ n ∧ Bd 400 n ∧ ds = [.int s, .int n] ∧ d = .int (lowF s n)
theorem l_low_in : ∀ ds d, R_low_in ds d → ds.length = 2 := fun _ _ ⟨_, _, _, _, _, _, e, _⟩ => by rw [e]; rfl
theorem u_low_in {s n : Int} : ∀ d', R_low_in [.int s, .int n] d' → d' = .int (lowF s n) := fun _ ⟨_, _, _, _, _, _, e, e'⟩ => by cases e; exact e'
theorem c_low_in {K : PySem.W.Frag} {b : Bool} {E : XK} {t : TA} {ρ : En} {ω : Ow} {s n : Int} (h : EvA K b t ρ ω [.int s, .int n]) (h1 : 1 ≤ s) (h2 : s ≤ 50) (h3 : 0 ≤ n) (h4 : Bd 400 n) : Ev K b (tCall (spR K R_low_in) [] E t) ρ ω (.int (lowF s n)) :=
  ev_call h ⟨s, n, h1, h2, h3, h4, rfl, rfl⟩ u_low_in
def sp_low_in (K : PySem.W.Frag) : Sp := spR K R_low_in
def t_low_in (K : PySem.W.Frag) : TS := (tRet (tCall (sp_floor_of K) [] E0 (tCons (tOp rMulX (tVar 1) (tOp rSubX (tC (.int 2)) (tVar 0))) (tCons (tOp rMulX (tOp rMulX (tVar 1) (tVar 1)) (tOp (rAddX K) (tOp rMulX (tVar 0) (tVar 0)) (tC (.int 4)))) (tCons (tC (.int 2)) tNil)))))
theorem p_low_in (T : Top mg) (a_floor_of : Av P w K mg base 1 "floor_of" ["whole", "square", "under"] (sp_floor_of K)) {f : Addr} {cdv : Value} {A : Around} {outer : List Env} {s : Shared} {H : Hp} {E : XK} (hr : Room 1 (A.deeper (envOfC "low_in" (defScope s_low_in) s.heap.objs.size f cdv))) : PSs (cxOf CX0 P w K mg base N_low_in "low_in" (defScope s_low_in) f cdv A outer s H E).nox (defBody s_low_in) (t_low_in K) :=
  (pss_one (ps_ret (pe_av a_floor_of hr rfl (pa_cons (pe_op op_mulX (pv 1) (pe_op op_subX pe_int (pv 0))) (pa_cons (pe_op op_mulX (pe_op op_mulX (pv 1) (pv 1)) (pe_op op_addX (pe_op op_mulX (pv 0) (pv 0)) pe_int)) (pa_cons pe_int pa_nil))))))
theorem w_low_in : ∀ ds d, R_low_in ds d → WS K false (t_low_in K) (args N_low_in.length ds) [] (fin (R_low_in ds)) := by
  rintro ds d ⟨s, n, h1, h2, h3, h4, rfl, rfl⟩
  have ss : 0 ≤ s * s ∧ s * s ≤ 2500 := ⟨sq_nn s, by have := sq_le (show 0 ≤ s by omega) h2; omega⟩
  refine ws_ret (c_floor_of (ea_cons (ev_op (ev_var rfl) (ev_op ev_int (ev_var rfl) rd_sub) (rd_mul (mul_r (by omega) (by omega))))
    (ea_cons (ev_op (ev_op (ev_var rfl) (ev_var rfl) (rd_mul (h4.ok h4))) (ev_op (ev_op (ev_var rfl) (ev_var rfl) (rd_mul (mul_r (by omega) (by omega)))) ev_int rd_add) (rd_mul (mul_r (by omega) (by omega)))) (ea_cons ev_int ea_nil)))
    (disc_nn s n) ((disc_bd h1 h2 h4).mono (by decide)) (by decide) ((bd_small (by decide) (by decide)).mono (by decide))) ⟨s, n, h1, h2, h3, h4, rfl, rfl⟩
theorem av_low_in (T : Top mg) (a_floor_of : Av P w K mg base 1 "floor_of" ["whole", "square", "under"] (sp_floor_of K)) {f : Addr} {fd : FuncData} (F : Fun K "low_in" "low_in" s_low_in f fd) (hm : mg "low_in" = some (.ref f)) : Av P w K mg base 2 "low_in" ["slack", "number"] (sp_low_in K) :=
  av_mk F (ok_pure F sc_low_in (fun ds d h => l_low_in ds d h) (fun cdv A outer s H E hr => p_low_in T a_floor_of hr) w_low_in) hm (fun _ _ _ _ _ _ us hl => match us, hl with | [_, _], _ => rfl) (fun _ _ _ _ _ _ us hl => match us, hl with | [_, _], _ => rfl)
/-! ### high_in -/
abbrev s_high_in : Stmt := topS 19
abbrev N_high_in : List Str := ["slack", "number"]
theorem sc_high_in : FnScope N_high_in ["slack", "number"] (defScope s_high_in) := ⟨rfl, rfl, rfl, by decide +kernel, rfl, by decide +kernel, by decide +kernel⟩
abbrev R_high_in : List D → D → Prop := fun ds d => ∃ s n, 1 ≤ s ∧ s ≤ 50 ∧ 0 ≤ n ∧ Bd 400 n ∧ ds = [.int s, .int n] ∧ d = .int (highF s n)
theorem l_high_in : ∀ ds d, R_high_in ds d → ds.length = 2 := fun _ _ ⟨_, _, _, _, _, _, e, _⟩ => by rw [e]; rfl
theorem u_high_in {s n : Int} : ∀ d', R_high_in [.int s, .int n] d' → d' = .int (highF s n) := fun _ ⟨_, _, _, _, _, _, e, e'⟩ => by cases e; exact e'
theorem c_high_in {K : PySem.W.Frag} {b : Bool} {E : XK} {t : TA} {ρ : En} {ω : Ow} {s n : Int} (h : EvA K b t ρ ω [.int s, .int n]) (h1 : 1 ≤ s) (h2 : s ≤ 50) (h3 : 0 ≤ n) (h4 : Bd 400 n) : Ev K b (tCall (spR K R_high_in) [] E t) ρ ω (.int (highF s n)) :=
  ev_call h ⟨s, n, h1, h2, h3, h4, rfl, rfl⟩ u_high_in
def sp_high_in (K : PySem.W.Frag) : Sp := spR K R_high_in
def t_high_in (K : PySem.W.Frag) : TS := (tRet (tOp (rAddX K) (tCall (sp_low_in K) [] E0 (tCons (tVar 0) (tCons (tVar 1) tNil))) (tOp rMulX (tVar 0) (tVar 1))))
theorem p_high_in (T : Top mg) (a_low_in : Av P w K mg base 2 "low_in" ["slack", "number"] (sp_low_in K)) {f : Addr} {cdv : Value} {A : Around} {outer : List Env} {s : Shared} {H : Hp} {E : XK} (hr : Room 2 (A.deeper (envOfC "high_in" (defScope s_high_in) s.heap.objs.size f cdv))) : PSs (cxOf CX0 P w K mg base N_high_in "high_in" (defScope s_high_in) f cdv A outer s H E).nox (defBody s_high_in) (t_high_in K) :=
  (pss_one (ps_ret (pe_op op_addX (pe_av a_low_in hr rfl (pa_cons (pv 0) (pa_cons (pv 1) pa_nil))) (pe_op op_mulX (pv 0) (pv 1)))))
theorem w_high_in : ∀ ds d, R_high_in ds d → WS K false (t_high_in K) (args N_high_in.length ds) [] (fin (R_high_in ds)) := by
  rintro ds d ⟨s, n, h1, h2, h3, h4, rfl, rfl⟩
  exact ws_ret (ev_op (c_low_in (ea_cons (ev_var rfl) (ea_cons (ev_var rfl) ea_nil)) h1 h2 h3 h4) (ev_op (ev_var rfl) (ev_var rfl) (rd_mul (mul_l (by omega) (by omega)))) rd_add) ⟨s, n, h1, h2, h3, h4, rfl, rfl⟩
theorem av_high_in (T : Top mg) (a_low_in : Av P w K mg base 2 "low_in" ["slack", "number"] (sp_low_in K)) {f : Addr} {fd : FuncData} (F : Fun K "high_in" "high_in" s_high_in f fd) (hm : mg "high_in" = some (.ref f)) : Av P w K mg base 3 "high_in" ["slack", "number"] (sp_high_in K) :=
  av_mk F (ok_pure F sc_high_in (fun ds d h => l_high_in ds d h) (fun cdv A outer s H E hr => p_high_in T a_low_in hr) w_high_in) hm (fun _ _ _ _ _ _ us hl => match us, hl with | [_, _], _ => rfl) (fun _ _ _ _ _ _ us hl => match us, hl with | [_, _], _ => rfl)
/-! ### other_low_in -/
abbrev s_other_low_in : Stmt := topS 20
abbrev N_other_low_in : List Str := ["slack", "number", "often"]
theorem sc_other_low_in : FnScope N_other_low_in ["slack", "number"] (defScope s_other_low_in) := ⟨rfl, rfl, rfl, by decide +kernel, rfl, by decide +kernel, by decide +kernel⟩
abbrev R_other_low_in : List D → D → Prop := fun ds d => ∃ s n, 1 ≤ s ∧ s ≤ 50 ∧ 0 ≤ n ∧ Bd 400 n ∧ ds = [.int s, .int n] ∧ d = .int (oA s n)
theorem l_other_low_in : ∀ ds d, R_other_low_in ds d → ds.length = 2 := fun _ _ ⟨_, _, _, _, _, _, e, _⟩ => by rw [e]; rfl
theorem u_other_low_in {s n : Int} : ∀ d', R_other_low_in [.int s, .int n] d' → d' = .int (oA s n) := fun _ ⟨_, _, _, _, _, _, e, e'⟩ => by cases e; exact e'
theorem c_other_low_in {K : PySem.W.Frag} {b : Bool} {E : XK} {t : TA} {ρ : En} {ω : Ow} {s n : Int} (h : EvA K b t ρ ω [.int s, .int n]) (h1 : 1 ≤ s) (h2 : s ≤ 50) (h3 : 0 ≤ n) (h4 : Bd 400 n) : Ev K b (tCall (spR K R_other_low_in) [] E t) ρ ω (.int (oA s n)) :=
  ev_call h ⟨s, n, h1, h2, h3, h4, rfl, rfl⟩ u_other_low_in
theorem oA_one {n : Int} (hn : 0 ≤ n) : oA 1 n = if n < 2 then 2 * n else lowF 1 n := by
  unfold oA pA1 p1F
  rw [if_pos rfl]
  by_cases e0 : n = 0
  · rw [if_pos e0, if_pos (by omega), e0]; rfl
  rw [if_neg e0]
  by_cases e1 : n = 1
  · rw [if_pos e1, if_pos (by omega), e1]; rfl
  rw [if_neg e1, if_neg (by omega)]
theorem oA_more {s n : Int} (h : s ≠ 1) : oA s n = oLow s n := by unfold oA; rw [if_neg h]
def sp_other_low_in (K : PySem.W.Frag) : Sp := spR K R_other_low_in
def t_other_low_in (K : PySem.W.Frag) : TS := (tSeq (tIfS (tTest (tOp (rEqX K) (tVar 0) (tC (.int 1)))) (tRet (tIf (tTest (tOp rLtX (tVar 1) (tC (.int 2)))) (tOp rMulX (tC (.int 2)) (tVar 1)) (tCall (sp_low_in K) [] E0 (tCons (tVar 0) (tCons (tVar 1) tNil))))) tNext)
    (tSeq (tAsg (tOp (rAddX K) (tOp rMulX (tVar 1) (tVar 0)) (tC (.int 1))) (gName 2))
    (tRet (tCall (sp_floor_of K) [] E0 (tCons (tOp (rAddX K) (tOp rMulX (tVar 2) (tOp rSubX (tC (.int 2)) (tVar 0))) (tOp rMulX (tC (.int 2)) (tOp rSubX (tVar 0) (tC (.int 2))))) (tCons (tOp rMulX (tOp rMulX (tVar 2) (tVar 2)) (tOp (rAddX K) (tOp rMulX (tVar 0) (tVar 0)) (tC (.int 4)))) (tCons (tOp rMulX (tC (.int 2)) (tVar 0)) tNil)))))))
theorem p_other_low_in (T : Top mg) (a_low_in : Av P w K mg base 2 "low_in" ["slack", "number"] (sp_low_in K)) (a_floor_of : Av P w K mg base 1 "floor_of" ["whole", "square", "under"] (sp_floor_of K)) {f : Addr} {cdv : Value} {A : Around} {outer : List Env} {s : Shared} {H : Hp} {E : XK} (hr : Room 2 (A.deeper (envOfC "other_low_in" (defScope s_other_low_in) s.heap.objs.size f cdv))) : PSs (cxOf CX0 P w K mg base N_other_low_in "other_low_in" (defScope s_other_low_in) f cdv A outer s H E).nox (defBody s_other_low_in) (t_other_low_in K) :=
  (pss_cons (ps_if (pt_cmpR (op_eqX hr.units) (pv 0) pe_int (nomark _)) (pss_one (ps_ret (pe_ifExp (pt_cmpR op_ltX (pv 1) pe_int (nomark _)) (pe_op op_mulX pe_int (pv 1)) (pe_av a_low_in hr rfl (pa_cons (pv 0) (pa_cons (pv 1) pa_nil)))))) pss_nil)
    (pss_cons (ps_set (i := 2) sc_other_low_in.nd rfl (.inl rfl) (pe_op op_addX (pe_op op_mulX (pv 1) (pv 0)) pe_int))
    (pss_one (ps_ret (pe_av a_floor_of hr rfl (pa_cons (pe_op op_addX (pe_op op_mulX (pv 2) (pe_op op_subX pe_int (pv 0))) (pe_op op_mulX pe_int (pe_op op_subX (pv 0) pe_int))) (pa_cons (pe_op op_mulX (pe_op op_mulX (pv 2) (pv 2)) (pe_op op_addX (pe_op op_mulX (pv 0) (pv 0)) pe_int)) (pa_cons (pe_op op_mulX pe_int (pv 0)) pa_nil))))))))
theorem w_other_low_in : ∀ ds d, R_other_low_in ds d → WS K false (t_other_low_in K) (args N_other_low_in.length ds) [] (fin (R_other_low_in ds)) := by
  rintro ds d ⟨s, n, h1, h2, h3, h4, rfl, rfl⟩
  have ss : 0 ≤ s * s ∧ s * s ≤ 2500 := ⟨sq_nn s, by have := sq_le (show 0 ≤ s by omega) h2; omega⟩
  refine ws_seq (ws_if (et_test (s := true) (ev_op (ev_var rfl) ev_int rd_eq)) (fun hc => ?_) (fun hc => ws_next ?_))
  · have e : s = 1 := of_decide_eq_true hc
    subst e
    refine ws_ret ((ev_if (et_test (s := false) (ev_op (ev_var rfl) ev_int rd_lt)) (fun _ => ev_op ev_int (ev_var rfl) (rd_mul (mul_l (by decide) (by decide)))) (fun _ => c_low_in (ea_cons (ev_var rfl) (ea_cons (ev_var rfl) ea_nil)) (by decide) (by decide) h3 h4)).to (d1 := .int (oA 1 n)) ?_) ⟨1, n, h1, h2, h3, h4, rfl, rfl⟩
    rw [oA_one h3]
    by_cases c : n < 2
    · rw [decide_eq_true c, if_pos rfl, if_pos c]
    · rw [decide_eq_false c, if_neg Bool.false_ne_true, if_neg c]
  · have e : s ≠ 1 := of_decide_eq_false hc
    have hs : Bd 30 s := bd_small (by omega) (by omega)
    have hb : Bd 431 (n * s + 1) := ((h4.mul hs).add ((bd_small (by decide) (by decide)).mono (by decide))).mono (by decide)
    refine ws_seq (ws_set (ev_op (ev_op (ev_var rfl) (ev_var rfl) (rd_mul (mul_r (by omega) (by omega)))) ev_int rd_add) ?_)
    refine ws_ret (c_floor_of (ea_cons (ev_op (ev_op (ev_var rfl) (ev_op ev_int (ev_var rfl) rd_sub) (rd_mul (mul_r (by omega) (by omega)))) (ev_op ev_int (ev_op (ev_var rfl) ev_int rd_sub) (rd_mul (mul_l (by decide) (by decide)))) rd_add)
      (ea_cons (ev_op (ev_op (ev_var rfl) (ev_var rfl) (rd_mul (hb.ok hb))) (ev_op (ev_op (ev_var rfl) (ev_var rfl) (rd_mul (mul_r (by omega) (by omega)))) ev_int rd_add) (rd_mul (mul_r (by omega) (by omega)))) (ea_cons (ev_op ev_int (ev_var rfl) (rd_mul (mul_l (by decide) (by decide)))) ea_nil)))
      (disc_nn s _) ((disc_bd h1 h2 hb).mono (by decide)) (by omega) ((bd_small (by omega) (by omega)).mono (by decide))) ⟨s, n, h1, h2, h3, h4, rfl, ?_⟩
    rw [oA_more e]
    rfl
theorem av_other_low_in (T : Top mg) (a_low_in : Av P w K mg base 2 "low_in" ["slack", "number"] (sp_low_in K)) (a_floor_of : Av P w K mg base 1 "floor_of" ["whole", "square", "under"] (sp_floor_of K)) {f : Addr} {fd : FuncData} (F : Fun K "other_low_in" "other_low_in" s_other_low_in f fd) (hm : mg "other_low_in" = some (.ref f)) : Av P w K mg base 3 "other_low_in" ["slack", "number"] (sp_other_low_in K) :=
  av_mk F (ok_pure F sc_other_low_in (fun ds d h => l_other_low_in ds d h) (fun cdv A outer s H E hr => p_other_low_in T a_low_in a_floor_of hr) w_other_low_in) hm (fun _ _ _ _ _ _ us hl => match us, hl with | [_, _], _ => rfl) (fun _ _ _ _ _ _ us hl => match us, hl with | [_, _], _ => rfl)
/-! ### other_high_in -/
abbrev s_other_high_in : Stmt := topS 21
abbrev N_other_high_in : List Str := ["slack", "number"]
theorem sc_other_high_in : FnScope N_other_high_in ["slack", "number"] (defScope s_other_high_in) := ⟨rfl, rfl, rfl, by decide +kernel, rfl, by decide +kernel, by decide +kernel⟩
abbrev R_other_high_in : List D → D → Prop := fun ds d => ∃ s n, 1 ≤ s ∧ s ≤ 50 ∧ 0 ≤ n ∧ Bd 400 n ∧ ds = [.int s, .int n] ∧ d = .int (oB s n)
theorem l_other_high_in : ∀ ds d, R_other_high_in ds d → ds.length = 2 := fun _ _ ⟨_, _, _, _, _, _, e, _⟩ => by rw [e]; rfl
theorem u_other_high_in {s n : Int} : ∀ d', R_other_high_in [.int s, .int n] d' → d' = .int (oB s n) := fun _ ⟨_, _, _, _, _, _, e, e'⟩ => by cases e; exact e'
theorem c_other_high_in {K : PySem.W.Frag} {b : Bool} {E : XK} {t : TA} {ρ : En} {ω : Ow} {s n : Int} (h : EvA K b t ρ ω [.int s, .int n]) (h1 : 1 ≤ s) (h2 : s ≤ 50) (h3 : 0 ≤ n) (h4 : Bd 400 n) : Ev K b (tCall (spR K R_other_high_in) [] E t) ρ ω (.int (oB s n)) :=
  ev_call h ⟨s, n, h1, h2, h3, h4, rfl, rfl⟩ u_other_high_in
theorem oB_one {n : Int} (hn : 0 ≤ n) : oB 1 n = if n < 2 then n + 1 else highF 1 n := by
  unfold oB pB1 p1F
  rw [if_pos rfl]
  by_cases e0 : n = 0
  · rw [if_pos e0, if_pos (by omega), e0]; rfl
  rw [if_neg e0]
  by_cases e1 : n = 1
  · rw [if_pos e1, if_pos (by omega), e1]; rfl
  rw [if_neg e1, if_neg (by omega)]
theorem oB_more {s n : Int} (h : s ≠ 1) : oB s n = oLow s n + s * n + 1 := by unfold oB; rw [if_neg h]; rfl
def sp_other_high_in (K : PySem.W.Frag) : Sp := spR K R_other_high_in
def t_other_high_in (K : PySem.W.Frag) : TS := (tSeq (tIfS (tTest (tOp (rEqX K) (tVar 0) (tC (.int 1)))) (tRet (tIf (tTest (tOp rLtX (tVar 1) (tC (.int 2)))) (tOp (rIxX K) (tTup (tCons (tC (.int 1)) (tCons (tC (.int 2)) tNil))) (tVar 1)) (tCall (sp_high_in K) [] E0 (tCons (tVar 0) (tCons (tVar 1) tNil))))) tNext)
    (tRet (tOp (rAddX K) (tOp (rAddX K) (tCall (sp_other_low_in K) [] E0 (tCons (tVar 0) (tCons (tVar 1) tNil))) (tOp rMulX (tVar 0) (tVar 1))) (tC (.int 1)))))
theorem p_other_high_in (T : Top mg) (a_high_in : Av P w K mg base 3 "high_in" ["slack", "number"] (sp_high_in K)) (a_other_low_in : Av P w K mg base 3 "other_low_in" ["slack", "number"] (sp_other_low_in K)) {f : Addr} {cdv : Value} {A : Around} {outer : List Env} {s : Shared} {H : Hp} {E : XK} (hr : Room 3 (A.deeper (envOfC "other_high_in" (defScope s_other_high_in) s.heap.objs.size f cdv))) : PSs (cxOf CX0 P w K mg base N_other_high_in "other_high_in" (defScope s_other_high_in) f cdv A outer s H E).nox (defBody s_other_high_in) (t_other_high_in K) :=
  (pss_cons (ps_if (pt_cmpR (op_eqX hr.units) (pv 0) pe_int (nomark _)) (pss_one (ps_ret (pe_ifExp (pt_cmpR op_ltX (pv 1) pe_int (nomark _)) (pe_ix (ix_X (hu_of hr)) (pe_tup (pa_cons pe_int (pa_cons pe_int pa_nil))) (pv 1) (fun _ _ => rfl)) (pe_av a_high_in hr rfl (pa_cons (pv 0) (pa_cons (pv 1) pa_nil)))))) pss_nil)
    (pss_one (ps_ret (pe_op op_addX (pe_op op_addX (pe_av a_other_low_in hr rfl (pa_cons (pv 0) (pa_cons (pv 1) pa_nil))) (pe_op op_mulX (pv 0) (pv 1))) pe_int))))
theorem w_other_high_in : ∀ ds d, R_other_high_in ds d → WS K false (t_other_high_in K) (args N_other_high_in.length ds) [] (fin (R_other_high_in ds)) := by
  rintro ds d ⟨s, n, h1, h2, h3, h4, rfl, rfl⟩
  refine ws_seq (ws_if (et_test (s := true) (ev_op (ev_var rfl) ev_int rd_eq)) (fun hc => ?_) (fun hc => ws_next ?_))
  · have e : s = 1 := of_decide_eq_true hc
    subst e
    refine ws_ret ((ev_if (et_test (s := false) (ev_op (ev_var rfl) ev_int rd_lt)) (d1 := .int (n + 1)) (fun hl => ?_) (fun _ => c_high_in (ea_cons (ev_var rfl) (ea_cons (ev_var rfl) ea_nil)) (by decide) (by decide) h3 h4)).to (d1 := .int (oB 1 n)) ?_) ⟨1, n, h1, h2, h3, h4, rfl, rfl⟩
    · have hl : n < 2 := of_decide_eq_true hl
      have h01 : n = 0 ∨ n = 1 := by omega
      rcases h01 with rfl | rfl
      · exact ev_op (ev_tup (ea_cons ev_int (ea_cons ev_int ea_nil))) (ev_var rfl) (rd_ixT rfl)
      · exact ev_op (ev_tup (ea_cons ev_int (ea_cons ev_int ea_nil))) (ev_var rfl) (rd_ixT rfl)
    · rw [oB_one h3]
      by_cases c : n < 2
      · rw [decide_eq_true c, if_pos rfl, if_pos c]
      · rw [decide_eq_false c, if_neg Bool.false_ne_true, if_neg c]
  · have e : s ≠ 1 := of_decide_eq_false hc
    refine ws_ret (ev_op (ev_op (c_other_low_in (ea_cons (ev_var rfl) (ea_cons (ev_var rfl) ea_nil)) h1 h2 h3 h4) (ev_op (ev_var rfl) (ev_var rfl) (rd_mul (mul_l (by omega) (by omega)))) rd_add) ev_int rd_add) ⟨s, n, h1, h2, h3, h4, rfl, ?_⟩
    rw [oB_more e, oA_more e]
theorem av_other_high_in (T : Top mg) (a_high_in : Av P w K mg base 3 "high_in" ["slack", "number"] (sp_high_in K)) (a_other_low_in : Av P w K mg base 3 "other_low_in" ["slack", "number"] (sp_other_low_in K)) {f : Addr} {fd : FuncData} (F : Fun K "other_high_in" "other_high_in" s_other_high_in f fd) (hm : mg "other_high_in" = some (.ref f)) : Av P w K mg base 4 "other_high_in" ["slack", "number"] (sp_other_high_in K) :=
  av_mk F (ok_pure F sc_other_high_in (fun ds d h => l_other_high_in ds d h) (fun cdv A outer s H E hr => p_other_high_in T a_high_in a_other_low_in hr) w_other_high_in) hm (fun _ _ _ _ _ _ us hl => match us, hl with | [_, _], _ => rfl) (fun _ _ _ _ _ _ us hl => match us, hl with | [_, _], _ => rfl)
/-! ### number_between -/
abbrev s_number_between : Stmt := topS 22
abbrev N_number_between : List Str := ["slack", "place", "one", "other", "number"]
theorem sc_number_between : FnScope N_number_between ["slack", "place"] (defScope s_number_between) := ⟨rfl, rfl, rfl, by decide +kernel, rfl, by decide +kernel, by decide +kernel⟩
def nbF (s i j : Int) : Int := if (max i j - min i j) % s = 0 ∧ lowF s ((max i j - min i j) / s) = min i j then (max i j - min i j) / s else -1
abbrev R_number_between : List D → D → Prop := fun ds d => ∃ s i j, 1 ≤ s ∧ s ≤ 50 ∧ 0 ≤ i ∧ i ≤ 10 ^ 60 ∧ 0 ≤ j ∧ j ≤ 10 ^ 60 ∧ ds = [.int s, .tup [.int i, .int j]] ∧ d = .int (nbF s i j)
theorem l_number_between : ∀ ds d, R_number_between ds d → ds.length = 2 := fun _ _ ⟨_, _, _, _, _, _, _, _, _, e, _⟩ => by rw [e]; rfl
theorem u_number_between {s i j : Int} : ∀ d', R_number_between [.int s, .tup [.int i, .int j]] d' → d' = .int (nbF s i j) := fun _ ⟨_, _, _, _, _, _, _, _, _, e, e'⟩ => by cases e; exact e'
theorem c_number_between {K : PySem.W.Frag} {b : Bool} {E : XK} {t : TA} {ρ : En} {ω : Ow} {s i j : Int} (h : EvA K b t ρ ω [.int s, .tup [.int i, .int j]]) (g1 : 1 ≤ s) (g2 : s ≤ 50) (h1 : 0 ≤ i) (h2 : i ≤ 10 ^ 60) (h3 : 0 ≤ j) (h4 : j ≤ 10 ^ 60) : Ev K b (tCall (spR K R_number_between) [] E t) ρ ω (.int (nbF s i j)) :=
  ev_call h ⟨s, i, j, g1, g2, h1, h2, h3, h4, rfl, rfl⟩ u_number_between
theorem nb_lost {s i j : Int} (hs : 1 ≤ s) (h0 : 0 ≤ i) (h1 : 0 ≤ j) : decide (0 ≤ nbF s i j) = lostF s false (i, j) := by
  rw [← lost_floor hs h0 h1]
  unfold nbF
  by_cases c : (max i j - min i j) % s = 0 ∧ lowF s ((max i j - min i j) / s) = min i j
  · rw [if_pos c, decide_eq_true (Int.ediv_nonneg (by omega) (by omega)), decide_eq_true c.1, decide_eq_true c.2]; rfl
  · rw [if_neg c, decide_eq_false (by decide)]
    by_cases a : (max i j - min i j) % s = 0
    · rw [decide_eq_false fun z => c ⟨a, z⟩, Bool.and_false]
    · rw [decide_eq_false a]; rfl
def sp_number_between (K : PySem.W.Frag) : Sp := spR K R_number_between
def t_number_between (K : PySem.W.Frag) : TS := (tSeq (tPar 2 3 (tCons (tCB (rMinY K) (tCons (tVar 1) tNil)) (tCons (tCB (rMaxY K) (tCons (tVar 1) tNil)) tNil)))
    (tSeq (tAsg (tOp rDivX (tOp rSubX (tVar 3) (tVar 2)) (tVar 0)) (gName 4))
    (tRet (tIf (tAnd (tTest (tOp (rEqX K) (tOp rModX (tOp rSubX (tVar 3) (tVar 2)) (tVar 0)) (tC (.int 0)))) (tTest (tOp (rEqX K) (tCall (sp_low_in K) [] E0 (tCons (tVar 0) (tCons (tVar 4) tNil))) (tVar 2)))) (tVar 4) (tUn rNegX (tC (.int 1)))))))
theorem p_number_between (T : Top mg) (a_low_in : Av P w K mg base 2 "low_in" ["slack", "number"] (sp_low_in K)) {f : Addr} {cdv : Value} {A : Around} {outer : List Env} {s : Shared} {H : Hp} {E : XK} (hr : Room 2 (A.deeper (envOfC "number_between" (defScope s_number_between) s.heap.objs.size f cdv))) : PSs (cxOf CX0 P w K mg base N_number_between "number_between" (defScope s_number_between) f cdv A outer s H E).nox (defBody s_number_between) (t_number_between K) :=
  (pss_cons (ps_par (i := 2) (j := 3) rfl sc_number_between.nd rfl rfl (by decide) rfl rfl (pa_cons (pe_callB (cr_minY rfl (hu_of hr)) (by rfl) T.z_min (by decide +kernel) (pa_cons (pv 1) pa_nil)) (pa_cons (pe_callB (cr_maxY rfl (hu_of hr)) (by rfl) T.z_max (by decide +kernel) (pa_cons (pv 1) pa_nil)) pa_nil)) (by rfl))
    (pss_cons (ps_set (i := 4) sc_number_between.nd rfl (.inl rfl) (pe_op op_divX (pe_op op_subX (pv 3) (pv 2)) (pv 0)))
    (pss_one (ps_ret (pe_ifExp (PW.pt (pw_and (pt_cmpR (op_eqX hr.units) (pe_op op_modX (pe_op op_subX (pv 3) (pv 2)) (pv 0)) pe_int (nomark _)) (pw_and1 (pt_cmpR (op_eqX hr.units) (pe_av a_low_in hr rfl (pa_cons (pv 0) (pa_cons (pv 4) pa_nil))) (pv 2) (nomark _))))) (pv 4) (pe_un un_negX pe_int))))))
theorem w_number_between : ∀ ds d, R_number_between ds d → WS K false (t_number_between K) (args N_number_between.length ds) [] (fin (R_number_between ds)) := by
  rintro ds d ⟨s, i, j, g1, g2, h1, h2, h3, h4, rfl, rfl⟩
  refine ws_seq (ws_par (en_ev (ev_cb (ea_cons (ev_var rfl) ea_nil) rc_minT)) (en_ev (ev_cb (ea_cons (ev_var rfl) ea_nil) rc_maxT)) ?_)
  have d0 : 0 ≤ max i j - min i j := by omega
  have d1 : max i j - min i j ≤ 10 ^ 60 := by omega
  have sb : Bd 30 s := bd_small (by omega) (by omega)
  have q0 : 0 ≤ (max i j - min i j) / s := Int.ediv_nonneg d0 (by omega)
  have qb : Bd 400 ((max i j - min i j) / s) := ((bd60 d0 d1).div d0 (by omega)).mono (by decide)
  refine ws_seq (ws_set (ev_op (ev_op (ev_var rfl) (ev_var rfl) rd_sub) (ev_var rfl) (rd_div (sb.divOk (by omega)))) ?_)
  refine ws_ret (ev_if (et_and (et_test (s := false) (ev_op (ev_op (ev_op (ev_var rfl) (ev_var rfl) rd_sub) (ev_var rfl) (rd_mod (by omega))) ev_int rd_eq)) (fun _ => et_test (s := false) (ev_op (c_low_in (ea_cons (ev_var rfl) (ea_cons (ev_var rfl) ea_nil)) g1 g2 q0 qb) (ev_var rfl) rd_eq))) (fun _ => ev_var rfl) (fun _ => ev_un ev_int ru_neg)) ⟨s, i, j, g1, g2, h1, h2, h3, h4, rfl, ?_⟩
  show _ = D.int (if (max i j - min i j) % s = 0 ∧ lowF s ((max i j - min i j) / s) = min i j then (max i j - min i j) / s else -1)
  by_cases e1 : (max i j - min i j) % s = 0
  · by_cases e2 : lowF s ((max i j - min i j) / s) = min i j
    · rw [decide_eq_true e1, decide_eq_true e2, if_pos (show (true && true) = true from rfl), if_pos ⟨e1, e2⟩]
    · rw [decide_eq_true e1, decide_eq_false e2, if_neg (show ¬ (true && false) = true by decide), if_neg fun z => e2 z.2]
  · rw [decide_eq_false e1, if_neg (show ¬ (false && _) = true by rw [Bool.false_and]; decide), if_neg fun z => e1 z.1]
theorem av_number_between (T : Top mg) (a_low_in : Av P w K mg base 2 "low_in" ["slack", "number"] (sp_low_in K)) {f : Addr} {fd : FuncData} (F : Fun K "number_between" "number_between" s_number_between f fd) (hm : mg "number_between" = some (.ref f)) : Av P w K mg base 3 "number_between" ["slack", "place"] (sp_number_between K) :=
  av_mk F (ok_pure F sc_number_between (fun ds d h => l_number_between ds d h) (fun cdv A outer s H E hr => p_number_between T a_low_in hr) w_number_between) hm (fun _ _ _ _ _ _ us hl => match us, hl with | [_, _], _ => rfl) (fun _ _ _ _ _ _ us hl => match us, hl with | [_, _], _ => rfl)
/-! ### is_lost -/
abbrev s_is_lost : Stmt := topS 23
abbrev N_is_lost : List Str := ["slack", "place", "size"]
theorem sc_is_lost : FnScope N_is_lost ["slack", "place"] (defScope s_is_lost) := ⟨rfl, rfl, rfl, by decide +kernel, rfl, by decide +kernel, by decide +kernel⟩
abbrev R_is_lost : List D → D → Prop := fun ds d => ∃ s i j, 1 ≤ s ∧ s ≤ 50 ∧ 0 ≤ i ∧ i ≤ 10 ^ 60 ∧ 0 ≤ j ∧ j ≤ 10 ^ 60 ∧ ds = [.int s, .tup [.int i, .int j]] ∧ d = .bl (decide (0 ≤ nbF s i j))
theorem l_is_lost : ∀ ds d, R_is_lost ds d → ds.length = 2 := fun _ _ ⟨_, _, _, _, _, _, _, _, _, e, _⟩ => by rw [e]; rfl
theorem u_is_lost {s i j : Int} : ∀ d', R_is_lost [.int s, .tup [.int i, .int j]] d' → d' = .bl (decide (0 ≤ nbF s i j)) := fun _ ⟨_, _, _, _, _, _, _, _, _, e, e'⟩ => by cases e; exact e'
theorem c_is_lost {K : PySem.W.Frag} {b : Bool} {E : XK} {t : TA} {ρ : En} {ω : Ow} {s i j : Int} (h : EvA K b t ρ ω [.int s, .tup [.int i, .int j]]) (g1 : 1 ≤ s) (g2 : s ≤ 50) (h1 : 0 ≤ i) (h2 : i ≤ 10 ^ 60) (h3 : 0 ≤ j) (h4 : j ≤ 10 ^ 60) : Ev K b (tCall (spR K R_is_lost) [] E t) ρ ω (.bl (decide (0 ≤ nbF s i j))) :=
  ev_call h ⟨s, i, j, g1, g2, h1, h2, h3, h4, rfl, rfl⟩ u_is_lost
theorem c_is_lostF {K : PySem.W.Frag} {b : Bool} {E : XK} {t : TA} {ρ : En} {ω : Ow} {s i j : Int} (h : EvA K b t ρ ω [.int s, .tup [.int i, .int j]]) (g1 : 1 ≤ s) (g2 : s ≤ 50) (h1 : 0 ≤ i) (h2 : i ≤ 10 ^ 60) (h3 : 0 ≤ j) (h4 : j ≤ 10 ^ 60) : Ev K b (tCall (spR K R_is_lost) [] E t) ρ ω (.bl (lostF s false (i, j))) :=
  (c_is_lost h g1 g2 h1 h2 h3 h4).to (congrArg D.bl (nb_lost g1 h1 h3))
def sp_is_lost (K : PySem.W.Frag) : Sp := spR K R_is_lost
def t_is_lost (K : PySem.W.Frag) : TS := (tSeq (tAsg (tCall (sp_sure_slack K) [] E0 (tCons (tVar 0) tNil)) (gName 2))
    (tRet (tOp rGeX (tCall (sp_number_between K) [] E0 (tCons (tVar 2) (tCons (tCall (sp_sure_place K) [] E0 (tCons (tVar 1) tNil)) tNil))) (tC (.int 0)))))
theorem p_is_lost (T : Top mg) (a_sure_slack : Av P w K mg base 4 "sure_slack" ["thing"] (sp_sure_slack K)) (a_number_between : Av P w K mg base 3 "number_between" ["slack", "place"] (sp_number_between K)) (a_sure_place : Av P w K mg base 5 "sure_place" ["value"] (sp_sure_place K)) {f : Addr} {cdv : Value} {A : Around} {outer : List Env} {s : Shared} {H : Hp} {E : XK} (hr : Room 5 (A.deeper (envOfC "is_lost" (defScope s_is_lost) s.heap.objs.size f cdv))) : PSs (cxOf CX0 P w K mg base N_is_lost "is_lost" (defScope s_is_lost) f cdv A outer s H E).nox (defBody s_is_lost) (t_is_lost K) :=
  (pss_cons (ps_set (i := 2) sc_is_lost.nd rfl (.inl rfl) (pe_av a_sure_slack hr rfl (pa_cons (pv 0) pa_nil)))
    (pss_one (ps_ret (pe_cmpR op_geX (pe_av a_number_between hr rfl (pa_cons (pv 2) (pa_cons (pe_av a_sure_place hr rfl (pa_cons (pv 1) pa_nil)) pa_nil))) pe_int (nomark _)))))
theorem w_is_lost : ∀ ds d, R_is_lost ds d → WS K false (t_is_lost K) (args N_is_lost.length ds) [] (fin (R_is_lost ds)) := by
  rintro ds d ⟨s, i, j, g1, g2, h1, h2, h3, h4, rfl, rfl⟩
  refine ws_seq (ws_set (c_sure_slack (ea_cons (ev_var rfl) ea_nil) g1 g2) ?_)
  exact ws_ret (ev_op (c_number_between (ea_cons (ev_var rfl) (ea_cons (c_sure_placeT (ea_cons (ev_var rfl) ea_nil) h1 h2 h3 h4) ea_nil)) g1 g2 h1 h2 h3 h4) ev_int rd_ge) ⟨s, i, j, g1, g2, h1, h2, h3, h4, rfl, rfl⟩
theorem av_is_lost (T : Top mg) (a_sure_slack : Av P w K mg base 4 "sure_slack" ["thing"] (sp_sure_slack K)) (a_number_between : Av P w K mg base 3 "number_between" ["slack", "place"] (sp_number_between K)) (a_sure_place : Av P w K mg base 5 "sure_place" ["value"] (sp_sure_place K)) {f : Addr} {fd : FuncData} (F : Fun K "is_lost" "is_lost" s_is_lost f fd) (hm : mg "is_lost" = some (.ref f)) : Av P w K mg base 6 "is_lost" ["slack", "place"] (sp_is_lost K) :=
  av_mk F (ok_pure F sc_is_lost (fun ds d h => l_is_lost ds d h) (fun cdv A outer s H E hr => p_is_lost T a_sure_slack a_number_between a_sure_place hr) w_is_lost) hm (fun _ _ _ _ _ _ us hl => match us, hl with | [_, _], _ => rfl) (fun _ _ _ _ _ _ us hl => match us, hl with | [_, _], _ => rfl)
/-! ### leads -/
abbrev s_leads : Stmt := topS 25
abbrev N_leads : List Str := ["slack", "place", "later", "one", "other"]
theorem sc_leads : FnScope N_leads ["slack", "place", "later"] (defScope s_leads) := ⟨rfl, rfl, rfl, by decide +kernel, rfl, by decide +kernel, by decide +kernel⟩
abbrev R_leads : List D → D → Prop := fun ds d => ∃ (s : Int) (p q : ZZ), ds = [.int s, pD p, pD q] ∧ d = .bl (leadsF s p q)
theorem l_leads : ∀ ds d, R_leads ds d → ds.length = 3 := fun _ _ ⟨_, _, _, e, _⟩ => by rw [e]; rfl
theorem u_leads {s : Int} {p q : ZZ} : ∀ d', R_leads [.int s, pD p, pD q] d' → d' = .bl (leadsF s p q) := fun _ ⟨s', p', q', e, e'⟩ => by
  injection e with a e
  injection e with b e
  injection e with c _
  injection a with a
  rw [e', a, pD_inj.mp b, pD_inj.mp c]
theorem c_leads {K : PySem.W.Frag} {b : Bool} {E : XK} {t : TA} {ρ : En} {ω : Ow} {s : Int} {p q : ZZ} (h : EvA K b t ρ ω [.int s, pD p, pD q]) : Ev K b (tCall (spR K R_leads) [] E t) ρ ω (.bl (leadsF s p q)) := ev_call h ⟨s, p, q, rfl, rfl⟩ u_leads
theorem leads_no {s : Int} {p q : ZZ} (h : (decide (p.1 - q.1 < 0) || (decide (p.2 - q.2 < 0) || decide (p.1 - q.1 + (p.2 - q.2) = 0))) = true) : leadsF s p q = false := by
  cases e : leadsF s p q with
  | false => rfl
  | true =>
    have := leads_iff.mp e
    simp only [Bool.or_eq_true, decide_eq_true_eq] at h
    omega
theorem leads_yes {s : Int} {p q : ZZ} (h : (decide (p.1 - q.1 < 0) || (decide (p.2 - q.2 < 0) || decide (p.1 - q.1 + (p.2 - q.2) = 0))) = false) : leadsF s p q = (decide (p.1 - q.1 = 0) || (decide (p.2 - q.2 = 0) || decide (absI (p.1 - q.1 - (p.2 - q.2)) < s))) := by
  simp only [Bool.or_eq_false_iff, decide_eq_false_iff_not] at h
  unfold leadsF
  rw [decide_eq_true (show 0 ≤ p.1 - q.1 by omega), decide_eq_true (show 0 ≤ p.2 - q.2 by omega), decide_eq_false h.2.2, Bool.or_assoc]
  rfl
def sp_leads (K : PySem.W.Frag) : Sp := spR K R_leads
def t_leads (K : PySem.W.Frag) : TS := (tSeq (tPar 3 4 (tCons (tOp rSubX (tOp (rIxX K) (tVar 1) (tC (.int 0))) (tOp (rIxX K) (tVar 2) (tC (.int 0)))) (tCons (tOp rSubX (tOp (rIxX K) (tVar 1) (tC (.int 1))) (tOp (rIxX K) (tVar 2) (tC (.int 1)))) tNil)))
    (tSeq (tIfS (tOr (tTest (tOp rLtX (tVar 3) (tC (.int 0)))) (tOr (tTest (tOp rLtX (tVar 4) (tC (.int 0)))) (tTest (tOp (rEqX K) (tOp (rAddX K) (tVar 3) (tVar 4)) (tC (.int 0)))))) (tRet (tC (.bl false))) tNext)
    (tRet (tOrT K (tOp (rEqX K) (tVar 3) (tC (.int 0))) (tOrT K (tOp (rEqX K) (tVar 4) (tC (.int 0))) (tOp rLtX (tCB rAbsX (tCons (tOp rSubX (tVar 3) (tVar 4)) tNil)) (tVar 0)))))))
theorem p_leads (T : Top mg) {f : Addr} {cdv : Value} {A : Around} {outer : List Env} {s : Shared} {H : Hp} {E : XK} (hr : Room 0 (A.deeper (envOfC "leads" (defScope s_leads) s.heap.objs.size f cdv))) : PSs (cxOf CX0 P w K mg base N_leads "leads" (defScope s_leads) f cdv A outer s H E).nox (defBody s_leads) (t_leads K) :=
  (pss_cons (ps_par (i := 3) (j := 4) rfl sc_leads.nd rfl rfl (by decide) rfl rfl (pa_cons (pe_op op_subX (pe_ix (ix_X (hu_of hr)) (pv 1) pe_int (fun _ _ => rfl)) (pe_ix (ix_X (hu_of hr)) (pv 2) pe_int (fun _ _ => rfl))) (pa_cons (pe_op op_subX (pe_ix (ix_X (hu_of hr)) (pv 1) pe_int (fun _ _ => rfl)) (pe_ix (ix_X (hu_of hr)) (pv 2) pe_int (fun _ _ => rfl))) pa_nil)) (by rfl))
    (pss_cons (ps_if (PW.pt (pw_or (pt_cmpR op_ltX (pv 3) pe_int (nomark _)) (pw_or (pt_cmpR op_ltX (pv 4) pe_int (nomark _)) (pw_or1 (pt_cmpR (op_eqX hr.units) (pe_op op_addX (pv 3) (pv 4)) pe_int (nomark _)))))) (pss_one (ps_ret pe_bl)) pss_nil)
    (pss_one (ps_ret (pe_orT (pe_cmpR (op_eqX hr.units) (pv 3) pe_int (nomark _)) (pe_orT (pe_cmpR (op_eqX hr.units) (pv 4) pe_int (nomark _)) (pe_one (pe_cmpR op_ltX (pe_callB cr_absX (by rfl) T.z_abs (by decide +kernel) (pa_cons (pe_op op_subX (pv 3) (pv 4)) pa_nil)) (pv 0) (nomark _)))))))))
theorem w_leads : ∀ ds d, R_leads ds d → WS K false (t_leads K) (args N_leads.length ds) [] (fin (R_leads ds)) := by
  rintro ds d ⟨s, p, q, rfl, rfl⟩
  refine ws_seq (ws_par (en_ev (ev_op (ev_op (ev_var rfl) ev_int (rd_ixT rfl)) (ev_op (ev_var rfl) ev_int (rd_ixT rfl)) rd_sub)) (en_ev (ev_op (ev_op (ev_var rfl) ev_int (rd_ixT rfl)) (ev_op (ev_var rfl) ev_int (rd_ixT rfl)) rd_sub)) ?_)
  refine ws_seq (ws_if (et_or (et_test (s := true) (ev_op (ev_var rfl) ev_int rd_lt)) (fun _ => et_or (et_test (s := true) (ev_op (ev_var rfl) ev_int rd_lt)) (fun _ => et_test (s := true) (ev_op (ev_op (ev_var rfl) (ev_var rfl) rd_add) ev_int rd_eq)))) (fun h => ?_) (fun h => ws_next ?_))
  · exact ws_ret ev_bl ⟨s, p, q, rfl, by rw [leads_no h]⟩
  · exact ws_ret (ev_or (ev_op (ev_var rfl) ev_int rd_eq) (fun _ => ev_or (ev_op (ev_var rfl) ev_int rd_eq) (fun _ => ev_op (ev_cb (ea_cons (ev_op (ev_var rfl) (ev_var rfl) rd_sub) ea_nil) rc_abs) (ev_var rfl) rd_lt))) ⟨s, p, q, rfl, by rw [leads_yes h]⟩
theorem av_leads (T : Top mg) {f : Addr} {fd : FuncData} (F : Fun K "leads" "leads" s_leads f fd) (hm : mg "leads" = some (.ref f)) : Av P w K mg base 1 "leads" ["slack", "place", "later"] (sp_leads K) :=
  av_mk F (ok_pure F sc_leads (fun ds d h => l_leads ds d h) (fun cdv A outer s H E hr => p_leads T hr) w_leads) hm (fun _ _ _ _ _ _ us hl => match us, hl with | [_, _, _], _ => rfl) (fun _ _ _ _ _ _ us hl => match us, hl with | [_, _, _], _ => rfl)
/-! ### least_from -/
abbrev s_least_from : Stmt := topS 27
abbrev N_least_from : List Str := ["slack", "value", "door", "low", "high", "middle"]
theorem sc_least_from : FnScope N_least_from ["slack", "value", "door"] (defScope s_least_from) := ⟨rfl, rfl, rfl, by decide +kernel, rfl, by decide +kernel, by decide +kernel⟩
def doorOf (ad : Nat → Addr) (s : Int) : Addr → Option (Int → Int) := fun a => if a = ad i_low_in then some (dA s false) else if a = ad i_high_in then some (dB s false) else if a = ad i_other_low_in then some (dA s true) else if a = ad i_other_high_in then some (dB s true) else none
abbrev R_least_from (ad : Nat → Addr) : List D → D → Prop := fun ds d => ∃ (s v : Int) (a : Addr) (f : Int → Int), 1 ≤ s ∧ s ≤ 50 ∧ 0 ≤ v ∧ v ≤ 10 ^ 60 ∧ doorOf ad s a = some f ∧ ds = [.int s, .int v, .raw (.ref a)] ∧ d = .int (leastF f v)
theorem l_least_from {ad : Nat → Addr} : ∀ ds d, R_least_from ad ds d → ds.length = 3 := fun _ _ ⟨_, _, _, _, _, _, _, _, _, e, _⟩ => by rw [e]; rfl
theorem u_least_from {ad : Nat → Addr} {s v : Int} {a : Addr} {f : Int → Int} (hd : doorOf ad s a = some f) : ∀ d', R_least_from ad [.int s, .int v, .raw (.ref a)] d' → d' = .int (leastF f v) := fun _ ⟨_, _, _, _, _, _, _, _, hd', e, e'⟩ => by
  cases e
  rw [hd] at hd'
  cases hd'
  exact e'
theorem c_least_from {K : PySem.W.Frag} {b : Bool} {E : XK} {ad : Nat → Addr} {t : TA} {ρ : En} {ω : Ow} {s v : Int} {a : Addr} {f : Int → Int} (h : EvA K b t ρ ω [.int s, .int v, .raw (.ref a)]) (h1 : 1 ≤ s) (h2 : s ≤ 50) (h3 : 0 ≤ v) (h4 : v ≤ 10 ^ 60) (hd : doorOf ad s a = some f) : Ev K b (tCall (spR K (R_least_from ad)) [] E t) ρ ω (.int (leastF f v)) :=
  ev_call h ⟨s, v, a, f, h1, h2, h3, h4, hd, rfl, rfl⟩ (u_least_from hd)
theorem door_la (G : Ad K mg ad) (s : Int) : doorOf ad s (ad i_low_in) = some (dA s false) := by unfold doorOf; rw [if_pos rfl]
theorem door_lb (G : Ad K mg ad) (s : Int) : doorOf ad s (ad i_high_in) = some (dB s false) := by unfold doorOf; rw [if_neg G.n_high_in_low_in, if_pos rfl]
theorem door_oa (G : Ad K mg ad) (s : Int) : doorOf ad s (ad i_other_low_in) = some (dA s true) := by unfold doorOf; rw [if_neg G.n_other_low_in_low_in, if_neg G.n_other_low_in_high_in, if_pos rfl]
theorem door_ob (G : Ad K mg ad) (s : Int) : doorOf ad s (ad i_other_high_in) = some (dB s true) := by unfold doorOf; rw [if_neg G.n_other_high_in_low_in, if_neg G.n_other_high_in_high_in, if_neg G.n_other_high_in_other_low_in, if_pos rfl]
theorem door_spec {ad : Nat → Addr} {s : Int} {a : Addr} {f : Int → Int} (hs : 1 ≤ s) (h : doorOf ad s a = some f) : (∀ m, 0 ≤ m → m ≤ f m) ∧ ∀ n m, 0 ≤ n → n < m → f n < f m := by
  unfold doorOf at h
  split at h
  · cases h; exact ⟨fun m hm => dA_ge hs hm, fun n m hn hm => dA_lt hs hn hm⟩
  split at h
  · cases h; exact ⟨fun m hm => dB_ge0 hs hm, fun n m hn hm => dB_lt hs hn hm⟩
  split at h
  · cases h; exact ⟨fun m hm => dA_ge hs hm, fun n m hn hm => dA_lt hs hn hm⟩
  split at h
  · cases h; exact ⟨fun m hm => dB_ge0 hs hm, fun n m hn hm => dB_lt hs hn hm⟩
  · cases h
theorem bd_near {n : Int} (h0 : 0 ≤ n) (h : n ≤ 10 ^ 60 + 2) : Bd 400 n := (show Bd 400 ((10 : Int) ^ 60 + 2) by unfold Bd; decide +kernel).le h0 h
def loc_least_from_door (K : PySem.W.Frag) (ad : Nat → Addr) : Addr → Option Sp := fun f => if f = ad i_low_in then some (sp_low_in K) else if f = ad i_high_in then some (sp_high_in K) else if f = ad i_other_low_in then some (sp_other_low_in K) else if f = ad i_other_high_in then some (sp_other_high_in K) else none
theorem hl_least_from_door (G : Ad K mg ad) (a_low_in : Av P w K mg base 2 "low_in" ["slack", "number"] (sp_low_in K)) (a_high_in : Av P w K mg base 3 "high_in" ["slack", "number"] (sp_high_in K)) (a_other_low_in : Av P w K mg base 3 "other_low_in" ["slack", "number"] (sp_other_low_in K)) (a_other_high_in : Av P w K mg base 4 "other_high_in" ["slack", "number"] (sp_other_high_in K)) : ∀ f sp, loc_least_from_door K ad f = some sp → Loc P w K mg base 4 ["slack", "number"] f sp := by
  intro f sp h
  unfold loc_least_from_door at h
  repeat' (split at h)
  · rename_i e
    cases h
    subst e
    exact (a_low_in.mono (by decide)).loc G.d_low_in
  · rename_i e
    cases h
    subst e
    exact (a_high_in.mono (by decide)).loc G.d_high_in
  · rename_i e
    cases h
    subst e
    exact (a_other_low_in.mono (by decide)).loc G.d_other_low_in
  · rename_i e
    cases h
    subst e
    exact (a_other_high_in.mono (by decide)).loc G.d_other_high_in
  · cases h
theorem lo_least_from_door_low_in (G : Ad K mg ad) : loc_least_from_door K ad (ad i_low_in) = some (sp_low_in K) := by
  unfold loc_least_from_door
  rw [if_pos rfl]
theorem lo_least_from_door_high_in (G : Ad K mg ad) : loc_least_from_door K ad (ad i_high_in) = some (sp_high_in K) := by
  unfold loc_least_from_door
  rw [if_neg G.n_high_in_low_in, if_pos rfl]
theorem lo_least_from_door_other_low_in (G : Ad K mg ad) : loc_least_from_door K ad (ad i_other_low_in) = some (sp_other_low_in K) := by
  unfold loc_least_from_door
  rw [if_neg G.n_other_low_in_low_in, if_neg G.n_other_low_in_high_in, if_pos rfl]
theorem lo_least_from_door_other_high_in (G : Ad K mg ad) : loc_least_from_door K ad (ad i_other_high_in) = some (sp_other_high_in K) := by
  unfold loc_least_from_door
  rw [if_neg G.n_other_high_in_low_in, if_neg G.n_other_high_in_high_in, if_neg G.n_other_high_in_other_low_in, if_pos rfl]
def sp_least_from (K : PySem.W.Frag) (ad : Nat → Addr) : Sp := spR K (R_least_from ad)
def t_least_from (K : PySem.W.Frag) (ad : Nat → Addr) : TS := (tSeq (tPar 3 4 (tCons (tC (.int 0)) (tCons (tOp (rAddX K) (tVar 1) (tC (.int 2))) tNil)))
    (tSeq (tWhile (tTest (tOp rLtX (tVar 3) (tVar 4))) (tSeq (tAsg (tOp rDivX (tOp (rAddX K) (tVar 3) (tVar 4)) (tC (.int 2))) (gName 5))
    (tIfS (tTest (tOp rGeX (tLoc 2 (loc_least_from_door K ad) (tCons (tVar 0) (tCons (tVar 5) tNil))) (tVar 1))) (tAsg (tVar 5) (gName 4)) (tAsg (tOp (rAddX K) (tVar 5) (tC (.int 1))) (gName 3)))))
    (tRet (tVar 3))))
theorem p_least_from (T : Top mg) (G : Ad K mg ad) (a_low_in : Av P w K mg base 2 "low_in" ["slack", "number"] (sp_low_in K)) (a_high_in : Av P w K mg base 3 "high_in" ["slack", "number"] (sp_high_in K)) (a_other_low_in : Av P w K mg base 3 "other_low_in" ["slack", "number"] (sp_other_low_in K)) (a_other_high_in : Av P w K mg base 4 "other_high_in" ["slack", "number"] (sp_other_high_in K)) {f : Addr} {cdv : Value} {A : Around} {outer : List Env} {s : Shared} {H : Hp} {E : XK} (hr : Room 4 (A.deeper (envOfC "least_from" (defScope s_least_from) s.heap.objs.size f cdv))) : PSs (cxOf CX0 P w K mg base N_least_from "least_from" (defScope s_least_from) f cdv A outer s H E).nox (defBody s_least_from) (t_least_from K ad) :=
  (pss_cons (ps_par (i := 3) (j := 4) rfl sc_least_from.nd rfl rfl (by decide) rfl rfl (pa_cons pe_int (pa_cons (pe_op op_addX (pv 1) pe_int) pa_nil)) (by rfl))
    (pss_cons (ps_while PassesOwn.never (pt_cmpR op_ltX (pv 3) (pv 4) (nomark _)) (pss_cons (ps_set (i := 5) sc_least_from.nd rfl (.inl rfl) (pe_op op_divX (pe_op op_addX (pv 3) (pv 4)) pe_int))
    (pss_one (ps_if (pt_cmpR op_geX (pe_loc (i := 2) (hl_least_from_door G a_low_in a_high_in a_other_low_in a_other_high_in) hr rfl (.inl rfl) (pa_cons (pv 0) (pa_cons (pv 5) pa_nil))) (pv 1) (nomark _)) (pss_one (ps_set (i := 4) sc_least_from.nd rfl (.inl rfl) (pv 5))) (pss_one (ps_set (i := 3) sc_least_from.nd rfl (.inl rfl) (pe_op op_addX (pv 5) pe_int)))))))
    (pss_one (ps_ret (pv 3)))))
theorem cd_least (G : Ad K mg ad) {b : Bool} {ta : TA} {ρ : En} {ω : Ow} {s n : Int} {a : Addr} {f : Int → Int} (hd : doorOf ad s a = some f) (e : ρ[2]? = some (some (.sh (.raw (.ref a))))) (h : EvA K b ta ρ ω [.int s, .int n]) (h1 : 1 ≤ s) (h2 : s ≤ 50) (h3 : 0 ≤ n) (h4 : Bd 400 n) :
    Ev K b (tLoc 2 (loc_least_from_door K ad) ta) ρ ω (.int (f n)) := by
  unfold doorOf at hd
  split at hd
  · rename_i z; subst z; cases hd; exact ev_loc e (lo_least_from_door_low_in G) h ⟨s, n, h1, h2, h3, h4, rfl, rfl⟩ u_low_in
  split at hd
  · rename_i z; subst z; cases hd; exact ev_loc e (lo_least_from_door_high_in G) h ⟨s, n, h1, h2, h3, h4, rfl, rfl⟩ u_high_in
  split at hd
  · rename_i z; subst z; cases hd; exact ev_loc e (lo_least_from_door_other_low_in G) h ⟨s, n, h1, h2, h3, h4, rfl, rfl⟩ u_other_low_in
  split at hd
  · rename_i z; subst z; cases hd; exact ev_loc e (lo_least_from_door_other_high_in G) h ⟨s, n, h1, h2, h3, h4, rfl, rfl⟩ u_other_high_in
  · cases hd
theorem w_least_from (G : Ad K mg ad) : ∀ ds d, R_least_from ad ds d → WS K false (t_least_from K ad) (args N_least_from.length ds) [] (fin (R_least_from ad ds)) := by
  rintro ds d ⟨s, v, a, f, h1, h2, h3, h4, hd, rfl, rfl⟩
  obtain ⟨f1, f2⟩ := door_spec h1 hd
  refine ws_seq (ws_par (en_ev ev_int) (en_ev (ev_op (ev_var rfl) ev_int rd_add)) ?_)
  refine ws_seq (ws_while (fun m ρ ω => ∃ (lo hi : Int) (y5 : Option Ent), ρ = [some (.sh (.int s)), some (.sh (.int v)), some (.sh (.raw (.ref a))), some (.sh (.int lo)), some (.sh (.int hi)), y5] ∧ ω = [] ∧ 0 ≤ lo ∧ lo ≤ hi ∧ hi ≤ v + 2 ∧ (∀ m, 0 ≤ m → m < lo → f m < v) ∧ v ≤ f hi ∧ m = (hi - lo).toNat) _
    ⟨0, v + 2, none, rfl, rfl, Int.le_refl 0, by omega, Int.le_refl _, fun m a b => by omega, by have := f1 (v + 2) (by omega); omega, rfl⟩ (fun m ρ' ω' => ?_))
  rintro ⟨lo, hi, y5, rfl, rfl, g1, g2, g3, g4, g5, rfl⟩
  refine ⟨_, et_test (s := true) (ev_op (ev_var rfl) (ev_var rfl) rd_lt), fun hc => ?_, fun hc => ?_⟩
  · have hc := of_decide_eq_true hc
    obtain ⟨md, hm⟩ : ∃ md, (lo + hi) / 2 = md := ⟨_, rfl⟩
    refine ws_seq (ws_set ((ev_op (ev_op (ev_var rfl) (ev_var rfl) rd_add) ev_int (rd_div ((bd_small (by decide) (by decide)).divOk (by decide)))).to (congrArg D.int hm)) ?_)
    refine ws_if (et_test (s := true) (ev_op (cd_least G hd rfl (ea_cons (ev_var rfl) (ea_cons (ev_var rfl) ea_nil)) h1 h2 (by omega) (bd_near (by omega) (by omega))) (ev_var rfl) rd_ge)) (fun hx => ?_) (fun hx => ?_)
    · have hx := of_decide_eq_true hx
      exact ws_set (ev_var rfl) ⟨_, by omega, lo, md, _, rfl, rfl, g1, by omega, by omega, g4, hx, rfl⟩
    · have hx := of_decide_eq_false hx
      refine ws_set (ev_op (ev_var rfl) ev_int rd_add) ⟨_, by omega, md + 1, hi, _, rfl, rfl, by omega, by omega, g3, fun m m0 m1 => ?_, g5, rfl⟩
      by_cases z : m = md
      · subst z; omega
      · have := f2 m md m0 (by omega); omega
  · have hc := of_decide_eq_false hc
    have e : lo = hi := by omega
    subst e
    exact ws_ret (ev_var rfl) ⟨s, v, a, f, h1, h2, h3, h4, hd, rfl, by rw [least_eq f1 h3 g1 g5 g4]⟩
theorem av_least_from (T : Top mg) (G : Ad K mg ad) (a_low_in : Av P w K mg base 2 "low_in" ["slack", "number"] (sp_low_in K)) (a_high_in : Av P w K mg base 3 "high_in" ["slack", "number"] (sp_high_in K)) (a_other_low_in : Av P w K mg base 3 "other_low_in" ["slack", "number"] (sp_other_low_in K)) (a_other_high_in : Av P w K mg base 4 "other_high_in" ["slack", "number"] (sp_other_high_in K)) {f : Addr} {fd : FuncData} (F : Fun K "least_from" "least_from" s_least_from f fd) (hm : mg "least_from" = some (.ref f)) : Av P w K mg base 5 "least_from" ["slack", "value", "door"] (sp_least_from K ad) :=
  av_mk F (ok_pure F sc_least_from (fun ds d h => l_least_from ds d h) (fun cdv A outer s H E hr => p_least_from T G a_low_in a_high_in a_other_low_in a_other_high_in hr) (w_least_from G)) hm (fun _ _ _ _ _ _ us hl => match us, hl with | [_, _, _], _ => rfl) (fun _ _ _ _ _ _ us hl => match us, hl with | [_, _, _], _ => rfl)
/-! ### pair_of -/
abbrev s_pair_of : Stmt := topS 28
abbrev N_pair_of : List Str := ["slack", "number", "is_turned"]
theorem sc_pair_of : FnScope N_pair_of ["slack", "number", "is_turned"] (defScope s_pair_of) := ⟨rfl, rfl, rfl, by decide +kernel, rfl, by decide +kernel, by decide +kernel⟩
abbrev R_pair_of : List D → D → Prop := fun ds d => ∃ (s n : Int) (t : Bool), 1 ≤ s ∧ s ≤ 50 ∧ 0 ≤ n ∧ Bd 400 n ∧ ds = [.int s, .int n, .bl t] ∧ d = pD (dA s t n, dB s t n)
theorem l_pair_of : ∀ ds d, R_pair_of ds d → ds.length = 3 := fun _ _ ⟨_, _, _, _, _, _, _, e, _⟩ => by rw [e]; rfl
theorem u_pair_of {s n : Int} {t : Bool} : ∀ d', R_pair_of [.int s, .int n, .bl t] d' → d' = pD (dA s t n, dB s t n) := fun _ ⟨_, _, _, _, _, _, _, e, e'⟩ => by cases e; exact e'
theorem c_pair_of {K : PySem.W.Frag} {b : Bool} {E : XK} {ta : TA} {ρ : En} {ω : Ow} {s n : Int} {t : Bool} (h : EvA K b ta ρ ω [.int s, .int n, .bl t]) (h1 : 1 ≤ s) (h2 : s ≤ 50) (h3 : 0 ≤ n) (h4 : Bd 400 n) : Ev K b (tCall (spR K R_pair_of) [] E ta) ρ ω (pD (dA s t n, dB s t n)) :=
  ev_call h ⟨s, n, t, h1, h2, h3, h4, rfl, rfl⟩ u_pair_of
def sp_pair_of (K : PySem.W.Frag) : Sp := spR K R_pair_of
def t_pair_of (K : PySem.W.Frag) : TS := (tSeq (tIfS (tTruX K (tVar 2)) (tRet (tTup (tCons (tCall (sp_other_low_in K) [] E0 (tCons (tVar 0) (tCons (tVar 1) tNil))) (tCons (tCall (sp_other_high_in K) [] E0 (tCons (tVar 0) (tCons (tVar 1) tNil))) tNil)))) tNext)
    (tRet (tTup (tCons (tCall (sp_low_in K) [] E0 (tCons (tVar 0) (tCons (tVar 1) tNil))) (tCons (tCall (sp_high_in K) [] E0 (tCons (tVar 0) (tCons (tVar 1) tNil))) tNil)))))
theorem p_pair_of (T : Top mg) (a_other_high_in : Av P w K mg base 4 "other_high_in" ["slack", "number"] (sp_other_high_in K)) (a_other_low_in : Av P w K mg base 3 "other_low_in" ["slack", "number"] (sp_other_low_in K)) (a_high_in : Av P w K mg base 3 "high_in" ["slack", "number"] (sp_high_in K)) (a_low_in : Av P w K mg base 2 "low_in" ["slack", "number"] (sp_low_in K)) {f : Addr} {cdv : Value} {A : Around} {outer : List Env} {s : Shared} {H : Hp} {E : XK} (hr : Room 4 (A.deeper (envOfC "pair_of" (defScope s_pair_of) s.heap.objs.size f cdv))) : PSs (cxOf CX0 P w K mg base N_pair_of "pair_of" (defScope s_pair_of) f cdv A outer s H E).nox (defBody s_pair_of) (t_pair_of K) :=
  (pss_cons (ps_if (pt_tru (pv 2)) (pss_one (ps_ret (pe_tup (pa_cons (pe_av a_other_low_in hr rfl (pa_cons (pv 0) (pa_cons (pv 1) pa_nil))) (pa_cons (pe_av a_other_high_in hr rfl (pa_cons (pv 0) (pa_cons (pv 1) pa_nil))) pa_nil))))) pss_nil)
    (pss_one (ps_ret (pe_tup (pa_cons (pe_av a_low_in hr rfl (pa_cons (pv 0) (pa_cons (pv 1) pa_nil))) (pa_cons (pe_av a_high_in hr rfl (pa_cons (pv 0) (pa_cons (pv 1) pa_nil))) pa_nil))))))
theorem w_pair_of : ∀ ds d, R_pair_of ds d → WS K false (t_pair_of K) (args N_pair_of.length ds) [] (fin (R_pair_of ds)) := by
  rintro ds d ⟨s, n, t, h1, h2, h3, h4, rfl, rfl⟩
  refine ws_seq (ws_if (et_trub (s := true) (ev_var rfl)) (fun hc => ?_) (fun hc => ws_next ?_))
  · subst hc
    exact ws_ret (ev_tup (ea_cons (c_other_low_in (ea_cons (ev_var rfl) (ea_cons (ev_var rfl) ea_nil)) h1 h2 h3 h4) (ea_cons (c_other_high_in (ea_cons (ev_var rfl) (ea_cons (ev_var rfl) ea_nil)) h1 h2 h3 h4) ea_nil))) ⟨s, n, true, h1, h2, h3, h4, rfl, rfl⟩
  · subst hc
    exact ws_ret (ev_tup (ea_cons (c_low_in (ea_cons (ev_var rfl) (ea_cons (ev_var rfl) ea_nil)) h1 h2 h3 h4) (ea_cons (c_high_in (ea_cons (ev_var rfl) (ea_cons (ev_var rfl) ea_nil)) h1 h2 h3 h4) ea_nil))) ⟨s, n, false, h1, h2, h3, h4, rfl, rfl⟩
theorem av_pair_of (T : Top mg) (a_other_high_in : Av P w K mg base 4 "other_high_in" ["slack", "number"] (sp_other_high_in K)) (a_other_low_in : Av P w K mg base 3 "other_low_in" ["slack", "number"] (sp_other_low_in K)) (a_high_in : Av P w K mg base 3 "high_in" ["slack", "number"] (sp_high_in K)) (a_low_in : Av P w K mg base 2 "low_in" ["slack", "number"] (sp_low_in K)) {f : Addr} {fd : FuncData} (F : Fun K "pair_of" "pair_of" s_pair_of f fd) (hm : mg "pair_of" = some (.ref f)) : Av P w K mg base 5 "pair_of" ["slack", "number", "is_turned"] (sp_pair_of K) :=
  av_mk F (ok_pure F sc_pair_of (fun ds d h => l_pair_of ds d h) (fun cdv A outer s H E hr => p_pair_of T a_other_high_in a_other_low_in a_high_in a_low_in hr) w_pair_of) hm (fun _ _ _ _ _ _ us hl => match us, hl with | [_, _, _], _ => rfl) (fun _ _ _ _ _ _ us hl => match us, hl with | [_, _, _], _ => rfl)
/-! ### numbers_near -/
abbrev s_numbers_near : Stmt := topS 29
abbrev N_numbers_near : List Str := ["slack", "place", "is_turned", "doors", "found", "middle", "value", "door", "own"]
theorem sc_numbers_near : FnScope N_numbers_near ["slack", "place", "is_turned"] (defScope s_numbers_near) := ⟨rfl, rfl, rfl, by decide +kernel, rfl, by decide +kernel, by decide +kernel⟩
def plc60 (p : ZZ) : Prop := 0 ≤ p.1 ∧ p.1 ≤ 10 ^ 60 ∧ 0 ≤ p.2 ∧ p.2 ≤ 10 ^ 60
abbrev nearF (s : Int) (t : Bool) (p : ZZ) : List Int := nearI s t p ++ nearJ s p
abbrev R_numbers_near : List D → D → Prop := fun ds d => ∃ (s : Int) (p : ZZ) (t : Bool), 1 ≤ s ∧ s ≤ 50 ∧ plc60 p ∧ ds = [.int s, pD p, .bl t] ∧ d = .lst ((nearF s t p).map D.int)
theorem l_numbers_near : ∀ ds d, R_numbers_near ds d → ds.length = 3 := fun _ _ ⟨_, _, _, _, _, _, e, _⟩ => by rw [e]; rfl
theorem three_sp {s s' : Int} {p p' : ZZ} {t t' : Bool} (e : [D.int s, pD p, .bl t] = [D.int s', pD p', .bl t']) : s = s' ∧ p = p' ∧ t = t' := by
  injection e with a e
  injection e with b e
  injection e with c _
  injection a with a
  injection c with c
  exact ⟨a, pD_inj.mp b, c⟩
theorem u_numbers_near {s : Int} {p : ZZ} {t : Bool} : ∀ d', R_numbers_near [.int s, pD p, .bl t] d' → d' = .lst ((nearF s t p).map D.int) := fun _ ⟨_, _, _, _, _, _, e, e'⟩ => by
  obtain ⟨rfl, rfl, rfl⟩ := three_sp e
  exact e'
theorem c_numbers_near {K : PySem.W.Frag} {b : Bool} {E : XK} {ta : TA} {ρ : En} {ω : Ow} {s : Int} {p : ZZ} {t : Bool} (h : EvA K b ta ρ ω [.int s, pD p, .bl t]) (h1 : 1 ≤ s) (h2 : s ≤ 50) (hp : plc60 p) : Ev K b (tCall (spR K R_numbers_near) [] E ta) ρ ω (.lst ((nearF s t p).map D.int)) :=
  ev_call h ⟨s, p, t, h1, h2, hp, rfl, rfl⟩ u_numbers_near
def sp_numbers_near (K : PySem.W.Frag) : Sp := spR K R_numbers_near
def t_numbers_near (K : PySem.W.Frag) (ad : Nat → Addr) : TS := (tSeq (tAsg (tIf (tTruX K (tVar 2)) (tTup (tCons (tC (.ref (ad i_other_low_in))) (tCons (tC (.ref (ad i_other_high_in))) tNil))) (tTup (tCons (tC (.ref (ad i_low_in))) (tCons (tC (.ref (ad i_high_in))) tNil)))) (gName 3))
    (tSeq (tAsg (tLc2 (iSeqX K (tVar 1)) (gName 6) tYes (iSeqX K (tVar 3)) (gName 7) tYes (tCall (sp_least_from K ad) [] E0 (tCons (tVar 0) (tCons (tVar 6) (tCons (tVar 7) tNil)))) [6, 7] [7]) (gName 4))
    (tSeq (tAsg (tOp rDivX (tCB rAbsX (tCons (tOp rSubX (tOp (rIxX K) (tVar 1) (tC (.int 0))) (tOp (rIxX K) (tVar 1) (tC (.int 1)))) tNil)) (tVar 0)) (gName 5))
    (tSeq (tDrop (tBM K "list" rExtend (tVar 4) (tCons (tLc (iRngA (tCons (tOp rSubX (tVar 5) (tC (.int 1))) (tCons (tOp (rAddX K) (tVar 5) (tC (.int 2))) tNil))) (gName 8) (tTest (tOp rGeX (tVar 8) (tC (.int 0)))) (tVar 8) [8]) tNil)))
    (tRet (tVar 4))))))
theorem p_numbers_near (T : Top mg) (G : Ad K mg ad) (a_least_from : Av P w K mg base 5 "least_from" ["slack", "value", "door"] (sp_least_from K ad)) {f : Addr} {cdv : Value} {A : Around} {outer : List Env} {s : Shared} {H : Hp} {E : XK} (hr : Room 5 (A.deeper (envOfC "numbers_near" (defScope s_numbers_near) s.heap.objs.size f cdv))) : PSs (cxOf CX0 P w K mg base N_numbers_near "numbers_near" (defScope s_numbers_near) f cdv A outer s H E).nox (defBody s_numbers_near) (t_numbers_near K ad) :=
  (pss_cons (ps_set (i := 3) sc_numbers_near.nd rfl (.inr rfl) (pe_ifExp (pt_tru (pv 2)) (pe_tup (pa_cons (pe_fn G.d_other_low_in (by rfl)) (pa_cons (pe_fn G.d_other_high_in (by rfl)) pa_nil))) (pe_tup (pa_cons (pe_fn G.d_low_in (by rfl)) (pa_cons (pe_fn G.d_high_in (by rfl)) pa_nil)))))
    (pss_cons (ps_setLc2 (i := 4) (own := [("value", 6), ("door", 7)]) (vs1 := [7]) rfl sc_numbers_near.nd rfl rfl (sw_true rfl rfl rfl (by decide +kernel)) (pi_seqX (pv 1)) (blkOk_by (own := [("value", 6), ("door", 7)]) (N := N_numbers_near) (sc := defScope s_numbers_near) (by decide +kernel)) (by decide) (fun _ _ _ _ _ => (pg_name (i := 6) sc_numbers_near.nd rfl (.inl rfl))) (fun _ _ _ _ _ => pts_nil) (fun _ _ _ _ _ => (pi_seqX (pv 3))) (fun _ _ _ _ _ => (pg_name (i := 7) sc_numbers_near.nd rfl (.inl rfl))) (fun _ _ _ _ _ => pts_nil) (fun _ _ _ _ _ => (pe_av a_least_from hr rfl (pa_cons (pv 0) (pa_cons (pv 6) (pa_cons (pv 7) pa_nil))))))
    (pss_cons (ps_set (i := 5) sc_numbers_near.nd rfl (.inl rfl) (pe_op op_divX (pe_callB cr_absX (by rfl) T.z_abs (by decide +kernel) (pa_cons (pe_op op_subX (pe_ix (ix_X (hu_of hr)) (pv 1) pe_int (fun _ _ => rfl)) (pe_ix (ix_X (hu_of hr)) (pv 1) pe_int (fun _ _ => rfl))) pa_nil)) (pv 0)))
    (pss_cons (ps_expr (pe_bm PySem.F.plainAttrs_list PySem.F.slot_list_extend PySem.F.type_list_extend mt_extend (pv 4) (pa_cons (pe_lc (own := [("own", 8)]) rfl sc_numbers_near.nd (pi_rangeA rfl T.z_range (pa_cons (pe_op op_subX (pv 5) pe_int) (pa_cons (pe_op op_addX (pv 5) pe_int) pa_nil))) (blkOk_by (own := [("own", 8)]) (N := N_numbers_near) (sc := defScope s_numbers_near) (by decide +kernel)) (fun _ _ _ _ _ => (pg_name (i := 8) sc_numbers_near.nd rfl (.inl rfl))) (fun _ _ _ _ _ => (pts_one (pt_cmpR op_geX (pv 8) pe_int (nomark _)))) (fun _ _ _ _ _ => (pv 8))) pa_nil)))
    (pss_one (ps_ret (pv 4)))))))
theorem w_numbers_near (G : Ad K mg ad) : ∀ ds d, R_numbers_near ds d → WS K false (t_numbers_near K ad) (args N_numbers_near.length ds) [] (fin (R_numbers_near ds)) := by
  rintro ds d ⟨s, p, t, h1, h2, ⟨p1, p2, p3, p4⟩, rfl, rfl⟩
  obtain ⟨a, b, ha, hb, he⟩ : ∃ a b : Addr, doorOf ad s a = some (dA s t) ∧ doorOf ad s b = some (dB s t) ∧ (if t = true then D.tup [.raw (.ref (ad i_other_low_in)), .raw (.ref (ad i_other_high_in))] else D.tup [.raw (.ref (ad i_low_in)), .raw (.ref (ad i_high_in))]) = D.tup [.raw (.ref a), .raw (.ref b)] := by
    cases t
    · exact ⟨_, _, door_la G s, door_lb G s, rfl⟩
    · exact ⟨_, _, door_oa G s, door_ob G s, rfl⟩
  refine ws_seq (ws_set ((ev_if (et_trub (s := true) (ev_var rfl)) (fun _ => ev_tup (ea_cons ev_raw (ea_cons ev_raw ea_nil))) (fun _ => ev_tup (ea_cons ev_raw (ea_cons ev_raw ea_nil)))).to he) ?_)
  refine ws_seq (ws_setL (ds := (nearI s t p).map D.int) ((el_lc2 [p.1, p.2] D.int [(a, dA s t), (b, dB s t)] (fun x => D.raw (.ref x.1)) (fun v x => D.int (leastF x.2 v)) (ei_tup' (ev_var rfl)) (Nat.le_of_ble_eq_true rfl) (fun v hv => ⟨_, wgw_name, ei_tup' (ev_var rfl), fun x hx => ⟨_, wgw_name, ?_⟩⟩)).to rfl) ?_)
  · have v0 : 0 ≤ v ∧ v ≤ 10 ^ 60 := by
      rcases List.mem_cons.mp hv with z | z
      · subst z; exact ⟨p1, p2⟩
      · rcases List.mem_cons.mp z with z | z
        · subst z; exact ⟨p3, p4⟩
        · cases z
    have d0 : doorOf ad s x.1 = some x.2 := by
      rcases List.mem_cons.mp hx with z | z
      · subst z; exact ha
      · rcases List.mem_cons.mp z with z | z
        · subst z; exact hb
        · cases z
    exact c_least_from (ea_cons (ev_var rfl) (ea_cons (ev_var rfl) (ea_cons (ev_var rfl) ea_nil))) h1 h2 v0.1 v0.2 d0
  refine ws_seq (ws_set (ev_op (ev_cb (ea_cons (ev_op (ev_op (ev_var rfl) ev_int (rd_ixT rfl)) (ev_op (ev_var rfl) ev_int (rd_ixT rfl)) rd_sub) ea_nil) rc_abs) (ev_var rfl) (rd_div (Bd.divOk (n := 30) (bd_small (by omega) (by omega)) (by omega)))) ?_)
  refine ws_seq (ws_extend rfl rfl (es := (nearJ s p).map D.int) ((ev_lc ((List.range 3).map fun (i : Nat) => absI (p.1 - p.2) / s - 1 + (i : Int)) D.int (fun n => decide (0 ≤ n)) D.int ?_ (by rw [List.length_map, List.length_range]; decide) (fun n hn => ⟨_, wgw_name, et_test (s := true) (ev_op (ev_var rfl) ev_int rd_ge), fun _ => ev_var rfl⟩)).to rfl) ?_ ?_)
  · have h := ei_rngA (K := K) (s := true) (i := absI (p.1 - p.2) / s - 1) (j := absI (p.1 - p.2) / s + 2) (ρ := [some (.sh (.int s)), some (.sh (pD p)), some (.sh (.bl t)), some (.sh (.tup [.raw (.ref a), .raw (.ref b)])), some (.ow 0), some (.sh (.int (absI (p.1 - p.2) / s))), none, none, none]) (ω := [.l ((nearI s t p).map D.int)]) (t := tCons (tOp rSubX (tVar 5) (tC (.int 1))) (tCons (tOp (rAddX K) (tVar 5) (tC (.int 2))) tNil)) (ea_cons (ev_op (ev_var rfl) ev_int rd_sub) (ea_cons (ev_op (ev_var rfl) ev_int rd_add) ea_nil))
    rw [show (absI (p.1 - p.2) / s + 2 - (absI (p.1 - p.2) / s - 1)).toNat = 3 by omega] at h
    have e : rng (absI (p.1 - p.2) / s - 1) 3 = ((List.range 3).map fun (i : Nat) => absI (p.1 - p.2) / s - 1 + (i : Int)).map D.int := by unfold rng; rw [List.map_map]; rfl
    rw [e] at h
    exact h
  · have : (nearJ s p).length ≤ 3 := by
      unfold nearJ
      refine Nat.le_trans (List.length_filter_le _ _) ?_
      rw [List.length_map, List.length_range]
      exact Nat.le_refl _
    rw [List.length_map, List.length_map]
    show 4 + _ ≤ _
    omega
  exact ws_ret (ev_varO rfl rfl) ⟨s, p, t, h1, h2, ⟨p1, p2, p3, p4⟩, rfl, by rw [List.map_append]⟩
theorem av_numbers_near (T : Top mg) (G : Ad K mg ad) (a_least_from : Av P w K mg base 5 "least_from" ["slack", "value", "door"] (sp_least_from K ad)) {f : Addr} {fd : FuncData} (F : Fun K "numbers_near" "numbers_near" s_numbers_near f fd) (hm : mg "numbers_near" = some (.ref f)) : Av P w K mg base 6 "numbers_near" ["slack", "place", "is_turned"] (sp_numbers_near K) :=
  av_mk F (ok_pure F sc_numbers_near (fun ds d h => l_numbers_near ds d h) (fun cdv A outer s H E hr => p_numbers_near T G a_least_from hr) (w_numbers_near G)) hm (fun _ _ _ _ _ _ us hl => match us, hl with | [_, _, _], _ => rfl) (fun _ _ _ _ _ _ us hl => match us, hl with | [_, _, _], _ => rfl)
/-! ### wins_in -/
abbrev s_wins_in : Stmt := topS 30
abbrev N_wins_in : List Str := ["slack", "place", "is_turned", "found", "number", "one", "other", "later"]
theorem sc_wins_in : FnScope N_wins_in ["slack", "place", "is_turned"] (defScope s_wins_in) := ⟨rfl, rfl, rfl, by decide +kernel, rfl, by decide +kernel, by decide +kernel⟩
abbrev R_wins_in : List D → D → Prop := fun ds d => ∃ (s : Int) (p : ZZ) (t : Bool), 1 ≤ s ∧ s ≤ 50 ∧ plc60 p ∧ ds = [.int s, pD p, .bl t] ∧ d = .lst ((winsF s t p).map pD)
theorem l_wins_in : ∀ ds d, R_wins_in ds d → ds.length = 3 := fun _ _ ⟨_, _, _, _, _, _, e, _⟩ => by rw [e]; rfl
theorem u_wins_in {s : Int} {p : ZZ} {t : Bool} : ∀ d', R_wins_in [.int s, pD p, .bl t] d' → d' = .lst ((winsF s t p).map pD) := fun _ ⟨_, _, _, _, _, _, e, e'⟩ => by
  obtain ⟨rfl, rfl, rfl⟩ := three_sp e
  exact e'
theorem c_wins_in {K : PySem.W.Frag} {b : Bool} {E : XK} {ta : TA} {ρ : En} {ω : Ow} {s : Int} {p : ZZ} {t : Bool} (h : EvA K b ta ρ ω [.int s, pD p, .bl t]) (h1 : 1 ≤ s) (h2 : s ≤ 50) (hp : plc60 p) : Ev K b (tCall (spR K R_wins_in) [] E ta) ρ ω (.lst ((winsF s t p).map pD)) :=
  ev_call h ⟨s, p, t, h1, h2, hp, rfl, rfl⟩ u_wins_in
def plOk (s : Int) (p : ZZ) (ds : List D) : Prop := 1 ≤ s ∧ s ≤ 50 ∧ plc60 p ∧ (ds = [.int s, pD p] ∨ ds = [.int s, .lst [.int p.1, .int p.2]])
theorem pl_inj {s s' : Int} {p p' : ZZ} {ds : List D} (h : plOk s p ds) (h' : plOk s' p' ds) : s = s' ∧ p = p' := by
  obtain ⟨p1, p2⟩ := p
  obtain ⟨q1, q2⟩ := p'
  obtain ⟨_, _, _, e⟩ := h
  obtain ⟨_, _, _, e'⟩ := h'
  rcases e with rfl | rfl <;> rcases e' with e | e <;> cases e <;> exact ⟨rfl, rfl⟩
/-- what is found from the first i numbers -/
def Fnd (s : Int) (t : Bool) (p : ZZ) (ks : List Int) (m : List (ZZ × D)) : Prop := (m.map (·.1)).Nodup ∧ m.length ≤ 2 * ks.length ∧ ∀ q, hasG m q = true ↔ leadsF s p q = true ∧ ∃ k, k ∈ ks ∧ (q = (dA s t k, dB s t k) ∨ q = (dB s t k, dA s t k))
theorem near_len {s : Int} {t : Bool} {p : ZZ} : (nearF s t p).length ≤ 7 := by
  have : (nearJ s p).length ≤ 3 := by
    unfold nearJ
    refine Nat.le_trans (List.length_filter_le _ _) ?_
    rw [List.length_map, List.length_range]
    exact Nat.le_refl _
  rw [List.length_append]
  show 4 + _ ≤ _
  omega
theorem find_step {s : Int} {t : Bool} {p : ZZ} {m : List (ZZ × D)} {q : ZZ} {P : ZZ → Prop} (h : ∀ q, hasG m q = true ↔ leadsF s p q = true ∧ P q) (hc : leadsF s p q = true) (x : ZZ) : hasG (putG m q (.bl true)) x = true ↔ leadsF s p x = true ∧ (P x ∨ x = q) := by
  rw [hasG_put, Bool.or_eq_true, h, decide_eq_true_iff]
  constructor
  · rintro (⟨a, b⟩ | rfl)
    · exact ⟨a, .inl b⟩
    · exact ⟨hc, .inr rfl⟩
  · rintro ⟨a, b | b⟩
    · exact .inl ⟨a, b⟩
    · exact .inr b
theorem find_skip {s : Int} {t : Bool} {p : ZZ} {m : List (ZZ × D)} {q : ZZ} {P : ZZ → Prop} (h : ∀ q, hasG m q = true ↔ leadsF s p q = true ∧ P q) (hc : leadsF s p q = false) (x : ZZ) : hasG m x = true ↔ leadsF s p x = true ∧ (P x ∨ x = q) := by
  rw [h]
  constructor
  · rintro ⟨a, b⟩; exact ⟨a, .inl b⟩
  · rintro ⟨a, b | b⟩
    · exact ⟨a, b⟩
    · subst b; rw [hc] at a; cases a
theorem fnd_all {s : Int} {t : Bool} {p : ZZ} {m : List (ZZ × D)} (hs : 1 ≤ s) (p1 : 0 ≤ p.1) (p2 : 0 ≤ p.2) (h : Fnd s t p (nearF s t p) m) : (winsF s t p).Perm (m.map (·.1)) := by
  obtain ⟨n1, _, n2⟩ := h
  refine perm_mem (nodup_wins s t p) n1 fun q => ?_
  rw [← hasG_iff, n2, mem_wins]
  constructor
  · rintro ⟨a, b, c, d⟩
    obtain ⟨k, hk, k0, e⟩ := near_all hs p1 p2 a b d c
    exact ⟨c, k, hk, e⟩
  · rintro ⟨c, k, hk, e⟩
    have k0 := (near_nn hs p1 p2 hk).1
    have a0 := dA_ge (t := t) hs k0
    have b0 := dB_ge0 (t := t) hs k0
    have l0 := lost_pair (t := t) hs k0
    rcases e with rfl | rfl
    · exact ⟨by show 0 ≤ dA s t k; omega, by show 0 ≤ dB s t k; omega, c, l0.1⟩
    · exact ⟨by show 0 ≤ dB s t k; omega, by show 0 ≤ dA s t k; omega, c, l0.2⟩
def sp_wins_in (K : PySem.W.Frag) : Sp := spR K R_wins_in
def t_wins_in (K : PySem.W.Frag) : TS := (tSeq (tAsg tDNewT (gName 3))
    (tSeq (tFor (iSeqX K (tCall (sp_numbers_near K) [] E0 (tCons (tVar 0) (tCons (tVar 1) (tCons (tVar 2) tNil))))) (gName 4) (tSeq (tAsg (tCall (sp_pair_of K) [] E0 (tCons (tVar 0) (tCons (tVar 4) (tCons (tVar 2) tNil)))) (gTup K 2 (gCons (gName 5) (gCons (gName 6) gNil))))
    (tFor (iSeqX K (tTup (tCons (tTup (tCons (tVar 5) (tCons (tVar 6) tNil))) (tCons (tTup (tCons (tVar 6) (tCons (tVar 5) tNil))) tNil)))) (gName 7) (tIfS (tTruX K (tCall (sp_leads K) [] E0 (tCons (tVar 0) (tCons (tVar 1) (tCons (tVar 7) tNil))))) (tAsg (tC (.bl true)) (gSub (tVar 3) (tVar 7) rSetX)) tNext))))
    (tRet (tCB rSortedDT (tCons (tVar 3) tNil)))))
theorem p_wins_in (T : Top mg) (a_numbers_near : Av P w K mg base 6 "numbers_near" ["slack", "place", "is_turned"] (sp_numbers_near K)) (a_pair_of : Av P w K mg base 5 "pair_of" ["slack", "number", "is_turned"] (sp_pair_of K)) (a_leads : Av P w K mg base 1 "leads" ["slack", "place", "later"] (sp_leads K)) {f : Addr} {cdv : Value} {A : Around} {outer : List Env} {s : Shared} {H : Hp} {E : XK} (hr : Room 6 (A.deeper (envOfC "wins_in" (defScope s_wins_in) s.heap.objs.size f cdv))) : PSs (cxOf CX0 P w K mg base N_wins_in "wins_in" (defScope s_wins_in) f cdv A outer s H E).nox (defBody s_wins_in) (t_wins_in K) :=
  (pss_cons (ps_set (i := 3) sc_wins_in.nd rfl (.inl rfl) pe_dnewT)
    (pss_cons (ps_for PassesOwn.never rfl (pi_seqX (pe_av a_numbers_near hr rfl (pa_cons (pv 0) (pa_cons (pv 1) (pa_cons (pv 2) pa_nil))))) (pg_name (i := 4) sc_wins_in.nd rfl (.inl rfl)) (pss_cons (ps_asg (pe_av a_pair_of hr rfl (pa_cons (pv 0) (pa_cons (pv 4) (pa_cons (pv 2) pa_nil)))) (pg_tup rfl (pgs_cons (pg_name (i := 5) sc_wins_in.nd rfl (.inl rfl)) (pgs_cons (pg_name (i := 6) sc_wins_in.nd rfl (.inl rfl)) pgs_nil))))
    (pss_one (ps_for PassesOwn.never rfl (pi_seqX (pe_tup (pa_cons (pe_tup (pa_cons (pv 5) (pa_cons (pv 6) pa_nil))) (pa_cons (pe_tup (pa_cons (pv 6) (pa_cons (pv 5) pa_nil))) pa_nil)))) (pg_name (i := 7) sc_wins_in.nd rfl (.inl rfl)) (pss_one (ps_if (pt_tru (pe_av a_leads hr rfl (pa_cons (pv 0) (pa_cons (pv 1) (pa_cons (pv 7) pa_nil))))) (pss_one (ps_asg pe_bl (pg_sub (pv 3) (pv 7) (set_X (hu_of hr))))) pss_nil))))))
    (pss_one (ps_ret (pe_callB (cr_sortedDT rfl) (by rfl) T.z_sorted (by decide +kernel) (pa_cons (pv 3) pa_nil))))))
theorem w_wins_in : ∀ ds d, R_wins_in ds d → WS K false (t_wins_in K) (args N_wins_in.length ds) [] (fin (R_wins_in ds)) := by
  rintro ds d ⟨s, p, t, h1, h2, hp, rfl, rfl⟩
  obtain ⟨p1, p2, p3, p4⟩ := id hp
  have nl := near_len (s := s) (t := t) (p := p)
  refine ws_seq (ws_setN en_dT ?_)
  refine ws_seq (ws_for (ei_list' (c_numbers_near (ea_cons (ev_var rfl) (ea_cons (ev_var rfl) (ea_cons (ev_var rfl) ea_nil))) h1 h2 hp))
    (fun i ρ ω => ∃ m y4 y5 y6 y7, ρ = [some (.sh (.int s)), some (.sh (pD p)), some (.sh (.bl t)), some (.ow 0), y4, y5, y6, y7] ∧ ω = [.dT (pT m)] ∧ Fnd s t p ((nearF s t p).take i) m) ⟨[], none, none, none, none, rfl, rfl, List.nodup_nil, Nat.zero_le _, fun q => ⟨fun z => Bool.noConfusion z, fun ⟨_, k, hk, _⟩ => by cases hk⟩⟩ (fun i d ρ' ω' hd => ?_) (fun ρ' ω' => ?_))
  · rw [List.getElem?_map] at hd
    obtain ⟨k, hk, rfl⟩ := Option.map_eq_some_iff.mp hd
    obtain ⟨hlt, hke⟩ := List.getElem?_eq_some_iff.mp hk
    have hmem : k ∈ nearF s t p := hke ▸ List.getElem_mem hlt
    have et : (nearF s t p).take (i + 1) = (nearF s t p).take i ++ [k] := by rw [List.take_add_one, hk]; rfl
    obtain ⟨k0, k1⟩ := near_nn h1 p1 p3 hmem
    rintro ⟨m, y4, y5, y6, y7, rfl, rfl, n1, n2, n3⟩
    have tl : ((nearF s t p).take i).length ≤ 7 := by rw [List.length_take]; omega
    refine ⟨_, wg_name, ?_⟩
    refine ws_seq (ws_asg (we_ev (c_pair_of (ea_cons (ev_var rfl) (ea_cons (ev_var rfl) (ea_cons (ev_var rfl) ea_nil))) h1 h2 k0 (bd_near k0 (by omega))) ⟨_, wg_tup (wgs_cons wg_name (wgs_cons wg_name wgs_nil)) rfl, ?_⟩))
    obtain ⟨a, ha⟩ : ∃ a, dA s t k = a := ⟨_, rfl⟩
    obtain ⟨b, hb⟩ : ∃ b, dB s t k = b := ⟨_, rfl⟩
    rw [ha, hb]
    refine ws_for (ei_tup' (ev_tup (ea_cons (ev_tup (ea_cons (ev_var rfl) (ea_cons (ev_var rfl) ea_nil))) (ea_cons (ev_tup (ea_cons (ev_var rfl) (ea_cons (ev_var rfl) ea_nil))) ea_nil))))
      (fun j ρ ω => ∃ m y7, ρ = [some (.sh (.int s)), some (.sh (pD p)), some (.sh (.bl t)), some (.ow 0), some (.sh (.int k)), some (.sh (.int a)), some (.sh (.int b)), y7] ∧ ω = [.dT (pT m)] ∧ (m.map (·.1)).Nodup ∧ m.length ≤ 2 * ((nearF s t p).take i).length + j ∧
        ∀ q, hasG m q = true ↔ leadsF s p q = true ∧ ((∃ k, k ∈ (nearF s t p).take i ∧ (q = (dA s t k, dB s t k) ∨ q = (dB s t k, dA s t k))) ∨ q ∈ ([(a, b), (b, a)] : List ZZ).take j)) ⟨m, y7, rfl, rfl, n1, by omega, fun q => by rw [n3]; simp⟩ (fun j d ρ' ω' hd => ?_) (fun ρ' ω' => ?_)
    · rintro ⟨m, y7, rfl, rfl, g1, g2, g3⟩
      obtain ⟨q, hq, rfl⟩ : ∃ q, ([(a, b), (b, a)] : List ZZ)[j]? = some q ∧ d = pD q := by
        match j, hd with
        | 0, h => cases h; exact ⟨_, rfl, rfl⟩
        | 1, h => cases h; exact ⟨_, rfl, rfl⟩
        | n + 2, h => cases h
      have hj : j < 2 := (List.getElem?_eq_some_iff.mp hq).1
      have ej : ([(a, b), (b, a)] : List ZZ).take (j + 1) = ([(a, b), (b, a)] : List ZZ).take j ++ [q] := by rw [List.take_add_one, hq]; rfl
      refine ⟨_, wg_name, ?_⟩
      refine ws_if (et_trub (s := true) (c_leads (p := p) (q := q) (ea_cons (ev_var rfl) (ea_cons (ev_var rfl) (ea_cons (ev_var rfl) ea_nil))))) (fun hc => ?_) (fun hc => ws_next ?_)
      · refine ws_putT (p := q) rfl rfl ev_bl (ev_var rfl) (by omega) ⟨_, _, rfl, rfl, putG_nodup g1, ?_, fun x => ?_⟩
        · have := putG_len (m := m) (k := q) (d := D.bl true); omega
        · rw [find_step (t := t) g3 hc x, ej, List.mem_append, List.mem_singleton, or_assoc]
      · exact ⟨m, _, rfl, rfl, g1, by omega, fun x => by rw [find_skip (t := t) g3 hc x, ej, List.mem_append, List.mem_singleton, or_assoc]⟩
    · rintro ⟨m, y7, rfl, rfl, g1, g2, g3⟩
      refine ⟨m, _, _, _, _, rfl, rfl, g1, ?_, fun q => ?_⟩
      · rw [et, List.length_append]
        have g2 : m.length ≤ 2 * ((nearF s t p).take i).length + 2 := g2
        show _ ≤ 2 * (_ + 1)
        omega
      · rw [g3, et]
        constructor
        · rintro ⟨c, ⟨k', hk', e⟩ | e⟩
          · exact ⟨c, k', List.mem_append_left _ hk', e⟩
          · have e : q ∈ [(a, b), (b, a)] := e
            refine ⟨c, k, List.mem_append_right _ List.mem_cons_self, ?_⟩
            rw [ha, hb]
            simpa using e
        · rintro ⟨c, k', hk', e⟩
          rcases List.mem_append.mp hk' with z | z
          · exact ⟨c, .inl ⟨k', z, e⟩⟩
          · have z := List.mem_singleton.mp z
            subst z
            rw [ha, hb] at e
            refine ⟨c, .inr ?_⟩
            show q ∈ [(a, b), (b, a)]
            simpa using e
  · rw [List.length_map]
    rintro ⟨m, y4, y5, y6, y7, rfl, rfl, hF⟩
    rw [List.take_length] at hF
    exact ws_ret (ev_sortDT rfl rfl (fnd_all h1 p1 p3 hF) (srt_wins s t p)) ⟨s, p, t, h1, h2, hp, rfl, rfl⟩
theorem av_wins_in (T : Top mg) (a_numbers_near : Av P w K mg base 6 "numbers_near" ["slack", "place", "is_turned"] (sp_numbers_near K)) (a_pair_of : Av P w K mg base 5 "pair_of" ["slack", "number", "is_turned"] (sp_pair_of K)) (a_leads : Av P w K mg base 1 "leads" ["slack", "place", "later"] (sp_leads K)) {f : Addr} {fd : FuncData} (F : Fun K "wins_in" "wins_in" s_wins_in f fd) (hm : mg "wins_in" = some (.ref f)) : Av P w K mg base 7 "wins_in" ["slack", "place", "is_turned"] (sp_wins_in K) :=
  av_mk F (ok_pure F sc_wins_in (fun ds d h => l_wins_in ds d h) (fun cdv A outer s H E hr => p_wins_in T a_numbers_near a_pair_of a_leads hr) w_wins_in) hm (fun _ _ _ _ _ _ us hl => match us, hl with | [_, _, _], _ => rfl) (fun _ _ _ _ _ _ us hl => match us, hl with | [_, _, _], _ => rfl)
/-! ### wins -/
abbrev s_wins : Stmt := topS 31
abbrev N_wins : List Str := ["slack", "place", "size"]
theorem sc_wins : FnScope N_wins ["slack", "place"] (defScope s_wins) := ⟨rfl, rfl, rfl, by decide +kernel, rfl, by decide +kernel, by decide +kernel⟩
abbrev R_wins : List D → D → Prop := fun ds d => ∃ (s : Int) (p : ZZ), plOk s p ds ∧ d = .lst ((winsF s false p).map pD)
theorem l_wins : ∀ ds d, R_wins ds d → ds.length = 2 := fun _ _ ⟨_, _, ⟨_, _, _, e⟩, _⟩ => by rcases e with rfl | rfl <;> rfl
theorem u_wins {s : Int} {p : ZZ} {ds : List D} (g : plOk s p ds) : ∀ d', R_wins ds d' → d' = .lst ((winsF s false p).map pD) := fun _ ⟨_, _, g', e'⟩ => by
  obtain ⟨rfl, rfl⟩ := pl_inj g g'
  exact e'
theorem c_wins {K : PySem.W.Frag} {b : Bool} {E : XK} {ta : TA} {ρ : En} {ω : Ow} {s : Int} {p : ZZ} {ds : List D} (h : EvA K b ta ρ ω ds) (g : plOk s p ds) : Ev K b (tCall (spR K R_wins) [] E ta) ρ ω (.lst ((winsF s false p).map pD)) :=
  ev_call h ⟨s, p, g, rfl⟩ (u_wins g)
def sp_wins (K : PySem.W.Frag) : Sp := spR K R_wins
def t_wins (K : PySem.W.Frag) : TS := (tSeq (tAsg (tCall (sp_sure_slack K) [] E0 (tCons (tVar 0) tNil)) (gName 2))
    (tRet (tCall (sp_wins_in K) [] E0 (tCons (tVar 2) (tCons (tCall (sp_sure_place K) [] E0 (tCons (tVar 1) tNil)) (tCons (tC (.bl false)) tNil))))))
theorem p_wins (T : Top mg) (a_sure_slack : Av P w K mg base 4 "sure_slack" ["thing"] (sp_sure_slack K)) (a_wins_in : Av P w K mg base 7 "wins_in" ["slack", "place", "is_turned"] (sp_wins_in K)) (a_sure_place : Av P w K mg base 5 "sure_place" ["value"] (sp_sure_place K)) {f : Addr} {cdv : Value} {A : Around} {outer : List Env} {s : Shared} {H : Hp} {E : XK} (hr : Room 7 (A.deeper (envOfC "wins" (defScope s_wins) s.heap.objs.size f cdv))) : PSs (cxOf CX0 P w K mg base N_wins "wins" (defScope s_wins) f cdv A outer s H E).nox (defBody s_wins) (t_wins K) :=
  (pss_cons (ps_set (i := 2) sc_wins.nd rfl (.inl rfl) (pe_av a_sure_slack hr rfl (pa_cons (pv 0) pa_nil)))
    (pss_one (ps_ret (pe_av a_wins_in hr rfl (pa_cons (pv 2) (pa_cons (pe_av a_sure_place hr rfl (pa_cons (pv 1) pa_nil)) (pa_cons pe_bl pa_nil)))))))
theorem w_wins : ∀ ds d, R_wins ds d → WS K false (t_wins K) (args N_wins.length ds) [] (fin (R_wins ds)) := by
  rintro ds d ⟨s, p, g, rfl⟩
  obtain ⟨g1, g2, hp, e⟩ := id g
  obtain ⟨h1, h2, h3, h4⟩ := id hp
  rcases e with rfl | rfl
  · exact ws_seq (ws_set (c_sure_slack (ea_cons (ev_var rfl) ea_nil) g1 g2) (ws_ret (c_wins_in (p := p) (ea_cons (ev_var rfl) (ea_cons (c_sure_placeT (i := p.1) (j := p.2) (ea_cons (ev_var rfl) ea_nil) h1 h2 h3 h4) (ea_cons ev_bl ea_nil))) g1 g2 hp) ⟨s, p, g, rfl⟩))
  · exact ws_seq (ws_set (c_sure_slack (ea_cons (ev_var rfl) ea_nil) g1 g2) (ws_ret (c_wins_in (p := p) (ea_cons (ev_var rfl) (ea_cons (c_sure_placeL (i := p.1) (j := p.2) (ea_cons (ev_var rfl) ea_nil) h1 h2 h3 h4) (ea_cons ev_bl ea_nil))) g1 g2 hp) ⟨s, p, g, rfl⟩))
theorem av_wins (T : Top mg) (a_sure_slack : Av P w K mg base 4 "sure_slack" ["thing"] (sp_sure_slack K)) (a_wins_in : Av P w K mg base 7 "wins_in" ["slack", "place", "is_turned"] (sp_wins_in K)) (a_sure_place : Av P w K mg base 5 "sure_place" ["value"] (sp_sure_place K)) {f : Addr} {fd : FuncData} (F : Fun K "wins" "wins" s_wins f fd) (hm : mg "wins" = some (.ref f)) : Av P w K mg base 8 "wins" ["slack", "place"] (sp_wins K) :=
  av_mk F (ok_pure F sc_wins (fun ds d h => l_wins ds d h) (fun cdv A outer s H E hr => p_wins T a_sure_slack a_wins_in a_sure_place hr) w_wins) hm (fun _ _ _ _ _ _ us hl => match us, hl with | [_, _], _ => rfl) (fun _ _ _ _ _ _ us hl => match us, hl with | [_, _], _ => rfl)
/-! ### answer -/
abbrev s_answer : Stmt := topS 32
abbrev N_answer : List Str := ["slack", "place", "size", "own"]
theorem sc_answer : FnScope N_answer ["slack", "place"] (defScope s_answer) := ⟨rfl, rfl, rfl, by decide +kernel, rfl, by decide +kernel, by decide +kernel⟩
abbrev R_answer : List D → D → Prop := fun ds d => ∃ (s : Int) (p q : ZZ) (r : List ZZ), plOk s p ds ∧ winsF s false p = q :: r ∧ d = pD q
abbrev X_answer (ad : Nat → Addr) : List D → Value → Prop := fun ds c => ∃ (s : Int) (p : ZZ), plOk s p ds ∧ winsF s false p = [] ∧ c = .ref (ad i_CanNot)
theorem l_answer {ad : Nat → Addr} : ∀ ds, ((∃ d, R_answer ds d) ∨ ∃ c, X_answer ad ds c) → ds.length = 2 := fun ds h => by
  rcases h with ⟨_, s, p, _, _, ⟨_, _, _, e⟩, _⟩ | ⟨_, s, p, ⟨_, _, _, e⟩, _⟩ <;> rcases e with rfl | rfl <;> rfl
theorem b_answer {ad : Nat → Addr} : ∀ ds, (∃ d, R_answer ds d) → (∃ d, R_answer ds d) ∧ (∀ c, ¬ X_answer ad ds c) ∧ ∀ d, R_answer ds d → R_answer ds d := fun ds h => ⟨h, fun c ⟨s, p, g, hn, _⟩ => by
  obtain ⟨d, s', p', q, r, g', hp, _⟩ := h
  obtain ⟨rfl, rfl⟩ := pl_inj g g'
  rw [hn] at hp
  exact absurd hp (by simp), fun d z => z⟩
theorem u_answer {s : Int} {p q : ZZ} {r : List ZZ} {ds : List D} (g : plOk s p ds) (hw : winsF s false p = q :: r) : ∀ d', R_answer ds d' → d' = pD q := fun _ ⟨_, _, _, _, g', hw', e'⟩ => by
  obtain ⟨rfl, rfl⟩ := pl_inj g g'
  rw [hw] at hw'
  cases hw'
  exact e'
theorem c_answer {K : PySem.W.Frag} {b : Bool} {E : XK} {t : TA} {ρ : En} {ω : Ow} {s : Int} {p q : ZZ} {r : List ZZ} {ds : List D} (h : EvA K b t ρ ω ds) (g : plOk s p ds) (hw : winsF s false p = q :: r) : Ev K b (tCall (spR K R_answer) [] E t) ρ ω (pD q) :=
  ev_call h ⟨s, p, q, r, g, hw, rfl⟩ (u_answer g hw)
def sp_answer (K : PySem.W.Frag) : Sp := spR K R_answer
def t_answer (K : PySem.W.Frag) (ad : Nat → Addr) (E : XK) : TS := (tSeq (tAsg (tCall (sp_sure_slack K) [] E0 (tCons (tVar 0) tNil)) (gName 2))
    (tSeq (tAsg (tCall (sp_sure_place K) [] E0 (tCons (tVar 1) tNil)) (gName 3))
    (tSeq (tIfS (tTest (tOp rGeX (tCall (sp_number_between K) [] E0 (tCons (tVar 2) (tCons (tVar 3) tNil))) (tC (.int 0)))) (tRaise E (.ref (ad i_CanNot))) tNext)
    (tRet (tOp (rIxX K) (tCall (sp_wins_in K) [] E0 (tCons (tVar 2) (tCons (tVar 3) (tCons (tC (.bl false)) tNil)))) (tC (.int 0)))))))
theorem p_answer (T : Top mg) (G : Ad K mg ad) (a_sure_slack : Av P w K mg base 4 "sure_slack" ["thing"] (sp_sure_slack K)) (a_sure_place : Av P w K mg base 5 "sure_place" ["value"] (sp_sure_place K)) (a_number_between : Av P w K mg base 3 "number_between" ["slack", "place"] (sp_number_between K)) (a_wins_in : Av P w K mg base 7 "wins_in" ["slack", "place", "is_turned"] (sp_wins_in K)) {f : Addr} {cdv : Value} {A : Around} {outer : List Env} {s : Shared} {H : Hp} {E : XK} (hr : Room 7 (A.deeper (envOfC "answer" (defScope s_answer) s.heap.objs.size f cdv))) : PSs (cxOf (L2.CX P w) P w K mg base N_answer "answer" (defScope s_answer) f cdv A outer s H E) (defBody s_answer) (t_answer K ad E) :=
  (pss_cons (ps_set (i := 2) sc_answer.nd rfl (.inl rfl) (pe_av a_sure_slack hr rfl (pa_cons (pv 0) pa_nil)))
    (pss_cons (ps_set (i := 3) sc_answer.nd rfl (.inl rfl) (pe_av a_sure_place hr rfl (pa_cons (pv 1) pa_nil)))
    (pss_cons (ps_if (pt_cmpR op_geX (pe_av a_number_between hr rfl (pa_cons (pv 2) (pa_cons (pv 3) pa_nil))) pe_int (nomark _)) (pss_one (ps_err G.e_CanNot rfl (takes_of rfl rfl rfl rfl) (by rfl))) pss_nil)
    (pss_one (ps_ret (pe_ix (ix_X (hu_of hr)) (pe_av a_wins_in hr rfl (pa_cons (pv 2) (pa_cons (pv 3) (pa_cons pe_bl pa_nil)))) pe_int (fun _ _ => rfl)))))))
theorem w_answer : ∀ ds E, ((∃ d, R_answer ds d) ∨ ∃ c, X_answer ad ds c) → WSX K E false (t_answer K ad E) (args N_answer.length ds) [] (fin (R_answer ds)) (X_answer ad ds) := by
  intro ds E h
  obtain ⟨s, p, g⟩ : ∃ s p, plOk s p ds := by
    rcases h with ⟨_, s, p, _, _, g, _⟩ | ⟨_, s, p, g, _⟩ <;> exact ⟨s, p, g⟩
  obtain ⟨g1, g2, hp, e⟩ := id g
  obtain ⟨h1, h2, h3, h4⟩ := id hp
  have lf : decide (0 ≤ nbF s p.1 p.2) = lostF s false p := nb_lost g1 h1 h3
  have rest : ∀ v, WSX K E false (tSeq (tIfS (tTest (tOp rGeX (tCall (sp_number_between K) [] E0 (tCons (tVar 2) (tCons (tVar 3) tNil))) (tC (.int 0)))) (tRaise E (.ref (ad i_CanNot))) tNext) (tRet (tOp (rIxX K) (tCall (sp_wins_in K) [] E0 (tCons (tVar 2) (tCons (tVar 3) (tCons (tC (.bl false)) tNil)))) (tC (.int 0))))) [some (.sh (.int s)), v, some (.sh (.int s)), some (.sh (pD p))] [] (fin (R_answer ds)) (X_answer ad ds) := fun v => by
    refine wx_seq (wx_if ((et_test (s := true) (ev_op (c_number_between (i := p.1) (j := p.2) (ea_cons (ev_var rfl) (ea_cons (ev_var rfl) ea_nil)) g1 g2 h1 h2 h3 h4) ev_int rd_ge)).to lf) (fun hn => wx_raise ⟨s, p, g, (wins_nil h1 h3).mpr (.inl hn), rfl⟩) (fun hn => wx_of (ws_next (wx_of ?_))))
    cases hw : winsF s false p with
    | nil =>
      rcases (wins_nil h1 h3).mp hw with z | ⟨z, _⟩
      · rw [hn] at z; cases z
      · cases z
    | cons q r => exact ws_ret (ev_op ((c_wins_in (p := p) (ea_cons (ev_var rfl) (ea_cons (ev_var rfl) (ea_cons ev_bl ea_nil))) g1 g2 hp).to (congrArg D.lst (congrArg (List.map pD) hw))) ev_int (rd_ixL (show L2.atI ((q :: r).map pD) ((0 : Nat) : Int) = some (pD q) from atI_nat rfl))) ⟨s, p, q, r, g, hw, rfl⟩
  rcases e with rfl | rfl
  · exact wx_seq (wx_of (ws_set (c_sure_slack (ea_cons (ev_var rfl) ea_nil) g1 g2) (wx_seq (wx_of (ws_set (c_sure_placeT (i := p.1) (j := p.2) (ea_cons (ev_var rfl) ea_nil) h1 h2 h3 h4) (rest _))))))
  · exact wx_seq (wx_of (ws_set (c_sure_slack (ea_cons (ev_var rfl) ea_nil) g1 g2) (wx_seq (wx_of (ws_set (c_sure_placeL (i := p.1) (j := p.2) (ea_cons (ev_var rfl) ea_nil) h1 h2 h3 h4) (rest _))))))
theorem ax_answer (T : Top mg) (G : Ad K mg ad) (a_sure_slack : Av P w K mg base 4 "sure_slack" ["thing"] (sp_sure_slack K)) (a_sure_place : Av P w K mg base 5 "sure_place" ["value"] (sp_sure_place K)) (a_number_between : Av P w K mg base 3 "number_between" ["slack", "place"] (sp_number_between K)) (a_wins_in : Av P w K mg base 7 "wins_in" ["slack", "place", "is_turned"] (sp_wins_in K)) {f : Addr} {fd : FuncData} (F : Fun K "answer" "answer" s_answer f fd) (hm : mg "answer" = some (.ref f)) : AvX P w K mg base 8 "answer" ["slack", "place"] (spX K R_answer (X_answer ad)) :=
  avx_mk F (ok_exc F sc_answer (fun ds h => l_answer ds h) (fun cdv A outer s H E hr => p_answer T G a_sure_slack a_sure_place a_number_between a_wins_in hr) w_answer) hm (fun _ _ _ _ _ _ us hl => match us, hl with | [_, _], _ => rfl)
theorem av_answer (T : Top mg) (G : Ad K mg ad) (a_sure_slack : Av P w K mg base 4 "sure_slack" ["thing"] (sp_sure_slack K)) (a_sure_place : Av P w K mg base 5 "sure_place" ["value"] (sp_sure_place K)) (a_number_between : Av P w K mg base 3 "number_between" ["slack", "place"] (sp_number_between K)) (a_wins_in : Av P w K mg base 7 "wins_in" ["slack", "place", "is_turned"] (sp_wins_in K)) {f : Addr} {fd : FuncData} (F : Fun K "answer" "answer" s_answer f fd) (hm : mg "answer" = some (.ref f)) : Av P w K mg base 8 "answer" ["slack", "place"] (sp_answer K) :=
  av_mk F (ok_back (ok_exc F sc_answer (fun ds h => l_answer ds h) (fun cdv A outer s H E hr => p_answer T G a_sure_slack a_sure_place a_number_between a_wins_in hr) w_answer) b_answer) hm (fun _ _ _ _ _ _ us hl => match us, hl with | [_, _], _ => rfl) (fun _ _ _ _ _ _ us hl => match us, hl with | [_, _], _ => rfl)
/-! ### _law_box -/
abbrev s__law_box : Stmt := topS 34
abbrev N__law_box : List Str := ["script", "k", "bit_so"]
theorem sc__law_box : FnScope N__law_box ["script", "k"] (defScope s__law_box) := ⟨rfl, rfl, rfl, by decide +kernel, rfl, by decide +kernel, by decide +kernel⟩
abbrev R__law_box : List D → D → Prop := fun ds d => ∃ m, ds = [.lst [.int m], .int 0] ∧ d = .lst [.int (absI m * b2n (decide ((10 : Int) ^ (18 : Int).toNat ≤ absI m))), .int (m % 2305843009213693951 + 39373 * 0 + 251620), .int 0]
theorem l__law_box : ∀ ds d, R__law_box ds d → ds.length = 2 := fun _ _ ⟨_, e, _⟩ => by rw [e]; rfl
theorem box_ok {m : Int} : Box 0 [.int (absI m * b2n (decide ((10 : Int) ^ (18 : Int).toNat ≤ absI m))), .int (m % 2305843009213693951 + 39373 * 0 + 251620), .int 0] := by
  refine ⟨_, _, _, rfl, ?_, ?_, ?_, by decide, by decide⟩
  · refine Int.mul_nonneg ?_ ?_
    · unfold absI; split <;> omega
    · unfold b2n; split <;> decide
  · have := Int.emod_nonneg m (show (2305843009213693951 : Int) ≠ 0 by decide)
    omega
  · have := Int.emod_lt_of_pos m (show (0 : Int) < 2305843009213693951 by decide)
    omega
def sp__law_box (K : PySem.W.Frag) : Sp := spR K R__law_box
def t__law_box (K : PySem.W.Frag) : TS := (tSeq (tAsg (tIf (tTest (tOp rLtX (tVar 1) (tCB (rLenX K) (tCons (tVar 0) tNil)))) (tOp (rIxX K) (tVar 0) (tVar 1)) (tC (.int 0))) (gName 2))
    (tRet (tLst (tCons (tOp rMulX (tCB rAbsX (tCons (tVar 2) tNil)) (tCB rIntX (tCons (tOp rGeX (tCB rAbsX (tCons (tVar 2) tNil)) (tOp rPowX (tC (.int 10)) (tC (.int 18)))) tNil))) (tCons (tOp (rAddX K) (tOp (rAddX K) (tOp rModX (tCB rIntX (tCons (tVar 2) tNil)) (tC (.int 2305843009213693951))) (tOp rMulX (tC (.int 39373)) (tVar 1))) (tC (.int 251620))) (tCons (tC (.int 0)) tNil))))))
theorem p__law_box (T : Top mg) {f : Addr} {cdv : Value} {A : Around} {outer : List Env} {s : Shared} {H : Hp} {E : XK} (hr : Room 0 (A.deeper (envOfC "_law_box" (defScope s__law_box) s.heap.objs.size f cdv))) : PSs (cxOf CX0 P w K mg base N__law_box "_law_box" (defScope s__law_box) f cdv A outer s H E).nox (defBody s__law_box) (t__law_box K) :=
  (pss_cons (ps_set (i := 2) sc__law_box.nd rfl (.inl rfl) (pe_ifExp (pt_cmpR op_ltX (pv 1) (pe_callB cr_lenX (by rfl) T.z_len (by decide +kernel) (pa_cons (pv 0) pa_nil)) (nomark _)) (pe_ix (ix_X (hu_of hr)) (pv 0) (pv 1) (fun _ _ => rfl)) pe_int))
    (pss_one (ps_ret (pe_lst (pa_cons (pe_op op_mulX (pe_callB cr_absX (by rfl) T.z_abs (by decide +kernel) (pa_cons (pv 2) pa_nil)) (pe_callTy cr_intX (by rfl) T.z_int (by decide +kernel) (pa_cons (pe_cmpR op_geX (pe_callB cr_absX (by rfl) T.z_abs (by decide +kernel) (pa_cons (pv 2) pa_nil)) (pe_op op_powX pe_int pe_int) (nomark _)) pa_nil))) (pa_cons (pe_op op_addX (pe_op op_addX (pe_op op_modX (pe_callTy cr_intX (by rfl) T.z_int (by decide +kernel) (pa_cons (pv 2) pa_nil)) pe_int) (pe_op op_mulX pe_int (pv 1))) pe_int) (pa_cons pe_int pa_nil)))))))
theorem w__law_box : ∀ ds d, R__law_box ds d → WS K false (t__law_box K) (args N__law_box.length ds) [] (fin (R__law_box ds)) := by
  rintro ds d ⟨m, rfl, rfl⟩
  refine ws_seq (ws_set (d := .int m) ((ev_if (et_test (s := true) (ev_op (ev_var rfl) (ev_cb (ea_cons (ev_var rfl) ea_nil) rc_lenL) rd_lt)) (fun _ => ev_op (ev_var rfl) (ev_var rfl) (rd_ixL rfl)) (fun _ => ev_int)).to rfl) ?_)
  refine ws_ret (ev_lst (ea_cons (ev_op (ev_cb (ea_cons (ev_var rfl) ea_nil) rc_abs) (ev_cb (ea_cons (ev_op (ev_cb (ea_cons (ev_var rfl) ea_nil) rc_abs) (ev_op ev_int ev_int (rd_pow ⟨by decide, by decide, by decide⟩)) rd_ge) ea_nil) rc_intb) (rd_mul ?_))
    (ea_cons (ev_op (ev_op (ev_op (ev_cb (ea_cons (ev_var rfl) ea_nil) rc_int) ev_int (rd_mod (by decide))) (ev_op ev_int (ev_var rfl) (rd_mul (mul_l (by decide) (by decide)))) rd_add) ev_int rd_add) (ea_cons ev_int ea_nil)))) ⟨m, rfl, rfl⟩
  refine mul_r ?_ ?_ <;> (unfold b2n; split <;> decide)
theorem av__law_box (T : Top mg) {f : Addr} {fd : FuncData} (F : Fun K "_law_box" "_law_box" s__law_box f fd) (hm : mg "_law_box" = some (.ref f)) : Av P w K mg base 1 "_law_box" ["script", "k"] (sp__law_box K) :=
  av_mk F (ok_pure F sc__law_box (fun ds d h => l__law_box ds d h) (fun cdv A outer s H E hr => p__law_box T hr) w__law_box) hm (fun _ _ _ _ _ _ us hl => match us, hl with | [_, _], _ => rfl) (fun _ _ _ _ _ _ us hl => match us, hl with | [_, _], _ => rfl)
/-! ### _law_take -/
abbrev s__law_take : Stmt := topS 35
abbrev N__law_take : List Str := ["tin", "below_so", "drawn_so", "once_so", "wide_so", "twice_so"]
theorem sc__law_take : FnScope N__law_take ["tin", "below_so"] (defScope s__law_take) := ⟨rfl, rfl, rfl, by decide +kernel, rfl, by decide +kernel, by decide +kernel⟩
def pre__law_take (xs ds : List D) : Prop := ∃ m n, Box m xs ∧ m ≤ 1000000000 ∧ ds = [.int n] ∧ 1 ≤ n ∧ n < 2 ^ 60
def R__law_take (xs ds : List D) (d : D) (xs' : List D) : Prop := ∃ r n, ds = [.int n] ∧ d = .int r ∧ 0 ≤ r ∧ r < n ∧ Nx 1 xs xs'
theorem l__law_take : ∀ xs ds, pre__law_take xs ds → ds.length + 1 = 2 := fun _ _ ⟨_, _, _, _, e, _⟩ => by rw [e]; rfl
theorem we_take {K : PySem.W.Frag} {E : XK} {ρ : En} {ω : Ow} {Φ : D → Ow → Prop} {i k m : Nat} {te : TE} {n : Int} {xs : List D} (hi : ρ[i]? = some (some (.ow k))) (hn : Ev K true te ρ ω (.int n)) (hx : ω[k]? = some (.l xs)) (hb : Box m xs) (hm : m ≤ 1000000000) (h1 : 1 ≤ n) (h2 : n < 2 ^ 60)
    (q : ∀ r xs', 0 ≤ r → r < n → Nx 1 xs xs' → Φ (.int r) (ω.set k (.l xs'))) : WE K (tCall (spT K pre__law_take R__law_take) [] E (tCons (tVar i) (tCons te tNil))) ρ ω Φ := by
  refine we_callT hi (wa_cons (we_ev hn (wa_nil ⟨xs, hx, ⟨m, n, hb, hm, rfl, h1, h2⟩, fun d xs' ⟨r, n', e, e', h3, h4, h5⟩ => ?_⟩)))
  cases e
  subst e'
  exact q r xs' h3 h4 h5
def sp__law_take (K : PySem.W.Frag) : Sp := spT K pre__law_take R__law_take
def t__law_take (K : PySem.W.Frag) : TS := (tSeq (tIfS (tTest (tOp rGtX (tOp (rIxX K) (tVar 0) (tC (.int 0))) (tC (.int 0)))) (tSeq (tAsg (tOp rModX (tCB rIntX (tCons (tOp (rIxX K) (tVar 0) (tC (.int 0))) tNil)) (tVar 1)) (gName 2))
    (tSeq (tAsg (tOp rDivX (tOp (rIxX K) (tVar 0) (tC (.int 0))) (tVar 1)) (gSub (tVar 0) (tC (.int 0)) rSetX))
    (tRet (tVar 2)))) tNext)
    (tSeq (tAsg (tOp (rAddX K) (tOp (rIxX K) (tVar 0) (tC (.int 2))) (tC (.int 1))) (gSub (tVar 0) (tC (.int 2)) rSetX))
    (tSeq (tAsg (tOp rModX (tCB rIntX (tCons (tOp rMulX (tOp (rAddX K) (tOp (rIxX K) (tVar 0) (tC (.int 1))) (tOp rMulX (tC (.int 48271)) (tOp (rIxX K) (tVar 0) (tC (.int 2))))) (tOp (rAddX K) (tC (.int 39373)) (tOp (rIxX K) (tVar 0) (tC (.int 2))))) tNil)) (tC (.int 2147483647))) (gName 3))
    (tSeq (tAsg (tOp (rAddX K) (tOp rModX (tCB rIntX (tCons (tVar 3) tNil)) (tC (.int 40009))) (tC (.int 7))) (gName 4))
    (tSeq (tAsg (tOp rModX (tCB rIntX (tCons (tOp rMulX (tOp (rAddX K) (tOp (rAddX K) (tVar 3) (tOp (rIxX K) (tVar 0) (tC (.int 2)))) (tOp rDivX (tOp (rIxX K) (tVar 0) (tC (.int 1))) (tC (.int 1000003)))) (tVar 4)) tNil)) (tC (.int 2147483629))) (gName 5))
    (tRet (tOp rModX (tCB rIntX (tCons (tOp rDivX (tOp rModX (tCB rIntX (tCons (tOp (rAddX K) (tOp rMulX (tVar 5) (tC (.int 48271))) (tVar 3)) tNil)) (tC (.int 2147483587))) (tC (.int 64))) tNil)) (tVar 1))))))))
theorem p__law_take (T : Top mg) {f : Addr} {cdv : Value} {A : Around} {outer : List Env} {s : Shared} {H : Hp} {E : XK} (hr : Room 0 (A.deeper (envOfC "_law_take" (defScope s__law_take) s.heap.objs.size f cdv))) : PSs (cxOf CX0 P w K mg base N__law_take "_law_take" (defScope s__law_take) f cdv A outer s H E).nox (defBody s__law_take) (t__law_take K) :=
  (pss_cons (ps_if (pt_cmpR op_gtX (pe_ix (ix_X (hu_of hr)) (pv 0) pe_int (fun _ _ => rfl)) pe_int (nomark _)) (pss_cons (ps_set (i := 2) sc__law_take.nd rfl (.inl rfl) (pe_op op_modX (pe_callTy cr_intX (by rfl) T.z_int (by decide +kernel) (pa_cons (pe_ix (ix_X (hu_of hr)) (pv 0) pe_int (fun _ _ => rfl)) pa_nil)) (pv 1)))
    (pss_cons (ps_asg (pe_op op_divX (pe_ix (ix_X (hu_of hr)) (pv 0) pe_int (fun _ _ => rfl)) (pv 1)) (pg_sub (pv 0) pe_int (set_X (hu_of hr))))
    (pss_one (ps_ret (pv 2))))) pss_nil)
    (pss_cons (ps_asg (pe_op op_addX (pe_ix (ix_X (hu_of hr)) (pv 0) pe_int (fun _ _ => rfl)) pe_int) (pg_sub (pv 0) pe_int (set_X (hu_of hr))))
    (pss_cons (ps_set (i := 3) sc__law_take.nd rfl (.inl rfl) (pe_op op_modX (pe_callTy cr_intX (by rfl) T.z_int (by decide +kernel) (pa_cons (pe_op op_mulX (pe_op op_addX (pe_ix (ix_X (hu_of hr)) (pv 0) pe_int (fun _ _ => rfl)) (pe_op op_mulX pe_int (pe_ix (ix_X (hu_of hr)) (pv 0) pe_int (fun _ _ => rfl)))) (pe_op op_addX pe_int (pe_ix (ix_X (hu_of hr)) (pv 0) pe_int (fun _ _ => rfl)))) pa_nil)) pe_int))
    (pss_cons (ps_set (i := 4) sc__law_take.nd rfl (.inl rfl) (pe_op op_addX (pe_op op_modX (pe_callTy cr_intX (by rfl) T.z_int (by decide +kernel) (pa_cons (pv 3) pa_nil)) pe_int) pe_int))
    (pss_cons (ps_set (i := 5) sc__law_take.nd rfl (.inl rfl) (pe_op op_modX (pe_callTy cr_intX (by rfl) T.z_int (by decide +kernel) (pa_cons (pe_op op_mulX (pe_op op_addX (pe_op op_addX (pv 3) (pe_ix (ix_X (hu_of hr)) (pv 0) pe_int (fun _ _ => rfl))) (pe_op op_divX (pe_ix (ix_X (hu_of hr)) (pv 0) pe_int (fun _ _ => rfl)) pe_int)) (pv 4)) pa_nil)) pe_int))
    (pss_one (ps_ret (pe_op op_modX (pe_callTy cr_intX (by rfl) T.z_int (by decide +kernel) (pa_cons (pe_op op_divX (pe_op op_modX (pe_callTy cr_intX (by rfl) T.z_int (by decide +kernel) (pa_cons (pe_op op_addX (pe_op op_mulX (pv 5) pe_int) (pv 3)) pa_nil)) pe_int) pe_int) pa_nil)) (pv 1)))))))))
theorem w__law_take : ∀ xs ds, pre__law_take xs ds → WS K true (t__law_take K) (argsT N__law_take.length ds) [.l xs] (finT (R__law_take xs ds)) := by
  rintro xs ds ⟨m, n, ⟨a, b, c, rfl, ha, hb, hb2, hc, hcm⟩, hm, rfl, h1, h2⟩
  refine ws_seq (ws_if (c := decide (0 < a)) (et_test (s := true) (ev_op (ev_ixO rfl rfl ev_int rfl) ev_int rd_gt)) (fun hp => ?_) (fun hn => ws_next ?_))
  · have hn : Bd 60 n := by unfold Bd; omega
    refine ws_seq (ws_set (ev_op (ev_cb (ea_cons (ev_ixO rfl rfl ev_int rfl) ea_nil) rc_int) (ev_var rfl) (rd_mod (by omega))) ?_)
    refine ws_seq (ws_setitemX rfl rfl (ev_op (ev_ixO rfl rfl ev_int rfl) (ev_var rfl) (rd_div (hn.divOk (by omega)))) ev_int rfl ?_)
    refine ws_ret (ev_var rfl) ⟨_, rfl, _, n, rfl, rfl, Int.emod_nonneg _ (by omega), Int.emod_lt_of_pos _ (by omega), fun m' hm' => ?_⟩
    obtain ⟨a', b', c', e, _, _, _, _, h5⟩ := hm'
    cases e
    exact ⟨a / n, b, c, rfl, Int.ediv_nonneg ha (by omega), hb, hb2, hc, by omega⟩
  · refine ws_seq (ws_setitemX rfl rfl (ev_op (ev_ixO rfl rfl ev_int rfl) ev_int rd_add) ev_int rfl ?_)
    refine ws_seq (ws_set (ev_op (ev_cb (ea_cons (ev_op (ev_op (ev_ixO rfl rfl ev_int rfl) (ev_op ev_int (ev_ixO rfl rfl ev_int rfl) (rd_mul (mul_l (by decide) (by decide)))) rd_add) (ev_op ev_int (ev_ixO rfl rfl ev_int rfl) rd_add) (rd_mul (mul_r (by omega) (by omega)))) ea_nil) rc_int) ev_int (rd_mod (by decide))) ?_)
    generalize hO : ((b + 48271 * (c + 1)) * (39373 + (c + 1))) % 2147483647 = o
    have o1 : 0 ≤ o := by rw [← hO]; exact Int.emod_nonneg _ (by decide)
    have o2 : o < 2147483647 := by rw [← hO]; exact Int.emod_lt_of_pos _ (by decide)
    refine ws_seq (ws_set (ev_op (ev_op (ev_cb (ea_cons (ev_var rfl) ea_nil) rc_int) ev_int (rd_mod (by decide))) ev_int rd_add) ?_)
    refine ws_seq (ws_set (ev_op (ev_cb (ea_cons (ev_op (ev_op (ev_op (ev_var rfl) (ev_ixO rfl rfl ev_int rfl) rd_add) (ev_op (ev_ixO rfl rfl ev_int rfl) ev_int (rd_div ((bd_small (by decide) (by decide)).divOk (by decide)))) rd_add) (ev_var rfl) (rd_mul (mul_r (by omega) (by omega)))) ea_nil) rc_int) ev_int (rd_mod (by decide))) ?_)
    generalize hT : ((o + (c + 1) + b / 1000003) * (o % 40009 + 7)) % 2147483629 = t
    refine ws_ret (ev_op (ev_cb (ea_cons (ev_op (ev_op (ev_cb (ea_cons (ev_op (ev_op (ev_var rfl) ev_int (rd_mul (mul_r (by decide) (by decide)))) (ev_var rfl) rd_add) ea_nil) rc_int) ev_int (rd_mod (by decide))) ev_int (rd_div ((bd_small (by decide) (by decide)).divOk (by decide)))) ea_nil) rc_int) (ev_var rfl) (rd_mod (by omega))) ⟨_, rfl, _, n, rfl, rfl, Int.emod_nonneg _ (by omega), Int.emod_lt_of_pos _ (by omega), fun m' hm' => ?_⟩
    obtain ⟨a', b', c', e, _, _, _, _, h5⟩ := hm'
    cases e
    exact ⟨a, b, c + 1, rfl, ha, hb, hb2, by omega, by omega⟩
theorem av__law_take (T : Top mg) {f : Addr} {fd : FuncData} (F : Fun K "_law_take" "_law_take" s__law_take f fd) (hm : mg "_law_take" = some (.ref f)) : Av P w K mg base 1 "_law_take" ["tin", "below_so"] (sp__law_take K) :=
  av_mk F (ok_own F sc__law_take (fun xs ds h => l__law_take xs ds h) (fun cdv A outer s H E hr => p__law_take T hr) w__law_take) hm (fun _ _ _ _ _ _ us hl => match us, hl with | [_, _], _ => rfl) (fun _ _ _ _ _ _ us hl => match us, hl with | [_, _], _ => rfl)
/-! ### _law_cells -/
abbrev s__law_cells : Stmt := topS 36
abbrev N__law_cells : List Str := ["script", "most_so", "cells_so", "k", "bit_so", "at_so"]
theorem sc__law_cells : FnScope N__law_cells ["script", "most_so"] (defScope s__law_cells) := ⟨rfl, rfl, rfl, by decide +kernel, rfl, by decide +kernel, by decide +kernel⟩
abbrev R__law_cells : List D → D → Prop := fun ds d => ∃ (ns : List Int) (m : Int), ns.length ≤ 63 ∧ ds = [.fro (ns.map .int), .int 1] ∧ d = .lst [.int m]
theorem l__law_cells : ∀ ds d, R__law_cells ds d → ds.length = 2 := fun _ _ ⟨_, _, _, e, _⟩ => by rw [e]; rfl
def sp__law_cells (K : PySem.W.Frag) : Sp := spR K R__law_cells
def t__law_cells (K : PySem.W.Frag) : TS := (tSeq (tAsg (tOrT K (tCB (rListX K) (tCons (tSl (rSlX K) (tVar 0) tNoPart (tPart (tVar 1))) tNil)) (tLst (tCons (tC (.int 0)) tNil))) (gName 2))
    (tSeq (tFor (iEnumX K (tCons (tSl (rSlX K) (tVar 0) (tPart (tVar 1)) (tPart (tC (.int 63)))) tNil)) (gTup K 2 (gCons (gName 3) (gCons (gName 4) gNil))) (tSeq (tAsg (tOp rModX (tCB rIntX (tCons (tVar 3) tNil)) (tVar 1)) (gName 5))
    (tAsg (tOp (rAddX K) (tOp (rIxX K) (tVar 2) (tVar 5)) (tOp rMulX (tVar 4) (tOp (rAddX K) (tVar 3) (tC (.int 2))))) (gSub (tVar 2) (tVar 5) rSetX))))
    (tRet (tVar 2))))
theorem p__law_cells (T : Top mg) {f : Addr} {cdv : Value} {A : Around} {outer : List Env} {s : Shared} {H : Hp} {E : XK} (hr : Room 0 (A.deeper (envOfC "_law_cells" (defScope s__law_cells) s.heap.objs.size f cdv))) : PSs (cxOf CX0 P w K mg base N__law_cells "_law_cells" (defScope s__law_cells) f cdv A outer s H E).nox (defBody s__law_cells) (t__law_cells K) :=
  (pss_cons (ps_set (i := 2) sc__law_cells.nd rfl (.inl rfl) (pe_orT (pe_callTy cr_listX (by rfl) T.z_list (by decide +kernel) (pa_cons (pe_slice sl_X (pv 0) po_none (po_some (pv 1))) pa_nil)) (pe_one (pe_lst (pa_cons pe_int pa_nil)))))
    (pss_cons (ps_for PassesOwn.never rfl (pi_enumerateX (by rfl) T.z_enumerate (pa_cons (pe_slice sl_X (pv 0) (po_some (pv 1)) (po_some pe_int)) pa_nil)) (pg_tup rfl (pgs_cons (pg_name (i := 3) sc__law_cells.nd rfl (.inl rfl)) (pgs_cons (pg_name (i := 4) sc__law_cells.nd rfl (.inl rfl)) pgs_nil))) (pss_cons (ps_set (i := 5) sc__law_cells.nd rfl (.inl rfl) (pe_op op_modX (pe_callTy cr_intX (by rfl) T.z_int (by decide +kernel) (pa_cons (pv 3) pa_nil)) (pv 1)))
    (pss_one (ps_asg (pe_op op_addX (pe_ix (ix_X (hu_of hr)) (pv 2) (pv 5) (fun _ _ => rfl)) (pe_op op_mulX (pv 4) (pe_op op_addX (pv 3) pe_int))) (pg_sub (pv 2) (pv 5) (set_X (hu_of hr)))))))
    (pss_one (ps_ret (pv 2)))))
theorem w__law_cells : ∀ ds d, R__law_cells ds d → WS K false (t__law_cells K) (args N__law_cells.length ds) [] (fin (R__law_cells ds)) := by
  rintro ds d ⟨ns, m, hl, rfl, rfl⟩
  obtain ⟨m0, e0⟩ : ∃ m0, (if (DL.cutD (ns.map .int) none (some 1)).isEmpty = true then [D.int 0] else DL.cutD (ns.map .int) none (some 1)) = [D.int m0] := by
    cases ns with
    | nil => exact ⟨0, rfl⟩
    | cons n ns =>
      refine ⟨n, ?_⟩
      have : DL.cutD ((n :: ns).map .int) none (some 1) = [D.int n] := by
        unfold DL.cutD
        rw [HT.sIx_none, show (some (1 : Int)) = some ((1 : Nat) : Int) from rfl, HT.sIx_nat]
        have hm : min 1 ((n :: ns).map D.int).length = 1 := by simp
        rw [hm]
        rfl
      rw [this]
      rfl
  refine ws_seq (ws_setN (en_orT (en_list (ev_slF (ev_var rfl) eo_none (eo_part (s := true) (ev_var rfl)))) (fun _ => en_lst (ea_cons ev_int ea_nil))) ?_)
  rw [e0]
  obtain ⟨ms, ems, hms⟩ := cut_ints (ns := ns) (some 1) (some 63)
  refine ws_seq (ws_for (ei_enum (ea_cons (ev_slF (ev_var rfl) (eo_part (s := true) (ev_var rfl)) (eo_part (s := true) ev_int)) ea_nil))
    (fun _ ρ ω => ∃ m y3 y4 y5, ρ = [some (.sh (.fro (ns.map .int))), some (.sh (.int 1)), some (.ow 0), y3, y4, y5] ∧ ω = [.l [.int m]]) ⟨m0, none, none, none, rfl, rfl⟩ (fun i d ρ' ω' hd => ?_) (fun ρ' ω' => ?_))
  · rw [ems] at hd
    rintro ⟨m, y3, y4, y5, rfl, rfl⟩
    have hi : i < ms.length := by
      have := (List.getElem?_eq_some_iff.mp hd).1
      rw [enumD_len, List.length_map] at this
      exact this
    rw [enumD_get (show (ms.map D.int)[i]? = some (.int ms[i]) by rw [List.getElem?_map, List.getElem?_eq_getElem hi]; rfl)] at hd
    cases hd
    refine ⟨_, wg_tup (wgs_cons wg_name (wgs_cons wg_name wgs_nil)) rfl, ?_⟩
    refine ws_seq (ws_set (d := .int 0) ((ev_op (ev_cb (ea_cons (ev_var rfl) ea_nil) rc_int) (ev_var rfl) (rd_mod (by decide))).to (congrArg D.int (Int.emod_one _))) ?_)
    exact ws_setitemX rfl rfl (ev_op (ev_ixO rfl rfl (ev_var rfl) rfl) (ev_op (ev_var rfl) (ev_op (ev_var rfl) ev_int rd_add) (rd_mul (mul_r (by omega) (by omega)))) rd_add) (ev_var rfl) rfl ⟨_, _, _, _, rfl, rfl⟩
  · rintro ⟨m, y3, y4, y5, rfl, rfl⟩
    exact ws_ret (ev_varO rfl rfl) ⟨ns, m, hl, rfl, rfl⟩
theorem av__law_cells (T : Top mg) {f : Addr} {fd : FuncData} (F : Fun K "_law_cells" "_law_cells" s__law_cells f fd) (hm : mg "_law_cells" = some (.ref f)) : Av P w K mg base 1 "_law_cells" ["script", "most_so"] (sp__law_cells K) :=
  av_mk F (ok_pure F sc__law_cells (fun ds d h => l__law_cells ds d h) (fun cdv A outer s H E hr => p__law_cells T hr) w__law_cells) hm (fun _ _ _ _ _ _ us hl => match us, hl with | [_, _], _ => rfl) (fun _ _ _ _ _ _ us hl => match us, hl with | [_, _], _ => rfl)
/-! ### _law_of -/
abbrev s__law_of : Stmt := topS 37
abbrev N__law_of : List Str := ["tin", "goods_so"]
theorem sc__law_of : FnScope N__law_of ["tin", "goods_so"] (defScope s__law_of) := ⟨rfl, rfl, rfl, by decide +kernel, rfl, by decide +kernel, by decide +kernel⟩
def pre__law_of (xs ds : List D) : Prop := ∃ m gs, Box m xs ∧ m ≤ 1000000000 ∧ ds = [.lst gs] ∧ 1 ≤ gs.length ∧ gs.length ≤ 1000000
def R__law_of (xs ds : List D) (d : D) (xs' : List D) : Prop := ∃ (j : Nat) (gs : List D), ds = [.lst gs] ∧ gs[j]? = some d ∧ Nx 1 xs xs'
theorem l__law_of : ∀ xs ds, pre__law_of xs ds → ds.length + 1 = 2 := fun _ _ ⟨_, _, _, _, e, _⟩ => by rw [e]; rfl
theorem we_of {K : PySem.W.Frag} {E : XK} {ρ : En} {ω : Ow} {Φ : D → Ow → Prop} {i k m : Nat} {te : TE} {gs : List D} {xs : List D} (hi : ρ[i]? = some (some (.ow k))) (hn : Ev K true te ρ ω (.lst gs)) (hx : ω[k]? = some (.l xs)) (hb : Box m xs) (hm : m ≤ 1000000000) (h1 : 1 ≤ gs.length) (h2 : gs.length ≤ 1000000)
    (q : ∀ (j : Nat) d xs', gs[j]? = some d → Nx 1 xs xs' → Φ d (ω.set k (.l xs'))) : WE K (tCall (spT K pre__law_of R__law_of) [] E (tCons (tVar i) (tCons te tNil))) ρ ω Φ := by
  refine we_callT hi (wa_cons (we_ev hn (wa_nil ⟨xs, hx, ⟨m, gs, hb, hm, rfl, h1, h2⟩, fun d xs' ⟨j, gs', e, h3, h5⟩ => ?_⟩)))
  cases e
  exact q j d xs' h3 h5
def sp__law_of (K : PySem.W.Frag) : Sp := spT K pre__law_of R__law_of
def t__law_of (K : PySem.W.Frag) : TS := (tRet (tOp (rIxX K) (tVar 1) (tCall (sp__law_take K) [] E0 (tCons (tVar 0) (tCons (tCB (rLenX K) (tCons (tVar 1) tNil)) tNil)))))
theorem p__law_of (T : Top mg) (a__law_take : Av P w K mg base 1 "_law_take" ["tin", "below_so"] (sp__law_take K)) {f : Addr} {cdv : Value} {A : Around} {outer : List Env} {s : Shared} {H : Hp} {E : XK} (hr : Room 1 (A.deeper (envOfC "_law_of" (defScope s__law_of) s.heap.objs.size f cdv))) : PSs (cxOf CX0 P w K mg base N__law_of "_law_of" (defScope s__law_of) f cdv A outer s H E).nox (defBody s__law_of) (t__law_of K) :=
  (pss_one (ps_ret (pe_ix (ix_X (hu_of hr)) (pv 1) (pe_av a__law_take hr rfl (pa_cons (pv 0) (pa_cons (pe_callB cr_lenX (by rfl) T.z_len (by decide +kernel) (pa_cons (pv 1) pa_nil)) pa_nil))) (fun _ _ => rfl))))
theorem w__law_of : ∀ xs ds, pre__law_of xs ds → WS K true (t__law_of K) (argsT N__law_of.length ds) [.l xs] (finT (R__law_of xs ds)) := by
  rintro xs ds ⟨m, gs, hb, hm, rfl, h1, h2⟩
  refine ws_retW (we_op (we_ev (ev_var rfl) (we_take rfl (ev_cb (ea_cons (ev_var rfl) ea_nil) rc_lenL) rfl hb hm (by omega) (by omega) fun r xs' r0 r1 nx => ?_)))
  obtain ⟨j, rfl⟩ : ∃ j : Nat, r = j := ⟨r.toNat, by omega⟩
  have hr : j < gs.length := by omega
  exact ⟨gs[j], rd_ixL (atI_nat (List.getElem?_eq_getElem hr)), _, rfl, j, gs, rfl, List.getElem?_eq_getElem hr, nx⟩
theorem av__law_of (T : Top mg) (a__law_take : Av P w K mg base 1 "_law_take" ["tin", "below_so"] (sp__law_take K)) {f : Addr} {fd : FuncData} (F : Fun K "_law_of" "_law_of" s__law_of f fd) (hm : mg "_law_of" = some (.ref f)) : Av P w K mg base 2 "_law_of" ["tin", "goods_so"] (sp__law_of K) :=
  av_mk F (ok_own F sc__law_of (fun xs ds h => l__law_of xs ds h) (fun cdv A outer s H E hr => p__law_of T a__law_take hr) w__law_of) hm (fun _ _ _ _ _ _ us hl => match us, hl with | [_, _], _ => rfl) (fun _ _ _ _ _ _ us hl => match us, hl with | [_, _], _ => rfl)
/-! ### _law_same -/
abbrev s__law_same : Stmt := topS 38
abbrev N__law_same : List Str := ["got", "due", "mine", "its"]
theorem sc__law_same : FnScope N__law_same ["got", "due"] (defScope s__law_same) := ⟨rfl, rfl, rfl, by decide +kernel, rfl, by decide +kernel, by decide +kernel⟩
def Rsame (n : Nat) : List D → D → Prop := fun ds d => ∃ x y, ds = [x, y] ∧ isPy x = true ∧ okD n y ∧ d = .bl (sameD x y)
abbrev R__law_same : List D → D → Prop := Rsame 6
theorem u__law_same {n : Nat} {x y : D} : ∀ d', Rsame n [x, y] d' → d' = .bl (sameD x y) := fun _ ⟨_, _, e, _, _, e'⟩ => by cases e; exact e'
theorem c_same {K : PySem.W.Frag} {b : Bool} {E : XK} {t : TA} {ρ : En} {ω : Ow} {n : Nat} {x y : D} (h : EvA K b t ρ ω [x, y]) (h1 : isPy x = true) (h2 : okD n y) : Ev K b (tCall (spR K (Rsame n)) [] E t) ρ ω (.bl (sameD x y)) :=
  ev_call h ⟨x, y, rfl, h1, h2, rfl⟩ u__law_same
def sp__law_same (K : PySem.W.Frag) : Sp := spR K R__law_same
def t__law_same (K : PySem.W.Frag) (sp__law_same : PySem.W.Frag → Sp) : TS := (tSeq (tIfS (tTruX K (tCB (rIsiX K) (tCons (tVar 1) (tCons (tTup (tCons (tC (.ty "list")) (tCons (tC (.ty "tuple")) tNil))) tNil)))) (tSeq (tIfS (tOr (tTest (tOp (rNeX K) (tCB (rIsiX K) (tCons (tVar 0) (tCons (tC (.ty "list")) tNil))) (tCB (rIsiX K) (tCons (tVar 1) (tCons (tC (.ty "list")) tNil))))) (tTest (tOp (rNeX K) (tCB (rIsiX K) (tCons (tVar 0) (tCons (tC (.ty "tuple")) tNil))) (tCB (rIsiX K) (tCons (tVar 1) (tCons (tC (.ty "tuple")) tNil)))))) (tRet (tC (.bl false))) tNext)
    (tRet (tAndT K (tOp (rEqX K) (tCB (rLenX K) (tCons (tVar 0) tNil)) (tCB (rLenX K) (tCons (tVar 1) tNil))) (tCB (rAllX K) (tCons (tLc (iZipX K (tCons (tVar 0) (tCons (tVar 1) tNil))) (gTup K 2 (gCons (gName 2) (gCons (gName 3) gNil))) tYes (tCall (sp__law_same K) [] E0 (tCons (tVar 2) (tCons (tVar 3) tNil))) [2, 3]) tNil))))) tNext)
    (tSeq (tIfS (tTest (tOp rIsX (tVar 1) (tC .non))) (tRet (tOp rIsX (tVar 0) (tC .non))) tNext)
    (tSeq (tIfS (tTruX K (tCB (rIsiX K) (tCons (tVar 1) (tCons (tTup (tCons (tC (.ty "bool")) (tCons (tC (.ty "str")) tNil))) tNil)))) (tRet (tAndT K (tOp (rEqX K) (tCB (rIsiX K) (tCons (tVar 0) (tCons (tC (.ty "bool")) tNil))) (tCB (rIsiX K) (tCons (tVar 1) (tCons (tC (.ty "bool")) tNil)))) (tAndT K (tOp (rEqX K) (tCB (rIsiX K) (tCons (tVar 0) (tCons (tC (.ty "str")) tNil))) (tCB (rIsiX K) (tCons (tVar 1) (tCons (tC (.ty "str")) tNil)))) (tOp (rEqX K) (tVar 0) (tVar 1))))) tNext)
    (tRet (tAndT K (tCB (rIsiX K) (tCons (tVar 0) (tCons (tC (.ty "int")) tNil))) (tAndT K (tNotT K (tCB (rIsiX K) (tCons (tVar 0) (tCons (tC (.ty "bool")) tNil)))) (tOp (rEqX K) (tVar 0) (tVar 1))))))))
theorem p__law_same {sp__law_same : PySem.W.Frag → Sp} {kr : Nat} (hkr : 0 ≤ kr) (T : Top mg) (a__law_same : Av P w K mg base kr "_law_same" ["got", "due"] (sp__law_same K)) {f : Addr} {cdv : Value} {A : Around} {outer : List Env} {s : Shared} {H : Hp} {E : XK} (hr : Room kr (A.deeper (envOfC "_law_same" (defScope s__law_same) s.heap.objs.size f cdv))) : PSs (cxOf CX0 P w K mg base N__law_same "_law_same" (defScope s__law_same) f cdv A outer s H E).nox (defBody s__law_same) (t__law_same K sp__law_same) :=
  (pss_cons (ps_if (pt_tru (pe_callB cr_isiX (by rfl) T.z_isinstance (by decide +kernel) (pa_cons (pv 1) (pa_cons (pe_tup (pa_cons (pe_bltn (v := .ty "list") (by rfl) T.z_list (by decide +kernel) rfl) (pa_cons (pe_bltn (v := .ty "tuple") (by rfl) T.z_tuple (by decide +kernel) rfl) pa_nil))) pa_nil)))) (pss_cons (ps_if (PW.pt (pw_or (pt_cmpR (op_neX hr.units) (pe_callB cr_isiX (by rfl) T.z_isinstance (by decide +kernel) (pa_cons (pv 0) (pa_cons (pe_bltn (v := .ty "list") (by rfl) T.z_list (by decide +kernel) rfl) pa_nil))) (pe_callB cr_isiX (by rfl) T.z_isinstance (by decide +kernel) (pa_cons (pv 1) (pa_cons (pe_bltn (v := .ty "list") (by rfl) T.z_list (by decide +kernel) rfl) pa_nil))) (nomark _)) (pw_or1 (pt_cmpR (op_neX hr.units) (pe_callB cr_isiX (by rfl) T.z_isinstance (by decide +kernel) (pa_cons (pv 0) (pa_cons (pe_bltn (v := .ty "tuple") (by rfl) T.z_tuple (by decide +kernel) rfl) pa_nil))) (pe_callB cr_isiX (by rfl) T.z_isinstance (by decide +kernel) (pa_cons (pv 1) (pa_cons (pe_bltn (v := .ty "tuple") (by rfl) T.z_tuple (by decide +kernel) rfl) pa_nil))) (nomark _))))) (pss_one (ps_ret pe_bl)) pss_nil)
    (pss_one (ps_ret (pe_andT (pe_cmpR (op_eqX hr.units) (pe_callB cr_lenX (by rfl) T.z_len (by decide +kernel) (pa_cons (pv 0) pa_nil)) (pe_callB cr_lenX (by rfl) T.z_len (by decide +kernel) (pa_cons (pv 1) pa_nil)) (nomark _)) (pe_one (pe_callB (cr_allX rfl) (by rfl) T.z_all (by decide +kernel) (pa_cons (pe_lc (own := [("mine", 2), ("its", 3)]) rfl sc__law_same.nd (pi_zipX (by rfl) T.z_zip (pa_cons (pv 0) (pa_cons (pv 1) pa_nil))) (blkOk_by (own := [("mine", 2), ("its", 3)]) (N := N__law_same) (sc := defScope s__law_same) (by decide +kernel)) (fun _ _ _ _ _ => (pg_tup rfl (pgs_cons (pg_name (i := 2) sc__law_same.nd rfl (.inl rfl)) (pgs_cons (pg_name (i := 3) sc__law_same.nd rfl (.inl rfl)) pgs_nil)))) (fun _ _ _ _ _ => pts_nil) (fun _ _ _ _ _ => (pe_avL a__law_same hr rfl (Nat.le_refl _) (pa_cons (pv 2) (pa_cons (pv 3) pa_nil))))) pa_nil))))))) pss_nil)
    (pss_cons (ps_if (pt_cmpR op_isX (pv 1) pe_non (nomark _)) (pss_one (ps_ret (pe_cmpR op_isX (pv 0) pe_non (nomark _)))) pss_nil)
    (pss_cons (ps_if (pt_tru (pe_callB cr_isiX (by rfl) T.z_isinstance (by decide +kernel) (pa_cons (pv 1) (pa_cons (pe_tup (pa_cons (pe_bltn (v := .ty "bool") (by rfl) T.z_bool (by decide +kernel) rfl) (pa_cons (pe_bltn (v := .ty "str") (by rfl) T.z_str (by decide +kernel) rfl) pa_nil))) pa_nil)))) (pss_one (ps_ret (pe_andT (pe_cmpR (op_eqX hr.units) (pe_callB cr_isiX (by rfl) T.z_isinstance (by decide +kernel) (pa_cons (pv 0) (pa_cons (pe_bltn (v := .ty "bool") (by rfl) T.z_bool (by decide +kernel) rfl) pa_nil))) (pe_callB cr_isiX (by rfl) T.z_isinstance (by decide +kernel) (pa_cons (pv 1) (pa_cons (pe_bltn (v := .ty "bool") (by rfl) T.z_bool (by decide +kernel) rfl) pa_nil))) (nomark _)) (pe_andT (pe_cmpR (op_eqX hr.units) (pe_callB cr_isiX (by rfl) T.z_isinstance (by decide +kernel) (pa_cons (pv 0) (pa_cons (pe_bltn (v := .ty "str") (by rfl) T.z_str (by decide +kernel) rfl) pa_nil))) (pe_callB cr_isiX (by rfl) T.z_isinstance (by decide +kernel) (pa_cons (pv 1) (pa_cons (pe_bltn (v := .ty "str") (by rfl) T.z_str (by decide +kernel) rfl) pa_nil))) (nomark _)) (pe_one (pe_cmpR (op_eqX hr.units) (pv 0) (pv 1) (nomark _))))))) pss_nil)
    (pss_one (ps_ret (pe_andT (pe_callB cr_isiX (by rfl) T.z_isinstance (by decide +kernel) (pa_cons (pv 0) (pa_cons (pe_bltn (v := .ty "int") (by rfl) T.z_int (by decide +kernel) rfl) pa_nil))) (pe_andT (pe_notT (pe_callB cr_isiX (by rfl) T.z_isinstance (by decide +kernel) (pa_cons (pv 0) (pa_cons (pe_bltn (v := .ty "bool") (by rfl) T.z_bool (by decide +kernel) rfl) pa_nil)))) (pe_one (pe_cmpR (op_eqX hr.units) (pv 0) (pv 1) (nomark _))))))))))
theorem w__law_same (n : Nat) (S : List D → D → Prop) (hS : ∀ x y m, n = m + 1 → isPy x = true → okD m y → S [x, y] (.bl (sameD x y)) ∧ ∀ d', S [x, y] d' → d' = .bl (sameD x y)) : ∀ ds d, Rsame n ds d → WS K false (t__law_same K fun K => spR K S) (args N__law_same.length ds) [] (fin (Rsame n ds)) := by
  rintro ds d ⟨x, y, rfl, hx, hd, rfl⟩
  have hy := okD_py n hd
  have rx := isPy_raw hx
  have ry := isPy_raw hy
  have last : ∀ {d' : D}, d' = .bl (sameD x y) → Rsame n [x, y] d' := fun e => ⟨x, y, rfl, hx, hd, e⟩
  refine ws_seq (ws_if (et_trub (s := true) (ev_isLT (ev_var rfl) ry)) (fun hL => ?_) (fun hL => ws_next ?_))
  · refine ws_seq (ws_if (et_or (et_test (s := true) (ev_op (ev_cb (ea_cons (ev_var rfl) (ea_cons ev_raw ea_nil)) (rc_isLst rx)) (ev_cb (ea_cons (ev_var rfl) (ea_cons ev_raw ea_nil)) (rc_isLst ry)) rd_nebb))
      (fun _ => et_test (s := true) (ev_op (ev_cb (ea_cons (ev_var rfl) (ea_cons ev_raw ea_nil)) (rc_isTup rx)) (ev_cb (ea_cons (ev_var rfl) (ea_cons ev_raw ea_nil)) (rc_isTup ry)) rd_nebb))) (fun h => ?_) (fun h => ws_next ?_))
    · refine ws_ret ev_bl (last (congrArg D.bl (sameD_no fun e => ?_).symm))
      subst e
      rw [Bool.or_eq_true] at h
      rcases h with h | h <;> simp at h
    · cases y with
      | lst ys =>
        cases x with
        | lst xs =>
          obtain ⟨m, rfl⟩ : ∃ m, n = m + 1 := by
            cases n with
            | zero => exact absurd hd (by intro h; exact h)
            | succ m => exact ⟨m, rfl⟩
          obtain ⟨hlen, hit⟩ := hd
          refine ws_ret (ev_and (ev_op (ev_cb (ea_cons (ev_var rfl) ea_nil) rc_lenL) (ev_cb (ea_cons (ev_var rfl) ea_nil) rc_lenL) rd_eq) (fun hl => ev_cb (ea_cons ((ev_map (xs.zip ys) (fun p => D.tup [p.1, p.2]) (fun p => D.bl (sameD p.1 p.2)) (ei_zip (ea_cons (ev_var rfl) (ea_cons (ev_var rfl) ea_nil))) (by rw [List.length_zip]; omega) (fun p hp => ?_)).to (by rw [show (xs.zip ys).map (fun p => D.bl (sameD p.1 p.2)) = ((xs.zip ys).map fun p => sameD p.1 p.2).map D.bl by rw [List.map_map]; rfl])) ea_nil) rc_all)) (last ?_)
          · obtain ⟨p1, p2⟩ := p
            obtain ⟨m1, m2⟩ := List.of_mem_zip hp
            obtain ⟨g1, g2⟩ := hS p1 p2 m rfl (arePy_mem hx m1) (hit _ m2)
            exact ⟨_, wgw_tup (wgsw_cons wgw_name (wgsw_cons wgw_name wgsw_nil)) rfl, ev_call (ea_cons (ev_var rfl) (ea_cons (ev_var rfl) ea_nil)) g1 g2⟩
          · by_cases e : xs.length = ys.length
            · rw [decide_eq_true (by rw [e]), Bool.true_and, zip_same e]
            · rw [decide_eq_false (by omega), Bool.false_and, sameD_no fun z => e (by cases z; rfl)]
        | _ => simp [isLst, isTup] at h
      | tup ys =>
        cases x with
        | tup xs =>
          obtain ⟨m, rfl⟩ : ∃ m, n = m + 1 := by
            cases n with
            | zero => exact absurd hd (by intro h; exact h)
            | succ m => exact ⟨m, rfl⟩
          obtain ⟨hlen, hit⟩ := hd
          refine ws_ret (ev_and (ev_op (ev_cb (ea_cons (ev_var rfl) ea_nil) rc_lenT) (ev_cb (ea_cons (ev_var rfl) ea_nil) rc_lenT) rd_eq) (fun hl => ev_cb (ea_cons ((ev_map (xs.zip ys) (fun p => D.tup [p.1, p.2]) (fun p => D.bl (sameD p.1 p.2)) (ei_zipT (ea_cons (ev_var rfl) (ea_cons (ev_var rfl) ea_nil))) (by rw [List.length_zip]; omega) (fun p hp => ?_)).to (by rw [show (xs.zip ys).map (fun p => D.bl (sameD p.1 p.2)) = ((xs.zip ys).map fun p => sameD p.1 p.2).map D.bl by rw [List.map_map]; rfl])) ea_nil) rc_all)) (last ?_)
          · obtain ⟨p1, p2⟩ := p
            obtain ⟨m1, m2⟩ := List.of_mem_zip hp
            obtain ⟨g1, g2⟩ := hS p1 p2 m rfl (arePy_mem hx m1) (hit _ m2)
            exact ⟨_, wgw_tup (wgsw_cons wgw_name (wgsw_cons wgw_name wgsw_nil)) rfl, ev_call (ea_cons (ev_var rfl) (ea_cons (ev_var rfl) ea_nil)) g1 g2⟩
          · by_cases e : xs.length = ys.length
            · rw [decide_eq_true (by rw [e]), Bool.true_and, zip_same e, lst_tup]
            · rw [decide_eq_false (by omega), Bool.false_and, sameD_no fun z => e (by cases z; rfl)]
        | _ => simp [isLst, isTup] at h
      | _ => simp [isLst, isTup] at hL
  · refine ws_seq (ws_if (et_test (s := true) (ev_op (ev_var rfl) ev_non (rd_is ry))) (fun hN => ?_) (fun hN => ws_next ?_))
    · refine ws_ret (ev_op (ev_var rfl) ev_non (rd_is rx)) (last (congrArg D.bl ?_))
      cases y <;> first | exact Bool.noConfusion hN | skip
      exact (sameD_dec (by cases x <;> simp [DL.isNon])).symm
    refine ws_seq (ws_if (et_trub (s := true) (ev_isBS (ev_var rfl) ry)) (fun hB => ?_) (fun hB => ws_next ?_))
    · have e1 : ∀ {ρ : En}, ρ[0]? = some (some (.sh x)) → ρ[1]? = some (some (.sh y)) → Ev K false (tOp (rEqX K) (tCB (rIsiX K) (tCons (tVar 0) (tCons (tC (.ty "bool")) tNil))) (tCB (rIsiX K) (tCons (tVar 1) (tCons (tC (.ty "bool")) tNil)))) ρ [] (.bl (isBool x == isBool y)) :=
        fun h0 h1 => ev_op (ev_cb (ea_cons (ev_var h0) (ea_cons ev_raw ea_nil)) (rc_isBool rx)) (ev_cb (ea_cons (ev_var h1) (ea_cons ev_raw ea_nil)) (rc_isBool ry)) rd_eqbb
      have e2 : ∀ {ρ : En}, ρ[0]? = some (some (.sh x)) → ρ[1]? = some (some (.sh y)) → Ev K false (tOp (rEqX K) (tCB (rIsiX K) (tCons (tVar 0) (tCons (tC (.ty "str")) tNil))) (tCB (rIsiX K) (tCons (tVar 1) (tCons (tC (.ty "str")) tNil)))) ρ [] (.bl (isStr x == isStr y)) :=
        fun h0 h1 => ev_op (ev_cb (ea_cons (ev_var h0) (ea_cons ev_raw ea_nil)) (rc_isStr rx)) (ev_cb (ea_cons (ev_var h1) (ea_cons ev_raw ea_nil)) (rc_isStr ry)) rd_eqbb
      cases y with
      | bl j =>
        cases x with
        | bl i => exact ws_ret (ev_and (e1 rfl rfl) fun _ => ev_and (e2 rfl rfl) fun _ => ev_op (ev_var rfl) (ev_var rfl) rd_eqb) (last (congrArg D.bl (sameD_dec (by simp [isBool, DL.isStr])).symm))
        | _ => exact ws_ret (ev_and (b := false) (e1 rfl rfl) fun z => Bool.noConfusion z) (last (congrArg D.bl (sameD_dec (by simp [isBool])).symm))
      | str j =>
        cases x with
        | str i => exact ws_ret (ev_and (e1 rfl rfl) fun _ => ev_and (e2 rfl rfl) fun _ => ev_op (ev_var rfl) (ev_var rfl) rd_eqs) (last (congrArg D.bl (sameD_dec (by simp [isBool, DL.isStr])).symm))
        | bl i => exact ws_ret (ev_and (b := false) (e1 rfl rfl) fun z => Bool.noConfusion z) (last (congrArg D.bl (sameD_dec (by simp [isBool])).symm))
        | _ => exact ws_ret (ev_and (e1 rfl rfl) fun _ => ev_and (b := false) (e2 rfl rfl) fun z => Bool.noConfusion z) (last (congrArg D.bl (sameD_dec (by simp [isBool, DL.isStr])).symm))
      | _ => simp [isBool, DL.isStr] at hB
    · have e1 : ∀ {ρ : En}, ρ[0]? = some (some (.sh x)) → Ev K false (tCB (rIsiX K) (tCons (tVar 0) (tCons (tC (.ty "int")) tNil))) ρ [] (.bl (isInt x)) := fun h0 => ev_cb (ea_cons (ev_var h0) (ea_cons ev_raw ea_nil)) (rc_isInt rx)
      have e2 : ∀ {ρ : En}, ρ[0]? = some (some (.sh x)) → Ev K false (tNotT K (tCB (rIsiX K) (tCons (tVar 0) (tCons (tC (.ty "bool")) tNil)))) ρ [] (.bl (!isBool x)) := fun h0 => ev_not (ev_cb (ea_cons (ev_var h0) (ea_cons ev_raw ea_nil)) (rc_isBool rx))
      cases y with
      | int j =>
        cases x with
        | int i => exact ws_ret (ev_and (e1 rfl) fun _ => ev_and (e2 rfl) fun _ => ev_op (ev_var rfl) (ev_var rfl) rd_eq) (last (congrArg D.bl (sameD_dec (by simp [DL.isInt, isBool])).symm))
        | bl i => exact ws_ret (ev_and (e1 rfl) fun _ => ev_and (b := false) (e2 rfl) fun z => Bool.noConfusion z) (last (congrArg D.bl (sameD_dec (by simp [DL.isInt, isBool])).symm))
        | _ => exact ws_ret (ev_and (b := false) (e1 rfl) fun z => Bool.noConfusion z) (last (congrArg D.bl (sameD_dec (by simp [DL.isInt])).symm))
      | non => exact Bool.noConfusion hN
      | bl j => exact Bool.noConfusion hB
      | str j => exact Bool.noConfusion hB
      | lst j => exact Bool.noConfusion hL
      | tup j => exact Bool.noConfusion hL
      | _ => exact Bool.noConfusion hy
theorem av_same (T : Top mg) {f : Addr} {fd : FuncData} (F : Fun K "_law_same" "_law_same" s__law_same f fd) (hm : mg "_law_same" = some (.ref f)) : ∀ n, Av P w K mg base (n + 1) "_law_same" ["got", "due"] (spR K (Rsame n))
  | 0 => av_mk F (ok_pure F sc__law_same (fun ds d ⟨_, _, e, _⟩ => by rw [e]; rfl) (fun cdv A outer s H E hr => p__law_same (sp__law_same := fun K => spR K fun _ _ => False) (Nat.zero_le _) T (av_void F hm (fun _ _ _ _ _ _ us hl => match us, hl with | [_, _], _ => rfl) (fun _ _ _ _ _ _ us hl => match us, hl with | [_, _], _ => rfl)) hr) (w__law_same 0 _ fun x y m e => by omega)) hm (fun _ _ _ _ _ _ us hl => match us, hl with | [_, _], _ => rfl) (fun _ _ _ _ _ _ us hl => match us, hl with | [_, _], _ => rfl)
  | n + 1 => av_mk F (ok_pure F sc__law_same (fun ds d ⟨_, _, e, _⟩ => by rw [e]; rfl) (fun cdv A outer s H E hr => p__law_same (sp__law_same := fun K => spR K (Rsame n)) (Nat.zero_le _) T (av_same T F hm n) hr) (w__law_same (n + 1) _ fun x y m e hx hy => by
      have e' : n = m := by omega
      subst e'
      exact ⟨⟨x, y, rfl, hx, hy, rfl⟩, u__law_same⟩)) hm (fun _ _ _ _ _ _ us hl => match us, hl with | [_, _], _ => rfl) (fun _ _ _ _ _ _ us hl => match us, hl with | [_, _], _ => rfl)
theorem av__law_same (T : Top mg) {f : Addr} {fd : FuncData} (F : Fun K "_law_same" "_law_same" s__law_same f fd) (hm : mg "_law_same" = some (.ref f)) : Av P w K mg base 9 "_law_same" ["got", "due"] (sp__law_same K) := (av_same T F hm 6).mono (by decide)
/-! ### _law_call -/
abbrev s__law_call : Stmt := topS 39
abbrev N__law_call : List Str := ["door", "goods_so"]
theorem sc__law_call : FnScope N__law_call ["door", "goods_so"] (defScope s__law_call) := ⟨rfl, rfl, rfl, by decide +kernel, rfl, by decide +kernel, by decide +kernel⟩
def doors (ad : Nat → Addr) : Doors := fun f => if f = ad i_answer then some (R_answer, X_answer ad) else none
theorem door_answer (G : Ad K mg ad) : doors ad (ad i_answer) = some (R_answer, X_answer ad) := by
  unfold doors
  rw [if_pos rfl]
abbrev lvDoor : Nat := 8
theorem doors_held (G : Ad K mg ad) (ax_answer : AvX P w K mg base 8 "answer" ["slack", "place"] (spX K R_answer (X_answer ad))) : ∀ f sp, (doors ad).sp K f = some sp → Holds2 P w K mg base lvDoor f sp := by
  intro f sp h
  unfold Doors.sp doors at h
  repeat' (split at h)
  · rename_i e
    cases h
    subst e
    exact ax_answer.holds (by decide) G.d_answer
  · cases h
def R_call (T : Doors) : List D → D → Prop := fun ds d => ∃ f gs R Y, ds = [.raw (.ref f), .tup gs] ∧ T f = some (R, Y) ∧ 1 ≤ gs.length ∧ gs.length ≤ 4 ∧ R gs d
def Y_call (T : Doors) : List D → Value → Prop := fun ds c => ∃ f gs R Y, ds = [.raw (.ref f), .tup gs] ∧ T f = some (R, Y) ∧ 1 ≤ gs.length ∧ gs.length ≤ 4 ∧ Y gs c
def goodsA (K : PySem.W.Frag) : Nat → Nat → TA
  | _, 0 => tNil
  | i, n + 1 => tCons (tOp (rIxX K) (tVar 1) (tC (.int i))) (goodsA K (i + 1) n)
def t__law_call (K : PySem.W.Frag) (T : Doors) (E : XK) : TS := tSeq (tIfS (tTest (tOp (rEqX K) (tCB (rLenX K) (tCons (tVar 1) tNil)) (tC (.int 1)))) (tRet (tDoor 0 (T.sp K) E (goodsA K 0 1))) tNext)
  (tSeq (tIfS (tTest (tOp (rEqX K) (tCB (rLenX K) (tCons (tVar 1) tNil)) (tC (.int 2)))) (tRet (tDoor 0 (T.sp K) E (goodsA K 0 2))) tNext)
  (tSeq (tIfS (tTest (tOp (rEqX K) (tCB (rLenX K) (tCons (tVar 1) tNil)) (tC (.int 3)))) (tRet (tDoor 0 (T.sp K) E (goodsA K 0 3))) tNext)
  (tRet (tDoor 0 (T.sp K) E (goodsA K 0 4)))))
theorem p__law_call (T : Top mg) {TD : Doors} (hT : ∀ f sp, TD.sp K f = some sp → Holds2 P w K mg base lvDoor f sp) {f : Addr} {cdv : Value} {A : Around} {outer : List Env} {s : Shared} {H : Hp} {E : XK} (hr : Room lvDoor (A.deeper (envOfC "_law_call" (defScope s__law_call) s.heap.objs.size f cdv))) : PSs (cxOf (L2.CX P w) P w K mg base N__law_call "_law_call" (defScope s__law_call) f cdv A outer s H E) (defBody s__law_call) (t__law_call K TD E) := by
  have hx : Passes (L2.CX P w) (cxOf (L2.CX P w) P w K mg base N__law_call "_law_call" (defScope s__law_call) f cdv A outer s H E) E := passes_call (takes_of rfl rfl rfl rfl) (fun _ _ _ _ h => h)
  exact pss_cons (ps_if (pt_cmpR (op_eqX hr.units) (pe_callB cr_lenX (by rfl) T.z_len (by decide +kernel) (pa_cons (pv 1) pa_nil)) pe_int (nomark _)) (pss_one (ps_ret (pe_door (i := 0) hT hr hx rfl (.inl rfl) (pa_cons (pe_ix (ix_X (hu_of hr)) (pv 1) pe_int (fun _ _ => rfl)) pa_nil)))) pss_nil)
    (pss_cons (ps_if (pt_cmpR (op_eqX hr.units) (pe_callB cr_lenX (by rfl) T.z_len (by decide +kernel) (pa_cons (pv 1) pa_nil)) pe_int (nomark _)) (pss_one (ps_ret (pe_door (i := 0) hT hr hx rfl (.inl rfl) (pa_cons (pe_ix (ix_X (hu_of hr)) (pv 1) pe_int (fun _ _ => rfl)) (pa_cons (pe_ix (ix_X (hu_of hr)) (pv 1) pe_int (fun _ _ => rfl)) pa_nil))))) pss_nil)
    (pss_cons (ps_if (pt_cmpR (op_eqX hr.units) (pe_callB cr_lenX (by rfl) T.z_len (by decide +kernel) (pa_cons (pv 1) pa_nil)) pe_int (nomark _)) (pss_one (ps_ret (pe_door (i := 0) hT hr hx rfl (.inl rfl) (pa_cons (pe_ix (ix_X (hu_of hr)) (pv 1) pe_int (fun _ _ => rfl)) (pa_cons (pe_ix (ix_X (hu_of hr)) (pv 1) pe_int (fun _ _ => rfl)) (pa_cons (pe_ix (ix_X (hu_of hr)) (pv 1) pe_int (fun _ _ => rfl)) pa_nil)))))) pss_nil)
    (pss_one (ps_ret (pe_door (i := 0) hT hr hx rfl (.inl rfl) (pa_cons (pe_ix (ix_X (hu_of hr)) (pv 1) pe_int (fun _ _ => rfl)) (pa_cons (pe_ix (ix_X (hu_of hr)) (pv 1) pe_int (fun _ _ => rfl)) (pa_cons (pe_ix (ix_X (hu_of hr)) (pv 1) pe_int (fun _ _ => rfl)) (pa_cons (pe_ix (ix_X (hu_of hr)) (pv 1) pe_int (fun _ _ => rfl)) pa_nil)))))))))
theorem goods_ev {f : Addr} {gs : List D} : ∀ (n i : Nat), gs.length = i + n → EvA K false (goodsA K i n) [some (.sh (.raw (.ref f))), some (.sh (.tup gs))] [] (gs.drop i)
  | 0, i, h => by
    rw [List.drop_of_length_le (by omega)]
    exact ea_nil
  | n + 1, i, h => by
    have hi : i < gs.length := by omega
    rw [List.drop_eq_getElem_cons hi]
    exact ea_cons (ev_op (ev_var rfl) ev_int (rd_ixT (atI_nat (List.getElem?_eq_getElem hi)))) (goods_ev n (i + 1) (by omega))
theorem w__law_call {TD : Doors} : ∀ ds E, ((∃ d, R_call TD ds d) ∨ ∃ c, Y_call TD ds c) → WSX K E false (t__law_call K TD E) (args N__law_call.length ds) [] (fin (R_call TD ds)) (Y_call TD ds) := by
  intro ds E h
  obtain ⟨f, gs, R, Y, rfl, hT, l1, l4, h0⟩ : ∃ f gs R Y, ds = [.raw (.ref f), .tup gs] ∧ TD f = some (R, Y) ∧ 1 ≤ gs.length ∧ gs.length ≤ 4 ∧ ((∃ d, R gs d) ∨ ∃ c, Y gs c) := by
    rcases h with ⟨d, f, gs, R, Y, e, hT, l1, l4, h⟩ | ⟨c, f, gs, R, Y, e, hT, l1, l4, h⟩
    · exact ⟨f, gs, R, Y, e, hT, l1, l4, .inl ⟨d, h⟩⟩
    · exact ⟨f, gs, R, Y, e, hT, l1, l4, .inr ⟨c, h⟩⟩
  have one : ∀ (n : Nat) {Φ : Out → Prop}, gs.length = n → (∀ d, R_call TD [.raw (.ref f), .tup gs] d → Φ (.rt d [])) → WSX K E false (tRet (tDoor 0 (TD.sp K) E (goodsA K 0 n))) [some (.sh (.raw (.ref f))), some (.sh (.tup gs))] [] Φ (Y_call TD [.raw (.ref f), .tup gs]) := fun n Φ hn hΦ =>
    wx_ret (wxe_door (s := false) rfl hT (by have := goods_ev (K := K) (f := f) (gs := gs) n 0 (by omega); rwa [List.drop_zero] at this) h0 (fun d hd => hΦ d ⟨f, gs, R, Y, rfl, hT, l1, l4, hd⟩) (fun c hc => ⟨f, gs, R, Y, rfl, hT, l1, l4, hc⟩))
  have test : ∀ m : Int, EvT K (tTest (tOp (rEqX K) (tCB (rLenX K) (tCons (tVar 1) tNil)) (tC (.int m)))) [some (.sh (.raw (.ref f))), some (.sh (.tup gs))] [] (decide ((gs.length : Int) = m)) := fun m => et_test (s := true) (ev_op (ev_cb (ea_cons (ev_var rfl) ea_nil) rc_lenT) ev_int rd_eq)
  refine wx_seq (wx_if (test 1) (fun e => one 1 (by have := of_decide_eq_true e; omega) fun _ h => h) (fun e1 => wx_of (ws_next ?_)))
  refine wx_seq (wx_if (test 2) (fun e => one 2 (by have := of_decide_eq_true e; omega) fun _ h => h) (fun e2 => wx_of (ws_next ?_)))
  refine wx_seq (wx_if (test 3) (fun e => one 3 (by have := of_decide_eq_true e; omega) fun _ h => h) (fun e3 => wx_of (ws_next ?_)))
  refine one 4 ?_ fun _ h => h
  have := of_decide_eq_false e1
  have := of_decide_eq_false e2
  have := of_decide_eq_false e3
  omega
theorem ax__law_call (T : Top mg) {TD : Doors} (hT : ∀ f sp, TD.sp K f = some sp → Holds2 P w K mg base lvDoor f sp) {f : Addr} {fd : FuncData} (F : Fun K "_law_call" "_law_call" s__law_call f fd) (hm : mg "_law_call" = some (.ref f)) : AvX P w K mg base (lvDoor + 1) "_law_call" ["door", "goods_so"] (spX K (R_call TD) (Y_call TD)) :=
  avx_mk F (ok_exc F sc__law_call (fun ds h => by rcases h with ⟨_, _, _, _, _, e, _⟩ | ⟨_, _, _, _, _, e, _⟩ <;> rw [e] <;> rfl) (fun cdv A outer s H E hr => p__law_call T hT hr) w__law_call) hm (fun _ _ _ _ _ _ us hl => match us, hl with | [_, _], _ => rfl)
/-! ### _law_root -/
abbrev s__law_root : Stmt := topS 40
abbrev N__law_root : List Str := ["square_so", "here", "lap", "later_so"]
theorem sc__law_root : FnScope N__law_root ["square_so"] (defScope s__law_root) := ⟨rfl, rfl, rfl, by decide +kernel, rfl, by decide +kernel, by decide +kernel⟩
abbrev R__law_root : List D → D → Prop := fun ds d => ∃ n : Int, 0 ≤ n ∧ Bd 1000 n ∧ ds = [.int n] ∧ d = .int (isq n)
theorem l__law_root : ∀ ds d, R__law_root ds d → ds.length = 1 := fun _ _ ⟨_, _, _, e, _⟩ => by rw [e]; rfl
theorem u__law_root {n : Int} : ∀ d', R__law_root [.int n] d' → d' = .int (isq n) := fun _ ⟨_, _, _, e, e'⟩ => by cases e; exact e'
theorem c_root {K : PySem.W.Frag} {b : Bool} {E : XK} {t : TA} {ρ : En} {ω : Ow} {n : Int} (h : EvA K b t ρ ω [.int n]) (h1 : 0 ≤ n) (h2 : Bd 1000 n) : Ev K b (tCall (spR K R__law_root) [] E t) ρ ω (.int (isq n)) :=
  ev_call h ⟨n, h1, h2, rfl, rfl⟩ u__law_root
theorem newton {n h : Int} (hn : 0 ≤ n) (hh : 1 ≤ h) (hr : isq n ≤ h) : isq n ≤ (h + n / h) / 2 ∧ (isq n < h → 2 * ((h + n / h) / 2 - isq n) ≤ h - isq n) ∧ (h ≤ (h + n / h) / 2 → h = isq n) := by
  obtain ⟨r0, r1, r2⟩ := isq_spec hn
  generalize isq n = r at *
  have a1 : 2 * r - h ≤ n / h := (le_div (by omega)).mpr (by
    have e : (2 * r - h) * h = r * r - (h - r) * (h - r) := by grind
    have := sq_nn (h - r)
    omega)
  have a2 : r < h → n / h < r + 1 := fun z => (lt_div (by omega)).mpr (by
    have : (r + 1) * (r + 1) ≤ (r + 1) * h := Int.mul_le_mul_of_nonneg_left (by omega) (by omega)
    omega)
  refine ⟨by omega, fun z => ?_, fun z => ?_⟩
  · have := a2 z; omega
  · rcases ilt_or_ge r h with y | y
    · have := a2 y; omega
    · omega
def sp__law_root (K : PySem.W.Frag) : Sp := spR K R__law_root
def t__law_root (K : PySem.W.Frag) : TS := (tSeq (tIfS (tTest (tOp (rEqX K) (tVar 0) (tC (.int 0)))) (tRet (tC (.int 0))) tNext)
    (tSeq (tAsg (tCB rIntX (tCons (tOp (rAddX K) (tC (.str "1")) (tOp rMulX (tC (.str "0")) (tOp rDivX (tOp (rAddX K) (tCB (rLenX K) (tCons (tCB rStrX (tCons (tVar 0) tNil)) tNil)) (tC (.int 2))) (tC (.int 2))))) tNil)) (gName 1))
    (tSeq (tFor (iRng1 (tCons (tC (.int 700)) tNil)) (gName 2) (tSeq (tAsg (tOp rDivX (tOp (rAddX K) (tVar 1) (tOp rDivX (tVar 0) (tVar 1))) (tC (.int 2))) (gName 3))
    (tSeq (tIfS (tTest (tOp rGeX (tVar 3) (tVar 1))) tBreak tNext)
    (tAsg (tVar 3) (gName 1)))))
    (tRet (tVar 1)))))
theorem p__law_root (T : Top mg) {f : Addr} {cdv : Value} {A : Around} {outer : List Env} {s : Shared} {H : Hp} {E : XK} (hr : Room 0 (A.deeper (envOfC "_law_root" (defScope s__law_root) s.heap.objs.size f cdv))) : PSs (cxOf CX0 P w K mg base N__law_root "_law_root" (defScope s__law_root) f cdv A outer s H E).nox (defBody s__law_root) (t__law_root K) :=
  (pss_cons (ps_if (pt_cmpR (op_eqX hr.units) (pv 0) pe_int (nomark _)) (pss_one (ps_ret pe_int)) pss_nil)
    (pss_cons (ps_set (i := 1) sc__law_root.nd rfl (.inl rfl) (pe_callTy cr_intX (by rfl) T.z_int (by decide +kernel) (pa_cons (pe_op op_addX pe_str (pe_op op_mulX pe_str (pe_op op_divX (pe_op op_addX (pe_callB cr_lenX (by rfl) T.z_len (by decide +kernel) (pa_cons (pe_callTy cr_strX (by rfl) T.z_str (by decide +kernel) (pa_cons (pv 0) pa_nil)) pa_nil)) pe_int) pe_int))) pa_nil)))
    (pss_cons (ps_for PassesOwn.never rfl (pi_range1 rfl T.z_range (pa_cons pe_int pa_nil)) (pg_name (i := 2) sc__law_root.nd rfl (.inl rfl)) (pss_cons (ps_set (i := 3) sc__law_root.nd rfl (.inl rfl) (pe_op op_divX (pe_op op_addX (pv 1) (pe_op op_divX (pv 0) (pv 1))) pe_int))
    (pss_cons (ps_if (pt_cmpR op_geX (pv 3) (pv 1) (nomark _)) (pss_one ps_break) pss_nil)
    (pss_one (ps_set (i := 1) sc__law_root.nd rfl (.inl rfl) (pv 3))))))
    (pss_one (ps_ret (pv 1))))))
theorem w__law_root : ∀ ds d, R__law_root ds d → WS K false (t__law_root K) (args N__law_root.length ds) [] (fin (R__law_root ds)) := by
  rintro ds d ⟨n, h0, hb, rfl, rfl⟩
  refine ws_seq (ws_if (et_test (s := true) (ev_op (ev_var rfl) ev_int rd_eq)) (fun e => ?_) (fun hne => ws_next ?_))
  · have e' : n = 0 := by simpa using e
    subst e'
    exact ws_ret (ev_int.to (show D.int 0 = .int (isq 0) from congrArg D.int (isq_unique (by decide) (by decide) (by decide)).symm)) ⟨0, h0, hb, rfl, rfl⟩
  have hn : 1 ≤ n := by
    have : n ≠ 0 := by simpa using hne
    omega
  obtain ⟨m, rfl⟩ : ∃ m : Nat, n = m := ⟨n.toNat, by omega⟩
  have hm : m < 2 ^ 1000 := by
    have : (m : Int).natAbs < 2 ^ 1000 := hb
    rwa [Int.natAbs_natCast] at this
  have hl : (TL.numL m).length ≤ 302 := TL.numL_len (by decide) (Nat.lt_trans hm (by decide +kernel))
  have hd := numL_bound m
  obtain ⟨k, hk⟩ : ∃ k : Nat, ((((TL.numL m).length : Nat) : Int) + 2) / 2 = (k : Int) := ⟨(((((TL.numL m).length : Nat) : Int) + 2) / 2).toNat, by omega⟩
  have k1 : k ≤ 152 := by omega
  have k2 : (TL.numL m).length ≤ k + k := by omega
  obtain ⟨n1, n2⟩ := one_noughts k (by omega)
  refine ws_seq (ws_set (d := .int ((10 : Int) ^ k)) (ev_cb (ea_cons (ev_op ev_str (ev_op ev_str ((ev_op (ev_op (ev_cb (ea_cons (ev_cb (ea_cons (ev_var rfl) ea_nil) (rc_str (hb.log (by decide)))) ea_nil) (rc_lenS (by rw [text_len]; omega))) ev_int rd_add) ev_int (rd_div ((bd_small (by decide) (by decide)).divOk (by decide)))).to (by rw [text_len, hk])) (rd_muls (by omega) (by omega) (by rw [Int.toNat_natCast]; show 1 * k ≤ _; omega))) (rd_adds ?_)) ea_nil) (rc_ints n1 n2)) ?_)
  · have hh : (("1" : Str) ++ Txt.mul ("0" : Str) (k : Int)).length = ("1" : Str).length + (Txt.mul ("0" : Str) (k : Int)).length := Array.size_append
    omega
  have p1 : (1 : Int) ≤ (10 : Int) ^ k := Int.pow_pos (m := k) (by decide)
  have hn0 : (0 : Int) ≤ (m : Int) := by omega
  have i0 : isq (m : Int) ≤ (10 : Int) ^ k := by
    refine Int.le_of_lt ((isq_lt hn0).mpr ⟨by omega, ?_⟩)
    rw [← Int.pow_add]
    have : m < 10 ^ (k + k) := Nat.lt_of_lt_of_le hd (Nat.pow_le_pow_right (by decide) k2)
    have e : ((10 ^ (k + k) : Nat) : Int) = (10 : Int) ^ (k + k) := Int.natCast_pow 10 (k + k)
    omega
  have top : (10 : Int) ^ k < 2 ^ 700 := by
    have : 10 ^ k ≤ 10 ^ 152 := Nat.pow_le_pow_right (by decide) k1
    have e : ((10 ^ k : Nat) : Int) = (10 : Int) ^ k := Int.natCast_pow 10 k
    have z : (10 ^ 152 : Nat) < 2 ^ 700 := by decide +kernel
    have e2 : ((2 ^ 700 : Nat) : Int) = (2 : Int) ^ 700 := Int.natCast_pow 2 700
    omega
  have r1 : 1 ≤ isq (m : Int) := (le_isq hn0).mpr (.inr (by omega))
  have bt : Bd 700 ((10 : Int) ^ k) := by
    unfold Bd
    have e2 : ((2 ^ 700 : Nat) : Int) = (2 : Int) ^ 700 := Int.natCast_pow 2 700
    omega
  have e7 : rng 0 (700 : Int).toNat = rng 0 700 := rfl
  refine ws_seq (ws_for (ei_rng1 (s := true) (ea_cons ev_int ea_nil) (by decide) (by decide))
    (fun i ρ ω => ∃ h y2 y3, ρ = [some (.sh (.int m)), some (.sh (.int h)), y2, y3] ∧ ω = [] ∧ isq m ≤ h ∧ h ≤ (10 : Int) ^ k ∧ (h - isq m) * 2 ^ i ≤ (10 : Int) ^ k) ⟨_, none, none, rfl, rfl, i0, Int.le_refl _, by rw [Int.pow_zero, Int.mul_one]; omega⟩ (fun i d ρ' ω' hd => ?_) (fun ρ' ω' => ?_))
  · rintro ⟨h, y2, y3, rfl, rfl, g1, g2, g3⟩
    obtain ⟨w1, w2, w3⟩ := newton hn0 (show 1 ≤ h by omega) g1
    refine ⟨_, wg_name, ?_⟩
    refine ws_seq (ws_set (ev_op (ev_op (ev_var rfl) (ev_op (ev_var rfl) (ev_var rfl) (rd_div ((bt.le (by omega) g2).divOk (by omega)))) rd_add) ev_int (rd_div ((bd_small (by decide) (by decide)).divOk (by decide)))) ?_)
    refine ws_seq (ws_if (et_test (s := true) (ev_op (ev_var rfl) (ev_var rfl) rd_ge)) (fun e => ws_brk ?_) (fun e => ws_next ?_))
    · have e' : h = isq m := w3 (by simpa using e)
      exact ws_ret ((ev_var rfl).to (congrArg D.int e')) ⟨_, h0, hb, rfl, rfl⟩
    · have e' : (h + m / h) / 2 < h := by simpa using e
      refine ws_set (ev_var rfl) ⟨_, _, _, rfl, rfl, w1, by omega, ?_⟩
      have w := w2 (by omega)
      rw [Int.pow_succ, Int.mul_comm (2 ^ i) 2, ← Int.mul_assoc, Int.mul_comm _ 2]
      exact Int.le_trans (Int.mul_le_mul_of_nonneg_right w (Int.le_of_lt (Int.pow_pos (m := i) (by decide)))) g3
  · rw [rng_len]
    rintro ⟨h, y2, y3, rfl, rfl, g1, g2, g3⟩
    have e' : h = isq m := by
      rcases ilt_or_ge (isq (m : Int)) h with y | y
      · have : 1 * 2 ^ 700 ≤ (h - isq (m : Int)) * 2 ^ 700 := Int.mul_le_mul_of_nonneg_right (by omega) (by decide +kernel)
        have g3' : (h - isq (m : Int)) * 2 ^ 700 ≤ (10 : Int) ^ k := g3
        generalize (2 : Int) ^ 700 = z at *
        omega
      · omega
    exact ws_ret ((ev_var rfl).to (congrArg D.int e')) ⟨_, h0, hb, rfl, rfl⟩
theorem av__law_root (T : Top mg) {f : Addr} {fd : FuncData} (F : Fun K "_law_root" "_law_root" s__law_root f fd) (hm : mg "_law_root" = some (.ref f)) : Av P w K mg base 1 "_law_root" ["square_so"] (sp__law_root K) :=
  av_mk F (ok_pure F sc__law_root (fun ds d h => l__law_root ds d h) (fun cdv A outer s H E hr => p__law_root T hr) w__law_root) hm (fun _ _ _ _ _ _ us hl => match us, hl with | [_], _ => rfl) (fun _ _ _ _ _ _ us hl => match us, hl with | [_], _ => rfl)
/-! ### _law_great -/
abbrev s__law_great : Stmt := topS 41
abbrev N__law_great : List Str := ["tin", "kind_so"]
theorem sc__law_great : FnScope N__law_great ["tin"] (defScope s__law_great) := ⟨rfl, rfl, rfl, by decide +kernel, rfl, by decide +kernel, by decide +kernel⟩
def pre__law_great (xs ds : List D) : Prop := ∃ m, Box m xs ∧ m ≤ 999999990 ∧ ds = []
def R__law_great (xs ds : List D) (d : D) (xs' : List D) : Prop := ∃ r, d = .int r ∧ 0 ≤ r ∧ r < 10 ^ 58 ∧ Nx 4 xs xs'
theorem l__law_great : ∀ xs ds, pre__law_great xs ds → ds.length + 1 = 1 := fun _ _ ⟨_, _, _, e⟩ => by rw [e]; rfl
theorem we_great {K : PySem.W.Frag} {E : XK} {ρ : En} {ω : Ow} {Φ : D → Ow → Prop} {i k m : Nat} {xs : List D} (hi : ρ[i]? = some (some (.ow k))) (hx : ω[k]? = some (.l xs)) (hb : Box m xs) (hm : m ≤ 999999990)
    (q : ∀ r xs', 0 ≤ r → r < 10 ^ 58 → Nx 4 xs xs' → Φ (.int r) (ω.set k (.l xs'))) : WE K (tCall (spT K pre__law_great R__law_great) [] E (tCons (tVar i) tNil)) ρ ω Φ := by
  refine we_callT hi (wa_nil ⟨xs, hx, ⟨m, hb, hm, rfl⟩, fun d xs' ⟨r, e', h3, h4, h5⟩ => ?_⟩)
  subst e'
  exact q r xs' h3 h4 h5
theorem ev_p10 {K : PySem.W.Frag} {s : Bool} {ρ : En} {ω : Ow} {k v : Int} (h : (10 : Int) ^ k.toNat = v) (h0 : 0 ≤ k) (h1 : k ≤ 1000000) : Ev K s (tOp rPowX (tC (.int 10)) (tC (.int k))) ρ ω (.int v) :=
  (ev_op ev_int ev_int (rd_pow ⟨h0, h1, by decide⟩)).to (congrArg D.int h)
def sp__law_great (K : PySem.W.Frag) : Sp := spT K pre__law_great R__law_great
def t__law_great (K : PySem.W.Frag) : TS := (tSeq (tAsg (tCall (sp__law_take K) [] E0 (tCons (tVar 0) (tCons (tC (.int 4)) tNil))) (gName 1))
    (tSeq (tIfS (tTest (tOp (rEqX K) (tVar 1) (tC (.int 0)))) (tRet (tCall (sp__law_take K) [] E0 (tCons (tVar 0) (tCons (tC (.int 30)) tNil)))) tNext)
    (tSeq (tIfS (tTest (tOp (rEqX K) (tVar 1) (tC (.int 1)))) (tRet (tCall (sp__law_take K) [] E0 (tCons (tVar 0) (tCons (tOp rPowX (tC (.int 10)) (tC (.int 6))) tNil)))) tNext)
    (tRet (tOp (rAddX K) (tOp rMulX (tCall (sp__law_take K) [] E0 (tCons (tVar 0) (tCons (tOp rPowX (tC (.int 10)) (tC (.int 8))) tNil))) (tCall (sp__law_of K) [] E0 (tCons (tVar 0) (tCons (tLst (tCons (tC (.int 1)) (tCons (tOp rPowX (tC (.int 10)) (tC (.int 7))) (tCons (tOp rPowX (tC (.int 10)) (tC (.int 20))) (tCons (tOp rPowX (tC (.int 10)) (tC (.int 50))) tNil))))) tNil)))) (tCall (sp__law_take K) [] E0 (tCons (tVar 0) (tCons (tOp rPowX (tC (.int 10)) (tC (.int 6))) tNil))))))))
theorem p__law_great (T : Top mg) (a__law_take : Av P w K mg base 1 "_law_take" ["tin", "below_so"] (sp__law_take K)) (a__law_of : Av P w K mg base 2 "_law_of" ["tin", "goods_so"] (sp__law_of K)) {f : Addr} {cdv : Value} {A : Around} {outer : List Env} {s : Shared} {H : Hp} {E : XK} (hr : Room 2 (A.deeper (envOfC "_law_great" (defScope s__law_great) s.heap.objs.size f cdv))) : PSs (cxOf CX0 P w K mg base N__law_great "_law_great" (defScope s__law_great) f cdv A outer s H E).nox (defBody s__law_great) (t__law_great K) :=
  (pss_cons (ps_set (i := 1) sc__law_great.nd rfl (.inl rfl) (pe_av a__law_take hr rfl (pa_cons (pv 0) (pa_cons pe_int pa_nil))))
    (pss_cons (ps_if (pt_cmpR (op_eqX hr.units) (pv 1) pe_int (nomark _)) (pss_one (ps_ret (pe_av a__law_take hr rfl (pa_cons (pv 0) (pa_cons pe_int pa_nil))))) pss_nil)
    (pss_cons (ps_if (pt_cmpR (op_eqX hr.units) (pv 1) pe_int (nomark _)) (pss_one (ps_ret (pe_av a__law_take hr rfl (pa_cons (pv 0) (pa_cons (pe_op op_powX pe_int pe_int) pa_nil))))) pss_nil)
    (pss_one (ps_ret (pe_op op_addX (pe_op op_mulX (pe_av a__law_take hr rfl (pa_cons (pv 0) (pa_cons (pe_op op_powX pe_int pe_int) pa_nil))) (pe_av a__law_of hr rfl (pa_cons (pv 0) (pa_cons (pe_lst (pa_cons pe_int (pa_cons (pe_op op_powX pe_int pe_int) (pa_cons (pe_op op_powX pe_int pe_int) (pa_cons (pe_op op_powX pe_int pe_int) pa_nil))))) pa_nil)))) (pe_av a__law_take hr rfl (pa_cons (pv 0) (pa_cons (pe_op op_powX pe_int pe_int) pa_nil)))))))))
theorem w__law_great : ∀ xs ds, pre__law_great xs ds → WS K true (t__law_great K) (argsT N__law_great.length ds) [.l xs] (finT (R__law_great xs ds)) := by
  rintro xs ds ⟨m, hb, hm, rfl⟩
  refine ws_seq (ws_setW (we_take rfl ev_int rfl hb (by omega) (by decide) (by decide) fun kind x1 k0 k1 n1 => ?_))
  have b1 := n1 m hb
  refine ws_seq (ws_if (et_test (s := true) (ev_op (ev_var rfl) ev_int rd_eq)) (fun e => ?_) (fun _ => ws_next ?_))
  · exact ws_retW (we_take rfl ev_int rfl b1 (by omega) (by decide) (by decide) fun r x2 r0 r1 n2 => ⟨_, rfl, r, rfl, r0, by omega, (n1.trans n2).mono (by decide)⟩)
  refine ws_seq (ws_if (et_test (s := true) (ev_op (ev_var rfl) ev_int rd_eq)) (fun e => ?_) (fun _ => ws_next ?_))
  · exact ws_retW (we_take rfl (ev_p10 (v := 1000000) (by decide) (by decide) (by decide)) rfl b1 (by omega) (by decide) (by decide) fun r x2 r0 r1 n2 => ⟨_, rfl, r, rfl, r0, by omega, (n1.trans n2).mono (by decide)⟩)
  refine ws_retW (we_op (we_op (we_take rfl (ev_p10 (v := 100000000) (by decide) (by decide) (by decide)) rfl b1 (by omega) (by decide) (by decide) fun r x2 r0 r1 n2 => ?_)))
  have b2 := n2 _ b1
  refine we_of rfl (gs := [.int 1, .int 10000000, .int 100000000000000000000, .int 100000000000000000000000000000000000000000000000000])
    (ev_lst (ea_cons ev_int (ea_cons (ev_p10 (by decide) (by decide) (by decide)) (ea_cons (ev_p10 (by decide) (by decide) (by decide)) (ea_cons (ev_p10 (by decide) (by decide) (by decide)) ea_nil))))) rfl b2 (by omega) (by decide) (by decide) fun j d x3 hj n3 => ?_
  have b3 := n3 _ b2
  obtain ⟨u, rfl, u0, u1⟩ : ∃ u : Int, d = .int u ∧ 0 ≤ u ∧ u ≤ 100000000000000000000000000000000000000000000000000 := by
    match j, hj with
    | 0, h => exact ⟨_, (Option.some.inj h).symm, by decide, by decide⟩
    | 1, h => exact ⟨_, (Option.some.inj h).symm, by decide, by decide⟩
    | 2, h => exact ⟨_, (Option.some.inj h).symm, by decide, by decide⟩
    | 3, h => exact ⟨_, (Option.some.inj h).symm, by decide, by decide⟩
    | j + 4, h => simp at h
  refine ⟨.int (r * u), rd_mul (mul_l (by omega) (by omega)), ?_⟩
  refine we_take rfl (ev_p10 (v := 1000000) (by decide) (by decide) (by decide)) rfl b3 (by omega) (by decide) (by decide) fun q x4 q0 q1 n4 => ?_
  have h1 : 0 ≤ r * u := Int.mul_nonneg r0 u0
  have h2 : r * u ≤ 99999999 * 100000000000000000000000000000000000000000000000000 := Int.le_trans (Int.mul_le_mul_of_nonneg_left u1 r0) (Int.mul_le_mul_of_nonneg_right (by omega) (by decide))
  exact ⟨.int (r * u + q), rd_add, _, rfl, r * u + q, rfl, by omega, by omega, ((n1.trans n2).trans (n3.trans n4)).mono (by decide)⟩
theorem av__law_great (T : Top mg) (a__law_take : Av P w K mg base 1 "_law_take" ["tin", "below_so"] (sp__law_take K)) (a__law_of : Av P w K mg base 2 "_law_of" ["tin", "goods_so"] (sp__law_of K)) {f : Addr} {fd : FuncData} (F : Fun K "_law_great" "_law_great" s__law_great f fd) (hm : mg "_law_great" = some (.ref f)) : Av P w K mg base 3 "_law_great" ["tin"] (sp__law_great K) :=
  av_mk F (ok_own F sc__law_great (fun xs ds h => l__law_great xs ds h) (fun cdv A outer s H E hr => p__law_great T a__law_take a__law_of hr) w__law_great) hm (fun _ _ _ _ _ _ us hl => match us, hl with | [_], _ => rfl) (fun _ _ _ _ _ _ us hl => match us, hl with | [_], _ => rfl)
/-! ### _law_leads -/
abbrev s__law_leads : Stmt := topS 42
abbrev N__law_leads : List Str := ["slack_so", "here", "later_so", "one_so", "two"]
theorem sc__law_leads : FnScope N__law_leads ["slack_so", "here", "later_so"] (defScope s__law_leads) := ⟨rfl, rfl, rfl, by decide +kernel, rfl, by decide +kernel, by decide +kernel⟩
def bdP (p : ZZ) : Prop := Bd 9000 p.1 ∧ Bd 9000 p.2
abbrev R__law_leads : List D → D → Prop := fun ds d => ∃ (s : Int) (p q : ZZ), bdP p ∧ bdP q ∧ ds = [.int s, pD p, pD q] ∧ d = .bl (leadsF s p q)
theorem l__law_leads : ∀ ds d, R__law_leads ds d → ds.length = 3 := fun _ _ ⟨_, _, _, _, _, e, _⟩ => by rw [e]; rfl
theorem u__law_leads {s : Int} {p q : ZZ} : ∀ d', R__law_leads [.int s, pD p, pD q] d' → d' = .bl (leadsF s p q) := fun _ ⟨s', p', q', _, _, e, e'⟩ => by
  injection e with a e
  injection e with b e
  injection e with c _
  injection a with a
  rw [e', a, pD_inj.mp b, pD_inj.mp c]
theorem c__law_leads {K : PySem.W.Frag} {b : Bool} {E : XK} {t : TA} {ρ : En} {ω : Ow} {s : Int} {p q : ZZ} (h : EvA K b t ρ ω [.int s, pD p, pD q]) (hp : bdP p) (hq : bdP q) : Ev K b (tCall (spR K R__law_leads) [] E t) ρ ω (.bl (leadsF s p q)) := ev_call h ⟨s, p, q, hp, hq, rfl, rfl⟩ u__law_leads
theorem own_no {s : Int} {p q : ZZ} (h : (decide (p.1 - q.1 < 0) || (decide (p.2 - q.2 < 0) || decide (p.1 - q.1 + (p.2 - q.2) = 0))) = true) : leadsF s p q = false := by
  cases e : leadsF s p q with
  | false => rfl
  | true =>
    have := leads_iff.mp e
    simp only [Bool.or_eq_true, decide_eq_true_eq] at h
    omega
theorem own_yes {s : Int} {p q : ZZ} (h : (decide (p.1 - q.1 < 0) || (decide (p.2 - q.2 < 0) || decide (p.1 - q.1 + (p.2 - q.2) = 0))) = false) : leadsF s p q = (decide ((p.1 - q.1) * (p.2 - q.2) = 0) || decide (max (p.1 - q.1) (p.2 - q.2) - min (p.1 - q.1) (p.2 - q.2) < s)) := by
  simp only [Bool.or_eq_false_iff, decide_eq_false_iff_not] at h
  unfold leadsF
  rw [decide_eq_true (show 0 ≤ p.1 - q.1 by omega), decide_eq_true (show 0 ≤ p.2 - q.2 by omega), decide_eq_false h.2.2]
  show ((decide (p.1 - q.1 = 0) || decide (p.2 - q.2 = 0)) || _) = _
  congr 1
  · rw [← Bool.decide_or]
    exact decide_eq_decide.mpr Int.mul_eq_zero.symm
  · refine decide_eq_decide.mpr ?_
    unfold absI
    split <;> omega
def sp__law_leads (K : PySem.W.Frag) : Sp := spR K R__law_leads
def t__law_leads (K : PySem.W.Frag) : TS := (tSeq (tPar 3 4 (tCons (tOp rSubX (tOp (rIxX K) (tVar 1) (tC (.int 0))) (tOp (rIxX K) (tVar 2) (tC (.int 0)))) (tCons (tOp rSubX (tOp (rIxX K) (tVar 1) (tC (.int 1))) (tOp (rIxX K) (tVar 2) (tC (.int 1)))) tNil)))
    (tSeq (tIfS (tOr (tTest (tOp rLtX (tVar 3) (tC (.int 0)))) (tOr (tTest (tOp rLtX (tVar 4) (tC (.int 0)))) (tTest (tOp (rEqX K) (tOp (rAddX K) (tVar 3) (tVar 4)) (tC (.int 0)))))) (tRet (tC (.bl false))) tNext)
    (tRet (tOrT K (tOp (rEqX K) (tOp rMulX (tVar 3) (tVar 4)) (tC (.int 0))) (tOp rLtX (tOp rSubX (tCB (rMaxY K) (tCons (tVar 3) (tCons (tVar 4) tNil))) (tCB (rMinY K) (tCons (tVar 3) (tCons (tVar 4) tNil)))) (tVar 0))))))
theorem p__law_leads (T : Top mg) {f : Addr} {cdv : Value} {A : Around} {outer : List Env} {s : Shared} {H : Hp} {E : XK} (hr : Room 0 (A.deeper (envOfC "_law_leads" (defScope s__law_leads) s.heap.objs.size f cdv))) : PSs (cxOf CX0 P w K mg base N__law_leads "_law_leads" (defScope s__law_leads) f cdv A outer s H E).nox (defBody s__law_leads) (t__law_leads K) :=
  (pss_cons (ps_par (i := 3) (j := 4) rfl sc__law_leads.nd rfl rfl (by decide) rfl rfl (pa_cons (pe_op op_subX (pe_ix (ix_X (hu_of hr)) (pv 1) pe_int (fun _ _ => rfl)) (pe_ix (ix_X (hu_of hr)) (pv 2) pe_int (fun _ _ => rfl))) (pa_cons (pe_op op_subX (pe_ix (ix_X (hu_of hr)) (pv 1) pe_int (fun _ _ => rfl)) (pe_ix (ix_X (hu_of hr)) (pv 2) pe_int (fun _ _ => rfl))) pa_nil)) (by rfl))
    (pss_cons (ps_if (PW.pt (pw_or (pt_cmpR op_ltX (pv 3) pe_int (nomark _)) (pw_or (pt_cmpR op_ltX (pv 4) pe_int (nomark _)) (pw_or1 (pt_cmpR (op_eqX hr.units) (pe_op op_addX (pv 3) (pv 4)) pe_int (nomark _)))))) (pss_one (ps_ret pe_bl)) pss_nil)
    (pss_one (ps_ret (pe_orT (pe_cmpR (op_eqX hr.units) (pe_op op_mulX (pv 3) (pv 4)) pe_int (nomark _)) (pe_one (pe_cmpR op_ltX (pe_op op_subX (pe_callB (cr_maxY rfl (hu_of hr)) (by rfl) T.z_max (by decide +kernel) (pa_cons (pv 3) (pa_cons (pv 4) pa_nil))) (pe_callB (cr_minY rfl (hu_of hr)) (by rfl) T.z_min (by decide +kernel) (pa_cons (pv 3) (pa_cons (pv 4) pa_nil)))) (pv 0) (nomark _))))))))
theorem w__law_leads : ∀ ds d, R__law_leads ds d → WS K false (t__law_leads K) (args N__law_leads.length ds) [] (fin (R__law_leads ds)) := by
  rintro ds d ⟨s, p, q, hp, hq, rfl, rfl⟩
  refine ws_seq (ws_par (en_ev (ev_op (ev_op (ev_var rfl) ev_int (rd_ixT rfl)) (ev_op (ev_var rfl) ev_int (rd_ixT rfl)) rd_sub)) (en_ev (ev_op (ev_op (ev_var rfl) ev_int (rd_ixT rfl)) (ev_op (ev_var rfl) ev_int (rd_ixT rfl)) rd_sub)) ?_)
  refine ws_seq (ws_if (et_or (et_test (s := true) (ev_op (ev_var rfl) ev_int rd_lt)) (fun _ => et_or (et_test (s := true) (ev_op (ev_var rfl) ev_int rd_lt)) (fun _ => et_test (s := true) (ev_op (ev_op (ev_var rfl) (ev_var rfl) rd_add) ev_int rd_eq)))) (fun h => ?_) (fun h => ws_next ?_))
  · exact ws_ret ev_bl ⟨s, p, q, hp, hq, rfl, by rw [own_no h]⟩
  · exact ws_ret (ev_or (ev_op (ev_op (ev_var rfl) (ev_var rfl) (rd_mul ((hp.1.sub hq.1).ok (hp.2.sub hq.2)))) ev_int rd_eq) (fun _ => ev_op (ev_op (ev_cb (ea_cons (ev_var rfl) (ea_cons (ev_var rfl) ea_nil)) rc_maxY) (ev_cb (ea_cons (ev_var rfl) (ea_cons (ev_var rfl) ea_nil)) rc_minY) rd_sub) (ev_var rfl) rd_lt)) ⟨s, p, q, hp, hq, rfl, by rw [own_yes h]⟩
theorem av__law_leads (T : Top mg) {f : Addr} {fd : FuncData} (F : Fun K "_law_leads" "_law_leads" s__law_leads f fd) (hm : mg "_law_leads" = some (.ref f)) : Av P w K mg base 1 "_law_leads" ["slack_so", "here", "later_so"] (sp__law_leads K) :=
  av_mk F (ok_pure F sc__law_leads (fun ds d h => l__law_leads ds d h) (fun cdv A outer s H E hr => p__law_leads T hr) w__law_leads) hm (fun _ _ _ _ _ _ us hl => match us, hl with | [_, _, _], _ => rfl) (fun _ _ _ _ _ _ us hl => match us, hl with | [_, _, _], _ => rfl)
/-! ### _law_low -/
abbrev s__law_low : Stmt := topS 43
abbrev N__law_low : List Str := ["slack_so", "k"]
theorem sc__law_low : FnScope N__law_low ["slack_so", "k"] (defScope s__law_low) := ⟨rfl, rfl, rfl, by decide +kernel, rfl, by decide +kernel, by decide +kernel⟩
abbrev R__law_low : List D → D → Prop := fun ds d => ∃ s n, 1 ≤ s ∧ s ≤ 50 ∧ 0 ≤ n ∧ Bd 400 n ∧ ds = [.int s, .int n] ∧ d = .int (lowF s n)
theorem l__law_low : ∀ ds d, R__law_low ds d → ds.length = 2 := fun _ _ ⟨_, _, _, _, _, _, e, _⟩ => by rw [e]; rfl
theorem u__law_low {s n : Int} : ∀ d', R__law_low [.int s, .int n] d' → d' = .int (lowF s n) := fun _ ⟨_, _, _, _, _, _, e, e'⟩ => by cases e; exact e'
theorem c__law_low {K : PySem.W.Frag} {b : Bool} {E : XK} {t : TA} {ρ : En} {ω : Ow} {s v : Int} (h : EvA K b t ρ ω [.int s, .int v]) (h1 : 1 ≤ s) (h2 : s ≤ 50) (h3 : 0 ≤ v) (h4 : Bd 400 v) : Ev K b (tCall (spR K R__law_low) [] E t) ρ ω (.int (lowF s v)) :=
  ev_call h ⟨s, v, h1, h2, h3, h4, rfl, rfl⟩ u__law_low
def sp__law_low (K : PySem.W.Frag) : Sp := spR K R__law_low
def t__law_low (K : PySem.W.Frag) : TS := (tRet (tOp rDivX (tOp (rAddX K) (tOp rMulX (tVar 1) (tOp rSubX (tC (.int 2)) (tVar 0))) (tCall (sp__law_root K) [] E0 (tCons (tOp rMulX (tOp rMulX (tVar 1) (tVar 1)) (tOp (rAddX K) (tOp rMulX (tVar 0) (tVar 0)) (tC (.int 4)))) tNil))) (tC (.int 2))))
theorem p__law_low (T : Top mg) (a__law_root : Av P w K mg base 1 "_law_root" ["square_so"] (sp__law_root K)) {f : Addr} {cdv : Value} {A : Around} {outer : List Env} {s : Shared} {H : Hp} {E : XK} (hr : Room 1 (A.deeper (envOfC "_law_low" (defScope s__law_low) s.heap.objs.size f cdv))) : PSs (cxOf CX0 P w K mg base N__law_low "_law_low" (defScope s__law_low) f cdv A outer s H E).nox (defBody s__law_low) (t__law_low K) :=
  (pss_one (ps_ret (pe_op op_divX (pe_op op_addX (pe_op op_mulX (pv 1) (pe_op op_subX pe_int (pv 0))) (pe_av a__law_root hr rfl (pa_cons (pe_op op_mulX (pe_op op_mulX (pv 1) (pv 1)) (pe_op op_addX (pe_op op_mulX (pv 0) (pv 0)) pe_int)) pa_nil))) pe_int)))
theorem w__law_low : ∀ ds d, R__law_low ds d → WS K false (t__law_low K) (args N__law_low.length ds) [] (fin (R__law_low ds)) := by
  rintro ds d ⟨s, n, h1, h2, h3, h4, rfl, rfl⟩
  have hs : Bd 30 s := bd_small (by omega) (by omega)
  have hq : Bd 61 (s * s + 4) := (hs.mul hs).add ((bd_small (by decide) (by decide)).mono (by decide))
  refine ws_ret (ev_op (ev_op (ev_op (ev_var rfl) (ev_op ev_int (ev_var rfl) rd_sub) (rd_mul (mul_r (by omega) (by omega)))) (c_root (ea_cons (ev_op (ev_op (ev_var rfl) (ev_var rfl) (rd_mul (h4.ok h4))) (ev_op (ev_op (ev_var rfl) (ev_var rfl) (rd_mul (hs.ok hs))) ev_int rd_add) (rd_mul ((h4.mul h4).ok hq))) ea_nil) (disc_nn s n) (((h4.mul h4).mul hq).mono (by decide))) rd_add) ev_int (rd_div ((bd_small (by decide) (by decide)).divOk (by decide)))) ⟨s, n, h1, h2, h3, h4, rfl, rfl⟩
theorem av__law_low (T : Top mg) (a__law_root : Av P w K mg base 1 "_law_root" ["square_so"] (sp__law_root K)) {f : Addr} {fd : FuncData} (F : Fun K "_law_low" "_law_low" s__law_low f fd) (hm : mg "_law_low" = some (.ref f)) : Av P w K mg base 2 "_law_low" ["slack_so", "k"] (sp__law_low K) :=
  av_mk F (ok_pure F sc__law_low (fun ds d h => l__law_low ds d h) (fun cdv A outer s H E hr => p__law_low T a__law_root hr) w__law_low) hm (fun _ _ _ _ _ _ us hl => match us, hl with | [_, _], _ => rfl) (fun _ _ _ _ _ _ us hl => match us, hl with | [_, _], _ => rfl)
/-! ### _law_low_number -/
abbrev s__law_low_number : Stmt := topS 44
abbrev N__law_low_number : List Str := ["slack_so", "value_so", "more_so"]
theorem sc__law_low_number : FnScope N__law_low_number ["slack_so", "value_so"] (defScope s__law_low_number) := ⟨rfl, rfl, rfl, by decide +kernel, rfl, by decide +kernel, by decide +kernel⟩
abbrev R__law_low_number : List D → D → Prop := fun ds d => ∃ s n, 1 ≤ s ∧ s ≤ 50 ∧ 0 ≤ n ∧ Bd 399 n ∧ ds = [.int s, .int n] ∧ d = .int (cntF s n)
theorem l__law_low_number : ∀ ds d, R__law_low_number ds d → ds.length = 2 := fun _ _ ⟨_, _, _, _, _, _, e, _⟩ => by rw [e]; rfl
theorem u__law_low_number {s n : Int} : ∀ d', R__law_low_number [.int s, .int n] d' → d' = .int (cntF s n) := fun _ ⟨_, _, _, _, _, _, e, e'⟩ => by cases e; exact e'
theorem c__law_low_number {K : PySem.W.Frag} {b : Bool} {E : XK} {t : TA} {ρ : En} {ω : Ow} {s v : Int} (h : EvA K b t ρ ω [.int s, .int v]) (h1 : 1 ≤ s) (h2 : s ≤ 50) (h3 : 0 ≤ v) (h4 : Bd 399 v) : Ev K b (tCall (spR K R__law_low_number) [] E t) ρ ω (.int (cntF s v)) :=
  ev_call h ⟨s, v, h1, h2, h3, h4, rfl, rfl⟩ u__law_low_number
def sp__law_low_number (K : PySem.W.Frag) : Sp := spR K R__law_low_number
def t__law_low_number (K : PySem.W.Frag) : TS := (tSeq (tAsg (tOp (rAddX K) (tVar 1) (tC (.int 1))) (gName 2))
    (tRet (tOp rDivX (tOp (rAddX K) (tOp rMulX (tVar 2) (tOp rSubX (tVar 0) (tC (.int 2)))) (tCall (sp__law_root K) [] E0 (tCons (tOp rMulX (tOp rMulX (tVar 2) (tVar 2)) (tOp (rAddX K) (tOp rMulX (tVar 0) (tVar 0)) (tC (.int 4)))) tNil))) (tOp rMulX (tC (.int 2)) (tVar 0)))))
theorem p__law_low_number (T : Top mg) (a__law_root : Av P w K mg base 1 "_law_root" ["square_so"] (sp__law_root K)) {f : Addr} {cdv : Value} {A : Around} {outer : List Env} {s : Shared} {H : Hp} {E : XK} (hr : Room 1 (A.deeper (envOfC "_law_low_number" (defScope s__law_low_number) s.heap.objs.size f cdv))) : PSs (cxOf CX0 P w K mg base N__law_low_number "_law_low_number" (defScope s__law_low_number) f cdv A outer s H E).nox (defBody s__law_low_number) (t__law_low_number K) :=
  (pss_cons (ps_set (i := 2) sc__law_low_number.nd rfl (.inl rfl) (pe_op op_addX (pv 1) pe_int))
    (pss_one (ps_ret (pe_op op_divX (pe_op op_addX (pe_op op_mulX (pv 2) (pe_op op_subX (pv 0) pe_int)) (pe_av a__law_root hr rfl (pa_cons (pe_op op_mulX (pe_op op_mulX (pv 2) (pv 2)) (pe_op op_addX (pe_op op_mulX (pv 0) (pv 0)) pe_int)) pa_nil))) (pe_op op_mulX pe_int (pv 0))))))
theorem w__law_low_number : ∀ ds d, R__law_low_number ds d → WS K false (t__law_low_number K) (args N__law_low_number.length ds) [] (fin (R__law_low_number ds)) := by
  rintro ds d ⟨s, n, h1, h2, h3, h5, rfl, rfl⟩
  have hs : Bd 30 s := bd_small (by omega) (by omega)
  have hq : Bd 61 (s * s + 4) := (hs.mul hs).add ((bd_small (by decide) (by decide)).mono (by decide))
  have h4 : Bd 400 (n + 1) := h5.add ((bd_small (by decide) (by decide)).mono (by decide))
  refine ws_seq (ws_set (ev_op (ev_var rfl) ev_int rd_add) ?_)
  refine ws_ret (ev_op (ev_op (ev_op (ev_var rfl) (ev_op (ev_var rfl) ev_int rd_sub) (rd_mul (mul_r (by omega) (by omega)))) (c_root (ea_cons (ev_op (ev_op (ev_var rfl) (ev_var rfl) (rd_mul (h4.ok h4))) (ev_op (ev_op (ev_var rfl) (ev_var rfl) (rd_mul (hs.ok hs))) ev_int rd_add) (rd_mul ((h4.mul h4).ok hq))) ea_nil) (disc_nn s (n + 1)) (((h4.mul h4).mul hq).mono (by decide))) rd_add) (ev_op ev_int (ev_var rfl) (rd_mul (mul_l (by decide) (by decide)))) (rd_div (Bd.divOk (n := 30) (bd_small (by omega) (by omega)) (by omega)))) ⟨s, n, h1, h2, h3, h5, rfl, rfl⟩
theorem av__law_low_number (T : Top mg) (a__law_root : Av P w K mg base 1 "_law_root" ["square_so"] (sp__law_root K)) {f : Addr} {fd : FuncData} (F : Fun K "_law_low_number" "_law_low_number" s__law_low_number f fd) (hm : mg "_law_low_number" = some (.ref f)) : Av P w K mg base 2 "_law_low_number" ["slack_so", "value_so"] (sp__law_low_number K) :=
  av_mk F (ok_pure F sc__law_low_number (fun ds d h => l__law_low_number ds d h) (fun cdv A outer s H E hr => p__law_low_number T a__law_root hr) w__law_low_number) hm (fun _ _ _ _ _ _ us hl => match us, hl with | [_, _], _ => rfl) (fun _ _ _ _ _ _ us hl => match us, hl with | [_, _], _ => rfl)
/-! ### _law_pair_with -/
abbrev s__law_pair_with : Stmt := topS 45
abbrev N__law_pair_with : List Str := ["slack_so", "value_so", "k"]
theorem sc__law_pair_with : FnScope N__law_pair_with ["slack_so", "value_so"] (defScope s__law_pair_with) := ⟨rfl, rfl, rfl, by decide +kernel, rfl, by decide +kernel, by decide +kernel⟩
abbrev R__law_pair_with : List D → D → Prop := fun ds d => ∃ s n, 1 ≤ s ∧ s ≤ 50 ∧ 0 ≤ n ∧ Bd 399 n ∧ ds = [.int s, .int n] ∧ d = .int (pwF s n)
theorem l__law_pair_with : ∀ ds d, R__law_pair_with ds d → ds.length = 2 := fun _ _ ⟨_, _, _, _, _, _, e, _⟩ => by rw [e]; rfl
theorem u__law_pair_with {s n : Int} : ∀ d', R__law_pair_with [.int s, .int n] d' → d' = .int (pwF s n) := fun _ ⟨_, _, _, _, _, _, e, e'⟩ => by cases e; exact e'
theorem c__law_pair_with {K : PySem.W.Frag} {b : Bool} {E : XK} {t : TA} {ρ : En} {ω : Ow} {s v : Int} (h : EvA K b t ρ ω [.int s, .int v]) (h1 : 1 ≤ s) (h2 : s ≤ 50) (h3 : 0 ≤ v) (h4 : Bd 399 v) : Ev K b (tCall (spR K R__law_pair_with) [] E t) ρ ω (.int (pwF s v)) :=
  ev_call h ⟨s, v, h1, h2, h3, h4, rfl, rfl⟩ u__law_pair_with
def sp__law_pair_with (K : PySem.W.Frag) : Sp := spR K R__law_pair_with
def t__law_pair_with (K : PySem.W.Frag) : TS := (tSeq (tAsg (tCall (sp__law_low_number K) [] E0 (tCons (tVar 0) (tCons (tVar 1) tNil))) (gName 2))
    (tRet (tIf (tTest (tOp (rEqX K) (tCall (sp__law_low K) [] E0 (tCons (tVar 0) (tCons (tVar 2) tNil))) (tVar 1))) (tVar 2) (tOp rSubX (tVar 1) (tVar 2)))))
theorem p__law_pair_with (T : Top mg) (a__law_low_number : Av P w K mg base 2 "_law_low_number" ["slack_so", "value_so"] (sp__law_low_number K)) (a__law_low : Av P w K mg base 2 "_law_low" ["slack_so", "k"] (sp__law_low K)) {f : Addr} {cdv : Value} {A : Around} {outer : List Env} {s : Shared} {H : Hp} {E : XK} (hr : Room 2 (A.deeper (envOfC "_law_pair_with" (defScope s__law_pair_with) s.heap.objs.size f cdv))) : PSs (cxOf CX0 P w K mg base N__law_pair_with "_law_pair_with" (defScope s__law_pair_with) f cdv A outer s H E).nox (defBody s__law_pair_with) (t__law_pair_with K) :=
  (pss_cons (ps_set (i := 2) sc__law_pair_with.nd rfl (.inl rfl) (pe_av a__law_low_number hr rfl (pa_cons (pv 0) (pa_cons (pv 1) pa_nil))))
    (pss_one (ps_ret (pe_ifExp (pt_cmpR (op_eqX hr.units) (pe_av a__law_low hr rfl (pa_cons (pv 0) (pa_cons (pv 2) pa_nil))) (pv 1) (nomark _)) (pv 2) (pe_op op_subX (pv 1) (pv 2))))))
theorem w__law_pair_with : ∀ ds d, R__law_pair_with ds d → WS K false (t__law_pair_with K) (args N__law_pair_with.length ds) [] (fin (R__law_pair_with ds)) := by
  rintro ds d ⟨s, v, h1, h2, h3, h4, rfl, rfl⟩
  have c0 := cnt_nn h1 h3
  have c1 := cnt_le h1 h3
  refine ws_seq (ws_set (c__law_low_number (ea_cons (ev_var rfl) (ea_cons (ev_var rfl) ea_nil)) h1 h2 h3 h4) ?_)
  refine ws_ret (ev_if (et_test (s := false) (ev_op (c__law_low (ea_cons (ev_var rfl) (ea_cons (ev_var rfl) ea_nil)) h1 h2 c0 ((h4.mono (by decide)).le c0 c1)) (ev_var rfl) rd_eq)) (fun _ => ev_var rfl) (fun _ => ev_op (ev_var rfl) (ev_var rfl) rd_sub)) ⟨s, v, h1, h2, h3, h4, rfl, ?_⟩
  show _ = D.int (if lowF s (cntF s v) = v then cntF s v else v - cntF s v)
  by_cases e : lowF s (cntF s v) = v
  · rw [if_pos e, if_pos (decide_eq_true e)]
  · rw [if_neg e, if_neg (by rw [decide_eq_false e]; decide)]
theorem av__law_pair_with (T : Top mg) (a__law_low_number : Av P w K mg base 2 "_law_low_number" ["slack_so", "value_so"] (sp__law_low_number K)) (a__law_low : Av P w K mg base 2 "_law_low" ["slack_so", "k"] (sp__law_low K)) {f : Addr} {fd : FuncData} (F : Fun K "_law_pair_with" "_law_pair_with" s__law_pair_with f fd) (hm : mg "_law_pair_with" = some (.ref f)) : Av P w K mg base 3 "_law_pair_with" ["slack_so", "value_so"] (sp__law_pair_with K) :=
  av_mk F (ok_pure F sc__law_pair_with (fun ds d h => l__law_pair_with ds d h) (fun cdv A outer s H E hr => p__law_pair_with T a__law_low_number a__law_low hr) w__law_pair_with) hm (fun _ _ _ _ _ _ us hl => match us, hl with | [_, _], _ => rfl) (fun _ _ _ _ _ _ us hl => match us, hl with | [_, _], _ => rfl)
/-! ### _law_refused -/
abbrev s__law_refused : Stmt := topS 46
abbrev N__law_refused : List Str := ["door", "goods_so", "wished", "caught", "told_so", "slip_so"]
theorem sc__law_refused : FnScope N__law_refused ["door", "goods_so", "wished"] (defScope s__law_refused) := ⟨rfl, rfl, rfl, by decide +kernel, rfl, by decide +kernel, by decide +kernel⟩
/-- the kind that the clauses tell -/
def slipOf : Nat → Str
  | 0 => "cannot" | 1 => "many" | _ => "unfit"
abbrev R__law_refused (ad : Nat → Addr) : List D → D → Prop := fun ds d => ∃ f gs R Y, ∃ n : Nat, n < 3 ∧ ds = [.raw (.ref f), .tup gs, .str (slipOf n)] ∧ doors ad f = some (R, Y) ∧ 1 ≤ gs.length ∧ gs.length ≤ 4 ∧ (∀ d, ¬ R gs d) ∧ (∃ c, Y gs c) ∧ (∀ c, Y gs c → c = .ref (ad n)) ∧ d = .bl true
def sp__law_refused (K : PySem.W.Frag) (ad : Nat → Addr) : Sp := spR K (R__law_refused ad)
def slips (K : PySem.W.Frag) (ad : Nat → Addr) : List Clause := [(.ref (ad 0), 5, tSay K 5 3 "cannot"), (.ref (ad 1), 5, tSay K 5 3 "many"), (.ref (ad 2), 5, tSay K 5 3 "unfit")]
def t__law_refused (K : PySem.W.Frag) (ad : Nat → Addr) : TS := tSeq (tAsg (tTup (tCons (tC .non) (tCons (tC .non) tNil))) (gTup K 2 (gCons (gName 3) (gCons (gName 4) gNil))))
  (tSeq (tTry K (spX K (R_call (doors ad)) (Y_call (doors ad))) (tCons (tVar 0) (tCons (tVar 1) tNil)) 4 (slips K ad))
  (tRet (tAndT K (tOp rIsX (tVar 4) (tC .non)) (tOp (rEqX K) (tVar 3) (tVar 2)))))
theorem p__law_refused (T : Top mg) (G : Ad K mg ad) (a : AvX P w K mg base (lvDoor + 1) "_law_call" ["door", "goods_so"] (spX K (R_call (doors ad)) (Y_call (doors ad)))) {f : Addr} {cdv : Value} {A : Around} {outer : List Env} {s : Shared} {H : Hp} {E : XK} (hr : Room (lvDoor + 1) (A.deeper (envOfC "_law_refused" (defScope s__law_refused) s.heap.objs.size f cdv))) : PSs (cxOf CX0 P w K mg base N__law_refused "_law_refused" (defScope s__law_refused) f cdv A outer s H E).nox (defBody s__law_refused) (t__law_refused K ad) :=
  pss_cons (ps_asg (pe_tup (pa_cons pe_non (pa_cons pe_non pa_nil))) (pg_tup rfl (pgs_cons (pg_name (i := 3) sc__law_refused.nd rfl (.inl rfl)) (pgs_cons (pg_name (i := 4) sc__law_refused.nd rfl (.inl rfl)) pgs_nil))))
    (pss_cons (ps_clauses rfl rfl sc__law_refused.nd takes_none5 (tb := fun V => tAsg (tCallS (spX K (R_call (doors ad)) (Y_call (doors ad))) (L2.WE V) (tCons (tVar 0) (tCons (tVar 1) tNil))) (gName 4))
      (fun V pn xe tk pass => pss_one (ps_set (i := 4) sc__law_refused.nd rfl (.inl rfl) (pe_avxS a hr (fun σ => passAt tk σ) (by rfl) (pa_cons (pv 0) (pa_cons (pv 1) pa_nil)))))
      (.cons (i := 5) (ts := tSay K 5 3 "cannot") ⟨by rfl, by decide, .inl G.e_CanNot.g⟩ rfl rfl (fun x oe cls d pn hz hf => ps_say fun C e1 e2 ex => by
          subst e1 e2
          exact pss_one (ps_set (i := 3) sc__law_refused.nd rfl (.inl rfl) (pe_ifExp (pt_tru (pe_callB (call_isE ex hz hf) (by rfl) T.z_isinstance (by decide +kernel) (pa_cons (pv 5) (pa_cons (pe_bltn (v := .ty "ValueError") (by rfl) T.z_ValueError (by decide +kernel) rfl) pa_nil)))) pe_str pe_non)))
      (.cons (i := 5) (ts := tSay K 5 3 "many") ⟨by rfl, by decide, .inl G.e_TooMany.g⟩ rfl rfl (fun x oe cls d pn hz hf => ps_say fun C e1 e2 ex => by
          subst e1 e2
          exact pss_one (ps_set (i := 3) sc__law_refused.nd rfl (.inl rfl) (pe_ifExp (pt_tru (pe_callB (call_isE ex hz hf) (by rfl) T.z_isinstance (by decide +kernel) (pa_cons (pv 5) (pa_cons (pe_bltn (v := .ty "ValueError") (by rfl) T.z_ValueError (by decide +kernel) rfl) pa_nil)))) pe_str pe_non)))
      (.cons (i := 5) (ts := tSay K 5 3 "unfit") ⟨by rfl, by decide, .inl G.e_Unfit.g⟩ rfl rfl (fun x oe cls d pn hz hf => ps_say fun C e1 e2 ex => by
          subst e1 e2
          exact pss_one (ps_set (i := 3) sc__law_refused.nd rfl (.inl rfl) (pe_ifExp (pt_tru (pe_callB (call_isE ex hz hf) (by rfl) T.z_isinstance (by decide +kernel) (pa_cons (pv 5) (pa_cons (pe_bltn (v := .ty "ValueError") (by rfl) T.z_ValueError (by decide +kernel) rfl) pa_nil)))) pe_str pe_non))) .nil))))
    (pss_one (ps_ret (pe_andT (pe_cmpR op_isX (pv 4) pe_non (nomark _)) (pe_one (pe_cmpR (op_eqX hr.units) (pv 3) (pv 2) (nomark _)))))))
theorem exm_at {m n : Nat} (G : Ad K mg ad) (hm : m < 3) (hn : n < 3) : PySem.W.exmOne K (.ref (ad m)) (.ref (ad n)) = some (decide (m = n)) := by
  match m, n, hm, hn with
  | 0, 0, _, _ => exact exm_ref G.e_CanNot.sb G.e_CanNot.hd G.e_CanNot.ty G.s_CanNot_CanNot
  | 0, 1, _, _ => exact exm_ref G.e_TooMany.sb G.e_TooMany.hd G.e_TooMany.ty G.s_CanNot_TooMany
  | 0, 2, _, _ => exact exm_ref G.e_Unfit.sb G.e_Unfit.hd G.e_Unfit.ty G.s_CanNot_Unfit
  | 1, 0, _, _ => exact exm_ref G.e_CanNot.sb G.e_CanNot.hd G.e_CanNot.ty G.s_TooMany_CanNot
  | 1, 1, _, _ => exact exm_ref G.e_TooMany.sb G.e_TooMany.hd G.e_TooMany.ty G.s_TooMany_TooMany
  | 1, 2, _, _ => exact exm_ref G.e_Unfit.sb G.e_Unfit.hd G.e_Unfit.ty G.s_TooMany_Unfit
  | 2, 0, _, _ => exact exm_ref G.e_CanNot.sb G.e_CanNot.hd G.e_CanNot.ty G.s_Unfit_CanNot
  | 2, 1, _, _ => exact exm_ref G.e_TooMany.sb G.e_TooMany.hd G.e_TooMany.ty G.s_Unfit_TooMany
  | 2, 2, _, _ => exact exm_ref G.e_Unfit.sb G.e_Unfit.hd G.e_Unfit.ty G.s_Unfit_Unfit
theorem err_at {n : Nat} (G : Ad K mg ad) (hn : n < 3) : ∃ x, OwnErr K mg x (ad n) := by
  match n, hn with
  | 0, _ => exact ⟨_, G.e_CanNot⟩
  | 1, _ => exact ⟨_, G.e_TooMany⟩
  | 2, _ => exact ⟨_, G.e_Unfit⟩
theorem picks_at {n : Nat} (G : Ad K mg ad) (hn : n < 3) : Picks K (.ref (ad n)) (slips K ad) 5 (tSay K 5 3 (slipOf n)) := by
  match n, hn with
  | 0, _ => exact .hd (exm_at G (m := 0) (n := 0) (by decide) (by decide))
  | 1, _ => exact .tl (exm_at G (m := 1) (n := 0) (by decide) (by decide)) (.hd (exm_at G (m := 1) (n := 1) (by decide) (by decide)))
  | 2, _ => exact .tl (exm_at G (m := 2) (n := 0) (by decide) (by decide)) (.tl (exm_at G (m := 2) (n := 1) (by decide) (by decide)) (.hd (exm_at G (m := 2) (n := 2) (by decide) (by decide))))
theorem w__law_refused (G : Ad K mg ad) : ∀ ds d, R__law_refused ad ds d → WS K false (t__law_refused K ad) (args N__law_refused.length ds) [] (fin (R__law_refused ad ds)) := by
  rintro ds d ⟨f, gs, R, Y, n, hn, rfl, hT, l1, l4, hR, h0, hY, rfl⟩
  refine ws_seq (ws_asg (we_ev (ev_tup (ea_cons ev_non (ea_cons ev_non ea_nil))) ⟨_, wg_tup (wgs_cons wg_name (wgs_cons wg_name wgs_nil)) rfl, ?_⟩))
  refine ws_seq (ws_try (s := true) (j := 5) (m := 3) (x := slipOf n) (ea_cons (ev_var rfl) (ea_cons (ev_var rfl) ea_nil)) ?_ ?_ rfl (by decide) ?_ ?_)
  · obtain ⟨c, hc⟩ := h0
    exact ⟨c, f, gs, R, Y, rfl, hT, l1, l4, hc⟩
  · rintro d ⟨f', gs', R', Y', e, hT', _, _, hd⟩
    cases e
    cases hT.symm.trans hT'
    exact hR d hd
  · rintro c ⟨f', gs', R', Y', e, hT', _, _, hc⟩
    cases e
    cases hT.symm.trans hT'
    obtain ⟨x, ow⟩ := err_at G hn
    exact ⟨ad n, hY c hc, ow.exc, ow.ve, by rw [hY c hc]; exact picks_at G hn⟩
  · refine ws_ret ((ev_and (ev_op (ev_var rfl) ev_non (rd_is rfl)) (fun _ => ev_op (ev_var rfl) (ev_var rfl) rd_eqs)).to (congrArg D.bl (show (DL.isNon .non && decide (slipOf n = slipOf n)) = true from by rw [decide_eq_true rfl]; rfl))) ⟨f, gs, R, Y, n, hn, rfl, hT, l1, l4, hR, h0, hY, rfl⟩
theorem av__law_refused (T : Top mg) (G : Ad K mg ad) (a : AvX P w K mg base (lvDoor + 1) "_law_call" ["door", "goods_so"] (spX K (R_call (doors ad)) (Y_call (doors ad)))) {f : Addr} {fd : FuncData} (F : Fun K "_law_refused" "_law_refused" s__law_refused f fd) (hm : mg "_law_refused" = some (.ref f)) : Av P w K mg base (lvDoor + 2) "_law_refused" ["door", "goods_so", "wished"] (sp__law_refused K ad) :=
  av_mk F (ok_pure F sc__law_refused (fun ds d ⟨_, _, _, _, _, _, e, _⟩ => by rw [e]; rfl) (fun cdv A outer s H E hr => p__law_refused T G a hr) (w__law_refused G)) hm (fun _ _ _ _ _ _ us hl => match us, hl with | [_, _, _], _ => rfl) (fun _ _ _ _ _ _ us hl => match us, hl with | [_, _, _], _ => rfl)
theorem c_refused {b : Bool} {E : XK} {t : TA} {ρ : En} {ω : Ow} {f : Addr} {gs : List D} {R : List D → D → Prop} {Y : List D → Value → Prop} {n : Nat} {x : Str} (h : EvA K b t ρ ω [.raw (.ref f), .tup gs, .str x]) (hx : x = slipOf n) (hn : n < 3) (hT : doors ad f = some (R, Y)) (l1 : 1 ≤ gs.length) (l4 : gs.length ≤ 4) (hR : ∀ d, ¬ R gs d) (h0 : ∃ c, Y gs c) (hY : ∀ c, Y gs c → c = .ref (ad n)) :
    Ev K b (tCall (sp__law_refused K ad) [] E t) ρ ω (.bl true) := by
  subst hx
  exact ev_call h ⟨f, gs, R, Y, n, hn, rfl, hT, l1, l4, hR, h0, hY, rfl⟩ fun _ ⟨_, _, _, _, _, _, _, _, _, _, _, _, _, e⟩ => e
/-! ### law -/
abbrev s_law : Stmt := topS 47
abbrev N_law : List Str := ["script", "tin", "lap", "slack_so", "n", "goal_so", "more_so", "kind_so", "here", "told_so", "tried_so", "value_so", "k", "apart_so", "due", "a", "b", "own"]
theorem sc_law : FnScope N_law ["script"] (defScope s_law) := ⟨rfl, rfl, rfl, by decide +kernel, rfl, by decide +kernel, by decide +kernel⟩
theorem okI_pairs {n : Nat} (ps : List ZZ) : okI (n + 2) (.lst (ps.map pD)) = true := okI_lst (okIs_map fun p => okI_pD)
theorem okIs_pairs {n : Nat} (ps : List ZZ) : okIs (n + 1) (ps.map pD) = true := okIs_map fun p => okI_pD
theorem rd_eqN {K : PySem.W.Frag} (ps : List ZZ) : RD K (rEqX K) (.lst (ps.map pD)) (.lst []) (.bl (decide (ps = []))) := by
  have h := rd_eqS (K := K) (n := 3) (m := 3) (d := .lst (ps.map pD)) (e := .lst []) (okI_pairs ps) rfl
  rw [sameD_dec (c := decide (ps = [])) (by
    rw [decide_eq_true_iff]
    cases ps with
    | nil => exact ⟨fun _ => rfl, fun _ => rfl⟩
    | cons p r => exact ⟨fun z => (by cases z), fun z => (by cases z)⟩)] at h
  exact h
theorem rd_neN {K : PySem.W.Frag} (ps : List ZZ) : RD K (rNeX K) (.lst (ps.map pD)) (.lst []) (.bl (!decide (ps = []))) := by
  have h := rd_neS (K := K) (n := 3) (m := 3) (d := .lst (ps.map pD)) (e := .lst []) (okI_pairs ps) rfl
  rw [sameD_dec (c := decide (ps = [])) (by
    rw [decide_eq_true_iff]
    cases ps with
    | nil => exact ⟨fun _ => rfl, fun _ => rfl⟩
    | cons p r => exact ⟨fun z => (by cases z), fun z => (by cases z)⟩)] at h
  exact h
theorem wins_no1 {s : Int} {p : ZZ} (p1 : 0 ≤ p.1) (p2 : 0 ≤ p.2) : decide (winsF s false p = []) = lostF s false p := by
  rw [Bool.eq_iff_iff, decide_eq_true_iff, wins_nil p1 p2]
  exact ⟨fun h => h.elim id fun z => Bool.noConfusion z.1, .inl⟩
theorem fst_at {q : ZZ} {r : List ZZ} : L2.atI ((q :: r).map pD) 0 = some (pD q) := (show L2.atI ((q :: r).map pD) ((0 : Nat) : Int) = some (pD q) from atI_nat rfl)
theorem thaw_nil {k : Nat} {d : D} : thaw k d [] = [] := rfl
theorem thaw_none {k : Nat} {d : D} {r : En} : thaw k d (none :: r) = none :: thaw k d r := rfl
theorem thaw_sh {k : Nat} {d e : D} {r : En} : thaw k d (some (.sh e) :: r) = some (.sh e) :: thaw k d r := rfl
theorem thaw_own {k : Nat} {d : D} {r : En} : thaw k d (some (.ow k) :: r) = some (.sh d) :: thaw k d r := by
  show (if k = k then some (Ent.sh d) else some (.ow k)) :: _ = _
  rw [if_pos rfl]; rfl
theorem thaw_oth {k j : Nat} {d : D} {r : En} (h : j ≠ k) : thaw k d (some (.ow j) :: r) = some (.ow j) :: thaw k d r := by
  show (if j = k then some (Ent.sh d) else some (.ow j)) :: _ = _
  rw [if_neg h]; rfl
def pl11 (p : ZZ) : Prop := 0 ≤ p.1 ∧ p.1 ≤ 10 ^ 60 ∧ 0 ≤ p.2 ∧ p.2 ≤ 10 ^ 60
theorem pl_bd {p : ZZ} (h : 0 ≤ p.1 ∧ p.1 ≤ 10 ^ 62 ∧ 0 ≤ p.2 ∧ p.2 ≤ 10 ^ 62) : bdP p := by
  have b : Bd 9000 ((10 : Int) ^ 62) := (show Bd 300 ((10 : Int) ^ 62) by unfold Bd; decide +kernel).mono (by decide)
  exact ⟨b.le h.1 h.2.1, b.le h.2.2.1 h.2.2.2⟩
/-- what is tried, the values looked at so far -/
def tvF (s : Int) (vs : List Int) : List ZZ := (0, 0) :: ((vs.filter fun v => decide (0 < v)).map fun v => plF s (pwF s v))
theorem tv_step {s v : Int} {vs : List Int} : tvF s (vs ++ [v]) = if 0 < v then tvF s vs ++ [plF s (pwF s v)] else tvF s vs := by
  unfold tvF
  rw [List.filter_append, List.map_append]
  by_cases h : 0 < v
  · rw [if_pos h, List.filter_cons, if_pos (decide_eq_true h)]
    rfl
  · rw [if_neg h, List.filter_cons, if_neg (by rw [decide_eq_false h]; exact Bool.false_ne_true)]
    show (0, 0) :: (_ ++ []) = _
    rw [List.append_nil]
theorem tv_len {s : Int} {vs : List Int} : (tvF s vs).length ≤ 1 + vs.length := by
  unfold tvF
  rw [List.length_cons, List.length_map]
  have := List.length_filter_le (fun v => decide (0 < v)) vs
  omega
/-- all that is tried is of a place's size -/
theorem tr_small {s : Int} (h1 : 1 ≤ s) (h2 : s ≤ 50) {p : ZZ} (hp : pl11 p) {q : ZZ} (h : q ∈ (0, 0) :: trF s p) : 0 ≤ q.1 ∧ q.1 ≤ 10 ^ 62 ∧ 0 ≤ q.2 ∧ q.2 ≤ 10 ^ 62 := by
  obtain ⟨p1, p2, p3, p4⟩ := hp
  have big : ∀ k, 0 ≤ k → k ≤ 10 ^ 60 + 1 → 0 ≤ (plF s k).1 ∧ (plF s k).1 ≤ 10 ^ 62 ∧ 0 ≤ (plF s k).2 ∧ (plF s k).2 ≤ 10 ^ 62 := fun k k0 k1 => by
    have a := low_nn h1 k0
    have b := low_le2 h1 k0
    have c := high_nn h1 k0
    have d := high_le2 h1 h2 k0
    exact ⟨a, by show lowF s k ≤ _; omega, c, by show highF s k ≤ _; omega⟩
  rcases List.mem_cons.mp h with h | h
  · rw [h]; decide
  unfold trF at h
  have d0 : 0 ≤ (max p.1 p.2 - min p.1 p.2) / s := Int.ediv_nonneg (by omega) (by omega)
  have d1 := Int.ediv_le_self (a := max p.1 p.2 - min p.1 p.2) s (by omega)
  rcases List.mem_append.mp h with h | h
  · obtain ⟨v, hv, e⟩ := List.mem_map.mp h
    obtain ⟨hm, v0⟩ := List.mem_filter.mp hv
    have v0 := of_decide_eq_true v0
    have v1 : v ≤ 10 ^ 60 := by
      simp only [List.mem_cons, List.not_mem_nil, or_false] at hm
      rcases hm with h | h <;> omega
    obtain ⟨a, b⟩ := pwF_nn h1 (show 0 ≤ v by omega)
    rw [← e]
    exact big _ a (by omega)
  · simp only [List.mem_cons, List.not_mem_nil, or_false] at h
    rcases h with h | h <;> rw [h]
    · exact big _ d0 (by omega)
    · exact big _ (by omega) (by omega)
def u_law (K : PySem.W.Frag) (ad : Nat → Addr) : TS :=     (tSeq (tFor (iRng1 (tCons (tC (.int 5)) tNil)) (gName 2) (tSeq (tAsg (tTup (tCons (tOp (rAddX K) (tC (.int 1)) (tCall (sp__law_take K) [] E0 (tCons (tVar 1) (tCons (tC (.int 50)) tNil)))) (tCons (tCall (sp__law_great K) [] E0 (tCons (tVar 1) tNil)) tNil))) (gTup K 2 (gCons (gName 3) (gCons (gName 4) gNil))))
    (tSeq (tAsg (tTup (tCons (tCall (sp__law_low K) [] E0 (tCons (tVar 3) (tCons (tVar 4) tNil))) (tCons (tOp (rAddX K) (tCall (sp__law_low K) [] E0 (tCons (tVar 3) (tCons (tVar 4) tNil))) (tOp rMulX (tVar 3) (tVar 4))) tNil))) (gName 5))
    (tSeq (tIfS (tTest (tOp (rEqX K) (tCall (sp__law_take K) [] E0 (tCons (tVar 1) (tCons (tC (.int 2)) tNil))) (tC (.int 1)))) (tAsg (tTup (tCons (tOp (rIxX K) (tVar 5) (tC (.int 1))) (tCons (tOp (rIxX K) (tVar 5) (tC (.int 0))) tNil))) (gName 5)) tNext)
    (tSeq (tPar 6 7 (tCons (tOp (rAddX K) (tC (.int 1)) (tOp rDivX (tCall (sp__law_great K) [] E0 (tCons (tVar 1) tNil)) (tC (.int 100)))) (tCons (tCall (sp__law_take K) [] E0 (tCons (tVar 1) (tCons (tC (.int 4)) tNil))) tNil)))
    (tSeq (tAsg (tTup (tCons (tOp (rAddX K) (tOp (rIxX K) (tVar 5) (tC (.int 0))) (tVar 6)) (tCons (tOp (rIxX K) (tVar 5) (tC (.int 1))) tNil))) (gName 8))
    (tSeq (tIfS (tTest (tOp (rEqX K) (tVar 7) (tC (.int 1)))) (tAsg (tTup (tCons (tOp (rIxX K) (tVar 5) (tC (.int 0))) (tCons (tOp (rAddX K) (tOp (rIxX K) (tVar 5) (tC (.int 1))) (tVar 6)) tNil))) (gName 8)) (tIfS (tTest (tOp (rEqX K) (tVar 7) (tC (.int 2)))) (tAsg (tTup (tCons (tOp (rAddX K) (tOp (rIxX K) (tVar 5) (tC (.int 0))) (tVar 6)) (tCons (tOp (rAddX K) (tOp (rAddX K) (tOp (rIxX K) (tVar 5) (tC (.int 1))) (tVar 6)) (tCall (sp__law_take K) [] E0 (tCons (tVar 1) (tCons (tVar 3) tNil)))) tNil))) (gName 8)) (tIfS (tTest (tOp (rEqX K) (tVar 7) (tC (.int 3)))) (tAsg (tTup (tCons (tVar 6) (tCons (tOp rDivX (tCall (sp__law_great K) [] E0 (tCons (tVar 1) tNil)) (tC (.int 100))) tNil))) (gName 8)) tNext)))
    (tSeq (tAsg (tCall (sp_wins K) [] E0 (tCons (tVar 3) (tCons (tVar 8) tNil))) (gName 9))
    (tSeq (tAsg (tLst (tCons (tTup (tCons (tC (.int 0)) (tCons (tC (.int 0)) tNil))) tNil)) (gName 10))
    (tSeq (tFor (iSeqX K (tVar 8)) (gName 11) (tIfS (tTest (tOp rGtX (tVar 11) (tC (.int 0)))) (tSeq (tAsg (tCall (sp__law_pair_with K) [] E0 (tCons (tVar 3) (tCons (tVar 11) tNil))) (gName 12))
    (tDrop (tBM K "list" rAppend (tVar 10) (tCons (tTup (tCons (tCall (sp__law_low K) [] E0 (tCons (tVar 3) (tCons (tVar 12) tNil))) (tCons (tOp (rAddX K) (tCall (sp__law_low K) [] E0 (tCons (tVar 3) (tCons (tVar 12) tNil))) (tOp rMulX (tVar 3) (tVar 12))) tNil))) tNil)))) tNext))
    (tSeq (tAsg (tOp rSubX (tCB (rMaxY K) (tCons (tVar 8) tNil)) (tCB (rMinY K) (tCons (tVar 8) tNil))) (gName 13))
    (tSeq (tFor (iRngA (tCons (tOp rDivX (tVar 13) (tVar 3)) (tCons (tOp (rAddX K) (tOp rDivX (tVar 13) (tVar 3)) (tC (.int 2))) tNil))) (gName 12) (tDrop (tBM K "list" rAppend (tVar 10) (tCons (tTup (tCons (tCall (sp__law_low K) [] E0 (tCons (tVar 3) (tCons (tVar 12) tNil))) (tCons (tOp (rAddX K) (tCall (sp__law_low K) [] E0 (tCons (tVar 3) (tCons (tVar 12) tNil))) (tOp rMulX (tVar 3) (tVar 12))) tNil))) tNil))))
    (tSeq (tAsg (tLst tNil) (gName 14))
    (tSeq (tFor (iSeqX K (tVar 10)) (gTup K 2 (gCons (gName 15) (gCons (gName 16) gNil))) (tFor (iSeqX K (tTup (tCons (tTup (tCons (tVar 15) (tCons (tVar 16) tNil))) (tCons (tTup (tCons (tVar 16) (tCons (tVar 15) tNil))) tNil)))) (gName 17) (tIfS (tAnd (tTest (tOp (rNotInD K) (tVar 17) (tVar 14))) (tTruX K (tCall (sp__law_leads K) [] E0 (tCons (tVar 3) (tCons (tVar 8) (tCons (tVar 17) tNil)))))) (tDrop (tBM K "list" rAppend (tVar 14) (tCons (tVar 17) tNil))) tNext)))
    (tSeq (tIfS (tNot (tTruX K (tCall (sp__law_same K) [] E0 (tCons (tVar 9) (tCons (tCB (rSortedPO K) (tCons (tVar 14) tNil)) tNil))))) (tRet (tC (.bl false))) tNext)
    (tSeq (tIfS (tAnd (tTest (tOp rLtX (tVar 7) (tC (.int 3)))) (tTest (tOp (rNotInD K) (tVar 5) (tVar 9)))) (tRet (tC (.bl false))) tNext)
    (tSeq (tIfS (tNot (tTruX K (tCall (sp__law_same K) [] E0 (tCons (tLst (tCons (tOp (rEqX K) (tVar 9) (tLst tNil)) (tCons (tCB (rAllX K) (tCons (tLc (iSeqX K (tVar 9)) (gName 17) tYes (tCall (sp_is_lost K) [] E0 (tCons (tVar 3) (tCons (tVar 17) tNil))) [17]) tNil)) tNil))) (tCons (tLst (tCons (tCall (sp_is_lost K) [] E0 (tCons (tVar 3) (tCons (tVar 8) tNil))) (tCons (tC (.bl true)) tNil))) tNil))))) (tRet (tC (.bl false))) tNext)
    (tSeq (tIfS (tAnd (tTest (tOp (rNeX K) (tVar 9) (tLst tNil))) (tNot (tTruX K (tCall (sp__law_same K) [] E0 (tCons (tCall (sp_answer K) [] E0 (tCons (tVar 3) (tCons (tVar 8) tNil))) (tCons (tOp (rIxX K) (tVar 9) (tC (.int 0))) tNil)))))) (tRet (tC (.bl false))) tNext)
    (tIfS (tNot (tTruX K (tCall (sp__law_same K) [] E0 (tCons (tLst (tCons (tCall (sp_wins K) [] E0 (tCons (tVar 3) (tCons (tVar 5) tNil))) (tCons (tCall (sp__law_refused K ad) [] E0 (tCons (tC (.ref (ad i_answer))) (tCons (tTup (tCons (tVar 3) (tCons (tVar 5) tNil))) (tCons (tC (.str "cannot")) tNil)))) tNil))) (tCons (tLst (tCons (tLst tNil) (tCons (tC (.bl true)) tNil))) tNil))))) (tRet (tC (.bl false))) tNext)))))))))))))))))))
    (tRet (tC (.bl true))))
def b_law (K : PySem.W.Frag) : TE := (tCall (sp__law_box K) [] E0 (tCons (tCall (sp__law_cells K) [] E0 (tCons (tVar 0) (tCons (tC (.int 1)) tNil))) (tCons (tC (.int 0)) tNil)))
def t_law (K : PySem.W.Frag) (ad : Nat → Addr) : TS := (tSeq (tAsg (b_law K) (gName 1)) (u_law K ad))
theorem p_law (T : Top mg) (G : Ad K mg ad) (a__law_box : Av P w K mg base 1 "_law_box" ["script", "k"] (sp__law_box K)) (a__law_cells : Av P w K mg base 1 "_law_cells" ["script", "most_so"] (sp__law_cells K)) (a__law_great : Av P w K mg base 3 "_law_great" ["tin"] (sp__law_great K)) (a__law_take : Av P w K mg base 1 "_law_take" ["tin", "below_so"] (sp__law_take K)) (a__law_low : Av P w K mg base 2 "_law_low" ["slack_so", "k"] (sp__law_low K)) (a_wins : Av P w K mg base 8 "wins" ["slack", "place"] (sp_wins K)) (a__law_pair_with : Av P w K mg base 3 "_law_pair_with" ["slack_so", "value_so"] (sp__law_pair_with K)) (a__law_leads : Av P w K mg base 1 "_law_leads" ["slack_so", "here", "later_so"] (sp__law_leads K)) (a__law_same : Av P w K mg base 9 "_law_same" ["got", "due"] (sp__law_same K)) (a_is_lost : Av P w K mg base 6 "is_lost" ["slack", "place"] (sp_is_lost K)) (a_answer : Av P w K mg base 8 "answer" ["slack", "place"] (sp_answer K)) (a__law_refused : Av P w K mg base 10 "_law_refused" ["door", "goods_so", "wished"] (sp__law_refused K ad)) {f : Addr} {cdv : Value} {A : Around} {outer : List Env} {s : Shared} {H : Hp} {E : XK} (hr : Room 10 (A.deeper (envOfC "law" (defScope s_law) s.heap.objs.size f cdv))) : PSs (cxOf CX0 P w K mg base N_law "law" (defScope s_law) f cdv A outer s H E).nox (defBody s_law) (t_law K ad) :=
  (pss_cons (ps_set (i := 1) sc_law.nd rfl (.inl rfl) (pe_av a__law_box hr rfl (pa_cons (pe_av a__law_cells hr rfl (pa_cons (pv 0) (pa_cons pe_int pa_nil))) (pa_cons pe_int pa_nil))))
    (pss_cons (ps_for PassesOwn.never rfl (pi_range1 rfl T.z_range (pa_cons pe_int pa_nil)) (pg_name (i := 2) sc_law.nd rfl (.inl rfl)) (pss_cons (ps_asg (pe_tup (pa_cons (pe_op op_addX pe_int (pe_av a__law_take hr rfl (pa_cons (pv 1) (pa_cons pe_int pa_nil)))) (pa_cons (pe_av a__law_great hr rfl (pa_cons (pv 1) pa_nil)) pa_nil))) (pg_tup rfl (pgs_cons (pg_name (i := 3) sc_law.nd rfl (.inr rfl)) (pgs_cons (pg_name (i := 4) sc_law.nd rfl (.inl rfl)) pgs_nil))))
    (pss_cons (ps_set (i := 5) sc_law.nd rfl (.inl rfl) (pe_tup (pa_cons (pe_av a__law_low hr rfl (pa_cons (pv 3) (pa_cons (pv 4) pa_nil))) (pa_cons (pe_op op_addX (pe_av a__law_low hr rfl (pa_cons (pv 3) (pa_cons (pv 4) pa_nil))) (pe_op op_mulX (pv 3) (pv 4))) pa_nil))))
    (pss_cons (ps_if (pt_cmpR (op_eqX hr.units) (pe_av a__law_take hr rfl (pa_cons (pv 1) (pa_cons pe_int pa_nil))) pe_int (nomark _)) (pss_one (ps_set (i := 5) sc_law.nd rfl (.inl rfl) (pe_tup (pa_cons (pe_ix (ix_X (hu_of hr)) (pv 5) pe_int (fun _ _ => rfl)) (pa_cons (pe_ix (ix_X (hu_of hr)) (pv 5) pe_int (fun _ _ => rfl)) pa_nil))))) pss_nil)
    (pss_cons (ps_par (i := 6) (j := 7) rfl sc_law.nd rfl rfl (by decide) rfl rfl (pa_cons (pe_op op_addX pe_int (pe_op op_divX (pe_av a__law_great hr rfl (pa_cons (pv 1) pa_nil)) pe_int)) (pa_cons (pe_av a__law_take hr rfl (pa_cons (pv 1) (pa_cons pe_int pa_nil))) pa_nil)) (by rfl))
    (pss_cons (ps_set (i := 8) sc_law.nd rfl (.inl rfl) (pe_tup (pa_cons (pe_op op_addX (pe_ix (ix_X (hu_of hr)) (pv 5) pe_int (fun _ _ => rfl)) (pv 6)) (pa_cons (pe_ix (ix_X (hu_of hr)) (pv 5) pe_int (fun _ _ => rfl)) pa_nil))))
    (pss_cons (ps_if (pt_cmpR (op_eqX hr.units) (pv 7) pe_int (nomark _)) (pss_one (ps_set (i := 8) sc_law.nd rfl (.inl rfl) (pe_tup (pa_cons (pe_ix (ix_X (hu_of hr)) (pv 5) pe_int (fun _ _ => rfl)) (pa_cons (pe_op op_addX (pe_ix (ix_X (hu_of hr)) (pv 5) pe_int (fun _ _ => rfl)) (pv 6)) pa_nil))))) (pss_one (ps_if (pt_cmpR (op_eqX hr.units) (pv 7) pe_int (nomark _)) (pss_one (ps_set (i := 8) sc_law.nd rfl (.inl rfl) (pe_tup (pa_cons (pe_op op_addX (pe_ix (ix_X (hu_of hr)) (pv 5) pe_int (fun _ _ => rfl)) (pv 6)) (pa_cons (pe_op op_addX (pe_op op_addX (pe_ix (ix_X (hu_of hr)) (pv 5) pe_int (fun _ _ => rfl)) (pv 6)) (pe_av a__law_take hr rfl (pa_cons (pv 1) (pa_cons (pv 3) pa_nil)))) pa_nil))))) (pss_one (ps_if (pt_cmpR (op_eqX hr.units) (pv 7) pe_int (nomark _)) (pss_one (ps_set (i := 8) sc_law.nd rfl (.inl rfl) (pe_tup (pa_cons (pv 6) (pa_cons (pe_op op_divX (pe_av a__law_great hr rfl (pa_cons (pv 1) pa_nil)) pe_int) pa_nil))))) pss_nil)))))
    (pss_cons (ps_set (i := 9) sc_law.nd rfl (.inl rfl) (pe_avK a_wins hr rfl (pk_cons (pv 3) (pk_cons (pv 8) pk_nil))))
    (pss_cons (ps_set (i := 10) sc_law.nd rfl (.inl rfl) (pe_lst (pa_cons (pe_tup (pa_cons pe_int (pa_cons pe_int pa_nil))) pa_nil)))
    (pss_cons (ps_for PassesOwn.never rfl (pi_seqX (pv 8)) (pg_name (i := 11) sc_law.nd rfl (.inl rfl)) (pss_one (ps_if (pt_cmpR op_gtX (pv 11) pe_int (nomark _)) (pss_cons (ps_set (i := 12) sc_law.nd rfl (.inl rfl) (pe_av a__law_pair_with hr rfl (pa_cons (pv 3) (pa_cons (pv 11) pa_nil))))
    (pss_one (ps_expr (pe_bm PySem.F.plainAttrs_list PySem.F.slot_list_append PySem.F.type_list_append mt_append (pv 10) (pa_cons (pe_tup (pa_cons (pe_av a__law_low hr rfl (pa_cons (pv 3) (pa_cons (pv 12) pa_nil))) (pa_cons (pe_op op_addX (pe_av a__law_low hr rfl (pa_cons (pv 3) (pa_cons (pv 12) pa_nil))) (pe_op op_mulX (pv 3) (pv 12))) pa_nil))) pa_nil))))) pss_nil)))
    (pss_cons (ps_set (i := 13) sc_law.nd rfl (.inl rfl) (pe_op op_subX (pe_callB (cr_maxY rfl (hu_of hr)) (by rfl) T.z_max (by decide +kernel) (pa_cons (pv 8) pa_nil)) (pe_callB (cr_minY rfl (hu_of hr)) (by rfl) T.z_min (by decide +kernel) (pa_cons (pv 8) pa_nil))))
    (pss_cons (ps_for PassesOwn.never rfl (pi_rangeA rfl T.z_range (pa_cons (pe_op op_divX (pv 13) (pv 3)) (pa_cons (pe_op op_addX (pe_op op_divX (pv 13) (pv 3)) pe_int) pa_nil))) (pg_name (i := 12) sc_law.nd rfl (.inl rfl)) (pss_one (ps_expr (pe_bm PySem.F.plainAttrs_list PySem.F.slot_list_append PySem.F.type_list_append mt_append (pv 10) (pa_cons (pe_tup (pa_cons (pe_av a__law_low hr rfl (pa_cons (pv 3) (pa_cons (pv 12) pa_nil))) (pa_cons (pe_op op_addX (pe_av a__law_low hr rfl (pa_cons (pv 3) (pa_cons (pv 12) pa_nil))) (pe_op op_mulX (pv 3) (pv 12))) pa_nil))) pa_nil)))))
    (pss_cons (ps_set (i := 14) sc_law.nd rfl (.inl rfl) (pe_lst pa_nil))
    (pss_cons (ps_for PassesOwn.never rfl (pi_seqX (pv 10)) (pg_tup rfl (pgs_cons (pg_name (i := 15) sc_law.nd rfl (.inl rfl)) (pgs_cons (pg_name (i := 16) sc_law.nd rfl (.inl rfl)) pgs_nil))) (pss_one (ps_for PassesOwn.never rfl (pi_seqX (pe_tup (pa_cons (pe_tup (pa_cons (pv 15) (pa_cons (pv 16) pa_nil))) (pa_cons (pe_tup (pa_cons (pv 16) (pa_cons (pv 15) pa_nil))) pa_nil)))) (pg_name (i := 17) sc_law.nd rfl (.inl rfl)) (pss_one (ps_if (PW.pt (pw_and (pt_cmpR (op_notInD (hu65 hr)) (pv 17) (pv 14) (by rfl)) (pw_and1 (pt_tru (pe_av a__law_leads hr rfl (pa_cons (pv 3) (pa_cons (pv 8) (pa_cons (pv 17) pa_nil)))))))) (pss_one (ps_expr (pe_bm PySem.F.plainAttrs_list PySem.F.slot_list_append PySem.F.type_list_append mt_append (pv 14) (pa_cons (pv 17) pa_nil)))) pss_nil)))))
    (pss_cons (ps_if (pt_not (pt_tru (pe_av a__law_same hr rfl (pa_cons (pv 9) (pa_cons (pe_callB cr_sortedPO (by rfl) T.z_sorted (by decide +kernel) (pa_cons (pv 14) pa_nil)) pa_nil))))) (pss_one (ps_ret pe_bl)) pss_nil)
    (pss_cons (ps_if (PW.pt (pw_and (pt_cmpR op_ltX (pv 7) pe_int (nomark _)) (pw_and1 (pt_cmpR (op_notInD (hu65 hr)) (pv 5) (pv 9) (by rfl))))) (pss_one (ps_ret pe_bl)) pss_nil)
    (pss_cons (ps_if (pt_not (pt_tru (pe_av a__law_same hr rfl (pa_cons (pe_lst (pa_cons (pe_cmpR (op_eqX hr.units) (pv 9) (pe_lst pa_nil) (nomark _)) (pa_cons (pe_callB (cr_allX rfl) (by rfl) T.z_all (by decide +kernel) (pa_cons (pe_lc (own := [("own", 17)]) rfl sc_law.nd (pi_seqX (pv 9)) (blkOk_by (own := [("own", 17)]) (N := N_law) (sc := defScope s_law) (by decide +kernel)) (fun _ _ _ _ _ => (pg_name (i := 17) sc_law.nd rfl (.inl rfl))) (fun _ _ _ _ _ => pts_nil) (fun _ _ _ _ _ => (pe_av a_is_lost hr rfl (pa_cons (pv 3) (pa_cons (pv 17) pa_nil))))) pa_nil)) pa_nil))) (pa_cons (pe_lst (pa_cons (pe_av a_is_lost hr rfl (pa_cons (pv 3) (pa_cons (pv 8) pa_nil))) (pa_cons pe_bl pa_nil))) pa_nil))))) (pss_one (ps_ret pe_bl)) pss_nil)
    (pss_cons (ps_if (PW.pt (pw_and (pt_cmpR (op_neX hr.units) (pv 9) (pe_lst pa_nil) (nomark _)) (pw_and1 (pt_not (pt_tru (pe_av a__law_same hr rfl (pa_cons (pe_av a_answer hr rfl (pa_cons (pv 3) (pa_cons (pv 8) pa_nil))) (pa_cons (pe_ix (ix_X (hu_of hr)) (pv 9) pe_int (fun _ _ => rfl)) pa_nil)))))))) (pss_one (ps_ret pe_bl)) pss_nil)
    (pss_one (ps_if (pt_not (pt_tru (pe_av a__law_same hr rfl (pa_cons (pe_lst (pa_cons (pe_av a_wins hr rfl (pa_cons (pv 3) (pa_cons (pv 5) pa_nil))) (pa_cons (pe_av a__law_refused hr rfl (pa_cons (pe_fn G.d_answer (by rfl)) (pa_cons (pe_tup (pa_cons (pv 3) (pa_cons (pv 5) pa_nil))) (pa_cons pe_str pa_nil)))) pa_nil))) (pa_cons (pe_lst (pa_cons (pe_lst pa_nil) (pa_cons pe_bl pa_nil))) pa_nil))))) (pss_one (ps_ret pe_bl)) pss_nil))))))))))))))))))))
    (pss_one (ps_ret pe_bl))))
theorem w_law (G : Ad K mg ad) : ∀ xs, Box 0 xs → WS K false (u_law K ad) (none :: some (.ow 0) :: List.replicate (N_law.length - 2) none) [.l xs] finL := by
  intro xs hx
  refine ws_seq (ws_for (ei_rng1 (s := true) (ea_cons ev_int (ea_nil)) (by decide) (by decide))
    (fun i ρ ω => ∃ xs T y2 y3 y4 y5 y6 y7 y8 y9 y10 y11 y12 y13 y14 y15 y16 y17, ρ = [none, some (.ow 0), y2, y3, y4, y5, y6, y7, y8, y9, y10, y11, y12, y13, y14, y15, y16, y17] ∧ ω = .l xs :: T ∧ Box (15 * i) xs) ⟨xs, [], none, none, none, none, none, none, none, none, none, none, none, none, none, none, none, none, rfl, rfl, hx⟩ (fun i d0 ρ' ω' hd => ?_) (fun ρ' ω' => ?_))
  · have hi : i < 5 := (List.getElem?_eq_some_iff.mp hd).1
    rintro ⟨xs, T, y2, y3, y4, y5, y6, y7, y8, y9, y10, y11, y12, y13, y14, y15, y16, y17, rfl, rfl, hb⟩
    refine ⟨_, wg_name, ?_⟩
    refine ws_lose 10 (ws_lose 11 (ws_lose 12 (ws_lose 13 (ws_lose 14 (ws_lose 15 (ws_lose 16 (ws_lose 17 (ws_lose 9 ?_))))))))
    refine ws_seq (ws_asg (we_tup (wa_cons (we_op (we_ev ev_int (we_take rfl ev_int rfl hb (by omega) (by decide) (by decide) fun s0 x1 s1 s2 n1 => ⟨_, rd_add, ?_⟩))))))
    have hb1 := n1 _ hb
    obtain ⟨s, rfl⟩ : ∃ s, s0 = s - 1 := ⟨s0 + 1, by omega⟩
    rw [show 1 + (s - 1) = s by omega]
    have h1 : 1 ≤ s := by omega
    have h2 : s ≤ 50 := by omega
    refine wa_cons (we_great rfl rfl hb1 (by omega) fun k x2 k1 k2 n2 => wa_nil ⟨Nat.le_of_ble_eq_true rfl, _, wg_tup (wgs_cons wg_name (wgs_cons wg_name wgs_nil)) rfl, ?_⟩)
    have hb2 := n2 _ hb1
    have kb : Bd 200 k := bd60 k1 (by omega)
    have l0 := low_nn h1 k1
    have l1 := low_le2 h1 k1
    have g0 := high_nn h1 k1
    have g1 := high_le2 h1 h2 k1
    refine ws_seq (ws_set (d := pD (plF s k)) (ev_tup (ea_cons (c__law_low (ea_cons (ev_var rfl) (ea_cons (ev_var rfl) ea_nil)) h1 h2 k1 (kb.mono (by decide))) (ea_cons (ev_op (c__law_low (ea_cons (ev_var rfl) (ea_cons (ev_var rfl) ea_nil)) h1 h2 k1 (kb.mono (by decide))) (ev_op (ev_var rfl) (ev_var rfl) (rd_mul (mul_l (by omega) (by omega)))) rd_add) ea_nil))) ?_)
    refine ws_seq (WS.imp (Φ := fun o => ∃ (g : ZZ) (xs : List D), o = .nx [none, some (.ow 0), some (.sh d0), some (.sh (.int s)), some (.sh (.int k)), some (.sh (pD g)), y6, y7, y8, none, none, none, none, none, none, none, none, none] (.l xs :: T) ∧ Box (15 * i + 6) xs ∧ (g = plF s k ∨ g = sw (plF s k))) ?_ ?_)
    · refine ws_ifW (wt_test (we_op (we_take rfl ev_int rfl hb2 (by omega) (by decide) (by decide) fun m x3 m1 m2 n3 => we_ev ev_int ⟨_, rd_eq, _, rfl, fun hc => ?_, fun hc => ?_⟩)))
      · exact ws_set (d := pD (sw (plF s k))) (ev_tup (ea_cons (ev_op (ev_var rfl) ev_int (rd_ixT rfl)) (ea_cons (ev_op (ev_var rfl) ev_int (rd_ixT rfl)) ea_nil))) ⟨_, x3, rfl, (n3 _ hb2).mono (by omega), .inr rfl⟩
      · exact ws_next ⟨_, x3, rfl, (n3 _ hb2).mono (by omega), .inl rfl⟩
    rintro o ⟨g, x3, rfl, hb3, hg⟩
    have hgp : (0 ≤ g.1 ∧ g.1 ≤ 52 * 10 ^ 58) ∧ (0 ≤ g.2 ∧ g.2 ≤ 52 * 10 ^ 58) ∧ lostF s false g = true := by
      have lp := lost_pair (t := false) h1 k1
      rcases hg with rfl | rfl
      · exact ⟨⟨l0, by show lowF s k ≤ _; omega⟩, ⟨g0, by show highF s k ≤ _; omega⟩, lp.1⟩
      · exact ⟨⟨g0, by show highF s k ≤ _; omega⟩, ⟨l0, by show lowF s k ≤ _; omega⟩, lp.2⟩
    obtain ⟨⟨ga, gb⟩, ⟨gc, gd⟩, gl⟩ := hgp
    refine ws_seq (ws_parW (wa_cons (we_op (we_ev ev_int (we_op (we_great rfl rfl hb3 (by omega) fun r0 x4 r1 r2 n4 => we_ev ev_int ⟨_, rd_div ((bd_small (by decide) (by decide)).divOk (by decide)), _, rd_add, ?_⟩))))))
    have hb4 := n4 _ hb3
    obtain ⟨m, hm⟩ : ∃ m, 1 + r0 / 100 = m := ⟨_, rfl⟩
    rw [hm]
    have m1 : 1 ≤ m := by omega
    have m2 : m ≤ 10 ^ 58 := by omega
    refine wa_cons (we_take rfl ev_int rfl hb4 (by omega) (by decide) (by decide) fun kd x5 kd1 kd2 n5 => wa_nil ⟨_, _, rfl, ?_⟩)
    have hb5 := n5 _ hb4
    refine ws_seq (ws_set (d := pD (g.1 + m, g.2)) (ev_tup (ea_cons (ev_op (ev_op (ev_var rfl) ev_int (rd_ixT rfl)) (ev_var rfl) rd_add) (ea_cons (ev_op (ev_var rfl) ev_int (rd_ixT rfl)) ea_nil))) ?_)
    refine ws_seq (WS.imp (Φ := fun o => ∃ (h : ZZ) (xs : List D), o = .nx [none, some (.ow 0), some (.sh d0), some (.sh (.int s)), some (.sh (.int k)), some (.sh (pD g)), some (.sh (.int m)), some (.sh (.int kd)), some (.sh (pD h)), none, none, none, none, none, none, none, none, none] (.l xs :: T) ∧ Box (15 * i + 15) xs ∧ pl11 h ∧ (kd < 3 → leadsF s h g = true)) ?_ ?_)
    · refine ws_if (et_test (s := true) (ev_op (ev_var rfl) ev_int rd_eq)) (fun hc => ?_) (fun hc => ?_)
      · refine ws_set (d := pD (g.1, g.2 + m)) (ev_tup (ea_cons (ev_op (ev_var rfl) ev_int (rd_ixT rfl)) (ea_cons (ev_op (ev_op (ev_var rfl) ev_int (rd_ixT rfl)) (ev_var rfl) rd_add) ea_nil))) ⟨_, x5, rfl, hb5.mono (by omega), ⟨ga, by show g.1 ≤ _; omega, by show 0 ≤ g.2 + m; omega, by show g.2 + m ≤ _; omega⟩, fun _ => leads_iff.mpr ?_⟩
        show g.1 ≤ g.1 ∧ g.2 ≤ g.2 + m ∧ (g.1 < g.1 ∨ g.2 < g.2 + m) ∧ (g.1 = g.1 ∨ _)
        exact ⟨by omega, by omega, by omega, .inl rfl⟩
      have hc := of_decide_eq_false hc
      refine ws_if (et_test (s := true) (ev_op (ev_var rfl) ev_int rd_eq)) (fun hc2 => ?_) (fun hc2 => ?_)
      · refine ws_setW (we_tup (wa_cons (we_ev (ev_op (ev_op (ev_var rfl) ev_int (rd_ixT rfl)) (ev_var rfl) rd_add) (wa_cons (we_op (we_ev (ev_op (ev_op (ev_var rfl) ev_int (rd_ixT rfl)) (ev_var rfl) rd_add) (we_take rfl (ev_var rfl) rfl hb5 (by omega) (by omega) (by omega) fun t x6 t1 t2 n6 => ⟨_, rd_add, wa_nil ⟨Nat.le_of_ble_eq_true rfl, ?_⟩⟩)))))))
        refine ⟨(g.1 + m, g.2 + m + t), x6, rfl, (n6 _ hb5).mono (by omega), ⟨by show 0 ≤ g.1 + m; omega, by show g.1 + m ≤ _; omega, by show 0 ≤ g.2 + m + t; omega, by show g.2 + m + t ≤ _; omega⟩, fun _ => leads_iff.mpr ?_⟩
        show g.1 ≤ g.1 + m ∧ g.2 ≤ g.2 + m + t ∧ (g.1 < g.1 + m ∨ _) ∧ (g.1 + m = g.1 ∨ g.2 + m + t = g.2 ∨ (g.1 + m - g.1 - (g.2 + m + t - g.2) < s ∧ g.2 + m + t - g.2 - (g.1 + m - g.1) < s))
        exact ⟨by omega, by omega, .inl (by omega), .inr (.inr ⟨by omega, by omega⟩)⟩
      refine ws_if (et_test (s := true) (ev_op (ev_var rfl) ev_int rd_eq)) (fun hc3 => ?_) (fun hc3 => ?_)
      · have hc3 := of_decide_eq_true hc3
        refine ws_setW (we_tup (wa_cons (we_ev (ev_var rfl) (wa_cons (we_op (we_great rfl rfl hb5 (by omega) fun t x6 t1 t2 n6 => we_ev ev_int ⟨_, rd_div ((bd_small (by decide) (by decide)).divOk (by decide)), wa_nil ⟨Nat.le_of_ble_eq_true rfl, ?_⟩⟩))))))
        exact ⟨(m, t / 100), x6, rfl, (n6 _ hb5).mono (by omega), ⟨by show 0 ≤ m; omega, by show m ≤ _; omega, by show 0 ≤ t / 100; omega, by show t / 100 ≤ _; omega⟩, fun z => by omega⟩
      · refine ws_next ⟨_, x5, rfl, hb5.mono (by omega), ⟨by show 0 ≤ g.1 + m; omega, by show g.1 + m ≤ _; omega, gc, by show g.2 ≤ _; omega⟩, fun _ => leads_iff.mpr ?_⟩
        show g.1 ≤ g.1 + m ∧ g.2 ≤ g.2 ∧ (g.1 < g.1 + m ∨ _) ∧ (g.1 + m = g.1 ∨ g.2 = g.2 ∨ _)
        exact ⟨by omega, by omega, .inl (by omega), .inr (.inl rfl)⟩
    rintro o ⟨h, x6, rfl, hb6, hpl, hlead⟩
    obtain ⟨p1, p2, p3, p4⟩ := id hpl
    have gT : plOk s h [.int s, pD h] := ⟨h1, h2, hpl, .inl rfl⟩
    have gG : plOk s g [.int s, pD g] := ⟨h1, h2, ⟨ga, by omega, gc, by omega⟩, .inl rfl⟩
    obtain ⟨Ω, hΩ⟩ : ∃ Ω, Ω = .l x6 :: T := ⟨_, rfl⟩
    have hL0 : (0 : Nat) ≠ Ω.length := by rw [hΩ]; exact fun z => by cases z
    rw [← hΩ]
    refine ws_seq (ws_set (c_wins (ea_cons (ev_var rfl) (ea_cons (ev_var rfl) ea_nil)) gT) ?_)
    refine ws_seq (ws_setN (en_lst (ea_cons (ev_tup (ea_cons ev_int (ea_cons ev_int ea_nil))) ea_nil)) ?_)
    obtain ⟨L, hL⟩ : ∃ L, Ω.length = L := ⟨_, rfl⟩
    have og : ∀ {w : Own}, (Ω ++ [w])[L]? = some w := fun {w} => hL ▸ ow_get
    have os : ∀ {w w' : Own}, (Ω ++ [w]).set L w' = Ω ++ [w'] := fun {w w'} => hL ▸ ow_set
    rw [hL] at hL0
    -- the values
    refine ws_seq (ws_for (ei_tup' (ev_var rfl))
      (fun j ρ ω => ∃ y11 y12, ρ = [none, some (.ow 0), some (.sh d0), some (.sh (.int s)), some (.sh (.int k)), some (.sh (pD g)), some (.sh (.int m)), some (.sh (.int kd)), some (.sh (pD h)), some (.sh (.lst ((winsF s false h).map pD))), some (.ow L), y11, y12, none, none, none, none, none] ∧ ω = Ω ++ [.l ((tvF s ([h.1, h.2].take j)).map pD)]) ⟨none, none, by rw [← hL]; rfl, rfl⟩ (fun j d ρ' ω' hd => ?_) (fun ρ' ω' => ?_))
    · obtain ⟨v, hv, rfl, v0, v1⟩ : ∃ v, ([h.1, h.2] : List Int)[j]? = some v ∧ d = .int v ∧ 0 ≤ v ∧ v ≤ 10 ^ 60 := by
        match j, hd with
        | 0, h => cases h; exact ⟨_, rfl, rfl, p1, p2⟩
        | 1, h => cases h; exact ⟨_, rfl, rfl, p3, p4⟩
        | n + 2, h => cases h
      have et : ([h.1, h.2] : List Int).take (j + 1) = ([h.1, h.2] : List Int).take j ++ [v] := by rw [List.take_add_one, hv]; rfl
      have tl := tv_len (s := s) (vs := ([h.1, h.2] : List Int).take j)
      have tl2 : (([h.1, h.2] : List Int).take j).length ≤ 2 := by rw [List.length_take]; exact Nat.min_le_right _ _
      rintro ⟨y11, y12, rfl, rfl⟩
      refine ⟨_, wg_name, ?_⟩
      refine ws_if (et_test (s := true) (ev_op (ev_var rfl) ev_int rd_gt)) (fun hc => ?_) (fun hc => ws_next ?_)
      · have hc := of_decide_eq_true hc
        obtain ⟨w0, w1⟩ := pwF_nn h1 v0
        have vb : Bd 200 v := bd60 v0 v1
        have wb : Bd 200 (pwF s v) := bd60 w0 (by omega)
        refine ws_seq (ws_set (c__law_pair_with (ea_cons (ev_var rfl) (ea_cons (ev_var rfl) ea_nil)) h1 h2 v0 (vb.mono (by decide))) ?_)
        refine ws_append (d := pD (plF s (pwF s v))) rfl og (ev_tup (ea_cons (c__law_low (ea_cons (ev_var rfl) (ea_cons (ev_var rfl) ea_nil)) h1 h2 w0 (wb.mono (by decide))) (ea_cons (ev_op (c__law_low (ea_cons (ev_var rfl) (ea_cons (ev_var rfl) ea_nil)) h1 h2 w0 (wb.mono (by decide))) (ev_op (ev_var rfl) (ev_var rfl) (rd_mul (mul_l (by omega) (by omega)))) rd_add) ea_nil))) (by rw [List.length_map]; omega) ⟨_, _, rfl, ?_⟩
        rw [os, et, tv_step, if_pos hc, List.map_append]
        rfl
      · have hc := of_decide_eq_false hc
        exact ⟨_, _, rfl, by rw [et, tv_step, if_neg hc]⟩
    rintro ⟨y11, y12, rfl, rfl⟩
    refine ws_seq (ws_set (ev_op (ev_cb (ea_cons (ev_var rfl) ea_nil) rc_maxT) (ev_cb (ea_cons (ev_var rfl) ea_nil) rc_minT) rd_sub) ?_)
    obtain ⟨dd, hD⟩ : ∃ dd, max h.1 h.2 - min h.1 h.2 = dd := ⟨_, rfl⟩
    rw [hD]
    have D0 : 0 ≤ dd := by omega
    have D1 : dd ≤ 10 ^ 60 := by omega
    obtain ⟨q0, hq0⟩ : ∃ q0, dd / s = q0 := ⟨_, rfl⟩
    have qn : 0 ≤ q0 := by rw [← hq0]; exact Int.ediv_nonneg D0 (by omega)
    have qm : q0 ≤ dd := by rw [← hq0]; exact Int.ediv_le_self s D0
    have hdiv : ∀ {b : Bool} {ρ : En} {ω : Ow}, ρ[13]? = some (some (.sh (.int dd))) → ρ[3]? = some (some (.sh (.int s))) → Ev K b (tOp rDivX (tVar 13) (tVar 3)) ρ ω (.int q0) := fun a b => (ev_op (ev_var a) (ev_var b) (rd_div (Bd.divOk (n := 30) (bd_small (by omega) (by omega)) (by omega)))).to (congrArg D.int hq0)
    have hA : tvF s [h.1, h.2] ++ [plF s q0, plF s (q0 + 1)] = (0, 0) :: trF s h := by
      unfold tvF trF
      rw [hD, hq0]
      rfl
    have hAl : (tvF s [h.1, h.2]).length ≤ 3 := tv_len
    refine ws_seq (ws_for (xs := rng q0 2) (by
        have z := ei_rngA (K := K) (s := true) (i := q0) (j := q0 + 2) (ea_cons (hdiv (ρ := [none, some (.ow 0), some (.sh d0), some (.sh (.int s)), some (.sh (.int k)), some (.sh (pD g)), some (.sh (.int m)), some (.sh (.int kd)), some (.sh (pD h)), some (.sh (.lst ((winsF s false h).map pD))), some (.ow L), y11, y12, some (.sh (.int dd)), none, none, none, none]) (ω := Ω ++ [.l ((tvF s [h.1, h.2]).map pD)]) rfl rfl) (ea_cons (ev_op (hdiv rfl rfl) ev_int rd_add) ea_nil))
        rw [show (q0 + 2 - q0).toNat = 2 by omega] at z
        exact z)
      (fun j ρ ω => ∃ y12, ρ = [none, some (.ow 0), some (.sh d0), some (.sh (.int s)), some (.sh (.int k)), some (.sh (pD g)), some (.sh (.int m)), some (.sh (.int kd)), some (.sh (pD h)), some (.sh (.lst ((winsF s false h).map pD))), some (.ow L), y11, y12, some (.sh (.int dd)), none, none, none, none] ∧ ω = Ω ++ [.l ((tvF s [h.1, h.2] ++ [plF s q0, plF s (q0 + 1)].take j).map pD)]) ⟨_, rfl, by rw [List.take_zero, List.append_nil]; rfl⟩ (fun j d ρ' ω' hd => ?_) (fun ρ' ω' => ?_))
    · obtain ⟨v, hv, rfl, v0, v1⟩ : ∃ v, ([plF s q0, plF s (q0 + 1)] : List ZZ)[j]? = some (plF s v) ∧ d = .int v ∧ 0 ≤ v ∧ v ≤ 10 ^ 60 + 1 := by
        have hj := (List.getElem?_eq_some_iff.mp hd).1
        rw [rng_len] at hj
        rw [rng_get hj] at hd
        cases hd
        match j, hj with
        | 0, _ => exact ⟨q0, rfl, by rw [show q0 + ((0 : Nat) : Int) = q0 by omega], qn, by omega⟩
        | 1, _ => exact ⟨q0 + 1, rfl, rfl, by omega, by omega⟩
      have hj : j < 2 := (List.getElem?_eq_some_iff.mp hv).1
      have et : ([plF s q0, plF s (q0 + 1)] : List ZZ).take (j + 1) = ([plF s q0, plF s (q0 + 1)] : List ZZ).take j ++ [plF s v] := by rw [List.take_add_one, hv]; rfl
      have vb : Bd 400 v := bd_near v0 (by omega)
      rintro ⟨y12, rfl, rfl⟩
      refine ⟨_, wg_name, ?_⟩
      refine ws_append (d := pD (plF s v)) rfl og (ev_tup (ea_cons (c__law_low (ea_cons (ev_var rfl) (ea_cons (ev_var rfl) ea_nil)) h1 h2 v0 (vb.mono (by decide))) (ea_cons (ev_op (c__law_low (ea_cons (ev_var rfl) (ea_cons (ev_var rfl) ea_nil)) h1 h2 v0 (vb.mono (by decide))) (ev_op (ev_var rfl) (ev_var rfl) (rd_mul (mul_l (by omega) (by omega)))) rd_add) ea_nil))) (by rw [List.length_map, List.length_append, List.length_take]; omega) ⟨_, rfl, ?_⟩
      rw [os, et, ← List.append_assoc, List.map_append (l₂ := [plF s v])]
      rfl
    rw [rng_len]
    rintro ⟨y12, rfl, rfl⟩
    rw [show ([plF s q0, plF s (q0 + 1)] : List ZZ).take 2 = [plF s q0, plF s (q0 + 1)] from rfl, hA]
    refine ws_lose 11 (ws_lose 12 (ws_give L og (fun z => Own.noConfusion z) ?_))
    rw [os]
    show WS K false _ (thaw L _ [none, some (.ow 0), some (.sh d0), some (.sh (.int s)), some (.sh (.int k)), some (.sh (pD g)), some (.sh (.int m)), some (.sh (.int kd)), some (.sh (pD h)), some (.sh (.lst ((winsF s false h).map pD))), some (.ow L), none, none, some (.sh (.int dd)), none, none, none, none]) _ _
    simp only [thaw_none, thaw_sh, thaw_own, thaw_oth hL0, thaw_nil]
    obtain ⟨Ω2, hΩ2⟩ : ∃ Ω2, Ω2 = Ω ++ [.gone] := ⟨_, rfl⟩
    rw [← hΩ2]
    refine ws_seq (ws_setN (en_lst ea_nil) ?_)
    have hM0 : (0 : Nat) ≠ Ω2.length := by rw [hΩ2, hΩ]; exact fun z => by cases z
    obtain ⟨M, hM⟩ : ∃ M, Ω2.length = M := ⟨_, rfl⟩
    have og2 : ∀ {w : Own}, (Ω2 ++ [w])[M]? = some w := fun {w} => hM ▸ ow_get
    have os2 : ∀ {w w' : Own}, (Ω2 ++ [w]).set M w' = Ω2 ++ [w'] := fun {w w'} => hM ▸ ow_set
    rw [hM] at hM0
    have tl0 : ((0, 0) :: trF s h).length ≤ 5 := by
      rw [← hA, List.length_append]
      show _ + 2 ≤ 5
      omega
    refine ws_seq (ws_for (ei_list' (ev_var rfl))
      (fun j ρ ω => ∃ acc y15 y16 y17, ρ = [none, some (.ow 0), some (.sh d0), some (.sh (.int s)), some (.sh (.int k)), some (.sh (pD g)), some (.sh (.int m)), some (.sh (.int kd)), some (.sh (pD h)), some (.sh (.lst ((winsF s false h).map pD))), some (.sh (.lst (((0, 0) :: trF s h).map pD))), none, none, some (.sh (.int dd)), some (.ow M), y15, y16, y17] ∧ ω = Ω2 ++ [.l (acc.map pD)] ∧ Due s h (((0, 0) :: trF s h).take j) acc) ⟨[], none, none, none, by rw [← hM]; rfl, rfl, due_nil⟩ (fun j d ρ' ω' hd => ?_) (fun ρ' ω' => ?_))
    · rw [List.getElem?_map] at hd
      obtain ⟨q, hq, rfl⟩ := Option.map_eq_some_iff.mp hd
      have et : ((0, 0) :: trF s h).take (j + 1) = ((0, 0) :: trF s h).take j ++ [q] := by rw [List.take_add_one, hq]; rfl
      have qs := tr_small h1 h2 hpl (List.mem_of_getElem? hq)
      have tl : (((0, 0) :: trF s h).take j).length ≤ 5 := by rw [List.length_take]; omega
      rintro ⟨acc, y15, y16, y17, rfl, rfl, hdue⟩
      have al := hdue.2.1
      refine ⟨_, wg_tup (wgs_cons wg_name (wgs_cons wg_name wgs_nil)) rfl, ?_⟩
      have hbh : bdP h := pl_bd ⟨p1, by omega, p3, by omega⟩
      refine ws_for (xs := ([q, sw q] : List ZZ).map pD) (ei_tup' (ev_tup (ea_cons (ev_tup (ea_cons (ev_var rfl) (ea_cons (ev_var rfl) ea_nil))) (ea_cons (ev_tup (ea_cons (ev_var rfl) (ea_cons (ev_var rfl) ea_nil))) ea_nil))))
        (fun i ρ ω => ∃ a2 y17, ρ = [none, some (.ow 0), some (.sh d0), some (.sh (.int s)), some (.sh (.int k)), some (.sh (pD g)), some (.sh (.int m)), some (.sh (.int kd)), some (.sh (pD h)), some (.sh (.lst ((winsF s false h).map pD))), some (.sh (.lst (((0, 0) :: trF s h).map pD))), none, none, some (.sh (.int dd)), some (.ow M), some (.sh (.int q.1)), some (.sh (.int q.2)), y17] ∧ ω = Ω2 ++ [.l (a2.map pD)] ∧ a2.length ≤ acc.length + i ∧ a2 = List.foldl (duS s h) acc (([q, sw q] : List ZZ).take i)) ⟨acc, y17, rfl, rfl, by omega, rfl⟩ (fun i d ρ' ω' hd => ?_) (fun ρ' ω' => ?_)
      · rw [List.getElem?_map] at hd
        obtain ⟨x, hx, rfl⟩ := Option.map_eq_some_iff.mp hd
        have hi2 : i < 2 := (List.getElem?_eq_some_iff.mp hx).1
        have et2 : ([q, sw q] : List ZZ).take (i + 1) = ([q, sw q] : List ZZ).take i ++ [x] := by rw [List.take_add_one, hx]; rfl
        have hbx : bdP x := by
          have := List.mem_of_getElem? hx
          simp only [List.mem_cons, List.not_mem_nil, or_false] at this
          rcases this with rfl | rfl
          · exact pl_bd qs
          · exact pl_bd ⟨qs.2.2.1, qs.2.2.2, qs.1, qs.2.1⟩
        rintro ⟨a2, y17, rfl, rfl, g2, g3⟩
        refine ⟨_, wg_name, ?_⟩
        refine ws_if (et_and (et_test (s := false) (ev_op (ev_var rfl) (ev_varO rfl og2) (rd_notinS (n := 3) (m := 3) okI_pD (okIs_pairs a2)))) (fun _ => et_trub (s := true) (c__law_leads (p := h) (q := x) (ea_cons (ev_var rfl) (ea_cons (ev_var rfl) (ea_cons (ev_var rfl) ea_nil))) hbh hbx))) (fun hc => ?_) (fun hc => ws_next ?_)
        · rw [any_pD, Bool.and_eq_true, Bool.not_eq_true', decide_eq_false_iff_not] at hc
          refine ws_append (d := pD x) rfl og2 (ev_var rfl) (by rw [List.length_map]; omega) ⟨a2 ++ [x], _, rfl, ?_, by rw [List.length_append]; show _ + 1 ≤ _; omega, ?_⟩
          · rw [os2, List.map_append]; rfl
          · rw [et2, List.foldl_append, ← g3]
            show _ = duS s h a2 x
            unfold duS
            rw [if_pos hc]
        · rw [any_pD] at hc
          refine ⟨a2, _, rfl, rfl, by omega, ?_⟩
          rw [et2, List.foldl_append, ← g3]
          show _ = duS s h a2 x
          unfold duS
          rw [if_neg]
          rintro ⟨z1, z2⟩
          rw [decide_eq_false z1, z2] at hc
          cases hc
      · rw [List.length_map]
        rintro ⟨a2, y17, rfl, rfl, g2, g3⟩
        refine ⟨a2, _, _, _, rfl, rfl, ?_⟩
        rw [g3, et]
        exact due_step hdue
    rw [List.length_map]
    rintro ⟨acc, y15, y16, y17, rfl, rfl, hdue⟩
    rw [List.take_length] at hdue
    refine ws_lose 15 (ws_lose 16 (ws_lose 17 (ws_give M og2 (fun z => Own.noConfusion z) ?_)))
    rw [os2]
    show WS K false _ (thaw M _ [none, some (.ow 0), some (.sh d0), some (.sh (.int s)), some (.sh (.int k)), some (.sh (pD g)), some (.sh (.int m)), some (.sh (.int kd)), some (.sh (pD h)), some (.sh (.lst ((winsF s false h).map pD))), some (.sh (.lst (((0, 0) :: trF s h).map pD))), none, none, some (.sh (.int dd)), some (.ow M), none, none, none]) _ _
    simp only [thaw_none, thaw_sh, thaw_own, thaw_oth hM0, thaw_nil]
    have hperm := due_wins h1 p1 p3 hdue
    have wl : (winsF s false h).length ≤ 1000000 := by
      rw [hperm.length_eq]
      have := hdue.2.1
      omega
    have wp : ∀ q, q ∈ winsF s false h → (0 ≤ q.1 ∧ q.1 ≤ 10 ^ 60 ∧ 0 ≤ q.2 ∧ q.2 ≤ 10 ^ 60) ∧ lostF s false q = true := fun q hq => by
      obtain ⟨a, b, c, d⟩ := mem_wins.mp hq
      have := leads_iff.mp c
      exact ⟨⟨a, by omega, b, by omega⟩, d⟩
    refine ws_seq (ws_if (c := false) ((et_not (et_trub (s := true) (c_same (x := .lst ((winsF s false h).map pD)) (ea_cons (ev_var rfl) (ea_cons (ev_cb (ea_cons (ev_var rfl) ea_nil) (rc_sortP hperm (srt_wins s false h))) ea_nil)) (py_pairs _) (ok_pairs wl)))).to (by rw [sameD_self]; rfl)) (fun z => Bool.noConfusion z) (fun _ => ws_next ?_))
    refine ws_seq (ws_if (c := false) ((et_and (b := false) (et_test (s := true) (ev_op (ev_var rfl) ev_int rd_lt)) (fun hc => EvT.to (et_test (s := true) (ev_op (ev_var rfl) (ev_var rfl) (rd_notinS (n := 3) (m := 3) okI_pD (okIs_pairs _)))) (by
      rw [any_pD, decide_eq_true (mem_wins.mpr ⟨ga, gc, hlead (of_decide_eq_true hc), gl⟩)]; rfl))).to (by rw [Bool.and_false])) (fun z => Bool.noConfusion z) (fun _ => ws_next ?_))
    refine ws_seq (ws_if (c := false) ((et_not (et_trub (s := true) (c_same (x := .lst [.bl (decide (winsF s false h = [])), .bl true]) (ea_cons (ev_lst (ea_cons (ev_op (ev_var rfl) (ev_lst ea_nil) (rd_eqN _)) (ea_cons ((ev_cb (ea_cons ((ev_map (winsF s false h) pD (fun _ => D.bl true) (ei_list' (ev_var rfl)) wl (fun q hq => ⟨_, wgw_name, (c_is_lostF (i := q.1) (j := q.2) (ea_cons (ev_var rfl) (ea_cons (ev_var rfl) ea_nil)) h1 h2 (wp q hq).1.1 (wp q hq).1.2.1 (wp q hq).1.2.2.1 (wp q hq).1.2.2.2).to (congrArg D.bl (wp q hq).2)⟩)).to (d1 := .lst (((winsF s false h).map fun _ => true).map D.bl)) (by rw [List.map_map]; rfl)) ea_nil) rc_all).to (congrArg D.bl (by rw [List.all_eq_true]; intro x hx; obtain ⟨_, _, rfl⟩ := List.mem_map.mp hx; rfl))) ea_nil))) (ea_cons (ev_lst (ea_cons ((c_is_lostF (i := h.1) (j := h.2) (ea_cons (ev_var rfl) (ea_cons (ev_var rfl) ea_nil)) h1 h2 p1 p2 p3 p4).to (congrArg D.bl (wins_no1 p1 p3).symm)) (ea_cons ev_bl ea_nil))) ea_nil)) rfl (ok_lst ⟨ok_bl, ok_bl, trivial⟩)))).to (by rw [sameD_self]; rfl)) (fun z => Bool.noConfusion z) (fun _ => ws_next ?_))
    refine ws_seq (ws_if (c := false) ((et_and (b := false) (et_test (s := true) (ev_op (ev_var rfl) (ev_lst ea_nil) (rd_neN _))) (fun hc => ?_)).to (by rw [Bool.and_false])) (fun z => Bool.noConfusion z) (fun _ => ws_next ?_))
    · cases hw : winsF s false h with
      | nil => rw [hw] at hc; cases hc
      | cons q r => exact EvT.to (et_not (et_trub (s := true) (c_same (x := pD q) (ea_cons (c_answer (ea_cons (ev_var rfl) (ea_cons (ev_var rfl) ea_nil)) gT hw) (ea_cons (ev_op (ev_var rfl) ev_int (rd_ixL fst_at)) ea_nil)) rfl (pD_ok (n := 5) q)))) (by first | (rw [sameD_self]; done) | (rw [sameD_self]; rfl))
    have wg0 : winsF s false g = [] := (wins_nil ga gc).mpr (.inl gl)
    have r1 : X_answer ad [.int s, pD g] (.ref (ad i_CanNot)) := ⟨s, g, gG, wg0, rfl⟩
    refine ws_if (c := false) ((et_not (et_trub (s := true) (c_same (x := .lst [.lst [], .bl true]) (ea_cons (ev_lst (ea_cons ((c_wins (ea_cons (ev_var rfl) (ea_cons (ev_var rfl) ea_nil)) gG).to (by rw [wg0]; rfl)) (ea_cons (c_refused (n := 0) (ea_cons ev_raw (ea_cons (ev_tup (ea_cons (ev_var rfl) (ea_cons (ev_var rfl) ea_nil))) (ea_cons ev_str ea_nil))) rfl (by decide) (door_answer G) (Nat.le_of_ble_eq_true rfl) (Nat.le_of_ble_eq_true rfl) (fun d hd => (b_answer (ad := ad) _ ⟨d, hd⟩).2.1 _ r1) ⟨_, r1⟩ (fun c ⟨_, _, _, _, e⟩ => e)) ea_nil))) (ea_cons (ev_lst (ea_cons (ev_lst ea_nil) (ea_cons ev_bl ea_nil))) ea_nil)) rfl (ok_lst ⟨ok_lst trivial, ok_bl, trivial⟩)))).to (by rw [sameD_self]; rfl)) (fun z => Bool.noConfusion z) (fun _ => ws_next ?_)
    refine ⟨x6, T ++ [.gone] ++ [.gone], _, _, _, _, _, _, _, _, _, _, _, _, _, _, _, _, rfl, ?_, hb6.mono (by omega)⟩
    rw [hΩ2, hΩ]
    rfl
  · rintro ⟨xs, T, y2, y3, y4, y5, y6, y7, y8, y9, y10, y11, y12, y13, y14, y15, y16, y17, rfl, rfl, hb⟩
    exact ws_ret ev_bl rfl
theorem bw_law : ∀ ns : List Int, ns.length ≤ 63 → WE K (b_law K) (args N_law.length [.fro (ns.map .int)]) [] fun d _ => ∃ xs, Box 0 xs ∧ d = .lst xs := fun ns hl =>
  we_call (wa_cons (we_call (wa_cons (we_ev (ev_var rfl) (wa_cons (we_ev ev_int (wa_nil ⟨⟨_, ns, 0, hl, rfl, rfl⟩, fun d ⟨_, m, _, _, e⟩ => by
    subst e
    exact (wa_cons (we_ev ev_int (wa_nil ⟨⟨_, m, rfl, rfl⟩, fun d' ⟨m', _, e2⟩ => ⟨_, box_ok, e2⟩⟩)))⟩)))))))
end
theorem all_mk {l : PySem.W.OpenLaw} {w : World} {K : PySem.W.Frag} {h : Heap} {mg : Str → Option Value} {fa f1 f2 f3 f4 f5 f6 f7 f8 f9 f10 f11 f12 f13 f14 f15 f16 f17 f18 f19 f20 f21 f22 f23 f24 f25 f26 f27 f28 f29 f30 f31 f32 f33 f34 f35 f36 : Addr} (X : K.In h) (G : h.Ns mainGlobals mg) (hfa : mg "law" = some (.ref fa))
    {C_CanNot C_TooMany C_Unfit : Addr}
    {od1 an1 od2 an2 od3 an3 od4 an4 od5 an5 od6 an6 od7 an7 od8 an8 od9 an9 od10 an10 od11 an11 od12 an12 od13 an13 od14 an14 od15 an15 od16 an16 od17 an17 od18 an18 od19 an19 od20 an20 od21 an21 od22 an22 od23 an23 od24 an24 od25 an25 od26 an26 od27 an27 od28 an28 od29 an29 od30 an30 od31 an31 od32 an32 od33 an33 od34 an34 od35 an35 od36 an36 : Option Addr} {sl1 sl2 sl3 sl4 sl5 sl6 sl7 sl8 sl9 sl10 sl11 sl12 sl13 sl14 sl15 sl16 sl17 sl18 sl19 sl20 sl21 sl22 sl23 sl24 sl25 sl26 sl27 sl28 sl29 sl30 sl31 sl32 sl33 sl34 sl35 sl36 : Array (Option Value)} {oc1 kV1 dc1 pm1 cd1 ct1 oc2 kV2 dc2 pm2 cd2 ct2 oc3 kV3 dc3 pm3 cd3 ct3 oc4 kV4 dc4 pm4 cd4 ct4 oc5 kV5 dc5 pm5 cd5 ct5 oc6 kV6 dc6 pm6 cd6 ct6 oc7 kV7 dc7 pm7 cd7 ct7 oc8 kV8 dc8 pm8 cd8 ct8 oc9 kV9 dc9 pm9 cd9 ct9 oc10 kV10 dc10 pm10 cd10 ct10 oc11 kV11 dc11 pm11 cd11 ct11 oc12 kV12 dc12 pm12 cd12 ct12 oc13 kV13 dc13 pm13 cd13 ct13 oc14 kV14 dc14 pm14 cd14 ct14 oc15 kV15 dc15 pm15 cd15 ct15 oc16 kV16 dc16 pm16 cd16 ct16 oc17 kV17 dc17 pm17 cd17 ct17 oc18 kV18 dc18 pm18 cd18 ct18 oc19 kV19 dc19 pm19 cd19 ct19 oc20 kV20 dc20 pm20 cd20 ct20 oc21 kV21 dc21 pm21 cd21 ct21 oc22 kV22 dc22 pm22 cd22 ct22 oc23 kV23 dc23 pm23 cd23 ct23 oc24 kV24 dc24 pm24 cd24 ct24 oc25 kV25 dc25 pm25 cd25 ct25 oc26 kV26 dc26 pm26 cd26 ct26 oc27 kV27 dc27 pm27 cd27 ct27 oc28 kV28 dc28 pm28 cd28 ct28 oc29 kV29 dc29 pm29 cd29 ct29 oc30 kV30 dc30 pm30 cd30 ct30 oc31 kV31 dc31 pm31 cd31 ct31 oc32 kV32 dc32 pm32 cd32 ct32 oc33 kV33 dc33 pm33 cd33 ct33 oc34 kV34 dc34 pm34 cd34 ct34 oc35 kV35 dc35 pm35 cd35 ct35 oc36 kV36 dc36 pm36 cd36 ct36 : Value}
    {t_MOST_SLACK t_GREAT : _}
    (a1 : PySem.W.nsIn K mainGlobals "is_number" = some (some (.ref f1))) (l1 : K.lookup f1 = some ⟨oc1, od1, .func (PySem.W.fnOf "is_number" "is_number" (defArgs s_is_number) (defBody s_is_number) (defScope s_is_number) .none kV1 dc1 pm1 an1 cd1 ct1), sl1⟩) (c1 : PySem.W.codeIn K cd1 "is_number" = true) (k1 : PySem.W.keepIn K (.ref f1) = true)
    (a2 : PySem.W.nsIn K mainGlobals "is_within" = some (some (.ref f2))) (l2 : K.lookup f2 = some ⟨oc2, od2, .func (PySem.W.fnOf "is_within" "is_within" (defArgs s_is_within) (defBody s_is_within) (defScope s_is_within) .none kV2 dc2 pm2 an2 cd2 ct2), sl2⟩) (c2 : PySem.W.codeIn K cd2 "is_within" = true) (k2 : PySem.W.keepIn K (.ref f2) = true)
    (a3 : PySem.W.nsIn K mainGlobals "is_long" = some (some (.ref f3))) (l3 : K.lookup f3 = some ⟨oc3, od3, .func (PySem.W.fnOf "is_long" "is_long" (defArgs s_is_long) (defBody s_is_long) (defScope s_is_long) .none kV3 dc3 pm3 an3 cd3 ct3), sl3⟩) (c3 : PySem.W.codeIn K cd3 "is_long" = true) (k3 : PySem.W.keepIn K (.ref f3) = true)
    (a4 : PySem.W.nsIn K mainGlobals "are_within" = some (some (.ref f4))) (l4 : K.lookup f4 = some ⟨oc4, od4, .func (PySem.W.fnOf "are_within" "are_within" (defArgs s_are_within) (defBody s_are_within) (defScope s_are_within) .none kV4 dc4 pm4 an4 cd4 ct4), sl4⟩) (c4 : PySem.W.codeIn K cd4 "are_within" = true) (k4 : PySem.W.keepIn K (.ref f4) = true)
    (a5 : PySem.W.nsIn K mainGlobals "tupled" = some (some (.ref f5))) (l5 : K.lookup f5 = some ⟨oc5, od5, .func (PySem.W.fnOf "tupled" "tupled" (defArgs s_tupled) (defBody s_tupled) (defScope s_tupled) .none kV5 dc5 pm5 an5 cd5 ct5), sl5⟩) (c5 : PySem.W.codeIn K cd5 "tupled" = true) (k5 : PySem.W.keepIn K (.ref f5) = true)
    (a6 : PySem.W.nsIn K mainGlobals "sure_within" = some (some (.ref f6))) (l6 : K.lookup f6 = some ⟨oc6, od6, .func (PySem.W.fnOf "sure_within" "sure_within" (defArgs s_sure_within) (defBody s_sure_within) (defScope s_sure_within) .none kV6 dc6 pm6 an6 cd6 ct6), sl6⟩) (c6 : PySem.W.codeIn K cd6 "sure_within" = true) (k6 : PySem.W.keepIn K (.ref f6) = true)
    (a7 : PySem.W.nsIn K mainGlobals "sure_slack" = some (some (.ref f7))) (l7 : K.lookup f7 = some ⟨oc7, od7, .func (PySem.W.fnOf "sure_slack" "sure_slack" (defArgs s_sure_slack) (defBody s_sure_slack) (defScope s_sure_slack) .none kV7 dc7 pm7 an7 cd7 ct7), sl7⟩) (c7 : PySem.W.codeIn K cd7 "sure_slack" = true) (k7 : PySem.W.keepIn K (.ref f7) = true)
    (a8 : PySem.W.nsIn K mainGlobals "sure_place" = some (some (.ref f8))) (l8 : K.lookup f8 = some ⟨oc8, od8, .func (PySem.W.fnOf "sure_place" "sure_place" (defArgs s_sure_place) (defBody s_sure_place) (defScope s_sure_place) .none kV8 dc8 pm8 an8 cd8 ct8), sl8⟩) (c8 : PySem.W.codeIn K cd8 "sure_place" = true) (k8 : PySem.W.keepIn K (.ref f8) = true)
    (a9 : PySem.W.nsIn K mainGlobals "floor_of" = some (some (.ref f9))) (l9 : K.lookup f9 = some ⟨oc9, od9, .func (PySem.W.fnOf "floor_of" "floor_of" (defArgs s_floor_of) (defBody s_floor_of) (defScope s_floor_of) .none kV9 dc9 pm9 an9 cd9 ct9), sl9⟩) (c9 : PySem.W.codeIn K cd9 "floor_of" = true) (k9 : PySem.W.keepIn K (.ref f9) = true)
    (a10 : PySem.W.nsIn K mainGlobals "low_in" = some (some (.ref f10))) (l10 : K.lookup f10 = some ⟨oc10, od10, .func (PySem.W.fnOf "low_in" "low_in" (defArgs s_low_in) (defBody s_low_in) (defScope s_low_in) .none kV10 dc10 pm10 an10 cd10 ct10), sl10⟩) (c10 : PySem.W.codeIn K cd10 "low_in" = true) (k10 : PySem.W.keepIn K (.ref f10) = true)
    (a11 : PySem.W.nsIn K mainGlobals "high_in" = some (some (.ref f11))) (l11 : K.lookup f11 = some ⟨oc11, od11, .func (PySem.W.fnOf "high_in" "high_in" (defArgs s_high_in) (defBody s_high_in) (defScope s_high_in) .none kV11 dc11 pm11 an11 cd11 ct11), sl11⟩) (c11 : PySem.W.codeIn K cd11 "high_in" = true) (k11 : PySem.W.keepIn K (.ref f11) = true)
    (a12 : PySem.W.nsIn K mainGlobals "other_low_in" = some (some (.ref f12))) (l12 : K.lookup f12 = some ⟨oc12, od12, .func (PySem.W.fnOf "other_low_in" "other_low_in" (defArgs s_other_low_in) (defBody s_other_low_in) (defScope s_other_low_in) .none kV12 dc12 pm12 an12 cd12 ct12), sl12⟩) (c12 : PySem.W.codeIn K cd12 "other_low_in" = true) (k12 : PySem.W.keepIn K (.ref f12) = true)
    (a13 : PySem.W.nsIn K mainGlobals "other_high_in" = some (some (.ref f13))) (l13 : K.lookup f13 = some ⟨oc13, od13, .func (PySem.W.fnOf "other_high_in" "other_high_in" (defArgs s_other_high_in) (defBody s_other_high_in) (defScope s_other_high_in) .none kV13 dc13 pm13 an13 cd13 ct13), sl13⟩) (c13 : PySem.W.codeIn K cd13 "other_high_in" = true) (k13 : PySem.W.keepIn K (.ref f13) = true)
    (a14 : PySem.W.nsIn K mainGlobals "number_between" = some (some (.ref f14))) (l14 : K.lookup f14 = some ⟨oc14, od14, .func (PySem.W.fnOf "number_between" "number_between" (defArgs s_number_between) (defBody s_number_between) (defScope s_number_between) .none kV14 dc14 pm14 an14 cd14 ct14), sl14⟩) (c14 : PySem.W.codeIn K cd14 "number_between" = true) (k14 : PySem.W.keepIn K (.ref f14) = true)
    (a15 : PySem.W.nsIn K mainGlobals "is_lost" = some (some (.ref f15))) (l15 : K.lookup f15 = some ⟨oc15, od15, .func (PySem.W.fnOf "is_lost" "is_lost" (defArgs s_is_lost) (defBody s_is_lost) (defScope s_is_lost) .none kV15 dc15 pm15 an15 cd15 ct15), sl15⟩) (c15 : PySem.W.codeIn K cd15 "is_lost" = true) (k15 : PySem.W.keepIn K (.ref f15) = true)
    (a16 : PySem.W.nsIn K mainGlobals "leads" = some (some (.ref f16))) (l16 : K.lookup f16 = some ⟨oc16, od16, .func (PySem.W.fnOf "leads" "leads" (defArgs s_leads) (defBody s_leads) (defScope s_leads) .none kV16 dc16 pm16 an16 cd16 ct16), sl16⟩) (c16 : PySem.W.codeIn K cd16 "leads" = true) (k16 : PySem.W.keepIn K (.ref f16) = true)
    (a17 : PySem.W.nsIn K mainGlobals "least_from" = some (some (.ref f17))) (l17 : K.lookup f17 = some ⟨oc17, od17, .func (PySem.W.fnOf "least_from" "least_from" (defArgs s_least_from) (defBody s_least_from) (defScope s_least_from) .none kV17 dc17 pm17 an17 cd17 ct17), sl17⟩) (c17 : PySem.W.codeIn K cd17 "least_from" = true) (k17 : PySem.W.keepIn K (.ref f17) = true)
    (a18 : PySem.W.nsIn K mainGlobals "pair_of" = some (some (.ref f18))) (l18 : K.lookup f18 = some ⟨oc18, od18, .func (PySem.W.fnOf "pair_of" "pair_of" (defArgs s_pair_of) (defBody s_pair_of) (defScope s_pair_of) .none kV18 dc18 pm18 an18 cd18 ct18), sl18⟩) (c18 : PySem.W.codeIn K cd18 "pair_of" = true) (k18 : PySem.W.keepIn K (.ref f18) = true)
    (a19 : PySem.W.nsIn K mainGlobals "numbers_near" = some (some (.ref f19))) (l19 : K.lookup f19 = some ⟨oc19, od19, .func (PySem.W.fnOf "numbers_near" "numbers_near" (defArgs s_numbers_near) (defBody s_numbers_near) (defScope s_numbers_near) .none kV19 dc19 pm19 an19 cd19 ct19), sl19⟩) (c19 : PySem.W.codeIn K cd19 "numbers_near" = true) (k19 : PySem.W.keepIn K (.ref f19) = true)
    (a20 : PySem.W.nsIn K mainGlobals "wins_in" = some (some (.ref f20))) (l20 : K.lookup f20 = some ⟨oc20, od20, .func (PySem.W.fnOf "wins_in" "wins_in" (defArgs s_wins_in) (defBody s_wins_in) (defScope s_wins_in) .none kV20 dc20 pm20 an20 cd20 ct20), sl20⟩) (c20 : PySem.W.codeIn K cd20 "wins_in" = true) (k20 : PySem.W.keepIn K (.ref f20) = true)
    (a21 : PySem.W.nsIn K mainGlobals "wins" = some (some (.ref f21))) (l21 : K.lookup f21 = some ⟨oc21, od21, .func (PySem.W.fnOf "wins" "wins" (defArgs s_wins) (defBody s_wins) (defScope s_wins) .none kV21 dc21 pm21 an21 cd21 ct21), sl21⟩) (c21 : PySem.W.codeIn K cd21 "wins" = true) (k21 : PySem.W.keepIn K (.ref f21) = true)
    (a22 : PySem.W.nsIn K mainGlobals "answer" = some (some (.ref f22))) (l22 : K.lookup f22 = some ⟨oc22, od22, .func (PySem.W.fnOf "answer" "answer" (defArgs s_answer) (defBody s_answer) (defScope s_answer) .none kV22 dc22 pm22 an22 cd22 ct22), sl22⟩) (c22 : PySem.W.codeIn K cd22 "answer" = true) (k22 : PySem.W.keepIn K (.ref f22) = true)
    (a23 : PySem.W.nsIn K mainGlobals "_law_box" = some (some (.ref f23))) (l23 : K.lookup f23 = some ⟨oc23, od23, .func (PySem.W.fnOf "_law_box" "_law_box" (defArgs s__law_box) (defBody s__law_box) (defScope s__law_box) .none kV23 dc23 pm23 an23 cd23 ct23), sl23⟩) (c23 : PySem.W.codeIn K cd23 "_law_box" = true) (k23 : PySem.W.keepIn K (.ref f23) = true)
    (a24 : PySem.W.nsIn K mainGlobals "_law_take" = some (some (.ref f24))) (l24 : K.lookup f24 = some ⟨oc24, od24, .func (PySem.W.fnOf "_law_take" "_law_take" (defArgs s__law_take) (defBody s__law_take) (defScope s__law_take) .none kV24 dc24 pm24 an24 cd24 ct24), sl24⟩) (c24 : PySem.W.codeIn K cd24 "_law_take" = true) (k24 : PySem.W.keepIn K (.ref f24) = true)
    (a25 : PySem.W.nsIn K mainGlobals "_law_cells" = some (some (.ref f25))) (l25 : K.lookup f25 = some ⟨oc25, od25, .func (PySem.W.fnOf "_law_cells" "_law_cells" (defArgs s__law_cells) (defBody s__law_cells) (defScope s__law_cells) .none kV25 dc25 pm25 an25 cd25 ct25), sl25⟩) (c25 : PySem.W.codeIn K cd25 "_law_cells" = true) (k25 : PySem.W.keepIn K (.ref f25) = true)
    (a26 : PySem.W.nsIn K mainGlobals "_law_of" = some (some (.ref f26))) (l26 : K.lookup f26 = some ⟨oc26, od26, .func (PySem.W.fnOf "_law_of" "_law_of" (defArgs s__law_of) (defBody s__law_of) (defScope s__law_of) .none kV26 dc26 pm26 an26 cd26 ct26), sl26⟩) (c26 : PySem.W.codeIn K cd26 "_law_of" = true) (k26 : PySem.W.keepIn K (.ref f26) = true)
    (a27 : PySem.W.nsIn K mainGlobals "_law_same" = some (some (.ref f27))) (l27 : K.lookup f27 = some ⟨oc27, od27, .func (PySem.W.fnOf "_law_same" "_law_same" (defArgs s__law_same) (defBody s__law_same) (defScope s__law_same) .none kV27 dc27 pm27 an27 cd27 ct27), sl27⟩) (c27 : PySem.W.codeIn K cd27 "_law_same" = true) (k27 : PySem.W.keepIn K (.ref f27) = true)
    (a28 : PySem.W.nsIn K mainGlobals "_law_call" = some (some (.ref f28))) (l28 : K.lookup f28 = some ⟨oc28, od28, .func (PySem.W.fnOf "_law_call" "_law_call" (defArgs s__law_call) (defBody s__law_call) (defScope s__law_call) .none kV28 dc28 pm28 an28 cd28 ct28), sl28⟩) (c28 : PySem.W.codeIn K cd28 "_law_call" = true) (k28 : PySem.W.keepIn K (.ref f28) = true)
    (a29 : PySem.W.nsIn K mainGlobals "_law_root" = some (some (.ref f29))) (l29 : K.lookup f29 = some ⟨oc29, od29, .func (PySem.W.fnOf "_law_root" "_law_root" (defArgs s__law_root) (defBody s__law_root) (defScope s__law_root) .none kV29 dc29 pm29 an29 cd29 ct29), sl29⟩) (c29 : PySem.W.codeIn K cd29 "_law_root" = true) (k29 : PySem.W.keepIn K (.ref f29) = true)
    (a30 : PySem.W.nsIn K mainGlobals "_law_great" = some (some (.ref f30))) (l30 : K.lookup f30 = some ⟨oc30, od30, .func (PySem.W.fnOf "_law_great" "_law_great" (defArgs s__law_great) (defBody s__law_great) (defScope s__law_great) .none kV30 dc30 pm30 an30 cd30 ct30), sl30⟩) (c30 : PySem.W.codeIn K cd30 "_law_great" = true) (k30 : PySem.W.keepIn K (.ref f30) = true)
    (a31 : PySem.W.nsIn K mainGlobals "_law_leads" = some (some (.ref f31))) (l31 : K.lookup f31 = some ⟨oc31, od31, .func (PySem.W.fnOf "_law_leads" "_law_leads" (defArgs s__law_leads) (defBody s__law_leads) (defScope s__law_leads) .none kV31 dc31 pm31 an31 cd31 ct31), sl31⟩) (c31 : PySem.W.codeIn K cd31 "_law_leads" = true) (k31 : PySem.W.keepIn K (.ref f31) = true)
    (a32 : PySem.W.nsIn K mainGlobals "_law_low" = some (some (.ref f32))) (l32 : K.lookup f32 = some ⟨oc32, od32, .func (PySem.W.fnOf "_law_low" "_law_low" (defArgs s__law_low) (defBody s__law_low) (defScope s__law_low) .none kV32 dc32 pm32 an32 cd32 ct32), sl32⟩) (c32 : PySem.W.codeIn K cd32 "_law_low" = true) (k32 : PySem.W.keepIn K (.ref f32) = true)
    (a33 : PySem.W.nsIn K mainGlobals "_law_low_number" = some (some (.ref f33))) (l33 : K.lookup f33 = some ⟨oc33, od33, .func (PySem.W.fnOf "_law_low_number" "_law_low_number" (defArgs s__law_low_number) (defBody s__law_low_number) (defScope s__law_low_number) .none kV33 dc33 pm33 an33 cd33 ct33), sl33⟩) (c33 : PySem.W.codeIn K cd33 "_law_low_number" = true) (k33 : PySem.W.keepIn K (.ref f33) = true)
    (a34 : PySem.W.nsIn K mainGlobals "_law_pair_with" = some (some (.ref f34))) (l34 : K.lookup f34 = some ⟨oc34, od34, .func (PySem.W.fnOf "_law_pair_with" "_law_pair_with" (defArgs s__law_pair_with) (defBody s__law_pair_with) (defScope s__law_pair_with) .none kV34 dc34 pm34 an34 cd34 ct34), sl34⟩) (c34 : PySem.W.codeIn K cd34 "_law_pair_with" = true) (k34 : PySem.W.keepIn K (.ref f34) = true)
    (a35 : PySem.W.nsIn K mainGlobals "_law_refused" = some (some (.ref f35))) (l35 : K.lookup f35 = some ⟨oc35, od35, .func (PySem.W.fnOf "_law_refused" "_law_refused" (defArgs s__law_refused) (defBody s__law_refused) (defScope s__law_refused) .none kV35 dc35 pm35 an35 cd35 ct35), sl35⟩) (c35 : PySem.W.codeIn K cd35 "_law_refused" = true) (k35 : PySem.W.keepIn K (.ref f35) = true)
    (a36 : PySem.W.nsIn K mainGlobals "law" = some (some (.ref f36))) (l36 : K.lookup f36 = some ⟨oc36, od36, .func (PySem.W.fnOf "law" "law" (defArgs s_law) (defBody s_law) (defScope s_law) .none kV36 dc36 pm36 an36 cd36 ct36), sl36⟩) (c36 : PySem.W.codeIn K cd36 "law" = true) (k36 : PySem.W.keepIn K (.ref f36) = true)
    (z_bool : PySem.W.nsIn K mainGlobals "bool" = some none)
    (z_isinstance : PySem.W.nsIn K mainGlobals "isinstance" = some none)
    (z_int : PySem.W.nsIn K mainGlobals "int" = some none)
    (z_len : PySem.W.nsIn K mainGlobals "len" = some none)
    (z_tuple : PySem.W.nsIn K mainGlobals "tuple" = some none)
    (z_all : PySem.W.nsIn K mainGlobals "all" = some none)
    (z_list : PySem.W.nsIn K mainGlobals "list" = some none)
    (z_max : PySem.W.nsIn K mainGlobals "max" = some none)
    (z_min : PySem.W.nsIn K mainGlobals "min" = some none)
    (z_abs : PySem.W.nsIn K mainGlobals "abs" = some none)
    (z_range : PySem.W.nsIn K mainGlobals "range" = some none)
    (z_sorted : PySem.W.nsIn K mainGlobals "sorted" = some none)
    (z_enumerate : PySem.W.nsIn K mainGlobals "enumerate" = some none)
    (z_zip : PySem.W.nsIn K mainGlobals "zip" = some none)
    (z_str : PySem.W.nsIn K mainGlobals "str" = some none)
    (z_ValueError : PySem.W.nsIn K mainGlobals "ValueError" = some none)
    (c_MOST_SLACK : PySem.W.nsIn K mainGlobals "MOST_SLACK" = some (some (.int 50 t_MOST_SLACK)))
    (c_GREAT : PySem.W.nsIn K mainGlobals "GREAT" = some (some (.int 1000000000000000000000000000000000000000000000000000000000000 t_GREAT)))
    (n_CanNot : PySem.W.nsIn K mainGlobals "CanNot" = some (some (.ref C_CanNot))) (q_CanNot : PySem.W.excIn K C_CanNot ([.type "ValueError", .type "Exception", .type "BaseException", .type "object"]) "ValueError.__new__" = true) (kp_CanNot : PySem.W.keepIn K (.ref C_CanNot) = true) (sb_CanNot : PySem.W.subIn K (.ref C_CanNot) (.type "BaseException") = some true) (ty_CanNot : PySem.W.typeIn K (.ref C_CanNot) = some (.type "type"))
    (hg_CanNot : PySem.W.findIn K (.ref C_CanNot) "__getattribute__" = some (some (.builtin "BaseException.__getattribute__"))) (hk_CanNot : PySem.W.findIn K (.ref C_CanNot) "__getattr__" = some none) (hd_CanNot : PySem.W.hasDictIn K C_CanNot = true) (ha_CanNot : PySem.W.findIn K (.ref C_CanNot) "__class__" = some (some (.builtin "object.__class__"))) (hm_CanNot : PySem.W.mroIn K C_CanNot (.type "object") = some true) (ve_CanNot : PySem.W.subIn K (.ref C_CanNot) (.type "ValueError") = some true)
    (n_TooMany : PySem.W.nsIn K mainGlobals "TooMany" = some (some (.ref C_TooMany))) (q_TooMany : PySem.W.excIn K C_TooMany ([.type "ValueError", .type "Exception", .type "BaseException", .type "object"]) "ValueError.__new__" = true) (kp_TooMany : PySem.W.keepIn K (.ref C_TooMany) = true) (sb_TooMany : PySem.W.subIn K (.ref C_TooMany) (.type "BaseException") = some true) (ty_TooMany : PySem.W.typeIn K (.ref C_TooMany) = some (.type "type"))
    (hg_TooMany : PySem.W.findIn K (.ref C_TooMany) "__getattribute__" = some (some (.builtin "BaseException.__getattribute__"))) (hk_TooMany : PySem.W.findIn K (.ref C_TooMany) "__getattr__" = some none) (hd_TooMany : PySem.W.hasDictIn K C_TooMany = true) (ha_TooMany : PySem.W.findIn K (.ref C_TooMany) "__class__" = some (some (.builtin "object.__class__"))) (hm_TooMany : PySem.W.mroIn K C_TooMany (.type "object") = some true) (ve_TooMany : PySem.W.subIn K (.ref C_TooMany) (.type "ValueError") = some true)
    (n_Unfit : PySem.W.nsIn K mainGlobals "Unfit" = some (some (.ref C_Unfit))) (q_Unfit : PySem.W.excIn K C_Unfit ([.type "ValueError", .type "Exception", .type "BaseException", .type "object"]) "ValueError.__new__" = true) (kp_Unfit : PySem.W.keepIn K (.ref C_Unfit) = true) (sb_Unfit : PySem.W.subIn K (.ref C_Unfit) (.type "BaseException") = some true) (ty_Unfit : PySem.W.typeIn K (.ref C_Unfit) = some (.type "type"))
    (hg_Unfit : PySem.W.findIn K (.ref C_Unfit) "__getattribute__" = some (some (.builtin "BaseException.__getattribute__"))) (hk_Unfit : PySem.W.findIn K (.ref C_Unfit) "__getattr__" = some none) (hd_Unfit : PySem.W.hasDictIn K C_Unfit = true) (ha_Unfit : PySem.W.findIn K (.ref C_Unfit) "__class__" = some (some (.builtin "object.__class__"))) (hm_Unfit : PySem.W.mroIn K C_Unfit (.type "object") = some true) (ve_Unfit : PySem.W.subIn K (.ref C_Unfit) (.type "ValueError") = some true)
    (hn_cls : PySem.W.specialIn K (.builtin "object.__class__") "__get__" = some (some (.builtin "getset_descriptor.__get__"))) (ht_cls : PySem.W.takesIn K (.builtin "object.__class__") = some true)
    (s_CanNot_CanNot : PySem.W.subIn K (.ref C_CanNot) (.ref C_CanNot) = some true)
    (s_CanNot_TooMany : PySem.W.subIn K (.ref C_CanNot) (.ref C_TooMany) = some false)
    (s_CanNot_Unfit : PySem.W.subIn K (.ref C_CanNot) (.ref C_Unfit) = some false)
    (s_TooMany_CanNot : PySem.W.subIn K (.ref C_TooMany) (.ref C_CanNot) = some false)
    (s_TooMany_TooMany : PySem.W.subIn K (.ref C_TooMany) (.ref C_TooMany) = some true)
    (s_TooMany_Unfit : PySem.W.subIn K (.ref C_TooMany) (.ref C_Unfit) = some false)
    (s_Unfit_CanNot : PySem.W.subIn K (.ref C_Unfit) (.ref C_CanNot) = some false)
    (s_Unfit_TooMany : PySem.W.subIn K (.ref C_Unfit) (.ref C_TooMany) = some false)
    (s_Unfit_Unfit : PySem.W.subIn K (.ref C_Unfit) (.ref C_Unfit) = some true)
    (m_isqrt : PySem.W.nsIn K mainGlobals "isqrt" = some (some (.builtin "math.isqrt"))) :
    ∃ fd : FuncData, (∀ (s : Shared) (v : Value), BindsTo s fd ⟨[v], []⟩ [("script", v)]) ∧ ∀ base : Heap, K.In base → base.Ns mainGlobals mg → FnOk l.prog w K mg base CX0 11 fa fd ["script"] (spLaw K) := by
  have e := hfa.symm.trans (PySem.W.mg_of X G a36)
  cases e
  have T : Top mg := { un := trivial, z_bool := PySem.W.mg_none_of X G z_bool, z_isinstance := PySem.W.mg_none_of X G z_isinstance, z_int := PySem.W.mg_none_of X G z_int, z_len := PySem.W.mg_none_of X G z_len, z_tuple := PySem.W.mg_none_of X G z_tuple, z_all := PySem.W.mg_none_of X G z_all, z_list := PySem.W.mg_none_of X G z_list, z_max := PySem.W.mg_none_of X G z_max, z_min := PySem.W.mg_none_of X G z_min, z_abs := PySem.W.mg_none_of X G z_abs, z_range := PySem.W.mg_none_of X G z_range, z_sorted := PySem.W.mg_none_of X G z_sorted, z_enumerate := PySem.W.mg_none_of X G z_enumerate, z_zip := PySem.W.mg_none_of X G z_zip, z_str := PySem.W.mg_none_of X G z_str, z_ValueError := PySem.W.mg_none_of X G z_ValueError, c_MOST_SLACK := ⟨_, PySem.W.mg_of X G c_MOST_SLACK⟩, c_GREAT := ⟨_, PySem.W.mg_of X G c_GREAT⟩, m_isqrt := PySem.W.mg_of X G m_isqrt }
  let ad : Nat → Addr := fun n => [C_CanNot, C_TooMany, C_Unfit, f22, f12, f13, f10, f11].getD n 0
  have GA : Ad K mg ad := { un := trivial, e_CanNot := ⟨PySem.W.mg_of X G n_CanNot, ⟨_, q_CanNot, PySem.F.excBase_ValueError⟩, kp_CanNot, sb_CanNot, ty_CanNot, hg_CanNot, hk_CanNot, hd_CanNot, ha_CanNot, hn_cls, ht_cls, hm_CanNot, ve_of ve_CanNot⟩, e_TooMany := ⟨PySem.W.mg_of X G n_TooMany, ⟨_, q_TooMany, PySem.F.excBase_ValueError⟩, kp_TooMany, sb_TooMany, ty_TooMany, hg_TooMany, hk_TooMany, hd_TooMany, ha_TooMany, hn_cls, ht_cls, hm_TooMany, ve_of ve_TooMany⟩, e_Unfit := ⟨PySem.W.mg_of X G n_Unfit, ⟨_, q_Unfit, PySem.F.excBase_ValueError⟩, kp_Unfit, sb_Unfit, ty_Unfit, hg_Unfit, hk_Unfit, hd_Unfit, ha_Unfit, hn_cls, ht_cls, hm_Unfit, ve_of ve_Unfit⟩, s_CanNot_CanNot := s_CanNot_CanNot, s_CanNot_TooMany := s_CanNot_TooMany, s_CanNot_Unfit := s_CanNot_Unfit, s_TooMany_CanNot := s_TooMany_CanNot, s_TooMany_TooMany := s_TooMany_TooMany, s_TooMany_Unfit := s_TooMany_Unfit, s_Unfit_CanNot := s_Unfit_CanNot, s_Unfit_TooMany := s_Unfit_TooMany, s_Unfit_Unfit := s_Unfit_Unfit, d_answer := PySem.W.mg_of X G a22, d_other_low_in := PySem.W.mg_of X G a12, d_other_high_in := PySem.W.mg_of X G a13, d_low_in := PySem.W.mg_of X G a10, d_high_in := PySem.W.mg_of X G a11, n_answer_other_low_in := ne_of_fn l22 l12 (by decide), n_answer_other_high_in := ne_of_fn l22 l13 (by decide), n_answer_low_in := ne_of_fn l22 l10 (by decide), n_answer_high_in := ne_of_fn l22 l11 (by decide), n_other_low_in_answer := ne_of_fn l12 l22 (by decide), n_other_low_in_other_high_in := ne_of_fn l12 l13 (by decide), n_other_low_in_low_in := ne_of_fn l12 l10 (by decide), n_other_low_in_high_in := ne_of_fn l12 l11 (by decide), n_other_high_in_answer := ne_of_fn l13 l22 (by decide), n_other_high_in_other_low_in := ne_of_fn l13 l12 (by decide), n_other_high_in_low_in := ne_of_fn l13 l10 (by decide), n_other_high_in_high_in := ne_of_fn l13 l11 (by decide), n_low_in_answer := ne_of_fn l10 l22 (by decide), n_low_in_other_low_in := ne_of_fn l10 l12 (by decide), n_low_in_other_high_in := ne_of_fn l10 l13 (by decide), n_low_in_high_in := ne_of_fn l10 l11 (by decide), n_high_in_answer := ne_of_fn l11 l22 (by decide), n_high_in_other_low_in := ne_of_fn l11 l12 (by decide), n_high_in_other_high_in := ne_of_fn l11 l13 (by decide), n_high_in_low_in := ne_of_fn l11 l10 (by decide) }
  refine ⟨PySem.W.fnOf "law" "law" (defArgs s_law) (defBody s_law) (defScope s_law) .none kV36 dc36 pm36 an36 cd36 ct36, fun s v => .of_eq rfl, fun base _ _ => ?_⟩
  have h_is_number := av_is_number (P := l.prog) (w := w) (base := base) T (fun_mk (st := s_is_number) l1 c1 k1) (PySem.W.mg_of X G a1)
  have h_is_within := av_is_within (P := l.prog) (w := w) (base := base) T h_is_number (fun_mk (st := s_is_within) l2 c2 k2) (PySem.W.mg_of X G a2)
  have h_is_long := av_is_long (P := l.prog) (w := w) (base := base) T (fun_mk (st := s_is_long) l3 c3 k3) (PySem.W.mg_of X G a3)
  have h_are_within := av_are_within (P := l.prog) (w := w) (base := base) T h_is_within (fun_mk (st := s_are_within) l4 c4 k4) (PySem.W.mg_of X G a4)
  have h_tupled := av_tupled (P := l.prog) (w := w) (base := base) T (fun_mk (st := s_tupled) l5 c5 k5) (PySem.W.mg_of X G a5)
  have h_sure_within := av_sure_within (P := l.prog) (w := w) (base := base) T h_is_within (fun_mk (st := s_sure_within) l6 c6 k6) (PySem.W.mg_of X G a6)
  have h_sure_slack := av_sure_slack (P := l.prog) (w := w) (base := base) T h_sure_within (fun_mk (st := s_sure_slack) l7 c7 k7) (PySem.W.mg_of X G a7)
  have h_sure_place := av_sure_place (P := l.prog) (w := w) (base := base) T h_tupled h_are_within h_is_long (fun_mk (st := s_sure_place) l8 c8 k8) (PySem.W.mg_of X G a8)
  have h_floor_of := av_floor_of (P := l.prog) (w := w) (base := base) T (fun_mk (st := s_floor_of) l9 c9 k9) (PySem.W.mg_of X G a9)
  have h_low_in := av_low_in (P := l.prog) (w := w) (base := base) T h_floor_of (fun_mk (st := s_low_in) l10 c10 k10) (PySem.W.mg_of X G a10)
  have h_high_in := av_high_in (P := l.prog) (w := w) (base := base) T h_low_in (fun_mk (st := s_high_in) l11 c11 k11) (PySem.W.mg_of X G a11)
  have h_other_low_in := av_other_low_in (P := l.prog) (w := w) (base := base) T h_low_in h_floor_of (fun_mk (st := s_other_low_in) l12 c12 k12) (PySem.W.mg_of X G a12)
  have h_other_high_in := av_other_high_in (P := l.prog) (w := w) (base := base) T h_high_in h_other_low_in (fun_mk (st := s_other_high_in) l13 c13 k13) (PySem.W.mg_of X G a13)
  have h_number_between := av_number_between (P := l.prog) (w := w) (base := base) T h_low_in (fun_mk (st := s_number_between) l14 c14 k14) (PySem.W.mg_of X G a14)
  have h_is_lost := av_is_lost (P := l.prog) (w := w) (base := base) T h_sure_slack h_number_between h_sure_place (fun_mk (st := s_is_lost) l15 c15 k15) (PySem.W.mg_of X G a15)
  have h_leads := av_leads (P := l.prog) (w := w) (base := base) T (fun_mk (st := s_leads) l16 c16 k16) (PySem.W.mg_of X G a16)
  have h_least_from := av_least_from (P := l.prog) (w := w) (base := base) T GA h_low_in h_high_in h_other_low_in h_other_high_in (fun_mk (st := s_least_from) l17 c17 k17) (PySem.W.mg_of X G a17)
  have h_pair_of := av_pair_of (P := l.prog) (w := w) (base := base) T h_other_high_in h_other_low_in h_high_in h_low_in (fun_mk (st := s_pair_of) l18 c18 k18) (PySem.W.mg_of X G a18)
  have h_numbers_near := av_numbers_near (P := l.prog) (w := w) (base := base) T GA h_least_from (fun_mk (st := s_numbers_near) l19 c19 k19) (PySem.W.mg_of X G a19)
  have h_wins_in := av_wins_in (P := l.prog) (w := w) (base := base) T h_numbers_near h_pair_of h_leads (fun_mk (st := s_wins_in) l20 c20 k20) (PySem.W.mg_of X G a20)
  have h_wins := av_wins (P := l.prog) (w := w) (base := base) T h_sure_slack h_wins_in h_sure_place (fun_mk (st := s_wins) l21 c21 k21) (PySem.W.mg_of X G a21)
  have h_answer := av_answer (P := l.prog) (w := w) (base := base) T GA h_sure_slack h_sure_place h_number_between h_wins_in (fun_mk (st := s_answer) l22 c22 k22) (PySem.W.mg_of X G a22)
  have hx_answer := ax_answer (P := l.prog) (w := w) (base := base) T GA h_sure_slack h_sure_place h_number_between h_wins_in (fun_mk (st := s_answer) l22 c22 k22) (PySem.W.mg_of X G a22)
  have h__law_box := av__law_box (P := l.prog) (w := w) (base := base) T (fun_mk (st := s__law_box) l23 c23 k23) (PySem.W.mg_of X G a23)
  have h__law_take := av__law_take (P := l.prog) (w := w) (base := base) T (fun_mk (st := s__law_take) l24 c24 k24) (PySem.W.mg_of X G a24)
  have h__law_cells := av__law_cells (P := l.prog) (w := w) (base := base) T (fun_mk (st := s__law_cells) l25 c25 k25) (PySem.W.mg_of X G a25)
  have h__law_of := av__law_of (P := l.prog) (w := w) (base := base) T h__law_take (fun_mk (st := s__law_of) l26 c26 k26) (PySem.W.mg_of X G a26)
  have h__law_same := av__law_same (P := l.prog) (w := w) (base := base) T (fun_mk (st := s__law_same) l27 c27 k27) (PySem.W.mg_of X G a27)
  have hx__law_call := ax__law_call (P := l.prog) (w := w) (base := base) T (doors_held GA hx_answer) (fun_mk (st := s__law_call) l28 c28 k28) (PySem.W.mg_of X G a28)
  have h__law_root := av__law_root (P := l.prog) (w := w) (base := base) T (fun_mk (st := s__law_root) l29 c29 k29) (PySem.W.mg_of X G a29)
  have h__law_great := av__law_great (P := l.prog) (w := w) (base := base) T h__law_take h__law_of (fun_mk (st := s__law_great) l30 c30 k30) (PySem.W.mg_of X G a30)
  have h__law_leads := av__law_leads (P := l.prog) (w := w) (base := base) T (fun_mk (st := s__law_leads) l31 c31 k31) (PySem.W.mg_of X G a31)
  have h__law_low := av__law_low (P := l.prog) (w := w) (base := base) T h__law_root (fun_mk (st := s__law_low) l32 c32 k32) (PySem.W.mg_of X G a32)
  have h__law_low_number := av__law_low_number (P := l.prog) (w := w) (base := base) T h__law_root (fun_mk (st := s__law_low_number) l33 c33 k33) (PySem.W.mg_of X G a33)
  have h__law_pair_with := av__law_pair_with (P := l.prog) (w := w) (base := base) T h__law_low_number h__law_low (fun_mk (st := s__law_pair_with) l34 c34 k34) (PySem.W.mg_of X G a34)
  have h__law_refused := av__law_refused (P := l.prog) (w := w) (base := base) T GA hx__law_call (fun_mk (st := s__law_refused) l35 c35 k35) (PySem.W.mg_of X G a35)
  exact ok_law (fun_mk (st := s_law) l36 c36 k36) sc_law rfl (by decide) (fun cdv A outer s H E hr => p_law T GA h__law_box h__law_cells h__law_great h__law_take h__law_low h_wins h__law_pair_with h__law_leads h__law_same h_is_lost h_answer h__law_refused hr) bw_law (w_law GA)
end LW
open PySem PySem.W PyProof.Rows
set_option maxHeartbeats 0 in
theorem PySem.Challenge.cw_coldpairs_k11_main_what_wins_from_great_holds : PySem.Challenge.rw_coldpairs_k11_main_what_wins_from_great.Holds := by
  w_on; o_law; k_head; (case hw => w_witness2)
  k_fill
  refine L2.walk_of (l := PySem.Challenge.rw_coldpairs_k11_main_what_wins_from_great) (n := 63) (k := 11) (x := "script") (CX := fun _ => L2.CX0) (sp := fun w => DL.spLaw _) rfl (by decide) rfl ⟨rfl, by decide, by decide⟩ (fun w h Y => PySem.W.kIn_of Y) ?F (fun _ _ a ns hl _ hS => ⟨a, ns, rfl, hS, hl, fun _ => rfl⟩) (fun _ _ _ _ _ h => h)
  case F =>
    intro w mg fa h KX G hmg
    refine' LW.all_mk KX G hmg ?a1 ?l1 ?c1 ?k1 ?a2 ?l2 ?c2 ?k2 ?a3 ?l3 ?c3 ?k3 ?a4 ?l4 ?c4 ?k4 ?a5 ?l5 ?c5 ?k5 ?a6 ?l6 ?c6 ?k6 ?a7 ?l7 ?c7 ?k7 ?a8 ?l8 ?c8 ?k8 ?a9 ?l9 ?c9 ?k9 ?a10 ?l10 ?c10 ?k10 ?a11 ?l11 ?c11 ?k11 ?a12 ?l12 ?c12 ?k12 ?a13 ?l13 ?c13 ?k13 ?a14 ?l14 ?c14 ?k14 ?a15 ?l15 ?c15 ?k15 ?a16 ?l16 ?c16 ?k16 ?a17 ?l17 ?c17 ?k17 ?a18 ?l18 ?c18 ?k18 ?a19 ?l19 ?c19 ?k19 ?a20 ?l20 ?c20 ?k20 ?a21 ?l21 ?c21 ?k21 ?a22 ?l22 ?c22 ?k22 ?a23 ?l23 ?c23 ?k23 ?a24 ?l24 ?c24 ?k24 ?a25 ?l25 ?c25 ?k25 ?a26 ?l26 ?c26 ?k26 ?a27 ?l27 ?c27 ?k27 ?a28 ?l28 ?c28 ?k28 ?a29 ?l29 ?c29 ?k29 ?a30 ?l30 ?c30 ?k30 ?a31 ?l31 ?c31 ?k31 ?a32 ?l32 ?c32 ?k32 ?a33 ?l33 ?c33 ?k33 ?a34 ?l34 ?c34 ?k34 ?a35 ?l35 ?c35 ?k35 ?a36 ?l36 ?c36 ?k36 ?z_bool ?z_isinstance ?z_int ?z_len ?z_tuple ?z_all ?z_list ?z_max ?z_min ?z_abs ?z_range ?z_sorted ?z_enumerate ?z_zip ?z_str ?z_ValueError ?c_MOST_SLACK ?c_GREAT ?n_CanNot ?q_CanNot ?kp_CanNot ?sb_CanNot ?ty_CanNot ?hg_CanNot ?hk_CanNot ?hd_CanNot ?ha_CanNot ?hm_CanNot ?ve_CanNot ?n_TooMany ?q_TooMany ?kp_TooMany ?sb_TooMany ?ty_TooMany ?hg_TooMany ?hk_TooMany ?hd_TooMany ?ha_TooMany ?hm_TooMany ?ve_TooMany ?n_Unfit ?q_Unfit ?kp_Unfit ?sb_Unfit ?ty_Unfit ?hg_Unfit ?hk_Unfit ?hd_Unfit ?ha_Unfit ?hm_Unfit ?ve_Unfit ?hn_cls ?ht_cls ?s_CanNot_CanNot ?s_CanNot_TooMany ?s_CanNot_Unfit ?s_TooMany_CanNot ?s_TooMany_TooMany ?s_TooMany_Unfit ?s_Unfit_CanNot ?s_Unfit_TooMany ?s_Unfit_Unfit ?m_isqrt
    (case a1 => k_is); (case l1 => k_is); (case c1 => k_is); (case k1 => k_is)
    (case a2 => k_is); (case l2 => k_is); (case c2 => k_is); (case k2 => k_is)
    (case a3 => k_is); (case l3 => k_is); (case c3 => k_is); (case k3 => k_is)
    (case a4 => k_is); (case l4 => k_is); (case c4 => k_is); (case k4 => k_is)
    (case a5 => k_is); (case l5 => k_is); (case c5 => k_is); (case k5 => k_is)
    (case a6 => k_is); (case l6 => k_is); (case c6 => k_is); (case k6 => k_is)
    (case a7 => k_is); (case l7 => k_is); (case c7 => k_is); (case k7 => k_is)
    (case a8 => k_is); (case l8 => k_is); (case c8 => k_is); (case k8 => k_is)
    (case a9 => k_is); (case l9 => k_is); (case c9 => k_is); (case k9 => k_is)
    (case a10 => k_is); (case l10 => k_is); (case c10 => k_is); (case k10 => k_is)
    (case a11 => k_is); (case l11 => k_is); (case c11 => k_is); (case k11 => k_is)
    (case a12 => k_is); (case l12 => k_is); (case c12 => k_is); (case k12 => k_is)
    (case a13 => k_is); (case l13 => k_is); (case c13 => k_is); (case k13 => k_is)
    (case a14 => k_is); (case l14 => k_is); (case c14 => k_is); (case k14 => k_is)
    (case a15 => k_is); (case l15 => k_is); (case c15 => k_is); (case k15 => k_is)
    (case a16 => k_is); (case l16 => k_is); (case c16 => k_is); (case k16 => k_is)
    (case a17 => k_is); (case l17 => k_is); (case c17 => k_is); (case k17 => k_is)
    (case a18 => k_is); (case l18 => k_is); (case c18 => k_is); (case k18 => k_is)
    (case a19 => k_is); (case l19 => k_is); (case c19 => k_is); (case k19 => k_is)
    (case a20 => k_is); (case l20 => k_is); (case c20 => k_is); (case k20 => k_is)
    (case a21 => k_is); (case l21 => k_is); (case c21 => k_is); (case k21 => k_is)
    (case a22 => k_is); (case l22 => k_is); (case c22 => k_is); (case k22 => k_is)
    (case a23 => k_is); (case l23 => k_is); (case c23 => k_is); (case k23 => k_is)
    (case a24 => k_is); (case l24 => k_is); (case c24 => k_is); (case k24 => k_is)
    (case a25 => k_is); (case l25 => k_is); (case c25 => k_is); (case k25 => k_is)
    (case a26 => k_is); (case l26 => k_is); (case c26 => k_is); (case k26 => k_is)
    (case a27 => k_is); (case l27 => k_is); (case c27 => k_is); (case k27 => k_is)
    (case a28 => k_is); (case l28 => k_is); (case c28 => k_is); (case k28 => k_is)
    (case a29 => k_is); (case l29 => k_is); (case c29 => k_is); (case k29 => k_is)
    (case a30 => k_is); (case l30 => k_is); (case c30 => k_is); (case k30 => k_is)
    (case a31 => k_is); (case l31 => k_is); (case c31 => k_is); (case k31 => k_is)
    (case a32 => k_is); (case l32 => k_is); (case c32 => k_is); (case k32 => k_is)
    (case a33 => k_is); (case l33 => k_is); (case c33 => k_is); (case k33 => k_is)
    (case a34 => k_is); (case l34 => k_is); (case c34 => k_is); (case k34 => k_is)
    (case a35 => k_is); (case l35 => k_is); (case c35 => k_is); (case k35 => k_is)
    (case a36 => k_is); (case l36 => k_is); (case c36 => k_is); (case k36 => k_is)
    (case z_bool => k_is); (case z_isinstance => k_is); (case z_int => k_is); (case z_len => k_is)
    (case z_tuple => k_is); (case z_all => k_is); (case z_list => k_is); (case z_max => k_is)
    (case z_min => k_is); (case z_abs => k_is); (case z_range => k_is); (case z_sorted => k_is)
    (case z_enumerate => k_is); (case z_zip => k_is); (case z_str => k_is); (case z_ValueError => k_is)
    (case c_MOST_SLACK => k_is); (case c_GREAT => k_is); (case n_CanNot => k_is); (case q_CanNot => k_exc)
    (case kp_CanNot => k_is); (case sb_CanNot => k_is); (case ty_CanNot => k_is); (case hg_CanNot => k_is)
    (case hk_CanNot => k_is); (case hd_CanNot => k_is); (case ha_CanNot => k_is); (case hm_CanNot => k_is)
    (case ve_CanNot => k_is); (case n_TooMany => k_is); (case q_TooMany => k_exc); (case kp_TooMany => k_is)
    (case sb_TooMany => k_is); (case ty_TooMany => k_is); (case hg_TooMany => k_is); (case hk_TooMany => k_is)
    (case hd_TooMany => k_is); (case ha_TooMany => k_is); (case hm_TooMany => k_is); (case ve_TooMany => k_is)
    (case n_Unfit => k_is); (case q_Unfit => k_exc); (case kp_Unfit => k_is); (case sb_Unfit => k_is)
    (case ty_Unfit => k_is); (case hg_Unfit => k_is); (case hk_Unfit => k_is); (case hd_Unfit => k_is)
    (case ha_Unfit => k_is); (case hm_Unfit => k_is); (case ve_Unfit => k_is); (case hn_cls => k_is)
    (case ht_cls => k_is); (case s_CanNot_CanNot => k_is); (case s_CanNot_TooMany => k_is); (case s_CanNot_Unfit => k_is)
    (case s_TooMany_CanNot => k_is); (case s_TooMany_TooMany => k_is); (case s_TooMany_Unfit => k_is); (case s_Unfit_CanNot => k_is)
    (case s_Unfit_TooMany => k_is); (case s_Unfit_Unfit => k_is); (case m_isqrt => k_is)
