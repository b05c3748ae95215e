import PyProof.Rows.All
import Wide.All
import OpenK.AllK
import Wide.FinOn
import HandS.ForMost
import HandS.TupMul
import HandS.Zip
import HandS.SortRule
import HandS.Style
import HandS.Walk
import KE.GoesMore
import HandS.Codes
import PySem.Challenge.RW_piecedruns_k76_areas_never_meet
set_option Elab.async false
set_option linter.all false
set_option maxRecDepth 100000
set_option maxHeartbeats 16000000
/-! Rules that the layer lacks: xs[i] op= e of a list, an attribute as a target within a tuple, enumerate of a tuple, tuple * 0 and * 1, repr of data. -/
namespace R76
open PySem PySem.Spec PyProof.Rows L2
section
variable {X : Cx}

/-- xs[i], 0 ≤ i, by values -/
theorem get_list : PGet X (rIxL X.K) := by
  intro pins s σ H o i ov iv Q I ro ri h
  obtain ⟨p, xs, k, z, rfl, rfl, hq, he, q⟩ := h
  cases ro
  obtain ⟨t, rfl⟩ := ri
  obtain ⟨its, r, pl, hz⟩ := I.list hq
  obtain ⟨j, h1, h2, h3, h4, h5⟩ := atI_get he
  obtain ⟨w, ew, rw'⟩ := r.get h2
  have hl := r.length
  have hn := line63
  have fin : EP X pins σ Q w s := ⟨z, H, I, rw', q⟩
  by_cases h0 : 0 ≤ k
  · have hj : k.toNat = j := by
      rw [seqIndex_of h0 h5] at h1
      exact Option.some.inj h1
    exact wpAny_getItem_list pl.isList h0 (by omega) (by rw [hj]; simpa using ew) fin
  · have hj : (k + (its.toArray.size : Int)).toNat = j := by
      rw [seqIndex_neg (by omega) h4] at h1
      rw [List.size_toArray, ← hl]
      exact Option.some.inj h1
    exact wpAny_getItem_list_neg pl.isList (by omega) (by rw [List.size_toArray] <;> omega) (by omega) (by rw [hj]; simpa using ew) fin

/-- o.f as one target among others -/
def gFld (K : PySem.W.Frag) (to : TE) (f : Str) : TG := fun y σ H Q => to σ H fun x H2 => ∃ a C dx fs, x = .ref a ∧ H2 a = some (.ins C dx fs) ∧ Cls K C ∧ NoAttr K C f ∧ fs.length < 1000 ∧ Q σ (upd H2 a (.ins C dx (putF f y fs)))
theorem pg_fld {o : Expr} {f : Str} {pos : Pos} {to : TE} (ho : PE X o to) : PG X (.Attribute o f pos) (gFld X.K to f) := by
  refine ⟨fun pins s σ H y u Q I ry h => ?_⟩
  rw [assign_Attribute]
  refine wpAny_bind (wpAny_holding (thn (ho.run pins s σ H _ I h) fun ov s1 ⟨x, H1, I1, rx, a, C, dx, fs, ex, ea, c, n, l, q⟩ => ?_))
  subst ex
  obtain rfl : ov = Value.ref a := rx
  refine wpAny_bind (wpAny_standAt (wpAny_bind (wpAny_holding (setattr_ok I1 ea c n l ry fun s2 I2 => ?_))))
  exact wpAny_release ⟨σ, _, I2, q⟩

/-- repr of a list or a tuple of data, where no repr is under way -/
def rReprD (K : PySem.W.Frag) : List V → Hp → VK → Prop := fun xs H Q => ∃ (a : Addr) (d : PyData), xs = [.ref a] ∧ Dp K H (.ref a) d ∧ d.showable = true ∧ d.hasDict = false ∧ d.depth ≤ 30 ∧ d.shown.length ≤ sizeLine ∧ Q (.str d.shown) H
theorem call_reprD (hg : X.A.guards = some []) (hu : X.A.units + 64 < cLine) : CallR X (.builtin "repr") (rReprD X.K) := by
  intro pins s σ H xs us Q I r h
  obtain ⟨a, d, rfl, hd, hs, hn, hz, hl, q⟩ := h
  obtain ⟨u, rfl, ru⟩ := vals1 r
  cases ru
  obtain ⟨as, r1⟩ := Dp.reads I d (.ref a) (.ref a) hd rfl
  refine repr_of_reads' r1 hs (PyData.noDict_hsm hn) hg (by omega) (fun _ _ e => e) (fun h' u tk hk => ?_) hl
  exact ⟨.str d.shown, H, I.kept hk, ⟨u, rfl⟩, q⟩

/-- enumerate of a tuple -/
def IteT (K : PySem.W.Frag) (a : Addr) : It where
  go i H := ∃ (xs : List V) (x : V), SqT K H a xs ∧ xs[i]? = some x
  yld i H v H' := ∃ T x, v = .ref T ∧ H T = none ∧ H' = upd H T (.tup [.int (i : Nat), x]) ∧ ∀ xs, SqT K H a xs → xs[i]? = some x
  stop i H := ∃ xs : List V, SqT K H a xs ∧ xs.length = i
theorem turn_enumT {P : Program} {w : World} {K : PySem.W.Frag} {elts : List Expr} {kk : Nat} {tpos : Pos} (a e it : Addr) :
    Turn P w K (.Tuple elts kk tpos) (IteT K a) [e, it] e (fun i h => (∃ old, IsEnum h e it ((i : Nat) : Int) old) ∧ h.IsTupleIter it a i ∧ e ≠ it ∧ a ≠ e ∧ a ≠ it) where
  mem := by simp
  obj := by
    rintro i h ⟨⟨old, he⟩, ⟨o, ho, hc, hd⟩, _⟩ b hb
    have hb' : b = e ∨ b = it := by simpa using hb
    rcases hb' with rfl | rfl
    · exact ⟨_, he, fun v q => nomatch q⟩
    · exact ⟨o, ho, fun v q => by rw [hd] at q; cases q⟩
  keep := by
    rintro i h h' ⟨⟨old, he⟩, hi, hne, h1, h2⟩ k
    exact ⟨⟨old, k e (by simp) _ he⟩, hi.at fun o q => k it (by simp) o q, hne, h1, h2⟩
  item := by
    intro X hP hw hK hc i pins s σ H E I hf st hg
    subst hP hw hK
    obtain ⟨⟨old, he⟩, hit, hne, hae, hai⟩ := st
    obtain ⟨xs, x, hq, hx⟩ := hg
    obtain ⟨its, rv, p, hz⟩ := I.tuple hq
    obtain ⟨u, hu, ru⟩ := rv.get hx
    have pt : s.heap.IsTuple a its.toArray := p
    have el : e < s.heap.objs.size := Heap.lt_size he
    have il : it < s.heap.objs.size := by obtain ⟨_, q, _⟩ := hit; exact Heap.lt_size q
    have hlt : i < its.toArray.size := by
      have := (List.getElem?_eq_some_iff.mp hu).1
      simpa using this
    refine wpAny_pyNext_enum_itemD (Draws.tuple (prog := X.prog) (w := X.w) (A := X.A.in1) (I.ok.hd hc) it a hai its.toArray) he ⟨hit, pt⟩ hlt hne (by simp [hne, Ne.symm hae]) fun y h' tk hy ho hst hT hsz hk => ?_
    obtain ⟨hit', _⟩ := hst
    have ey : y = u := by
      have h3 : its[i]? = some y := by simpa using hy
      exact Option.some.inj (h3.symm.trans hu)
    subst ey
    refine ⟨_, rfl, wpAny_letOwnedTupleGo_enum (s := { s with heap := h', toks := tk + 1 }) ho fun h'' he' sb => ?_⟩
    have T2 : h''.get? s.heap.objs.size = some { cls := .type "tuple", data := .seq #[.int i tk, y] } := (sb.2 _ (Nat.ne_of_gt el)).trans hT
    have new : ObjOk X.prog X.w (upd H s.heap.objs.size (.tup [.int (i : Nat), x])) h'' s.heap.objs.size (.tup [.int (i : Nat), x]) :=
      ⟨by show 2 ≤ sizeLine; decide, [.int i tk, y], .cons ⟨_, rfl⟩ (.cons ru .nil), ⟨_, T2, rfl, _, rfl⟩⟩
    have I1 : Inv X pins σ (upd H s.heap.objs.size (.tup [.int (i : Nat), x])) { s with heap := h'', toks := tk + 1 } := by
      refine I.turnedNew (ch := [e, it]) (fun b ob hb q => ?_) hf (Nat.le_refl _) new
      have b1 : b ≠ e := fun z => hb (by simp [z])
      have b2 : b ≠ it := fun z => hb (by simp [z])
      exact (sb.2 b b1).trans (hk b ob b1 b2 q)
    refine ⟨.ref s.heap.objs.size, _, I1, rfl, ⟨_, x, rfl, I.hok.fresh (Nat.le_refl _), rfl, fun ys hy => by rw [I.tuple_inj hy hq]; exact hx⟩, ⟨⟨y, ?_⟩, hit'.at fun o q => (sb.2 it (Ne.symm hne)).trans q, hne, hae, hai⟩, fun b hb => ?_⟩
    · have ei : ((i + 1 : Nat) : Int) = (i : Int) + 1 := by omega
      rw [ei]; exact he'
    · have hb' : b < s.heap.objs.size := by
        have hb2 : b = e ∨ b = it := by simpa using hb
        rcases hb2 with rfl | rfl
        · exact el
        · exact il
      rw [upd_ne (Nat.ne_of_lt hb')]
      exact (hf b hb).1
  done := by
    intro X hP hw hK hc i pins s σ H E I hf st hg
    subst hP hw hK
    obtain ⟨⟨old, he⟩, hit, hne, hae, hai⟩ := st
    obtain ⟨xs, hq, hx⟩ := hg
    obtain ⟨its, rv, p, hz⟩ := I.tuple hq
    obtain ⟨f0, f1, f2, f3, f4, f5⟩ := hf it (by simp)
    have hl := rv.length
    have sz : its.toArray.size = i := by rw [List.size_toArray, ← hl, hx]
    have pt : s.heap.IsTuple a its.toArray := p
    refine wpAny_pyNext_enum_endD (Draws.tuple (prog := X.prog) (w := X.w) (A := X.A.in1) (I.ok.hd hc) it a hai its.toArray) he ⟨by rw [sz]; exact hit, pt⟩ fun h' eb => ?_
    exact ⟨rfl, I.turned (t' := s.toks) (fun b o hb q => eb b o hb q) f0 f1 f3 f4 f5⟩
  self := fun A i s Q E st h => by
    obtain ⟨⟨_, he⟩, _⟩ := st
    exact wpAny_pyIter_enum he h

theorem newT_fits (a : Addr) (items : Array Value) (n : Nat) (dct : Option Addr) (sl : Array (Option Value)) :
    Meets (Builtin.«enumerate.__new__» ⟨[.type "enumerate", .ref a], []⟩) (fun _ R s => s.heap.get? a = some { cls := .type "tuple", dict := dct, data := .seq items n, slots := sl } ∧
      R (.ok (.ret (.ref (s.heap.objs.size + 1)))) { s with heap := (s.heap.push { cls := .type "tuple_iterator", data := .fields #[.ref a, .int 0 0] }).push { cls := .type "enumerate", data := .fields #[.none, .bool false, .ref s.heap.objs.size, rawInt 0, .none, .none] } }) :=
  .of_wp fun prog w A R st hyp => by
    obtain ⟨hp, gn, dr, tk, os⟩ := st
    obtain ⟨ha, hyp⟩ := hyp
    have he := sub_enumerate
    have hT : Heap.IsTuple (Shared.heap ⟨hp, gn, dr, tk, os⟩) a items := ⟨_, ha, rfl, n, rfl⟩
    have ez : (hp.push { cls := .type "tuple_iterator", data := .fields #[.ref a, .int 0 0] }).objs.size = hp.objs.size + 1 := Heap.size_push ..
    wp_walk using wpAny_loadPart' ha
    refine wpAny_stack_any fun sk => wpAny_pure ?_
    split
    · rename_i c _ _ _ _ _
      cases (c == Value.type "enumerate") <;> (wp_walk using wpAny_loadPart' ha, wpAny_pyIter_tuple hT) <;> exact ⟨_, rfl, by rw [ez]; exact hyp⟩
    · wp_walk using wpAny_loadPart' ha, wpAny_pyIter_tuple hT
      exact ⟨_, rfl, by rw [ez]; exact hyp⟩

theorem enumT_call {prog : Program} {w : World} {A : Around} {E : Value → Shared → Prop} {s : Shared} {a : Addr} {items : Array Value} {Q : Value → Shared → Prop} (ht : IsTup s.heap a items)
    (h : ∀ h', IsEnum h' (s.heap.objs.size + 1) s.heap.objs.size 0 .none → h'.IsTupleIter s.heap.objs.size a 0 → (∀ b o, s.heap.get? b = some o → h'.get? b = some o) → Q (.ref (s.heap.objs.size + 1)) { s with heap := h' }) :
    wpAny (model prog w) A (call (.type "enumerate") [.ref a]) Q E s := by
  obtain ⟨⟨cl, dd, dt, sl⟩, ha, hc, n, hd⟩ := ht
  obtain rfl : cl = .type "tuple" := hc
  obtain rfl : dt = .seq items n := hd
  refine callType_new F.called_enumerate (by decide) (F.typeCall_enumerate_1 _) (F.newCall_enumerate_1 _) (fun ob => F.args_object_init_2 ob _) F.entry_enumerate_new (newT_fits a items n dd sl) ⟨ha, ?_⟩
  have ez : (s.heap.push { cls := .type "tuple_iterator", data := .fields #[.ref a, .int 0 0] }).objs.size = s.heap.objs.size + 1 := Heap.size_push ..
  have g2 := Heap.get?_push_size (s.heap.push { cls := .type "tuple_iterator", data := .fields #[.ref a, .int 0 0] }) (o := { cls := .type "enumerate", data := .fields #[.none, .bool false, .ref s.heap.objs.size, rawInt 0, .none, .none] }) rfl
  rw [ez] at g2
  exact ⟨⟨_, g2, rfl⟩, h _ g2 ⟨_, Heap.get?_push_of_some _ (Heap.get?_push_size _ rfl), rfl, rfl⟩ fun b o x => Heap.get?_push_of_some _ (Heap.get?_push_of_some _ x)⟩
def iEnumT (K : PySem.W.Frag) (ta : TA) : TI := fun σ H R => ta σ H fun vs H1 => ∃ a xs, vs = [.ref a] ∧ SqT K H1 a xs ∧ R (IteT K a) H1
theorem pi_enumT {e : Expr} {ta : TA} {p pos tpos : Pos} {elts : List Expr} {kk : Nat} (hg : Gl X "enumerate") (hm : X.mg "enumerate" = none) (ha : PA X [e] ta) (hs : starEach [e] X.env = [(false, eval e X.env)] := by rfl) :
    PI X (.Tuple elts kk tpos) (.Call (.Name "enumerate" p) [e] [] pos) (iEnumT X.K ta) := by
  refine ⟨fun pins s σ H R I h => Call_ (ld_blt I hg hm boot_enumerate (PyProof.Rows.callWith_type1 (thn (ha.run pos pins s σ H _ I h) fun us s1 st => ?_) hs rfl))⟩
  obtain ⟨vs, H1, I1, r1, a, xs, rfl, hq, q⟩ := st
  obtain ⟨u, rfl, ru⟩ := vals1 r1
  cases ru
  obtain ⟨its, rv, p', hz⟩ := I1.tuple hq
  have al : a < s1.heap.objs.size := by
    obtain ⟨o, ho, _⟩ := p'
    exact Heap.lt_size ho
  refine enumT_call p' fun h' he hit hk => wpAny_pyIter_enum he ?_
  have I2 : Inv X pins σ H1 { s1 with heap := h' } := I1.kept (t' := s1.toks) hk
  refine ⟨s1.heap.objs.size + 1, [s1.heap.objs.size + 1, s1.heap.objs.size], _, _, H1, rfl, I2, turn_enumT a (s1.heap.objs.size + 1) s1.heap.objs.size, ⟨⟨.none, he⟩, hit, Nat.succ_ne_self _, Nat.ne_of_lt (Nat.lt_succ_of_lt al), Nat.ne_of_lt al⟩, fun b hb => ?_, q⟩
  have hle : s1.heap.objs.size ≤ b := by
    have hb2 : b = s1.heap.objs.size + 1 ∨ b = s1.heap.objs.size := by simpa using hb
    rcases hb2 with rfl | rfl
    · exact Nat.le_add_right _ _
    · exact Nat.le_refl _
  exact I1.fpOk hle (I1.hok.fresh hle)
theorem walk_enumT {K : PySem.W.Frag} {a : Addr} {xs : List V} : Walk (IteT K a) xs.length (fun H => SqT K H a xs) (YPair (fun i => some (.int (i : Nat))) (fun i => xs[i]?)) where
  goes i _ hi q := ⟨xs, xs[i], q, by simp [hi]⟩
  stops _ q := ⟨xs, q, rfl⟩
  yields i H v H' _ q y := by
    obtain ⟨T, x, h1, h2, h3, h4⟩ := y
    exact ⟨T, .int (i : Nat), x, h1, h2, h3, rfl, h4 xs q⟩

/-! tuple * 0, tuple * 1 -/
theorem mul_one_fits (l : Addr) (items : Array Value) (n : Nat) (dd : Option Addr) (sl : Array (Option Value)) (u : Tok) :
    Meets (Builtin.«tuple.__mul__» ⟨[.ref l, .int 1 u], []⟩) (fun _ R s => s.heap.get? l = some { cls := .type "tuple", dict := dd, data := .seq items n, slots := sl } ∧ R (.ok (.ret (.ref l))) s) :=
  .of_wp fun prog w A R st hyp => by
    obtain ⟨hp, gn, dr, tk, os⟩ := st
    obtain ⟨ha, hyp⟩ := hyp
    have f1 := AutoSeq1.idx_int
    have c0 : (decide ((1 : Int) < -(2 ^ 63)) || decide ((1 : Int) ≥ 2 ^ 63)) = false := by decide
    have c1 : (items.isEmpty || (1 : Int) == 1) = true := by simp
    have hT : (Shared.mk hp gn dr tk os).TypeIs (.ref l) "tuple" := ⟨_, ha, rfl⟩
    wp_walk using wpAny_loadPart' ha
    repeat (first
      | (refine wpAny_ite_false (decide_eq_false (by rw [c0]; exact Bool.false_ne_true)) ?_; wp_walk using wpAny_loadPart' ha)
      | (refine wpAny_ite_true (decide_eq_true (by rw [c1])) ?_; wp_walk using wpAny_loadPart' ha))
    exact ⟨_, rfl, hyp⟩
theorem mul_zero_fits (l : Addr) (items : Array Value) (n : Nat) (dd : Option Addr) (sl : Array (Option Value)) (u : Tok) (hne : items.isEmpty = false) :
    Meets (Builtin.«tuple.__mul__» ⟨[.ref l, .int 0 u], []⟩) (fun _ R s => s.heap.get? l = some { cls := .type "tuple", dict := dd, data := .seq items n, slots := sl } ∧
      R (.ok (.ret (.ref s.heap.objs.size))) { s with heap := s.heap.push { cls := .type "tuple", data := .seq #[] }, toks := s.toks }) :=
  .of_wp fun prog w A R st hyp => by
    obtain ⟨hp, gn, dr, tk, os⟩ := st
    obtain ⟨ha, hyp⟩ := hyp
    have f1 := AutoSeq1.idx_int
    have c0 : (decide ((0 : Int) < -(2 ^ 63)) || decide ((0 : Int) ≥ 2 ^ 63)) = false := by decide
    have c1 : (items.isEmpty || (0 : Int) == 1) = false := by rw [hne]; rfl
    have c2 : (decide ((0 : Int) ≤ 0) || items.isEmpty) = true := by simp
    wp_walk using wpAny_loadPart' ha
    repeat (first
      | (refine wpAny_ite_false (decide_eq_false (by rw [c0]; exact Bool.false_ne_true)) ?_; wp_walk using wpAny_loadPart' ha)
      | (refine wpAny_ite_false (decide_eq_false (by rw [c1]; exact Bool.false_ne_true)) ?_; wp_walk using wpAny_loadPart' ha)
      | (refine wpAny_ite_true (decide_eq_true (by rw [c2])) ?_; wp_walk using wpAny_loadPart' ha))
    exact ⟨_, rfl, hyp⟩

def rRepAny (K : PySem.W.Frag) : R2 := fun x y H Q => ∃ l k xs, x = .ref l ∧ y = .int k ∧ SqT K H l xs ∧ xs ≠ [] ∧ 0 ≤ k ∧ k ≤ 1000 ∧ xs.length ≤ 1000 ∧
  ∀ (H' : Hp) (p : Addr), (k = 1 ∧ p = l ∧ H' = H) ∨ (k ≠ 1 ∧ H p = none ∧ H' = upd H p (.tup (List.replicate k.toNat xs).flatten)) → Q (.ref p) H'
theorem op_repAny : OpR X (binaryOp .Mult) (rRepAny X.K) := by
  intro pins s σ H x y v u Q I rx ry h
  obtain ⟨l, k, xs, ex, ey, hT, hne, h0, h9, hz, q0⟩ := h
  have q1 : k = 1 → Q (.ref l) H := fun e => q0 _ _ (.inl ⟨e, rfl, rfl⟩)
  have q2 : k ≠ 1 → ∀ p, H p = none → Q (.ref p) (upd H p (.tup (List.replicate k.toNat xs).flatten)) := fun e p n => q0 _ _ (.inr ⟨e, n, rfl⟩)
  by_cases h2 : 2 ≤ k
  · exact op_repT pins s σ H x y v u Q I rx ry ⟨l, k, xs, ex, ey, hT, hne, h2, h9, hz, q2 (by omega)⟩
  · subst ex ey
    cases rx
    obtain ⟨t, rfl⟩ := ry
    obtain ⟨its, r, ⟨⟨cl, dd, dt, sl⟩, ho, hc, n, hd⟩, hs⟩ := I.tuple hT
    obtain rfl : cl = .type "tuple" := hc
    obtain rfl : dt = .seq its.toArray n := hd
    have hi : its.toArray.isEmpty = false := by
      cases its with
      | nil => cases r; exact absurd rfl hne
      | cons a b => rfl
    have hk : k = 0 ∨ k = 1 := by omega
    rcases hk with rfl | rfl
    · refine wpAny_binaryOp_repeat_ref (T := "tuple") (U := "int") (by decide) ⟨_, ho, rfl⟩ (fun s' => typeIs_int s' 0 t) noFill_tuple_mul F.fills_int_mul F.slot_int_rmul repeat_tuple F.slot_int_index.lookup
        (call_meets F.slot_int_rmul (typeIs_int s 0 t) F.entry_int_rmul (F.args_int_rmul_2 _ _) (int_rmul_tuple 0 t l its.toArray n dd sl)
          ⟨ho, rfl, ⟨_, ho, rfl⟩, call_meets F.slot_tuple_mul ⟨_, ho, rfl⟩ F.entry_tuple_mul (F.args_tuple_mul_2 _ _) (mul_zero_fits l its.toArray n dd sl t hi) ⟨ho, ?_⟩⟩)
      refine ⟨.ref s.heap.objs.size, _, I.laid (t' := s.toks) (o := .tup []) (fun b ob q => Heap.get?_push_of_some _ q) (Nat.le_refl _) ?_, rfl, q2 (by decide) _ (I.hok.fresh (Nat.le_refl _))⟩
      exact ⟨Nat.zero_le _, [], .nil, IsTup.new _ _⟩
    · refine wpAny_binaryOp_repeat_ref (T := "tuple") (U := "int") (by decide) ⟨_, ho, rfl⟩ (fun s' => typeIs_int s' 1 t) noFill_tuple_mul F.fills_int_mul F.slot_int_rmul repeat_tuple F.slot_int_index.lookup
        (call_meets F.slot_int_rmul (typeIs_int s 1 t) F.entry_int_rmul (F.args_int_rmul_2 _ _) (int_rmul_tuple 1 t l its.toArray n dd sl)
          ⟨ho, rfl, ⟨_, ho, rfl⟩, call_meets F.slot_tuple_mul ⟨_, ho, rfl⟩ F.entry_tuple_mul (F.args_tuple_mul_2 _ _) (mul_one_fits l its.toArray n dd sl t) ⟨ho, ?_⟩⟩)
      exact ⟨.ref l, H, I, rfl, q1 rfl⟩
end

/-! ### defs that are called only where no repr is under way -/
structure FnG (P : Program) (w : World) (K : PySem.W.Frag) (mg : Str → Option Value) (base : Heap) (k : Nat) (f : Addr) (fd : FuncData) (ps : List Str) (sp : Sp) : Prop where
  len : ∀ vs H Q E, sp vs H Q E → vs.length = ps.length
  run : ∀ (A : Around) (outer : List Env) (s : Shared) (H : Hp) (args : Args) (us : List Value) (vs : List V) (Q : VK) (E : XK), A.guards = some [] → Room k A →
    Env0 P w K mg base A outer s H → BindsTo s fd args (ps.zip us) → Vals vs us → sp vs H Q E → codeAny (model P w) A (.call (.ref f) args) (CR CX0 outer P w H s Q E) s
section
variable {P : Program} {w : World} {K : PySem.W.Frag} {mg : Str → Option Value} {base : Heap}
theorem fnG {x qual : Str} {st : Stmt} {f : Addr} {fd : FuncData} {N ps : List Str} {k : Nat} {sp : Sp} (F : Fun K x qual st f fd) (S : FnScope N ps (defScope st)) (len : ∀ vs H Q E, sp vs H Q E → vs.length = ps.length)
    (hbody : ∀ (cdv : Value) (A : Around) (outer : List Env) (s : Shared) (H : Hp) (vs : List V) (Q : VK) (E : XK), A.guards = some [] → Room k (A.deeper (envOfC qual (defScope st) s.heap.objs.size f cdv)) → sp vs H Q E →
      ∃ t, PSs (cxOf CX0 P w K mg base N qual (defScope st) f cdv A outer s H E).nox (defBody st) t ∧ t { nx := fun _ H' => Q .non H', rt := Q } (start N vs) H) : FnG P w K mg base (k + 1) f fd ps sp := by
  obtain ⟨oc, od, kV, doc, pm, an, cdv, ct, osl, rfl, lk, hcd⟩ := F.ex
  refine ⟨len, fun A outer s H args us vs Q E hg hr e0 hb r hsp => ?_⟩
  have at0 : ∀ b o, base.get? b = some o → s.heap.get? b = some o := fun b o e => (e0.bs b o e).1
  have KX := e0.mod.kin.keeps at0
  refine codeAny_call_function hr.depth (KX _ _ lk) rfl S.co S.gen rfl (PySem.W.codeRec_of KX hcd) (hb _ _ _ _ (wpAny_newFunctionEnv_cells S.kind (fun y hy => ?_) fun env he s1 x => ?_))
  · rcases S.par y.1 (List.of_mem_zip hy).1 with q | q
    · exact .inl q
    · exact .inr ⟨q, PySem.W.cellsFrom_some _ _ _ (.inl q)⟩
  subst he
  refine ⟨(e0.mod.nolimit.keeps at0).keeps x.toInCall.keep, codeAny_func ?_⟩
  obtain ⟨t, ht, hq⟩ := hbody cdv A outer s H vs Q E hg (hr.deeper _) hsp
  refine wpAny_mono (ht.nox.run [] s1 (start N vs) H _ (inv_start S hr.hd e0 (len _ _ _ _ hsp) r x) hq) (fun fl s' hs => ?_) fun e s' hs => hs
  have fin : ∀ {σ' : L2.St} {H' : Hp} {v : V} {u : Value}, Inv (cxOf CX0 P w K mg base N qual (defScope st) f cdv A outer s H E) [] σ' H' s' → RelV v u → Q v H' → CE outer P w H s Q u s' :=
    fun {_ H' v _} J rv q => ⟨v, H', J.os, J.bare, J.base, J.hok, rv, q⟩
  match fl, hs with
  | .ret u, ⟨v, σ', H', J, rv, q⟩ => exact fin J rv q
  | .next, ⟨σ', H', J, q⟩ => exact fin (v := V.non) (u := Value.none) J rfl q
  | .brk, ⟨_, _, _, q⟩ => exact False.elim q
  | .cont, ⟨_, _, _, q⟩ => exact False.elim q
end
section
variable {X : Cx} {k : Nat} {f : Addr} {fd : FuncData} {ps : List Str} {sp : Sp} {dvs : List V} {ds : List Value} {x : Str} {p pos : Pos} {e : Expr} {es : List Expr} {t : TA}
theorem pe_callG (F : FnG X.prog X.w X.K X.mg X.base k f fd ps sp) (hG : X.A.guards = some []) (hr : Room k X.A) (hg : Gl X x) (hm : X.mg x = some (.ref f)) (hk : PySem.W.keepIn X.K (.ref f) = true) (hb : Binds X.K fd ps ds) (hd : Vals dvs ds)
    (ha : PA X (e :: es) t) (hdb : (x == ("__debug__" : Str)) = false := by decide) (he : starEach (e :: es) X.env = (false, eval e X.env) :: starEach es X.env := by rfl) (hpl : (backTo pos (starEach es X.env)).any (·.1) = false := by rfl) :
    PE X (.Call (.Name x p) (e :: es) [] pos) (tCall sp dvs E0 t) := by
  refine ⟨fun pins s σ H Q I h => wpAny_Call_Name_kw (ld_glob I hg hm (PySem.W.callWith_K (h₀ := X.base) I.ok.mod.kin hk (thn (ha.run pos pins s σ H _ I h) fun us s1 st => ?_) he hpl) hdb)⟩
  obtain ⟨vs, H1, I1, r, q⟩ := st
  have r2 : Vals (vs ++ dvs) (us ++ ds) := r.append hd
  have hl : (us ++ ds).length = ps.length := by rw [← r2.length]; exact F.len _ _ _ _ q
  refine ⟨I1.kIn, wpAny_call (codeAny_mono (F.run X.A X.stack s1 H1 ⟨us, []⟩ (us ++ ds) (vs ++ dvs) Q E0 hG hr I1.env0 (hb s1 us I1.kIn hl) r2 q) fun r s' hq => ?_)⟩
  match r, hq with
  | .error _, hq => exact hq.elim
  | .ok (.ret u), hq => exact I1.after hq
  | .ok .next, hq => exact False.elim hq
  | .ok .brk, hq => exact False.elim hq
  | .ok .cont, hq => exact False.elim hq
end
end R76

/-! the end of a law's row, the law being a def of R76.FnG -/
namespace R76
open PySem PySem.Spec PyProof.Rows L2
theorem law_callG {P : Program} {w : World} {K : PySem.W.Frag} {mg mb : Str → Option Value} {k : Nat} {fa a : Addr} {fd : FuncData} {x : Str} {sp : Sp} {z : Shared} {vs : List Value} {ns : List Int}
    (KX : K.In z.heap) (hns : z.heap.Ns mainGlobals mg) (hb : z.heap.Ns builtinsNs mb) (hbb : ∀ x : Str, x ≠ "__name__" → mb x = bootBuiltins x) (hlim : z.heap.NoLimit) (hg : z.gens = #[])
    (ha : z.heap.get? a = some { cls := .type "list", data := .seq vs.toArray }) (hi : IntsAre vs ns) (hl : ns.length ≤ sizeLine) (hr : Room k callerA)
    (F : ∀ base : Heap, K.In base → base.Ns mainGlobals mg → FnG P w K mg base k fa fd [x] sp) (hbind : ∀ (s : Shared) (u : Value), BindsTo s fd ⟨[u], []⟩ [(x, u)])
    (hsp : ∀ H : Hp, Only H → SqL K H a (ns.map V.int) → sp [.ref a] H (fun v _ => v = .bl true) E0) :
    codeAny (model P w) callerA (.call (.ref fa) ⟨[.ref a], []⟩) (fun r s' => r = .ok (.ret (.bool true)) ∧ OldK z.heap s'.heap ∧ s'.os = z.os ∧ AllBare s'.gens) z := by
  have rv : Vals (ns.map V.int) vs := vals_ints hi
  have go : ∀ H : Hp, Only H → SqL K H a (ns.map V.int) → HOk P w H z.heap → (∀ b, H b ≠ none → b = a) → (H a ≠ none → K.lookup a = none) →
      codeAny (model P w) callerA (.call (.ref fa) ⟨[.ref a], []⟩) (fun r s' => r = .ok (.ret (.bool true)) ∧ OldK z.heap s'.heap ∧ s'.os = z.os ∧ AllBare s'.gens) z := by
    intro H hO hS hok hA hK
    -- a dict is none of the tracked
    have dictFree : ∀ {b : Addr} {o : Obj} {es : Array DictEntry} {ep : Nat}, z.heap.get? b = some o → o.data = .dict es ep → H b = none := by
      intro b o es ep e d
      by_cases hn : H b = none
      · exact hn
      · have eb := hA b hn
        rw [eb, ha] at e
        cases e
        have d' : Data.seq vs.toArray _ = Data.dict es ep := d
        cases d'
    have nsB : ∀ {b : Addr} {m : Str → Option Value}, z.heap.Ns b m → (hidT z.heap H).Ns b m := by
      rintro b m ⟨o, es, ep, e, d, r⟩
      exact ⟨o, es, ep, hidT_get e (dictFree e d), d, r⟩
    have kB : K.In (hidT z.heap H) := by
      intro b o e
      refine hidT_get (KX b o e) ?_
      by_cases hn : H b = none
      · exact hn
      · have eb := hA b hn
        subst eb
        rw [hK hn] at e
        cases e
    have lB : (hidT z.heap H).NoLimit := by
      obtain ⟨mc, h1, h2⟩ := hlim
      exact ⟨mc, nsB h1, h2⟩
    have e0 : Env0 P w K mg (hidT z.heap H) callerA [] z H := {
      frames := rfl
      mod := ⟨kB, nsB hns, ⟨mb, nsB hb, hbb⟩, lB⟩
      bs := fun b o e => of_hidT e
      bsz := Nat.le_of_eq (hidT_size _ _)
      funs := trivial
      frf := fun b hb' => absurd (show b ∈ ([] : List Addr) from hb') List.not_mem_nil
      hok := hok
      bare := .of_eq hg }
    refine codeAny_mono ((F _ kB (nsB hns)).run callerA [] z H ⟨[.ref a], []⟩ [.ref a] [.ref a] _ _ rfl hr e0 (hbind z (.ref a)) (.cons rfl .nil) (hsp H hO hS)) fun r s' h => ?_
    match r, h with
    | .error _, h => exact h.elim
    | .ok .next, h => exact False.elim h
    | .ok .brk, h => exact False.elim h
    | .ok .cont, h => exact False.elim h
    | .ok (.ret u), ⟨v, H', os, bare, un, hok', r', q⟩ =>
      have qv : v = .bl true := q
      subst qv
      obtain rfl : u = Value.bool true := r'
      refine ⟨rfl, OldK.of_keep fun b o e => ?_, os, bare⟩
      by_cases hn : H b = none
      · exact un.keep b o e hn (fun y => absurd (show b ∈ ([] : List Addr) from y) List.not_mem_nil) List.not_mem_nil
      · rcases hO b with y | ⟨ob, xs, y⟩
        · exact absurd y hn
        · obtain ⟨e1, _⟩ := hok b _ y
          obtain ⟨e2, _⟩ := hok' b _ (un.frzs b ob _ y)
          rw [e] at e1
          cases e1
          exact e2
  by_cases hk : K.lookup a = none
  · let H : Hp := fun b => if b = a then some (.frz { cls := .type "list", data := .seq vs.toArray } (.lst (ns.map V.int))) else none
    have at1 : H a = some (.frz { cls := .type "list", data := .seq vs.toArray } (.lst (ns.map V.int))) := if_pos rfl
    have at2 : ∀ b, b ≠ a → H b = none := fun b hb' => if_neg hb'
    refine go H (fun b => ?_) (.inl (.inr ⟨_, at1⟩)) (fun b u y => ?_) (fun b y => ?_) fun _ => hk
    · by_cases hb' : b = a
      · rw [hb']; exact .inr ⟨_, _, at1⟩
      · exact .inl (at2 b hb')
    · by_cases hb' : b = a
      · subst hb'
        rw [at1] at y
        cases y
        exact ⟨ha, by rw [List.length_map]; exact hl, vs, _, rv, ha⟩
      · rw [at2 b hb'] at y
        cases y
    · by_cases hb' : b = a
      · exact hb'
      · exact absurd (at2 b hb') y
  · obtain ⟨o, ho⟩ := Option.ne_none_iff_exists'.mp hk
    have e := KX a o ho
    rw [ha] at e
    cases e
    have lenV := hi.length
    refine go (fun _ => none) (fun _ => .inl rfl) (.inr ⟨_, vs.toArray, _, ho, rfl, rfl, rfl, by rw [List.size_toArray, lenV]; exact hl, by simpa using rv⟩) (fun b u y => ?_) (fun b y => absurd rfl y) fun y => absurd rfl y
    have y' : (none : Option HO) = some u := y
    cases y'
theorem walk_ofG {l : PySem.W.OpenLaw} {n k : Nat} {q : Program} {loose : List Str} {XP : (Str → Option Value) → Heap → Prop} {YP : World → Heap → Prop} {d : DefRec} {K : Params → PySem.W.Frag} {sp : World → Sp} {x : Str}
    (hn : l.most = some n) (hn2 : n ≤ sizeLine) (hdf : d.params.defaults = []) (hr : Room k callerA) (hY : ∀ (w : World) (h : Heap), YP w h → (K w.params).In h)
    (F : ∀ (w : World) (mg : Str → Option Value) (fa : Addr) (h : Heap), (K w.params).In h → h.Ns mainGlobals mg → mg d.name = some (.ref fa) →
      ∃ fd : FuncData, (∀ (s : Shared) (u : Value), BindsTo s fd ⟨[u], []⟩ [(x, u)]) ∧ ∀ base : Heap, (K w.params).In base → base.Ns mainGlobals mg → FnG l.prog w (K w.params) mg base k fa fd [x] (sp w))
    (hsp : ∀ (w : World) (H : Hp) (a : Addr) (ns : List Int), ns.length ≤ n → Only H → SqL (K w.params) H a (ns.map V.int) → sp w [.ref a] H (fun v _ => v = .bl true) E0) :
    PySem.W.WalkO q loose XP YP l.row.toRowW d [] (fun f vs => PySem.call f vs) := by
  refine Att.attach_call hn hdf fun w z0 z1 mg mb fa o pm cd doc a vs ns G Y ho hd hcd hmg hobj hints hlen hg => ?_
  obtain ⟨fd, hb, hF⟩ := F w mg fa _ (hY w _ Y) G.T.g hmg
  exact law_callG (hY w _ Y) G.T.g G.T.b G.T.builtins G.T.nolimit hg hobj hints (Nat.le_trans hlen hn2) hr hF hb fun H hO hS => hsp w H a ns hlen hO hS
end R76

namespace K76
open PySem L2 R76
/-! ### the text by places -/
def top (i : Nat) : Stmt := PySem.Challenge.pw_piecedruns_k76_areas_never_meet.main.body.getD i (.Pass ⟨0, 0, 0, 0⟩)
abbrev sInit : Stmt := inClass (top 1) 0
abbrev sBase : Stmt := inClass (top 1) 1
abbrev sPlace : Stmt := inClass (top 1) 2
abbrev sPlaced : Stmt := top 2
abbrev sApart : Stmt := top 3
abbrev sBag : Stmt := top 5
abbrev sTake : Stmt := top 6
abbrev sSome : Stmt := top 7
abbrev sAlike : Stmt := top 8
abbrev sPl : Stmt := top 9
abbrev sLaw : Stmt := top 10
/-! ### heaps -/
theorem same_new {H : Hp} {p : Addr} {o : HO} (h : H p = none) : Same H (upd H p o) := fun b x e => by
  rw [upd_ne (ne_of_none e h)]
  exact e
/-- all but b as it was -/
def But (b : Addr) (H H' : Hp) : Prop := ∀ a o, a ≠ b → H a = some o → H' a = some o
theorem But.refl (b : Addr) (H : Hp) : But b H H := fun _ _ _ h => h
theorem But.trans {b : Addr} {H H1 H2 : Hp} (x : But b H H1) (y : But b H1 H2) : But b H H2 := fun a o n h => y a o n (x a o n h)
theorem But.same {b : Addr} {H H' : Hp} (x : Same H H') : But b H H' := fun a o _ h => x a o h
theorem But.upd {b : Addr} {H : Hp} {o : HO} : But b H (upd H b o) := fun a u n h => by
  rw [upd_ne n]
  exact h
/-- the bag: two numbers of the draws, a third one, the cells -/
structure Bag (H : Hp) (b l : Addr) (c0 c1 c2 : Int) (ns : List Int) : Prop where
  at_ : H b = some (.lst [.int c0, .int c1, .int c2, .ref l])
  cells : H l = some (.lst (ns.map V.int))
  ne : l ≠ b
  p0 : 0 ≤ c0
  p1 : 0 ≤ c1
  q1 : c1 < 2147483647
  pos : ∀ n ∈ ns, 0 ≤ n
  few : ns.length ≤ 63
def BagAt (H : Hp) (b l : Addr) (ns : List Int) : Prop := ∃ c0 c1 c2, Bag H b l c0 c1 c2 ns
theorem Bag.same {H H' : Hp} {b l : Addr} {c0 c1 c2 : Int} {ns : List Int} (B : Bag H b l c0 c1 c2 ns) (s : Same H H') : Bag H' b l c0 c1 c2 ns :=
  ⟨s _ _ B.at_, s _ _ B.cells, B.ne, B.p0, B.p1, B.q1, B.pos, B.few⟩
theorem BagAt.same {H H' : Hp} {b l : Addr} {ns : List Int} (B : BagAt H b l ns) (s : Same H H') : BagAt H' b l ns := by
  obtain ⟨c0, c1, c2, B⟩ := B
  exact ⟨c0, c1, c2, B.same s⟩
/-- the bag written anew -/
theorem Bag.put {H : Hp} {b l : Addr} {c0 c1 c2 d0 d1 d2 : Int} {ns : List Int} (B : Bag H b l c0 c1 c2 ns) (p0 : 0 ≤ d0) (p1 : 0 ≤ d1) (q1 : d1 < 2147483647) : Bag (upd H b (.lst [.int d0, .int d1, .int d2, .ref l])) b l d0 d1 d2 ns :=
  ⟨upd_same, by rw [upd_ne B.ne]; exact B.cells, B.ne, p0, p1, q1, B.pos, B.few⟩
theorem head_cut {ns : List Int} (h : ∀ n ∈ ns, 0 ≤ n) (lo hi : Option Int) : ∃ c, 0 ≤ c ∧ atI (cutV (ns.map V.int) lo hi ++ [V.int 0]) 0 = some (.int c) := by
  cases e : cutV (ns.map V.int) lo hi with
  | nil => exact ⟨0, Int.le_refl _, rfl⟩
  | cons y r =>
    have hy : y ∈ ns.map V.int := by
      have h1 : y ∈ cutV (ns.map V.int) lo hi := by rw [e]; exact List.mem_cons_self
      exact List.mem_of_mem_drop (List.mem_of_mem_take h1)
    obtain ⟨n, hn, rfl⟩ := List.mem_map.mp hy
    exact ⟨n, h n hn, atI_nat (j := 0) rfl⟩
/-! ### the draws -/
/-- _law_take: a number from 0 to many less 1; the bag alone is changed -/
def spTake : Sp := fun vs H Q _ => ∃ (b l : Addr) (ns : List Int) (m : Int), vs = [.ref b, .int m] ∧ BagAt H b l ns ∧ 1 ≤ m ∧ m < 1000000 ∧ ∀ (H' : Hp) (v : Int), But b H H' → BagAt H' b l ns → 0 ≤ v → v < m → Q (.int v) H'
structure Blt (mg : Str → Option Value) : Prop where
  int : mg "int" = none
  abs : mg "abs" = none
  len : mg "len" = none
  max : mg "max" = none
  min : mg "min" = none
  tuple : mg "tuple" = none
  range : mg "range" = none
  repr : mg "repr" = none
  enumerate : mg "enumerate" = none
  sorted : mg "sorted" = none
  zip : mg "zip" = none
section
variable {P : Program} {w : World} {K : PySem.W.Frag} {mg : Str → Option Value} {base : Heap}
theorem scT : FnScope ["bag", "many", "cell", "stirred", "value", "begin", "second"] ["bag", "many"] (defScope sTake) := ⟨rfl, rfl, rfl, by decide +kernel, rfl, by decide +kernel, by decide +kernel⟩
theorem ok_take {f : Addr} {fd : FuncData} (F : Fun K "_law_take" "_law_take" sTake f fd) (T : Blt mg) : FnOk P w K mg base CX0 1 f fd ["bag", "many"] spTake := by
  refine F.ok scT (fun vs H Q E h => ?_) (fun cdv A outer s H vs Q E hr h => ?_)
  · obtain ⟨b, l, ns, m, rfl, _⟩ := h
    rfl
  · obtain ⟨b, l, ns, m, rfl, ⟨c0, c1, c2, B⟩, m1, m2, k⟩ := h
    refine ⟨_, C8.pss_cut (ps_if (pt_cmpR op_eq (pe_ix ix_list (pv 0) pe_int (fun _ _ => rfl)) pe_int (nomark _))
        (pss_cons (ps_set (i := 2) scT.nd rfl (Or.inl rfl) (pe_ix ix_list (pe_op op_cat (pe_slice sl_list (pe_ix ix_list (pv 0) pe_int (fun _ _ => rfl)) (po_some (pe_ix ix_list (pv 0) pe_int (fun _ _ => rfl))) po_none) (pe_lst (pa_cons pe_int pa_nil))) pe_int (fun _ _ => rfl)))
        (pss_cons (ps_augS (pv 0) pe_int get_list pe_int ip_add set_list)
        (C8.pss_cut (ps_if (pt_cmpR op_ge (pv 2) (pe_op op_pow pe_int pe_int) (nomark _)) (pss_one (ps_asg (pv 2) (pg_sub (pv 0) pe_int set_list))) pss_nil)
        (pss_cons (ps_set (i := 3) scT.nd rfl (Or.inl rfl) (pe_op op_add (pe_op op_add (pe_op op_mul (pe_ix ix_list (pv 0) pe_int (fun _ _ => rfl)) pe_int)
            (pe_op op_mod (pe_callTy call_int1 (by rfl) T.int (by decide +kernel) (pa_cons (pv 2) pa_nil)) pe_int)) (pe_op op_mul pe_int (pe_ix ix_list (pv 0) pe_int (fun _ _ => rfl)))))
        (pss_one (ps_asg (pe_op op_mod (pe_callTy call_int1 (by rfl) T.int (by decide +kernel) (pa_cons (pv 3) pa_nil)) pe_int) (pg_sub (pv 0) pe_int set_list)))))))
        pss_nil)
      (pss_cons (ps_if (pt_cmpR op_gt (pe_ix ix_list (pv 0) pe_int (fun _ _ => rfl)) pe_int (nomark _))
        (pss_cons (ps_set (i := 4) scT.nd rfl (Or.inl rfl) (pe_op op_mod (pe_callTy call_int1 (by rfl) T.int (by decide +kernel) (pa_cons (pe_ix ix_list (pv 0) pe_int (fun _ _ => rfl)) pa_nil)) (pv 1)))
        (pss_cons (ps_asg (pe_op op_fdiv (pe_callTy call_int1 (by rfl) T.int (by decide +kernel) (pa_cons (pe_ix ix_list (pv 0) pe_int (fun _ _ => rfl)) pa_nil)) (pv 1)) (pg_sub (pv 0) pe_int set_list))
        (pss_one (ps_ret (pv 4))))) pss_nil)
      (pss_cons (ps_set (i := 5) scT.nd rfl (Or.inl rfl) (pe_op op_mod (pe_callTy call_int1 (by rfl) T.int (by decide +kernel) (pa_cons (pe_op op_mul (pe_op op_add (pe_ix ix_list (pv 0) pe_int (fun _ _ => rfl)) pe_int) pe_int) pa_nil)) pe_int))
      (pss_cons (ps_set (i := 6) scT.nd rfl (Or.inl rfl) (pe_op op_mod (pe_callTy call_int1 (by rfl) T.int (by decide +kernel) (pa_cons (pe_op op_mul (pe_op op_mod (pe_callTy call_int1 (by rfl) T.int (by decide +kernel) (pa_cons (pe_op op_mul (pv 5) (pv 5)) pa_nil)) pe_int) pe_int) pa_nil)) pe_int))
      (pss_one (ps_ret (pe_op op_mod (pe_callTy call_int1 (by rfl) T.int (by decide +kernel) (pa_cons (pe_op op_fdiv (pv 6) pe_int) pa_nil)) (pv 1))))))), ?_⟩
    have hB := B.at_
    refine ⟨fun σ' H' => ∃ (d0 d1 d2 : Int) (v2 v3 : Option V), σ' = [some (.ref b), some (.int m), v2, v3, none, none, none] ∧ But b H H' ∧ Bag H' b l d0 d1 d2 ns, ?_, ?_⟩
    · refine ⟨_, rfl, b, _, 0, .int c0, rfl, rfl, SqL.of hB, rfl, rfl, _, rfl, ite2 (fun e => ?_) (fun e => ?_)⟩
      · -- cell = (bag[3][bag[2]:] + [0])[0]
        refine ⟨_, rfl, b, _, 3, .ref l, rfl, rfl, SqL.of hB, rfl, ⟨_, rfl, b, _, 2, .int c2, rfl, rfl, SqL.of hB, rfl, _, rfl, ?_⟩⟩
        refine ⟨l, _, rfl, SqL.of B.cells, fun p np => ?_⟩
        refine ⟨Nat.le_of_lt (by decide), fun q nq => ?_⟩
        have npq : p ≠ q := ne_of_none upd_same nq
        refine ⟨p, q, _, _, rfl, rfl, by rw [upd_ne npq, upd_same], upd_same, ?_, fun r nr => ?_⟩
        · have := cutV_length (ns.map V.int) (some c2) none
          rw [List.length_map] at this
          have h63 := B.few
          exact Nat.le_trans (Nat.add_le_add_right (Nat.le_trans this h63) _) (by decide)
        obtain ⟨c, hc, ec⟩ := head_cut B.pos (some c2) none
        refine ⟨r, _, 0, .int c, rfl, rfl, SqL.of upd_same, ec, ?_⟩
        have s3 : Same H (upd (upd (upd H p _) q (.lst [V.int 0])) r (.lst (cutV (ns.map V.int) (some c2) none ++ [V.int 0]))) := ((same_new np).trans (same_new nq)).trans (same_new nr)
        generalize upd (upd (upd H p _) q (.lst [V.int 0])) r (.lst (cutV (ns.map V.int) (some c2) none ++ [V.int 0])) = H3 at s3 ⊢
        have B3 := B.same s3
        -- bag[2] += 1
        refine ⟨_, rfl, b, _, 2, .int c2, rfl, rfl, SqL.of B3.at_, rfl, c2, 1, rfl, rfl, b, _, 2, 2, rfl, rfl, B3.at_, rfl, ?_⟩
        have B4 : Bag (upd H3 b (.lst [.int c0, .int c1, .int (c2 + 1), .ref l])) b l c0 c1 (c2 + 1) ns := B3.put B.p0 B.p1 B.q1
        -- if cell >= 10 ** 18: bag[0] = cell
        refine ⟨fun σ' H' => ∃ d0, σ' = [some (.ref b), some (.int m), some (.int c), none, none, none, none] ∧ But b H H' ∧ Bag H' b l d0 c1 (c2 + 1) ns, ?_, ?_⟩
        · refine ⟨_, rfl, _, _, rfl, rfl, ⟨by decide, by decide, by decide⟩, _, _, rfl, rfl, _, rfl, ite2 (fun _ => ?_) (fun _ => ?_)⟩
          · refine ⟨_, rfl, _, rfl, b, _, 0, 0, rfl, rfl, B4.at_, rfl, c, rfl, ((But.same s3).trans But.upd).trans But.upd, B4.put hc B.p1 B.q1⟩
          · exact ⟨c0, rfl, (But.same s3).trans But.upd, B4⟩
        · rintro σ5 H5 ⟨d0, rfl, b5, B5⟩
          -- stirred = ..; bag[1] = int(stirred) % 2147483647
          refine ⟨_, rfl, b, _, 1, .int c1, rfl, rfl, SqL.of B5.at_, rfl, _, _, rfl, rfl, .inr ⟨by decide, by decide⟩, _, rfl, .inl ⟨c, rfl, _, _, rfl, rfl, (by show (0 : Int) < 2147483647; decide), _, _, rfl, rfl, ?_⟩⟩
          refine ⟨_, rfl, b, _, 2, .int (c2 + 1), rfl, rfl, SqL.of B5.at_, rfl, _, _, rfl, rfl, .inl ⟨by decide, by decide⟩, _, _, rfl, rfl, ?_⟩
          refine ⟨_, rfl, .inl ⟨_, rfl, _, _, rfl, rfl, (by show (0 : Int) < 2147483647; decide), ?_⟩⟩
          refine ⟨_, rfl, b, _, 1, 1, rfl, rfl, B5.at_, rfl, d0, _, c2 + 1, _, _, rfl, b5.trans But.upd, B5.put B5.p0 (Int.emod_nonneg _ (by decide)) (Int.emod_lt_of_pos _ (by decide))⟩
      · exact ⟨c0, c1, c2, none, none, rfl, But.refl _ _, B⟩
    · rintro σ' H' ⟨d0, d1, d2, v2, v3, rfl, bu, B'⟩
      refine ⟨_, rfl, b, _, 0, .int d0, rfl, rfl, SqL.of B'.at_, rfl, _, _, rfl, rfl, _, rfl, ite2 (fun e => ?_) (fun e => ?_)⟩
      · have e0 : 0 < d0 := of_decide_eq_true e
        refine ⟨_, rfl, b, _, 0, .int d0, rfl, rfl, SqL.of B'.at_, rfl, .inl ⟨d0, rfl, _, rfl, _, _, rfl, rfl, (by show 0 < m; omega), ?_⟩⟩
        refine ⟨_, rfl, b, _, 0, .int d0, rfl, rfl, SqL.of B'.at_, rfl, .inl ⟨d0, rfl, _, rfl, _, _, rfl, rfl, ⟨by omega, by omega⟩, ?_⟩⟩
        refine ⟨_, rfl, b, _, 0, 0, rfl, rfl, B'.at_, rfl, _, rfl, ?_⟩
        exact k _ _ (bu.trans But.upd) ⟨_, _, _, B'.put (Int.ediv_nonneg (by omega) (by omega)) B'.p1 B'.q1⟩ (Int.emod_nonneg _ (by omega)) (Int.emod_lt_of_pos _ (by omega))
      · -- begin, second
        have p1 := B'.p1
        have q1 := B'.q1
        refine ⟨_, rfl, b, _, 1, .int d1, rfl, rfl, SqL.of B'.at_, rfl, _, _, rfl, rfl, _, _, rfl, rfl, .inr ⟨by decide, by decide⟩, .inl ⟨_, rfl, _, _, rfl, rfl, (by show (0 : Int) < 1000000007; decide), ?_⟩⟩
        have g0 : 0 ≤ ((d1 + 1) * 39373) % 1000000007 := Int.emod_nonneg _ (by decide)
        have g1 : ((d1 + 1) * 39373) % 1000000007 < 1000000007 := Int.emod_lt_of_pos _ (by decide)
        refine ⟨_, rfl, _, rfl, _, _, rfl, rfl, .inl ⟨by omega, by omega⟩, .inl ⟨_, rfl, _, _, rfl, rfl, (by show (0 : Int) < 998244353; decide), _, _, rfl, rfl, .inr ⟨by decide, by decide⟩, .inl ⟨_, rfl, _, _, rfl, rfl, (by show (0 : Int) < 998244353; decide), ?_⟩⟩⟩
        refine ⟨_, rfl, _, _, rfl, rfl, ⟨by decide, by decide⟩, .inl ⟨_, rfl, _, rfl, _, _, rfl, rfl, (by show 0 < m; omega), ?_⟩⟩
        exact k _ _ bu ⟨_, _, _, B'⟩ (Int.emod_nonneg _ (by omega)) (Int.emod_lt_of_pos _ (by omega))
/-- _law_some: one of the things -/
def spSome (K : PySem.W.Frag) : Sp := fun vs H Q _ => ∃ (b l : Addr) (ns : List Int) (t : Addr) (xs : List V), vs = [.ref b, .ref t] ∧ BagAt H b l ns ∧ t ≠ b ∧ H t = some (.lst xs) ∧ 1 ≤ xs.length ∧ xs.length < 1000000 ∧ ∀ (H' : Hp) (v : V), But b H H' → BagAt H' b l ns → v ∈ xs → Q v H'
theorem scS : FnScope ["bag", "things"] ["bag", "things"] (defScope sSome) := ⟨rfl, rfl, rfl, by decide +kernel, rfl, by decide +kernel, by decide +kernel⟩
theorem ok_some {f fT : Addr} {fd fdT : FuncData} (F : Fun K "_law_some" "_law_some" sSome f fd) (T : Blt mg) (FT : Fun K "_law_take" "_law_take" sTake fT fdT) (bT : Binds K fdT ["bag", "many"] []) (gT : mg "_law_take" = some (.ref fT)) :
    FnOk P w K mg base CX0 2 f fd ["bag", "things"] (spSome K) := by
  refine F.ok scS (fun vs H Q E h => ?_) (fun cdv A outer s H vs Q E hr h => ?_)
  · obtain ⟨b, l, ns, t, xs, rfl, _⟩ := h
    rfl
  · obtain ⟨b, l, ns, t, xs, rfl, B, nt, ht, h1, h2, k⟩ := h
    refine ⟨_, pss_one (ps_ret (pe_ix ix_list (pv 1) (pe_call (ok_take FT T) hr (by rfl) gT FT.kp bT .nil pass0 (pa_cons (pv 0) (pa_cons (pe_callB call_len_seq (by rfl) T.len PySem.boot_len (pa_cons (pv 1) pa_nil)) pa_nil))) (fun _ _ => rfl))), ?_⟩
    refine ⟨_, rfl, _, rfl, _, rfl, t, _, rfl, .inl (SqL.of ht), b, l, ns, _, rfl, B, by omega, by omega, fun H' v bu B' v0 v1 => ?_⟩
    obtain ⟨j, rfl⟩ := Int.eq_ofNat_of_zero_le v0
    have hj : j < xs.length := by omega
    refine ⟨t, xs, j, xs[j], rfl, rfl, SqL.of (bu _ _ nt ht), atI_nat (List.getElem?_eq_getElem hj), k _ _ bu B' (List.getElem_mem hj)⟩
end
end K76

namespace K76
open PySem L2 R76
theorem cut63 {ns : List Int} (h : ns.length ≤ 63) : cutV (ns.map V.int) none (some 63) = ns.map V.int := by
  unfold cutV
  rw [show HT.sIx (ns.map V.int).length (ns.map V.int).length (some 63) = min 63 (ns.map V.int).length from HT.sIx_nat _ _ 63, HT.sIx_none, List.drop_zero]
  apply List.take_of_length_le
  rw [List.length_map]
  omega
theorem kept {σ : L2.St} {H : Hp} {A B : Hp → Prop} (h : A H) : tYes σ H (fun b H3 => if b = true then A H3 else B H3) := by
  show (if true = true then A H else B H)
  rw [if_pos rfl]
  exact h
theorem same_put {H0 H : Hp} {D : Addr} {o : HO} (s : Same H0 H) (n : H0 D = none) : Same H0 (upd H D o) := fun b x e => by
  rw [upd_ne (ne_of_none e n)]
  exact s b x e
section
variable {P : Program} {w : World} {K : PySem.W.Frag} {mg : Str → Option Value} {base : Heap}
/-! ### the bag made -/
def absI (n : Int) : Int := if n < 0 then -n else n
def spBag (K : PySem.W.Frag) : Sp := fun vs H Q _ => ∃ (a : Addr) (ns : List Int), vs = [.ref a] ∧ SqL K H a (ns.map V.int) ∧ ns.length ≤ 63 ∧ ∀ (H' : Hp) (b l : Addr) (cs : List Int), Same H H' → H b = none → BagAt H' b l cs → Q (.ref b) H'
theorem scB : FnScope ["script", "cell"] ["script"] (defScope sBag) := ⟨rfl, rfl, rfl, by decide +kernel, rfl, by decide +kernel, by decide +kernel⟩
theorem ok_bag {f : Addr} {fd : FuncData} (F : Fun K "_law_bag" "_law_bag" sBag f fd) (T : Blt mg) : FnOk P w K mg base CX0 1 f fd ["script"] (spBag K) := by
  refine F.ok scB (fun vs H Q E h => ?_) (fun cdv A outer s H vs Q E hr h => ?_)
  · obtain ⟨a, ns, rfl, _⟩ := h
    rfl
  · obtain ⟨a, ns, rfl, hS, hlen, k⟩ := h
    refine ⟨_, pss_one (ps_ret (pe_lst (pa_cons pe_int (pa_cons pe_int (pa_cons pe_int (pa_cons
      (pe_lc (own := [("cell", 1)]) (g := gName 1) (by rfl) scB.nd (pi_list (pe_slice sl_list (pv 0) po_none (po_some pe_int))) (blkOk_by (own := [("cell", 1)]) (N := ["script", "cell"]) (sc := defScope sBag) (by decide +kernel))
        (fun _ _ _ _ _ => pg_name (i := 1) scB.nd rfl (Or.inl rfl)) (fun _ _ _ _ _ => pts_nil) (fun _ _ _ _ _ => pe_callB call_abs (by rfl) T.abs (by decide +kernel) (pa_cons (pv 1) pa_nil))) pa_nil)))))), ?_⟩
    refine ⟨_, rfl, 63, rfl, a, _, rfl, hS, fun p np => ?_⟩
    rw [cut63 hlen]
    have s1 : Same H (upd H p (.lst (ns.map V.int))) := same_new np
    refine ⟨p, rfl, ⟨_, SqL.of upd_same⟩, fun D nD => ?_⟩
    have npD : p ≠ D := ne_of_none upd_same nD
    refine lc_list (K := K) (a := p) (xs := ns.map V.int) (fun i H' => Same (upd H p (.lst (ns.map V.int))) H' ∧ H' D = some (.lst ((ns.take i).map fun n => V.int (absI n)))) ⟨same_new nD, upd_same⟩
      (fun i H' _ hP => SqL.of (hP.1 _ _ upd_same)) (fun i x H' hx hP => ?_) (fun H' hP => ?_)
    · rw [List.getElem?_map] at hx
      obtain ⟨n, hn, rfl⟩ := Option.map_eq_some_iff.mp hx
      refine ⟨rfl, ?_⟩
      refine kept ?_
      refine ⟨_, rfl, n, rfl, _, hP.2, ?_, same_put hP.1 nD, ?_⟩
      · rw [List.length_map, List.length_take]
        exact Nat.lt_of_le_of_lt (Nat.min_le_right _ _) (small1000 (by omega))
      · rw [upd_same, List.take_add_one, hn, List.map_append]
        rfl
    · obtain ⟨sm, eD⟩ := hP
      rw [List.length_map, List.take_length] at eD
      refine ⟨by show 4 ≤ sizeLine; decide, fun b nb => ?_⟩
      have sA : Same H (upd H' b (.lst [V.int 0, V.int 1234567891, V.int 0, V.ref D])) := (s1.trans sm).trans (same_new nb)
      have fb : H b = none := (s1.trans sm).free nb
      refine k _ b D (ns.map absI) sA fb ⟨0, 1234567891, 0, upd_same, ?_, ne_of_none eD nb, by decide, by decide, by decide, fun n hn => ?_, by rw [List.length_map]; exact hlen⟩
      · rw [upd_ne (ne_of_none eD nb), eD, List.map_map]
        rfl
      · obtain ⟨m, _, rfl⟩ := List.mem_map.mp hn
        unfold absI
        split <;> omega
/-! ### two values compared -/
def spAlike (K : PySem.W.Frag) : Sp := fun vs H Q _ => ∃ (a c : Addr) (d : PyData), vs = [.ref a, .ref c] ∧ Dp K H (.ref a) d ∧ Dp K H (.ref c) d ∧ d.showable = true ∧ d.hasDict = false ∧ d.depth ≤ 30 ∧ d.shown.length ≤ sizeLine ∧ SeqAt.shaped d = true ∧ d.canLay0 = true ∧ Q (.bl true) H
theorem scA : FnScope ["found", "due"] ["found", "due"] (defScope sAlike) := ⟨rfl, rfl, rfl, by decide +kernel, rfl, by decide +kernel, by decide +kernel⟩
theorem ok_alike {f : Addr} {fd : FuncData} (F : Fun K "_law_alike" "_law_alike" sAlike f fd) (T : Blt mg) : FnG P w K mg base 1 f fd ["found", "due"] (spAlike K) := by
  refine fnG F scA (fun vs H Q E h => ?_) (fun cdv A outer s H vs Q E hG hr h => ?_)
  · obtain ⟨a, c, d, rfl, _⟩ := h
    rfl
  · obtain ⟨a, c, d, rfl, ha, hc, h1, h2, h3, h4, h5, h6, q⟩ := h
    refine ⟨_, pss_one (ps_ret (pe_and (pe_cmpR op_eq (pe_callB (call_reprD hG hr.units) (by rfl) T.repr (by decide +kernel) (pa_cons (pv 0) pa_nil)) (pe_callB (call_reprD hG hr.units) (by rfl) T.repr (by decide +kernel) (pa_cons (pv 1) pa_nil)) (nomark _))
      (pe_one (pe_cmpR (op_eqD hr.units) (pv 0) (pv 1) (nomark _))))), ?_⟩
    refine ⟨_, rfl, a, d, rfl, ha, h1, h2, h3, h4, _, rfl, c, d, rfl, hc, h1, h2, h3, h4, rfl, true, ?_, iteT ?_⟩
    · rw [decide_eq_true rfl]
    · refine ⟨_, rfl, _, rfl, d, d, ha, hc, h5, h5, ?_⟩
      rw [SeqAt.eqv_refl d h6]
      exact q
end
end K76

namespace K76
open PySem L2 R76
/-! ### the mirror -/
structure Gd where
  many : Nat
  bot : Int
  top : Int
def mx (i j : Int) : Int := if j > i then j else i
def mn (i j : Int) : Int := if j < i then j else i
def gapOf (ly : List Int) (k : Nat) : Int := ly.getD k 0
def baseOf (ly : List Int) (g : Gd) (n : Int) : Int := if 0 ≤ gapOf ly g.many then g.top + gapOf ly g.many else g.bot + 1 + gapOf ly g.many - mx 0 n
def next (ly : List Int) (g : Gd) (n : Int) : Gd :=
  { many := g.many + 1, bot := mn (if g.many = 0 then baseOf ly g n else g.bot) (baseOf ly g n), top := mx (if g.many = 0 then baseOf ly g n + mx 0 n else g.top) (baseOf ly g n + mx 0 n) }
/-- the areas laid one by one: where one stands, the bases so far -/
def laid (ly : List Int) (ls : List Int) : Gd × List Int := ls.foldl (fun s n => (next ly s.1 n, s.2 ++ [baseOf ly s.1 n])) (⟨0, 0, 0⟩, [])
def bases (ly ls : List Int) : List Int := (laid ly ls).2
/-! ### Ground -/
abbrev g4 (a b c d : V) : List (Str × V) := [("layout", a), ("many", b), ("bottom", c), ("top", d)]
abbrev gF (la : Addr) (g : Gd) : List (Str × V) := g4 (.ref la) (.int (g.many : Int)) (.int g.bot) (.int g.top)
structure Cl (K : PySem.W.Frag) (mg : Str → Option Value) (C : Addr) : Prop where
  cl : Cls K C
  nL : NoAttr K C "layout"
  nM : NoAttr K C "many"
  nB : NoAttr K C "bottom"
  nT : NoAttr K C "top"
  mgC : mg "Ground" = some (.ref C)
def spInit (C : Addr) : Sp := fun vs H Q _ => ∃ (p dx la : Addr), vs = [.ref p, .ref la] ∧ H p = some (.ins C dx []) ∧ Q .non (upd H p (.ins C dx (gF la ⟨0, 0, 0⟩)))
def spBase (K : PySem.W.Frag) (C : Addr) : Sp := fun vs H Q _ => ∃ (p dx la : Addr) (g : Gd) (ly : List Int) (n : Int), vs = [.ref p, .int n] ∧ H p = some (.ins C dx (gF la g)) ∧ SqT K H la (ly.map V.int) ∧ Q (.int (baseOf ly g n)) H
def spPlace (K : PySem.W.Frag) (C : Addr) : Sp := fun vs H Q _ => ∃ (p dx la : Addr) (g : Gd) (ly : List Int) (n : Int), vs = [.ref p, .int n] ∧ H p = some (.ins C dx (gF la g)) ∧ SqT K H la (ly.map V.int) ∧
  ∀ H' : Hp, But p H H' → H' p = some (.ins C dx (gF la (next ly g n))) → Q (.int (baseOf ly g n)) H'
section
variable {P : Program} {w : World} {K : PySem.W.Frag} {mg : Str → Option Value} {base : Heap}
theorem scI : FnScope ["self", "layout"] ["self", "layout"] (defScope sInit) := ⟨rfl, rfl, rfl, by decide +kernel, rfl, by decide +kernel, by decide +kernel⟩
theorem ok_init {f C : Addr} {fd : FuncData} (F : Fun K "__init__" "Ground.__init__" sInit f fd) (T : Cl K mg C) : FnOk P w K mg base CX0 1 f fd ["self", "layout"] (spInit C) := by
  refine F.ok scI (fun vs H Q E h => ?_) (fun cdv A outer s H vs Q E hr h => ?_)
  · obtain ⟨p, dx, la, rfl, _⟩ := h
    rfl
  · obtain ⟨p, dx, la, rfl, hp, k⟩ := h
    refine ⟨_, pss_cons (ps_fld (pv 0) (pv 1) rfl) (pss_cons (ps_fld (pv 0) pe_int rfl) (pss_cons (ps_fld (pv 0) pe_int rfl) (pss_one (ps_fld (pv 0) pe_int rfl)))), ?_⟩
    refine ⟨_, rfl, _, rfl, p, C, dx, _, rfl, hp, T.cl, T.nL, (by show 0 < 1000; decide), ?_⟩
    refine ⟨_, rfl, p, C, dx, _, rfl, upd_same, T.cl, T.nM, (by show 1 < 1000; decide), ?_⟩
    refine ⟨_, rfl, p, C, dx, _, rfl, upd_same, T.cl, T.nB, (by show 2 < 1000; decide), ?_⟩
    refine ⟨_, rfl, p, C, dx, _, rfl, upd_same, T.cl, T.nT, (by show 3 < 1000; decide), ?_⟩
    rw [upd_upd, upd_upd, upd_upd]
    exact k
theorem scBF : FnScope ["self", "length", "gap"] ["self", "length"] (defScope sBase) := ⟨rfl, rfl, rfl, by decide +kernel, rfl, by decide +kernel, by decide +kernel⟩
theorem ok_base {f C : Addr} {fd : FuncData} (F : Fun K "base_for" "Ground.base_for" sBase f fd) (T : Cl K mg C) (B : Blt mg) : FnOk P w K mg base CX0 1 f fd ["self", "length"] (spBase K C) := by
  refine F.ok scBF (fun vs H Q E h => ?_) (fun cdv A outer s H vs Q E hr h => ?_)
  · obtain ⟨p, dx, la, g, ly, n, rfl, _⟩ := h
    rfl
  · obtain ⟨p, dx, la, g, ly, n, rfl, hp, hl, k⟩ := h
    refine ⟨_, C8.pss_cut (ps_set (i := 2) scBF.nd rfl (Or.inl rfl) (pe_ifExp (pt_cmpR op_lt (pe_fld (pv 0) rfl) (pe_callB call_len_seq (by rfl) B.len PySem.boot_len (pa_cons (pe_fld (pv 0) rfl) pa_nil)) (nomark _))
        (pe_ix ix_tup (pe_fld (pv 0) rfl) (pe_fld (pv 0) rfl) (fun _ _ => rfl)) pe_int))
      (pss_one (ps_ret (pe_ifExp (pt_cmpR op_ge (pv 2) pe_int (nomark _)) (pe_op op_add (pe_fld (pv 0) rfl) (pv 2))
        (pe_op op_sub (pe_op op_add (pe_op op_add (pe_fld (pv 0) rfl) pe_int) (pv 2)) (pe_callB (call_max2 rfl) (by rfl) B.max (by decide +kernel) (pa_cons pe_int (pa_cons (pv 1) pa_nil))))))), ?_⟩
    refine ⟨fun σ' H' => σ' = [some (.ref p), some (.int n), some (.int (gapOf ly g.many))] ∧ H' = H, ?_, ?_⟩
    · refine ⟨_, rfl, p, C, dx, _, _, rfl, hp, T.cl, T.nM, rfl, _, rfl, p, C, dx, _, _, rfl, hp, T.cl, T.nL, rfl, la, _, rfl, .inr hl, _, _, rfl, rfl, _, rfl, ite2 (fun e => ?_) (fun e => ?_)⟩
      · have e1 : ((g.many : Nat) : Int) < ((ly.map V.int).length : Nat) := of_decide_eq_true e
        have e2 : g.many < ly.length := by rw [List.length_map] at e1; omega
        refine ⟨_, rfl, p, C, dx, _, _, rfl, hp, T.cl, T.nL, rfl, _, rfl, p, C, dx, _, _, rfl, hp, T.cl, T.nM, rfl, la, _, _, .int (gapOf ly g.many), rfl, rfl, hl, atI_nat (j := g.many) ?_, rfl, rfl⟩
        rw [List.getElem?_map, List.getElem?_eq_getElem e2]
        unfold gapOf
        rw [List.getD_eq_getElem?_getD, List.getElem?_eq_getElem e2]
        rfl
      · have e1 : ¬ ((g.many : Nat) : Int) < ((ly.map V.int).length : Nat) := fun z => e (decide_eq_true z)
        have e2 : ly.length ≤ g.many := by rw [List.length_map] at e1; omega
        have e3 : gapOf ly g.many = 0 := by
          unfold gapOf
          rw [List.getD_eq_getElem?_getD, List.getElem?_eq_none e2]
          rfl
        rw [e3]
        exact ⟨rfl, rfl⟩
    · rintro σ' H' ⟨rfl, rfl⟩
      refine ⟨_, rfl, _, _, rfl, rfl, _, rfl, ite2 (fun e => ?_) (fun e => ?_)⟩
      · have e1 : 0 ≤ gapOf ly g.many := of_decide_eq_true e
        refine ⟨_, rfl, p, C, dx, _, _, rfl, hp, T.cl, T.nT, rfl, _, rfl, _, _, rfl, rfl, ?_⟩
        have eb : baseOf ly g n = g.top + gapOf ly g.many := by unfold baseOf; rw [if_pos e1]
        rw [eb] at k
        exact k
      · have e1 : ¬ 0 ≤ gapOf ly g.many := fun z => e (decide_eq_true z)
        refine ⟨_, rfl, p, C, dx, _, _, rfl, hp, T.cl, T.nB, rfl, _, _, rfl, rfl, _, rfl, _, _, rfl, rfl, _, rfl, _, _, rfl, _, _, rfl, rfl, ?_⟩
        have eb : baseOf ly g n = g.bot + 1 + gapOf ly g.many - mx 0 n := by unfold baseOf; rw [if_neg e1]
        rw [eb] at k
        exact k
theorem scP : FnScope ["self", "length", "base", "end"] ["self", "length"] (defScope sPlace) := ⟨rfl, rfl, rfl, by decide +kernel, rfl, by decide +kernel, by decide +kernel⟩
theorem ok_place {f fB C : Addr} {fd fdB : FuncData} (F : Fun K "place" "Ground.place" sPlace f fd) (T : Cl K mg C) (B : Blt mg) (FB : Fun K "base_for" "Ground.base_for" sBase fB fdB) (bB : Binds K fdB ["self", "length"] []) (mB : Meth K C "base_for" fB) :
    FnOk P w K mg base CX0 2 f fd ["self", "length"] (spPlace K C) := by
  have GB : FnOk P w K mg base CX0 1 fB fdB ["self", "length"] (spBase K C) := ok_base FB T B
  refine F.ok scP (fun vs H Q E h => ?_) (fun cdv A outer s H vs Q E hr h => ?_)
  · obtain ⟨p, dx, la, g, ly, n, rfl, _⟩ := h
    rfl
  · obtain ⟨p, dx, la, g, ly, n, rfl, hp, hl, k⟩ := h
    refine ⟨_, pss_cons (ps_par (i := 2) (j := 3) (by rfl) scP.nd rfl rfl (by decide) rfl rfl
        (pa_cons (pe_meth (pv 0) T.cl mB GB hr bB .nil pass0 (pa_cons (pv 1) pa_nil)) (pa_cons (pe_op op_add (pe_meth (pv 0) T.cl mB GB hr bB .nil pass0 (pa_cons (pv 1) pa_nil)) (pe_callB (call_max2 rfl) (by rfl) B.max (by decide +kernel) (pa_cons pe_int (pa_cons (pv 1) pa_nil)))) pa_nil)) (by rfl))
      (C8.pss_cut (ps_if (pt_cmpR op_eq (pe_fld (pv 0) rfl) pe_int (nomark _)) (pss_one (ps_asg (pe_tup (pa_cons (pv 2) (pa_cons (pv 3) pa_nil))) (pg_tup (by rfl) (pgs_cons (pg_fld (pv 0)) (pgs_cons (pg_fld (pv 0)) pgs_nil))))) pss_nil)
      (pss_cons (ps_asg (pe_tup (pa_cons (pe_callB (call_min2 rfl) (by rfl) B.min (by decide +kernel) (pa_cons (pe_fld (pv 0) rfl) (pa_cons (pv 2) pa_nil))) (pa_cons (pe_callB (call_max2 rfl) (by rfl) B.max (by decide +kernel) (pa_cons (pe_fld (pv 0) rfl) (pa_cons (pv 3) pa_nil))) pa_nil)))
          (pg_tup (by rfl) (pgs_cons (pg_fld (pv 0)) (pgs_cons (pg_fld (pv 0)) pgs_nil))))
      (pss_cons (ps_fldaug (pv 0) pe_int in_add)
      (pss_one (ps_ret (pv 2)))))), ?_⟩
    have no : (gF la g).lookup ("base_for" : Str) = none := rfl
    refine ⟨_, rfl, p, dx, _, rfl, hp, no, _, rfl, p, dx, la, g, ly, n, rfl, hp, hl, ?_⟩
    refine ⟨_, rfl, p, dx, _, rfl, hp, no, _, rfl, p, dx, la, g, ly, n, rfl, hp, hl, _, rfl, _, _, rfl, _, _, rfl, rfl, _, _, rfl, ?_⟩
    -- the first area
    refine ⟨fun σ' H' => σ' = [some (.ref p), some (.int n), some (.int (baseOf ly g n)), some (.int (baseOf ly g n + mx 0 n))] ∧ But p H H' ∧
      H' p = some (.ins C dx (g4 (.ref la) (.int (g.many : Int)) (.int (if g.many = 0 then baseOf ly g n else g.bot)) (.int (if g.many = 0 then baseOf ly g n + mx 0 n else g.top)))), ?_, ?_⟩
    · refine ⟨_, rfl, p, C, dx, _, _, rfl, hp, T.cl, T.nM, rfl, rfl, _, rfl, ite2 (fun e => ?_) (fun e => ?_)⟩
      · have e1 : V.int ((g.many : Nat) : Int) = .int 0 := of_decide_eq_true e
        have e2 : g.many = 0 := by injection e1 with e1; omega
        refine ⟨_, rfl, _, rfl, by show 2 ≤ sizeLine; decide, fun t nt => ?_⟩
        have npt : p ≠ t := ne_of_none hp nt
        refine ⟨t, _, rfl, SqT.of upd_same, rfl, _, _, rfl, _, rfl, p, C, dx, _, rfl, by rw [upd_ne npt]; exact hp, T.cl, T.nB, (by show 4 < 1000; decide), _, _, rfl, _, rfl, p, C, dx, _, rfl, upd_same, T.cl, T.nT, (by show 4 < 1000; decide), rfl, rfl, ?_, ?_⟩
        · exact ((But.same (same_new nt)).trans But.upd).trans But.upd
        · rw [upd_same, if_pos e2, if_pos e2]
          rfl
      · have e2 : ¬ g.many = 0 := fun z => e (decide_eq_true (by rw [z]; rfl))
        rw [if_neg e2, if_neg e2]
        exact ⟨rfl, But.refl _ _, hp⟩
    · rintro σ' H' ⟨rfl, bu, h1⟩
      refine ⟨_, rfl, p, C, dx, _, _, rfl, h1, T.cl, T.nB, rfl, _, rfl, _, _, rfl, _, rfl, p, C, dx, _, _, rfl, h1, T.cl, T.nT, rfl, _, rfl, _, _, rfl, by show 2 ≤ sizeLine; decide, fun t nt => ?_⟩
      have npt : p ≠ t := ne_of_none h1 nt
      refine ⟨t, _, rfl, SqT.of upd_same, rfl, _, _, rfl, _, rfl, p, C, dx, _, rfl, by rw [upd_ne npt]; exact h1, T.cl, T.nB, (by show 4 < 1000; decide), _, _, rfl, _, rfl, p, C, dx, _, rfl, upd_same, T.cl, T.nT, (by show 4 < 1000; decide), rfl, ?_⟩
      -- self.many += 1
      refine ⟨_, rfl, p, C, dx, _, _, rfl, upd_same, T.cl, T.nM, rfl, _, _, rfl, rfl, dx, _, upd_same, (by show 4 < 1000; decide), ?_⟩
      refine ⟨_, rfl, k _ ((((bu.trans (But.same (same_new nt))).trans But.upd).trans But.upd).trans But.upd) ?_⟩
      rw [upd_same]
      rfl
end
end K76

namespace K76
open PySem L2 R76
theorem laid_snoc (ly xs : List Int) (n : Int) : laid ly (xs ++ [n]) = (next ly (laid ly xs).1 n, (laid ly xs).2 ++ [baseOf ly (laid ly xs).1 n]) := by
  unfold laid
  rw [List.foldl_append]
  rfl
theorem take_snoc {α : Type} {xs : List α} {i : Nat} {x : α} (h : xs[i]? = some x) : xs.take (i + 1) = xs.take i ++ [x] := by
  rw [List.take_add_one, h]
  rfl
theorem fold_many (ly : List Int) : ∀ (xs : List Int) (s : Gd × List Int), (xs.foldl (fun s n => (next ly s.1 n, s.2 ++ [baseOf ly s.1 n])) s).1.many = s.1.many + xs.length ∧
    (xs.foldl (fun s n => (next ly s.1 n, s.2 ++ [baseOf ly s.1 n])) s).2.length = s.2.length + xs.length
  | [], s => ⟨rfl, rfl⟩
  | n :: xs, s => by
    obtain ⟨h1, h2⟩ := fold_many ly xs (next ly s.1 n, s.2 ++ [baseOf ly s.1 n])
    rw [List.foldl_cons, h1, h2, List.length_append, List.length_cons]
    refine ⟨?_, ?_⟩
    · show s.1.many + 1 + xs.length = _
      omega
    · show s.2.length + 1 + xs.length = _
      omega
theorem laid_many (ly xs : List Int) : (laid ly xs).1.many = xs.length := by
  have h := (fold_many ly xs (⟨0, 0, 0⟩, [])).1
  rw [show laid ly xs = xs.foldl (fun s n => (next ly s.1 n, s.2 ++ [baseOf ly s.1 n])) (⟨0, 0, 0⟩, []) from rfl, h]
  show 0 + _ = _
  omega
theorem bases_len (ly xs : List Int) : (bases ly xs).length = xs.length := by
  have h := (fold_many ly xs (⟨0, 0, 0⟩, [])).2
  rw [show bases ly xs = (xs.foldl (fun s n => (next ly s.1 n, s.2 ++ [baseOf ly s.1 n])) (⟨0, 0, 0⟩, [])).2 from rfl, h]
  show 0 + _ = _
  omega
theorem same_seqT {K : PySem.W.Frag} {H H' : Hp} {a : Addr} {xs : List V} (e : Same H H') (h : SqT K H a xs) : SqT K H' a xs := by
  rcases h with (h | ⟨o, h⟩) | h
  · exact .inl (.inl (e _ _ h))
  · exact .inl (.inr ⟨o, e _ _ h⟩)
  · exact .inr h
theorem same_but {H0 H H' : Hp} {p : Addr} (s : Same H0 H) (n : H0 p = none) (b : But p H H') : Same H0 H' := fun a o e => b a o (ne_of_none e n) (s a o e)
def spPlaced (K : PySem.W.Frag) : Sp := fun vs H Q _ => ∃ (la le : Addr) (ly ls : List Int), vs = [.ref la, .ref le] ∧ SqT K H la (ly.map V.int) ∧ SqT K H le (ls.map V.int) ∧ ls.length ≤ 1000 ∧
  ∀ (H' : Hp) (t : Addr), Same H H' → H t = none → H' t = some (.tup ((bases ly ls).map V.int)) → Q (.ref t) H'
section
variable {P : Program} {w : World} {K : PySem.W.Frag} {mg : Str → Option Value} {base : Heap}
theorem scPd : FnScope ["layout", "lengths", "ground", "length"] ["layout", "lengths"] (defScope sPlaced) := ⟨rfl, rfl, rfl, by decide +kernel, rfl, by decide +kernel, by decide +kernel⟩
theorem ok_placed {f fB fP fI C : Addr} {fd fdB fdP fdI : FuncData} (F : Fun K "placed" "placed" sPlaced f fd) (T : Cl K mg C) (B : Blt mg) (M : Mk K C fI) (FI : Fun K "__init__" "Ground.__init__" sInit fI fdI) (bI : Binds K fdI ["self", "layout"] [])
    (FB : Fun K "base_for" "Ground.base_for" sBase fB fdB) (bB : Binds K fdB ["self", "length"] []) (mB : Meth K C "base_for" fB)
    (FP : Fun K "place" "Ground.place" sPlace fP fdP) (bP : Binds K fdP ["self", "length"] []) (mP : Meth K C "place" fP) : FnOk P w K mg base CX0 3 f fd ["layout", "lengths"] (spPlaced K) := by
  have GI : FnOk P w K mg base CX0 1 fI fdI ["self", "layout"] (spInit C) := ok_init FI T
  have GP : FnOk P w K mg base CX0 2 fP fdP ["self", "length"] (spPlace K C) := ok_place FP T B FB bB mB
  refine F.ok scPd (fun vs H Q E h => ?_) (fun cdv A outer s H vs Q E hr h => ?_)
  · obtain ⟨la, le, ly, ls, rfl, _⟩ := h
    rfl
  · obtain ⟨la, le, ly, ls, rfl, h1, h2, hz, k⟩ := h
    refine ⟨_, pss_cons (ps_set (i := 2) scPd.nd rfl (Or.inr rfl) (pe_make M GI hr (by rfl) T.mgC bI .nil pass0 (pa_cons (pv 0) pa_nil)))
      (pss_one (ps_ret (pe_callTy call_tuple_of (by rfl) B.tuple (by decide +kernel) (pa_cons
        (pe_lc (own := [("length", 3)]) (g := gName 3) (by rfl) scPd.nd (pi_tup (pv 1)) (blkOk_by (own := [("length", 3)]) (N := ["layout", "lengths", "ground", "length"]) (sc := defScope sPlaced) (by decide +kernel))
          (fun _ _ _ _ _ => pg_name (i := 3) scPd.nd rfl (Or.inl rfl)) (fun _ _ _ _ _ => pts_nil) (fun _ _ _ _ _ => pe_meth (pv 2) T.cl mP GP hr bP .nil pass0 (pa_cons (pv 3) pa_nil))) pa_nil)))), ?_⟩
    refine ⟨_, rfl, fun x dx nx ndx nex => ⟨x, dx, la, rfl, upd_same, rfl, ?_⟩⟩
    have s1 : Same H (upd (upd (upd H dx (.own x)) x (.ins C dx [])) x (.ins C dx (gF la ⟨0, 0, 0⟩))) := same_put (same_put (same_new ndx) nx) nx
    have x1 : (upd (upd (upd H dx (.own x)) x (.ins C dx [])) x (.ins C dx (gF la ⟨0, 0, 0⟩))) x = some (.ins C dx (gF la ⟨0, 0, 0⟩)) := upd_same
    generalize upd (upd (upd H dx (.own x)) x (.ins C dx [])) x (.ins C dx (gF la ⟨0, 0, 0⟩)) = H1 at s1 x1 ⊢
    refine ⟨_, rfl, le, rfl, ⟨_, same_seqT s1 h2⟩, fun D nD => ?_⟩
    have fD : H D = none := s1.free nD
    have nxD : x ≠ D := ne_of_none x1 nD
    refine lc_tup (K := K) (a := le) (xs := ls.map V.int) (fun i H' => Same H H' ∧ H' x = some (.ins C dx (gF la (laid ly (ls.take i)).1)) ∧ H' D = some (.lst ((bases ly (ls.take i)).map V.int)))
      ⟨s1.trans (same_new nD), by rw [upd_ne nxD]; exact x1, upd_same⟩ (fun i H' _ hP => same_seqT hP.1 h2) (fun i v H' hv hP => ?_) (fun H' hP => ?_)
    · obtain ⟨sm, ex, eD⟩ := hP
      rw [List.getElem?_map] at hv
      obtain ⟨n, hn, rfl⟩ := Option.map_eq_some_iff.mp hv
      refine ⟨rfl, ?_⟩
      refine kept ?_
      refine ⟨_, rfl, x, dx, _, rfl, ex, rfl, _, rfl, x, dx, la, _, ly, n, rfl, ex, same_seqT sm h1, fun H2 bu e2 => ⟨_, bu _ _ (Ne.symm nxD) eD, ?_, ?_, ?_, ?_⟩⟩
      · rw [List.length_map, bases_len, List.length_take]
        exact Nat.lt_of_le_of_lt (Nat.min_le_right _ _) (small1000 hz)
      · exact same_put (same_but sm nx bu) fD
      · rw [upd_ne nxD, e2, take_snoc hn, laid_snoc]
      · rw [upd_same, take_snoc hn]
        show _ = some (HO.lst ((laid ly (ls.take i ++ [n])).2.map V.int))
        rw [laid_snoc, List.map_append]
        rfl
    · obtain ⟨sm, ex, eD⟩ := hP
      rw [List.length_map, List.take_length] at eD
      refine ⟨D, _, rfl, .inl ⟨SqL.of eD, fun t nt => ?_⟩⟩
      exact k _ t (sm.trans (same_new nt)) (sm.free nt) upd_same
/-! ### apart -/
def spApart : Sp := fun vs H Q _ => ∃ (m g : Int), vs = [.int m, .int g] ∧ 0 ≤ m ∧ m ≤ 1000 ∧ ∀ (H' : Hp) (t : Addr), Same H H' → H t = none → H' t = some (.tup (List.replicate m.toNat (V.int g))) → Q (.ref t) H'
theorem flat_one (m : Nat) (x : V) : (List.replicate m [x]).flatten = List.replicate m x := by
  induction m with
  | zero => rfl
  | succ m ih => rw [List.replicate_succ, List.flatten_cons, ih, List.replicate_succ]; rfl
/-- (g,) * m, by values: what is known of it -/
theorem rep_one {H H' : Hp} {m g : Int} {p t : Addr} (np : H p = none) (h : (m = 1 ∧ t = p ∧ H' = upd H p (.tup [V.int g])) ∨ (m ≠ 1 ∧ (upd H p (.tup [V.int g])) t = none ∧ H' = upd (upd H p (.tup [V.int g])) t (.tup (List.replicate m.toNat [V.int g]).flatten))) :
    Same H H' ∧ H t = none ∧ H' t = some (.tup (List.replicate m.toNat (V.int g))) := by
  rcases h with ⟨rfl, rfl, rfl⟩ | ⟨_, nt, rfl⟩
  · exact ⟨same_new np, np, upd_same⟩
  · refine ⟨(same_new np).trans (same_new nt), (same_new np).free nt, ?_⟩
    rw [upd_same, flat_one]
theorem scAp : FnScope ["many", "gap"] ["many", "gap"] (defScope sApart) := ⟨rfl, rfl, rfl, by decide +kernel, rfl, by decide +kernel, by decide +kernel⟩
theorem ok_apart {f : Addr} {fd : FuncData} (F : Fun K "apart" "apart" sApart f fd) : FnOk P w K mg base CX0 1 f fd ["many", "gap"] spApart := by
  refine F.ok scAp (fun vs H Q E h => ?_) (fun cdv A outer s H vs Q E hr h => ?_)
  · obtain ⟨m, g, rfl, _⟩ := h
    rfl
  · obtain ⟨m, g, rfl, m0, m1, k⟩ := h
    refine ⟨_, pss_one (ps_ret (pe_op op_repAny (pe_tup (pa_cons (pv 1) pa_nil)) (pv 0))), ?_⟩
    refine ⟨_, rfl, by show 1 ≤ sizeLine; decide, fun p np => ⟨_, rfl, p, m, [V.int g], rfl, rfl, SqT.of upd_same, by simp, m0, m1, (by show 1 ≤ 1000; decide), fun H' t ht => ?_⟩⟩
    obtain ⟨a, c, d⟩ := rep_one np ht
    exact k _ _ a c d
/-! ### the law's own reckoning -/
theorem scPl : FnScope ["layout", "lengths", "found", "low", "top", "k", "length", "size", "g", "base"] ["layout", "lengths"] (defScope sPl) := ⟨rfl, rfl, rfl, by decide +kernel, rfl, by decide +kernel, by decide +kernel⟩
theorem ok_pl {f : Addr} {fd : FuncData} (F : Fun K "_law_placed" "_law_placed" sPl f fd) (B : Blt mg) : FnOk P w K mg base CX0 1 f fd ["layout", "lengths"] (spPlaced K) := by
  refine F.ok scPl (fun vs H Q E h => ?_) (fun cdv A outer s H vs Q E hr h => ?_)
  · obtain ⟨la, le, ly, ls, rfl, _⟩ := h
    rfl
  · obtain ⟨la, le, ly, ls, rfl, h1, h2, hz, k⟩ := h
    refine ⟨_, pss_cons (ps_par3 (i := 2) (j := 3) (l := 4) (by rfl) scPl.nd rfl rfl rfl (by decide) (by decide) (by decide) rfl rfl rfl (pa_cons (pe_lst pa_nil) (pa_cons pe_int (pa_cons pe_int pa_nil))) (by rfl))
      (pss_cons (ps_for PassesOwn.never rfl (pi_enumT (by rfl) B.enumerate (pa_cons (pv 1) pa_nil)) (pg_tup (by rfl) (pgs_cons (pg_name (i := 5) scPl.nd rfl (Or.inl rfl)) (pgs_cons (pg_name (i := 6) scPl.nd rfl (Or.inl rfl)) pgs_nil)))
        (C8.pss_cut (ps_par (i := 7) (j := 8) (by rfl) scPl.nd rfl rfl (by decide) rfl rfl (pa_cons (pe_callB (call_max2 rfl) (by rfl) B.max (by decide +kernel) (pa_cons pe_int (pa_cons (pv 6) pa_nil)))
            (pa_cons (pe_ifExp (pt_cmpR op_lt (pv 5) (pe_callB call_len_seq (by rfl) B.len PySem.boot_len (pa_cons (pv 0) pa_nil)) (nomark _)) (pe_ix ix_tup (pv 0) (pv 5) (fun _ _ => rfl)) pe_int) pa_nil)) (by rfl))
        (C8.pss_cut (ps_set (i := 9) scPl.nd rfl (Or.inl rfl) (pe_ifExp (pt_cmpR op_ge (pv 8) pe_int (nomark _)) (pe_op op_add (pv 4) (pv 8)) (pe_op op_sub (pe_op op_add (pe_op op_add (pv 3) pe_int) (pv 8)) (pv 7))))
        (C8.pss_cut (ps_if (pt_cmpR op_eq (pv 5) pe_int (nomark _)) (pss_one (ps_par (i := 3) (j := 4) (by rfl) scPl.nd rfl rfl (by decide) rfl rfl (pa_cons (pv 9) (pa_cons (pe_op op_add (pv 9) (pv 7)) pa_nil)) (by rfl))) pss_nil)
        (pss_cons (ps_par (i := 3) (j := 4) (by rfl) scPl.nd rfl rfl (by decide) rfl rfl (pa_cons (pe_callB (call_min2 rfl) (by rfl) B.min (by decide +kernel) (pa_cons (pv 3) (pa_cons (pv 9) pa_nil)))
            (pa_cons (pe_callB (call_max2 rfl) (by rfl) B.max (by decide +kernel) (pa_cons (pv 4) (pa_cons (pe_op op_add (pv 9) (pv 7)) pa_nil))) pa_nil)) (by rfl))
        (pss_one (ps_expr (pe_bm PySem.F.plainAttrs_list PySem.F.slot_list_append PySem.F.type_list_append mt_append (pv 2) (pa_cons (pv 9) pa_nil)))))))))
      (pss_one (ps_ret (pe_callTy call_tuple_of (by rfl) B.tuple (by decide +kernel) (pa_cons (pv 2) pa_nil))))), ?_⟩
    refine ⟨Nat.zero_le _, fun fo nfo => ?_⟩
    refine ⟨_, _, _, rfl, ?_⟩
    have s1 : Same H (upd H fo (.lst [])) := same_new nfo
    refine ⟨_, rfl, le, _, rfl, same_seqT s1 h2, for_it (walk_enumT (K := K) (a := le) (xs := ls.map V.int)) (fun i σ H' => ∃ v5 v6 v7 v8 v9, σ = [some (.ref la), some (.ref le), some (.ref fo), some (.int (laid ly (ls.take i)).1.bot), some (.int (laid ly (ls.take i)).1.top), v5, v6, v7, v8, v9] ∧
      Same H H' ∧ H' fo = some (.lst ((bases ly (ls.take i)).map V.int))) ⟨_, _, _, _, _, rfl, s1, upd_same⟩ (fun i σ H' _ hP => ?_) ?_ ?_⟩
    · obtain ⟨_, _, _, _, _, _, sm, _⟩ := hP
      exact same_seqT sm h2
    · rintro i v σ H1 H2 hi ⟨v5, v6, v7, v8, v9, rfl, sm, ef⟩ ⟨T, x, y, rfl, nT, rfl, ex, ey⟩
      cases ex
      replace ey : (ls.map V.int)[i]? = some y := ey
      rw [List.getElem?_map] at ey
      obtain ⟨n, hn, rfl⟩ := Option.map_eq_some_iff.mp ey
      have hil : i < ls.length := (List.getElem?_eq_some_iff.mp hn).1
      have em : (laid ly (ls.take i)).1.many = i := by rw [laid_many, List.length_take]; omega
      have es := laid_snoc ly (ls.take i) n
      rw [← take_snoc hn] at es
      have eb : bases ly (ls.take (i + 1)) = bases ly (ls.take i) ++ [baseOf ly (laid ly (ls.take i)).1 n] := congrArg Prod.snd es
      have eg : (laid ly (ls.take (i + 1))).1 = next ly (laid ly (ls.take i)).1 n := congrArg Prod.fst es
      rw [eb, eg]
      generalize (laid ly (ls.take i)).1 = g at em ⊢
      have s2 : Same H (upd H1 T (.tup [V.int (i : Nat), V.int n])) := sm.trans (same_new nT)
      have ef2 : (upd H1 T (.tup [V.int (i : Nat), V.int n])) fo = some (.lst ((bases ly (ls.take i)).map V.int)) := by
        rw [upd_ne (ne_of_none ef nT)]
        exact ef
      refine ⟨T, _, rfl, SqT.of upd_same, rfl, _, _, rfl, _, _, rfl, rfl, ?_⟩
      generalize upd H1 T (.tup [V.int (i : Nat), V.int n]) = H2 at s2 ef2 ⊢
      have h1' := same_seqT s2 h1
      -- size, g
      refine ⟨fun σ' H' => σ' = [some (.ref la), some (.ref le), some (.ref fo), some (.int g.bot), some (.int g.top), some (.int (i : Nat)), some (.int n), some (.int (mx 0 n)), some (.int (gapOf ly i)), v9] ∧ H' = H2, ?_, ?_⟩
      · refine ⟨_, rfl, _, _, rfl, _, rfl, _, rfl, la, _, rfl, .inr h1', _, _, rfl, rfl, _, rfl, ite2 (fun e => ?_) (fun e => ?_)⟩
        · have e1 : ((i : Nat) : Int) < ((ly.map V.int).length : Nat) := of_decide_eq_true e
          have e2 : i < ly.length := by rw [List.length_map] at e1; omega
          refine ⟨_, rfl, _, rfl, la, _, _, .int (gapOf ly i), rfl, rfl, h1', atI_nat (j := i) ?_, _, _, rfl, rfl, rfl⟩
          rw [List.getElem?_map, List.getElem?_eq_getElem e2]
          unfold gapOf
          rw [List.getD_eq_getElem?_getD, List.getElem?_eq_getElem e2]
          rfl
        · have e1 : ¬ ((i : Nat) : Int) < ((ly.map V.int).length : Nat) := fun z => e (decide_eq_true z)
          have e2 : ly.length ≤ i := by rw [List.length_map] at e1; omega
          have e3 : gapOf ly i = 0 := by
            unfold gapOf
            rw [List.getD_eq_getElem?_getD, List.getElem?_eq_none e2]
            rfl
          rw [e3]
          exact ⟨_, _, rfl, rfl, rfl⟩
      · rintro σ3 H3 ⟨rfl, rfl⟩
        -- base
        refine ⟨fun σ' H' => σ' = [some (.ref la), some (.ref le), some (.ref fo), some (.int g.bot), some (.int g.top), some (.int (i : Nat)), some (.int n), some (.int (mx 0 n)), some (.int (gapOf ly i)), some (.int (baseOf ly g n))] ∧ H' = H3, ?_, ?_⟩
        · refine ⟨_, rfl, _, _, rfl, rfl, _, rfl, ite2 (fun e => ?_) (fun e => ?_)⟩
          · have e1 : 0 ≤ gapOf ly g.many := by rw [em]; exact of_decide_eq_true e
            have eb' : baseOf ly g n = g.top + gapOf ly i := by unfold baseOf; rw [if_pos e1, em]
            rw [eb']
            exact ⟨_, rfl, _, rfl, _, _, rfl, rfl, rfl, rfl⟩
          · have e1 : ¬ 0 ≤ gapOf ly g.many := by rw [em]; exact fun z => e (decide_eq_true z)
            have eb' : baseOf ly g n = g.bot + 1 + gapOf ly i - mx 0 n := by unfold baseOf; rw [if_neg e1, em]
            rw [eb']
            exact ⟨_, rfl, _, _, rfl, rfl, _, rfl, _, _, rfl, rfl, _, rfl, _, _, rfl, rfl, rfl, rfl⟩
        · rintro σ4 H4 ⟨rfl, rfl⟩
          -- the first one
          refine ⟨fun σ' H' => σ' = [some (.ref la), some (.ref le), some (.ref fo), some (.int (if g.many = 0 then baseOf ly g n else g.bot)), some (.int (if g.many = 0 then baseOf ly g n + mx 0 n else g.top)), some (.int (i : Nat)), some (.int n), some (.int (mx 0 n)), some (.int (gapOf ly i)), some (.int (baseOf ly g n))] ∧ H' = H4, ?_, ?_⟩
          · refine ⟨_, rfl, rfl, _, rfl, ite2 (fun e => ?_) (fun e => ?_)⟩
            · have e1 : V.int ((i : Nat) : Int) = .int 0 := of_decide_eq_true e
              have e2 : g.many = 0 := by injection e1 with e1; omega
              rw [if_pos e2, if_pos e2]
              exact ⟨_, rfl, _, rfl, _, rfl, _, _, rfl, rfl, _, _, rfl, rfl, rfl⟩
            · have e2 : ¬ g.many = 0 := fun z => e (decide_eq_true (by rw [← em, z]; rfl))
              rw [if_neg e2, if_neg e2]
              exact ⟨rfl, rfl⟩
          · rintro σ5 H5 ⟨rfl, rfl⟩
            refine ⟨_, rfl, _, rfl, _, _, rfl, _, rfl, _, rfl, _, rfl, _, _, rfl, rfl, _, _, rfl, _, _, rfl, ?_⟩
            refine ⟨_, rfl, .inl ⟨rfl, _, SqL.of ef2⟩, _, rfl, fo, _, _, rfl, rfl, ef2, ?_, _, _, _, _, _, rfl, same_put s2 nfo, ?_⟩
            · rw [List.length_map, bases_len, List.length_take]
              exact Nat.lt_of_le_of_lt (Nat.min_le_right _ _) (small1000 hz)
            · rw [upd_same, List.map_append]
              rfl
    · rintro σ H' ⟨v5, v6, v7, v8, v9, rfl, sm, ef⟩
      rw [List.length_map, List.take_length] at ef
      refine ⟨_, rfl, fo, _, rfl, .inl ⟨SqL.of ef, fun t nt => ?_⟩⟩
      exact k _ t (sm.trans (same_new nt)) (sm.free nt) upd_same
end
end K76

namespace K76
open PySem L2 R76
theorem mx_le {i j : Int} : i ≤ mx i j ∧ j ≤ mx i j ∧ (mx i j = i ∨ mx i j = j) := by
  unfold mx
  split <;> omega
theorem mn_le {i j : Int} : mn i j ≤ i ∧ mn i j ≤ j ∧ (mn i j = i ∨ mn i j = j) := by
  unfold mn
  split <;> omega
/-! ### what is laid, item by item -/
theorem fold_acc (ly : List Int) : ∀ (xs : List Int) (s : Gd × List Int), ∃ zs, (xs.foldl (fun s n => (next ly s.1 n, s.2 ++ [baseOf ly s.1 n])) s).2 = s.2 ++ zs
  | [], s => ⟨[], (List.append_nil _).symm⟩
  | n :: xs, s => by
    obtain ⟨zs, e⟩ := fold_acc ly xs (next ly s.1 n, s.2 ++ [baseOf ly s.1 n])
    rw [List.foldl_cons, e]
    exact ⟨baseOf ly s.1 n :: zs, by simp⟩
theorem bases_app (ly xs ys : List Int) : ∃ zs, bases ly (xs ++ ys) = bases ly xs ++ zs := by
  obtain ⟨zs, e⟩ := fold_acc ly ys (laid ly xs)
  refine ⟨zs, ?_⟩
  rw [← show bases ly xs = (laid ly xs).2 from rfl] at e
  rw [← e]
  unfold bases laid
  rw [List.foldl_append]
theorem bases_get (ly xs : List Int) (i : Nat) (n : Int) (h : xs[i]? = some n) : (bases ly xs)[i]? = some (baseOf ly (laid ly (xs.take i)).1 n) := by
  have hi : i < xs.length := (List.getElem?_eq_some_iff.mp h).1
  obtain ⟨zs, e⟩ := bases_app ly (xs.take (i + 1)) (xs.drop (i + 1))
  rw [List.take_append_drop] at e
  have e2 : bases ly (xs.take (i + 1)) = bases ly (xs.take i) ++ [baseOf ly (laid ly (xs.take i)).1 n] := by
    rw [take_snoc h]
    exact congrArg Prod.snd (laid_snoc ly (xs.take i) n)
  have hl : (bases ly (xs.take i)).length = i := by rw [bases_len, List.length_take]; omega
  rw [e, e2, List.append_assoc, List.getElem?_append_right (by omega), hl, Nat.sub_self]
  rfl
/-! ### bounds -/
theorem small (ly : List Int) (hy : ∀ k, -5 ≤ gapOf ly k ∧ gapOf ly k ≤ 5) : ∀ (xs : List Int) (s : Gd × List Int) (c : Int), (∀ n ∈ xs, -2 ≤ n ∧ n ≤ 40) → -c ≤ s.1.bot → s.1.bot ≤ c → -c ≤ s.1.top → s.1.top ≤ c → (∀ b ∈ s.2, -c ≤ b ∧ b ≤ c) →
    ∀ b ∈ (xs.foldl (fun s n => (next ly s.1 n, s.2 ++ [baseOf ly s.1 n])) s).2, -(c + 100 * xs.length) ≤ b ∧ b ≤ c + 100 * xs.length
  | [], s, c, _, _, _, _, _, h, b, hb => by
    have := h b hb
    simp only [List.length_nil]
    omega
  | n :: xs, s, c, hx, h1, h2, h3, h4, h5, b, hb => by
    rw [List.foldl_cons] at hb
    have hn := hx n List.mem_cons_self
    have hg := hy s.1.many
    have m0 := @mx_le 0 n
    have hbase : -(c + 50) ≤ baseOf ly s.1 n ∧ baseOf ly s.1 n ≤ c + 50 := by
      unfold baseOf
      split <;> omega
    have m1 := @mn_le (if s.1.many = 0 then baseOf ly s.1 n else s.1.bot) (baseOf ly s.1 n)
    have m2 := @mx_le (if s.1.many = 0 then baseOf ly s.1 n + mx 0 n else s.1.top) (baseOf ly s.1 n + mx 0 n)
    have e1 : (next ly s.1 n).bot = mn (if s.1.many = 0 then baseOf ly s.1 n else s.1.bot) (baseOf ly s.1 n) := rfl
    have e2 : (next ly s.1 n).top = mx (if s.1.many = 0 then baseOf ly s.1 n + mx 0 n else s.1.top) (baseOf ly s.1 n + mx 0 n) := rfl
    have k1 : -(c + 100) ≤ (if s.1.many = 0 then baseOf ly s.1 n else s.1.bot) ∧ (if s.1.many = 0 then baseOf ly s.1 n else s.1.bot) ≤ c + 100 := by split <;> omega
    have k2 : -(c + 100) ≤ (if s.1.many = 0 then baseOf ly s.1 n + mx 0 n else s.1.top) ∧ (if s.1.many = 0 then baseOf ly s.1 n + mx 0 n else s.1.top) ≤ c + 100 := by split <;> omega
    have r := small ly hy xs (next ly s.1 n, s.2 ++ [baseOf ly s.1 n]) (c + 100) (fun m hm => hx m (List.mem_cons_of_mem _ hm)) (by show _ ≤ (next ly s.1 n).bot; rw [e1]; omega) (by show (next ly s.1 n).bot ≤ _; rw [e1]; omega)
      (by show _ ≤ (next ly s.1 n).top; rw [e2]; omega) (by show (next ly s.1 n).top ≤ _; rw [e2]; omega) (fun b' hb' => by
        rcases List.mem_append.mp hb' with q | q
        · have := h5 b' q; omega
        · obtain rfl := List.mem_singleton.mp q; omega) b hb
    rw [List.length_cons]
    omega
theorem bases_small {ly xs : List Int} (hy : ∀ k, -5 ≤ gapOf ly k ∧ gapOf ly k ≤ 5) (hx : ∀ n ∈ xs, -2 ≤ n ∧ n ≤ 40) (hl : xs.length ≤ 100) : ∀ b ∈ bases ly xs, b.natAbs.log2 < 1920 := by
  intro b hb
  have h := small ly hy xs (⟨0, 0, 0⟩, []) 0 hx (by decide) (by decide) (by decide) (by decide) (fun b hb => absurd hb List.not_mem_nil) b hb
  have h1 : b.natAbs < 2 ^ 1920 := Nat.lt_of_lt_of_le (show b.natAbs < 2 ^ 14 by omega) (Nat.pow_le_pow_right (by decide) (by decide))
  by_cases h0 : b.natAbs = 0
  · rw [h0]; decide
  · exact (Nat.log2_lt h0).mpr h1
theorem gap_small {ly : List Int} (h : ∀ g ∈ ly, -5 ≤ g ∧ g ≤ 5) (k : Nat) : -5 ≤ gapOf ly k ∧ gapOf ly k ≤ 5 := by
  unfold gapOf
  rw [List.getD_eq_getElem?_getD]
  cases e : ly[k]? with
  | none => decide
  | some g => exact h g (List.mem_of_getElem? e)
/-! ### no two meet -/
/-- two intervals do not meet -/
def Apart (p q : Int × Int) : Prop := p.2 ≤ q.1 ∨ q.2 ≤ p.1
/-- the areas with a length above 0 -/
def ivs (l : List (Int × Int)) : List (Int × Int) := (l.filter fun p => decide (0 < p.2)).map fun p => (p.1, p.1 + p.2)
theorem ivs_snoc (l : List (Int × Int)) (p : Int × Int) : ivs (l ++ [p]) = ivs l ++ (if 0 < p.2 then [(p.1, p.1 + p.2)] else []) := by
  unfold ivs
  rw [List.filter_append, List.map_append]
  congr 1
  by_cases h : 0 < p.2
  · rw [if_pos h, List.filter_cons, decide_eq_true h]; rfl
  · rw [if_neg h, List.filter_cons, decide_eq_false h]; rfl
structure Far (g : Gd) (l : List (Int × Int)) : Prop where
  sep : (ivs l).Pairwise Apart
  pos : ∀ p ∈ ivs l, p.1 < p.2
  within : ∀ p ∈ ivs l, g.bot ≤ p.1 ∧ p.2 ≤ g.top
  first : g.many = 0 → ivs l = []
theorem far_next {ly : List Int} {g : Gd} {l : List (Int × Int)} (F : Far g l) (n : Int) : Far (next ly g n) (l ++ [(baseOf ly g n, n)]) := by
  have m0 := @mx_le 0 n
  have m1 := @mn_le (if g.many = 0 then baseOf ly g n else g.bot) (baseOf ly g n)
  have m2 := @mx_le (if g.many = 0 then baseOf ly g n + mx 0 n else g.top) (baseOf ly g n + mx 0 n)
  have e1 : (next ly g n).bot = mn (if g.many = 0 then baseOf ly g n else g.bot) (baseOf ly g n) := rfl
  have e2 : (next ly g n).top = mx (if g.many = 0 then baseOf ly g n + mx 0 n else g.top) (baseOf ly g n + mx 0 n) := rfl
  have old : ∀ p ∈ ivs l, (next ly g n).bot ≤ p.1 ∧ p.2 ≤ (next ly g n).top := by
    intro p hp
    have h0 : ¬ g.many = 0 := fun z => by rw [F.first z] at hp; exact absurd hp List.not_mem_nil
    rw [if_neg h0] at m1 m2 e1 e2
    have := F.within p hp
    omega
  have out : ∀ p ∈ ivs l, p.2 ≤ baseOf ly g n ∨ baseOf ly g n + mx 0 n ≤ p.1 := by
    intro p hp
    have := F.within p hp
    unfold baseOf
    split <;> omega
  by_cases hn : 0 < n
  · have hs : mx 0 n = n := by unfold mx; rw [if_pos hn]
    have ei : ivs (l ++ [(baseOf ly g n, n)]) = ivs l ++ [(baseOf ly g n, baseOf ly g n + n)] := by rw [ivs_snoc, if_pos hn]
    refine ⟨?_, ?_, ?_, fun z => by cases z⟩
    · rw [ei]
      refine List.pairwise_append.mpr ⟨F.sep, List.pairwise_singleton _ _, fun p hp q hq => ?_⟩
      obtain rfl := List.mem_singleton.mp hq
      have := out p hp
      rw [hs] at this
      exact this
    · rw [ei]
      intro p hp
      rcases List.mem_append.mp hp with q | q
      · exact F.pos p q
      · obtain rfl := List.mem_singleton.mp q
        show baseOf ly g n < baseOf ly g n + n
        omega
    · rw [ei]
      intro p hp
      rcases List.mem_append.mp hp with q | q
      · exact old p q
      · obtain rfl := List.mem_singleton.mp q
        show (next ly g n).bot ≤ baseOf ly g n ∧ baseOf ly g n + n ≤ (next ly g n).top
        rw [hs] at m2 e2
        rw [e1, e2]
        omega
  · have ei : ivs (l ++ [(baseOf ly g n, n)]) = ivs l := by rw [ivs_snoc, if_neg hn, List.append_nil]
    refine ⟨?_, ?_, ?_, fun z => by cases z⟩
    · rw [ei]; exact F.sep
    · rw [ei]; exact F.pos
    · rw [ei]; exact old
theorem far_all (ly : List Int) : ∀ (xs : List Int) (s : Gd × List Int) (ys : List Int), s.2.length = ys.length → Far s.1 (s.2.zip ys) →
    ((ivs ((xs.foldl (fun s n => (next ly s.1 n, s.2 ++ [baseOf ly s.1 n])) s).2.zip (ys ++ xs))).Pairwise Apart ∧ ∀ p ∈ ivs ((xs.foldl (fun s n => (next ly s.1 n, s.2 ++ [baseOf ly s.1 n])) s).2.zip (ys ++ xs)), p.1 < p.2)
  | [], s, ys, _, F => by
    rw [List.append_nil]
    exact ⟨F.sep, F.pos⟩
  | n :: xs, s, ys, hl, F => by
    have h := far_all ly xs (next ly s.1 n, s.2 ++ [baseOf ly s.1 n]) (ys ++ [n]) (by rw [List.length_append, List.length_append, hl]; rfl) (by
      show Far (next ly s.1 n) ((s.2 ++ [baseOf ly s.1 n]).zip (ys ++ [n]))
      rw [List.zip_append hl]
      exact far_next F n)
    rw [List.append_assoc] at h
    exact h
theorem far (ly xs : List Int) : (ivs ((bases ly xs).zip xs)).Pairwise Apart ∧ ∀ p ∈ ivs ((bases ly xs).zip xs), p.1 < p.2 :=
  far_all ly xs (⟨0, 0, 0⟩, []) [] rfl ⟨List.Pairwise.nil, fun p hp => absurd hp List.not_mem_nil, fun p hp => absurd hp List.not_mem_nil, fun _ => rfl⟩
/-- sorted, they follow each other -/
theorem follow {l m : List (Int × Int)} (hp : m.Perm l) (sep : l.Pairwise Apart) (pos : ∀ p ∈ l, p.1 < p.2) (hs : m.Pairwise fun p q => p.1 ≤ q.1) {i : Nat} {p q : Int × Int} (h1 : m[i]? = some p) (h2 : m[i + 1]? = some q) : p.2 ≤ q.1 := by
  have sm : m.Pairwise Apart := (hp.pairwise_iff (fun {x y} h => Or.symm h)).mpr sep
  obtain ⟨i1, e1⟩ := List.getElem?_eq_some_iff.mp h1
  obtain ⟨i2, e2⟩ := List.getElem?_eq_some_iff.mp h2
  have a1 := List.pairwise_iff_getElem.mp sm i (i + 1) i1 i2 (Nat.lt_succ_self i)
  have a2 := List.pairwise_iff_getElem.mp hs i (i + 1) i1 i2 (Nat.lt_succ_self i)
  rw [e1, e2] at a1 a2
  have a3 := pos q (hp.subset (List.mem_of_getElem? h2))
  rcases a1 with a1 | a1
  · exact a1
  · omega
/-! ### apart -/
theorem gap_rep {m k : Nat} {g : Int} (h : k < m) : gapOf (List.replicate m g) k = g := by
  unfold gapOf
  rw [List.getD_eq_getElem?_getD, List.getElem?_replicate, if_pos h]
  rfl
theorem top_snoc {ly xs : List Int} {n : Int} (h : 0 ≤ gapOf ly xs.length) : (laid ly (xs ++ [n])).1.top = baseOf ly (laid ly xs).1 n + mx 0 n := by
  rw [laid_snoc]
  show mx (if (laid ly xs).1.many = 0 then baseOf ly (laid ly xs).1 n + mx 0 n else (laid ly xs).1.top) (baseOf ly (laid ly xs).1 n + mx 0 n) = _
  have m0 := @mx_le 0 n
  have hb : baseOf ly (laid ly xs).1 n = (laid ly xs).1.top + gapOf ly xs.length := by
    unfold baseOf
    rw [laid_many, if_pos h]
  have m1 := @mx_le (if (laid ly xs).1.many = 0 then baseOf ly (laid ly xs).1 n + mx 0 n else (laid ly xs).1.top) (baseOf ly (laid ly xs).1 n + mx 0 n)
  by_cases h0 : (laid ly xs).1.many = 0
  · rw [if_pos h0] at m1 ⊢
    omega
  · rw [if_neg h0] at m1 ⊢
    omega
theorem apart_gap {xs : List Int} {g a b n m : Int} {k : Nat} (hg : 0 ≤ g) (h1 : (bases (List.replicate xs.length g) xs)[k]? = some a) (h2 : (bases (List.replicate xs.length g) xs)[k + 1]? = some b) (hn : xs[k]? = some n) (hm : xs[k + 1]? = some m) : b = a + mx 0 n + g := by
  rw [bases_get _ _ _ _ hn] at h1
  rw [bases_get _ _ _ _ hm] at h2
  have k1 : k + 1 < xs.length := (List.getElem?_eq_some_iff.mp hm).1
  have e1 := Option.some.inj h1
  have e2 := Option.some.inj h2
  have lk : (xs.take k).length = k := by rw [List.length_take]; omega
  have lk1 : (xs.take (k + 1)).length = k + 1 := by rw [List.length_take]; omega
  have ht := @top_snoc (List.replicate xs.length g) (xs.take k) n (by rw [lk, gap_rep (by omega)]; exact hg)
  rw [← take_snoc hn, e1] at ht
  rw [← e2]
  unfold baseOf
  rw [laid_many, lk1, gap_rep k1, if_pos hg, ht]
end K76

namespace K76
open PySem L2 R76
/-! ### tuples of numbers as data -/
def dT (ns : List Int) : PyData := .tuple (ns.map PyData.int)
theorem dp_ints {K : PySem.W.Frag} {H : Hp} : ∀ ns : List Int, DpAll K H (ns.map V.int) (ns.map PyData.int)
  | [] => .nil
  | n :: ns => .cons (.int n) (dp_ints ns)
theorem dp_tup {K : PySem.W.Frag} {H : Hp} {t : Addr} {ns : List Int} (h : H t = some (.tup (ns.map V.int))) : Dp K H (.ref t) (dT ns) := .tup (SqT.of h) (dp_ints ns)
theorem dt_show : ∀ {ns : List Int}, (∀ n ∈ ns, n.natAbs.log2 < 1920) → PyData.showableAll (ns.map PyData.int) = true ∧ ((PyData.shownAll (ns.map PyData.int)).map (·.length)).sum ≤ 1921 * ns.length ∧ (PyData.shownAll (ns.map PyData.int)).length = ns.length
  | [], _ => ⟨rfl, Nat.le_refl _, rfl⟩
  | n :: ns, h => by
    obtain ⟨h1, h2, h3⟩ := dt_show (ns := ns) fun m hm => h m (List.mem_cons_of_mem _ hm)
    have hn := h n List.mem_cons_self
    have hz := PyProof.Rows.int_text_len_1921 hn
    refine ⟨?_, ?_, ?_⟩
    · simp only [List.map_cons, PyData.showableAll, PyData.showable, h1, hn, decide_true, Bool.and_self]
    · simp only [List.map_cons, PyData.shownAll, PyData.shown, List.sum_cons, List.length_cons]
      have : (PySem.Str.ofString (toString n)).length ≤ 1921 := hz
      show (PySem.Str.ofString (toString n)).length + _ ≤ _
      omega
    · simp only [List.map_cons, PyData.shownAll, List.length_cons, h3]
theorem dt_flat : ∀ ns : List Int, PyData.hasDictAll (ns.map PyData.int) = false ∧ PyData.depthAll (ns.map PyData.int) = 0 ∧ PyData.canLayAll0 (ns.map PyData.int) = true
  | [] => ⟨rfl, rfl, rfl⟩
  | n :: ns => by
    obtain ⟨h1, h2, h3⟩ := dt_flat ns
    refine ⟨?_, ?_, ?_⟩
    · simp only [List.map_cons, PyData.hasDictAll, PyData.hasDict, h1, Bool.or_self]
    · simp only [List.map_cons, PyData.depthAll, PyData.depth, h2]; rfl
    · simp only [List.map_cons, PyData.canLayAll0, PyData.canLay0, h3, Bool.and_self]
/-- two tuples of the same numbers are alike -/
theorem alike_ints {K : PySem.W.Frag} {H : Hp} {a c : Addr} {ns : List Int} (ha : H a = some (.tup (ns.map V.int))) (hc : H c = some (.tup (ns.map V.int))) (hb : ∀ n ∈ ns, n.natAbs.log2 < 1920) (hl : ns.length ≤ 1000) :
    Dp K H (.ref a) (dT ns) ∧ Dp K H (.ref c) (dT ns) ∧ (dT ns).showable = true ∧ (dT ns).hasDict = false ∧ (dT ns).depth ≤ 30 ∧ (dT ns).shown.length ≤ sizeLine ∧ SeqAt.shaped (dT ns) = true ∧ (dT ns).canLay0 = true := by
  obtain ⟨h1, h2, h3⟩ := dt_show hb
  obtain ⟨f1, f2, f3⟩ := dt_flat ns
  have e1 : (dT ns).canLay0 = true := by show PyData.canLay0 (.tuple _) = true; simp only [PyData.canLay0, f3]
  have e2 : (dT ns).depth = 1 := by show PyData.depth (.tuple _) = 1; simp only [PyData.depth, f2]
  refine ⟨dp_tup ha, dp_tup hc, ?_, ?_, by rw [e2]; decide, ?_, ?_, e1⟩
  · show PyData.showable (.tuple _) = true
    simp only [PyData.showable, h1]
  · show PyData.hasDict (.tuple _) = false
    simp only [PyData.hasDict, f1]
  · show (PyData.shown (.tuple _)).length ≤ _
    simp only [PyData.shown]
    have := tupleText_len_le (PyData.shownAll (ns.map PyData.int))
    rw [sizeLine_eq]
    omega
  · unfold SeqAt.shaped
    rw [e1, e2]
    rfl
/-! ### zip of two tuples -/
theorem walk_zipT {K : PySem.W.Frag} {a b : Addr} {xs ys : List V} {n : Nat} (hx : xs.length = n) (hy : ys.length = n) : Walk (RZ.ItzT K a b) n (fun H => SqT K H a xs ∧ SqT K H b ys) (YPair (fun i => xs[i]?) (fun i => ys[i]?)) := by
  refine ⟨fun i _ hi q => ?_, fun _ q => ⟨xs, ys, q.1, q.2, .inl (by omega)⟩, fun i H v H' _ q y => ?_⟩
  · have h1 : i < xs.length := by omega
    have h2 : i < ys.length := by omega
    exact ⟨xs, ys, xs[i], ys[i], q.1, q.2, by simp [h1], by simp [h2]⟩
  · obtain ⟨T, x, z, h1, h2, h3, h4, h5⟩ := y
    exact ⟨T, x, z, h1, h2, h3, h4 xs q.1, h5 ys q.2⟩
end K76


namespace K76
open PySem L2 R76
theorem bag_ne {H : Hp} {b l t : Addr} {ns : List Int} (B : BagAt H b l ns) (n : H t = none) : t ≠ b ∧ t ≠ l := by
  obtain ⟨c0, c1, c2, B⟩ := B
  exact ⟨(ne_of_none B.at_ n).symm, (ne_of_none B.cells n).symm⟩
theorem but_put {b : Addr} {H0 H : Hp} {D : Addr} {o : HO} (s : But b H0 H) (n : H0 D = none) : But b H0 (upd H D o) := fun a x na e => by
  rw [upd_ne (ne_of_none e n)]
  exact s a x na e
/-- a list that is none of the bag's is written -/
theorem bag_put {H : Hp} {b l D : Addr} {ns : List Int} {o : HO} (B : BagAt H b l ns) (ne : D ≠ b ∧ D ≠ l) : BagAt (upd H D o) b l ns := by
  obtain ⟨c0, c1, c2, B⟩ := B
  exact ⟨c0, c1, c2, by rw [upd_ne ne.1.symm]; exact B.at_, by rw [upd_ne ne.2.symm]; exact B.cells, B.ne, B.p0, B.p1, B.q1, B.pos, B.few⟩
/-- the two numbers of a pair -/
def kH (H : Hp) : V → Int × Int
  | .ref t => match H t with
    | some (.tup [.int i, .int j]) => (i, j)
    | _ => (0, 0)
  | _ => (0, 0)
theorem kH_at {H : Hp} {t : Addr} {i j : Int} (h : H t = some (.tup [.int i, .int j])) : kH H (.ref t) = (i, j) := by
  show (match H t with
    | some (.tup [.int i, .int j]) => (i, j)
    | _ => (0, 0)) = (i, j)
  rw [h]
theorem rows_follow {H : Hp} {ly ls : List Int} {ys : List V} {rs : List (Addr × Int × Int)} (hp : ys.Perm (rs.map fun r => V.ref r.1)) (so : SrtO.Srtd (ltP (kH H)) ys) (er : ∀ r ∈ rs, H r.1 = some (.tup [.int r.2.1, .int r.2.2])) (ev : rs.map (·.2) = ivs ((bases ly ls).zip ls))
    (i : Nat) (x y : V) (h1 : ys[i]? = some x) (h2 : ys[i + 1]? = some y) : (kH H x).2 ≤ (kH H y).1 := by
  have f := far ly ls
  have e1 : (rs.map fun r => V.ref r.1).map (kH H) = rs.map (·.2) := by
    rw [List.map_map]
    apply List.map_congr_left
    intro r hr
    show kH H (.ref r.1) = r.2
    rw [kH_at (er r hr)]
  have hp2 : (ys.map (kH H)).Perm (ivs ((bases ly ls).zip ls)) := by
    rw [← ev, ← e1]
    exact hp.map _
  refine follow hp2 f.1 f.2 ?_ (i := i) (by rw [List.getElem?_map, h1]; rfl) (by rw [List.getElem?_map, h2]; rfl)
  refine List.pairwise_map.mpr (so.imp fun {a b} h => ?_)
  by_cases q : (kH H a).1 ≤ (kH H b).1
  · exact q
  · have : SrtO.lexB (kH H b) (kH H a) = true := SrtO.lexB_iff.mpr (.inl (by omega))
    have h' : SrtO.lexB (kH H b) (kH H a) = false := h
    rw [this] at h'
    cases h'
theorem log_small {g : Int} (h0 : 0 ≤ g) (h1 : g < 100) : g.natAbs.log2 < 1920 := by
  by_cases h : g.natAbs = 0
  · rw [h]; decide
  · have h2 : g.natAbs < 2 ^ 7 := by omega
    have h3 := (Nat.log2_lt h).mpr h2
    omega
def spLaw (K : PySem.W.Frag) : Sp := fun vs H Q _ => ∃ (a : Addr) (ns : List Int), vs = [.ref a] ∧ SqL K H a (ns.map V.int) ∧ ns.length ≤ 63 ∧ ∀ H', Q (.bl true) H'
section
variable {P : Program} {w : World} {K : PySem.W.Frag} {mg : Str → Option Value} {base : Heap}
abbrev nL : List Str := ["script", "bag", "turn", "many", "lengths", "layout", "bases", "rows", "gap", "ends", "lap", "base", "length", "k"]
theorem scL : FnScope nL ["script"] (defScope sLaw) := ⟨rfl, rfl, rfl, by decide +kernel, rfl, by decide +kernel, by decide +kernel⟩
theorem ok_law {f fGt fTk fSm fAl fPl fPd fAp fI fB fP C : Addr} {fd fdGt fdTk fdSm fdAl fdPl fdPd fdAp fdI fdB fdP : FuncData} (F : Fun K "law" "law" sLaw f fd) (T : Blt mg) (CT : Cl K mg C)
    (FG : Fun K "_law_bag" "_law_bag" sBag fGt fdGt) (bG : Binds K fdGt ["script"] []) (gG : mg "_law_bag" = some (.ref fGt))
    (FT : Fun K "_law_take" "_law_take" sTake fTk fdTk) (bT : Binds K fdTk ["bag", "many"] []) (gT : mg "_law_take" = some (.ref fTk))
    (FS : Fun K "_law_some" "_law_some" sSome fSm fdSm) (bS : Binds K fdSm ["bag", "things"] []) (gS : mg "_law_some" = some (.ref fSm))
    (FA : Fun K "_law_alike" "_law_alike" sAlike fAl fdAl) (bA : Binds K fdAl ["found", "due"] []) (gA : mg "_law_alike" = some (.ref fAl))
    (FL : Fun K "_law_placed" "_law_placed" sPl fPl fdPl) (bL : Binds K fdPl ["layout", "lengths"] []) (gL : mg "_law_placed" = some (.ref fPl))
    (FD : Fun K "placed" "placed" sPlaced fPd fdPd) (bD : Binds K fdPd ["layout", "lengths"] []) (gD : mg "placed" = some (.ref fPd))
    (FR : Fun K "apart" "apart" sApart fAp fdAp) (bR : Binds K fdAp ["many", "gap"] []) (gR : mg "apart" = some (.ref fAp))
    (M : Mk K C fI) (FI : Fun K "__init__" "Ground.__init__" sInit fI fdI) (bI : Binds K fdI ["self", "layout"] [])
    (FB : Fun K "base_for" "Ground.base_for" sBase fB fdB) (bB : Binds K fdB ["self", "length"] []) (mB : Meth K C "base_for" fB)
    (FP : Fun K "place" "Ground.place" sPlace fP fdP) (bP : Binds K fdP ["self", "length"] []) (mP : Meth K C "place" fP) : FnG P w K mg base 4 f fd ["script"] (spLaw K) := by
  have GG : FnOk P w K mg base CX0 1 fGt fdGt ["script"] (spBag K) := ok_bag FG T
  have GT : FnOk P w K mg base CX0 1 fTk fdTk ["bag", "many"] spTake := ok_take FT T
  have GS : FnOk P w K mg base CX0 2 fSm fdSm ["bag", "things"] (spSome K) := ok_some FS T FT bT gT
  have GA : FnG P w K mg base 1 fAl fdAl ["found", "due"] (spAlike K) := ok_alike FA T
  have GL : FnOk P w K mg base CX0 1 fPl fdPl ["layout", "lengths"] (spPlaced K) := ok_pl FL T
  have GD : FnOk P w K mg base CX0 3 fPd fdPd ["layout", "lengths"] (spPlaced K) := ok_placed FD CT T M FI bI FB bB mB FP bP mP
  have GR : FnOk P w K mg base CX0 1 fAp fdAp ["many", "gap"] spApart := ok_apart FR
  refine fnG F scL (fun vs H Q E h => ?_) (fun cdv A outer s H vs Q E hA hr h => ?_)
  · obtain ⟨a, ns, rfl, _⟩ := h
    rfl
  · obtain ⟨a, ns, rfl, hS, hlen, k⟩ := h
    have hr1 : Room 1 _ := hr.mono (by decide : 1 ≤ 3)
    have hr2 : Room 2 _ := hr.mono (by decide : 2 ≤ 3)
    refine ⟨_, pss_cons (ps_set (i := 1) scL.nd rfl (Or.inr rfl) (pe_call GG hr1 (by rfl) gG FG.kp bG .nil pass0 (pa_cons (pv 0) pa_nil)))
      (pss_cons (ps_for PassesOwn.never rfl (pi_range1 (by rfl) T.range (pa_cons pe_int pa_nil)) (pg_name (i := 2) scL.nd rfl (Or.inl rfl))
        (pss_cons (ps_set (i := 3) scL.nd rfl (Or.inl rfl) (pe_call GT hr1 (by rfl) gT FT.kp bT .nil pass0 (pa_cons (pv 1) (pa_cons pe_int pa_nil))))
        (pss_cons (ps_set (i := 4) scL.nd rfl (Or.inl rfl) (pe_callTy call_tuple_of (by rfl) T.tuple (by decide +kernel) (pa_cons
          (pe_lc (own := [("lap", 10)]) (g := gName 10) (by rfl) scL.nd (pi_range1 (by rfl) T.range (pa_cons (pv 3) pa_nil)) (blkOk_by (own := [("lap", 10)]) (N := nL) (sc := defScope sLaw) (by decide +kernel))
            (fun _ _ _ _ _ => pg_name (i := 10) scL.nd rfl (Or.inl rfl)) (fun _ _ _ _ _ => pts_nil)
            (fun _ _ _ _ _ => pe_call GS hr2 (by rfl) gS FS.kp bS .nil pass0 (pa_cons (pv 1) (pa_cons (pe_lst (pa_cons pe_int (pa_cons pe_int (pa_cons pe_int (pa_cons pe_int (pa_cons (pe_un un_neg pe_int) (pa_cons pe_int pa_nil))))))) pa_nil)))) pa_nil)))
        (pss_cons (ps_set (i := 5) scL.nd rfl (Or.inl rfl) (pe_callTy call_tuple_of (by rfl) T.tuple (by decide +kernel) (pa_cons
          (pe_lc (own := [("lap", 10)]) (g := gName 10) (by rfl) scL.nd (pi_range1 (by rfl) T.range (pa_cons (pe_call GT hr1 (by rfl) gT FT.kp bT .nil pass0 (pa_cons (pv 1) (pa_cons pe_int pa_nil))) pa_nil)) (blkOk_by (own := [("lap", 10)]) (N := nL) (sc := defScope sLaw) (by decide +kernel))
            (fun _ _ _ _ _ => pg_name (i := 10) scL.nd rfl (Or.inl rfl)) (fun _ _ _ _ _ => pts_nil)
            (fun _ _ _ _ _ => pe_op op_sub (pe_call GT hr1 (by rfl) gT FT.kp bT .nil pass0 (pa_cons (pv 1) (pa_cons pe_int pa_nil))) pe_int)) pa_nil)))
        (pss_cons (ps_set (i := 6) scL.nd rfl (Or.inr rfl) (pe_call GD hr (by rfl) gD FD.kp bD .nil pass0 (pa_cons (pv 5) (pa_cons (pv 4) pa_nil))))
        (pss_cons (ps_if (pt_not (pt_val (pe_callG GA hA hr1 (by rfl) gA FA.kp bA .nil (pa_cons (pv 6) (pa_cons (pe_call GL hr1 (by rfl) gL FL.kp bL .nil pass0 (pa_cons (pv 5) (pa_cons (pv 4) pa_nil))) pa_nil))))) (pss_one (ps_ret pe_bl)) pss_nil)
        (pss_cons (ps_set (i := 7) scL.nd rfl (Or.inr rfl) (pe_callB cr_sortedPO (by rfl) T.sorted (by decide +kernel) (pa_cons
          (pe_lc (own := [("base", 11), ("length", 12)]) (g := gTup K 2 (gCons (gName 11) (gCons (gName 12) gNil))) (by rfl) scL.nd (RZ.pi_zipA (by rfl) T.zip (pa_cons (pv 6) (pa_cons (pv 4) pa_nil))) (blkOk_by (own := [("base", 11), ("length", 12)]) (N := nL) (sc := defScope sLaw) (by decide +kernel))
            (fun _ _ _ _ _ => pg_tup (by rfl) (pgs_cons (pg_name (i := 11) scL.nd rfl (Or.inl rfl)) (pgs_cons (pg_name (i := 12) scL.nd rfl (Or.inl rfl)) pgs_nil)))
            (fun _ _ _ _ _ => pts_one (pt_cmpR op_gt (pv 12) pe_int (nomark _)))
            (fun _ _ _ _ _ => pe_tup (pa_cons (pv 11) (pa_cons (pe_op op_add (pv 11) (pv 12)) pa_nil)))) pa_nil)))
        (pss_cons (ps_if (pt_cmpR (op_neD hr.units)
          (pe_lc (own := [("k", 13)]) (g := gName 13) (by rfl) scL.nd (pi_range2 (by rfl) T.range (pa_cons pe_int (pa_cons (pe_callB call_len_seq (by rfl) T.len PySem.boot_len (pa_cons (pv 7) pa_nil)) pa_nil))) (blkOk_by (own := [("k", 13)]) (N := nL) (sc := defScope sLaw) (by decide +kernel))
            (fun _ _ _ _ _ => pg_name (i := 13) scL.nd rfl (Or.inl rfl))
            (fun _ _ _ _ _ => pts_one (pt_cmpR op_lt (pe_ix (r := rIxT K) ix_tup (pe_ix (r := rIxL K) ix_list (pv 7) (pv 13) (fun _ _ => rfl)) pe_int (fun _ _ => rfl)) (pe_ix (r := rIxT K) ix_tup (pe_ix (r := rIxL K) ix_list (pv 7) (pe_op op_sub (pv 13) pe_int) (fun _ _ => rfl)) pe_int (fun _ _ => rfl)) (nomark _)))
            (fun _ _ _ _ _ => pv 13)) (pe_lst pa_nil) (nomark _)) (pss_one (ps_ret pe_bl)) pss_nil)
        (pss_cons (ps_set (i := 8) scL.nd rfl (Or.inr rfl) (pe_call GT hr1 (by rfl) gT FT.kp bT .nil pass0 (pa_cons (pv 1) (pa_cons pe_int pa_nil))))
        (pss_cons (ps_if (pt_not (pt_val (pe_callG GA hA hr1 (by rfl) gA FA.kp bA .nil (pa_cons (pe_call GR hr1 (by rfl) gR FR.kp bR .nil pass0 (pa_cons (pv 3) (pa_cons (pv 8) pa_nil))) (pa_cons (pe_op op_repAny (pe_tup (pa_cons (pv 8) pa_nil)) (pv 3)) pa_nil))))) (pss_one (ps_ret pe_bl)) pss_nil)
        (pss_cons (ps_set (i := 6) scL.nd rfl (Or.inr rfl) (pe_call GD hr (by rfl) gD FD.kp bD .nil pass0 (pa_cons (pe_call GR hr1 (by rfl) gR FR.kp bR .nil pass0 (pa_cons (pv 3) (pa_cons (pv 8) pa_nil))) (pa_cons (pv 4) pa_nil))))
        (pss_cons (ps_set (i := 9) scL.nd rfl (Or.inr rfl)
          (pe_lc (own := [("base", 11), ("length", 12)]) (g := gTup K 2 (gCons (gName 11) (gCons (gName 12) gNil))) (by rfl) scL.nd (RZ.pi_zipA (by rfl) T.zip (pa_cons (pv 6) (pa_cons (pv 4) pa_nil))) (blkOk_by (own := [("base", 11), ("length", 12)]) (N := nL) (sc := defScope sLaw) (by decide +kernel))
            (fun _ _ _ _ _ => pg_tup (by rfl) (pgs_cons (pg_name (i := 11) scL.nd rfl (Or.inl rfl)) (pgs_cons (pg_name (i := 12) scL.nd rfl (Or.inl rfl)) pgs_nil)))
            (fun _ _ _ _ _ => pts_nil)
            (fun _ _ _ _ _ => pe_op op_add (pv 11) (pe_callB (call_max2 rfl) (by rfl) T.max (by decide +kernel) (pa_cons pe_int (pa_cons (pv 12) pa_nil))))))
        (pss_one (ps_if (pt_cmpR (op_neD hr.units)
          (pe_lc (own := [("k", 13)]) (g := gName 13) (by rfl) scL.nd (pi_range2 (by rfl) T.range (pa_cons pe_int (pa_cons (pv 3) pa_nil))) (blkOk_by (own := [("k", 13)]) (N := nL) (sc := defScope sLaw) (by decide +kernel))
            (fun _ _ _ _ _ => pg_name (i := 13) scL.nd rfl (Or.inl rfl))
            (fun _ _ _ _ _ => pts_one (pt_cmpR op_ne (pe_ix (r := rIxT K) ix_tup (pv 6) (pv 13) (fun _ _ => rfl)) (pe_op op_add (pe_ix (r := rIxL K) ix_list (pv 9) (pe_op op_sub (pv 13) pe_int) (fun _ _ => rfl)) (pv 8)) (nomark _)))
            (fun _ _ _ _ _ => pv 13)) (pe_lst pa_nil) (nomark _)) (pss_one (ps_ret pe_bl)) pss_nil))))))))))))))
      (pss_one (ps_ret pe_bl))), ?_⟩
    refine ⟨_, rfl, a, ns, rfl, hS, hlen, fun H1 b l cs sm fb B0 => ?_⟩
    refine ⟨8, rfl, by decide, by decide, for_range (n := 8) (fun i σ H' => ∃ v2 v3 v4 v5 v6 v7 v8 v9, σ = [some (.ref a), some (.ref b), v2, v3, v4, v5, v6, v7, v8, v9, none, none, none, none] ∧ BagAt H' b l cs) ⟨_, _, _, _, _, _, _, _, rfl, B0⟩ ?_ (fun σ H' _ => k H')⟩
    rintro turn σ H2 hturn ⟨v2, v3, v4, v5, v6, v7, v8, v9, rfl, B2⟩
    -- many
    refine ⟨_, rfl, b, l, cs, 9, rfl, B2, by decide, by decide, fun H3 m bu3 B3 m0 m9 => ?_⟩
    have m1000 : m ≤ 1000 := by omega
    -- lengths
    refine ⟨_, rfl, m, rfl, by omega, by omega, fun D nD => ?_⟩
    have neD := bag_ne B3 nD
    refine lc_range (lo := 0) (n := m.toNat) (fun i H' => But b H3 H' ∧ BagAt H' b l cs ∧ ∃ ls : List Int, ls.length = i ∧ (∀ n ∈ ls, -2 ≤ n ∧ n ≤ 40) ∧ H' D = some (.lst (ls.map V.int)))
      ⟨But.same (same_new nD), B3.same (same_new nD), [], rfl, fun n hn => absurd hn List.not_mem_nil, upd_same⟩ (fun i H4 hi hP => ?_) (fun H4 hP => ?_)
    · obtain ⟨bu4, B4, ls, hl, hb, eD⟩ := hP
      refine ⟨rfl, ?_⟩
      refine kept ?_
      refine ⟨_, rfl, _, rfl, by show 6 ≤ sizeLine; decide, fun t nt => ?_⟩
      have s5 : Same H4 (upd H4 t (.lst [V.int 0, V.int 1, V.int 2, V.int 7, V.int (-2), V.int 40])) := same_new nt
      refine ⟨b, l, cs, t, _, rfl, B4.same s5, (bag_ne B4 nt).1, upd_same, by show 1 ≤ 6; decide, by show 6 < 1000000; decide, fun H5 v bu5 B5 hv => ?_⟩
      have hv' : ∃ n : Int, v = .int n ∧ -2 ≤ n ∧ n ≤ 40 := by
        simp only [List.mem_cons, List.not_mem_nil, or_false] at hv
        rcases hv with rfl | rfl | rfl | rfl | rfl | rfl <;> exact ⟨_, rfl, by decide, by decide⟩
      obtain ⟨n, rfl, hn⟩ := hv'
      have eD5 : H5 D = some (.lst (ls.map V.int)) := bu5 _ _ neD.1 (s5 _ _ eD)
      refine ⟨_, eD5, ?_, but_put ((bu4.trans (But.same s5)).trans bu5) nD, bag_put B5 neD, ls ++ [n], ?_, ?_, ?_⟩
      · rw [List.length_map, hl]
        exact small1000 (by omega)
      · rw [List.length_append, hl]; rfl
      · intro q hq
        rcases List.mem_append.mp hq with z | z
        · exact hb q z
        · obtain rfl := List.mem_singleton.mp z; exact hn
      · rw [upd_same, List.map_append]; rfl
    obtain ⟨bu4, B4, ls, hl, hb, eD⟩ := hP
    refine ⟨D, _, rfl, .inl ⟨SqL.of eD, fun tl ntl => ?_⟩⟩
    have netl : tl ≠ b := (bag_ne B4 ntl).1
    have B4' := B4.same (same_new (o := .tup (ls.map V.int)) ntl)
    have etl : (upd H4 tl (.tup (ls.map V.int))) tl = some (.tup (ls.map V.int)) := upd_same
    generalize upd H4 tl (.tup (ls.map V.int)) = H5 at B4' etl ⊢
    clear bu4 B4 eD ntl nD neD
    -- layout
    refine ⟨_, rfl, b, l, cs, 12, rfl, B4', by decide, by decide, fun H6 q bu6 B6 q0 q9 => ?_⟩
    refine ⟨q, rfl, by omega, by omega, fun D nD => ?_⟩
    have neD := bag_ne B6 nD
    have etl6 := bu6 _ _ netl etl
    refine lc_range (lo := 0) (n := q.toNat) (fun i H' => But b H6 H' ∧ BagAt H' b l cs ∧ ∃ ly : List Int, ly.length = i ∧ (∀ n ∈ ly, -5 ≤ n ∧ n ≤ 5) ∧ H' D = some (.lst (ly.map V.int)))
      ⟨But.same (same_new nD), B6.same (same_new nD), [], rfl, fun n hn => absurd hn List.not_mem_nil, upd_same⟩ (fun i H7 hi hP => ?_) (fun H7 hP => ?_)
    · obtain ⟨bu7, B7, ly, hl7, hb7, eD⟩ := hP
      refine ⟨rfl, ?_⟩
      refine kept ?_
      refine ⟨_, rfl, b, l, cs, 9, rfl, B7, by decide, by decide, fun H8 v bu8 B8 v0 v9 => ?_⟩
      have eD8 := bu8 _ _ neD.1 eD
      refine ⟨v, 4, rfl, rfl, _, eD8, ?_, but_put (bu7.trans bu8) nD, bag_put B8 neD, ly ++ [v - 4], ?_, ?_, ?_⟩
      · rw [List.length_map, hl7]
        exact small1000 (by omega)
      · rw [List.length_append, hl7]; rfl
      · intro z hz
        rcases List.mem_append.mp hz with y | y
        · exact hb7 z y
        · obtain rfl := List.mem_singleton.mp y; omega
      · rw [upd_same, List.map_append]; rfl
    obtain ⟨bu7, B7, ly, hl7, hb7, eD⟩ := hP
    refine ⟨D, _, rfl, .inl ⟨SqL.of eD, fun ty nty => ?_⟩⟩
    have etl7 := bu7 _ _ netl etl6
    have netyl : tl ≠ ty := ne_of_none etl7 nty
    have nety : ty ≠ b := (bag_ne B7 nty).1
    have B7' := B7.same (same_new (o := .tup (ly.map V.int)) nty)
    have ety : (upd H7 ty (.tup (ly.map V.int))) ty = some (.tup (ly.map V.int)) := upd_same
    have etl7' : (upd H7 ty (.tup (ly.map V.int))) tl = some (.tup (ls.map V.int)) := by rw [upd_ne netyl]; exact etl7
    generalize upd H7 ty (.tup (ly.map V.int)) = H8 at B7' ety etl7' ⊢
    clear bu7 B7 eD nty nD neD etl6 etl7 etl bu6 B6 B4'
    have ls1000 : ls.length ≤ 1000 := by omega
    -- bases
    refine ⟨_, rfl, _, rfl, ty, tl, ly, ls, rfl, SqT.of ety, SqT.of etl7', ls1000, fun H9 tb s9 n9 e9 => ?_⟩
    have hgap := gap_small hb7
    have hsm := bases_small (ly := ly) hgap hb (by omega)
    -- alike
    refine ⟨_, rfl, _, rfl, _, rfl, ty, tl, ly, ls, rfl, SqT.of (s9 _ _ ety), SqT.of (s9 _ _ etl7'), ls1000, fun H10 tc s10 n10 e10 => ?_⟩
    obtain ⟨a1, a2, a3, a4, a5, a6, a7, a8⟩ := alike_ints (K := K) (s10 _ _ e9) e10 hsm (by rw [bases_len]; omega)
    refine ⟨tb, tc, _, rfl, a1, a2, a3, a4, a5, a6, a7, a8, true, rfl, ?_⟩
    clear a1 a2 a3 a4 a5 a6 a7 a8
    show (if false = true then _ else _)
    rw [if_neg Bool.false_ne_true]
    have B10 := (B7'.same s9).same s10
    have ety10 := s10 _ _ (s9 _ _ ety)
    have etl10 := s10 _ _ (s9 _ _ etl7')
    have etb10 := s10 _ _ e9
    clear s9 s10 e10 e9 B7' ety etl7' n9 n10
    -- rows
    have bl : (bases ly ls).length = ls.length := bases_len ly ls
    refine ⟨_, rfl, _, rfl, tb, tl, _, _, rfl, .inr ⟨SqT.of etb10, SqT.of etl10, fun D nD => ?_⟩⟩
    have ntb := ne_of_none etb10 nD
    have ntl := ne_of_none etl10 nD
    refine lc_it (walk_zipT (K := K) (a := tb) (b := tl) (xs := (bases ly ls).map V.int) (ys := ls.map V.int) (n := ls.length) (by rw [List.length_map, bl]) (by rw [List.length_map]))
      (fun i H' => Same H10 H' ∧ ∃ rs : List (Addr × Int × Int), H' D = some (.lst (rs.map fun r => V.ref r.1)) ∧ (∀ r ∈ rs, H' r.1 = some (.tup [.int r.2.1, .int r.2.2])) ∧ rs.map (·.2) = ivs (((bases ly ls).zip ls).take i) ∧ rs.length ≤ i)
      ⟨same_new nD, [], upd_same, fun r hr => absurd hr List.not_mem_nil, rfl, Nat.le_refl _⟩ (fun i H' _ hP => ⟨SqT.of (hP.1 _ _ etb10), SqT.of (hP.1 _ _ etl10)⟩) (fun i v H11 H12 hi hP hY => ?_) (fun H11 hP => ?_)
    · obtain ⟨s11, rs, eD, er, ev, hl11⟩ := hP
      obtain ⟨t, x, y, rfl, nt, rfl, ex, ey⟩ := hY
      replace ex : ((bases ly ls).map V.int)[i]? = some x := ex
      replace ey : (ls.map V.int)[i]? = some y := ey
      rw [List.getElem?_map] at ex ey
      obtain ⟨bi, hbi, rfl⟩ := Option.map_eq_some_iff.mp ex
      obtain ⟨ni, hni, rfl⟩ := Option.map_eq_some_iff.mp ey
      have hz : ((bases ly ls).zip ls)[i]? = some (bi, ni) := by rw [List.getElem?_zip_eq_some]; exact ⟨hbi, hni⟩
      have s12 : Same H11 (upd H11 t (.tup [V.int bi, V.int ni])) := same_new nt
      refine ⟨t, _, rfl, SqT.of upd_same, rfl, _, _, rfl, _, _, rfl, rfl, rfl, ?_⟩
      generalize upd H11 t (.tup [V.int bi, V.int ni]) = H12 at s12 ⊢
      refine ⟨_, rfl, _, _, rfl, rfl, _, rfl, ite2 (fun e => ?_) (fun e => ?_)⟩
      · have e0 : 0 < ni := of_decide_eq_true e
        refine ⟨_, rfl, _, rfl, _, rfl, _, _, rfl, rfl, by show 2 ≤ sizeLine; decide, fun r nr => ?_⟩
        have eD12 := s12 _ _ eD
        have nDr : D ≠ r := ne_of_none eD12 nr
        have s13 : Same H12 (upd H12 r (.tup [V.int bi, V.int (bi + ni)])) := same_new nr
        refine ⟨_, s13 _ _ eD12, ?_, same_put ((s11.trans s12).trans s13) nD, rs ++ [(r, bi, bi + ni)], ?_, ?_, ?_, ?_⟩
        · rw [List.length_map]
          exact small1000 (by omega)
        · rw [upd_same, List.map_append]; rfl
        · intro z hz'
          have nz : z.1 ≠ D := by
            intro q
            rcases List.mem_append.mp hz' with y | y
            · have := er z y
              rw [q, eD] at this
              cases this
            · obtain rfl := List.mem_singleton.mp y
              exact nDr q.symm
          rw [upd_ne nz]
          rcases List.mem_append.mp hz' with y | y
          · exact s13 _ _ (s12 _ _ (er z y))
          · obtain rfl := List.mem_singleton.mp y
            exact upd_same
        · rw [List.map_append, ev, take_snoc hz, ivs_snoc]
          show _ ++ _ = _ ++ (if 0 < ni then _ else _)
          rw [if_pos e0]
          rfl
        · rw [List.length_append]
          show _ + 1 ≤ _
          omega
      · have e0 : ¬ 0 < ni := fun z => e (decide_eq_true z)
        refine ⟨s11.trans s12, rs, s12 _ _ eD, fun r hr' => s12 _ _ (er r hr'), ?_, by omega⟩
        rw [ev, take_snoc hz, ivs_snoc]
        show _ = _ ++ (if 0 < ni then _ else _)
        rw [if_neg e0, List.append_nil]
    obtain ⟨s11, rs, eD, er, ev, hl11⟩ := hP
    have zl : ((bases ly ls).zip ls).length = ls.length := by rw [List.length_zip, bl, Nat.min_self]
    rw [← zl, List.take_length] at ev
    -- sorted
    refine ⟨D, _, kH H11, rfl, SqL.of eD, fun x hx => ?_, fun ys p so st np => ?_⟩
    · obtain ⟨r, hr', rfl⟩ := List.mem_map.mp hx
      refine ⟨r.1, rfl, ?_⟩
      rw [kH_at (er r hr')]
      exact er r hr'
    have B11 := B10.same s11
    have etl11 := s11 _ _ etl10
    have hrow := rows_follow st.perm so er ev
    have hyl : ys.length ≤ ls.length := by
      rw [st.perm.length_eq, List.length_map]
      exact hl11
    have hat : ∀ (j : Nat) (y : V), ys[j]? = some y → ∃ t, y = .ref t ∧ H11 t = some (.tup [.int (kH H11 y).1, .int (kH H11 y).2]) := fun j y hy => by
      obtain ⟨r, hr', rfl⟩ := List.mem_map.mp (st.perm.subset (List.mem_of_getElem? hy))
      exact ⟨r.1, rfl, by rw [kH_at (er r hr')]; exact er r hr'⟩
    have s14 : Same H11 (upd H11 p (.lst ys)) := same_new np
    have eP : (upd H11 p (.lst ys)) p = some (.lst ys) := upd_same
    have B14 := B11.same s14
    have etl14 := s14 _ _ etl11
    have hat14 : ∀ (j : Nat) (y : V), ys[j]? = some y → ∃ t, y = .ref t ∧ (upd H11 p (.lst ys)) t = some (.tup [.int (kH H11 y).1, .int (kH H11 y).2]) := fun j y hy => by
      obtain ⟨t, e1, e2⟩ := hat j y hy
      exact ⟨t, e1, s14 _ _ e2⟩
    generalize upd H11 p (.lst ys) = H14 at s14 eP B14 etl14 hat14 ⊢
    -- no two meet
    refine ⟨_, rfl, p, _, rfl, .inl (SqL.of eP), 1, _, rfl, ⟨by decide, by decide, by omega, by omega⟩, fun D2 nD2 => ?_⟩
    refine lc_range (lo := 1) (n := (((ys.length : Nat) : Int) - 1).toNat) (fun i H' => Same H14 H' ∧ H' D2 = some (.lst [])) ⟨same_new nD2, upd_same⟩ (fun i H15 hi hP => ?_) (fun H15 hP => ?_)
    · obtain ⟨s15, e15⟩ := hP
      have i1 : i + 1 < ys.length := by omega
      obtain ⟨t1, et1, eh1⟩ := hat14 i ys[i] (List.getElem?_eq_getElem (by omega))
      obtain ⟨t2, et2, eh2⟩ := hat14 (i + 1) ys[i + 1] (List.getElem?_eq_getElem i1)
      have hf := hrow i _ _ (List.getElem?_eq_getElem (by omega)) (List.getElem?_eq_getElem i1)
      refine ⟨rfl, ?_⟩
      refine ⟨_, rfl, _, rfl, p, ys, 1 + (i : Int), .ref t2, rfl, rfl, SqL.of (s15 _ _ eP), ?_, t2, _, 0, _, rfl, rfl, SqT.of (s15 _ _ eh2), rfl, ?_⟩
      · rw [show (1 : Int) + (i : Int) = ((i + 1 : Nat) : Int) by omega]
        rw [← et2]
        exact atI_nat (List.getElem?_eq_getElem i1)
      refine ⟨_, rfl, _, rfl, _, _, rfl, rfl, p, ys, 1 + (i : Int) - 1, .ref t1, rfl, rfl, SqL.of (s15 _ _ eP), ?_, t1, _, 1, _, rfl, rfl, SqT.of (s15 _ _ eh1), rfl, _, _, rfl, rfl, false, ?_, ?_⟩
      · rw [show (1 : Int) + (i : Int) - 1 = ((i : Nat) : Int) by omega]
        rw [← et1]
        exact atI_nat (List.getElem?_eq_getElem (by omega))
      · show V.bl (decide ((kH H11 ys[i + 1]).1 < (kH H11 ys[i]).2)) = V.bl false
        rw [decide_eq_false (by omega)]
      · show (if false = true then _ else _)
        rw [if_neg Bool.false_ne_true]
        exact ⟨s15, e15⟩
    obtain ⟨s15, e15⟩ := hP
    refine ⟨Nat.zero_le _, fun q nq => ?_⟩
    refine ⟨.list [], .list [], .lst (SqL.of (by rw [upd_ne (ne_of_none e15 nq)]; exact e15)) .nil, .lst (SqL.of upd_same) .nil, rfl, rfl, false, rfl, ?_⟩
    show (if false = true then _ else _)
    rw [if_neg Bool.false_ne_true]
    have B16 := (B14.same s15).same (same_new (o := .lst []) nq)
    have etl16 : (upd H15 q (.lst [])) tl = some (.tup (ls.map V.int)) := by
      rw [upd_ne (ne_of_none (s15 _ _ etl14) nq)]
      exact s15 _ _ etl14
    generalize upd H15 q (.lst []) = H16 at B16 etl16 ⊢
    clear B14 etl14 hat14 eP s14 hat hrow so st er ev eD s11 etl11 B11 s15 e15
    -- gap
    refine ⟨_, rfl, b, l, cs, 6, rfl, B16, by decide, by decide, fun H17 g bu17 B17 g0 g6 => ?_⟩
    have etl17 := bu17 _ _ netl etl16
    -- apart
    refine ⟨_, rfl, _, rfl, m, g, rfl, m0, m1000, fun H18 t1 s18 n18 e18 => ?_⟩
    refine ⟨_, rfl, by show 1 ≤ sizeLine; decide, fun t0 nt0 => ⟨_, rfl, t0, m, [V.int g], rfl, rfl, SqT.of upd_same, by simp, m0, m1000, (by show 1 ≤ 1000; decide), fun H19 t2 h19 => ?_⟩⟩
    obtain ⟨s19, n19, e19⟩ := rep_one nt0 h19
    clear h19 nt0
    have er : List.replicate m.toNat (V.int g) = (List.replicate m.toNat g).map V.int := by rw [List.map_replicate]
    rw [er] at e18 e19
    obtain ⟨a1, a2, a3, a4, a5, a6, a7, a8⟩ := alike_ints (K := K) (s19 _ _ e18) e19 (fun z hz => by
      obtain rfl := (List.mem_replicate.mp hz).2
      exact log_small g0 (by omega)) (by rw [List.length_replicate]; omega)
    refine ⟨t1, t2, _, rfl, a1, a2, a3, a4, a5, a6, a7, a8, true, rfl, ?_⟩
    clear a1 a2 a3 a4 a5 a6 a7 a8
    show (if false = true then _ else _)
    rw [if_neg Bool.false_ne_true]
    have B19 := (B17.same s18).same s19
    have etl19 := s19 _ _ (s18 _ _ etl17)
    clear s19 e19 e18 s18 B17 etl17 n18 n19 bu17 B16 etl16
    -- bases, ends
    refine ⟨_, rfl, _, rfl, m, g, rfl, m0, m1000, fun H20 t3 s20 n20 e20 => ?_⟩
    have etl20 := s20 _ _ etl19
    rw [er, ← hl] at e20
    refine ⟨_, rfl, t3, tl, List.replicate ls.length g, ls, rfl, SqT.of e20, SqT.of etl20, ls1000, fun H21 tB s21 n21 e21 => ?_⟩
    have etl21 := s21 _ _ etl20
    have B21 := (B19.same s20).same s21
    have bl2 : (bases (List.replicate ls.length g) ls).length = ls.length := bases_len _ ls
    have bs2 : ∃ bs, bases (List.replicate ls.length g) ls = bs := ⟨_, rfl⟩
    obtain ⟨bs, ebs⟩ := bs2
    have hgapk : ∀ (k : Nat) (x y n n' : Int), bs[k]? = some x → bs[k + 1]? = some y → ls[k]? = some n → ls[k + 1]? = some n' → y = x + mx 0 n + g := fun k x y n n' h1 h2 h3 h4 => apart_gap g0 (by rw [ebs]; exact h1) (by rw [ebs]; exact h2) h3 h4
    rw [ebs] at e21 bl2
    refine ⟨_, rfl, _, rfl, tB, tl, _, _, rfl, .inr ⟨SqT.of e21, SqT.of etl21, fun D3 nD3 => ?_⟩⟩
    refine lc_it (walk_zipT (K := K) (a := tB) (b := tl) (xs := bs.map V.int) (ys := ls.map V.int) (n := ls.length) (by rw [List.length_map, bl2]) (by rw [List.length_map]))
      (fun i H' => Same H21 H' ∧ H' D3 = some (.lst (((bs.zip ls).take i).map fun p => V.int (p.1 + mx 0 p.2))))
      ⟨same_new nD3, upd_same⟩ (fun i H' _ hP => ⟨SqT.of (hP.1 _ _ e21), SqT.of (hP.1 _ _ etl21)⟩) (fun i v H22 H23 hi hP hY => ?_) (fun H22 hP => ?_)
    · obtain ⟨s22, e22⟩ := hP
      obtain ⟨t, x, y, rfl, nt, rfl, ex, ey⟩ := hY
      replace ex : (bs.map V.int)[i]? = some x := ex
      replace ey : (ls.map V.int)[i]? = some y := ey
      rw [List.getElem?_map] at ex ey
      obtain ⟨bi, hbi, rfl⟩ := Option.map_eq_some_iff.mp ex
      obtain ⟨ni, hni, rfl⟩ := Option.map_eq_some_iff.mp ey
      have hz : (bs.zip ls)[i]? = some (bi, ni) := by rw [List.getElem?_zip_eq_some]; exact ⟨hbi, hni⟩
      have s23 : Same H22 (upd H22 t (.tup [V.int bi, V.int ni])) := same_new nt
      refine ⟨t, _, rfl, SqT.of upd_same, rfl, _, _, rfl, _, _, rfl, rfl, rfl, ?_⟩
      generalize upd H22 t (.tup [V.int bi, V.int ni]) = H23 at s23 ⊢
      refine kept ?_
      refine ⟨_, rfl, _, rfl, _, _, rfl, _, _, rfl, rfl, _, s23 _ _ e22, ?_, same_put (s22.trans s23) nD3, ?_⟩
      · rw [List.length_map, List.length_take, List.length_zip, bl2]
        exact Nat.lt_of_le_of_lt (Nat.min_le_right _ _) (small1000 (by omega))
      · rw [upd_same, take_snoc hz, List.map_append]
        rfl
    obtain ⟨s22, e22⟩ := hP
    have zl2 : (bs.zip ls).length = ls.length := by rw [List.length_zip, bl2, Nat.min_self]
    rw [← zl2, List.take_length] at e22
    have eB22 := s22 _ _ e21
    have B22 := B21.same s22
    -- the ends and the gap
    refine ⟨_, rfl, 1, m, rfl, ⟨by decide, by decide, by omega, by omega⟩, fun D4 nD4 => ?_⟩
    refine lc_range (lo := 1) (n := (m - 1).toNat) (fun i H' => Same H22 H' ∧ H' D4 = some (.lst [])) ⟨same_new nD4, upd_same⟩ (fun i H24 hi hP => ?_) (fun H24 hP => ?_)
    · obtain ⟨s24, e24⟩ := hP
      have i1 : i + 1 < ls.length := by omega
      have gx : bs[i]? = some bs[i] := List.getElem?_eq_getElem (by omega)
      have gy : bs[i + 1]? = some bs[i + 1] := List.getElem?_eq_getElem (by omega)
      have gn : ls[i]? = some ls[i] := List.getElem?_eq_getElem (by omega)
      have gn' : ls[i + 1]? = some ls[i + 1] := List.getElem?_eq_getElem i1
      have hk := hgapk i _ _ _ _ gx gy gn gn'
      have hz : (bs.zip ls)[i]? = some (bs[i], ls[i]) := by rw [List.getElem?_zip_eq_some]; exact ⟨gx, gn⟩
      refine ⟨rfl, ?_⟩
      refine ⟨_, rfl, _, rfl, tB, _, 1 + (i : Int), .int bs[i + 1], rfl, rfl, SqT.of (s24 _ _ eB22), ?_, ?_⟩
      · rw [show (1 : Int) + (i : Int) = ((i + 1 : Nat) : Int) by omega]
        exact atI_nat (by rw [List.getElem?_map, gy]; rfl)
      refine ⟨_, rfl, _, rfl, _, _, rfl, rfl, D3, _, 1 + (i : Int) - 1, .int (bs[i] + mx 0 ls[i]), rfl, rfl, SqL.of (s24 _ _ e22), ?_, _, rfl, _, _, rfl, rfl, rfl, false, ?_, ?_⟩
      · rw [show (1 : Int) + (i : Int) - 1 = ((i : Nat) : Int) by omega]
        exact atI_nat (by rw [List.getElem?_map, hz]; rfl)
      · rw [hk, decide_eq_true rfl]
        rfl
      · show (if false = true then _ else _)
        rw [if_neg Bool.false_ne_true]
        exact ⟨s24, e24⟩
    obtain ⟨s24, e24⟩ := hP
    refine ⟨Nat.zero_le _, fun q2 nq2 => ?_⟩
    refine ⟨.list [], .list [], .lst (SqL.of (by rw [upd_ne (ne_of_none e24 nq2)]; exact e24)) .nil, .lst (SqL.of upd_same) .nil, rfl, rfl, false, rfl, ?_⟩
    show (if false = true then _ else _)
    rw [if_neg Bool.false_ne_true]
    exact ⟨_, _, _, _, _, _, _, _, rfl, (B22.same s24).same (same_new nq2)⟩
end
end K76

namespace K76
open PySem L2 R76
/-! ### what the top has written -/
theorem all_mk {l : PySem.W.OpenLaw} {w : World} {K : PySem.W.Frag} {h : Heap} {mg : Str → Option Value} {fa C fGt fTk fSm fAl fPl fPd fAp fI fB fP fL : Addr} (X : K.In h) (G : h.Ns mainGlobals mg) (hfa : mg "law" = some (.ref fa))
    {od0 an0 od1 an1 od2 an2 od3 an3 od4 an4 od5 an5 od6 an6 od7 an7 od8 an8 od9 an9 od10 an10 : Option Addr} {sl0 sl1 sl2 sl3 sl4 sl5 sl6 sl7 sl8 sl9 sl10 : Array (Option Value)} {oc0 kV0 dc0 pm0 cd0 ct0 oc1 kV1 dc1 pm1 cd1 ct1 oc2 kV2 dc2 pm2 cd2 ct2 oc3 kV3 dc3 pm3 cd3 ct3 oc4 kV4 dc4 pm4 cd4 ct4 oc5 kV5 dc5 pm5 cd5 ct5 oc6 kV6 dc6 pm6 cd6 ct6 oc7 kV7 dc7 pm7 cd7 ct7 oc8 kV8 dc8 pm8 cd8 ct8 oc9 kV9 dc9 pm9 cd9 ct9 oc10 kV10 dc10 pm10 cd10 ct10 : Value}
    (aC : PySem.W.nsIn K mainGlobals "Ground" = some (some (.ref C)))
    (a0 : PySem.W.nsIn K mainGlobals "_law_bag" = some (some (.ref fGt)))
    (l0 : K.lookup fGt = some ⟨oc0, od0, .func (PySem.W.fnOf "_law_bag" "_law_bag" (defArgs sBag) (defBody sBag) (defScope sBag) .none kV0 dc0 pm0 an0 cd0 ct0), sl0⟩) (c0 : PySem.W.codeIn K cd0 "_law_bag" = true) (k0 : PySem.W.keepIn K (.ref fGt) = true)
    (a1 : PySem.W.nsIn K mainGlobals "_law_take" = some (some (.ref fTk)))
    (l1 : K.lookup fTk = some ⟨oc1, od1, .func (PySem.W.fnOf "_law_take" "_law_take" (defArgs sTake) (defBody sTake) (defScope sTake) .none kV1 dc1 pm1 an1 cd1 ct1), sl1⟩) (c1 : PySem.W.codeIn K cd1 "_law_take" = true) (k1 : PySem.W.keepIn K (.ref fTk) = true)
    (a2 : PySem.W.nsIn K mainGlobals "_law_some" = some (some (.ref fSm)))
    (l2 : K.lookup fSm = some ⟨oc2, od2, .func (PySem.W.fnOf "_law_some" "_law_some" (defArgs sSome) (defBody sSome) (defScope sSome) .none kV2 dc2 pm2 an2 cd2 ct2), sl2⟩) (c2 : PySem.W.codeIn K cd2 "_law_some" = true) (k2 : PySem.W.keepIn K (.ref fSm) = true)
    (a3 : PySem.W.nsIn K mainGlobals "_law_alike" = some (some (.ref fAl)))
    (l3 : K.lookup fAl = some ⟨oc3, od3, .func (PySem.W.fnOf "_law_alike" "_law_alike" (defArgs sAlike) (defBody sAlike) (defScope sAlike) .none kV3 dc3 pm3 an3 cd3 ct3), sl3⟩) (c3 : PySem.W.codeIn K cd3 "_law_alike" = true) (k3 : PySem.W.keepIn K (.ref fAl) = true)
    (a4 : PySem.W.nsIn K mainGlobals "_law_placed" = some (some (.ref fPl)))
    (l4 : K.lookup fPl = some ⟨oc4, od4, .func (PySem.W.fnOf "_law_placed" "_law_placed" (defArgs sPl) (defBody sPl) (defScope sPl) .none kV4 dc4 pm4 an4 cd4 ct4), sl4⟩) (c4 : PySem.W.codeIn K cd4 "_law_placed" = true) (k4 : PySem.W.keepIn K (.ref fPl) = true)
    (a5 : PySem.W.nsIn K mainGlobals "placed" = some (some (.ref fPd)))
    (l5 : K.lookup fPd = some ⟨oc5, od5, .func (PySem.W.fnOf "placed" "placed" (defArgs sPlaced) (defBody sPlaced) (defScope sPlaced) .none kV5 dc5 pm5 an5 cd5 ct5), sl5⟩) (c5 : PySem.W.codeIn K cd5 "placed" = true) (k5 : PySem.W.keepIn K (.ref fPd) = true)
    (a6 : PySem.W.nsIn K mainGlobals "apart" = some (some (.ref fAp)))
    (l6 : K.lookup fAp = some ⟨oc6, od6, .func (PySem.W.fnOf "apart" "apart" (defArgs sApart) (defBody sApart) (defScope sApart) .none kV6 dc6 pm6 an6 cd6 ct6), sl6⟩) (c6 : PySem.W.codeIn K cd6 "apart" = true) (k6 : PySem.W.keepIn K (.ref fAp) = true)
    (a7 : PySem.W.findIn K (.ref C) "__init__" = some (some (.ref fI))) (i7 : PySem.W.isFn K (.ref fI) = true)
    (l7 : K.lookup fI = some ⟨oc7, od7, .func (PySem.W.fnOf "__init__" "Ground.__init__" (defArgs sInit) (defBody sInit) (defScope sInit) .none kV7 dc7 pm7 an7 cd7 ct7), sl7⟩) (c7 : PySem.W.codeIn K cd7 "Ground.__init__" = true) (k7 : PySem.W.keepIn K (.ref fI) = true)
    (a8 : PySem.W.findIn K (.ref C) "base_for" = some (some (.ref fB))) (i8 : PySem.W.isFn K (.ref fB) = true)
    (l8 : K.lookup fB = some ⟨oc8, od8, .func (PySem.W.fnOf "base_for" "Ground.base_for" (defArgs sBase) (defBody sBase) (defScope sBase) .none kV8 dc8 pm8 an8 cd8 ct8), sl8⟩) (c8 : PySem.W.codeIn K cd8 "Ground.base_for" = true) (k8 : PySem.W.keepIn K (.ref fB) = true)
    (a9 : PySem.W.findIn K (.ref C) "place" = some (some (.ref fP))) (i9 : PySem.W.isFn K (.ref fP) = true)
    (l9 : K.lookup fP = some ⟨oc9, od9, .func (PySem.W.fnOf "place" "Ground.place" (defArgs sPlace) (defBody sPlace) (defScope sPlace) .none kV9 dc9 pm9 an9 cd9 ct9), sl9⟩) (c9 : PySem.W.codeIn K cd9 "Ground.place" = true) (k9 : PySem.W.keepIn K (.ref fP) = true)
    (a10 : PySem.W.nsIn K mainGlobals "law" = some (some (.ref fL)))
    (l10 : K.lookup fL = some ⟨oc10, od10, .func (PySem.W.fnOf "law" "law" (defArgs sLaw) (defBody sLaw) (defScope sLaw) .none kV10 dc10 pm10 an10 cd10 ct10), sl10⟩) (c10 : PySem.W.codeIn K cd10 "law" = true) (k10 : PySem.W.keepIn K (.ref fL) = true)
    (pg : PySem.W.plainGet K C Str.empty = true) (hd : PySem.W.hasDictIn K C = true) (po : PySem.W.plainOver K C = true) (sa : PySem.W.findIn K (.ref C) "__setattr__" = some (some (.builtin "object.__setattr__"))) (mk : PySem.W.makesIn K C = true) (kc : PySem.W.keepIn K (.ref C) = true)
    (nL : PySem.W.findIn K (.ref C) "layout" = some none)
    (nM : PySem.W.findIn K (.ref C) "many" = some none)
    (nB : PySem.W.findIn K (.ref C) "bottom" = some none)
    (nT : PySem.W.findIn K (.ref C) "top" = some none)
    (zint : PySem.W.nsIn K mainGlobals "int" = some none)
    (zabs : PySem.W.nsIn K mainGlobals "abs" = some none)
    (zlen : PySem.W.nsIn K mainGlobals "len" = some none)
    (zmax : PySem.W.nsIn K mainGlobals "max" = some none)
    (zmin : PySem.W.nsIn K mainGlobals "min" = some none)
    (ztuple : PySem.W.nsIn K mainGlobals "tuple" = some none)
    (zrange : PySem.W.nsIn K mainGlobals "range" = some none)
    (zrepr : PySem.W.nsIn K mainGlobals "repr" = some none)
    (zenumerate : PySem.W.nsIn K mainGlobals "enumerate" = some none)
    (zsorted : PySem.W.nsIn K mainGlobals "sorted" = some none)
    (zzip : PySem.W.nsIn K mainGlobals "zip" = some none)
    : ∃ fd : FuncData, (∀ (s : Shared) (v : Value), BindsTo s fd ⟨[v], []⟩ [("script", v)]) ∧ ∀ base : Heap, K.In base → base.Ns mainGlobals mg → FnG l.prog w K mg base 4 fa fd ["script"] (spLaw K) := by
  have e := hfa.symm.trans (PySem.W.mg_of X G a10)
  cases e
  have B : Blt mg := ⟨PySem.W.mg_none_of X G zint, PySem.W.mg_none_of X G zabs, PySem.W.mg_none_of X G zlen, PySem.W.mg_none_of X G zmax, PySem.W.mg_none_of X G zmin, PySem.W.mg_none_of X G ztuple, PySem.W.mg_none_of X G zrange, PySem.W.mg_none_of X G zrepr, PySem.W.mg_none_of X G zenumerate, PySem.W.mg_none_of X G zsorted, PySem.W.mg_none_of X G zzip⟩
  have T : Cl K mg C := ⟨⟨pg, hd, po, sa⟩, nL, nM, nB, nT, PySem.W.mg_of X G aC⟩
  have F0 := fun_mk (st := sBag) l0 c0 k0
  have b0 := F0.binds (ps := ["script"]) fun _ _ _ _ _ _ us hl => match us, hl with | [_], _ => rfl
  have F1 := fun_mk (st := sTake) l1 c1 k1
  have b1 := F1.binds (ps := ["bag", "many"]) fun _ _ _ _ _ _ us hl => match us, hl with | [_, _], _ => rfl
  have F2 := fun_mk (st := sSome) l2 c2 k2
  have b2 := F2.binds (ps := ["bag", "things"]) fun _ _ _ _ _ _ us hl => match us, hl with | [_, _], _ => rfl
  have F3 := fun_mk (st := sAlike) l3 c3 k3
  have b3 := F3.binds (ps := ["found", "due"]) fun _ _ _ _ _ _ us hl => match us, hl with | [_, _], _ => rfl
  have F4 := fun_mk (st := sPl) l4 c4 k4
  have b4 := F4.binds (ps := ["layout", "lengths"]) fun _ _ _ _ _ _ us hl => match us, hl with | [_, _], _ => rfl
  have F5 := fun_mk (st := sPlaced) l5 c5 k5
  have b5 := F5.binds (ps := ["layout", "lengths"]) fun _ _ _ _ _ _ us hl => match us, hl with | [_, _], _ => rfl
  have F6 := fun_mk (st := sApart) l6 c6 k6
  have b6 := F6.binds (ps := ["many", "gap"]) fun _ _ _ _ _ _ us hl => match us, hl with | [_, _], _ => rfl
  have F7 := fun_mk (st := sInit) l7 c7 k7
  have b7 := F7.binds (ps := ["self", "layout"]) fun _ _ _ _ _ _ us hl => match us, hl with | [_, _], _ => rfl
  have F8 := fun_mk (st := sBase) l8 c8 k8
  have b8 := F8.binds (ps := ["self", "length"]) fun _ _ _ _ _ _ us hl => match us, hl with | [_, _], _ => rfl
  have F9 := fun_mk (st := sPlace) l9 c9 k9
  have b9 := F9.binds (ps := ["self", "length"]) fun _ _ _ _ _ _ us hl => match us, hl with | [_, _], _ => rfl
  exact ⟨PySem.W.fnOf "law" "law" (defArgs sLaw) (defBody sLaw) (defScope sLaw) .none kV10 dc10 pm10 an10 cd10 ct10, fun s v => .of_eq rfl, fun base _ _ =>
    ok_law (fun_mk (st := sLaw) l10 c10 k10) B T F0 b0 (PySem.W.mg_of X G a0) F1 b1 (PySem.W.mg_of X G a1) F2 b2 (PySem.W.mg_of X G a2) F3 b3 (PySem.W.mg_of X G a3) F4 b4 (PySem.W.mg_of X G a4) F5 b5 (PySem.W.mg_of X G a5) F6 b6 (PySem.W.mg_of X G a6) ⟨mk, a7, i7, kc⟩ F7 b7 F8 b8 ⟨a8, i8, k8⟩ F9 b9 ⟨a9, i9, k9⟩⟩
end K76
open PySem PySem.W PyProof.Rows in
set_option maxRecDepth 100000 in
set_option maxHeartbeats 0 in
theorem PySem.Challenge.cw_piecedruns_k76_areas_never_meet_holds : PySem.Challenge.rw_piecedruns_k76_areas_never_meet.Holds := by
  w_on; o_law; k_head; (case hw => w_witness2)
  k_fill
  refine R76.walk_ofG (l := PySem.Challenge.rw_piecedruns_k76_areas_never_meet) (n := 63) (k := 4) (x := "script") (sp := fun w => K76.spLaw _) rfl (by decide) rfl ⟨rfl, by decide, by decide⟩ (fun w h Y => PySem.W.kIn_of Y) ?F (fun _ _ a ns hl _ hS => ⟨a, ns, rfl, hS, hl, fun _ => rfl⟩)
  case F =>
    intro w mg fa h KX G hmg
    refine' K76.all_mk KX G hmg ?aC ?a0 ?l0 ?c0 ?k0 ?a1 ?l1 ?c1 ?k1 ?a2 ?l2 ?c2 ?k2 ?a3 ?l3 ?c3 ?k3 ?a4 ?l4 ?c4 ?k4 ?a5 ?l5 ?c5 ?k5 ?a6 ?l6 ?c6 ?k6 ?a7 ?i7 ?l7 ?c7 ?k7 ?a8 ?i8 ?l8 ?c8 ?k8 ?a9 ?i9 ?l9 ?c9 ?k9 ?a10 ?l10 ?c10 ?k10 ?pg ?hd ?po ?sa ?mk ?kc ?nL ?nM ?nB ?nT ?zint ?zabs ?zlen ?zmax ?zmin ?ztuple ?zrange ?zrepr ?zenumerate ?zsorted ?zzip
    (case aC => k_is)
    (case a0 => k_is)
    (case l0 => k_is)
    (case c0 => k_is)
    (case k0 => k_is)
    (case a1 => k_is)
    (case l1 => k_is)
    (case c1 => k_is)
    (case k1 => k_is)
    (case a2 => k_is)
    (case l2 => k_is)
    (case c2 => k_is)
    (case k2 => k_is)
    (case a3 => k_is)
    (case l3 => k_is)
    (case c3 => k_is)
    (case k3 => k_is)
    (case a4 => k_is)
    (case l4 => k_is)
    (case c4 => k_is)
    (case k4 => k_is)
    (case a5 => k_is)
    (case l5 => k_is)
    (case c5 => k_is)
    (case k5 => k_is)
    (case a6 => k_is)
    (case l6 => k_is)
    (case c6 => k_is)
    (case k6 => k_is)
    (case a7 => k_is)
    (case i7 => k_is)
    (case l7 => k_is)
    (case c7 => k_is)
    (case k7 => k_is)
    (case a8 => k_is)
    (case i8 => k_is)
    (case l8 => k_is)
    (case c8 => k_is)
    (case k8 => k_is)
    (case a9 => k_is)
    (case i9 => k_is)
    (case l9 => k_is)
    (case c9 => k_is)
    (case k9 => k_is)
    (case a10 => k_is)
    (case l10 => k_is)
    (case c10 => k_is)
    (case k10 => k_is)
    (case pg => k_is)
    (case hd => k_is)
    (case po => k_is)
    (case sa => k_is)
    (case mk => k_is)
    (case kc => k_is)
    (case nL => k_is)
    (case nM => k_is)
    (case nB => k_is)
    (case nT => k_is)
    (case zint => k_is)
    (case zabs => k_is)
    (case zlen => k_is)
    (case zmax => k_is)
    (case zmin => k_is)
    (case ztuple => k_is)
    (case zrange => k_is)
    (case zrepr => k_is)
    (case zenumerate => k_is)
    (case zsorted => k_is)
    (case zzip => k_is)

