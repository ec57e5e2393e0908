import PyProof.Rows.All
import Wide.All
import OpenK.AllK
import Wide.FinOn
import HandS.ForMost
import HandS.ForExc
import HandS.Conv
import HandS.Deep
import HandS.TupAny
import HandS.TupMul
import HandS.Zip
import HandS.IsInst
import KE.KDictKeyed
import KE.SortData
import KE.DataCmp
import HandS.Strs
import HandS.SortOrd
import HandS.Style
import KE.DataEq
import KE.DataFind
import KE.DataIsa
import HandS.Flow
import HandS.Defaults
import HandS.Dict
import HandS.List
import HandS.TupSets
import KE.GoesEnum
import HandS.TryOnly
import HandS.TryMany
import HandS.Comp
import KE.KRevSl
import HandS.HeadEnd
import HandS.Head2
import HandS.HeadHook2
import PySem.Challenge.RW_lostorder_k01_bundles_and_orders_recogni
set_option Elab.async false
set_option linter.all false
set_option maxRecDepth 100000
set_option maxHeartbeats 8000000
section
namespace DL
open PySem PySem.Spec PyProof.Rows L2

/-! tuples whose object is known: methods may be looked up on them -/
def SqF (K : PySem.W.Frag) (H : Hp) (a : Addr) (xs : List V) : Prop :=
  (∃ o, H a = some (.frz o (.tup xs)) ∧ o.dict = none) ∨ (SqT K (fun _ => none) a xs ∧ ∃ o, K.lookup a = some o ∧ o.dict = none)
theorem SqF.sqT {K : PySem.W.Frag} {H : Hp} {a : Addr} {xs : List V} (h : SqF K H a xs) : SqT K H a xs := by
  rcases h with ⟨o, h, _⟩ | ⟨h, _⟩
  · exact .inl (.inr ⟨o, h⟩)
  · rcases h with (h | ⟨o, h⟩) | h
    · cases h
    · cases h
    · exact .inr h
section
variable {X : Cx} {pins : List (Addr × Obj)} {σ : L2.St} {H : Hp} {s : Shared}
theorem SqF.noDict {a : Addr} {xs : List V} (h : SqF X.K H a xs) (I : Inv X pins σ H s) : ∃ ob, s.heap.get? a = some ob ∧ ob.dict = none := by
  rcases h with ⟨o, h, hd⟩ | ⟨_, o, h, hd⟩
  · exact ⟨o, (I.hok a _ h).1, hd⟩
  · exact ⟨o, I.kIn a o h, hd⟩
/-- the object of a new tuple -/
abbrev tob (its : List Value) : Obj := { cls := .type "tuple", data := .seq its.toArray }
/-- Q at the new tuple -/
def NewT (H : Hp) (Q : VK) (xs : List V) : Prop := ∀ (p : Addr) (o : Obj), o.dict = none → H p = none → Q (.ref p) (upd H p (.frz o (.tup xs)))
theorem NewT.ep {tk : Nat} {its : List Value} {xs : List V} {Q : VK} (q : NewT H Q xs) (I : Inv X pins σ H s) (hz : xs.length ≤ sizeLine) (r : Vals xs its) :
    EP X pins σ Q (.ref s.heap.objs.size) { s with heap := s.heap.push (tob its), toks := tk } := by
  have e : (s.heap.push (tob its)).get? s.heap.objs.size = some (tob its) := Heap.get?_push_size _ rfl
  have new : ObjOk X.prog X.w (upd H s.heap.objs.size (.frz (tob its) (.tup xs))) (s.heap.push (tob its)) s.heap.objs.size (.frz (tob its) (.tup xs)) := ⟨e, hz, its, r, ⟨_, e, rfl, _, rfl⟩⟩
  exact ⟨V.ref s.heap.objs.size, _, I.laid (t' := tk) (fun _ _ z => Heap.get?_push_of_some _ z) (Nat.le_refl _) new, rfl, q _ _ rfl (I.hok.fresh (Nat.le_refl _))⟩

/-! making them -/
def tTupF (t : TA) : TE := fun σ H Q => t σ H fun xs H1 => xs.length ≤ sizeLine ∧ NewT H1 Q xs
theorem pe_tupF {es : List Expr} {n : Nat} {pos : Pos} {t : TA} (h : PA X es t) : PE X (.Tuple es n pos) (tTupF t) :=
  ⟨fun pins s σ H Q I hq => wpAny_Tuple_spliced (thn (h.run pos pins s σ H _ I hq) fun us s1 ⟨xs, H1, I1, r, z, q⟩ => ⟨by rw [← r.length]; exact z, q.ep (tk := s1.toks) I1 z r⟩)⟩
/-- t + u -/
def rCatF (K : PySem.W.Frag) : R2 := fun x y H Q => ∃ a b xs ys, x = .ref a ∧ y = .ref b ∧ SqT K H a xs ∧ SqT K H b ys ∧ xs.length + ys.length ≤ sizeLine ∧
  (xs = [] → Q y H) ∧ (ys = [] → Q x H) ∧ NewT H Q (xs ++ ys)
theorem op_catF : OpR X (binaryOp .Add) (rCatF X.K) := by
  rintro pins s σ H x y v u Q I rx ry ⟨a, b, xs, ys, rfl, rfl, ha, hb, hz, q0, q1, q2⟩
  cases rx; cases ry
  obtain ⟨its, r1, p1, _⟩ := I.tuple ha
  obtain ⟨ws, r2, p2, _⟩ := I.tuple hb
  by_cases hx : its = []
  · subst hx
    cases r1
    exact L2.cat_tup0 p1 p2 ⟨.ref b, H, I, rfl, q0 rfl⟩
  · refine HT.cat_tup p1 p2 hx (fun z => ⟨.ref a, H, I, rfl, q1 (r2.nil_iff.mp z)⟩) (fun _ => q2.ep (tk := s.toks) I (by rw [List.length_append]; exact hz) (r1.append r2)) (by rw [← r1.length, ← r2.length]; exact hz)
/-- t[lo:hi] -/
def rSlF (K : PySem.W.Frag) : V → Option Int → Option Int → Hp → VK → Prop := fun x lo hi H Q => ∃ a xs, x = .ref a ∧ SqT K H a xs ∧ (cutV xs lo hi = xs → Q x H) ∧ NewT H Q (cutV xs lo hi)
theorem sl_tupF : SlR X (rSlF X.K) := by
  rintro pins s σ H x v vl vu lo hi sl Q I rx hs pl pu ⟨a, xs, rfl, hx, q1, q2⟩
  cases rx
  obtain ⟨its, r, ht, hz⟩ := I.tuple hx
  have hn : its.toArray.size = xs.length := by rw [List.size_toArray]; exact r.length.symm
  refine ⟨"tuple", _, PyProof.Rows.slot_tuple_getitem.lookup, ht.typeIs, ?_⟩
  by_cases hw : HT.sIx xs.length 0 lo = 0 ∧ HT.sIx xs.length xs.length hi = xs.length
  · refine L2.getItem_tuple_whole ht hs pl pu (by rw [hn]; exact hw) ⟨.ref a, H, I, rfl, q1 ?_⟩
    unfold cutV
    rw [hw.1, hw.2, List.drop_zero, Nat.sub_zero, List.take_length]
  · refine HT.getItem_tuple_cut ht hs pl pu (by rw [hn]; exact hw) ?_ (by rw [hn]; exact hz)
    rw [hn]
    exact q2.ep (tk := s.toks) I (Nat.le_trans (cutV_length xs lo hi) hz) ((r.drop _).take _)
/-- tuple(xs) -/
theorem call_tupleF : CallR X (.type "tuple") (fun xs H Q => ∃ p ys, xs = [.ref p] ∧ ((SqL X.K H p ys ∧ NewT H Q ys) ∨ (SqT X.K H p ys ∧ Q (.ref p) H))) := by
  rintro pins s σ H xs us Q I r ⟨p, ys, rfl, h⟩
  obtain ⟨u, rfl, rx⟩ := vals1 r
  cases rx
  rcases h with ⟨hq, q⟩ | ⟨hq, q⟩
  · obtain ⟨its, r', pl, hz⟩ := I.list hq
    refine call_tuple_list pl.isList (fun h' kp => ?_) (by rw [List.size_toArray, ← r'.length]; exact hz)
    exact q.ep (s := { s with heap := h' }) (tk := s.toks) (I.kept (t' := s.toks) kp) hz r'
  · obtain ⟨its, r', pl, hz⟩ := I.tuple hq
    exact call_tuple_same pl ⟨.ref p, H, I, rfl, q⟩
/-- tuple(range(..)) -/
def tTupRgF (te : L2.St → Hp → (Int → Int → Hp → Prop) → Prop) : TE := fun σ H Q => te σ H fun a b H1 => RgOk a b ∧ NewT H1 Q (rgV a b)
theorem pe_tupRgF {p pos : Pos} {e : Expr} {te : L2.St → Hp → (Int → Int → Hp → Prop) → Prop} (hc : X.calm = true) (hg : Gl X "tuple") (hm : X.mg "tuple" = none) (he : PRg X e te) (na : starEach [e] X.env = (false, eval e X.env) :: starEach [] X.env) : PE X (.Call (.Name "tuple" p) [e] [] pos) (tTupRgF te) := by
  refine ⟨fun pins s σ H Q I h => Call_ (ld_blt I hg hm boot_tuple (PyProof.Rows.callWith_type1 (args_cons (thn (he pins s σ H _ I h) fun x s1 ⟨r, a, b, t, u, v, H1, ex, hr, I1, ok, q⟩ => args_nil ?_) na) na))⟩
  obtain ⟨b1, b2, b3, b4, b5⟩ := ok
  subst ex
  refine call_tuple_range (n := (b - a).toNat) (I1.ok.hd hc) hr (small_one b1 b2 b3 b4) (rangeSize_nat a b) b5 fun h' tk acc hk hi => ?_
  have := q.ep (s := { s1 with heap := h', toks := tk }) (tk := tk) (its := acc.toList) (I1.kept hk) (by rw [rgV_length, sizeLine_eq]; omega) (vals_rg hi)
  rw [tob, Array.toArray_toList] at this
  exact this
/-- t * n -/
def rRepF (K : PySem.W.Frag) : R2 := fun x y H Q => ∃ l k xs, x = .ref l ∧ y = .int k ∧ SqT K H l xs ∧ xs ≠ [] ∧ 2 ≤ k ∧ k ≤ 1000 ∧ xs.length ≤ 1000 ∧ NewT H Q (List.replicate k.toNat xs).flatten
theorem op_repF : OpR X (binaryOp .Mult) (rRepF X.K) := by
  rintro pins s σ H x y v u Q I rx ry ⟨l, k, xs, rfl, rfl, hT, hne, h1, h2, hz, q⟩
  cases rx
  obtain ⟨t, rfl⟩ := ry
  obtain ⟨its, r, ⟨⟨cls, dd, data, sl⟩, ho, hc, n, hd⟩, hs⟩ := I.tuple hT
  simp only at hc hd
  subst hc hd
  have hle : its.length = xs.length := r.length.symm
  have hn : its ≠ [] := fun e => hne (r.nil_iff.mp e)
  have hsz0 : its.toArray.size = xs.length := by rw [List.size_toArray, hle]
  have hm : ((its.toArray.size : Nat) : Int) * k ≤ 1000000 := by
    rw [hsz0]
    exact Int.le_trans (Int.mul_le_mul_of_nonneg_right (by omega : ((xs.length : Nat) : Int) ≤ 1000) (by omega)) (by omega)
  have vlen : (List.replicate k.toNat xs).flatten.length ≤ sizeLine := by
    rw [PyProof.Rows.lm_len_rep_flat, sizeLine_eq]
    exact Nat.le_trans (Nat.mul_le_mul (by omega : k.toNat ≤ 1000) hz) (by omega)
  have flen : (List.replicate k.toNat its).flatten.length ≤ sizeLine := by
    rw [PyProof.Rows.lm_len_rep_flat] at vlen ⊢
    rw [hle]; exact vlen
  have hi : its.toArray.isEmpty = false := by
    cases its with
    | nil => exact absurd rfl hn
    | cons a b => rfl
  have c0 : (decide (k < -(2 ^ 63)) || decide (k ≥ 2 ^ 63)) = false := by simp; omega
  have c1 : (its.toArray.isEmpty || k == 1) = false := by rw [hi]; simp; omega
  have c2 : (decide (k ≤ 0) || its.toArray.isEmpty) = false := by rw [hi]; simp; omega
  have c4 : Builtin.Tuple.tupleTooMany (((its.toArray.size : Nat) : Int) * k) = false := by
    unfold Builtin.Tuple.tupleTooMany
    rw [sizeLine_eq]
    exact decide_eq_false (by omega)
  refine wpAny_binaryOp_repeat_ref (T := "tuple") (U := "int") (by decide) ⟨_, ho, rfl⟩ (fun s' => typeIs_int s' k t) L2.noFill_tuple_mul PySem.F.fills_int_mul PySem.F.slot_int_rmul L2.repeat_tuple PySem.F.slot_int_index.lookup
    (call_meets PySem.F.slot_int_rmul (typeIs_int s k t) PySem.F.entry_int_rmul (PySem.F.args_int_rmul_2 _ _) (L2.int_rmul_tuple k t l its.toArray n dd sl)
      ⟨ho, rfl, ⟨_, ho, rfl⟩, call_meets PySem.F.slot_tuple_mul ⟨_, ho, rfl⟩ PySem.F.entry_tuple_mul (PySem.F.args_tuple_mul_2 _ _) (L2.tuple_mulW l its.toArray n dd sl k t c0 c1 c2 (by omega) c4 (by rw [L2.size_rep, List.size_toArray]; exact flen)) ⟨ho, ?_⟩⟩)
  rw [L2.size_rep]
  exact q.ep (tk := s.toks) I vlen (r.rep k.toNat)

theorem tuple_mul1 (l : Addr) (items : Array Value) (n : Nat) (dd : Option Addr) (sl : Array (Option Value)) (u : Tok) :
    Meets (Builtin.«tuple.__mul__» ⟨[.ref l, .int 1 u], []⟩) (fun _ R s => s.heap.get? l = some { cls := .type "tuple", dict := dd, data := .seq items n, slots := sl } ∧ R (.ok (.ret (Value.ref l))) s) :=
  .of_wp fun prog w A R s h => by
    obtain ⟨hp, g, d, tk, os⟩ := s
    obtain ⟨hl, h⟩ := h
    have f1 := AutoSeq1.idx_int
    wp_walk using wpAny_loadPart' hl
    exact ⟨_, rfl, h⟩
/-- t * 1 -/
theorem op_rep1 : OpR X (binaryOp .Mult) (fun x y H Q => ∃ l xs, x = .ref l ∧ y = .int 1 ∧ SqT X.K H l xs ∧ Q x H) := by
  rintro pins s σ H x y v u Q I rx ry ⟨l, xs, rfl, rfl, hT, q⟩
  cases rx
  obtain ⟨t, rfl⟩ := ry
  obtain ⟨its, r, ⟨⟨cls, dd, data, sl⟩, ho, hc, n, hd⟩, hs⟩ := I.tuple hT
  simp only at hc hd
  subst hc hd
  exact wpAny_binaryOp_repeat_ref (T := "tuple") (U := "int") (by decide) ⟨_, ho, rfl⟩ (fun s' => typeIs_int s' 1 t) L2.noFill_tuple_mul PySem.F.fills_int_mul PySem.F.slot_int_rmul L2.repeat_tuple PySem.F.slot_int_index.lookup
    (call_meets PySem.F.slot_int_rmul (typeIs_int s 1 t) PySem.F.entry_int_rmul (PySem.F.args_int_rmul_2 _ _) (L2.int_rmul_tuple 1 t l its.toArray n dd sl)
      ⟨ho, rfl, ⟨_, ho, rfl⟩, call_meets PySem.F.slot_tuple_mul ⟨_, ho, rfl⟩ PySem.F.entry_tuple_mul (PySem.F.args_tuple_mul_2 _ _) (tuple_mul1 l its.toArray n dd sl t) ⟨ho, .ref l, H, I, rfl, q⟩⟩)

/-! a method of such a tuple -/
def tBMF (K : PySem.W.Frag) (r : V → List V → Hp → VK → Prop) (to : TE) (t : TA) : TE := fun σ H Q => to σ H fun x H1 => (∃ a xs, x = .ref a ∧ SqF K H1 a xs) ∧ t σ H1 fun xs H2 => r x xs H2 Q
theorem pe_bmF {o e : Expr} {es : List Expr} {to : TE} {t : TA} {name : Str} {apos cpos : Pos} {id : String} {r : V → List V → Hp → VK → Prop} (slot : Slot "tuple" name id) (hty : typeOf (.builtin id) = pure (.type "method_descriptor")) (hm : MtR X id r) (ho : PE X o to) (ha : PA X (e :: es) t)
    (hbase : attributeBase o name X.env (eval o X.env) = eval o X.env)
    (hfew : ((backTo cpos (starEach (e :: es) X.env)).all (fun x => !x.1) && (backToKw cpos (keywordEach [] X.env)).all (fun x => x.1.isSome)
      && decide ((e :: es).length + ([] : List Keyword).length + (if ([] : List Keyword).isEmpty then 0 else 1) < 30)) = true)
    (hline : (apos.endLine == cpos.line) = true) (hs : starEach (e :: es) X.env = (false, eval e X.env) :: starEach es X.env) (hplain : (backTo cpos (starEach es X.env)).any (·.1) = false) :
    PE X (.Call (.Attribute o name apos) (e :: es) [] cpos) (tBMF X.K r to t) := by
  refine ⟨fun pins s σ H Q I h => wpAny_Call_method_late hbase hfew hline rfl (thn (ho.run pins s σ H _ I h) fun v s1 ⟨x, H1, I1, r1, ⟨a, xs, ex, hF⟩, q1⟩ => ?_)⟩
  subst ex
  cases r1
  obtain ⟨its, _, pt, _⟩ := I1.tuple hF.sqT
  refine ⟨"tuple", id, PySem.F.plainAttrs_tuple, slot, hty, pt.typeIs, fun b e => by cases e; exact hF.noDict I1, ?_⟩
  have hA := ha.run cpos pins s1 σ H1 _ I1 q1
  rw [hs] at hA ⊢
  exact Calls.callWith_builtin (by show (false || (backTo cpos (starEach es X.env)).any (·.1)) = false; rw [hplain]; rfl) (Calls.evalArgs_plain (thn hA fun us s2 ⟨vs, H2, I2, r2, q2⟩ => hm pins s2 σ H2 (.ref a) vs _ us Q I2 rfl r2 q2))
end
end DL

end

section
namespace DL
open PySem PySem.Spec PyProof.Rows L2

abbrev D := PyData
abbrev AS := Addr → Prop

/-! data in the heap, off the addresses M -/
mutual
inductive RD (K : PySem.W.Frag) (M : AS) (H : Hp) : V → D → Prop
  | non : RD K M H .non .none
  | bl (b : Bool) : RD K M H (.bl b) (.bool b)
  | int (i : Int) : RD K M H (.int i) (.int i)
  | str (x : Str) : RD K M H (.str x) (.str x)
  | lst {a : Addr} {xs : List V} {ds : List D} : H a = some (.lst xs) → ¬ M a → RDs K M H xs ds → RD K M H (.ref a) (.list ds)
  | tup {a : Addr} {xs : List V} {ds : List D} : SqF K H a xs → RDs K M H xs ds → RD K M H (.ref a) (.tuple ds)
inductive RDs (K : PySem.W.Frag) (M : AS) (H : Hp) : List V → List D → Prop
  | nil : RDs K M H [] []
  | cons {v : V} {vs : List V} {d : D} {ds : List D} : RD K M H v d → RDs K M H vs ds → RDs K M H (v :: vs) (d :: ds)
end

/-- what is kept but for the addresses Z -/
structure Kp (Z : AS) (H H' : Hp) : Prop where
  keep : ∀ b o, ¬ Z b → H b = some o → H' b = some o
  tups : ∀ b xs, H b = some (.tup xs) → H' b = some (.tup xs)
  frzs : ∀ b o u, H b = some (.frz o u) → H' b = some (.frz o u)
  there : ∀ b, H b ≠ none → H' b ≠ none
theorem Kp.refl {Z : AS} {H : Hp} : Kp Z H H := ⟨fun _ _ _ h => h, fun _ _ h => h, fun _ _ _ h => h, fun _ h => h⟩
theorem Kp.trans {Z : AS} {H H1 H2 : Hp} (a : Kp Z H H1) (b : Kp Z H1 H2) : Kp Z H H2 :=
  ⟨fun c o z h => b.keep c o z (a.keep c o z h), fun c xs h => b.tups c xs (a.tups c xs h), fun c o u h => b.frzs c o u (a.frzs c o u h), fun c h => b.there c (a.there c h)⟩
theorem Kp.mono {Z Z' : AS} {H H' : Hp} (a : Kp Z H H') (h : ∀ b, Z b → Z' b) : Kp Z' H H' :=
  ⟨fun c o z q => a.keep c o (fun y => z (h c y)) q, a.tups, a.frzs, a.there⟩
theorem Kp.ofSame {Z : AS} {H H' : Hp} (a : Same H H') : Kp Z H H' :=
  ⟨fun c o _ h => a c o h, fun c xs h => a c _ h, fun c o u h => a c _ h, fun c h => by
    cases q : H c with
    | none => exact absurd q h
    | some o => rw [a c o q]; exact fun z => nomatch z⟩
theorem Kp.fresh {Z : AS} {H : Hp} {p : Addr} {o : HO} (h : H p = none) : Kp Z H (upd H p o) :=
  Kp.ofSame fun b x e => by
    rw [upd_ne (ne_of_none e h)]
    exact e
/-- a list of Z is written -/
theorem Kp.write {Z : AS} {H : Hp} {p : Addr} {o : HO} {xs : List V} (h : H p = some (.lst xs)) (z : Z p) : Kp Z H (upd H p o) := by
  refine ⟨fun b x nz e => ?_, fun b ys e => ?_, fun b x u e => ?_, fun b e => ?_⟩
  · rw [upd_ne (fun q => nz (by rw [q]; exact z))]; exact e
  · rw [upd_ne (fun q => by rw [q, h] at e; cases e)]; exact e
  · rw [upd_ne (fun q => by rw [q, h] at e; cases e)]; exact e
  · by_cases q : b = p
    · rw [q, upd_same]; exact fun z => nomatch z
    · rw [upd_ne q]; exact e
theorem Kp.sqT {K : PySem.W.Frag} {Z : AS} {H H' : Hp} {a : Addr} {xs : List V} (k : Kp Z H H') (h : SqT K H a xs) : SqT K H' a xs := by
  rcases h with (h | ⟨o, h⟩) | h
  · exact .inl (.inl (k.tups _ _ h))
  · exact .inl (.inr ⟨o, k.frzs _ _ _ h⟩)
  · exact .inr h

theorem Kp.sqF {K : PySem.W.Frag} {Z : AS} {H H' : Hp} {a : Addr} {xs : List V} (k : Kp Z H H') (h : SqF K H a xs) : SqF K H' a xs := by
  rcases h with ⟨o, h, hd⟩ | h
  · exact .inl ⟨o, k.frzs _ _ _ h, hd⟩
  · exact .inr h
section
variable {K : PySem.W.Frag} {M M' : AS} {H H' : Hp}
mutual
theorem RD.keep (k : ∀ b o, ¬ M b → H b = some o → H' b = some o) (t : ∀ a xs, SqF K H a xs → SqF K H' a xs) (m : ∀ b, M' b → M b ∨ H b = none) : ∀ {d : D} {v : V}, RD K M H v d → RD K M' H' v d
  | .none, _, h => by cases h; exact .non
  | .bool b, _, h => by cases h; exact .bl b
  | .int i, _, h => by cases h; exact .int i
  | .str x, _, h => by cases h; exact .str x
  | .list ds, _, h => by
    cases h with
    | lst h1 h2 h3 =>
      refine .lst (k _ _ h2 h1) (fun z => ?_) (RDs.keep k t m h3)
      rcases m _ z with z | z
      · exact h2 z
      · rw [h1] at z; cases z
  | .tuple ds, _, h => by
    cases h with
    | tup h1 h2 => exact .tup (t _ _ h1) (RDs.keep k t m h2)
  | .dict _, _, h => by cases h
theorem RDs.keep (k : ∀ b o, ¬ M b → H b = some o → H' b = some o) (t : ∀ a xs, SqF K H a xs → SqF K H' a xs) (m : ∀ b, M' b → M b ∨ H b = none) : ∀ {ds : List D} {vs : List V}, RDs K M H vs ds → RDs K M' H' vs ds
  | [], _, h => by cases h; exact .nil
  | d :: ds, _, h => by
    cases h with
    | cons h1 h2 => exact .cons (RD.keep k t m h1) (RDs.keep k t m h2)
end
theorem RD.kp {Z : AS} {v : V} {d : D} (h : RD K M H v d) (k : Kp Z H H') (z : ∀ b, Z b → M b) (m : ∀ b, M' b → M b ∨ H b = none) : RD K M' H' v d :=
  h.keep (fun b o nb => k.keep b o fun q => nb (z b q)) (fun _ _ => k.sqF) m
theorem RDs.kp {Z : AS} {v : List V} {d : List D} (h : RDs K M H v d) (k : Kp Z H H') (z : ∀ b, Z b → M b) (m : ∀ b, M' b → M b ∨ H b = none) : RDs K M' H' v d :=
  h.keep (fun b o nb => k.keep b o fun q => nb (z b q)) (fun _ _ => k.sqF) m
theorem RD.weak {v : V} {d : D} (h : RD K M H v d) (m : ∀ b, M' b → M b) : RD K M' H v d := h.kp (Kp.refl (Z := M)) (fun _ z => z) fun b z => .inl (m b z)
theorem RDs.weak {v : List V} {d : List D} (h : RDs K M H v d) (m : ∀ b, M' b → M b) : RDs K M' H v d := h.kp (Kp.refl (Z := M)) (fun _ z => z) fun b z => .inl (m b z)

theorem RDs.len : ∀ {vs : List V} {ds : List D}, RDs K M H vs ds → vs.length = ds.length
  | [], _, h => by cases h; rfl
  | _ :: _, _, h => by
    cases h with
    | cons _ h2 => rw [List.length_cons, List.length_cons, RDs.len h2]
theorem RDs.get : ∀ {vs : List V} {ds : List D} {i : Nat} {d : D}, RDs K M H vs ds → ds[i]? = some d → ∃ v, vs[i]? = some v ∧ RD K M H v d
  | _, [], _, _, _, e => by simp at e
  | _, d :: ds, 0, _, h, e => by
    cases h with
    | cons h1 h2 =>
      simp at e; subst e
      exact ⟨_, rfl, h1⟩
  | _, d :: ds, i + 1, x, h, e => by
    cases h with
    | cons h1 h2 =>
      obtain ⟨v, e1, e2⟩ := RDs.get (i := i) (d := x) h2 (by simpa using e)
      exact ⟨v, by simpa using e1, e2⟩
theorem RDs.get' : ∀ {vs : List V} {ds : List D} {i : Nat} {v : V}, RDs K M H vs ds → vs[i]? = some v → ∃ d, ds[i]? = some d ∧ RD K M H v d
  | [], _, _, _, _, e => by simp at e
  | v :: vs, _, 0, _, h, e => by
    cases h with
    | cons h1 h2 =>
      simp at e; subst e
      exact ⟨_, rfl, h1⟩
  | v :: vs, _, i + 1, x, h, e => by
    cases h with
    | cons h1 h2 =>
      obtain ⟨d, e1, e2⟩ := RDs.get' (i := i) (v := x) h2 (by simpa using e)
      exact ⟨d, by simpa using e1, e2⟩
theorem RDs.append : ∀ {vs ws : List V} {ds es : List D}, RDs K M H vs ds → RDs K M H ws es → RDs K M H (vs ++ ws) (ds ++ es)
  | _, _, [], _, h, q => by cases h; exact q
  | _, _, d :: ds, _, h, q => by
    cases h with
    | cons h1 h2 => exact .cons h1 (RDs.append h2 q)
theorem RDs.take : ∀ (n : Nat) {vs : List V} {ds : List D}, RDs K M H vs ds → RDs K M H (vs.take n) (ds.take n)
  | 0, _, _, _ => by simp; exact .nil
  | n + 1, _, [], h => by cases h; simp; exact .nil
  | n + 1, _, d :: ds, h => by
    cases h with
    | cons h1 h2 => exact .cons h1 (RDs.take n h2)
theorem RDs.drop : ∀ (n : Nat) {vs : List V} {ds : List D}, RDs K M H vs ds → RDs K M H (vs.drop n) (ds.drop n)
  | 0, _, _, h => h
  | n + 1, _, [], h => by cases h; simp; exact .nil
  | n + 1, _, d :: ds, h => by
    cases h with
    | cons h1 h2 => exact RDs.drop n h2
theorem RDs.reverse {vs : List V} {ds : List D} : RDs K M H vs ds → RDs K M H vs.reverse ds.reverse := by
  induction ds generalizing vs with
  | nil => intro h; cases h; exact .nil
  | cons d ds ih =>
    intro h
    cases h with
    | cons h1 h2 =>
      rw [List.reverse_cons, List.reverse_cons]
      exact (ih h2).append (.cons h1 .nil)
theorem RDs.set : ∀ {vs : List V} {ds : List D} {v : V} {d : D} (i : Nat), RDs K M H vs ds → RD K M H v d → RDs K M H (vs.set i v) (ds.set i d)
  | _, [], _, _, _, h, _ => by cases h; exact .nil
  | _, e :: ds, _, _, 0, h, q => by
    cases h with
    | cons h1 h2 => exact .cons q h2
  | _, e :: ds, _, _, i + 1, h, q => by
    cases h with
    | cons h1 h2 => exact .cons h1 (RDs.set i h2 q)
theorem RDs.eraseIdx : ∀ {vs : List V} {ds : List D} (i : Nat), RDs K M H vs ds → RDs K M H (vs.eraseIdx i) (ds.eraseIdx i)
  | _, [], _, h => by cases h; exact .nil
  | _, e :: ds, 0, h => by
    cases h with
    | cons h1 h2 => exact h2
  | _, e :: ds, i + 1, h => by
    cases h with
    | cons h1 h2 => exact .cons h1 (RDs.eraseIdx i h2)
theorem RDs.ints : ∀ (ns : List Int), RDs K M H (ns.map V.int) (ns.map .int)
  | [] => .nil
  | n :: ns => .cons (.int n) (RDs.ints ns)

/-! to the layer's own data relation -/
mutual
theorem RD.dp : ∀ {d : D} {v : V}, RD K M H v d → Dp K H v d
  | .none, _, h => by cases h; exact .non
  | .bool b, _, h => by cases h; exact .bl b
  | .int i, _, h => by cases h; exact .int i
  | .str x, _, h => by cases h; exact .str x
  | .list ds, _, h => by
    cases h with
    | lst h1 h2 h3 => exact .lst (SqL.of h1) (RDs.dp h3)
  | .tuple ds, _, h => by
    cases h with
    | tup h1 h2 => exact .tup h1.sqT (RDs.dp h2)
  | .dict _, _, h => by cases h
theorem RDs.dp : ∀ {ds : List D} {vs : List V}, RDs K M H vs ds → DpAll K H vs ds
  | [], _, h => by cases h; exact .nil
  | d :: ds, _, h => by
    cases h with
    | cons h1 h2 => exact .cons (RD.dp h1) (RDs.dp h2)
end
end

/-! what is read for a moment: data, or a list that is being filled, or the script -/
def RB (K : PySem.W.Frag) (M : AS) (H : Hp) (v : V) (d : D) : Prop :=
  RD K M H v d ∨ ∃ a xs ds, v = .ref a ∧ d = .list ds ∧ H a = some (.lst xs) ∧ RDs K M H xs ds
section
variable {K : PySem.W.Frag} {M M' : AS} {H H' : Hp} {v : V} {d : D} {ds : List D}
theorem RB.dp (h : RB K M H v d) : Dp K H v d := by
  rcases h with h | ⟨a, xs, ds, rfl, rfl, h1, h2⟩
  · exact h.dp
  · exact .lst (SqL.of h1) h2.dp
theorem RB.list (h : RB K M H v (.list ds)) : ∃ a xs, v = .ref a ∧ H a = some (.lst xs) ∧ RDs K M H xs ds := by
  rcases h with h | ⟨a, xs, es, rfl, e, h1, h2⟩
  · cases h with
    | lst h1 h2 h3 => exact ⟨_, _, rfl, h1, h3⟩
  · injection e with e
    subst e
    exact ⟨a, xs, rfl, h1, h2⟩
theorem RB.tupF (h : RB K M H v (.tuple ds)) : ∃ a xs, v = .ref a ∧ SqF K H a xs ∧ RDs K M H xs ds := by
  rcases h with h | ⟨a, xs, es, rfl, e, h1, h2⟩
  · cases h with
    | tup h1 h2 => exact ⟨_, _, rfl, h1, h2⟩
  · cases e
theorem RB.tup (h : RB K M H v (.tuple ds)) : ∃ a xs, v = .ref a ∧ SqT K H a xs ∧ RDs K M H xs ds := by
  obtain ⟨a, xs, e, h1, h2⟩ := h.tupF
  exact ⟨a, xs, e, h1.sqT, h2⟩
theorem RB.int {i : Int} (h : RB K M H v (.int i)) : v = .int i := by
  rcases h with h | ⟨a, xs, es, rfl, e, h1, h2⟩
  · cases h; rfl
  · cases e
theorem RB.bool {i : Bool} (h : RB K M H v (.bool i)) : v = .bl i := by
  rcases h with h | ⟨a, xs, es, rfl, e, h1, h2⟩
  · cases h; rfl
  · cases e
theorem RB.str {i : Str} (h : RB K M H v (.str i)) : v = .str i := by
  rcases h with h | ⟨a, xs, es, rfl, e, h1, h2⟩
  · cases h; rfl
  · cases e
theorem RB.none (h : RB K M H v .none) : v = .non := by
  rcases h with h | ⟨a, xs, es, rfl, e, h1, h2⟩
  · cases h; rfl
  · cases e
theorem RDs.intsOf : ∀ {ns : List Int} {vs : List V}, RDs K M H vs (ns.map .int) → vs = ns.map V.int
  | [], _, h => by cases h; rfl
  | n :: ns, _, h => by
    cases h with
    | cons h1 h2 =>
      cases h1
      rw [RDs.intsOf h2] <;> rfl
theorem RDs.boolsOf : ∀ {ns : List Bool} {vs : List V}, RDs K M H vs (ns.map .bool) → vs = ns.map V.bl
  | [], _, h => by cases h; rfl
  | n :: ns, _, h => by
    cases h with
    | cons h1 h2 =>
      cases h1
      rw [RDs.boolsOf h2] <;> rfl
theorem RDs.strsOf : ∀ {ns : List Str} {vs : List V}, RDs K M H vs (ns.map .str) → vs = ns.map V.str
  | [], _, h => by cases h; rfl
  | n :: ns, _, h => by
    cases h with
    | cons h1 h2 =>
      cases h1
      rw [RDs.strsOf h2] <;> rfl
end
end DL

end

section
namespace DL
open PySem PySem.Spec PyProof.Rows L2

/-! ### dicts whose keys are tuples of bools -/
def leafB (b : Bool) : Leaf := .num (if b = true then 1 else 0)
def bKey (bs : List Bool) : List Leaf := bs.map leafB
theorem leafB_inj {a b : Bool} (h : leafB a = leafB b) : a = b := by
  cases a <;> cases b <;> first | rfl | (exfalso; revert h; decide)
theorem bKey_inj : ∀ {a b : List Bool}, bKey a = bKey b → a = b
  | [], [], _ => rfl
  | [], _ :: _, h => by cases h
  | _ :: _, [], h => by cases h
  | a :: as, b :: bs, h => by
    obtain ⟨h1, h2⟩ := List.cons.inj (show leafB a :: bKey as = leafB b :: bKey bs from h)
    rw [leafB_inj h1, bKey_inj h2]
/-- the kind of keys: tuples of bools -/
def bk (P : Program) (w : World) : HeapKind P w (List Bool) where
  is := fun h bs a => (tupleKind (leafKind P w)).is h (bKey bs) a
  hash := fun bs => (tupleKind (leafKind P w)).hash (bKey bs)
  draws := fun bs => (tupleKind (leafKind P w)).draws (bKey bs)
  room := (tupleKind (leafKind P w)).room
  inj := fun hx hy => bKey_inj ((tupleKind (leafKind P w)).inj hx hy)
  keeps := fun a b c d => (tupleKind (leafKind P w)).keeps a b c d
  pyHash := fun hu hk h => (tupleKind (leafKind P w)).pyHash hu hk h
  eqBool := fun {A E s x y a b Q} hu hx hy h => (tupleKind (leafKind P w)).eqBool hu hx hy (by
    have e : decide (bKey x = bKey y) = decide (x = y) := decide_eq_decide.mpr ⟨bKey_inj, fun e => by rw [e]⟩
    rw [e]
    exact h)
  quiet := fun hk h => (tupleKind (leafKind P w)).quiet hk h
theorem hash_free (P P' : Program) (w w' : World) (bs : List Bool) : (bk P w).hash bs = (bk P' w').hash bs := by
  show tupleKeyHash (leafKind P w) (bKey bs) = tupleKeyHash (leafKind P' w') (bKey bs)
  unfold tupleKeyHash bKey
  rw [List.map_map, List.map_map]
  rfl
theorem entry_free (P P' : Program) (w w' : World) (x : List Bool × Addr × Value) : entryOfKey (bk P w) x = entryOfKey (bk P' w') x := by
  unfold entryOfKey
  rw [hash_free P P' w w']
abbrev BEn := List Bool × Addr × V
def BRel (y : BEn) (x : List Bool × Addr × Value) : Prop := y.1 = x.1 ∧ y.2.1 = x.2.1 ∧ RelV y.2.2 x.2.2
def DictBs (h : Heap) (a : Addr) (ys : List BEn) : Prop := (a == sysModules) = false ∧ ys.length ≤ sizeLine ∧ ∃ xs : List (List Bool × Addr × Value), Paired BRel ys xs ∧
  ∃ o es ep, h.get? a = some o ∧ o.ExactDict ∧ o.data = .dict es ep ∧ (∀ P w, es.toList = xs.map (entryOfKey (bk P w))) ∧ (xs.map (·.1)).Nodup
def DictBO (a : Addr) (ys : List BEn) : HO := .ext fun h => DictBs h a ys
theorem dictBO_ok {P : Program} {w : World} {H : Hp} {h : Heap} {a : Addr} {ys : List BEn} (R : DictBs h a ys) : ObjOk P w H h a (DictBO a ys) := by
  have ⟨_, _, xs, _, o, _, _, ho, _⟩ := R
  refine ⟨R, ⟨o, ho⟩, fun h1 h2 p k => ?_⟩
  obtain ⟨z, l, xs, pr, o', es, ep, ho', r⟩ := p
  exact ⟨z, l, xs, pr, o', es, ep, k o' ho', r⟩
def tDNewB : TE := fun _ H Q => ∀ p, H p = none → Q (.ref p) (upd H p (DictBO p []))
section
variable {X : Cx} {pins : List (Addr × Obj)} {σ : L2.St} {H : Hp} {s : Shared} {a b : Addr} {ys : List BEn} {bs : List Bool}
theorem pe_dnewB {pos : Pos} : PE X (.Dict [] [] pos) tDNewB := ⟨fun pins s σ H Q I h =>
  wpAny_Dict_empty ⟨.ref s.heap.objs.size, _, I.laid (a := s.heap.objs.size) (o := DictBO s.heap.objs.size []) (t' := s.toks) (fun _ _ q => Heap.get?_push_of_some _ q) (Nat.le_refl _)
    (dictBO_ok ⟨beq_eq_false_iff_ne.mpr (Ne.symm (Nat.ne_of_lt I.big)), Nat.zero_le _, [], .nil, _, #[], 0, Heap.get?_push_size _ rfl, ⟨rfl, rfl, rfl⟩, rfl, fun _ _ => rfl, List.nodup_nil⟩), rfl, h _ (I.hok.fresh (Nat.le_refl _))⟩⟩
theorem dictBs_at (I : Inv X pins σ H s) (h : H a = some (DictBO a ys)) : DictBs s.heap a ys := by
  obtain ⟨h1, _⟩ := (show ObjOk X.prog X.w H s.heap a (DictBO a ys) from I.hok a _ h)
  exact h1
theorem items_bools : ∀ {bs : List Bool} {its : List Value}, Vals (bs.map V.bl) its → ItemsAre (leafKind X.prog X.w) (bKey bs) its
  | [], _, r => by
    cases r
    exact .nil
  | b :: bs, _, r => by
    cases r with
    | cons r1 r2 =>
      refine .cons ?_ (items_bools r2)
      cases r1
      exact decide_eq_true rfl
theorem keyB_of (I : Inv X pins σ H s) (h : SqT X.K H b (bs.map V.bl)) : (bk X.prog X.w).is s.heap bs b := by
  obtain ⟨its, r, ⟨o, ho, hc, n, hd⟩, _⟩ := I.tuple h
  exact ⟨o, its.toArray, n, ho, hc, hd, by simpa using items_bools r⟩
theorem dictB_H (I : Inv X pins σ H s) (h : H a = some (DictBO a ys)) (hk : ∀ y ∈ ys, SqT X.K H y.2.1 (y.1.map V.bl)) : (a == sysModules) = false ∧ ys.length ≤ sizeLine ∧ ∃ xs, Paired BRel ys xs ∧ s.heap.DictOfH (bk X.prog X.w) a xs := by
  obtain ⟨z, l, xs, pr, o, es, ep, h1, h2, h3, h4, h5⟩ := dictBs_at I h
  refine ⟨z, l, xs, pr, o, es, ep, h1, h2, h3, h4 _ _, fun x hx => ?_, h5⟩
  obtain ⟨y, hy, e1, e2, _⟩ : ∃ y ∈ ys, BRel y x := by
    clear h h1 h3 h4 h5 l hk
    induction pr with
    | nil => cases hx
    | cons r t ih =>
      rcases List.mem_cons.mp hx with rfl | hx
      · exact ⟨_, List.mem_cons_self, r⟩
      · obtain ⟨y, hy, r⟩ := ih hx
        exact ⟨y, List.mem_cons_of_mem _ hy, r⟩
  have := keyB_of I (hk y hy)
  rw [e1, e2] at this
  exact this
def valB (ys : List BEn) (bs : List Bool) : Option V := (ys.find? fun y => decide (y.1 = bs)).map (·.2.2)
theorem valB_rel : ∀ {ys : List BEn} {xs : List (List Bool × Addr × Value)} {bs : List Bool} {z : V} {u : Value}, Paired BRel ys xs → RelV z u → RelV ((valB ys bs).getD z) (((atKey xs bs).map (·.2)).getD u)
  | _, _, _, _, _, .nil, r => r
  | y :: ys, x :: xs, bs, z, u, .cons h t, r => by
    obtain ⟨e1, e2, e3⟩ := h
    by_cases e : y.1 = bs
    · have l1 : valB (y :: ys) bs = some y.2.2 := by simp [valB, List.find?_cons, e]
      have l2 : atKey (x :: xs) bs = some x.2 := by simp [atKey, List.find?_cons, ← e1, e]
      rw [l1, l2]
      exact e3
    · have l1 : valB (y :: ys) bs = valB ys bs := by simp [valB, List.find?_cons, e]
      have l2 : atKey (x :: xs) bs = atKey xs bs := by simp [atKey, List.find?_cons, ← e1, e]
      rw [l1, l2]
      exact valB_rel t r
def putV (ys : List BEn) (bs : List Bool) (b : Addr) (v : V) : List BEn := if (valB ys bs).isSome = true then ys.map (fun y => if y.1 = bs then (y.1, y.2.1, v) else y) else ys ++ [(bs, b, v)]
theorem isSome_rel : ∀ {ys : List BEn} {xs : List (List Bool × Addr × Value)} {bs : List Bool}, Paired BRel ys xs → (valB ys bs).isSome = (atKey xs bs).isSome
  | _, _, _, .nil => rfl
  | y :: ys, x :: xs, bs, .cons h t => by
    obtain ⟨e1, e2, e3⟩ := h
    by_cases e : y.1 = bs
    · have l1 : valB (y :: ys) bs = some y.2.2 := by simp [valB, List.find?_cons, e]
      have l2 : atKey (x :: xs) bs = some x.2 := by simp [atKey, List.find?_cons, ← e1, e]
      rw [l1, l2]
      rfl
    · have l1 : valB (y :: ys) bs = valB ys bs := by simp [valB, List.find?_cons, e]
      have l2 : atKey (x :: xs) bs = atKey xs bs := by simp [atKey, List.find?_cons, ← e1, e]
      rw [l1, l2]
      exact isSome_rel t
theorem map_rel {bs : List Bool} {v : V} {u : Value} (r : RelV v u) : ∀ {ys : List BEn} {xs : List (List Bool × Addr × Value)}, Paired BRel ys xs → Paired BRel (ys.map fun y => if y.1 = bs then (y.1, y.2.1, v) else y) (xs.map (putAt bs u))
  | _, _, .nil => .nil
  | y :: ys, x :: xs, .cons h t => by
    refine .cons ?_ (map_rel r t)
    obtain ⟨e1, e2, e3⟩ := h
    show BRel (if y.1 = bs then (y.1, y.2.1, v) else y) (putAt bs u x)
    unfold putAt
    by_cases e : y.1 = bs
    · rw [if_pos e, if_pos (e1 ▸ e)]
      exact ⟨e1, e2, r⟩
    · rw [if_neg e, if_neg (e1 ▸ e)]
      exact ⟨e1, e2, e3⟩
theorem snoc_rel {bs : List Bool} {b : Addr} {v : V} {u : Value} (r : RelV v u) : ∀ {ys : List BEn} {xs : List (List Bool × Addr × Value)}, Paired BRel ys xs → Paired BRel (ys ++ [(bs, b, v)]) (xs ++ [(bs, b, u)])
  | _, _, .nil => .cons ⟨rfl, rfl, r⟩ .nil
  | _, _, .cons h t => .cons h (snoc_rel r t)
theorem putV_rel {ys : List BEn} {xs : List (List Bool × Addr × Value)} {bs : List Bool} {b : Addr} {v : V} {u : Value} (h : Paired BRel ys xs) (r : RelV v u) : Paired BRel (putV ys bs b v) (storedH xs bs b u) := by
  unfold putV storedH
  rw [isSome_rel h]
  split
  · exact map_rel r h
  · exact snoc_rel r h
theorem putV_len (ys : List BEn) (bs : List Bool) (b : Addr) (v : V) : (putV ys bs b v).length ≤ ys.length + 1 := by
  unfold putV
  split
  · rw [List.length_map]
    omega
  · rw [List.length_append]
    exact Nat.le_refl _
/-- d[t] = v -/
def rSetB (K : PySem.W.Frag) : V → V → V → Hp → (Hp → Prop) → Prop := fun o i v H Q => ∃ a ys bs b, o = .ref a ∧ i = .ref b ∧ H a = some (DictBO a ys) ∧ SqT K H b (bs.map V.bl) ∧ (∀ y ∈ ys, SqT K H y.2.1 (y.1.map V.bl)) ∧ ys.length < sizeLine ∧ Q (upd H a (DictBO a (putV ys bs b v)))
theorem set_dictB (hu : X.A.units + 1 < cLine) : PSet X (rSetB X.K) := by
  intro pins s σ H o i v ov iv u Q I ro ri rv h
  obtain ⟨a, ys, bs, b, rfl, rfl, ha, hb, hk, hl, q⟩ := h
  cases ro
  cases ri
  obtain ⟨z, l, xs, pr, dd⟩ := dictB_H I ha hk
  have hz : xs.length ≤ sizeLine := by rw [← Paired.length pr]; exact l
  refine wpAny_setItem_heap (knd := bk X.prog X.w) (hsz := hz) (tupleKind_room_in1 (knd := leafKind X.prog X.w) hu) (keyB_of I hb) dd fun h' dd' hs => ?_
  obtain ⟨ob, es, ep, hq, h2, h3, h4, _, h5⟩ := dd'
  refine ⟨_, d_write I (by rw [ha]; exact True.intro) hs ⟨ob, hq⟩ (dictBO_ok ⟨z, ?_, _, putV_rel (b := b) pr rv, ob, es, ep, hq, h2, h3, fun P w => ?_, h5⟩), q⟩
  · have := putV_len ys bs b v
    omega
  · rw [h4]
    exact List.map_congr_left fun x _ => entry_free _ _ _ _ x
/-- d.get(t, x) -/
def tDGetB (K : PySem.W.Frag) (td ty tx : TE) : TE := fun σ H Q => td σ H fun x H1 => ∃ a ys0, x = .ref a ∧ H1 a = some (DictBO a ys0) ∧ ty σ H1 fun y H2 => tx σ H2 fun z H3 => ∃ ys bs b, H3 a = some (DictBO a ys) ∧ y = .ref b ∧ SqT K H3 b (bs.map V.bl) ∧ (∀ y ∈ ys, SqT K H3 y.2.1 (y.1.map V.bl)) ∧ Q ((valB ys bs).getD z) H3
theorem pe_dgetB {o e f : Expr} {apos cpos : Pos} {td ty tx : TE} (hu : X.A.units + 1 < cLine) (ho : PE X o td) (he : PE X e ty) (hf : PE X f tx) (m : L2.M2 X o "get" apos e f cpos) : PE X (.Call (.Attribute o "get" apos) [e, f] [] cpos) (tDGetB X.K td ty tx) := by
  refine ⟨fun pins s σ H Q I h => ?_⟩
  refine wpAny_Call_method m.base m.few m.line PySem.F.plainAttrs_dict PySem.F.slot_dict_get PySem.F.type_dict_get (thn (ho.run pins s σ H _ I h) fun u s1 ⟨x, H1, I1, rx, a, ys0, ex, d, q1⟩ => ?_)
  subst ex
  obtain rfl : u = Value.ref a := rx
  obtain ⟨_, _, _, _, o', _, _, ho', hx, _⟩ := dictBs_at I1 d
  refine ⟨⟨o', ho', hx.1⟩, fun b eb => by cases eb; exact ⟨o', ho', hx.2.1⟩, ?_⟩
  rw [m.trees]
  refine Calls.callWith_builtin rfl (Calls.evalArgs_plain (Calls.spliced_cons (thn (he.run pins s1 σ H1 _ I1 q1) fun iv s2 ⟨y, H2, I2, ry, q2⟩ =>
    Calls.spliced_cons (thn (hf.run pins s2 σ H2 _ I2 q2) fun fv s3 ⟨z, H3, I3, rz, ys, bs, b, hd, ey, hb, hk, q3⟩ => Calls.spliced_nil ?_))))
  subst ey
  cases ry
  obtain ⟨zz, l, xs, pr, dd⟩ := dictB_H I3 hd hk
  refine call_meetsIn F.slot_dict_get dd.typeIs F.entry_dict_get (F.args_dict_get_3 _ _ _) (meetsH_dict_get_default (bk X.prog X.w) a b zz fv) ⟨tupleKind_room_in1 (knd := leafKind X.prog X.w) hu, bs, xs, keyB_of I3 hb, dd, ?_⟩
  exact ⟨_, H3, I3.tok _, valB_rel pr rz, q3⟩
end
end DL

end

section
namespace DL
open PySem PySem.Spec PyProof.Rows L2

abbrev St := L2.St
/-! what a slot holds: nothing known, data, a list (or dict) of its own that is being changed, the script, any value -/
inductive Ct where
  | ls (ds : List D)
  | dk (kvs : List (Key × D))
  | db (kvs : List (List Bool × D))
inductive Sl where
  | un
  | p (d : D)
  | o (fr : Bool) (c : Ct)
  | sc (ns : List Int)
abbrev Ro := List Sl

def KVs (K : PySem.W.Frag) (M : AS) (H : Hp) : List (Key × V) → List (Key × D) → Prop := Paired fun p q => p.1 = q.1 ∧ RD K M H p.2 q.2
/-- the entries of a dict keyed by tuples of bools -/
def KBs (K : PySem.W.Frag) (M : AS) (H : Hp) : List BEn → List (List Bool × D) → Prop := Paired fun y q => y.1 = q.1 ∧ RD K M H (.ref y.2.1) (.tuple (y.1.map .bool)) ∧ RD K M H y.2.2 q.2
def CtOk (K : PySem.W.Frag) (M : AS) (H : Hp) (a : Addr) : Ct → Prop
  | .ls ds => ∃ xs, H a = some (.lst xs) ∧ RDs K M H xs ds
  | .dk kvs => ∃ xs, H a = some (.dK xs) ∧ KVs K M H xs kvs
  | .db kvs => ∃ ys, H a = some (DictBO a ys) ∧ KBs K M H ys kvs
def SlOk (K : PySem.W.Frag) (M : AS) (H : Hp) : Sl → Option V → Prop
  | .un, _ => True
  | .p d, ov => ∃ v, ov = some v ∧ RD K M H v d
  | .o _ c, ov => ∃ a, ov = some (.ref a) ∧ M a ∧ CtOk K M H a c
  | .sc ns, ov => ∃ a, ov = some (.ref a) ∧ ((∃ o, H a = some (.frz o (.lst (ns.map V.int)))) ∨ (SqL K (fun _ => none) a (ns.map V.int)))

section
variable {K : PySem.W.Frag} {M M' Z : AS} {H H' : Hp}
theorem KVs.kp : ∀ {xs : List (Key × V)} {kvs : List (Key × D)}, KVs K M H xs kvs → Kp Z H H' → (∀ b, Z b → M b) → (∀ b, M' b → M b ∨ H b = none) → KVs K M' H' xs kvs
  | _, _, .nil, _, _, _ => .nil
  | _, _, .cons h t, k, z, m => .cons ⟨h.1, h.2.kp k z m⟩ (KVs.kp t k z m)
theorem KBs.kp : ∀ {ys : List BEn} {kvs : List (List Bool × D)}, KBs K M H ys kvs → Kp Z H H' → (∀ b, Z b → M b) → (∀ b, M' b → M b ∨ H b = none) → KBs K M' H' ys kvs
  | _, _, .nil, _, _, _ => .nil
  | _, _, .cons h t, k, z, m => .cons ⟨h.1, h.2.1.kp k z m, h.2.2.kp k z m⟩ (KBs.kp t k z m)
theorem CtOk.kp {a : Addr} {c : Ct} (h : CtOk K M H a c) (k : Kp Z H H') (z : ∀ b, Z b → M b) (m : ∀ b, M' b → M b ∨ H b = none) (hz : ¬ Z a) : CtOk K M' H' a c := by
  cases c with
  | ls ds =>
    obtain ⟨xs, h1, h2⟩ := h
    exact ⟨xs, k.keep _ _ hz h1, h2.kp k z m⟩
  | dk kvs =>
    obtain ⟨xs, h1, h2⟩ := h
    exact ⟨xs, k.keep _ _ hz h1, h2.kp k z m⟩
  | db kvs =>
    obtain ⟨xs, h1, h2⟩ := h
    exact ⟨xs, k.keep _ _ hz h1, h2.kp k z m⟩
theorem CtOk.some {a : Addr} {c : Ct} (h : CtOk K M H a c) : H a ≠ none := by
  cases c with
  | ls ds =>
    obtain ⟨xs, h1, h2⟩ := h
    rw [h1]; exact fun z => nomatch z
  | dk kvs =>
    obtain ⟨xs, h1, h2⟩ := h
    rw [h1]; exact fun z => nomatch z
  | db kvs =>
    obtain ⟨xs, h1, h2⟩ := h
    rw [h1]; exact fun z => nomatch z
end

/-- the addresses that may be changed here -/
def Mut (ρ : Ro) (σ : St) (a : Addr) : Prop := ∃ (i : Nat) (fr : Bool) (c : Ct), ρ[i]? = some (.o fr c) ∧ σ[i]? = some (some (.ref a))

/-- a heap that was: what of it may be changed since, what was set apart then -/
structure Bs where
  z : AS
  m : AS
  h : Hp
  p : Nat → Addr → Prop
structure RelS (K : PySem.W.Frag) (cs : List Bs) (Mc M : AS) (ρ : Ro) (σ : St) (H : Hp) : Prop where
  len : ρ.length = σ.length
  sl : ∀ (i : Nat) (s : Sl) (ov : Option V), ρ[i]? = some s → σ[i]? = some ov → SlOk K M H s ov
  sep : ∀ (i j : Nat) (fr fr' : Bool) (c c' : Ct) (a : Addr), ρ[i]? = some (.o fr c) → ρ[j]? = some (.o fr' c') → σ[i]? = some (some (.ref a)) → σ[j]? = some (some (.ref a)) → i = j
  mc : ∀ a, Mc a → M a
  mx : ∀ a, M a → H a ≠ none
  own : ∀ (i : Nat) (fr : Bool) (c : Ct) (a : Addr), ρ[i]? = some (.o fr c) → σ[i]? = some (some (.ref a)) → (∀ b ∈ cs, b.z a ∨ b.h a = none) ∧ (fr = true → ¬ Mc a)
  old : ∀ b ∈ cs, Kp b.z b.h H
  gr : ∀ b ∈ cs, ∀ a, M a → b.m a ∨ b.h a = none
  pin : ∀ b ∈ cs, ∀ (i : Nat) (c : Ct) (a : Addr), ρ[i]? = some (.o false c) → σ[i]? = some (some (.ref a)) → b.p i a

section
variable {K : PySem.W.Frag} {cs : List Bs} {Mc M M' M1 M2 : AS} {H H' H1 H2 : Hp} {ρ ρ' ρ1 ρ2 : Ro} {σ : St}
theorem RelS.slot (R : RelS K cs Mc M ρ σ H) {i : Nat} {s : Sl} (h : ρ[i]? = some s) : ∃ ov, σ[i]? = some ov ∧ SlOk K M H s ov := by
  have hi : i < σ.length := by
    rw [← R.len]
    exact (List.getElem?_eq_some_iff.mp h).1
  exact ⟨σ[i], List.getElem?_eq_getElem hi, R.sl i s _ h (List.getElem?_eq_getElem hi)⟩
theorem RelS.pure (R : RelS K cs Mc M ρ σ H) {i : Nat} {d : D} (h : ρ[i]? = some (.p d)) : ∃ v, σ[i]? = some (some v) ∧ RD K M H v d := by
  obtain ⟨ov, e, v, rfl, r⟩ := R.slot h
  exact ⟨v, e, r⟩
theorem RelS.ownA (R : RelS K cs Mc M ρ σ H) {i : Nat} {fr : Bool} {c : Ct} (h : ρ[i]? = some (.o fr c)) : ∃ a, σ[i]? = some (some (.ref a)) ∧ M a ∧ CtOk K M H a c := by
  obtain ⟨ov, e, a, rfl, r⟩ := R.slot h
  exact ⟨a, e, r⟩
theorem RelS.mutM (R : RelS K cs Mc M ρ σ H) {a : Addr} (h : Mut ρ σ a) : M a := by
  obtain ⟨i, fr, c, h1, h2⟩ := h
  obtain ⟨b, e, m, _⟩ := R.ownA h1
  rw [h2] at e
  cases e
  exact m
theorem RelS.nomc (R : RelS K cs Mc M ρ σ H) {i : Nat} {c : Ct} {a : Addr} (h : ρ[i]? = some (.o true c)) (e : σ[i]? = some (some (.ref a))) : ¬ Mc a := (R.own i true c a h e).2 rfl

/-- the state behind an expression -/
structure Post (K : PySem.W.Frag) (cs : List Bs) (Mc M : AS) (ρ : Ro) (σ : St) (H : Hp) (M' : AS) (ρ' : Ro) (H' : Hp) : Prop where
  rel : RelS K cs Mc M' ρ' σ H'
  sub : ∀ a, M' a → M a
  kp : Kp (Mut ρ σ) H H'
  shr : ∀ (i : Nat) (fr : Bool) (c' : Ct), ρ'[i]? = some (.o fr c') → ∃ c, ρ[i]? = some (.o fr c)
theorem Post.mut (h : Post K cs Mc M ρ σ H M' ρ' H') {a : Addr} (m : Mut ρ' σ a) : Mut ρ σ a := by
  obtain ⟨i, fr, c, h1, h2⟩ := m
  obtain ⟨c0, e⟩ := h.shr i fr c h1
  exact ⟨i, fr, c0, e, h2⟩
theorem Post.refl (R : RelS K cs Mc M ρ σ H) : Post K cs Mc M ρ σ H M ρ H := ⟨R, fun _ z => z, .refl, fun _ _ c h => ⟨c, h⟩⟩
theorem Post.trans (a : Post K cs Mc M ρ σ H M1 ρ1 H1) (b : Post K cs Mc M1 ρ1 σ H1 M2 ρ2 H2) : Post K cs Mc M ρ σ H M2 ρ2 H2 :=
  ⟨b.rel, fun x z => a.sub x (b.sub x z), a.kp.trans (b.kp.mono fun _ m => a.mut m), fun i fr c h => by
    obtain ⟨c1, e1⟩ := b.shr i fr c h
    exact a.shr i fr c1 e1⟩
/-- data that was there before stays -/
theorem Post.rd (R : RelS K cs Mc M ρ σ H) (h : Post K cs Mc M ρ σ H M' ρ' H') {v : V} {d : D} (r : RD K M H v d) : RD K M' H' v d :=
  r.kp h.kp (fun _ m => R.mutM m) fun b z => .inl (h.sub b z)
theorem Post.rds (R : RelS K cs Mc M ρ σ H) (h : Post K cs Mc M ρ σ H M' ρ' H') {v : List V} {d : List D} (r : RDs K M H v d) : RDs K M' H' v d :=
  r.kp h.kp (fun _ m => R.mutM m) fun b z => .inl (h.sub b z)

/-- the heap grows by objects that are not changed any more -/
theorem RelS.heap {Z : AS} (R : RelS K cs Mc M ρ σ H) (k : Kp Z H H') (hz : ∀ a, Z a → False) : RelS K cs Mc M ρ σ H' := by
  refine ⟨R.len, fun i s ov h e => ?_, R.sep, R.mc, fun a m => k.there a (R.mx a m), R.own, fun b hb => (R.old b hb).trans (k.mono fun b z => (hz b z).elim), R.gr, R.pin⟩
  have q := R.sl i s ov h e
  cases s with
  | un => trivial
  | p d =>
    obtain ⟨v, e1, r⟩ := q
    exact ⟨v, e1, r.kp k (fun b z => (hz b z).elim) fun b z => .inl z⟩
  | o fr c =>
    obtain ⟨a, e1, m, r⟩ := q
    exact ⟨a, e1, m, r.kp k (fun b z => (hz b z).elim) (fun b z => .inl z) fun z => hz _ z⟩
  | sc ns =>
    obtain ⟨a, e1, r⟩ := q
    refine ⟨a, e1, ?_⟩
    rcases r with ⟨o, r⟩ | r
    · exact .inl ⟨o, k.frzs _ _ _ r⟩
    · exact .inr r
theorem RelS.newH (R : RelS K cs Mc M ρ σ H) {p : Addr} {o : HO} (h : H p = none) : RelS K cs Mc M ρ σ (upd H p o) := R.heap (Kp.fresh (Z := fun _ => False) h) fun _ z => z
theorem RelS.not_new (R : RelS K cs Mc M ρ σ H) {p : Addr} (h : H p = none) : ¬ M p := fun z => R.mx p z h
theorem Post.newH (R : RelS K cs Mc M ρ σ H) {p : Addr} {o : HO} (h : H p = none) : Post K cs Mc M ρ σ H M ρ (upd H p o) :=
  ⟨R.newH h, fun _ z => z, Kp.fresh h, fun _ _ c q => ⟨c, q⟩⟩
theorem Post.heap (R : RelS K cs Mc M ρ σ H) (k : Kp (fun _ => False) H H') : Post K cs Mc M ρ σ H M ρ H' :=
  ⟨R.heap k fun _ z => z, fun _ z => z, k.mono fun _ z => z.elim, fun _ _ c q => ⟨c, q⟩⟩

theorem get_set_some {α : Type} {l : List α} {i j : Nat} {x y : α} (h : (l.set i x)[j]? = some y) : (j = i ∧ y = x ∧ i < l.length) ∨ (j ≠ i ∧ l[j]? = some y) := by
  by_cases e : j = i
  · subst e
    by_cases hl : j < l.length
    · rw [List.getElem?_set_self hl] at h
      exact .inl ⟨rfl, (Option.some.inj h).symm, hl⟩
    · rw [List.getElem?_eq_none (by simpa using hl)] at h
      cases h
  · rw [List.getElem?_set_ne (Ne.symm e)] at h
    exact .inr ⟨e, h⟩

/-- a list of one's own is from now on data -/
theorem RelS.freeze (R : RelS K cs Mc M ρ σ H) {i : Nat} {ds : List D} (h : ρ[i]? = some (.o true (.ls ds))) :
    ∃ a M', σ[i]? = some (some (.ref a)) ∧ Post K cs Mc M ρ σ H M' (ρ.set i (.p (.list ds))) H ∧ RD K M' H (.ref a) (.list ds) := by
  obtain ⟨a, e, m, xs, h1, h2⟩ := R.ownA h
  have hM : ∀ b, (M b ∧ b ≠ a) → M b := fun _ z => z.1
  have rd : RD K (fun b => M b ∧ b ≠ a) H (.ref a) (.list ds) := .lst h1 (fun z => z.2 rfl) (h2.weak hM)
  have hi : i < ρ.length := (List.getElem?_eq_some_iff.mp h).1
  have shr : ∀ (j : Nat) (fr : Bool) (c' : Ct), (ρ.set i (.p (.list ds)))[j]? = some (.o fr c') → j ≠ i ∧ ρ[j]? = some (.o fr c') := fun j fr c' q => by
    rcases get_set_some q with ⟨_, z, _⟩ | z
    · cases z
    · exact z
  refine ⟨a, fun b => M b ∧ b ≠ a, e, ⟨⟨by rw [List.length_set]; exact R.len, fun j s ov q1 q2 => ?_, fun j l fr fr' c c' b q1 q2 q3 q4 => ?_, fun b z => ⟨R.mc b z, fun y => ?_⟩, fun b z => R.mx b z.1, fun j fr c b q1 q2 => R.own j fr c b (shr _ _ _ q1).2 q2, R.old, fun b hb a z => R.gr b hb a z.1, fun b hb j c x q1 q2 => R.pin b hb j c x (shr _ _ _ q1).2 q2⟩, hM, .refl, fun j fr c q => ⟨c, (shr _ _ _ q).2⟩⟩, rd⟩
  · rcases get_set_some q1 with ⟨z1, z2, _⟩ | ⟨z1, z2⟩
    · subst z1 z2
      rw [e] at q2
      cases q2
      exact ⟨_, rfl, rd⟩
    · have q := R.sl j s ov z2 q2
      cases s with
      | un => trivial
      | p d =>
        obtain ⟨v, e1, r⟩ := q
        exact ⟨v, e1, r.weak hM⟩
      | o fr c =>
        obtain ⟨b, e1, mb, r⟩ := q
        subst e1
        refine ⟨b, rfl, ⟨mb, fun y => ?_⟩, r.kp (Kp.refl (Z := fun _ => False)) (fun _ z => z.elim) (fun x z => .inl z.1) fun z => z⟩
        subst y
        exact z1 (R.sep j i _ _ _ _ _ z2 h q2 e)
      | sc ns => exact q
  · exact R.sep j l _ _ _ _ b (shr _ _ _ q1).2 (shr _ _ _ q2).2 q3 q4
  · subst y
    exact R.nomc h e z

/-- storing data in a slot -/
theorem RelS.setP (R : RelS K cs Mc M ρ σ H) {i : Nat} {v : V} {d : D} (r : RD K M H v d) : RelS K cs Mc M (ρ.set i (.p d)) (σ.set i (some v)) H := by
  have shr : ∀ {j : Nat} {fr : Bool} {c' : Ct} {b : Addr}, (ρ.set i (.p d))[j]? = some (.o fr c') → (σ.set i (some v))[j]? = some (some (.ref b)) → ρ[j]? = some (.o fr c') ∧ σ[j]? = some (some (.ref b)) := fun {j fr c' b} q q2 => by
    rcases get_set_some q with ⟨_, z, _⟩ | z
    · cases z
    · rw [List.getElem?_set_ne (Ne.symm z.1)] at q2
      exact ⟨z.2, q2⟩
  refine ⟨by rw [List.length_set, List.length_set]; exact R.len, fun j s ov q1 q2 => ?_, fun j l fr fr' c c' b q1 q2 q3 q4 => ?_, R.mc, R.mx, fun j fr c b q1 q2 => ?_, R.old, R.gr, fun b hb j c x q1 q2 => R.pin b hb j c x (shr q1 q2).1 (shr q1 q2).2⟩
  · rcases get_set_some q1 with ⟨z1, z2, z3⟩ | ⟨z1, z2⟩
    · subst z1 z2
      rw [List.getElem?_set_self (by rw [← R.len]; exact z3)] at q2
      cases q2
      exact ⟨v, rfl, r⟩
    · rw [List.getElem?_set_ne (Ne.symm z1)] at q2
      exact R.sl j s ov z2 q2
  · exact R.sep j l _ _ _ _ b (shr q1 q3).1 (shr q2 q4).1 (shr q1 q3).2 (shr q2 q4).2
  · exact R.own j fr c b (shr q1 q2).1 (shr q1 q2).2
/-- a slot is forgotten -/
theorem RelS.setU (R : RelS K cs Mc M ρ σ H) {i : Nat} {ov : Option V} : RelS K cs Mc M (ρ.set i .un) (σ.set i ov) H := by
  have shr : ∀ {j : Nat} {fr : Bool} {c' : Ct} {b : Addr}, (ρ.set i .un)[j]? = some (.o fr c') → (σ.set i ov)[j]? = some (some (.ref b)) → ρ[j]? = some (.o fr c') ∧ σ[j]? = some (some (.ref b)) := fun {j fr c' b} q q2 => by
    rcases get_set_some q with ⟨_, z, _⟩ | z
    · cases z
    · rw [List.getElem?_set_ne (Ne.symm z.1)] at q2
      exact ⟨z.2, q2⟩
  refine ⟨by rw [List.length_set, List.length_set]; exact R.len, fun j s ow q1 q2 => ?_, fun j l fr fr' c c' b q1 q2 q3 q4 => ?_, R.mc, R.mx, fun j fr c b q1 q2 => ?_, R.old, R.gr, fun b hb j c x q1 q2 => R.pin b hb j c x (shr q1 q2).1 (shr q1 q2).2⟩
  · rcases get_set_some q1 with ⟨z1, z2, z3⟩ | ⟨z1, z2⟩
    · subst z1 z2
      trivial
    · rw [List.getElem?_set_ne (Ne.symm z1)] at q2
      exact R.sl j s ow z2 q2
  · exact R.sep j l _ _ _ _ b (shr q1 q3).1 (shr q2 q4).1 (shr q1 q3).2 (shr q2 q4).2
  · exact R.own j fr c b (shr q1 q2).1 (shr q1 q2).2
/-- a new list (or dict) of one's own in a slot: its address a was added to M -/
theorem RelS.setO (R : RelS K cs Mc M ρ σ H) {i : Nat} {a : Addr} {c : Ct} (ma : M a) (ca : CtOk K M H a c) (h0 : (∀ b ∈ cs, b.z a ∨ b.h a = none) ∧ ¬ Mc a) (nm : ¬ Mut ρ σ a) : RelS K cs Mc M (ρ.set i (.o true c)) (σ.set i (some (.ref a))) H := by
  have shr : ∀ {j : Nat} {fr : Bool} {c' : Ct} {b : Addr}, (ρ.set i (.o true c))[j]? = some (.o fr c') → (σ.set i (some (.ref a)))[j]? = some (some (.ref b)) → (j = i ∧ fr = true ∧ b = a) ∨ (j ≠ i ∧ ρ[j]? = some (.o fr c') ∧ σ[j]? = some (some (.ref b))) := fun {j fr c' b} q q2 => by
    rcases get_set_some q with ⟨z1, z2, z3⟩ | z
    · subst z1
      rw [List.getElem?_set_self (by rw [← R.len]; exact z3)] at q2
      cases q2
      injection z2 with z2
      exact .inl ⟨rfl, z2, rfl⟩
    · rw [List.getElem?_set_ne (Ne.symm z.1)] at q2
      exact .inr ⟨z.1, z.2, q2⟩
  refine ⟨by rw [List.length_set, List.length_set]; exact R.len, fun j s ov q1 q2 => ?_, fun j l fr fr' c c' b q1 q2 q3 q4 => ?_, R.mc, R.mx, fun j fr c b q1 q2 => ?_, R.old, R.gr, fun b hb j c x q1 q2 => by
    rcases shr q1 q2 with ⟨_, z, _⟩ | ⟨_, z2, z3⟩
    · cases z
    · exact R.pin b hb j c x z2 z3⟩
  · rcases get_set_some q1 with ⟨z1, z2, z3⟩ | ⟨z1, z2⟩
    · subst z1 z2
      rw [List.getElem?_set_self (by rw [← R.len]; exact z3)] at q2
      cases q2
      exact ⟨a, rfl, ma, ca⟩
    · rw [List.getElem?_set_ne (Ne.symm z1)] at q2
      exact R.sl j s ov z2 q2
  · rcases shr q1 q3 with ⟨z1, _, z2⟩ | ⟨z1, z2, z3⟩
    · rcases shr q2 q4 with ⟨y1, _, y2⟩ | ⟨y1, y2, y3⟩
      · rw [z1, y1]
      · subst z2
        exact absurd ⟨l, _, _, y2, y3⟩ nm
    · rcases shr q2 q4 with ⟨y1, _, y2⟩ | ⟨y1, y2, y3⟩
      · subst y2
        exact absurd ⟨j, _, _, z2, z3⟩ nm
      · exact R.sep j l _ _ _ _ b z2 y2 z3 y3
  · rcases shr q1 q2 with ⟨z1, z2, z3⟩ | ⟨z1, z2, z3⟩
    · subst z3 z2
      exact ⟨h0.1, fun _ => h0.2⟩
    · exact R.own j fr c b z2 z3
theorem RelS.nobase (R : RelS K cs Mc M ρ σ H) {b : Bs} (hb : b ∈ cs) {p : Addr} (h : H p = none) : b.h p = none := by
  cases e : b.h p with
  | none => rfl
  | some o => exact absurd h ((R.old b hb).there p (by rw [e]; exact fun z => nomatch z))
/-- the heap as it is now is held fast -/
theorem RelS.root (R : RelS K cs Mc M ρ σ H) : RelS K (⟨Mut ρ σ, M, H, fun i a => σ[i]? = some (some (.ref a))⟩ :: cs) Mc M ρ σ H := by
  refine ⟨R.len, R.sl, R.sep, R.mc, R.mx, fun i fr c a h e => ⟨fun b hb => ?_, (R.own i fr c a h e).2⟩, fun b hb => ?_, fun b hb a m => ?_, fun b hb i c a h e => ?_⟩
  · rcases List.mem_cons.mp hb with z | z
    · rw [z]; exact .inl ⟨i, fr, c, h, e⟩
    · exact (R.own i fr c a h e).1 b z
  · rcases List.mem_cons.mp hb with z | z
    · rw [z]; exact .refl
    · exact R.old b z
  · rcases List.mem_cons.mp hb with z | z
    · rw [z]; exact .inl m
    · exact R.gr b z a m
  · rcases List.mem_cons.mp hb with z | z
    · rw [z]; exact e
    · exact R.pin b z i c a h e
theorem RelS.unroot {b : Bs} (R : RelS K (b :: cs) Mc M ρ σ H) : RelS K cs Mc M ρ σ H :=
  ⟨R.len, R.sl, R.sep, R.mc, R.mx, fun i fr c a h e => ⟨fun b hb => (R.own i fr c a h e).1 b (List.mem_cons_of_mem _ hb), (R.own i fr c a h e).2⟩, fun b hb => R.old b (List.mem_cons_of_mem _ hb), fun b hb => R.gr b (List.mem_cons_of_mem _ hb), fun b hb => R.pin b (List.mem_cons_of_mem _ hb)⟩
/-- what was data then is data now -/
theorem RelS.then_rd {b : Bs} (R : RelS K (b :: cs) Mc M ρ σ H) {v : V} {d : D} (r : RD K b.m b.h v d) (hz : ∀ a, b.z a → b.m a) : RD K M H v d :=
  r.kp (R.old b List.mem_cons_self) hz (R.gr b List.mem_cons_self)
theorem RelS.then_rds {b : Bs} (R : RelS K (b :: cs) Mc M ρ σ H) {v : List V} {d : List D} (r : RDs K b.m b.h v d) (hz : ∀ a, b.z a → b.m a) : RDs K M H v d :=
  r.kp (R.old b List.mem_cons_self) hz (R.gr b List.mem_cons_self)
/-- an address comes to M -/
theorem RelS.grow (R : RelS K cs Mc M ρ σ H) {p : Addr} {o : HO} (h : H p = none) : RelS K cs Mc (fun b => M b ∨ b = p) ρ σ (upd H p o) := by
  have k : Kp (fun _ => False) H (upd H p o) := Kp.fresh h
  have hm : ∀ b, (M b ∨ b = p) → M b ∨ H b = none := fun b z => z.imp id fun y => by rw [y]; exact h
  refine ⟨R.len, fun i s ov q e => ?_, R.sep, fun a z => .inl (R.mc a z), fun a m => ?_, R.own, fun b hb => (R.old b hb).trans (k.mono fun _ z => z.elim), fun b hb a z => ?_, R.pin⟩
  · have q := R.sl i s ov q e
    cases s with
    | un => trivial
    | p d =>
      obtain ⟨v, e1, r⟩ := q
      exact ⟨v, e1, r.kp k (fun b z => z.elim) hm⟩
    | o fr c =>
      obtain ⟨a, e1, m, r⟩ := q
      exact ⟨a, e1, .inl m, r.kp k (fun b z => z.elim) hm fun z => z⟩
    | sc ns =>
      obtain ⟨a, e1, r⟩ := q
      refine ⟨a, e1, ?_⟩
      rcases r with ⟨o, r⟩ | r
      · exact .inl ⟨o, k.frzs _ _ _ r⟩
      · exact .inr r
  · rcases m with m | m
    · exact k.there a (R.mx a m)
    · rw [m, upd_same]
      exact fun z => nomatch z
  · rcases z with z | z
    · exact R.gr b hb a z
    · rw [z]
      exact .inr (R.nobase hb h)
/-- a list of one's own is changed -/
theorem RelS.write (R : RelS K cs Mc M ρ σ H) {i : Nat} {fr : Bool} {ds es : List D} {a : Addr} {ys : List V} (h : ρ[i]? = some (.o fr (.ls ds))) (e : σ[i]? = some (some (.ref a))) (r : RDs K M H ys es) :
    Post K cs Mc M ρ σ H M (ρ.set i (.o fr (.ls es))) (upd H a (.lst ys)) := by
  obtain ⟨b, e', m, xs, h1, h2⟩ := R.ownA h
  rw [e] at e'
  cases e'
  have hmut : Mut ρ σ a := ⟨i, fr, _, h, e⟩
  have k : Kp (fun b => b = a) H (upd H a (.lst ys)) := Kp.write h1 rfl
  have kz : ∀ b, b = a → M b := fun b z => by rw [z]; exact m
  have hi : i < ρ.length := (List.getElem?_eq_some_iff.mp h).1
  have shr : ∀ {j : Nat} {fr' : Bool} {c' : Ct} {b : Addr}, (ρ.set i (.o fr (.ls es)))[j]? = some (.o fr' c') → ∃ c, ρ[j]? = some (.o fr' c) := fun {j fr' c' b} q => by
    rcases get_set_some q with ⟨z, y, _⟩ | z
    · injection y with y1 y2
      subst z y1
      exact ⟨_, h⟩
    · exact ⟨_, z.2⟩
  refine ⟨⟨by rw [List.length_set]; exact R.len, fun j s ov q1 q2 => ?_, fun j l f f' c c' b q1 q2 q3 q4 => ?_, R.mc, fun b z => k.there b (R.mx b z), fun j f c b q1 q2 => ?_, fun B hB => ?_, R.gr, fun B hB j c b q1 q2 => by
    obtain ⟨c1, z1⟩ := shr (b := b) q1
    exact R.pin B hB j c1 b z1 q2⟩, fun _ z => z, k.mono fun b z => by rw [z]; exact hmut, fun j f c q => shr (b := a) q⟩
  · rcases get_set_some q1 with ⟨z1, z2, _⟩ | ⟨z1, z2⟩
    · subst z1 z2
      rw [e] at q2
      cases q2
      exact ⟨a, rfl, m, ys, upd_same, r.kp k kz fun b z => .inl z⟩
    · have q := R.sl j s ov z2 q2
      cases s with
      | un => trivial
      | p d =>
        obtain ⟨v, e1, r⟩ := q
        exact ⟨v, e1, r.kp k kz fun b z => .inl z⟩
      | o f c =>
        obtain ⟨b, e1, mb, r⟩ := q
        subst e1
        refine ⟨b, rfl, mb, r.kp k kz (fun b z => .inl z) fun z => ?_⟩
        subst z
        exact z1 (R.sep j i _ _ _ _ _ z2 h q2 e)
      | sc ns =>
        obtain ⟨b, e1, r⟩ := q
        refine ⟨b, e1, ?_⟩
        rcases r with ⟨o, r⟩ | r
        · exact .inl ⟨o, k.frzs _ _ _ r⟩
        · exact .inr r
  · obtain ⟨c1, z1⟩ := shr (b := b) q1
    obtain ⟨c2, z2⟩ := shr (b := b) q2
    exact R.sep j l _ _ _ _ b z1 z2 q3 q4
  · obtain ⟨c1, z1⟩ := shr (b := b) q1
    exact R.own j f _ b z1 q2
  · have ow := (R.own i fr _ a h e).1 B hB
    have ko := R.old B hB
    refine ⟨fun b o nz q => ?_, fun b ys q => k.tups _ _ (ko.tups b ys q), fun b o u q => k.frzs _ _ _ (ko.frzs b o u q), fun b q => k.there b (ko.there b q)⟩
    refine k.keep b o (fun z => ?_) (ko.keep b o nz q)
    subst z
    rcases ow with ow | ow
    · exact nz ow
    · rw [ow] at q
      cases q
theorem RelS.writeO (R : RelS K cs Mc M ρ σ H) {i : Nat} {fr : Bool} {c c2 : Ct} {a : Addr} {o : HO} (h : ρ[i]? = some (.o fr c)) (e : σ[i]? = some (some (.ref a))) (k : Kp (fun b => b = a) H (upd H a o)) (ca : CtOk K M (upd H a o) a c2) :
    Post K cs Mc M ρ σ H M (ρ.set i (.o fr c2)) (upd H a o) := by
  obtain ⟨b, e', m, h1⟩ := R.ownA h
  rw [e] at e'
  cases e'
  have hmut : Mut ρ σ a := ⟨i, fr, _, h, e⟩
  have kz : ∀ b, b = a → M b := fun b z => by rw [z]; exact m
  have hi : i < ρ.length := (List.getElem?_eq_some_iff.mp h).1
  have shr : ∀ {j : Nat} {fr' : Bool} {c' : Ct} {b : Addr}, (ρ.set i (.o fr c2))[j]? = some (.o fr' c') → ∃ c, ρ[j]? = some (.o fr' c) := fun {j fr' c' b} q => by
    rcases get_set_some q with ⟨z, y, _⟩ | z
    · injection y with y1 y2
      subst z y1
      exact ⟨_, h⟩
    · exact ⟨_, z.2⟩
  refine ⟨⟨by rw [List.length_set]; exact R.len, fun j s ov q1 q2 => ?_, fun j l f f' c c' b q1 q2 q3 q4 => ?_, R.mc, fun b z => k.there b (R.mx b z), fun j f c b q1 q2 => ?_, fun B hB => ?_, R.gr, fun B hB j c b q1 q2 => by
    obtain ⟨c1, z1⟩ := shr (b := b) q1
    exact R.pin B hB j c1 b z1 q2⟩, fun _ z => z, k.mono fun b z => by rw [z]; exact hmut, fun j f c q => shr (b := a) q⟩
  · rcases get_set_some q1 with ⟨z1, z2, _⟩ | ⟨z1, z2⟩
    · subst z1 z2
      rw [e] at q2
      cases q2
      exact ⟨a, rfl, m, ca⟩
    · have q := R.sl j s ov z2 q2
      cases s with
      | un => trivial
      | p d =>
        obtain ⟨v, e1, r⟩ := q
        exact ⟨v, e1, r.kp k kz fun b z => .inl z⟩
      | o f c =>
        obtain ⟨b, e1, mb, r⟩ := q
        subst e1
        refine ⟨b, rfl, mb, r.kp k kz (fun b z => .inl z) fun z => ?_⟩
        subst z
        exact z1 (R.sep j i _ _ _ _ _ z2 h q2 e)
      | sc ns =>
        obtain ⟨b, e1, r⟩ := q
        refine ⟨b, e1, ?_⟩
        rcases r with ⟨o, r⟩ | r
        · exact .inl ⟨o, k.frzs _ _ _ r⟩
        · exact .inr r
  · obtain ⟨c1, z1⟩ := shr (b := b) q1
    obtain ⟨c2, z2⟩ := shr (b := b) q2
    exact R.sep j l _ _ _ _ b z1 z2 q3 q4
  · obtain ⟨c1, z1⟩ := shr (b := b) q1
    exact R.own j f _ b z1 q2
  · have ow := (R.own i fr _ a h e).1 B hB
    have ko := R.old B hB
    refine ⟨fun b o nz q => ?_, fun b ys q => k.tups _ _ (ko.tups b ys q), fun b o u q => k.frzs _ _ _ (ko.frzs b o u q), fun b q => k.there b (ko.there b q)⟩
    refine k.keep b o (fun z => ?_) (ko.keep b o nz q)
    subst z
    rcases ow with ow | ow
    · exact nz ow
    · rw [ow] at q
      cases q
theorem Kp.writeX {Z : AS} {H : Hp} {p : Addr} {o : HO} {φ : Heap → Prop} (h : H p = some (.ext φ)) (z : Z p) : Kp Z H (upd H p o) := by
  refine ⟨fun b x nz e => ?_, fun b ys e => ?_, fun b x u e => ?_, fun b e => ?_⟩
  · rw [upd_ne (fun q => nz (by rw [q]; exact z))]; exact e
  · rw [upd_ne (fun q => by rw [q, h] at e; cases e)]; exact e
  · rw [upd_ne (fun q => by rw [q, h] at e; cases e)]; exact e
  · by_cases q : b = p
    · rw [q, upd_same]; exact fun z => nomatch z
    · rw [upd_ne q]; exact e
end
end DL

end

section
namespace DL
open PySem PySem.Spec PyProof.Rows L2

/-! a small language of data, without places in the text -/
inductive P1 where
  | len | neg | tupOf | listOf | intOf | strOf | all | any | sum | maxOf | minOf | sorted | sortedT | srtSet | lenSet | isNone | notNone | isInt | isBool | isTup | isStr | isList | rev
  deriving DecidableEq
inductive P2 where
  | add | sub | mul | fdiv | mod | pow | shl | eq | ne | lt | le | gt | ge | inn | nin | idx | min | max | index | indexL | count | from | upto
  deriving DecidableEq
inductive DE where
  | var (i : Nat) | bv (i : Nat) | c (d : D) | gl (x : Str)
  | op1 (p : P1) (a : DE) | op2 (p : P2) (a b : DE) | cut (a lo hi : DE)
  | and (a b : DE) | or (a b : DE) | not (a : DE) | ite (t a b : DE)
  | chain (p q : P2) (a b c : DE)
  | tup (es : DE) | lst (es : DE) | nil | cons (a es : DE)
  | call (f : Str) (es : DE) (dv : Nat)
  | lc (tg : List Nat) (it cond elt : DE) (vs : List Nat)
  | lc2 (tg : List Nat) (it : DE) (tg1 : List Nat) (it1 cond elt : DE) (vs vs1 : List Nat)
  | lc3 (tg : List Nat) (it : DE) (tg1 : List Nat) (it1 : DE) (tg2 : List Nat) (it2 cond elt : DE) (vs vs1 vs2 : List Nat)
  | rng1 (a : DE) | rng2 (a b : DE) | zip (a b : DE) | enum (a : DE)
  | rngT (a : DE) | rngL (a : DE)
  | never
  | pop (i : Nat) (e : DE) | slen (i : Nat) | sat (i : Nat) (e : DE)
  | dget (i : Nat) (k x : DE) | dat (i : Nat) (k : DE)
  | bget (i : Nat) (k x : DE)
/-- what a clause of a try returns: a constant; a field of the exception; one of two constants, by a field -/
inductive Hd where
  | ret (d : D) | fld (f : Str) | feq (f : Str) (n : Int) (a b : D)
inductive DS where
  | skip | seq (a b : DS)
  | asg (i : Nat) (e : DE) | dct (i : Nat) (e : DE) | own (i : Nat) (e : DE) | tupa (is : List Nat) (e : DE) | par (is : List Nat) (es : DE) | parO (i : Nat) (e : DE) (is : List Nat) (es : DE)
  | app (i : Nat) (e : DE) | seti (i : Nat) (j : DE) (e : DE) | aug (i : Nat) (p : P2) (e : DE) | ex (e : DE)
  | ife (t : DE) (a b : DS) | for' (tg : List Nat) (it : DE) (b : DS) | whl (t : DE) (b : DS)
  | ret (e : DE) | retF (e : DE) | retO (i : Nat) | retN | brk | cnt
  | raise (c : Str) | raise1 (c f : Str) (e : DE)
  | tryn (b : DS) (hs : List (Str × Hd))
  | never
  | dnew (i : Nat) | bset (i : Nat) (k e : DE) | parN (is : List Nat) (es : DE) (i : Nat)
  | trye (b : DS) (c : Str) (r : D) | tryf (b : DS) (c : Str) (f : Str)

/-- an exception: its class, what its one attribute holds -/
structure Ex where
  c : Str
  f : Option (Str × D)
/-- an argument -/
inductive Ag where
  | p (d : D) | o (c : Ct) | sc (ns : List Int)
/-- what a def promises, over data -/
abbrev DSp := List Ag → (D → List Ct → Prop) → (Ex → Prop) → Prop
/-- what the names of the module hold -/
structure Gm where
  fn : Str → DSp
  /-- a list that nobody else holds comes -/
  fr : Str → Bool
  cs : Str → Option D
  /-- exceptions' classes; whether the first is caught by the second -/
  xs : List Str
  sb : Str → Str → Bool

/-! ### the operations -/
def ixI (n : Nat) (i : Int) : Option Nat := ixN n i
@[simp] def itemsOf : D → Option (List D)
  | .list ds => some ds
  | .tuple ds => some ds
  | _ => none
def boolsOf : List D → Option (List Bool)
  | [] => some []
  | .bool b :: r => (boolsOf r).map (b :: ·)
  | _ :: _ => none
def intsOf : List D → Option (List Int)
  | [] => some []
  | .int b :: r => (intsOf r).map (b :: ·)
  | _ :: _ => none
def strsOf : List D → Option (List Str)
  | [] => some []
  | .str b :: r => (strsOf r).map (b :: ·)
  | _ :: _ => none
def sortD (ds : List D) : List D := ds.mergeSort (PySem.W.dataLe false id)
def SortOk (ds : List D) : Prop := (∀ d ∈ ds, d.depth ≤ 60) ∧ (2 ≤ ds.length → PySem.W.AllAlike ds ∧ PySem.W.Sortable ds)
/-- the items without those that are told again -/
def dedup : List D → List D
  | [] => []
  | d :: ds => d :: (dedup ds).filter fun e => !PyData.eqv d e
def tupInts : D → Option (List Int)
  | .tuple ds => intsOf ds
  | _ => none
/-- what may stand in a set here: ints alone, tuples of ints alone, or tuples of tuples of ints alone -/
def SetOk (ds : List D) : Prop := ((∃ ns : List Int, ds = ns.map .int) ∨ (∃ rs : List (List Int), (ds = rs.map fun r => .tuple (r.map .int)) ∧ (2 ≤ (dedup ds).length → ∀ r ∈ rs, r ≠ [])) ∨ (∃ rs : List (List (List Int)), (ds = rs.map fun r => .tuple (r.map fun t => .tuple (t.map .int))) ∧ (2 ≤ (dedup ds).length → ∀ r ∈ rs, r ≠ []))) ∧ (dedup ds).length ≤ 300
@[simp] def sLen : D → (D → Prop) → Prop
  | .list ds, k => k (.int ds.length)
  | .tuple ds, k => k (.int ds.length)
  | .str x, k => x.length ≤ sizeLine ∧ k (.int x.length)
  | _, _ => False
@[simp] def sNeg : D → (D → Prop) → Prop
  | .int i, k => k (.int (-i))
  | _, _ => False
@[simp] def sTupOf : D → (D → Prop) → Prop
  | .list ds, k => k (.tuple ds)
  | .tuple ds, k => k (.tuple ds)
  | _, _ => False
@[simp] def sListOf : D → (D → Prop) → Prop
  | .list ds, k => k (.list ds)
  | .tuple ds, k => k (.list ds)
  | _, _ => False
@[simp] def sIntOf : D → (D → Prop) → Prop
  | .int i, k => k (.int i)
  | .bool b, k => k (.int (if b then 1 else 0))
  | _, _ => False
@[simp] def sStrOf : D → (D → Prop) → Prop
  | .int i, k => i.natAbs.log2 < 1920 ∧ k (.str (toString i))
  | _, _ => False
@[simp] def sAll : D → (D → Prop) → Prop
  | .list ds, k => ∃ bs : List Bool, ds = bs.map .bool ∧ k (.bool (bs.all id))
  | _, _ => False
@[simp] def sAny : D → (D → Prop) → Prop
  | .list ds, k => ∃ bs : List Bool, ds = bs.map .bool ∧ k (.bool (bs.any id))
  | _, _ => False
@[simp] def sSum : D → (D → Prop) → Prop
  | .list ds, k => ∃ ns : List Int, ds = ns.map .int ∧ k (.int ns.sum)
  | _, _ => False
@[simp] def sMaxOf : D → (D → Prop) → Prop
  | .list ds, k => ∃ ns : List Int, ds = ns.map .int ∧ ∃ m, m ∈ ns ∧ (∀ y ∈ ns, y ≤ m) ∧ k (.int m)
  | _, _ => False
@[simp] def sMinOf : D → (D → Prop) → Prop
  | .list ds, k => ∃ ns : List Int, ds = ns.map .int ∧ ∃ m, m ∈ ns ∧ (∀ y ∈ ns, m ≤ y) ∧ k (.int m)
  | _, _ => False
@[simp] def sSorted : D → (D → Prop) → Prop
  | .list ds, k => SortOk ds ∧ k (.list (sortD ds))
  | _, _ => False
@[simp] def sSortedT : D → (D → Prop) → Prop
  | .tuple ds, k => SortOk ds ∧ k (.list (sortD ds))
  | _, _ => False
@[simp] def sSrtSet : D → (D → Prop) → Prop
  | .list ds, k => SetOk ds ∧ k (.list (sortD (dedup ds)))
  | .tuple ds, k => SetOk ds ∧ k (.list (sortD (dedup ds)))
  | _, _ => False
@[simp] def sLenSet : D → (D → Prop) → Prop
  | .list ds, k => SetOk ds ∧ k (.int (dedup ds).length)
  | _, _ => False
@[simp] def isN : D → Bool
  | .none => true
  | _ => false
@[simp] def isI : D → Bool
  | .int _ => true
  | .bool _ => true
  | _ => false
@[simp] def isB : D → Bool
  | .bool _ => true
  | _ => false
@[simp] def isT : D → Bool
  | .tuple _ => true
  | _ => false
@[simp] def isS : D → Bool
  | .str _ => true
  | _ => false
@[simp] def isL : D → Bool
  | .list _ => true
  | _ => false
@[simp] def sRev : D → (D → Prop) → Prop
  | .list ds, k => k (.list ds.reverse)
  | .tuple ds, k => k (.tuple ds.reverse)
  | _, _ => False
@[simp] def s1 : P1 → D → (D → Prop) → Prop
  | .len => sLen
  | .neg => sNeg
  | .tupOf => sTupOf
  | .listOf => sListOf
  | .intOf => sIntOf
  | .strOf => sStrOf
  | .all => sAll
  | .any => sAny
  | .sum => sSum
  | .maxOf => sMaxOf
  | .minOf => sMinOf
  | .sorted => sSorted
  | .sortedT => sSortedT
  | .srtSet => sSrtSet
  | .lenSet => sLenSet
  | .isNone => fun d k => k (.bool (isN d))
  | .notNone => fun d k => k (.bool (!isN d))
  | .isInt => fun d k => k (.bool (isI d))
  | .isBool => fun d k => k (.bool (isB d))
  | .isTup => fun d k => k (.bool (isT d))
  | .isStr => fun d k => k (.bool (isS d))
  | .isList => fun d k => k (.bool (isL d))
  | .rev => sRev
/-- d < e, for data that compare -/
def LtOk (d e : D) : Prop := PySem.W.alike d e = true ∧ d ≠ .none ∧ d.depth ≤ 60
def EqOk (d e : D) : Prop := d.depth ≤ 60 ∨ e.depth ≤ 60
def InOk (d : D) : Prop := d.depth ≤ 60
def takeI (n : Nat) : Int → Nat := fun i => HT.sIx n n (some i)
def dropI (n : Nat) : Int → Nat := fun i => HT.sIx n 0 (some i)
@[simp] def sAdd : D → D → (D → Prop) → Prop
  | .int i, .int j, k => k (.int (i + j))
  | .list a, .list b, k => a.length + b.length ≤ sizeLine ∧ k (.list (a ++ b))
  | .tuple a, .tuple b, k => a.length + b.length ≤ sizeLine ∧ k (.tuple (a ++ b))
  | .str a, .str b, k => a.length + b.length ≤ sizeLine ∧ k (.str (a ++ b))
  | _, _, _ => False
@[simp] def sII (f : Int → Int → (D → Prop) → Prop) : D → D → (D → Prop) → Prop
  | .int i, .int j, k => f i j k
  | _, _, _ => False
@[simp] def sMul : D → D → (D → Prop) → Prop
  | .int i, .int j, k => CMul i j ∧ k (.int (i * j))
  | .tuple a, .int j, k => a ≠ [] ∧ 1 ≤ j ∧ j ≤ 1000 ∧ a.length ≤ 1000 ∧ k (.tuple (List.replicate j.toNat a).flatten)
  | .list a, .int j, k => -1000 < j ∧ j < 1000 ∧ a.length ≤ 1000 ∧ k (.list (List.replicate j.toNat a).flatten)
  | _, _, _ => False
@[simp] def sEq (neg : Bool) (d e : D) (k : D → Prop) : Prop := EqOk d e ∧ k (.bool (PyData.eqv d e != neg))
@[simp] def sLt : D → D → (D → Prop) → Prop
  | .int i, .int j, k => k (.bool (decide (i < j)))
  | .tuple a, .tuple b, k => LtOk (.tuple a) (.tuple b) ∧ k (.bool (PySem.W.dataLt (.tuple a) (.tuple b)))
  | _, _, _ => False
@[simp] def sLe : D → D → (D → Prop) → Prop
  | .int i, .int j, k => k (.bool (decide (i ≤ j)))
  | .tuple a, .tuple b, k => LtOk (.tuple a) (.tuple b) ∧ k (.bool (!PySem.W.dataLt (.tuple b) (.tuple a)))
  | _, _, _ => False
@[simp] def sIn (neg : Bool) : D → D → (D → Prop) → Prop
  | d, .list es, k => InOk d ∧ k (.bool ((es.any fun e => PyData.eqv e d) != neg))
  | d, .tuple es, k => InOk d ∧ k (.bool ((es.any fun e => PyData.eqv e d) != neg))
  | _, _, _ => False
@[simp] def sIdx : D → D → (D → Prop) → Prop
  | .list ds, .int i, k => ∃ d, atI ds i = some d ∧ k d
  | .tuple ds, .int i, k => ∃ d, atI ds i = some d ∧ k d
  | _, _, _ => False
@[simp] def sFrom : D → D → (D → Prop) → Prop
  | .list ds, .int i, k => k (.list (ds.drop (dropI ds.length i)))
  | .tuple ds, .int i, k => k (.tuple (ds.drop (dropI ds.length i)))
  | _, _, _ => False
@[simp] def sUpto : D → D → (D → Prop) → Prop
  | .list ds, .int i, k => k (.list (ds.take (takeI ds.length i)))
  | .tuple ds, .int i, k => k (.tuple (ds.take (takeI ds.length i)))
  | _, _, _ => False
@[simp] def sIndex : D → D → (D → Prop) → Prop
  | .tuple ds, d, k => InOk d ∧ ∃ j : Nat, (ds.findIdx? fun e => PyData.eqv e d) = some j ∧ k (.int j)
  | _, _, _ => False
@[simp] def sIndexL : D → D → (D → Prop) → Prop
  | .list ds, d, k => InOk d ∧ ∃ j : Nat, (ds.findIdx? fun e => PyData.eqv e d) = some j ∧ k (.int j)
  | _, _, _ => False
@[simp] def sCount : D → D → (D → Prop) → Prop
  | .list ds, d, k => InOk d ∧ k (.int (ds.countP fun e => PyData.eqv e d : Nat))
  | _, _, _ => False
@[simp] def s2 : P2 → D → D → (D → Prop) → Prop
  | .add => sAdd
  | .sub => sII fun i j k => k (.int (i - j))
  | .mul => sMul
  | .fdiv => sII fun i j k => CDiv i j ∧ k (.int (i / j))
  | .mod => sII fun i j k => 0 < j ∧ k (.int (i % j))
  | .pow => sII fun i j k => CPow i j ∧ k (.int (i ^ j.toNat))
  | .shl => sII fun i j k => CPow i j ∧ k (.int (i * 2 ^ j.toNat))
  | .eq => sEq false
  | .ne => sEq true
  | .lt => sLt
  | .le => sLe
  | .gt => sII fun i j k => k (.bool (decide (j < i)))
  | .ge => sII fun i j k => k (.bool (decide (j ≤ i)))
  | .inn => sIn false
  | .nin => sIn true
  | .idx => sIdx
  | .min => sII fun i j k => k (.int (if j < i then j else i))
  | .max => sII fun i j k => k (.int (if j > i then j else i))
  | .index => sIndex
  | .indexL => sIndexL
  | .count => sCount
  | .from => sFrom
  | .upto => sUpto

/-! ### states -/
inductive Od where
  | d (x : D) | s (i : Nat)
@[simp] def rs : Od → Ro → Option D
  | .d x, _ => some x
  | .s i, ρ => match ρ[i]? with
    | some (.p d) => some d
    | some (.o _ (.ls ds)) => some (.list ds)
    | _ => none
@[simp] def agOf : Od → Ro → Option Ag
  | .d x, _ => some (.p x)
  | .s i, ρ => match ρ[i]? with
    | some (.p d) => some (.p d)
    | some (.o _ c) => some (.o c)
    | some (.sc ns) => some (.sc ns)
    | _ => none
@[simp] def agsOf : List Od → Ro → Option (List Ag)
  | [], _ => some []
  | o :: os, ρ => match agOf o ρ, agsOf os ρ with
    | some a, some as => some (a :: as)
    | _, _ => none
/-- behind a call: the lists that were handed on hold what they hold then -/
@[simp] def putOuts : List Od → List Ct → Ro → Ro
  | [], _, ρ => ρ
  | .d _ :: os, cs, ρ => putOuts os cs ρ
  | .s i :: os, cs, ρ => match ρ[i]?, cs with
    | some (.o fr _), c :: cs => putOuts os cs (ρ.set i (.o fr c))
    | _, cs => putOuts os cs ρ
/-- an item given to its names -/
@[simp] def bindT : List Nat → D → Ro → Option Ro
  | [i], d, ρ => some (ρ.set i (.p d))
  | is, .tuple ds, ρ => if is.length = ds.length then some ((is.zip ds).foldl (fun r p => r.set p.1 (.p p.2)) ρ) else none
  | _, _, _ => none
@[simp] def wipeR (ρ : Ro) : List Nat → Ro
  | [] => ρ
  | v :: vs => (wipeR ρ vs).set v .un
/-- behind a comprehension's turn: its own names are those outside again -/
@[simp] def backR (ρ ρ' : Ro) : List Nat → Ro
  | [] => ρ'
  | v :: vs => (backR ρ ρ' vs).set v (ρ.getD v .un)
@[simp] def noOwn (ρ : Ro) (vs : List Nat) : Bool := vs.all fun v => match ρ[v]? with
  | some (.o _ _) => false
  | _ => true

abbrev KE' := D → Ro → Prop
/-- one turn after another -/
def lcL (body : D → List D → Ro → (List D → Ro → Prop) → Prop) (chk : Ro → Prop) : List D → List D → Ro → (List D → Ro → Prop) → Prop
  | [], acc, ρ, k => k acc ρ
  | x :: xs, acc, ρ, k => body x acc ρ fun acc' ρ' => chk ρ' ∧ lcL body chk xs acc' ρ' k
/-- the turns are looked at one by one -/
inductive Tok {α : Type} (a : α) : Type where
  | mk
def lcLT (body : D → List D → Ro → (List D → Ro → Prop) → Prop) (chk : Ro → Prop) (k : List D → Ro → Prop) (_ : Tok (body, chk, k)) (xs acc : List D) (ρ : Ro) : Prop := lcL body chk xs acc ρ k
@[simp ↓] theorem lcL_T {body : D → List D → Ro → (List D → Ro → Prop) → Prop} {chk : Ro → Prop} {xs acc : List D} {ρ : Ro} {k : List D → Ro → Prop} : lcL body chk xs acc ρ k = lcLT body chk k .mk xs acc ρ := rfl
/-- the items with their places -/
def enumD (xs : List D) : List D := (xs.zipIdx).map fun p => .tuple [.int (p.2 : Nat), p.1]
def rangeD (lo : Int) (n : Nat) : List D := (List.range n).map fun i => .int (lo + (i : Nat))
@[simp] def kOfB (k : Bool → Ro → Prop) : KE' := fun d ρ => match d with
  | .bool b => k b ρ
  | _ => False
abbrev SE := Ro → KE' → (Ex → Prop) → Prop
@[simp] def isOwnL (ρ : Ro) (i : Nat) : Bool := match ρ[i]? with
  | some (.o _ (.ls _)) => true
  | _ => false
@[simp] def isOwnD (ρ : Ro) (i : Nat) : Bool := match ρ[i]? with
  | some (.o _ (.dk _)) => true
  | _ => false
@[simp] def isOwnB (ρ : Ro) (i : Nat) : Bool := match ρ[i]? with
  | some (.o _ (.db _)) => true
  | _ => false
/-- what must be known of the receiver of a method -/
@[simp] def pre2 : P2 → Option D → Bool
  | .index, some (.tuple _) => true
  | .index, _ => false
  | .indexL, some (.list _) => true
  | .indexL, _ => false
  | .count, some (.list _) => true
  | .count, _ => false
  | _, _ => true
/-- keys of dicts -/
@[simp] def keyD : D → Option Key
  | .int i => some (.inl i)
  | .str x => some (.inr x)
  | _ => none
def lookD (kvs : List (Key × D)) (k : Key) : Option D := (kvs.find? fun p => decide (p.1 = k)).map (·.2)
def putD (kvs : List (Key × D)) (k : Key) (d : D) : List (Key × D) :=
  if (kvs.any fun p => decide (p.1 = k)) = true then kvs.map (fun p => if p.1 = k then (p.1, d) else p) else kvs ++ [(k, d)]
def mergeD (kvs more : List (Key × D)) : List (Key × D) := more.foldl (fun acc p => putD acc p.1 p.2) kvs
/-- keys that are tuples of bools -/
def bkeyD : D → Option (List Bool)
  | .tuple ds => boolsOf ds
  | _ => none
def lookB (kvs : List (List Bool × D)) (bs : List Bool) : Option D := (kvs.find? fun p => decide (p.1 = bs)).map (·.2)
def putB (kvs : List (List Bool × D)) (bs : List Bool) (d : D) : List (List Bool × D) :=
  if (lookB kvs bs).isSome = true then kvs.map (fun p => if p.1 = bs then (p.1, d) else p) else kvs ++ [(bs, d)]
/-- pairs of a key and a thing -/
@[simp] def pairsD : List D → Option (List (Key × D))
  | [] => some []
  | .tuple [k, v] :: r => match keyD k, pairsD r with
    | some y, some l => some ((y, v) :: l)
    | _, _ => none
  | _ :: _ => none
/-- the slots of one's own that are handed on -/
@[simp] def ownIx : List Od → Ro → List Nat
  | [], _ => []
  | .d _ :: os, ρ => ownIx os ρ
  | .s i :: os, ρ => match ρ[i]? with
    | some (.o _ _) => i :: ownIx os ρ
    | _ => ownIx os ρ
@[simp] def okSl (ρ : Ro) (i : Nat) : Bool := match ρ[i]? with
  | some .un => false
  | none => false
  | _ => true
/-- an operand: data, or a slot that is read when all operands are there -/
@[simp] def semO (e : DE) (ev : SE) (ρ : Ro) (k : Od → Ro → Prop) (x : Ex → Prop) : Prop := match e with
  | .bv i => okSl ρ i = true ∧ k (.s i) ρ
  | _ => ev ρ (fun d ρ1 => k (.d d) ρ1) x
@[simp] def kIt (k : List D → Ro → Prop) : KE' := fun d ρ => match itemsOf d with
  | some xs => k xs ρ
  | none => False
/-- what is walked: its items, what must hold of the state between the turns -/
@[simp] def semI (e : DE) (ev : SE) (ρ : Ro) (k : List D → (Ro → Prop) → Ro → Prop) (x : Ex → Prop) : Prop := match e with
  | .bv i => match rs (.s i) ρ with
    | some d => match itemsOf d with
      | some xs => k xs (fun ρ' => rs (.s i) ρ' = some d) ρ
      | none => False
    | none => False
  | _ => ev ρ (kIt fun xs ρ1 => k xs (fun _ => True) ρ1) x
@[simp] def x0 : Ex → Prop := fun _ => False
/-- a turn of a comprehension with one for -/
@[simp] def lcB (tg vs : List Nat) (ec el : SE) : D → List D → Ro → (List D → Ro → Prop) → Prop := fun y acc ρ2 kk => match bindT tg y (wipeR ρ2 vs) with
  | some ρ3 => ec ρ3 (kOfB fun b ρ4 => if b = true then el ρ4 (fun d ρ5 => acc.length < sizeLine ∧ kk (acc ++ [d]) (backR ρ2 ρ5 vs)) x0 else kk acc (backR ρ2 ρ4 vs)) x0
  | none => False
mutual
@[simp] def semE (Γ : Gm) : DE → Ro → KE' → (Ex → Prop) → Prop
  | .var i, ρ, k, _ => match ρ[i]? with
    | some (.p d) => k d ρ
    | some (.o true (.ls ds)) => k (.list ds) (ρ.set i (.p (.list ds)))
    | _ => False
  | .bv _, _, _, _ => False
  | .c d, ρ, k, _ => k d ρ
  | .gl x, ρ, k, _ => match Γ.cs x with
    | some d => k d ρ
    | none => False
  | .op1 p a, ρ, k, x => semO a (semE Γ a) ρ (fun o ρ1 => match rs o ρ1 with
    | some d => s1 p d fun r => k r ρ1
    | none => False) x
  | .op2 p a b, ρ, k, x => semO a (semE Γ a) ρ (fun o ρ1 => pre2 p (rs o ρ1) = true ∧ semO b (semE Γ b) ρ1 (fun o2 ρ2 => match rs o ρ2, rs o2 ρ2 with
    | some d, some e => s2 p d e fun r => k r ρ2
    | _, _ => False) x) x
  | .cut a lo hi, ρ, k, x => semO a (semE Γ a) ρ (fun o ρ1 => semE Γ lo ρ1 (fun l ρ2 => match l with
    | .int i => semE Γ hi ρ2 (fun h ρ3 => match rs o ρ3, h with
      | some (.tuple ds), .int j => k (.tuple ((ds.drop (dropI ds.length i)).take (takeI ds.length j - dropI ds.length i))) ρ3
      | some (.list ds), .int j => k (.list ((ds.drop (dropI ds.length i)).take (takeI ds.length j - dropI ds.length i))) ρ3
      | _, _ => False) x
    | _ => False) x) x
  | .and a b, ρ, k, x => semE Γ a ρ (kOfB fun c ρ1 => if c = true then semE Γ b ρ1 k x else k (.bool false) ρ1) x
  | .or a b, ρ, k, x => semE Γ a ρ (kOfB fun c ρ1 => if c = true then k (.bool true) ρ1 else semE Γ b ρ1 k x) x
  | .not a, ρ, k, x => semE Γ a ρ (kOfB fun c ρ1 => k (.bool (!c)) ρ1) x
  | .ite t a b, ρ, k, x => semE Γ t ρ (kOfB fun c ρ1 => if c = true then semE Γ a ρ1 k x else semE Γ b ρ1 k x) x
  | .chain p q a b c, ρ, k, x => semE Γ a ρ (fun d ρ1 => semE Γ b ρ1 (fun e ρ2 => s2 p d e (fun r => kOfB (fun t ρ2 => if t = true then semE Γ c ρ2 (fun f ρ3 => s2 q e f fun r => k r ρ3) x
    else k (.bool false) ρ2) r ρ2)) x) x
  | .tup es, ρ, k, x => semA Γ es ρ (fun ds ρ1 => ds.length ≤ 1000 ∧ k (.tuple ds) ρ1) x
  | .lst es, ρ, k, x => semA Γ es ρ (fun ds ρ1 => ds.length ≤ 1000 ∧ k (.list ds) ρ1) x
  | .nil, _, _, _ => False
  | .cons _ _, _, _, _ => False
  | .never, _, _, _ => False
  | .call f es dv, ρ, k, x => semG Γ es ρ (fun os ρ1 => match agsOf os ρ1 with
    | some as => ((ownIx os ρ1).Nodup ∧ (Γ.fr f = true → ownIx os ρ1 = [])) ∧ Γ.fn f (as ++ List.replicate dv (.p .none)) (fun d cs => k d (putOuts os cs ρ1)) x
    | none => False) x
  | .lc tg it cond elt vs, ρ, k, x => semI it (semE Γ it) ρ (fun xs chk ρ1 => noOwn ρ1 vs = true ∧ lcL (lcB tg vs (semE Γ cond) (semE Γ elt)) chk xs [] ρ1 fun ds ρ2 => k (.list ds) ρ2) x
  | .lc2 tg it tg1 it1 cond elt vs vs1, ρ, k, x => semI it (semE Γ it) ρ (fun xs chk ρ1 => noOwn ρ1 vs = true ∧ lcL (fun y acc ρ2 kk => match bindT tg y (wipeR ρ2 vs) with
    | some ρ3 => semI it1 (semE Γ it1) ρ3 (fun ys chk1 ρ4 => lcL (lcB tg1 vs1 (semE Γ cond) (semE Γ elt)) chk1 ys acc ρ4 fun acc' ρ5 => kk acc' (backR ρ2 ρ5 vs)) x0
    | none => False) chk xs [] ρ1 fun ds ρ2 => k (.list ds) ρ2) x
  | .lc3 tg it tg1 it1 tg2 it2 cond elt vs vs1 vs2, ρ, k, x => semI it (semE Γ it) ρ (fun xs chk ρ1 => noOwn ρ1 vs = true ∧ lcL (fun y acc ρ2 kk => match bindT tg y (wipeR ρ2 vs) with
    | some ρ3 => semI it1 (semE Γ it1) ρ3 (fun ys chk1 ρ4 => lcL (fun y1 acc1 ρ5 kk1 => match bindT tg1 y1 (wipeR ρ5 vs1) with
      | some ρ6 => semI it2 (semE Γ it2) ρ6 (fun zs chk2 ρ7 => lcL (lcB tg2 vs2 (semE Γ cond) (semE Γ elt)) chk2 zs acc1 ρ7 fun acc' ρ8 => kk1 acc' (backR ρ5 ρ8 vs1)) x0
      | none => False) chk1 ys acc ρ4 fun acc' ρ5 => kk acc' (backR ρ2 ρ5 vs)) x0
    | none => False) chk xs [] ρ1 fun ds ρ2 => k (.list ds) ρ2) x
  | .rng1 a, ρ, k, x => semE Γ a ρ (fun d ρ1 => match d with
    | .int n => (-(2 ^ 62) ≤ n ∧ n < 2 ^ 61) ∧ k (.list (rangeD 0 n.toNat)) ρ1
    | _ => False) x
  | .rng2 a b, ρ, k, x => semE Γ a ρ (fun d ρ1 => semE Γ b ρ1 (fun e ρ2 => match d, e with
    | .int m, .int n => (-(2 ^ 61) < m ∧ m < 2 ^ 61 ∧ -(2 ^ 61) < n ∧ n < 2 ^ 61) ∧ k (.list (rangeD m (n - m).toNat)) ρ2
    | _, _ => False) x) x
  | .zip a b, ρ, k, x => semE Γ a ρ (fun d ρ1 => semE Γ b ρ1 (fun e ρ2 => match d, e with
    | .list xs, .list ys => k (.list ((xs.zip ys).map fun p => .tuple [p.1, p.2])) ρ2
    | .tuple xs, .tuple ys => k (.list ((xs.zip ys).map fun p => .tuple [p.1, p.2])) ρ2
    | _, _ => False) x) x
  | .enum a, ρ, k, x => semE Γ a ρ (fun d ρ1 => match itemsOf d with
    | some xs => k (.list (enumD xs)) ρ1
    | none => False) x
  | .rngT a, ρ, k, x => semE Γ a ρ (fun d ρ1 => match d with
    | .int n => (-1000000 ≤ n ∧ n ≤ 1000000) ∧ k (.tuple (rangeD 0 n.toNat)) ρ1
    | _ => False) x
  | .rngL a, ρ, k, x => semE Γ a ρ (fun d ρ1 => match d with
    | .int n => (-1000000 ≤ n ∧ n ≤ 1000000) ∧ k (.list (rangeD 0 n.toNat)) ρ1
    | _ => False) x
  | .pop i e, ρ, k, x => isOwnL ρ i = true ∧ semE Γ e ρ (fun d ρ1 => match d, ρ1[i]? with
    | .int j, some (.o fr (.ls ds)) => (0 ≤ j ∧ j < 2 ^ 63) ∧ ∃ y, ds[j.toNat]? = some y ∧ k y (ρ1.set i (.o fr (.ls (ds.eraseIdx j.toNat))))
    | _, _ => False) x
  | .slen i, ρ, k, _ => match ρ[i]? with
    | some (.sc ns) => k (.int ns.length) ρ
    | _ => False
  | .sat i e, ρ, k, x => okSl ρ i = true ∧ semE Γ e ρ (fun d ρ1 => match d, ρ1[i]? with
    | .int j, some (.sc ns) => ∃ n, atI ns j = some n ∧ k (.int n) ρ1
    | _, _ => False) x
  | .dget i k0 x0, ρ, k, x => isOwnD ρ i = true ∧ semE Γ k0 ρ (fun d ρ1 => semE Γ x0 ρ1 (fun e ρ2 => match keyD d, ρ2[i]? with
    | some y, some (.o _ (.dk kvs)) => k ((lookD kvs y).getD e) ρ2
    | _, _ => False) x) x
  | .dat i k0, ρ, k, x => isOwnD ρ i = true ∧ semE Γ k0 ρ (fun d ρ1 => match keyD d, ρ1[i]? with
    | some y, some (.o _ (.dk kvs)) => ∃ e, lookD kvs y = some e ∧ k e ρ1
    | _, _ => False) x
  | .bget i k0 x0, ρ, k, x => isOwnB ρ i = true ∧ semE Γ k0 ρ (fun d ρ1 => semE Γ x0 ρ1 (fun e ρ2 => match bkeyD d, ρ2[i]? with
    | some bs, some (.o _ (.db kvs)) => k ((lookB kvs bs).getD e) ρ2
    | _, _ => False) x) x
/-- items of a display -/
@[simp] def semA (Γ : Gm) : DE → Ro → (List D → Ro → Prop) → (Ex → Prop) → Prop
  | .nil, ρ, k, _ => k [] ρ
  | .cons a es, ρ, k, x => semE Γ a ρ (fun d ρ1 => semA Γ es ρ1 (fun ds ρ2 => k (d :: ds) ρ2) x) x
  | _, _, _, _ => False
/-- arguments -/
@[simp] def semG (Γ : Gm) : DE → Ro → (List Od → Ro → Prop) → (Ex → Prop) → Prop
  | .nil, ρ, k, _ => k [] ρ
  | .cons a es, ρ, k, x => semO a (semE Γ a) ρ (fun d ρ1 => semG Γ es ρ1 (fun ds ρ2 => k (d :: ds) ρ2) x) x
  | _, _, _, _ => False
end
/-! ### statements -/
/-- what is wanted behind a statement -/
structure DK where
  nx : Ro → Prop
  rt : D → Ro → Prop
  /-- a list that nobody else holds is returned -/
  rtf : D → Ro → Prop
  bk : Ro → Prop
  ct : Ro → Prop
  ex : Ex → Prop
def forL (tg : List Nat) (body : DK → Ro → Prop) (K : DK) : List D → Ro → Prop
  | [], ρ => K.nx ρ
  | x :: xs, ρ => match bindT tg x ρ with
    | some ρ1 => body { K with nx := forL tg body K xs, ct := forL tg body K xs, bk := K.nx } ρ1
    | none => False
def forLT (tg : List Nat) (body : DK → Ro → Prop) (K : DK) (_ : Tok (tg, body, K)) (xs : List D) (ρ : Ro) : Prop := forL tg body K xs ρ
@[simp ↓] theorem forL_T {tg : List Nat} {body : DK → Ro → Prop} {K : DK} {xs : List D} {ρ : Ro} : forL tg body K xs ρ = forLT tg body K .mk xs ρ := rfl
def whlP (t : SE) (b : DK → Ro → Prop) (K : DK) (ρ : Ro) : Prop := ∃ W : Nat → Ro → Prop, (∃ m, W m ρ) ∧ ∀ m ρ, W m ρ → t ρ (kOfB fun c ρ1 => if c = true
      then b { K with nx := fun ρ2 => ∃ m', m' < m ∧ W m' ρ2, ct := fun ρ2 => ∃ m', m' < m ∧ W m' ρ2, bk := K.nx } ρ1 else K.nx ρ1) K.ex
def whlT (t : SE) (b : DK → Ro → Prop) (K : DK) (_ : Tok (t, b, K)) (ρ : Ro) : Prop := whlP t b K ρ
@[simp ↓] theorem whlP_T {t : SE} {b : DK → Ro → Prop} {K : DK} {ρ : Ro} : whlP t b K ρ = whlT t b K .mk ρ := rfl
@[simp] def setR : List Nat → List D → Ro → Ro
  | i :: is, d :: ds, ρ => setR is ds (ρ.set i (.p d))
  | _, _, ρ => ρ
/-- what the clauses of a try wish of an exception -/
@[simp] def hdP (K : DK) (e : Ex) : Hd → Prop
  | .ret r => ∀ ρ', K.rt r ρ'
  | .fld f => ∃ d, e.f = some (f, d) ∧ ∀ ρ', K.rt d ρ'
  | .feq f n a b => ∃ i : Int, e.f = some (f, .int i) ∧ ∀ ρ', K.rt (if i = n then a else b) ρ'
@[simp] def hsP (Γ : Gm) (K : DK) (e : Ex) : List (Str × Hd) → Prop
  | [] => K.ex e
  | (c, r) :: hs => (Γ.sb e.c c = true → hdP K e r) ∧ (Γ.sb e.c c = false → hsP Γ K e hs)
@[simp] def semS (Γ : Gm) : DS → DK → Ro → Prop
  | .skip, K, ρ => K.nx ρ
  | .seq a b, K, ρ => semS Γ a { K with nx := semS Γ b K } ρ
  | .asg i e, K, ρ => semE Γ e ρ (fun d ρ1 => K.nx (ρ1.set i (.p d))) K.ex
  | .dct i e, K, ρ => semE Γ e ρ (fun d ρ1 => match d with
    | .list ds => match pairsD ds with
      | some kvs => K.nx (ρ1.set i (.o true (.dk (mergeD [] kvs))))
      | none => False
    | _ => False) K.ex
  | .parN is es i, K, ρ => semA Γ es ρ (fun ds ρ1 => ds.length = is.length ∧ K.nx (setR is ds (ρ1.set i (.o true (.ls []))))) K.ex
  | .dnew i, K, ρ => K.nx (ρ.set i (.o true (.db [])))
  | .bset i k e, K, ρ => semE Γ e ρ (fun d ρ1 => isOwnB ρ1 i = true ∧ semE Γ k ρ1 (fun n ρ2 => match bkeyD n, ρ2[i]? with
    | some bs, some (.o fr (.db kvs)) => kvs.length < sizeLine ∧ K.nx (ρ2.set i (.o fr (.db (putB kvs bs d))))
    | _, _ => False) K.ex) K.ex
  | .own i e, K, ρ => semE Γ e ρ (fun d ρ1 => match d with
    | .list ds => K.nx (ρ1.set i (.o true (.ls ds)))
    | _ => False) K.ex
  | .tupa is e, K, ρ => semE Γ e ρ (fun d ρ1 => match d with
    | .tuple ds => ds.length = is.length ∧ (match bindT is (.tuple ds) ρ1 with
      | some ρ2 => K.nx ρ2
      | none => False)
    | _ => False) K.ex
  | .par is es, K, ρ => semA Γ es ρ (fun ds ρ1 => ds.length = is.length ∧ K.nx (setR is ds ρ1)) K.ex
  | .parO i e is es, K, ρ => semE Γ e ρ (fun d ρ1 => match d with
    | .list ds0 => semA Γ es ρ1 (fun ds ρ2 => ds.length = is.length ∧ K.nx (setR is ds (ρ2.set i (.o true (.ls ds0))))) K.ex
    | _ => False) K.ex
  | .app i e, K, ρ => isOwnL ρ i = true ∧ semE Γ e ρ (fun d ρ1 => match ρ1[i]? with
    | some (.o fr (.ls ds)) => ds.length < sizeLine ∧ K.nx (ρ1.set i (.o fr (.ls (ds ++ [d]))))
    | _ => False) K.ex
  | .seti i j e, K, ρ => semE Γ e ρ (fun d ρ1 => isOwnL ρ1 i = true ∧ semE Γ j ρ1 (fun n ρ2 => match n, ρ2[i]? with
    | .int n, some (.o fr (.ls ds)) => 0 ≤ n ∧ n.toNat < ds.length ∧ K.nx (ρ2.set i (.o fr (.ls (ds.set n.toNat d))))
    | _, _ => False) K.ex) K.ex
  | .aug i p e, K, ρ => match ρ[i]? with
    | some (.p (.int m)) => semE Γ e ρ (fun d ρ1 => match p, d with
      | .add, .int n => K.nx (ρ1.set i (.p (.int (m + n))))
      | _, _ => False) K.ex
    | _ => False
  | .ex e, K, ρ => semE Γ e ρ (fun _ ρ1 => K.nx ρ1) K.ex
  | .ife t a b, K, ρ => semE Γ t ρ (kOfB fun c ρ1 => if c = true then semS Γ a K ρ1 else semS Γ b K ρ1) K.ex
  | .for' tg it b, K, ρ => semE Γ it ρ (kIt fun xs ρ1 => forL tg (semS Γ b) K xs ρ1) K.ex
  | .whl t b, K, ρ => whlP (semE Γ t) (semS Γ b) K ρ
  | .ret e, K, ρ => semE Γ e ρ K.rt K.ex
  | .retF e, K, ρ => semE Γ e ρ K.rtf K.ex
  | .retO i, K, ρ => match ρ[i]? with
    | some (.o true (.ls ds)) => K.rtf (.list ds) (ρ.set i .un)
    | _ => False
  | .retN, K, ρ => K.rt .none ρ
  | .brk, K, ρ => K.bk ρ
  | .cnt, K, ρ => K.ct ρ
  | .raise c, K, _ => K.ex ⟨c, none⟩
  | .raise1 c f e, K, ρ => semE Γ e ρ (fun d _ => K.ex ⟨c, some (f, d)⟩) K.ex
  | .never, _, _ => False
  | .tryn b hs, K, ρ => semS Γ b { K with ex := fun e => e.c ∈ Γ.xs ∧ hsP Γ K e hs } ρ
  | .trye b c r, K, ρ => semS Γ b { K with ex := fun e => e.c ∈ Γ.xs ∧ (Γ.sb e.c c = true → ∀ ρ', K.rt r ρ') ∧ (Γ.sb e.c c = false → K.ex e) } ρ
  | .tryf b c f, K, ρ => semS Γ b { K with ex := fun e => e.c ∈ Γ.xs ∧ (Γ.sb e.c c = true → ∃ d, e.f = some (f, d) ∧ ∀ ρ', K.rt d ρ') ∧ (Γ.sb e.c c = false → K.ex e) } ρ
end DL

end

section
namespace DL
open PySem PySem.Spec PyProof.Rows L2

mutual
theorem dp_plain {K : PySem.W.Frag} {H : Hp} : ∀ {d : D} {v : V}, Dp K H v d → d.plain = true
  | .none, _, _ => rfl
  | .bool _, _, _ => rfl
  | .int _, _, _ => rfl
  | .str _, _, _ => rfl
  | .list ds, _, h => by
    cases h with
    | lst h1 h2 => exact dps_plain h2
  | .tuple ds, _, h => by
    cases h with
    | tup h1 h2 => exact dps_plain h2
  | .dict _, _, h => by cases h
theorem dps_plain {K : PySem.W.Frag} {H : Hp} : ∀ {ds : List D} {vs : List V}, DpAll K H vs ds → PyData.plainAll ds = true
  | [], _, _ => rfl
  | d :: ds, _, h => by
    cases h with
    | cons h1 h2 =>
      show (PyData.plain d && PyData.plainAll ds) = true
      rw [dp_plain h1, dps_plain h2] <;> rfl
end

/-- what is asked of two values that stand for data -/
def rD (K : PySem.W.Frag) (s : D → D → (D → Prop) → Prop) : R2 := fun x y H Q => ∃ (M : AS) (d e : D) (k : D → Prop), (∀ a, M a → H a ≠ none) ∧ RB K M H x d ∧ RB K M H y e ∧ s d e k ∧
  ∀ g u H', Kp (fun _ => False) H H' → RD K M H' u g → k g → Q u H'
def rD1 (K : PySem.W.Frag) (s : D → (D → Prop) → Prop) : V → Hp → VK → Prop := fun x H Q => ∃ (M : AS) (d : D) (k : D → Prop), (∀ a, M a → H a ≠ none) ∧ RB K M H x d ∧ s d k ∧
  ∀ g u H', Kp (fun _ => False) H H' → RD K M H' u g → k g → Q u H'
def cD1 (K : PySem.W.Frag) (s : D → (D → Prop) → Prop) : List V → Hp → VK → Prop := fun xs H Q => ∃ x, xs = [x] ∧ rD1 K s x H Q
def cD2 (K : PySem.W.Frag) (s : D → D → (D → Prop) → Prop) : List V → Hp → VK → Prop := fun xs H Q => ∃ x y, xs = [x, y] ∧ rD K s x y H Q

section
variable {K : PySem.W.Frag} {M : AS} {H : Hp}
/-- a new list, tuple of what is there -/
theorem RD.newL {p : Addr} {xs : List V} {ds : List D} (mx : ∀ a, M a → H a ≠ none) (h : RDs K M H xs ds) (hp : H p = none) : RD K M (upd H p (.lst xs)) (.ref p) (.list ds) :=
  .lst upd_same (fun z => mx p z hp) (h.kp (Kp.fresh (Z := fun _ => False) hp) (fun _ z => z.elim) fun _ z => .inl z)
theorem RD.newT {p : Addr} {o : Obj} {xs : List V} {ds : List D} (h : RDs K M H xs ds) (hp : H p = none) (hd : o.dict = none) : RD K M (upd H p (.frz o (.tup xs))) (.ref p) (.tuple ds) :=
  .tup (.inl ⟨o, upd_same, hd⟩) (h.kp (Kp.fresh (Z := fun _ => False) hp) (fun _ z => z.elim) fun _ z => .inl z)
theorem kf {p : Addr} {o : HO} (hp : H p = none) : Kp (fun _ => False) H (upd H p o) := Kp.fresh hp
theorem RDs.nil_iff {vs : List V} {ds : List D} (h : RDs K M H vs ds) : vs = [] ↔ ds = [] := by
  constructor
  · rintro rfl; cases h; rfl
  · rintro rfl; cases h; rfl
theorem RDs.rep {vs : List V} {ds : List D} (h : RDs K M H vs ds) : ∀ n : Nat, RDs K M H (List.replicate n vs).flatten (List.replicate n ds).flatten
  | 0 => .nil
  | n + 1 => by
    rw [List.replicate_succ, List.replicate_succ, List.flatten_cons, List.flatten_cons]
    exact h.append (RDs.rep h n)
end

section
variable {X : Cx} (hu : X.A.units + 200 < cLine) (hc : X.calm = true)
include hu hc

theorem o_add : OpR X (binaryOp .Add) (rD X.K sAdd) := by
  intro pins s σ H x y v u Q I rx ry ⟨M, d, e, k, mx, hx, hy, hs, hq⟩
  cases d <;> cases e <;> first | exact (show False from hs).elim | skip
  · rw [hx.int] at rx; rw [hy.int] at ry
    exact op_add pins s σ H _ _ v u Q I rx ry ⟨_, _, rfl, rfl, hq _ _ _ .refl (.int _) hs⟩
  · rw [hx.str] at rx; rw [hy.str] at ry
    exact op_add_str pins s σ H _ _ v u Q I rx ry ⟨_, _, rfl, rfl, hs.1, hq _ _ _ .refl (.str _) hs.2⟩
  · obtain ⟨a, xs, rfl, ha, ra⟩ := hx.list
    obtain ⟨b, ys, rfl, hb, rb⟩ := hy.list
    refine op_cat pins s σ H _ _ v u Q I rx ry ⟨a, b, xs, ys, rfl, rfl, ha, hb, by rw [ra.len, rb.len]; exact hs.1, fun p hp => ?_⟩
    exact hq _ _ _ (kf hp) (RD.newL mx (ra.append rb) hp) hs.2
  · obtain ⟨a, xs, rfl, ha, ra⟩ := hx.tupF
    obtain ⟨b, ys, rfl, hb, rb⟩ := hy.tupF
    refine op_catF pins s σ H _ _ v u Q I rx ry ⟨a, b, xs, ys, rfl, rfl, ha.sqT, hb.sqT, by rw [ra.len, rb.len]; exact hs.1, fun e => ?_, fun e => ?_, fun p o ho hp => hq _ _ _ (kf hp) (RD.newT (ra.append rb) hp ho) hs.2⟩
    · rw [ra.nil_iff] at e
      subst e
      exact hq _ _ _ .refl (.tup hb rb) (by simpa using hs.2)
    · rw [rb.nil_iff] at e
      subst e
      exact hq _ _ _ .refl (.tup ha ra) (by simpa using hs.2)

theorem o_ii {f : Value → Value → Sem Value} {C : Int → Int → Prop} {g : Int → Int → Int} {sI : Int → Int → (D → Prop) → Prop} (h : OpR X f (rI C fun i j => .int (g i j))) (hs : ∀ i j k, sI i j k → C i j ∧ k (.int (g i j))) : OpR X f (rD X.K (sII sI)) := by
  intro pins s σ H x y v u Q I rx ry ⟨M, d, e, k, mx, hx, hy, hs', hq⟩
  cases d <;> cases e <;> first | exact (show False from hs').elim | skip
  rw [hx.int] at rx; rw [hy.int] at ry
  obtain ⟨c1, c2⟩ := hs _ _ _ hs'
  exact h pins s σ H _ _ v u Q I rx ry ⟨_, _, rfl, rfl, c1, hq _ _ _ .refl (.int _) c2⟩
theorem o_ii0 {f : Value → Value → Sem Value} {g : Int → Int → V} {gd : Int → Int → D} {sI : Int → Int → (D → Prop) → Prop} (h : OpR X f (rI0 g)) (hg : ∀ i j M H, RD X.K M H (g i j) (gd i j)) (hs : ∀ i j k, sI i j k → k (gd i j)) : OpR X f (rD X.K (sII sI)) := by
  intro pins s σ H x y v u Q I rx ry ⟨M, d, e, k, mx, hx, hy, hs', hq⟩
  cases d <;> cases e <;> first | exact (show False from hs').elim | skip
  rw [hx.int] at rx; rw [hy.int] at ry
  exact h pins s σ H _ _ v u Q I rx ry ⟨_, _, rfl, rfl, hq _ _ _ .refl (hg _ _ _ _) (hs _ _ _ hs')⟩
theorem o_sub : OpR X (binaryOp .Sub) (rD X.K (s2 .sub)) := o_ii0 hu hc op_sub (fun _ _ _ _ => .int _) fun _ _ _ h => h
theorem o_fdiv : OpR X (binaryOp .FloorDiv) (rD X.K (s2 .fdiv)) := o_ii hu hc op_fdiv fun _ _ _ h => h
theorem o_mod : OpR X (binaryOp .Mod) (rD X.K (s2 .mod)) := o_ii hu hc op_mod fun _ _ _ h => h
theorem o_pow : OpR X (binaryOp .Pow) (rD X.K (s2 .pow)) := o_ii hu hc op_pow fun _ _ _ h => h
theorem o_shl : OpR X (binaryOp .LShift) (rD X.K (s2 .shl)) := o_ii hu hc op_shl fun _ _ _ h => h
theorem o_gt : OpR X (compareOp .Gt) (rD X.K (s2 .gt)) := o_ii0 hu hc op_gt (fun _ _ _ _ => .bl _) fun _ _ _ h => h
theorem o_ge : OpR X (compareOp .GtE) (rD X.K (s2 .ge)) := o_ii0 hu hc op_ge (fun _ _ _ _ => .bl _) fun _ _ _ h => h

theorem o_eq : OpR X (compareOp .Eq) (rD X.K (s2 .eq)) := by
  intro pins s σ H x y v u Q I rx ry ⟨M, d, e, k, mx, hx, hy, hs, hq⟩
  obtain ⟨as, r1⟩ := Dp.reads I d x v hx.dp rx
  obtain ⟨bs, r2⟩ := Dp.reads I e y u hy.dp ry
  have hm : min d.depth e.depth ≤ 60 := by
    rcases hs.1 with z | z <;> omega
  have hs2 : k (.bool (PyData.eqv d e != false)) := hs.2
  rw [Bool.bne_false] at hs2
  exact SeqAt.eq_plain r1 r2 (dp_plain hx.dp) (dp_plain hy.dp) (by omega) ⟨.bl _, H, I, rfl, hq _ _ _ .refl (.bl _) hs2⟩
theorem o_ne : OpR X (compareOp .NotEq) (rD X.K (s2 .ne)) := by
  intro pins s σ H x y v u Q I rx ry ⟨M, d, e, k, mx, hx, hy, hs, hq⟩
  obtain ⟨as, r1⟩ := Dp.reads I d x v hx.dp rx
  obtain ⟨bs, r2⟩ := Dp.reads I e y u hy.dp ry
  have hm : min d.depth e.depth ≤ 60 := by
    rcases hs.1 with z | z <;> omega
  have hs2 : k (.bool (PyData.eqv d e != true)) := hs.2
  rw [Bool.bne_true] at hs2
  exact SeqAt.ne_plain r1 r2 (dp_plain hx.dp) (dp_plain hy.dp) (by omega) ⟨.bl _, H, I, rfl, hq _ _ _ .refl (.bl _) hs2⟩
theorem o_lt : OpR X (compareOp .Lt) (rD X.K (s2 .lt)) := by
  intro pins s σ H x y v u Q I rx ry ⟨M, d, e, k, mx, hx, hy, hs, hq⟩
  cases d <;> cases e <;> first | exact (show False from hs).elim | skip
  · rw [hx.int] at rx; rw [hy.int] at ry
    exact op_lt pins s σ H _ _ v u Q I rx ry ⟨_, _, rfl, rfl, hq _ _ _ .refl (.bl _) hs⟩
  · obtain ⟨⟨h1, h2, h3⟩, hs2⟩ := hs
    obtain ⟨as, r1⟩ := Dp.reads I _ x v hx.dp rx
    obtain ⟨bs, r2⟩ := Dp.reads I _ y u hy.dp ry
    exact PySem.W.lt_data r1 r2 h1 h2 (by omega) ⟨.bl _, H, I, rfl, hq _ _ _ .refl (.bl _) hs2⟩
theorem o_le : OpR X (compareOp .LtE) (rD X.K (s2 .le)) := by
  intro pins s σ H x y v u Q I rx ry ⟨M, d, e, k, mx, hx, hy, hs, hq⟩
  cases d <;> cases e <;> first | exact (show False from hs).elim | skip
  · rw [hx.int] at rx; rw [hy.int] at ry
    exact op_le pins s σ H _ _ v u Q I rx ry ⟨_, _, rfl, rfl, hq _ _ _ .refl (.bl _) hs⟩
  · obtain ⟨⟨h1, h2, h3⟩, hs2⟩ := hs
    obtain ⟨as, r1⟩ := Dp.reads I _ x v hx.dp rx
    obtain ⟨bs, r2⟩ := Dp.reads I _ y u hy.dp ry
    exact PySem.W.le_data r1 r2 h1 h2 (by omega) ⟨.bl _, H, I, rfl, hq _ _ _ .refl (.bl _) hs2⟩
theorem o_in : OpR X (compareOp .In) (rD X.K (s2 .inn)) := by
  intro pins s σ H x y v u Q I rx ry ⟨M, d, e, k, mx, hx, hy, hs, hq⟩
  obtain ⟨as, r1⟩ := Dp.reads I d x v hx.dp rx
  obtain ⟨bs, r2⟩ := Dp.reads I e y u hy.dp ry
  have pe := dp_plain hy.dp
  have pd := dp_plain hx.dp
  cases e with
  | list es =>
    obtain ⟨h1, h2⟩ : InOk d ∧ k (.bool ((es.any fun e => PyData.eqv e d) != false)) := hs
    have h1 : d.depth ≤ 60 := h1
    rw [Bool.bne_false] at h2
    exact SeqAt.in_list_data r2 r1 pe pd (by omega) ⟨.bl _, H, I, rfl, hq _ _ _ .refl (.bl _) h2⟩
  | tuple es =>
    obtain ⟨h1, h2⟩ : InOk d ∧ k (.bool ((es.any fun e => PyData.eqv e d) != false)) := hs
    have h1 : d.depth ≤ 60 := h1
    rw [Bool.bne_false] at h2
    exact SeqAt.in_tuple_data r2 r1 pe pd (by omega) ⟨.bl _, H, I, rfl, hq _ _ _ .refl (.bl _) h2⟩
  | _ => exact (show False from hs).elim
theorem o_nin : OpR X (compareOp .NotIn) (rD X.K (s2 .nin)) := by
  intro pins s σ H x y v u Q I rx ry ⟨M, d, e, k, mx, hx, hy, hs, hq⟩
  obtain ⟨as, r1⟩ := Dp.reads I d x v hx.dp rx
  obtain ⟨bs, r2⟩ := Dp.reads I e y u hy.dp ry
  have pe := dp_plain hy.dp
  have pd := dp_plain hx.dp
  cases e with
  | list es =>
    obtain ⟨h1, h2⟩ : InOk d ∧ k (.bool ((es.any fun e => PyData.eqv e d) != true)) := hs
    have h1 : d.depth ≤ 60 := h1
    rw [Bool.bne_true] at h2
    exact SeqAt.notIn_list_data r2 r1 pe pd (by omega) ⟨.bl _, H, I, rfl, hq _ _ _ .refl (.bl _) h2⟩
  | tuple es =>
    obtain ⟨h1, h2⟩ : InOk d ∧ k (.bool ((es.any fun e => PyData.eqv e d) != true)) := hs
    have h1 : d.depth ≤ 60 := h1
    rw [Bool.bne_true] at h2
    exact SeqAt.notIn_tuple_data r2 r1 pe pd (by omega) ⟨.bl _, H, I, rfl, hq _ _ _ .refl (.bl _) h2⟩
  | _ => exact (show False from hs).elim

/-! subscripts -/
theorem atI_of {xs : List V} {ds : List D} {M : AS} {H : Hp} {i : Int} {d : D} (r : RDs X.K M H xs ds) (h : atI ds i = some d) : ∃ v, atI xs i = some v ∧ RD X.K M H v d := by
  unfold atI at h ⊢
  rw [r.len]
  cases q : ixN ds.length i with
  | none => rw [q] at h; cases h
  | some j =>
    rw [q] at h
    obtain ⟨v, e1, e2⟩ := r.get (i := j) (d := d) h
    exact ⟨v, e1, e2⟩
theorem o_idx : IxR X (rD X.K (s2 .idx)) := by
  intro e1 e2 pins s σ H x y v u Q I rx ry ⟨M, d, e, k, mx, hx, hy, hs, hq⟩ hsub
  cases d <;> cases e <;> first | exact (show False from hs).elim | skip
  · obtain ⟨g, hg, hk⟩ := hs
    obtain ⟨a, xs, rfl, ha, ra⟩ := hx.list
    obtain ⟨z, h1, h2⟩ := atI_of hu hc ra hg
    rw [hy.int] at ry
    exact ix_list e1 e2 pins s σ H _ _ v u Q I rx ry ⟨a, xs, _, z, rfl, rfl, SqL.of ha, h1, hq _ _ _ .refl h2 hk⟩ hsub
  · obtain ⟨g, hg, hk⟩ := hs
    obtain ⟨a, xs, rfl, ha, ra⟩ := hx.tup
    obtain ⟨z, h1, h2⟩ := atI_of hu hc ra hg
    rw [hy.int] at ry
    exact ix_tup e1 e2 pins s σ H _ _ v u Q I rx ry ⟨a, xs, _, z, rfl, rfl, ha, h1, hq _ _ _ .refl h2 hk⟩ hsub

/-! one operand -/
theorem c_len : CallR X (.builtin "len") (cD1 X.K (s1 .len)) := by
  rintro pins s σ H xs us Q I r ⟨x, rfl, M, d, k, mx, hx, hs, hq⟩
  refine call_len pins s σ H _ us Q I r ?_
  cases d <;> first | exact (show False from hs).elim | skip
  · rw [hx.str]
    exact ⟨_, _, rfl, ⟨hs.1, rfl⟩, hq _ _ _ .refl (.int _) hs.2⟩
  · obtain ⟨a, xs, rfl, ha, ra⟩ := hx.list
    exact ⟨_, _, rfl, .inl ⟨_, SqL.of ha, rfl⟩, hq _ _ _ .refl (.int _) (by rw [ra.len]; exact hs)⟩
  · obtain ⟨a, xs, rfl, ha, ra⟩ := hx.tup
    exact ⟨_, _, rfl, .inr ⟨_, ha, rfl⟩, hq _ _ _ .refl (.int _) (by rw [ra.len]; exact hs)⟩
theorem u_neg : UnR X (unaryOp .USub) (rD1 X.K (s1 .neg)) := by
  intro pins s σ H x v Q I rx ⟨M, d, k, mx, hx, hs, hq⟩
  cases d <;> first | exact (show False from hs).elim | skip
  rw [hx.int] at rx
  exact un_neg pins s σ H (.int _) v Q I rx ⟨_, rfl, hq _ _ _ .refl (.int _) hs⟩
theorem c_tup : CallR X (.type "tuple") (cD1 X.K (s1 .tupOf)) := by
  rintro pins s σ H xs us Q I r ⟨x, rfl, M, d, k, mx, hx, hs, hq⟩
  refine call_tupleF pins s σ H _ us Q I r ?_
  cases d <;> first | exact (show False from hs).elim | skip
  · obtain ⟨a, xs, rfl, ha, ra⟩ := hx.list
    exact ⟨_, _, rfl, .inl ⟨SqL.of ha, fun l o ho hl => hq _ _ _ (kf hl) (RD.newT ra hl ho) hs⟩⟩
  · obtain ⟨a, xs, rfl, ha, ra⟩ := hx.tupF
    exact ⟨_, _, rfl, .inr ⟨ha.sqT, hq _ _ _ .refl (.tup ha ra) hs⟩⟩
theorem c_list : CallR X (.type "list") (cD1 X.K (s1 .listOf)) := by
  rintro pins s σ H xs us Q I r ⟨x, rfl, M, d, k, mx, hx, hs, hq⟩
  refine call_list_of pins s σ H _ us Q I r ?_
  cases d <;> first | exact (show False from hs).elim | skip
  · obtain ⟨a, xs, rfl, ha, ra⟩ := hx.list
    exact ⟨_, _, rfl, .inl (SqL.of ha), fun l hl => hq _ _ _ (kf hl) (RD.newL mx ra hl) hs⟩
  · obtain ⟨a, xs, rfl, ha, ra⟩ := hx.tup
    exact ⟨_, _, rfl, .inr ha, fun l hl => hq _ _ _ (kf hl) (RD.newL mx ra hl) hs⟩
theorem c_int : CallR X (.type "int") (cD1 X.K (s1 .intOf)) := by
  rintro pins s σ H xs us Q I r ⟨x, rfl, M, d, k, mx, hx, hs, hq⟩
  refine call_int1 pins s σ H _ us Q I r ?_
  cases d <;> first | exact (show False from hs).elim | skip
  · rw [hx.bool]
    exact .inr ⟨_, rfl, hq _ _ _ .refl (.int _) hs⟩
  · rw [hx.int]
    exact .inl ⟨_, rfl, hq _ _ _ .refl (.int _) hs⟩
theorem c_str : CallR X (.type "str") (cD1 X.K (s1 .strOf)) := by
  rintro pins s σ H xs us Q I r ⟨x, rfl, M, d, k, mx, hx, hs, hq⟩
  refine call_str_int pins s σ H _ us Q I r ?_
  cases d <;> first | exact (show False from hs).elim | skip
  rw [hx.int]
  exact ⟨_, rfl, hs.1, hq _ _ _ .refl (.str _) hs.2⟩
theorem c_all : CallR X (.builtin "all") (cD1 X.K (s1 .all)) := by
  rintro pins s σ H xs us Q I r ⟨x, rfl, M, d, k, mx, hx, hs, hq⟩
  refine cr_all hc pins s σ H _ us Q I r ?_
  cases d <;> first | exact (show False from hs).elim | skip
  obtain ⟨bs, rfl, hk⟩ := hs
  obtain ⟨a, xs, rfl, ha, ra⟩ := hx.list
  rw [ra.boolsOf] at ha
  exact ⟨_, _, rfl, SqL.of ha, hq _ _ _ .refl (.bl _) hk⟩
theorem c_any : CallR X (.builtin "any") (cD1 X.K (s1 .any)) := by
  rintro pins s σ H xs us Q I r ⟨x, rfl, M, d, k, mx, hx, hs, hq⟩
  refine cr_any hc pins s σ H _ us Q I r ?_
  cases d <;> first | exact (show False from hs).elim | skip
  obtain ⟨bs, rfl, hk⟩ := hs
  obtain ⟨a, xs, rfl, ha, ra⟩ := hx.list
  rw [ra.boolsOf] at ha
  exact ⟨_, _, rfl, SqL.of ha, hq _ _ _ .refl (.bl _) hk⟩
theorem c_sum : CallR X (.builtin "sum") (cD1 X.K (s1 .sum)) := by
  rintro pins s σ H xs us Q I r ⟨x, rfl, M, d, k, mx, hx, hs, hq⟩
  refine cr_sum hc pins s σ H _ us Q I r ?_
  cases d <;> first | exact (show False from hs).elim | skip
  obtain ⟨bs, rfl, hk⟩ := hs
  obtain ⟨a, xs, rfl, ha, ra⟩ := hx.list
  rw [ra.intsOf] at ha
  exact ⟨_, _, rfl, SqL.of ha, hq _ _ _ .refl (.int _) hk⟩

/-! slices -/
def slD (ds : List D) (lo hi : Option Int) : List D := (ds.drop (HT.sIx ds.length 0 lo)).take (HT.sIx ds.length ds.length hi - HT.sIx ds.length 0 lo)
def rSlD (K : PySem.W.Frag) : V → Option Int → Option Int → Hp → VK → Prop := fun x lo hi H Q => ∃ (M : AS) (d : D) (k : D → Prop), (∀ a, M a → H a ≠ none) ∧ RB K M H x d ∧
  (match d with
    | .list ds => k (.list (slD ds lo hi))
    | .tuple ds => k (.tuple (slD ds lo hi))
    | _ => False) ∧ ∀ g u H', Kp (fun _ => False) H H' → RD K M H' u g → k g → Q u H'
omit hu hc in
theorem cut_rds {M : AS} {H : Hp} {xs : List V} {ds : List D} (r : RDs X.K M H xs ds) (lo hi : Option Int) : RDs X.K M H (cutV xs lo hi) (slD ds lo hi) := by
  unfold cutV slD
  rw [r.len]
  exact (r.drop _).take _
theorem sl_d : SlR X (rSlD X.K) := by
  intro pins s σ H x v vl vu lo hi sl Q I rx hs pl pu ⟨M, d, k, mx, hx, hk, hq⟩
  cases d <;> first | exact (show False from hk).elim | skip
  · obtain ⟨a, xs, rfl, ha, ra⟩ := hx.list
    exact sl_list pins s σ H _ v vl vu lo hi sl Q I rx hs pl pu ⟨a, xs, rfl, SqL.of ha, fun p hp => hq _ _ _ (kf hp) (RD.newL mx (cut_rds ra lo hi) hp) hk⟩
  · obtain ⟨a, xs, rfl, ha, ra⟩ := hx.tupF
    refine sl_tupF pins s σ H _ v vl vu lo hi sl Q I rx hs pl pu ⟨a, xs, rfl, ha.sqT, fun e => ?_, fun p o ho hp => hq _ _ _ (kf hp) (RD.newT (cut_rds ra lo hi) hp ho) hk⟩
    have r2 := cut_rds (X := X) ra lo hi
    rw [e] at r2
    exact hq _ _ _ .refl (.tup ha r2) hk

/-! methods -/
theorem find_at {ds : List D} {d : D} {j : Nat} (h : (ds.findIdx? fun e => PyData.eqv e d) = some j) : ∃ z, ds[j]? = some z ∧ PyData.eqv z d = true ∧ ∀ m z', m < j → ds[m]? = some z' → PyData.eqv z' d = false := by
  rw [List.findIdx?_eq_some_iff_getElem] at h
  obtain ⟨h1, h2, h3⟩ := h
  refine ⟨ds[j], List.getElem?_eq_getElem h1, h2, fun m z' hm e => ?_⟩
  have q := h3 m hm
  rw [List.getElem?_eq_getElem (by omega)] at e
  cases e
  simpa using q
theorem m_index : MtR X "tuple.index" (fun x xs H Q => ∃ y, xs = [y] ∧ rD X.K (s2 .index) x y H Q) := by
  rintro pins s σ H x xs v us Q I rx rs ⟨y, rfl, M, d, e, k, mx, hx, hy, hs, hq⟩
  obtain ⟨uy, rfl, ry⟩ := vals1 rs
  cases d <;> first | exact (show False from hs).elim | skip
  obtain ⟨h1, j, h2, h3⟩ := hs
  have h1 : e.depth ≤ 60 := h1
  obtain ⟨a, xs, rfl, ha, ra⟩ := hx.tup
  cases rx
  obtain ⟨z, z1, z2, z3⟩ := find_at hu hc h2
  obtain ⟨bs, r1⟩ := Dp.reads I e y uy hy.dp ry
  obtain ⟨its, rv, ⟨⟨cls, dd, data, sls⟩, ho, hcl, n, hdt⟩, hlen⟩ := I.tuple ha
  simp only at hcl hdt
  subst hcl hdt
  obtain ⟨as, h4⟩ := Dp.readsAll I _ _ its ra.dp rv
  have hp : PyData.plainAll _ = true := dps_plain ra.dp
  have hsz := SeqAt.len_at (vs := its.toArray) (show ReadsAll s.heap its.toArray.toList _ as from h4)
  have hj : j < its.toArray.size := by
    rw [hsz]
    exact (List.getElem?_eq_some_iff.mp z1).1
  rename_i ds _
  have at_ : ∀ m (hm : m < its.toArray.size), ∃ z', ds[m]? = some z' ∧ SeqAt.readOf s.heap its.toArray[m] = z' := fun m hm => by
    obtain ⟨q1, q2⟩ := SeqAt.readOf_at (vs := its.toArray) (show ReadsAll s.heap its.toArray.toList _ as from h4) hp m hm
    exact ⟨_, List.getElem?_eq_getElem q1, q2⟩
  refine call_meets PySem.F.slot_tuple_index ⟨_, ho, rfl⟩ PySem.F.entry_tuple_index (PySem.F.args_tuple_index_2 _ _) (TI.tuple_indexAt a its.toArray n dd sls uy (fun u => PyData.eqv (SeqAt.readOf s.heap u) e) j hj ?_ ?_)
    ⟨ho, SeqAt.items_plain (vs := its.toArray) (show ReadsAll s.heap its.toArray.toList _ as from h4) r1 hp (dp_plain hy.dp) (by omega), ⟨.int (j : Nat), H, I.tok _, ⟨_, rfl⟩, hq _ _ _ .refl (.int _) h3⟩⟩
  · obtain ⟨z', q1, q2⟩ := at_ j hj
    rw [z1] at q1
    cases q1
    show PyData.eqv (SeqAt.readOf s.heap its.toArray[j]) e = true
    rw [q2]
    exact z2
  · intro m hm hmj
    obtain ⟨z', q1, q2⟩ := at_ m hm
    show PyData.eqv (SeqAt.readOf s.heap its.toArray[m]) e = false
    rw [q2]
    exact z3 m z' hmj q1
theorem m_indexL : MtR X "list.index" (fun x xs H Q => ∃ y, xs = [y] ∧ rD X.K (s2 .indexL) x y H Q) := by
  rintro pins s σ H x xs v us Q I rx rs ⟨y, rfl, M, d, e, k, mx, hx, hy, hs, hq⟩
  obtain ⟨uy, rfl, ry⟩ := vals1 rs
  cases d <;> first | exact (show False from hs).elim | skip
  obtain ⟨h1, j, h2, h3⟩ := hs
  have h1 : e.depth ≤ 60 := h1
  obtain ⟨a, xs, rfl, ha, ra⟩ := hx.list
  cases rx
  obtain ⟨z, z1, z2, z3⟩ := find_at hu hc h2
  obtain ⟨bs, r1⟩ := Dp.reads I e y uy hy.dp ry
  obtain ⟨its, rv, ⟨⟨cls, dd, data, sls⟩, n, ho, hcl, hdn, hdt⟩, hlen⟩ := I.list (SqL.of ha)
  simp only at hcl hdt
  subst hcl hdt
  obtain ⟨as, h4⟩ := Dp.readsAll I _ _ its ra.dp rv
  have hp : PyData.plainAll _ = true := dps_plain ra.dp
  have hsz := SeqAt.len_at (vs := its.toArray) (show ReadsAll s.heap its.toArray.toList _ as from h4)
  have hj : j < its.toArray.size := by
    rw [hsz]
    exact (List.getElem?_eq_some_iff.mp z1).1
  rename_i ds _
  have at_ : ∀ m (hm : m < its.toArray.size), ∃ z', ds[m]? = some z' ∧ SeqAt.readOf s.heap its.toArray[m] = z' := fun m hm => by
    obtain ⟨q1, q2⟩ := SeqAt.readOf_at (vs := its.toArray) (show ReadsAll s.heap its.toArray.toList _ as from h4) hp m hm
    exact ⟨_, List.getElem?_eq_getElem q1, q2⟩
  have hl := rv.length
  have hsl : sizeLine = 16777216 := sizeLine_eq
  have hts : its.toArray.size = its.length := by simp
  refine call_meets PySem.F.slot_list_index ⟨_, ho, rfl⟩ PySem.F.entry_list_index (PySem.F.args_list_index_2 _ _) (SeqAt.list_indexAt a its.toArray n dd sls uy (fun u => PyData.eqv (SeqAt.readOf s.heap u) e) j hj (by omega) ?_ ?_)
    ⟨ho, SeqAt.items_plain (vs := its.toArray) (show ReadsAll s.heap its.toArray.toList _ as from h4) r1 hp (dp_plain hy.dp) (by omega), ⟨.int (j : Nat), H, I.tok _, ⟨_, rfl⟩, hq _ _ _ .refl (.int _) h3⟩⟩
  · obtain ⟨z', q1, q2⟩ := at_ j hj
    rw [z1] at q1
    cases q1
    show PyData.eqv (SeqAt.readOf s.heap its.toArray[j]) e = true
    rw [q2]
    exact z2
  · intro m hm hmj
    obtain ⟨z', q1, q2⟩ := at_ m hm
    show PyData.eqv (SeqAt.readOf s.heap its.toArray[m]) e = false
    rw [q2]
    exact z3 m z' hmj q1
theorem m_count : MtR X "list.count" (fun x xs H Q => ∃ y, xs = [y] ∧ rD X.K (s2 .count) x y H Q) := by
  rintro pins s σ H x xs v us Q I rx rs ⟨y, rfl, M, d, e, k, mx, hx, hy, hs, hq⟩
  obtain ⟨uy, rfl, ry⟩ := vals1 rs
  cases d <;> first | exact (show False from hs).elim | skip
  obtain ⟨h1, h3⟩ := hs
  have h1 : e.depth ≤ 60 := h1
  obtain ⟨a, xs, rfl, ha, ra⟩ := hx.list
  cases rx
  obtain ⟨bs, r1⟩ := Dp.reads I e y uy hy.dp ry
  obtain ⟨its, rv, pl, hlen⟩ := I.list (SqL.of ha)
  obtain ⟨as, h4⟩ := Dp.readsAll I _ _ its ra.dp rv
  exact SeqAt.count_list_data pl.isList (show ReadsAll s.heap its.toArray.toList _ as from h4) r1 (dps_plain ra.dp) (dp_plain hy.dp) (by omega) ⟨.int _, H, I.tok _, ⟨_, rfl⟩, hq _ _ _ .refl (.int _) h3⟩

/-! isinstance -/
def isiD (T : String) : D → Bool
  | d => if T = "int" then isI d else if T = "bool" then isB d else if T = "tuple" then isT d else if T = "str" then isS d else isL d
theorem c_isi (T : String) (hT : T = "int" ∨ T = "bool" ∨ T = "tuple" ∨ T = "str" ∨ T = "list") : CallR X (.builtin "isinstance") (fun xs H Q => ∃ x, xs = [x, .ty T] ∧ rD1 X.K (fun d k => k (.bool (isiD T d))) x H Q) := by
  rintro pins s σ H xs us Q I r ⟨x, rfl, M, d, k, mx, hx, hs, hq⟩
  obtain ⟨u, w', rfl, r1, r2⟩ := vals2 r
  cases r2
  obtain ⟨as, rr⟩ := Dp.reads I d x u hx.dp r1
  have fin : ∀ (b : Bool) (tk : Nat), b = isiD T d → EP X pins σ Q (.bool b) { s with toks := tk } := fun b tk e => by
    subst e
    exact ⟨.bl _, H, I.tok tk, rfl, hq _ _ _ .refl (.bl _) hs⟩
  rcases hT with rfl | rfl | rfl | rfl | rfl
  · exact W.isinstance_int_data rr fun tk _ => fin _ tk (by cases d <;> rfl)
  · exact W.isinstance_bool_data rr fun tk _ => fin _ tk (by cases d <;> rfl)
  · exact W.isinstance_tuple_data rr fun tk _ => fin _ tk (by cases d <;> rfl)
  · exact W.isinstance_str_data rr fun tk _ => fin _ tk (by cases d <;> rfl)
  · exact W.isinstance_list_data rr fun tk _ => fin _ tk (by cases d <;> rfl)

theorem c_min : CallR X (.builtin "min") (cD2 X.K (s2 .min)) := by
  rintro pins s σ H xs us Q I r ⟨x, y, rfl, M, d, e, k, mx, hx, hy, hs, hq⟩
  cases d <;> cases e <;> first | exact (show False from hs).elim | skip
  rw [hx.int, hy.int] at r
  exact call_min2 hc pins s σ H _ us Q I r ⟨_, _, rfl, hq _ _ _ .refl (.int _) hs⟩
theorem c_max : CallR X (.builtin "max") (cD2 X.K (s2 .max)) := by
  rintro pins s σ H xs us Q I r ⟨x, y, rfl, M, d, e, k, mx, hx, hy, hs, hq⟩
  cases d <;> cases e <;> first | exact (show False from hs).elim | skip
  rw [hx.int, hy.int] at r
  exact call_max2 hc pins s σ H _ us Q I r ⟨_, _, rfl, hq _ _ _ .refl (.int _) hs⟩
theorem c_maxL : CallR X (.builtin "max") (cD1 X.K (s1 .maxOf)) := by
  rintro pins s σ H xs us Q I r ⟨x, rfl, M, d, k, mx, hx, hs, hq⟩
  refine cr_max hc pins s σ H _ us Q I r ?_
  cases d <;> first | exact (show False from hs).elim | skip
  obtain ⟨ns, rfl, m, h1, h2, hk⟩ := hs
  obtain ⟨a, xs, rfl, ha, ra⟩ := hx.list
  rw [ra.intsOf] at ha
  refine ⟨_, _, rfl, SqL.of ha, List.length_pos_of_mem h1, fun m' h1' h2' => ?_⟩
  have e : m' = m := Int.le_antisymm (h2 m' h1') (h2' m h1)
  subst e
  exact hq _ _ _ .refl (.int _) hk
theorem c_minL : CallR X (.builtin "min") (cD1 X.K (s1 .minOf)) := by
  rintro pins s σ H xs us Q I r ⟨x, rfl, M, d, k, mx, hx, hs, hq⟩
  refine cr_min hc pins s σ H _ us Q I r ?_
  cases d <;> first | exact (show False from hs).elim | skip
  obtain ⟨ns, rfl, m, h1, h2, hk⟩ := hs
  obtain ⟨a, xs, rfl, ha, ra⟩ := hx.list
  rw [ra.intsOf] at ha
  refine ⟨_, _, rfl, SqL.of ha, List.length_pos_of_mem h1, fun m' h1' h2' => ?_⟩
  have e : m' = m := Int.le_antisymm (h2' m h1) (h2 m' h1')
  subst e
  exact hq _ _ _ .refl (.int _) hk

/-! sorted -/
theorem each_of {M : AS} {H : Hp} {pins : List (Addr × Obj)} {σ : St} {s : Shared} (I : Inv X pins σ H s) : ∀ {xs : List V} {ds : List D} {its : List Value}, RDs X.K M H xs ds → Vals xs its →
    PySem.W.EachIs (fun u d => ∃ v, RelV v u ∧ RD X.K M H v d) its ds ∧ PySem.W.EachIs (fun u d => ∃ as, Reads s.heap u (id d) as) its ds
  | _, [], _, h, q => by
    cases h
    cases q
    exact ⟨.nil, .nil⟩
  | _, d :: ds, _, h, q => by
    cases h with
    | cons h1 h2 =>
      cases q with
      | cons q1 q2 =>
        obtain ⟨a1, a2⟩ := each_of I h2 q2
        exact ⟨.cons ⟨_, q1, h1⟩ a1, .cons (Dp.reads I _ _ _ h1.dp q1) a2⟩
theorem of_each {M : AS} {H : Hp} : ∀ {its : List Value} {ds : List D}, PySem.W.EachIs (fun u d => ∃ v, RelV v u ∧ RD X.K M H v d) its ds → ∃ xs, Vals xs its ∧ RDs X.K M H xs ds
  | _, _, .nil => ⟨[], .nil, .nil⟩
  | _, _, .cons ⟨v, a, b⟩ t => by
    obtain ⟨xs, h1, h2⟩ := of_each t
    exact ⟨v :: xs, .cons a h1, .cons b h2⟩

theorem swo_none : SrtO.Swo (fun (_ _ : Value) => false) := ⟨fun _ _ _ => rfl, fun _ _ _ _ _ => rfl⟩
theorem c_sorted : CallR X (.builtin "sorted") (cD1 X.K (s1 .sorted)) := by
  rintro pins s σ H xs us Q I r ⟨x, rfl, M, d, k, mx, hx, hs, hq⟩
  cases d <;> first | exact (show False from hs).elim | skip
  rename_i ds
  obtain ⟨⟨h1, h2⟩, h3⟩ := hs
  obtain ⟨a, xs, rfl, ha, ra⟩ := hx.list
  obtain ⟨u, rfl, rx⟩ := vals1 r
  cases rx
  obtain ⟨its, rv, pl, hlen⟩ := I.list (SqL.of ha)
  obtain ⟨e1, e2⟩ := each_of hu hc I ra rv
  have hl := ra.len
  have hl2 := rv.length
  have fin : ∀ out : List Value, out.length = its.length → PySem.W.EachIs (fun u d => ∃ v, RelV v u ∧ RD X.K M H v d) out (sortD ds) → EP X pins σ Q (.ref (s.heap.objs.size + 1)) { s with heap := sortedAll s.heap its out.toArray } := by
    intro out ho he
    obtain ⟨ys, q1, q2⟩ := of_each hu hc he
    obtain ⟨ep, he'⟩ := PyProof.Rows.sortedAll_at s.heap its out.toArray
    have hf : H (s.heap.objs.size + 1) = none := I.hok.fresh (Nat.le_succ _)
    refine ⟨.ref _, upd H (s.heap.objs.size + 1) (.lst ys), I.laid (t' := s.toks) (fun _ _ => PyProof.Rows.sortedAll_old) (Nat.le_succ _) ⟨?_, out, ep, q1, he'⟩, rfl, hq _ _ _ (kf hf) (RD.newL mx q2 hf) h3⟩
    rw [q1.length, ho, ← hl2]
    exact hlen
  by_cases h : 2 ≤ ds.length
  · obtain ⟨g1, g2⟩ := h2 h
    refine PySem.W.sorted_data (enc := id) (R := fun u d => ∃ v, RelV v u ∧ RD X.K M H v d) pl.isList e1 e2 (by rw [List.map_id]; exact g1) (by rw [List.map_id]; exact g2) (by omega) (fun b hb => ?_) fun out ho he => fin out (by rw [ho]; omega) he
    have := h1 b hb
    show X.A.units + 2 + PyData.depth (id b) < cLine
    rw [id]
    omega
  · refine SrtO.sorted_ord (swo_none hu hc) pl.isList (by omega) (fun z => absurd z (by omega)) fun out o1 o2 => ?_
    have e : out = its := by
      have hp := o2.perm
      have hlo := hp.length_eq
      match its, out, hp, (show its.length < 2 by omega) with
      | [], out, hp, _ => exact hp.eq_nil
      | [a], out, hp, _ => exact List.perm_singleton.mp hp
      | _ :: _ :: _, _, _, z => exact absurd z (by simp)
    subst e
    refine fin out rfl ?_
    have es : sortD ds = ds := by
      match ds, h with
      | [], _ => simp [sortD]
      | [a], _ => simp [sortD]
      | _ :: _ :: _, z => exact absurd (by simp) z
    rw [es]
    exact e1

/-! is None; products -/
theorem o_isN : OpR X (compareOp .Is) (rD X.K fun d e k => e = .none ∧ k (.bool (isN d))) := by
  intro pins s σ H x y v u Q I rx ry ⟨M, d, e, k, mx, hx, hy, ⟨he, hs⟩, hq⟩
  subst he
  rw [hy.none] at ry
  refine op_isN pins s σ H x _ v u Q I rx ry ⟨rfl, ?_⟩
  have e : decide (x = V.non) = isN d := by
    cases d with
    | none => rw [hx.none] <;> rfl
    | bool b => rw [hx.bool] <;> rfl
    | int b => rw [hx.int] <;> rfl
    | str b => rw [hx.str] <;> rfl
    | list b => obtain ⟨a, xs, rfl, _⟩ := hx.list; rfl
    | tuple b => obtain ⟨a, xs, rfl, _⟩ := hx.tup; rfl
    | dict b => cases hx.dp
  rw [e]
  exact hq _ _ _ .refl (.bl _) hs
theorem o_notN : OpR X (compareOp .IsNot) (rD X.K fun d e k => e = .none ∧ k (.bool (!isN d))) := by
  intro pins s σ H x y v u Q I rx ry ⟨M, d, e, k, mx, hx, hy, ⟨he, hs⟩, hq⟩
  subst he
  rw [hy.none] at ry
  refine op_notN pins s σ H x _ v u Q I rx ry ⟨rfl, ?_⟩
  have e : decide (x = V.non) = isN d := by
    cases d with
    | none => rw [hx.none] <;> rfl
    | bool b => rw [hx.bool] <;> rfl
    | int b => rw [hx.int] <;> rfl
    | str b => rw [hx.str] <;> rfl
    | list b => obtain ⟨a, xs, rfl, _⟩ := hx.list; rfl
    | tuple b => obtain ⟨a, xs, rfl, _⟩ := hx.tup; rfl
    | dict b => cases hx.dp
  rw [e]
  exact hq _ _ _ .refl (.bl _) hs
theorem o_mul : OpR X (binaryOp .Mult) (rD X.K (s2 .mul)) := by
  intro pins s σ H x y v u Q I rx ry ⟨M, d, e, k, mx, hx, hy, hs, hq⟩
  cases d <;> cases e <;> first | exact (show False from hs).elim | skip
  · rw [hx.int] at rx; rw [hy.int] at ry
    exact op_mul pins s σ H _ _ v u Q I rx ry ⟨_, _, rfl, rfl, hs.1, hq _ _ _ .refl (.int _) hs.2⟩
  · obtain ⟨h1, h2, h3, h4⟩ := hs
    obtain ⟨a, xs, rfl, ha, ra⟩ := hx.list
    rw [hy.int] at ry
    have hl := ra.len
    have hz : sizeLine = 16777216 := sizeLine_eq
    refine op_rep pins s σ H _ _ v u Q I rx ry ⟨a, _, xs, rfl, rfl, ha, by omega, by omega, ?_, fun p hp => hq _ _ _ (kf hp) (RD.newL mx (ra.rep _) hp) h4⟩
    rename_i j
    have e1 : xs.length ≤ 1000 := by omega
    have e2 : j.toNat ≤ 1000 := by omega
    have := Nat.mul_le_mul e1 e2
    omega
  · obtain ⟨h1, h2, h3, h5, h4⟩ := hs
    obtain ⟨a, xs, rfl, ha, ra⟩ := hx.tupF
    rw [hy.int] at ry
    have hl := ra.len
    rename_i ds j
    by_cases e1 : j = 1
    · subst e1
      refine op_rep1 pins s σ H _ _ v u Q I rx ry ⟨a, xs, rfl, rfl, ha.sqT, hq _ _ _ .refl (.tup ha ra) ?_⟩
      have e : (List.replicate (1 : Int).toNat ds).flatten = ds := by simp
      rw [e] at h4
      exact h4
    · exact op_repF pins s σ H _ _ v u Q I rx ry ⟨a, _, xs, rfl, rfl, ha.sqT, fun z => h1 (by rw [ra.nil_iff] at z; exact z), by omega, by omega, by omega, fun p o ho hp => hq _ _ _ (kf hp) (RD.newT (ra.rep _) hp ho) h4⟩
end
end DL

end

section
namespace DL
open PySem PySem.Spec PyProof.Rows L2

structure Sx where
  P : Program
  w : World
  K : PySem.W.Frag
  mg : Str → Option Value
  base : Heap
  lv : Nat
  fn : Str → Bool
structure Dy where
  A : Around
  s0 : Shared
  H0 : Hp
  env : Env
  outer : List Env
  stack : List Env
  ex : List Addr
  pn : List (Addr × Obj)
  xe : Value → Shared → Prop
abbrev cx (S : Sx) (N : List Str) (y : Dy) : Cx := ⟨S.P, S.w, S.K, S.mg, S.base, y.A, N, y.s0, y.H0, y.env, y.outer, y.stack, y.ex, S.fn, true, y.pn, y.xe⟩

/-! exceptions, arguments, promises in the heap -/
def ExD (K : PySem.W.Frag) (H : Hp) : Option (Str × D) → Option Addr → Prop
  | none, od => od = none
  | some (f, d), od => ∃ dd v, od = some dd ∧ H dd = some (.xd [(f, v)]) ∧ RD K (fun _ => False) H v d
def ScOk (K : PySem.W.Frag) (H : Hp) (a : Addr) (ns : List Int) : Prop := (∃ o, H a = some (.frz o (.lst (ns.map V.int)))) ∨ SqL K (fun _ => none) a (ns.map V.int)
inductive AgOk (K : PySem.W.Frag) (Mc : AS) (H : Hp) : V → Ag → Prop
  | p {v : V} {d : D} : RD K Mc H v d → AgOk K Mc H v (.p d)
  | o {a : Addr} {c : Ct} : Mc a → CtOk K Mc H a c → AgOk K Mc H (.ref a) (.o c)
  | sc {a : Addr} {ns : List Int} : ScOk K H a ns → AgOk K Mc H (.ref a) (.sc ns)
def ownA : List V → List Ag → List Addr
  | .ref a :: vs, .o _ :: as => a :: ownA vs as
  | _ :: vs, _ :: as => ownA vs as
  | _, _ => []
def XOk (S : Sx) (W : WX) (cs : List Bs) (x : Ex → Prop) : Prop := ∀ e, x e → ∀ (C : Addr) (od : Option Addr) (σ : St) (H : Hp), S.mg e.c = some (.ref C) → ExD S.K H e.f od → (∀ b ∈ cs, Kp b.z b.h H) → W (.ref C) od σ H
/-- a list that was not there -/
def NewL (K : PySem.W.Frag) (Mc : AS) (H H' : Hp) (v : V) (d : D) : Prop := ∃ p xs ds, v = .ref p ∧ d = .list ds ∧ H p = none ∧ H' p = some (.lst xs) ∧ RDs K (fun a => Mc a ∨ a = p) H' xs ds
def liftSp (K : PySem.W.Frag) (mg : Str → Option Value) (fr : Bool) (n : Nat) (sp : DSp) : Sp := fun vs H Q E => ∃ (Mc : AS) (as : List Ag), vs.length = n ∧ Paired (AgOk K Mc H) vs as ∧ (ownA vs as).Nodup ∧ (∀ a, Mc a → H a ≠ none) ∧
  ∃ (k : D → List Ct → Prop) (x : Ex → Prop), sp as k x ∧
    (∀ d cs v H', Kp (fun a => a ∈ ownA vs as) H H' → RD K Mc H' v d → (fr = true → NewL K Mc H H' v d) → k d cs → Paired (CtOk K Mc H') (ownA vs as) cs → Q v H') ∧
    (∀ e, x e → ∀ (C : Addr) (od : Option Addr) (H' : Hp), mg e.c = some (.ref C) → ExD K H' e.f od → Kp (fun a => a ∈ ownA vs as) H H' → E (.ref C) od H')

structure Gd (S : Sx) (N : List Str) (sc : Scope) (W : WX) (y : Dy) : Prop where
  sc : y.env.scope = sc
  room : Room S.lv y.A
  tk : Takes (cx S N y) W
theorem Gd.hu {S : Sx} {N : List Str} {sc : Scope} {W : WX} {y : Dy} (g : Gd S N sc W y) : (cx S N y).A.units + 200 < cLine := by
  have := g.room.un
  show y.A.units + 200 < cLine
  omega

def SndE (S : Sx) (W : WX) (te : TE) (s : SE) : Prop := ∀ (cs : List Bs) (Mc M : AS) (ρ : Ro) (σ : St) (H : Hp) (Q : VK) (k : KE') (x : Ex → Prop), RelS S.K cs Mc M ρ σ H → XOk S W cs x → s ρ k x →
  (∀ d ρ' M' v H', Post S.K cs Mc M ρ σ H M' ρ' H' → RD S.K M' H' v d → k d ρ' → Q v H') → te σ H Q
def OdOk (K : PySem.W.Frag) (M : AS) (σ : St) (H : Hp) (v : V) : Od → Prop
  | .d d => RD K M H v d
  | .s i => σ[i]? = some (some v)
def SndO (S : Sx) (W : WX) (te : TE) (s : Ro → (Od → Ro → Prop) → (Ex → Prop) → Prop) : Prop := ∀ (cs : List Bs) (Mc M : AS) (ρ : Ro) (σ : St) (H : Hp) (Q : VK) (k : Od → Ro → Prop) (x : Ex → Prop), RelS S.K cs Mc M ρ σ H → XOk S W cs x → s ρ k x →
  (∀ d ρ' M' v H', Post S.K cs Mc M ρ σ H M' ρ' H' → OdOk S.K M' σ H' v d → k d ρ' → Q v H') → te σ H Q
def SndT (S : Sx) (W : WX) (tt : TT) (s : SE) : Prop := ∀ (cs : List Bs) (Mc M : AS) (ρ : Ro) (σ : St) (H : Hp) (Q : Bool → Hp → Prop) (k : Bool → Ro → Prop) (x : Ex → Prop), RelS S.K cs Mc M ρ σ H → XOk S W cs x → s ρ (kOfB k) x →
  (∀ b ρ' M' H', Post S.K cs Mc M ρ σ H M' ρ' H' → k b ρ' → Q b H') → tt σ H Q
def SndA (S : Sx) (W : WX) (ta : TA) (s : Ro → (List D → Ro → Prop) → (Ex → Prop) → Prop) : Prop := ∀ (cs : List Bs) (Mc M : AS) (ρ : Ro) (σ : St) (H : Hp) (Q : List V → Hp → Prop) (k : List D → Ro → Prop) (x : Ex → Prop), RelS S.K cs Mc M ρ σ H → XOk S W cs x → s ρ k x →
  (∀ ds ρ' M' vs H', Post S.K cs Mc M ρ σ H M' ρ' H' → RDs S.K M' H' vs ds → k ds ρ' → Q vs H') → ta σ H Q
def SndG (S : Sx) (W : WX) (ta : TA) (s : Ro → (List Od → Ro → Prop) → (Ex → Prop) → Prop) : Prop := ∀ (cs : List Bs) (Mc M : AS) (ρ : Ro) (σ : St) (H : Hp) (Q : List V → Hp → Prop) (k : List Od → Ro → Prop) (x : Ex → Prop), RelS S.K cs Mc M ρ σ H → XOk S W cs x → s ρ k x →
  (∀ os ρ' M' vs H', Post S.K cs Mc M ρ σ H M' ρ' H' → Paired (OdOk S.K M' σ H') vs os → k os ρ' → Q vs H') → ta σ H Q

def OkE (S : Sx) (N : List Str) (sc : Scope) (W : WX) (e : Expr) (s : SE) : Prop := ∃ te, (∀ y, Gd S N sc W y → PE (cx S N y) e te) ∧ SndE S W te s
def OkO (S : Sx) (N : List Str) (sc : Scope) (W : WX) (e : Expr) (s : Ro → (Od → Ro → Prop) → (Ex → Prop) → Prop) : Prop := ∃ te, (∀ y, Gd S N sc W y → PE (cx S N y) e te) ∧ SndO S W te s
def OkT (S : Sx) (N : List Str) (sc : Scope) (W : WX) (e : Expr) (s : SE) : Prop := ∃ tt, (∀ y, Gd S N sc W y → PT (cx S N y) e tt) ∧ SndT S W tt s
def OkA (S : Sx) (N : List Str) (sc : Scope) (W : WX) (es : List Expr) (s : Ro → (List D → Ro → Prop) → (Ex → Prop) → Prop) : Prop := ∃ ta, (∀ y, Gd S N sc W y → PA (cx S N y) es ta) ∧ SndA S W ta s
def OkG (S : Sx) (N : List Str) (sc : Scope) (W : WX) (es : List Expr) (s : Ro → (List Od → Ro → Prop) → (Ex → Prop) → Prop) : Prop := ∃ ta, (∀ y, Gd S N sc W y → PA (cx S N y) es ta) ∧ SndG S W ta s

section
variable {S : Sx} {N : List Str} {sc : Scope} {W : WX} {Γ : Gm} {cs : List Bs} {Mc M M' M1 M2 : AS} {H H' H1 H2 : Hp} {ρ ρ' ρ1 ρ2 : Ro} {σ : St}

theorem OdOk.post (R : RelS S.K cs Mc M ρ σ H) (p : Post S.K cs Mc M ρ σ H M' ρ' H') {v : V} {o : Od} (h : OdOk S.K M σ H v o) : OdOk S.K M' σ H' v o := by
  cases o with
  | d d => exact p.rd R h
  | s i => exact h
theorem rs_ok (R : RelS S.K cs Mc M ρ σ H) {v : V} {o : Od} {d : D} (h : OdOk S.K M σ H v o) (e : rs o ρ = some d) : RB S.K M H v d := by
  cases o with
  | d d' =>
    cases e
    exact .inl h
  | s i =>
    have e : (match ρ[i]? with
      | some (.p d) => some d
      | some (.o _ (.ls ds)) => some (.list ds)
      | _ => none) = some d := e
    split at e
    · rename_i d' q
      cases e
      obtain ⟨v', e1, r⟩ := R.pure q
      have h : σ[i]? = some (some v) := h
      rw [h] at e1
      cases e1
      exact .inl r
    · rename_i fr ds q
      cases e
      obtain ⟨a, e1, m, xs, r1, r2⟩ := R.ownA q
      have h : σ[i]? = some (some v) := h
      rw [h] at e1
      cases e1
      exact .inr ⟨a, xs, ds, rfl, rfl, r1, r2⟩
    · cases e

/-! names -/
theorem ok_var {i : Nat} {x : Str} {pos : Pos} (hN : N[i]? = some x) (hv : Vis sc x) (hd : (x == ("__debug__" : Str)) = false) (hd2 : (x == ("__classdict__" : Str)) = false) : OkE S N sc W (.Name x pos) (semE Γ (.var i)) := by
  refine ⟨tVar i, fun y g => pe_var hN (by rw [g.sc]; exact hv) hd hd2, fun cs Mc M ρ σ H Q k x R _ h hk => ?_⟩
  have h : (match ρ[i]? with
    | some (.p d) => k d ρ
    | some (.o true (.ls ds)) => k (.list ds) (ρ.set i (.p (.list ds)))
    | _ => False) := h
  split at h
  · rename_i d q
    obtain ⟨v, e1, r⟩ := R.pure q
    exact ⟨v, e1, hk _ _ _ _ _ (Post.refl R) r h⟩
  · rename_i ds q
    obtain ⟨a, M', e1, p, r⟩ := R.freeze q
    exact ⟨_, e1, hk _ _ _ _ _ p r h⟩
  · exact h.elim
theorem RelS.val (R : RelS S.K cs Mc M ρ σ H) {i : Nat} (h : okSl ρ i = true) : ∃ v, σ[i]? = some (some v) := by
  unfold okSl at h
  split at h
  · cases h
  · cases h
  · rename_i q1 q2
    cases e : ρ[i]? with
    | none => exact absurd e q2
    | some sl =>
      obtain ⟨ov, e1, r⟩ := R.slot e
      cases sl with
      | un => exact absurd e q1
      | p d => obtain ⟨v, rfl, _⟩ := r; exact ⟨v, e1⟩
      | o fr c => obtain ⟨v, rfl, _⟩ := r; exact ⟨_, e1⟩
      | sc ns => obtain ⟨v, rfl, _⟩ := r; exact ⟨_, e1⟩
theorem ok_bv {i : Nat} {x : Str} {pos : Pos} (hN : N[i]? = some x) (hv : Vis sc x) (hd : (x == ("__debug__" : Str)) = false) (hd2 : (x == ("__classdict__" : Str)) = false) : OkO S N sc W (.Name x pos) (semO (.bv i) (semE Γ (.bv i))) := by
  refine ⟨tVar i, fun y g => pe_var hN (by rw [g.sc]; exact hv) hd hd2, fun cs Mc M ρ σ H Q k x R _ h hk => ?_⟩
  obtain ⟨h1, h2⟩ : okSl ρ i = true ∧ k (.s i) ρ := h
  obtain ⟨v, e⟩ := R.val h1
  exact ⟨v, e, hk (.s i) _ _ _ _ (Post.refl R) e h2⟩
theorem ok_opd {e : Expr} {d : DE} (h : OkE S N sc W e (semE Γ d)) (hb : ∀ i, d ≠ .bv i) : OkO S N sc W e (semO d (semE Γ d)) := by
  obtain ⟨te, h1, h2⟩ := h
  refine ⟨te, h1, fun cs Mc M ρ σ H Q k x R X hs hk => ?_⟩
  have hs' : semE Γ d ρ (fun d ρ1 => k (.d d) ρ1) x := by
    cases d <;> first | exact hs | exact absurd rfl (hb _)
  exact h2 cs Mc M ρ σ H Q _ x R X hs' fun g ρ' M' v H' p r q => hk (.d g) ρ' M' v H' p r q

/-! constants, names of the module -/
theorem ok_c {e : Expr} {v : V} {d : D} (h : ∀ y, PE (cx S N y) e (tC v)) (r : ∀ M H, RD S.K M H v d) : OkE S N sc W e (semE Γ (.c d)) :=
  ⟨tC v, fun y _ => h y, fun cs Mc M ρ σ H Q k x R _ hs hk => hk d ρ M v H (Post.refl R) (r _ _) hs⟩

/-! operations -/
theorem ok_op1 {e ea : Expr} {a : DE} {p : P1} (ha : OkO S N sc W ea (semO a (semE Γ a))) (h : ∀ y ta, Gd S N sc W y → PE (cx S N y) ea ta → PE (cx S N y) e (tUn (rD1 S.K (s1 p)) ta)) : OkE S N sc W e (semE Γ (.op1 p a)) := by
  obtain ⟨ta, h1, h2⟩ := ha
  refine ⟨_, fun y g => h y ta g (h1 y g), fun cs Mc M ρ σ H Q k x R X hs hk => ?_⟩
  refine h2 cs Mc M ρ σ H _ _ x R X hs fun o ρ1 M1 v H1 p1 r1 q1 => ?_
  split at q1
  · rename_i d e
    refine ⟨M1, d, _, p1.rel.mx, rs_ok p1.rel r1 e, q1, fun g u H' kp rg kg => hk g ρ1 M1 u H' (p1.trans (Post.heap p1.rel kp)) rg kg⟩
  · exact q1.elim
theorem ok_op2 {e ea eb : Expr} {a b : DE} {p : P2} (ha : OkO S N sc W ea (semO a (semE Γ a))) (hb : OkO S N sc W eb (semO b (semE Γ b)))
    (h : ∀ y ta tb, Gd S N sc W y → PE (cx S N y) ea ta → PE (cx S N y) eb tb → PE (cx S N y) e (tOp (rD S.K (s2 p)) ta tb)) : OkE S N sc W e (semE Γ (.op2 p a b)) := by
  obtain ⟨ta, h1, h2⟩ := ha
  obtain ⟨tb, g1, g2⟩ := hb
  refine ⟨_, fun y g => h y ta tb g (h1 y g) (g1 y g), fun cs Mc M ρ σ H Q k x R X hs hk => ?_⟩
  refine h2 cs Mc M ρ σ H _ _ x R X hs fun o ρ1 M1 v H1 p1 r1 q1 => ?_
  obtain ⟨_, q1⟩ := q1
  refine g2 cs Mc M1 ρ1 σ H1 _ _ x p1.rel X q1 fun o2 ρ2 M2 w H2 p2 r2 q2 => ?_
  split at q2
  · rename_i d e2 e1 e3
    refine ⟨M2, d, e2, _, p2.rel.mx, rs_ok p2.rel (r1.post p1.rel p2) e1, rs_ok p2.rel r2 e3, q2, fun g u H' kp rg kg => hk g ρ2 M2 u H' ((p1.trans p2).trans (Post.heap p2.rel kp)) rg kg⟩
  · exact q2.elim
/-- a == None etc. -/
theorem ok_isN {e ea eb : Expr} {a : DE} {p : P1} {f : D → Bool} (ha : OkO S N sc W ea (semO a (semE Γ a))) (hp : s1 p = fun d k => k (.bool (f d))) (hb : ∀ y, PE (cx S N y) eb (tC .non))
    (h : ∀ y ta tb, Gd S N sc W y → PE (cx S N y) ea ta → PE (cx S N y) eb tb → PE (cx S N y) e (tOp (rD S.K fun d e k => e = .none ∧ k (.bool (f d))) ta tb)) : OkE S N sc W e (semE Γ (.op1 p a)) := by
  obtain ⟨ta, h1, h2⟩ := ha
  refine ⟨_, fun y g => h y ta _ g (h1 y g) (hb y), fun cs Mc M ρ σ H Q k x R X hs hk => ?_⟩
  refine h2 cs Mc M ρ σ H _ _ x R X hs fun o ρ1 M1 v H1 p1 r1 q1 => ?_
  split at q1
  · rename_i d e
    rw [hp] at q1
    refine ⟨M1, d, .none, (fun r => k r ρ1), p1.rel.mx, rs_ok p1.rel r1 e, .inl .non, ⟨rfl, q1⟩, fun g u H' kp rg kg => hk g ρ1 M1 u H' (p1.trans (Post.heap p1.rel kp)) rg kg⟩
  · exact q1.elim

/-! truth -/
theorem SndE.bl {te : TE} {s : SE} (h : SndE S W te s) {Q : VK} {k : Bool → Ro → Prop} {x : Ex → Prop} (R : RelS S.K cs Mc M ρ σ H) (X : XOk S W cs x) (hs : s ρ (kOfB k) x)
    (hk : ∀ b ρ' M' H', Post S.K cs Mc M ρ σ H M' ρ' H' → k b ρ' → Q (.bl b) H') : te σ H Q :=
  h cs Mc M ρ σ H Q _ x R X hs fun d ρ' M' v H' p r q => by
    cases d <;> first | exact (show False from q).elim | skip
    cases r
    exact hk _ ρ' M' H' p q
theorem ok_and {a b : Expr} {rest : List Expr} {pos : Pos} {da db : DE} (ha : OkE S N sc W a (semE Γ da)) (hb : OkE S N sc W (.BoolOp .And (b :: rest) pos) (semE Γ db)) : OkE S N sc W (.BoolOp .And (a :: b :: rest) pos) (semE Γ (.and da db)) := by
  obtain ⟨ta, h1, h2⟩ := ha
  obtain ⟨tb, g1, g2⟩ := hb
  refine ⟨_, fun y g => pe_and (h1 y g) (g1 y g), fun cs Mc M ρ σ H Q k x R X hs hk => ?_⟩
  refine h2.bl R X hs fun c ρ1 M1 H1 p1 q1 => ⟨c, rfl, ?_⟩
  cases c with
  | true => exact g2 cs Mc M1 ρ1 σ H1 Q k x p1.rel X q1 fun d ρ' M' v H' p r q => hk d ρ' M' v H' (p1.trans p) r q
  | false => exact hk _ _ _ _ _ p1 (.bl false) q1
theorem ok_or {a b : Expr} {rest : List Expr} {pos : Pos} {da db : DE} (ha : OkE S N sc W a (semE Γ da)) (hb : OkE S N sc W (.BoolOp .Or (b :: rest) pos) (semE Γ db)) : OkE S N sc W (.BoolOp .Or (a :: b :: rest) pos) (semE Γ (.or da db)) := by
  obtain ⟨ta, h1, h2⟩ := ha
  obtain ⟨tb, g1, g2⟩ := hb
  refine ⟨_, fun y g => pe_or (h1 y g) (g1 y g), fun cs Mc M ρ σ H Q k x R X hs hk => ?_⟩
  refine h2.bl R X hs fun c ρ1 M1 H1 p1 q1 => ⟨c, rfl, ?_⟩
  cases c with
  | false => exact g2 cs Mc M1 ρ1 σ H1 Q k x p1.rel X q1 fun d ρ' M' v H' p r q => hk d ρ' M' v H' (p1.trans p) r q
  | true => exact hk _ _ _ _ _ p1 (.bl true) q1
theorem ok_one {op : BoolOp} {a : Expr} {pos : Pos} {s : SE} (ha : OkE S N sc W a s) : OkE S N sc W (.BoolOp op [a] pos) s := by
  obtain ⟨ta, h1, h2⟩ := ha
  exact ⟨ta, fun y g => pe_one (h1 y g), h2⟩
theorem ok_not {a : Expr} {pos : Pos} {da : DE} (ha : OkE S N sc W a (semE Γ da)) : OkE S N sc W (.UnaryOp .Not a pos) (semE Γ (.not da)) := by
  obtain ⟨ta, h1, h2⟩ := ha
  refine ⟨_, fun y g => pe_not (h1 y g), fun cs Mc M ρ σ H Q k x R X hs hk => ?_⟩
  exact h2.bl R X hs fun c ρ1 M1 H1 p1 q1 => ⟨c, rfl, hk _ _ _ _ _ p1 (.bl _) q1⟩
theorem ok_ite {t a b : Expr} {pos : Pos} {dt da db : DE} (ht : OkT S N sc W t (semE Γ dt)) (ha : OkE S N sc W a (semE Γ da)) (hb : OkE S N sc W b (semE Γ db)) : OkE S N sc W (.IfExp t a b pos) (semE Γ (.ite dt da db)) := by
  obtain ⟨tt, f1, f2⟩ := ht
  obtain ⟨ta, h1, h2⟩ := ha
  obtain ⟨tb, g1, g2⟩ := hb
  refine ⟨_, fun y g => pe_ifExp (f1 y g) (h1 y g) (g1 y g), fun cs Mc M ρ σ H Q k x R X hs hk => ?_⟩
  refine f2 cs Mc M ρ σ H _ _ x R X hs fun c ρ1 M1 H1 p1 q1 => ?_
  cases c with
  | true => exact h2 cs Mc M1 ρ1 σ H1 Q k x p1.rel X q1 fun d ρ' M' v H' p r q => hk d ρ' M' v H' (p1.trans p) r q
  | false => exact g2 cs Mc M1 ρ1 σ H1 Q k x p1.rel X q1 fun d ρ' M' v H' p r q => hk d ρ' M' v H' (p1.trans p) r q
/-! tests -/
theorem ok_tand {a b : Expr} {rest : List Expr} {pos : Pos} {da db : DE} {W' : WX} (ha : OkT S N sc W a (semE Γ da)) (hb : ∃ tt, (∀ y, Gd S N sc W y → PW (cx S N y) (.BoolOp .And (b :: rest) pos) tt) ∧ SndT S W tt (semE Γ db)) :
    ∃ tt, (∀ y, Gd S N sc W y → PW (cx S N y) (.BoolOp .And (a :: b :: rest) pos) tt) ∧ SndT S W tt (semE Γ (.and da db)) := by
  obtain ⟨ta, h1, h2⟩ := ha
  obtain ⟨tb, g1, g2⟩ := hb
  refine ⟨_, fun y g => pw_and (h1 y g) (g1 y g), fun cs Mc M ρ σ H Q k x R X hs hk => ?_⟩
  refine h2 cs Mc M ρ σ H _ _ x R X hs fun c ρ1 M1 H1 p1 q1 => ?_
  cases c with
  | true => exact g2 cs Mc M1 ρ1 σ H1 Q k x p1.rel X q1 fun d ρ' M' H' p q => hk d ρ' M' H' (p1.trans p) q
  | false => exact hk _ _ _ _ p1 q1
theorem ok_tor {a b : Expr} {rest : List Expr} {pos : Pos} {da db : DE} (ha : OkT S N sc W a (semE Γ da)) (hb : ∃ tt, (∀ y, Gd S N sc W y → PW (cx S N y) (.BoolOp .Or (b :: rest) pos) tt) ∧ SndT S W tt (semE Γ db)) :
    ∃ tt, (∀ y, Gd S N sc W y → PW (cx S N y) (.BoolOp .Or (a :: b :: rest) pos) tt) ∧ SndT S W tt (semE Γ (.or da db)) := by
  obtain ⟨ta, h1, h2⟩ := ha
  obtain ⟨tb, g1, g2⟩ := hb
  refine ⟨_, fun y g => pw_or (h1 y g) (g1 y g), fun cs Mc M ρ σ H Q k x R X hs hk => ?_⟩
  refine h2 cs Mc M ρ σ H _ _ x R X hs fun c ρ1 M1 H1 p1 q1 => ?_
  cases c with
  | false => exact g2 cs Mc M1 ρ1 σ H1 Q k x p1.rel X q1 fun d ρ' M' H' p q => hk d ρ' M' H' (p1.trans p) q
  | true => exact hk _ _ _ _ p1 q1
theorem ok_tnot {a : Expr} {pos : Pos} {da : DE} (ha : OkT S N sc W a (semE Γ da)) : OkT S N sc W (.UnaryOp .Not a pos) (semE Γ (.not da)) := by
  obtain ⟨ta, h1, h2⟩ := ha
  refine ⟨_, fun y g => pt_not (h1 y g), fun cs Mc M ρ σ H Q k x R X hs hk => ?_⟩
  exact h2 cs Mc M ρ σ H _ _ x R X hs fun c ρ1 M1 H1 p1 q1 => hk _ _ _ _ p1 q1
/-- an expression that gives a bool, as a test -/
theorem ok_tval {e : Expr} {s : SE} (h : OkE S N sc W e s) (he : ∀ env whole, isTrue e env whole = (do let v ← whole; standAt e.pos; holding [v] (truthy v))) : OkT S N sc W e s := by
  obtain ⟨te, h1, h2⟩ := h
  refine ⟨tB te, fun y g => pt_val (h1 y g) (he _), fun cs Mc M ρ σ H Q k x R X hs hk => ?_⟩
  exact h2.bl R X hs fun b ρ' M' H' p q => ⟨b, rfl, hk b ρ' M' H' p q⟩
theorem ok_tcmp2 {ea eb : Expr} {a b : DE} {p : P2} {op : CmpOp} {pos : Pos} (ha : OkO S N sc W ea (semO a (semE Γ a))) (hb : OkO S N sc W eb (semO b (semE Γ b)))
    (h : ∀ y, Gd S N sc W y → OpR (cx S N y) (compareOp op) (rD S.K (s2 p))) (hm : behindInMarks op eb = false) : OkT S N sc W (.Compare ea [op] [eb] pos) (semE Γ (.op2 p a b)) := by
  obtain ⟨te, h1, h2⟩ := ok_op2 (e := .Compare ea [op] [eb] pos) ha hb fun y ta tb g ka kb => pe_cmpR (h y g) ka kb hm
  obtain ⟨ta, i1, i2⟩ := ha
  obtain ⟨tb, g1, g2⟩ := hb
  refine ⟨tTest (tOp (rD S.K (s2 p)) ta tb), fun y g => pt_cmpR (h y g) (i1 y g) (g1 y g) hm, fun cs Mc M ρ σ H Q k x R X hs hk => ?_⟩
  refine i2 cs Mc M ρ σ H _ _ x R X hs fun o ρ1 M1 v H1 p1 r1 q1 => ?_
  obtain ⟨_, q1⟩ := q1
  refine g2 cs Mc M1 ρ1 σ H1 _ _ x p1.rel X q1 fun o2 ρ2 M2 w H2 p2 r2 q2 => ?_
  split at q2
  · rename_i d e2 e1 e3
    refine ⟨M2, d, e2, _, p2.rel.mx, rs_ok p2.rel (r1.post p1.rel p2) e1, rs_ok p2.rel r2 e3, q2, fun g u H' kp rg kg => ?_⟩
    cases g <;> first | exact (show False from kg).elim | skip
    cases rg
    exact ⟨_, rfl, hk _ ρ2 M2 H' ((p1.trans p2).trans (Post.heap p2.rel kp)) kg⟩
  · exact q2.elim
theorem ok_tcmpN {ea eb : Expr} {a : DE} {p : P1} {f : D → Bool} {op : CmpOp} {pos : Pos} (ha : OkO S N sc W ea (semO a (semE Γ a))) (hp : s1 p = fun d k => k (.bool (f d))) (hb : ∀ y, PE (cx S N y) eb (tC .non))
    (h : ∀ y, Gd S N sc W y → OpR (cx S N y) (compareOp op) (rD S.K fun d e k => e = .none ∧ k (.bool (f d)))) (hm : behindInMarks op eb = false) : OkT S N sc W (.Compare ea [op] [eb] pos) (semE Γ (.op1 p a)) := by
  obtain ⟨ta, i1, i2⟩ := ha
  refine ⟨tTest (tOp (rD S.K fun d e k => e = .none ∧ k (.bool (f d))) ta (tC .non)), fun y g => pt_cmpR (h y g) (i1 y g) (hb y) hm, fun cs Mc M ρ σ H Q k x R X hs hk => ?_⟩
  refine i2 cs Mc M ρ σ H _ _ x R X hs fun o ρ1 M1 v H1 p1 r1 q1 => ?_
  split at q1
  · rename_i d e
    rw [hp] at q1
    refine ⟨M1, d, .none, (fun r => kOfB k r ρ1), p1.rel.mx, rs_ok p1.rel r1 e, .inl .non, ⟨rfl, q1⟩, fun g u H' kp rg kg => ?_⟩
    cases g <;> first | exact (show False from kg).elim | skip
    cases rg
    exact ⟨_, rfl, hk _ ρ1 M1 H' (p1.trans (Post.heap p1.rel kp)) kg⟩
  · exact q1.elim

/-! items -/
theorem ok_anil : OkA S N sc W [] (semA Γ .nil) := ⟨_, fun y _ => pa_nil, fun cs Mc M ρ σ H Q k x R X hs hk => hk [] _ _ _ _ (Post.refl R) .nil hs⟩
theorem ok_acons {e : Expr} {es : List Expr} {a b : DE} (ha : OkE S N sc W e (semE Γ a)) (hb : OkA S N sc W es (semA Γ b)) (hs : ∀ env, starEach (e :: es) env = (false, eval e env) :: starEach es env) : OkA S N sc W (e :: es) (semA Γ (.cons a b)) := by
  obtain ⟨ta, h1, h2⟩ := ha
  obtain ⟨tb, g1, g2⟩ := hb
  refine ⟨_, fun y g => pa_cons (h1 y g) (g1 y g) (hs _), fun cs Mc M ρ σ H Q k x R X hs hk => ?_⟩
  refine h2 cs Mc M ρ σ H _ _ x R X hs fun d ρ1 M1 v H1 p1 r1 q1 => ?_
  exact g2 cs Mc M1 ρ1 σ H1 _ _ x p1.rel X q1 fun ds ρ2 M2 vs H2 p2 r2 q2 => hk _ _ _ _ _ (p1.trans p2) (.cons (p2.rd p1.rel r1) r2) q2
theorem ok_gnil : OkG S N sc W [] (semG Γ .nil) := ⟨_, fun y _ => pa_nil, fun cs Mc M ρ σ H Q k x R X hs hk => hk [] _ _ _ _ (Post.refl R) .nil hs⟩
theorem paired_mono {α β : Type} {F G : α → β → Prop} : ∀ {l₁ : List α} {l₂ : List β}, Paired F l₁ l₂ → (∀ a b, F a b → G a b) → Paired G l₁ l₂
  | _, _, .nil, _ => .nil
  | _, _, .cons h t, f => .cons (f _ _ h) (paired_mono t f)
theorem ok_gcons {e : Expr} {es : List Expr} {a b : DE} (ha : OkO S N sc W e (semO a (semE Γ a))) (hb : OkG S N sc W es (semG Γ b)) (hs : ∀ env, starEach (e :: es) env = (false, eval e env) :: starEach es env) : OkG S N sc W (e :: es) (semG Γ (.cons a b)) := by
  obtain ⟨ta, h1, h2⟩ := ha
  obtain ⟨tb, g1, g2⟩ := hb
  refine ⟨_, fun y g => pa_cons (h1 y g) (g1 y g) (hs _), fun cs Mc M ρ σ H Q k x R X hs hk => ?_⟩
  refine h2 cs Mc M ρ σ H _ _ x R X hs fun d ρ1 M1 v H1 p1 r1 q1 => ?_
  exact g2 cs Mc M1 ρ1 σ H1 _ _ x p1.rel X q1 fun ds ρ2 M2 vs H2 p2 r2 q2 => hk _ _ _ _ _ (p1.trans p2) (.cons (r1.post p1.rel p2) r2) q2
theorem ok_tup {es : List Expr} {n : Nat} {pos : Pos} {a : DE} (ha : OkA S N sc W es (semA Γ a)) : OkE S N sc W (.Tuple es n pos) (semE Γ (.tup a)) := by
  obtain ⟨ta, h1, h2⟩ := ha
  refine ⟨_, fun y g => pe_tupF (h1 y g), fun cs Mc M ρ σ H Q k x R X hs hk => ?_⟩
  refine h2 cs Mc M ρ σ H _ _ x R X hs fun ds ρ1 M1 vs H1 p1 r1 q1 => ⟨by rw [r1.len]; exact Nat.le_of_lt (small1000 q1.1), fun p o ho hp => ?_⟩
  exact hk _ _ _ _ _ (p1.trans (Post.newH p1.rel hp)) (RD.newT r1 hp ho) q1.2
theorem ok_lst {es : List Expr} {pos : Pos} {a : DE} (ha : OkA S N sc W es (semA Γ a)) : OkE S N sc W (.List es pos) (semE Γ (.lst a)) := by
  obtain ⟨ta, h1, h2⟩ := ha
  refine ⟨_, fun y g => pe_lst (h1 y g), fun cs Mc M ρ σ H Q k x R X hs hk => ?_⟩
  refine h2 cs Mc M ρ σ H _ _ x R X hs fun ds ρ1 M1 vs H1 p1 r1 q1 => ⟨by rw [r1.len]; exact Nat.le_of_lt (small1000 q1.1), fun p hp => ?_⟩
  exact hk _ _ _ _ _ (p1.trans (Post.newH p1.rel hp)) (RD.newL p1.rel.mx r1 hp) q1.2
end
end DL

end

section
namespace DL
open PySem PySem.Spec PyProof.Rows L2

section
variable {K : PySem.W.Frag} {cs : List Bs} {Mc M M' : AS} {H H' : Hp} {ρ ρ' : Ro} {σ : St}
/-! lists of one's own, changed together -/
theorem RelS.puts {A : AS} (R : RelS K cs Mc M ρ σ H) (kp : Kp A H H') (hA : ∀ a, A a → Mut ρ σ a) (hl : ρ'.length = ρ.length)
    (hs : ∀ (i : Nat) (s : Sl), ρ'[i]? = some s → (∃ fr c c', ρ[i]? = some (.o fr c) ∧ s = .o fr c' ∧ ∀ a, σ[i]? = some (some (.ref a)) → CtOk K M H' a c') ∨ (ρ[i]? = some s ∧ ∀ fr c a, s = .o fr c → σ[i]? = some (some (.ref a)) → ¬ A a)) :
    Post K cs Mc M ρ σ H M ρ' H' := by
  have kz : ∀ b, A b → M b := fun b z => R.mutM (hA b z)
  have shr : ∀ {j : Nat} {fr' : Bool} {c' : Ct}, ρ'[j]? = some (.o fr' c') → ∃ c, ρ[j]? = some (.o fr' c) := fun {j fr' c'} q => by
    rcases hs _ _ q with ⟨fr, c, c2, h1, h2, _⟩ | ⟨h1, _⟩
    · cases h2
      exact ⟨c, h1⟩
    · exact ⟨c', h1⟩
  refine ⟨⟨by rw [hl]; exact R.len, fun j s ov q1 q2 => ?_, fun j l f f' c c' b q1 q2 q3 q4 => ?_, R.mc, fun b z => kp.there b (R.mx b z), fun j f c b q1 q2 => ?_, fun B hB => ?_, R.gr, fun B hB j c b q1 q2 => ?_⟩, fun _ z => z, kp.mono hA, fun j f c q => shr q⟩
  · rcases hs _ _ q1 with ⟨fr, c, c2, h1, h2, h3⟩ | ⟨h1, h2⟩
    · subst h2
      obtain ⟨a, e, m, _⟩ := R.ownA h1
      rw [e] at q2
      cases q2
      exact ⟨a, rfl, m, h3 a e⟩
    · have q := R.sl j s ov h1 q2
      cases s with
      | un => trivial
      | p d =>
        obtain ⟨v, e1, r⟩ := q
        exact ⟨v, e1, r.kp kp kz fun b z => .inl z⟩
      | o f c =>
        obtain ⟨b, e1, mb, r⟩ := q
        subst e1
        exact ⟨b, rfl, mb, r.kp kp kz (fun b z => .inl z) (h2 f c b rfl q2)⟩
      | sc ns =>
        obtain ⟨b, e1, r⟩ := q
        refine ⟨b, e1, ?_⟩
        rcases r with ⟨o, r⟩ | r
        · exact .inl ⟨o, kp.frzs _ _ _ r⟩
        · exact .inr r
  · obtain ⟨c1, z1⟩ := shr q1
    obtain ⟨c2, z2⟩ := shr q2
    exact R.sep j l _ _ _ _ b z1 z2 q3 q4
  · obtain ⟨c1, z1⟩ := shr q1
    exact R.own j f _ b z1 q2
  · have ko := R.old B hB
    have ow : ∀ a, A a → B.z a ∨ B.h a = none := fun a z => by
      obtain ⟨i, fr, c, h1, h2⟩ := hA a z
      exact (R.own i fr c a h1 h2).1 B hB
    refine ⟨fun b o nz q => ?_, fun b ys q => kp.tups _ _ (ko.tups b ys q), fun b o u q => kp.frzs _ _ _ (ko.frzs b o u q), fun b q => kp.there b (ko.there b q)⟩
    refine kp.keep b o (fun z => ?_) (ko.keep b o nz q)
    rcases ow b z with ow | ow
    · exact nz ow
    · rw [ow] at q
      cases q
  · obtain ⟨c1, z1⟩ := shr q1
    exact R.pin B hB j c1 b z1 q2
/-- what is kept of a base, behind a change of what is one's own -/
theorem RelS.oldThen {A : AS} (R : RelS K cs Mc M ρ σ H) (kp : Kp A H H') (hA : ∀ a, A a → Mut ρ σ a) {B : Bs} (hB : B ∈ cs) : Kp B.z B.h H' := by
  have ko := R.old B hB
  refine ⟨fun b o nz q => ?_, fun b ys q => kp.tups _ _ (ko.tups b ys q), fun b o u q => kp.frzs _ _ _ (ko.frzs b o u q), fun b q => kp.there b (ko.there b q)⟩
  refine kp.keep b o (fun z => ?_) (ko.keep b o nz q)
  obtain ⟨i, fr, c, h1, h2⟩ := hA b z
  rcases (R.own i fr c b h1 h2).1 B hB with ow | ow
  · exact nz ow
  · rw [ow] at q
    cases q

/-! handing on -/
def OwnAt (ρ : Ro) (σ : St) (i : Nat) (a : Addr) : Prop := σ[i]? = some (some (.ref a)) ∧ ∃ fr c, ρ[i]? = some (.o fr c)
theorem args_ok (R : RelS K cs Mc M ρ σ H) : ∀ {os : List Od} {vs : List V} {as : List Ag}, Paired (OdOk K M σ H) vs os → agsOf os ρ = some as → Paired (AgOk K M H) vs as ∧ Paired (OwnAt ρ σ) (ownIx os ρ) (ownA vs as)
  | [], _, as, .nil, e => by
    cases e
    exact ⟨.nil, .nil⟩
  | o :: os, _ :: vs, as, .cons (a := v) h t, e => by
    have e : (match agOf o ρ, agsOf os ρ with
      | some a, some as => some (a :: as)
      | _, _ => none) = some as := e
    split at e
    · rename_i g gs e1 e2
      cases e
      obtain ⟨ih1, ih2⟩ := args_ok R t e2
      cases o with
      | d d =>
        cases e1
        refine ⟨.cons (.p h) ih1, ?_⟩
        have : ownA (v :: vs) (.p d :: gs) = ownA vs gs := by cases v <;> rfl
        rw [this]
        exact ih2
      | s i =>
        have h : σ[i]? = some (some v) := h
        have e1 : (match ρ[i]? with
          | some (.p d) => some (Ag.p d)
          | some (.o _ c) => some (.o c)
          | some (.sc ns) => some (.sc ns)
          | _ => none) = some g := e1
        have ix : ownIx (.s i :: os) ρ = (match ρ[i]? with
          | some (.o _ _) => i :: ownIx os ρ
          | _ => ownIx os ρ) := rfl
        split at e1
        · rename_i d q
          cases e1
          rw [ix, q]
          obtain ⟨w, e3, r⟩ := R.pure q
          rw [h] at e3
          cases e3
          refine ⟨.cons (.p r) ih1, ?_⟩
          have : ownA (v :: vs) (.p d :: gs) = ownA vs gs := by cases v <;> rfl
          rw [this]
          exact ih2
        · rename_i fr c q
          cases e1
          rw [ix, q]
          obtain ⟨a, e3, m, r⟩ := R.ownA q
          rw [h] at e3
          cases e3
          exact ⟨.cons (.o m r) ih1, .cons ⟨h, fr, c, q⟩ ih2⟩
        · rename_i ns q
          cases e1
          rw [ix, q]
          obtain ⟨ov, e3, a, rfl, r⟩ := R.slot q
          rw [h] at e3
          cases e3
          refine ⟨.cons (.sc r) ih1, ?_⟩
          exact ih2
        · cases e1
    · cases e
theorem paired_mem {α β : Type} {F : α → β → Prop} : ∀ {l₁ : List α} {l₂ : List β}, Paired F l₁ l₂ → ∀ b ∈ l₂, ∃ a ∈ l₁, F a b
  | _, _, .nil, b, h => by cases h
  | _, _, .cons h t, b, hb => by
    rcases List.mem_cons.mp hb with e | hb
    · subst e
      exact ⟨_, List.mem_cons_self, h⟩
    · obtain ⟨a, h1, h2⟩ := paired_mem t b hb
      exact ⟨a, List.mem_cons_of_mem _ h1, h2⟩
theorem own_nodup (R : RelS K cs Mc M ρ σ H) : ∀ {is : List Nat} {as : List Addr}, Paired (OwnAt ρ σ) is as → is.Nodup → as.Nodup
  | _, _, .nil, _ => List.nodup_nil
  | i :: is, a :: as, .cons h t, nd => by
    have nd := List.nodup_cons.mp nd
    refine List.nodup_cons.mpr ⟨fun m => ?_, own_nodup R t nd.2⟩
    obtain ⟨j, hj, e, fr, c, q⟩ := paired_mem t a m
    obtain ⟨e2, fr2, c2, q2⟩ := h
    have := R.sep i j _ _ _ _ a q2 q e2 e
    subst this
    exact nd.1 hj
theorem putOuts_len : ∀ {os : List Od} {cts : List Ct} {ρ : Ro}, (putOuts os cts ρ).length = ρ.length
  | [], _, _ => rfl
  | .d _ :: os, cts, ρ => putOuts_len (os := os) (cts := cts) (ρ := ρ)
  | .s i :: os, cts, ρ => by
    show (match ρ[i]?, cts with
      | some (.o fr _), c :: cs => putOuts os cs (ρ.set i (.o fr c))
      | _, cs => putOuts os cs ρ).length = ρ.length
    split
    · rw [putOuts_len, List.length_set]
    · exact putOuts_len
theorem ownIx_set {fr : Bool} {c0 c : Ct} {ρ : Ro} {i : Nat} (h : ρ[i]? = some (.o fr c0)) : ∀ {os : List Od}, ownIx os (ρ.set i (.o fr c)) = ownIx os ρ
  | [] => rfl
  | .d _ :: os => ownIx_set h (os := os)
  | .s j :: os => by
    show (match (ρ.set i (.o fr c))[j]? with
      | some (.o _ _) => j :: ownIx os (ρ.set i (.o fr c))
      | _ => ownIx os (ρ.set i (.o fr c))) = (match ρ[j]? with
      | some (.o _ _) => j :: ownIx os ρ
      | _ => ownIx os ρ)
    rw [ownIx_set h (os := os)]
    by_cases e : i = j
    · subst e
      rw [List.getElem?_set_self (List.getElem?_eq_some_iff.mp h).1, h]
    · rw [List.getElem?_set_ne e]
theorem putOuts_at : ∀ {os : List Od} {as : List Addr} {cts : List Ct} {ρ : Ro} {G : Nat → Ct → Prop}, Paired (fun i c => G i c) (ownIx os ρ) cts → (ownIx os ρ).Nodup →
    ∀ (i : Nat) (s : Sl), (putOuts os cts ρ)[i]? = some s → (i ∈ ownIx os ρ ∧ ∃ fr c c', ρ[i]? = some (.o fr c) ∧ s = .o fr c' ∧ G i c') ∨ (i ∉ ownIx os ρ ∧ ρ[i]? = some s)
  | [], _, cts, ρ, G, hp, nd, i, s, h => .inr ⟨(nomatch ·), h⟩
  | .d _ :: os, as, cts, ρ, G, hp, nd, i, s, h => putOuts_at (os := os) (as := as) (ρ := ρ) (G := G) hp nd i s h
  | .s j :: os, as, cts, ρ, G, hp, nd, i, s, h => by
    have h : (match ρ[j]?, cts with
      | some (.o fr _), c :: cs => putOuts os cs (ρ.set j (.o fr c))
      | _, cs => putOuts os cs ρ)[i]? = some s := h
    have ix : ownIx (.s j :: os) ρ = (match ρ[j]? with
      | some (.o _ _) => j :: ownIx os ρ
      | _ => ownIx os ρ) := rfl
    by_cases ho : ∃ fr c, ρ[j]? = some (.o fr c)
    · obtain ⟨fr, c, q⟩ := ho
      rw [q] at ix h
      have ix : ownIx (.s j :: os) ρ = j :: ownIx os ρ := ix
      rw [ix] at hp nd ⊢
      cases hp with
      | @cons _ c1 _ cts h1 h2 =>
        have nd := List.nodup_cons.mp nd
        have h : (putOuts os cts (ρ.set j (.o fr c1)))[i]? = some s := h
        have ih := putOuts_at (os := os) (as := as) (cts := cts) (ρ := ρ.set j (.o fr c1)) (G := G) (by rw [ownIx_set q]; exact h2) (by rw [ownIx_set q]; exact nd.2) i s h
        rw [ownIx_set q] at ih
        rcases ih with ⟨m, fr2, c2, c3, e1, e2, e3⟩ | ⟨m, e1⟩
        · have ne : i ≠ j := fun z => nd.1 (by rw [← z]; exact m)
          rw [List.getElem?_set_ne (Ne.symm ne)] at e1
          exact .inl ⟨List.mem_cons_of_mem _ m, fr2, c2, c3, e1, e2, e3⟩
        · rcases get_set_some e1 with ⟨z1, z2, _⟩ | ⟨z1, z2⟩
          · subst z1 z2
            exact .inl ⟨List.mem_cons_self, fr, c, c1, q, rfl, h1⟩
          · exact .inr ⟨fun z => (List.mem_cons.mp z).elim z1 m, z2⟩
    · have e1 : ownIx (.s j :: os) ρ = ownIx os ρ := by
        rw [ix]
        split
        · rename_i fr c q
          exact absurd ⟨fr, c, q⟩ ho
        · rfl
      have e2 : (putOuts os cts ρ)[i]? = some s := by
        split at h
        · exact absurd ⟨_, _, ‹ρ[j]? = some (Sl.o _ _)›⟩ ho
        · exact h
      rw [e1] at hp nd ⊢
      exact putOuts_at (os := os) (as := as) (ρ := ρ) (G := G) hp nd i s e2
theorem paired_and {α β : Type} {F G : α → β → Prop} : ∀ {l₁ : List α} {l₂ : List β}, Paired F l₁ l₂ → Paired G l₁ l₂ → Paired (fun a b => F a b ∧ G a b) l₁ l₂
  | _, _, .nil, _ => .nil
  | _, _, .cons h t, q => by
    cases q with
    | cons h2 t2 => exact .cons ⟨h, h2⟩ (paired_and t t2)
theorem paired_comp {α β γ : Type} {F : α → β → Prop} {G : β → γ → Prop} : ∀ {l₁ : List α} {l₂ : List β} {l₃ : List γ}, Paired F l₁ l₂ → Paired G l₂ l₃ → Paired (fun a c => ∃ b, F a b ∧ G b c) l₁ l₃
  | _, _, _, .nil, .nil => .nil
  | _, _, _, .cons h t, .cons h2 t2 => .cons ⟨_, h, h2⟩ (paired_comp t t2)
/-- behind a call -/
theorem RelS.called (R : RelS K cs Mc M ρ σ H) {os : List Od} {as : List Addr} {cts : List Ct} (ho : Paired (OwnAt ρ σ) (ownIx os ρ) as) (nd : (ownIx os ρ).Nodup) (kp : Kp (fun a => a ∈ as) H H') (hc : Paired (CtOk K M H') as cts) :
    Post K cs Mc M ρ σ H M (putOuts os cts ρ) H' := by
  refine R.puts kp (fun a m => ?_) putOuts_len fun i s h => ?_
  · obtain ⟨i, _, e, fr, c, q⟩ := paired_mem ho a m
    exact ⟨i, fr, c, q, e⟩
  · rcases putOuts_at (as := as) (G := fun i c => ∃ a, OwnAt ρ σ i a ∧ CtOk K M H' a c) (paired_comp ho hc) nd i s h with ⟨_, fr, c, c', e1, e2, a, e3, e4⟩ | ⟨m, e1⟩
    · refine .inl ⟨fr, c, c', e1, e2, fun b eb => ?_⟩
      have e3 := e3.1
      rw [eb] at e3
      cases e3
      exact e4
    · refine .inr ⟨e1, fun fr c a es ea z => ?_⟩
      subst es
      obtain ⟨j, hj, e, fr2, c2, q⟩ := paired_mem ho a z
      have := R.sep i j _ _ _ _ a e1 q ea e
      subst this
      exact m hj
end

/-! ### calls -/
/-- a def that is known by its name, with dv values left out (None each) -/
def FnReg (S : Sx) (Γ : Gm) (x : Str) (dv : Nat) : Prop := ∃ (f : Addr) (fd : FuncData) (ps : List Str) (ds : List Value) (k : Nat), FnOk S.P S.w S.K S.mg S.base (L2.CX S.P S.w) k f fd ps (liftSp S.K S.mg (Γ.fr x) ps.length (Γ.fn x)) ∧ k ≤ S.lv ∧
  S.mg x = some (.ref f) ∧ PySem.W.keepIn S.K (.ref f) = true ∧ Binds S.K fd ps ds ∧ Vals (List.replicate dv V.non) ds ∧ ∀ as k x', Γ.fn x as k x' → as.length = ps.length

section
variable {X : Cx} {CX : CXT} {k : Nat} {f : Addr} {fd : FuncData} {ps : List Str} {sp : Sp} {E : St → XK} {x : Str} {p pos : Pos} {e : Expr} {es : List Expr} {t : TA} {ds : List Value} {dvs : List V}
theorem run_fnD {pins : List (Addr × Obj)} {σ : St} {H : Hp} {s : Shared} {Q : VK} {us : List Value} {vs : List V} (F : FnOk X.prog X.w X.K X.mg X.base CX k f fd ps sp) (hr : Room k X.A) (hb : Binds X.K fd ps ds) (hd : Vals dvs ds) (hx : PassesAt CX X σ (E σ))
    (I : Inv X pins σ H s) (r : Vals vs us) (h : sp (vs ++ dvs) H Q (E σ)) : wpAny (model X.prog X.w) X.A (call (.ref f) us) (EP X pins σ Q) X.xe s := by
  have r2 : Vals (vs ++ dvs) (us ++ ds) := r.append hd
  have hl : (us ++ ds).length = ps.length := by rw [← r2.length]; exact F.len _ _ _ _ h
  refine wpAny_call (codeAny_mono (F.run X.A X.stack s H ⟨us, []⟩ (us ++ ds) (vs ++ dvs) Q (E σ) hr I.env0 (hb s us I.kIn hl) r2 h) fun r s' hq => ?_)
  cases r with
  | error e => exact hx pins H s e s' I hq
  | ok fl =>
    cases fl with
    | ret u => exact I.after hq
    | next => exact False.elim hq
    | brk => exact False.elim hq
    | cont => exact False.elim hq
def tCallD (sp : Sp) (dvs : List V) (E : St → XK) (t : TA) : TE := fun σ H Q => t σ H fun vs H1 => sp (vs ++ dvs) H1 Q (E σ)
theorem pe_callD (F : FnOk X.prog X.w X.K X.mg X.base CX k f fd ps sp) (hr : Room k X.A) (hg : Gl X x) (hm : X.mg x = some (.ref f)) (hk : PySem.W.keepIn X.K (.ref f) = true) (hb : Binds X.K fd ps ds) (hd : Vals dvs ds) (hx : ∀ σ, PassesAt CX X σ (E σ))
    (ha : PA X (e :: es) t) (hdb : (x == ("__debug__" : Str)) = false) (he : starEach (e :: es) X.env = (false, eval e X.env) :: starEach es X.env) (hpl : (backTo pos (starEach es X.env)).any (·.1) = false) :
    PE X (.Call (.Name x p) (e :: es) [] pos) (tCallD sp dvs E t) := by
  refine ⟨fun pins s σ H Q I h => ?_⟩
  refine wpAny_Call_Name_kw (ld_glob I hg hm ?_ hdb)
  refine PySem.W.callWith_K (h₀ := X.base) I.ok.mod.kin hk (thn (ha.run pos pins s σ H _ I h) fun us s1 ⟨vs, H1, I1, r, q⟩ => ⟨I1.kIn, ?_⟩) he hpl
  exact run_fnD F hr hb hd (hx σ) I1 r q
end
section
variable {S : Sx} {N : List Str} {sc : Scope} {W : WX} {Γ : Gm}
theorem gd_gl {y : Dy} (g : Gd S N sc W y) {x : Str} (h : sc.names.lookup x = some .globalImplicit) : Gl (cx S N y) x := by
  show y.env.scope.names.lookup x = _
  rw [g.sc]
  exact h
theorem agOk_reps {K : PySem.W.Frag} {M : AS} {H : Hp} : ∀ (n : Nat) {vs : List V} {as : List Ag}, Paired (AgOk K M H) vs as → Paired (AgOk K M H) (vs ++ List.replicate n V.non) (as ++ List.replicate n (.p .none)) ∧ ownA (vs ++ List.replicate n V.non) (as ++ List.replicate n (.p .none)) = ownA vs as
  | n, [], _, .nil => by
    induction n with
    | zero => exact ⟨.nil, rfl⟩
    | succ n ih =>
      rw [List.replicate_succ, List.replicate_succ]
      exact ⟨.cons (.p .non) ih.1, ih.2⟩
  | n, _ :: vs, _ :: as, .cons h t => by
    obtain ⟨i1, i2⟩ := agOk_reps n t
    refine ⟨.cons h i1, ?_⟩
    cases h with
    | p r =>
      rename_i v d
      cases v <;> exact i2
    | o m r => exact congrArg (List.cons _) i2
    | sc r => exact i2
theorem putOuts_nil : ∀ {os : List Od} {cts : List Ct} {ρ : Ro}, ownIx os ρ = [] → putOuts os cts ρ = ρ
  | [], _, _, _ => rfl
  | .d _ :: os, cts, ρ, h => putOuts_nil (os := os) (cts := cts) (ρ := ρ) h
  | .s i :: os, cts, ρ, h => by
    have h : (match ρ[i]? with
      | some (.o _ _) => i :: ownIx os ρ
      | _ => ownIx os ρ) = [] := h
    show (match ρ[i]?, cts with
      | some (.o fr _), c :: cs => putOuts os cs (ρ.set i (.o fr c))
      | _, cs => putOuts os cs ρ) = ρ
    split at h
    · cases h
    · rename_i hn
      split
      · rename_i q
        exact absurd ‹ρ[i]? = some (Sl.o _ _)› (hn _ _)
      · exact putOuts_nil h
theorem call_snd {x : Str} {p pos : Pos} {e : Expr} {es : List Expr} {dv : Nat} {a : DE} (F : FnReg S Γ x dv) (hg : sc.names.lookup x = some .globalImplicit) (hdb : (x == ("__debug__" : Str)) = false) (ha : OkG S N sc W (e :: es) (semG Γ a))
    (hs : ∀ env, starEach (e :: es) env = (false, eval e env) :: starEach es env) (hpl : ∀ env, (backTo pos (starEach es env)).any (·.1) = false) :
    ∃ te, (∀ y, Gd S N sc W y → PE (cx S N y) (.Call (.Name x p) (e :: es) [] pos) te) ∧ ∀ (cs : List Bs) (Mc M : AS) (ρ : Ro) (σ : L2.St) (H : Hp) (Q : VK) (k : KE') (x' : Ex → Prop), RelS S.K cs Mc M ρ σ H → XOk S W cs x' → semE Γ (.call x a dv) ρ k x' →
      (∀ d ρ1 M1 H1 ρ' v H', Post S.K cs Mc M ρ σ H M1 ρ1 H1 → Post S.K cs Mc M1 ρ1 σ H1 M1 ρ' H' → RD S.K M1 H' v d → (Γ.fr x = true → NewL S.K M1 H1 H' v d ∧ ρ' = ρ1 ∧ Kp (fun _ => False) H1 H') → k d ρ' → Q v H') → te σ H Q := by
  obtain ⟨f, fd, ps, ds, k, F, hk, hm, kp, hb, hv, har⟩ := F
  obtain ⟨ta, h1, h2⟩ := ha
  refine ⟨tCallD (liftSp S.K S.mg (Γ.fr x) ps.length (Γ.fn x)) (List.replicate dv V.non) (WE W) ta, fun y g => pe_callD F (g.room.mono hk) (gd_gl g hg) hm kp hb hv (fun σ => passAt g.tk σ) (h1 y g) hdb (hs _) (hpl _), fun cs Mc M ρ σ H Q k x' R X hsem hk' => ?_⟩
  refine h2 cs Mc M ρ σ H _ _ x' R X hsem fun os ρ1 M1 vs H1 p1 r1 q1 => ?_
  split at q1
  · rename_i as e1
    obtain ⟨⟨nd, nf⟩, q1⟩ := q1
    obtain ⟨i1, i2⟩ := args_ok p1.rel r1 e1
    obtain ⟨j1, j2⟩ := agOk_reps dv i1
    have lenOk : (vs ++ List.replicate dv V.non).length = ps.length := by rw [j1.length]; exact har _ _ _ q1
    refine ⟨M1, _, lenOk, j1, by rw [j2]; exact own_nodup p1.rel i2 nd, p1.rel.mx, _, x', q1, ?_, ?_⟩
    · rw [j2]
      intro d cts v H' kp' rd nw hk2 hc
      refine hk' _ _ _ _ _ _ _ p1 (p1.rel.called i2 nd kp' hc) rd (fun hf => ⟨nw hf, putOuts_nil (nf hf), ?_⟩) hk2
      rw [nf hf] at i2
      have e0 : ownA vs as = [] := by
        cases h0 : ownA vs as with
        | nil => rfl
        | cons a l => rw [h0] at i2; cases i2
      rw [e0] at kp'
      exact kp'.mono fun a z => nomatch z
    · rw [j2]
      intro ex hex C od H' hC hD kp'
      refine X ex hex C od σ H' hC hD fun b hb => p1.rel.oldThen kp' (fun a m => ?_) hb
      obtain ⟨i, _, e, fr, c, q⟩ := paired_mem i2 a m
      exact ⟨i, fr, c, q, e⟩
  · exact q1.elim
theorem ok_call {x : Str} {p pos : Pos} {e : Expr} {es : List Expr} {dv : Nat} {a : DE} (F : FnReg S Γ x dv) (hg : sc.names.lookup x = some .globalImplicit) (hdb : (x == ("__debug__" : Str)) = false) (ha : OkG S N sc W (e :: es) (semG Γ a))
    (hs : ∀ env, starEach (e :: es) env = (false, eval e env) :: starEach es env) (hpl : ∀ env, (backTo pos (starEach es env)).any (·.1) = false) : OkE S N sc W (.Call (.Name x p) (e :: es) [] pos) (semE Γ (.call x a dv)) := by
  obtain ⟨te, h1, h2⟩ := call_snd (p := p) F hg hdb ha hs hpl
  exact ⟨te, h1, fun cs Mc M ρ σ H Q k x' R X hsem hk' => h2 cs Mc M ρ σ H Q k x' R X hsem fun d ρ1 M1 H1 ρ' v H' p1 p2 rd _ hk2 => hk' _ _ _ _ _ (p1.trans p2) rd hk2⟩
end
end DL

end

section
namespace DL
open PySem PySem.Spec PyProof.Rows L2

section
variable {S : Sx} {N : List Str} {sc : Scope} {W : WX} {Γ : Gm} {cs : List Bs} {Mc M M' M1 M2 : AS} {H H' H1 H2 : Hp} {ρ ρ' ρ1 ρ2 : Ro} {σ : St}

/-! ### built-ins by name -/
structure BiN (S : Sx) (sc : Scope) (x : Str) (v : Value) : Prop where
  gl : sc.names.lookup x = some .globalImplicit
  mg : S.mg x = none
  bt : bootBuiltins x = some v
  nn : x ≠ "__name__"
  db : (x == ("__debug__" : Str)) = false
theorem ok_bi1 {x : Str} {id : String} {p pos : Pos} {e : Expr} {a : DE} {s : D → (D → Prop) → Prop} {q : P1} (B : BiN S sc x (.builtin id)) (hc : ∀ y, Gd S N sc W y → CallR (cx S N y) (.builtin id) (cD1 S.K s)) (hq : s1 q = s) (ha : OkO S N sc W e (semO a (semE Γ a)))
    (hs : ∀ env, starEach [e] env = (false, eval e env) :: starEach [] env) : OkE S N sc W (.Call (.Name x p) [e] [] pos) (semE Γ (.op1 q a)) := by
  obtain ⟨ta, h1, h2⟩ := ha
  refine ⟨tCB (cD1 S.K s) (tCons ta tNil), fun y g => pe_callB (hc y g) (gd_gl g B.gl) B.mg B.bt (pa_cons (h1 y g) pa_nil (hs _)) B.nn B.db (hs _) rfl, fun cs Mc M ρ σ H Q k x R X hs hk => ?_⟩
  refine h2 cs Mc M ρ σ H _ _ x R X hs fun o ρ1 M1 v H1 p1 r1 q1 => ?_
  split at q1
  · rename_i d e
    rw [hq] at q1
    exact ⟨_, rfl, M1, d, _, p1.rel.mx, rs_ok p1.rel r1 e, q1, fun g u H' kp rg kg => hk g ρ1 M1 u H' (p1.trans (Post.heap p1.rel kp)) rg kg⟩
  · exact q1.elim
theorem ok_ty1 {x : Str} {T : String} {p pos : Pos} {e : Expr} {a : DE} {s : D → (D → Prop) → Prop} {q : P1} (B : BiN S sc x (.type T)) (hc : ∀ y, Gd S N sc W y → CallR (cx S N y) (.type T) (cD1 S.K s)) (hq : s1 q = s) (ha : OkO S N sc W e (semO a (semE Γ a)))
    (hs : ∀ env, starEach [e] env = (false, eval e env) :: starEach [] env) : OkE S N sc W (.Call (.Name x p) [e] [] pos) (semE Γ (.op1 q a)) := by
  obtain ⟨ta, h1, h2⟩ := ha
  refine ⟨tCB (cD1 S.K s) (tCons ta tNil), fun y g => pe_callTy (hc y g) (gd_gl g B.gl) B.mg B.bt (pa_cons (h1 y g) pa_nil (hs _)) B.nn B.db (hs _) rfl, fun cs Mc M ρ σ H Q k x R X hs hk => ?_⟩
  refine h2 cs Mc M ρ σ H _ _ x R X hs fun o ρ1 M1 v H1 p1 r1 q1 => ?_
  split at q1
  · rename_i d e
    rw [hq] at q1
    exact ⟨_, rfl, M1, d, _, p1.rel.mx, rs_ok p1.rel r1 e, q1, fun g u H' kp rg kg => hk g ρ1 M1 u H' (p1.trans (Post.heap p1.rel kp)) rg kg⟩
  · exact q1.elim
/-- two operands in a list of arguments -/
theorem ok_bi2 {x : Str} {id : String} {p pos : Pos} {e e2 : Expr} {a b : DE} {q : P2} (B : BiN S sc x (.builtin id)) (hc : ∀ y, Gd S N sc W y → CallR (cx S N y) (.builtin id) (cD2 S.K (s2 q))) (ha : OkO S N sc W e (semO a (semE Γ a))) (hb : OkO S N sc W e2 (semO b (semE Γ b)))
    (hs : ∀ env, starEach [e, e2] env = (false, eval e env) :: starEach [e2] env) (hs2 : ∀ env, starEach [e2] env = (false, eval e2 env) :: starEach [] env) (hpl : ∀ env, (backTo pos (starEach [e2] env)).any (·.1) = false) : OkE S N sc W (.Call (.Name x p) [e, e2] [] pos) (semE Γ (.op2 q a b)) := by
  obtain ⟨ta, h1, h2⟩ := ha
  obtain ⟨tb, g1, g2⟩ := hb
  refine ⟨tCB (cD2 S.K (s2 q)) (tCons ta (tCons tb tNil)), fun y g => pe_callB (hc y g) (gd_gl g B.gl) B.mg B.bt (pa_cons (h1 y g) (pa_cons (g1 y g) pa_nil (hs2 _)) (hs _)) B.nn B.db (hs _) (hpl _), fun cs Mc M ρ σ H Q k x R X hs hk => ?_⟩
  refine h2 cs Mc M ρ σ H _ _ x R X hs fun o ρ1 M1 v H1 p1 r1 q1 => ?_
  obtain ⟨_, q1⟩ := q1
  refine g2 cs Mc M1 ρ1 σ H1 _ _ x p1.rel X q1 fun o2 ρ2 M2 w H2 p2 r2 q2 => ?_
  split at q2
  · rename_i d e2 e1 e3
    exact ⟨_, _, rfl, M2, d, e2, _, p2.rel.mx, rs_ok p2.rel (r1.post p1.rel p2) e1, rs_ok p2.rel r2 e3, q2, fun g u H' kp rg kg => hk g ρ2 M2 u H' ((p1.trans p2).trans (Post.heap p2.rel kp)) rg kg⟩
  · exact q2.elim
/-- isinstance(a, T) -/
theorem ok_isi {x xT : Str} {T : String} {p p2 pos : Pos} {e : Expr} {a : DE} {q : P1} (B : BiN S sc x (.builtin "isinstance")) (BT : BiN S sc xT (.type T)) (hT : T = "int" ∨ T = "bool" ∨ T = "tuple" ∨ T = "str" ∨ T = "list") (hq : s1 q = fun d k => k (.bool (isiD T d))) (ha : OkO S N sc W e (semO a (semE Γ a)))
    (hs : ∀ env, starEach [e, .Name xT p2] env = (false, eval e env) :: starEach [.Name xT p2] env) (hpl : ∀ env, (backTo pos (starEach [.Name xT p2] env)).any (·.1) = false) : OkE S N sc W (.Call (.Name x p) [e, .Name xT p2] [] pos) (semE Γ (.op1 q a)) := by
  obtain ⟨ta, h1, h2⟩ := ha
  refine ⟨tCB (fun xs H Q => ∃ x, xs = [x, .ty T] ∧ rD1 S.K (fun d k => k (.bool (isiD T d))) x H Q) (tCons ta (tCons (tC (.ty T)) tNil)), fun y g => pe_callB (c_isi g.hu rfl T hT) (gd_gl g B.gl) B.mg B.bt (pa_cons (h1 y g) (pa_cons (pe_bltn (gd_gl g BT.gl) BT.mg BT.bt rfl BT.nn BT.db) pa_nil rfl) (hs _)) B.nn B.db (hs _) (hpl _), fun cs Mc M ρ σ H Q k x R X hs hk => ?_⟩
  refine h2 cs Mc M ρ σ H _ _ x R X hs fun o ρ1 M1 v H1 p1 r1 q1 => ?_
  split at q1
  · rename_i d e
    rw [hq] at q1
    exact ⟨_, rfl, M1, d, (fun r => k r ρ1), p1.rel.mx, rs_ok p1.rel r1 e, q1, fun g u H' kp rg kg => hk g ρ1 M1 u H' (p1.trans (Post.heap p1.rel kp)) rg kg⟩
  · exact q1.elim

/-! ### methods -/
theorem ok_mt2 {name : Str} {T id : String} {apos pos : Pos} {e e2 : Expr} {a b : DE} {q : P2} (pa : PlainAttrs T) (slot : Slot T name id) (hty : typeOf (.builtin id) = pure (.type "method_descriptor"))
    (hm : ∀ y, Gd S N sc W y → MtR (cx S N y) id (fun x xs H Q => ∃ y, xs = [y] ∧ rD S.K (s2 q) x y H Q)) (hpre : ∀ M H v o, RB S.K M H v o → pre2 q (some o) = true → tyV S.K T v H) (hpn : pre2 q none = false) (ha : OkO S N sc W e (semO a (semE Γ a))) (hb : OkO S N sc W e2 (semO b (semE Γ b)))
    (hbase : ∀ env, attributeBase e name env (eval e env) = eval e env)
    (hfew : ∀ env, ((backTo pos (starEach [e2] env)).all (fun x => !x.1) && (backToKw pos (keywordEach [] env)).all (fun x => x.1.isSome)
      && decide (([e2] : List Expr).length + ([] : List Keyword).length + (if ([] : List Keyword).isEmpty then 0 else 1) < 30)) = true)
    (hline : (apos.endLine == pos.line) = true) (hs2 : ∀ env, starEach [e2] env = (false, eval e2 env) :: starEach [] env) : OkE S N sc W (.Call (.Attribute e name apos) [e2] [] pos) (semE Γ (.op2 q a b)) := by
  obtain ⟨ta, h1, h2⟩ := ha
  obtain ⟨tb, g1, g2⟩ := hb
  refine ⟨tBM S.K T (fun x xs H Q => ∃ y, xs = [y] ∧ rD S.K (s2 q) x y H Q) ta (tCons tb tNil), fun y g => pe_bm (r := fun x xs H Q => ∃ y, xs = [y] ∧ rD S.K (s2 q) x y H Q) pa slot hty (hm y g) (h1 y g) (pa_cons (g1 y g) pa_nil (hs2 _)) (hbase _) (hfew _) hline (hs2 _) rfl, fun cs Mc M ρ σ H Q k x R X hs hk => ?_⟩
  refine h2 cs Mc M ρ σ H _ _ x R X hs fun o ρ1 M1 v H1 p1 r1 q1 => ?_
  obtain ⟨pr, q1⟩ := q1
  have ho : ∃ d, rs o ρ1 = some d := by
    cases e : rs o ρ1 with
    | none => rw [e, hpn] at pr; cases pr
    | some d => exact ⟨d, rfl⟩
  obtain ⟨d0, e0⟩ := ho
  rw [e0] at pr
  refine ⟨hpre M1 H1 v d0 (rs_ok p1.rel r1 e0) pr, ?_⟩
  refine g2 cs Mc M1 ρ1 σ H1 _ _ x p1.rel X q1 fun o2 ρ2 M2 w H2 p2 r2 q2 => ?_
  split at q2
  · rename_i d e2 e1 e3
    exact ⟨_, rfl, M2, d, e2, _, p2.rel.mx, rs_ok p2.rel (r1.post p1.rel p2) e1, rs_ok p2.rel r2 e3, q2, fun g u H' kp rg kg => hk g ρ2 M2 u H' ((p1.trans p2).trans (Post.heap p2.rel kp)) rg kg⟩
  · exact q2.elim

theorem ok_mtF {name : Str} {id : String} {apos pos : Pos} {e e2 : Expr} {a b : DE} {q : P2} (slot : Slot "tuple" name id) (hty : typeOf (.builtin id) = pure (.type "method_descriptor"))
    (hm : ∀ y, Gd S N sc W y → MtR (cx S N y) id (fun x xs H Q => ∃ y, xs = [y] ∧ rD S.K (s2 q) x y H Q)) (hpre : ∀ o, pre2 q (some o) = true → ∃ ds, o = .tuple ds) (hpn : pre2 q none = false) (ha : OkO S N sc W e (semO a (semE Γ a))) (hb : OkO S N sc W e2 (semO b (semE Γ b)))
    (hbase : ∀ env, attributeBase e name env (eval e env) = eval e env)
    (hfew : ∀ env, ((backTo pos (starEach [e2] env)).all (fun x => !x.1) && (backToKw pos (keywordEach [] env)).all (fun x => x.1.isSome)
      && decide (([e2] : List Expr).length + ([] : List Keyword).length + (if ([] : List Keyword).isEmpty then 0 else 1) < 30)) = true)
    (hline : (apos.endLine == pos.line) = true) (hs2 : ∀ env, starEach [e2] env = (false, eval e2 env) :: starEach [] env) : OkE S N sc W (.Call (.Attribute e name apos) [e2] [] pos) (semE Γ (.op2 q a b)) := by
  obtain ⟨ta, h1, h2⟩ := ha
  obtain ⟨tb, g1, g2⟩ := hb
  refine ⟨tBMF S.K (fun x xs H Q => ∃ y, xs = [y] ∧ rD S.K (s2 q) x y H Q) ta (tCons tb tNil), fun y g => pe_bmF (r := fun x xs H Q => ∃ y, xs = [y] ∧ rD S.K (s2 q) x y H Q) slot hty (hm y g) (h1 y g) (pa_cons (g1 y g) pa_nil (hs2 _)) (hbase _) (hfew _) hline (hs2 _) rfl, fun cs Mc M ρ σ H Q k x R X hs hk => ?_⟩
  refine h2 cs Mc M ρ σ H _ _ x R X hs fun o ρ1 M1 v H1 p1 r1 q1 => ?_
  obtain ⟨pr, q1⟩ := q1
  have ho : ∃ d, rs o ρ1 = some d := by
    cases e : rs o ρ1 with
    | none => rw [e, hpn] at pr; cases pr
    | some d => exact ⟨d, rfl⟩
  obtain ⟨d0, e0⟩ := ho
  rw [e0] at pr
  obtain ⟨ds0, rfl⟩ := hpre d0 pr
  obtain ⟨a0, xs0, ea, hF, _⟩ := (rs_ok p1.rel r1 e0).tupF
  refine ⟨⟨a0, xs0, ea, hF⟩, ?_⟩
  refine g2 cs Mc M1 ρ1 σ H1 _ _ x p1.rel X q1 fun o2 ρ2 M2 w H2 p2 r2 q2 => ?_
  split at q2
  · rename_i d e2 e1 e3
    exact ⟨_, rfl, M2, d, e2, _, p2.rel.mx, rs_ok p2.rel (r1.post p1.rel p2) e1, rs_ok p2.rel r2 e3, q2, fun g u H' kp rg kg => hk g ρ2 M2 u H' ((p1.trans p2).trans (Post.heap p2.rel kp)) rg kg⟩
  · exact q2.elim

/-! ### slices -/
theorem from_k {d e : D} {k : D → Prop} (h : sFrom d e k) : ∃ i, e = .int i ∧ (match (generalizing := false) d with
    | .list ds => k (.list (slD ds (some i) none))
    | .tuple ds => k (.tuple (slD ds (some i) none))
    | _ => False) := by
  have e0 : ∀ (ds : List D) (i : Int), slD ds (some i) none = ds.drop (dropI ds.length i) := fun ds i => by
    unfold slD
    refine List.take_of_length_le ?_
    rw [List.length_drop]
    exact Nat.le_refl _
  cases d <;> cases e <;> first | exact (show False from h).elim | skip
  · refine ⟨_, rfl, ?_⟩
    show k (.list _)
    rw [e0]; exact h
  · refine ⟨_, rfl, ?_⟩
    show k (.tuple _)
    rw [e0]; exact h
theorem upto_k {d e : D} {k : D → Prop} (h : sUpto d e k) : ∃ i, e = .int i ∧ (match (generalizing := false) d with
    | .list ds => k (.list (slD ds none (some i)))
    | .tuple ds => k (.tuple (slD ds none (some i)))
    | _ => False) := by
  have e0 : ∀ (ds : List D) (i : Int), slD ds none (some i) = ds.take (takeI ds.length i) := fun ds i => by
    unfold slD
    show (ds.drop 0).take (HT.sIx ds.length ds.length (some i) - 0) = _
    rw [List.drop_zero, Nat.sub_zero]
    rfl
  cases d <;> cases e <;> first | exact (show False from h).elim | skip
  · refine ⟨_, rfl, ?_⟩
    show k (.list _)
    rw [e0]; exact h
  · refine ⟨_, rfl, ?_⟩
    show k (.tuple _)
    rw [e0]; exact h
theorem ok_from {ea eb : Expr} {a b : DE} {p2 pos : Pos} (ha : OkO S N sc W ea (semO a (semE Γ a))) (hb : OkO S N sc W eb (semO b (semE Γ b))) : OkE S N sc W (.Subscript ea (.Slice (some eb) none none p2) pos) (semE Γ (.op2 .from a b)) := by
  obtain ⟨ta, h1, h2⟩ := ha
  obtain ⟨tb, g1, g2⟩ := hb
  refine ⟨tSl (rSlD S.K) ta (tPart tb) tNoPart, fun y g => pe_slice (sl_d g.hu rfl) (h1 y g) (po_some (g1 y g)) po_none, fun cs Mc M ρ σ H Q k x R X hs hk => ?_⟩
  refine h2 cs Mc M ρ σ H _ _ x R X hs fun o ρ1 M1 v H1 p1 r1 q1 => ?_
  obtain ⟨_, q1⟩ := q1
  refine g2 cs Mc M1 ρ1 σ H1 _ _ x p1.rel X q1 fun o2 ρ2 M2 w H2 p2 r2 q2 => ?_
  split at q2
  · rename_i d e2 e1 e3
    have i2 := rs_ok p2.rel r2 e3
    obtain ⟨i, rfl, q3⟩ := from_k q2
    exact ⟨i, i2.int, M2, d, (fun r => k r ρ2), p2.rel.mx, rs_ok p2.rel (r1.post p1.rel p2) e1, q3, fun g u H' kp rg kg => hk g ρ2 M2 u H' ((p1.trans p2).trans (Post.heap p2.rel kp)) rg kg⟩
  · exact q2.elim
theorem ok_upto {ea eb : Expr} {a b : DE} {p2 pos : Pos} (ha : OkO S N sc W ea (semO a (semE Γ a))) (hb : OkO S N sc W eb (semO b (semE Γ b))) : OkE S N sc W (.Subscript ea (.Slice none (some eb) none p2) pos) (semE Γ (.op2 .upto a b)) := by
  obtain ⟨ta, h1, h2⟩ := ha
  obtain ⟨tb, g1, g2⟩ := hb
  refine ⟨tSl (rSlD S.K) ta tNoPart (tPart tb), fun y g => pe_slice (sl_d g.hu rfl) (h1 y g) po_none (po_some (g1 y g)), fun cs Mc M ρ σ H Q k x R X hs hk => ?_⟩
  refine h2 cs Mc M ρ σ H _ _ x R X hs fun o ρ1 M1 v H1 p1 r1 q1 => ?_
  obtain ⟨_, q1⟩ := q1
  refine g2 cs Mc M1 ρ1 σ H1 _ _ x p1.rel X q1 fun o2 ρ2 M2 w H2 p2 r2 q2 => ?_
  split at q2
  · rename_i d e2 e1 e3
    have i2 := rs_ok p2.rel r2 e3
    obtain ⟨i, rfl, q3⟩ := upto_k q2
    exact ⟨i, i2.int, M2, d, (fun r => k r ρ2), p2.rel.mx, rs_ok p2.rel (r1.post p1.rel p2) e1, q3, fun g u H' kp rg kg => hk g ρ2 M2 u H' ((p1.trans p2).trans (Post.heap p2.rel kp)) rg kg⟩
  · exact q2.elim
theorem ok_cut {ea el eh : Expr} {a l h : DE} {p2 pos : Pos} (ha : OkO S N sc W ea (semO a (semE Γ a))) (hl : OkE S N sc W el (semE Γ l)) (hh : OkE S N sc W eh (semE Γ h)) : OkE S N sc W (.Subscript ea (.Slice (some el) (some eh) none p2) pos) (semE Γ (.cut a l h)) := by
  obtain ⟨ta, h1, h2⟩ := ha
  obtain ⟨tl, g1, g2⟩ := hl
  obtain ⟨th, f1, f2⟩ := hh
  refine ⟨tSl (rSlD S.K) ta (tPart tl) (tPart th), fun y g => pe_slice (sl_d g.hu rfl) (h1 y g) (po_some (g1 y g)) (po_some (f1 y g)), fun cs Mc M ρ σ H Q k x R X hs hk => ?_⟩
  refine h2 cs Mc M ρ σ H _ _ x R X hs fun o ρ1 M1 v H1 p1 r1 q1 => ?_
  refine g2 cs Mc M1 ρ1 σ H1 _ _ x p1.rel X q1 fun lo ρ2 M2 w H2 p2 r2 q2 => ?_
  split at q2
  · rename_i i
    cases r2
    refine ⟨i, rfl, ?_⟩
    refine f2 cs Mc M2 ρ2 σ H2 _ _ x p2.rel X q2 fun hi ρ3 M3 w2 H3 p3 r3 q3 => ?_
    have r1' := (r1.post p1.rel p2).post p2.rel p3
    split at q3
    · rename_i ds j e1
      cases r3
      exact ⟨_, rfl, M3, .tuple ds, (fun r => k r ρ3), p3.rel.mx, rs_ok p3.rel r1' e1, q3, fun g u H' kp rg kg => hk g ρ3 M3 u H' (((p1.trans p2).trans p3).trans (Post.heap p3.rel kp)) rg kg⟩
    · rename_i ds j e1
      cases r3
      exact ⟨_, rfl, M3, .list ds, (fun r => k r ρ3), p3.rel.mx, rs_ok p3.rel r1' e1, q3, fun g u H' kp rg kg => hk g ρ3 M3 u H' (((p1.trans p2).trans p3).trans (Post.heap p3.rel kp)) rg kg⟩
    · exact q3.elim
  · exact q2.elim
end
end DL

end

section
namespace DL
open PySem PySem.Spec PyProof.Rows L2

/-! ### tables up to 512 slots: each slot is met on each way -/
/-- bits of the slots that are met -/
def orbF (m : Nat) : Nat → Nat → Nat → Nat
  | 0, _, acc => acc
  | n + 1, x, acc => orbF m n ((x * 5 + 1) % (m + 1)) (acc ||| (1 <<< x))
theorem lcg_front (m x : Nat) : ∀ k, lcgI m x (k + 1) = lcgI m ((x * 5 + 1) % (m + 1)) k
  | 0 => rfl
  | k + 1 => by
    show (lcgI m x (k + 1) * 5 + 1) % (m + 1) = _
    rw [lcg_front m x k]
    rfl
theorem orbF_bit (m j : Nat) : ∀ (n x acc : Nat), (orbF m n x acc).testBit j = true → acc.testBit j = true ∨ ∃ k, k < n ∧ lcgI m x k = j
  | 0, x, acc, h => .inl h
  | n + 1, x, acc, h => by
    rcases orbF_bit m j n _ _ h with q | ⟨k, hk, e⟩
    · rw [Nat.testBit_or, Bool.or_eq_true] at q
      rcases q with q | q
      · exact .inl q
      · refine .inr ⟨0, Nat.succ_pos _, ?_⟩
        rw [Nat.one_shiftLeft, Nat.testBit_two_pow, decide_eq_true_eq] at q
        exact q
    · exact .inr ⟨k + 1, Nat.succ_lt_succ hk, by rw [lcg_front]; exact e⟩
/-- a mask whose ways meet each slot in time -/
structure Mk (m : Nat) : Prop where
  all : orbF m (m + 1) 0 0 = 2 ^ (m + 1) - 1
  back : lcgI m 0 (m + 1) = 0
  odd : m % 2 = 1
  top : m ≤ 511
theorem mk7 : Mk 7 := ⟨by decide +kernel, by decide +kernel, rfl, by decide⟩
theorem mk31 : Mk 31 := ⟨by decide +kernel, by decide +kernel, rfl, by decide⟩
theorem mk127 : Mk 127 := ⟨by decide +kernel, by decide +kernel, rfl, by decide⟩
theorem mk511 : Mk 511 := ⟨by decide +kernel, by decide +kernel, rfl, by decide⟩
theorem lcgI_add (m x a : Nat) : ∀ k, lcgI m (lcgI m x a) k = lcgI m x (a + k)
  | 0 => rfl
  | k + 1 => by
    show (lcgI m (lcgI m x a) k * 5 + 1) % (m + 1) = (lcgI m x (a + k) * 5 + 1) % (m + 1)
    rw [lcgI_add m x a k]
theorem Mk.from0 {m : Nat} (M : Mk m) {j : Nat} (hj : j ≤ m) : ∃ k, k ≤ m ∧ lcgI m 0 k = j := by
  have h : (orbF m (m + 1) 0 0).testBit j = true := by
    rw [M.all, Nat.testBit_two_pow_sub_one]
    exact decide_eq_true (Nat.lt_succ_of_le hj)
  rcases orbF_bit m j _ _ _ h with q | ⟨k, hk, e⟩
  · simp at q
  · exact ⟨k, Nat.le_of_lt_succ hk, e⟩
theorem Mk.any {m : Nat} (M : Mk m) {i j : Nat} (hi : i ≤ m) (hj : j ≤ m) : ∃ k, k ≤ m ∧ lcgI m i k = j := by
  obtain ⟨a, ha, ea⟩ := M.from0 hi
  obtain ⟨b, hb, eb⟩ := M.from0 hj
  subst ea
  by_cases c : a ≤ b
  · exact ⟨b - a, by omega, by rw [lcgI_add, show a + (b - a) = b by omega, eb]⟩
  · refine ⟨m + 1 - a + b, by omega, ?_⟩
    rw [lcgI_add, show a + (m + 1 - a + b) = (m + 1) + b by omega, ← lcgI_add, M.back, eb]
theorem Mk.meets {m : Nat} (M : Mk m) (h : Int) {j : Nat} (hj : j ≤ m) : ∃ n, n ≤ m + 12 ∧ runI m (SetTable.bits h) n = j := by
  obtain ⟨k, hk, e⟩ := M.any (runI_le m (SetTable.bits h) 12) hj
  exact ⟨12 + k, Nat.add_comm 12 k ▸ Nat.add_le_add_right hk 12, (runI_tail (bits_lt h) k).trans e⟩
theorem Mk.onway {m : Nat} (M : Mk m) (h : Int) {j : Nat} (hj : j ≤ m) : ∃ k, k < 10 * SetTable.turns m ∧ way m h k = j := by
  obtain ⟨n, hn, e⟩ := M.meets h hj
  obtain ⟨k, hk, e2⟩ := run_nth m (SetTable.bits h) n
  refine ⟨k, Nat.lt_of_le_of_lt hk (by show 10 * n < 10 * (m + 15); omega), ?_⟩
  exact (congrArg SetTable.Probe.j e2).trans e
theorem way_top (m : Nat) (h : Int) (k : Nat) : way m h k ≤ m := by
  have h0 : SetTable.bits h % (m + 1) ≤ m := Nat.le_of_lt_succ (Nat.mod_lt _ (Nat.succ_pos m))
  have h1 := (runEnd_bd h0).1
  have h2 := (runEnd_bd h0).2.1
  have := nth_in (m := m) k (runAt m (SetTable.bits h % (m + 1)) (SetTable.bits h)) (by show SetTable.bits h % (m + 1) + (SetTable.runEnd m (SetTable.bits h % (m + 1)) - SetTable.bits h % (m + 1)) ≤ m; rw [Nat.add_sub_cancel' h2]; exact h1)
  exact Nat.le_trans (Nat.le_add_right _ _) this

/-- a table in which each thing is found again by its hash -/
structure TabB (t : SetTable) (hs : List Int) : Prop where
  up : Ris t.place.toList
  nod : t.dummies = #[]
  cnt : t.place.size = hs.length
  msk : Mk t.mask
  ins : ∀ x ∈ t.place.toList, x ≤ t.mask
  find : ∀ (i : Nat) (h : Int) (j : Nat), hs[i]? = some h → t.place.toList[i]? = some j → ∃ k, way t.mask h k = j ∧ ∀ c, c < k → way t.mask h c ∈ t.place.toList
section
variable {t : SetTable} {hs : List Int}
theorem TabB.len (T : TabB t hs) : t.place.toList.length = hs.length := by rw [Array.length_toList]; exact T.cnt
theorem TabB.hole (T : TabB t hs) (hl : hs.length ≤ t.mask) (h : Int) : ∃ K, K < 10 * SetTable.turns t.mask ∧ way t.mask h K ∉ t.place.toList ∧ ∀ c, c < K → way t.mask h c ∈ t.place.toList := by
  obtain ⟨j, hj, hn⟩ := st_missing t.place.toList (t.mask + 1) (by rw [T.len]; omega)
  obtain ⟨k, hk, e⟩ := T.msk.onway h (Nat.le_of_lt_succ hj)
  obtain ⟨K, h1, h2, h3⟩ := st_least (p := fun k => way t.mask h k ∉ t.place.toList) k (e ▸ hn)
  exact ⟨K, Nat.lt_of_le_of_lt h1 hk, h2, fun c hc => Classical.not_not.mp (h3 c hc)⟩
theorem TabB.ahead (T : TabB t hs) {h : Int} {K i j : Nat} (hK : way t.mask h K ∉ t.place.toList) (hi : hs[i]? = some h) (hj : t.place.toList[i]? = some j) : ∃ k, k < K ∧ way t.mask h k = j := by
  obtain ⟨k, e, hb⟩ := T.find i h j hi hj
  have m := List.mem_of_getElem? hj
  refine ⟨k, Nat.lt_of_not_le fun c => ?_, e⟩
  rcases Nat.lt_or_eq_of_le c with c | c
  · exact hK (hb K c)
  · rw [c, e] at hK
    exact hK m
/-- one more thing at its slot -/
theorem TabB.more (T : TabB t hs) {h : Int} {K : Nat} (hK : way t.mask h K ∉ t.place.toList) (hb : ∀ c, c < K → way t.mask h c ∈ t.place.toList) {j p : Nat} (ej : j = way t.mask h K) (ep : p = SetTable.below t.place j) :
    p ≤ hs.length ∧ TabB (t.put j).1 (hs.take p ++ h :: hs.drop p) ∧ (t.put j).1.fill = hs.length + 1 := by
  subst ej ep
  generalize hj : way t.mask h K = j at hK
  have hc := (below_cut T.up j).1
  have hp1 : SetTable.below t.place j ≤ t.place.toList.length := by rw [Array.length_toList]; exact hc
  have hp2 : SetTable.below t.place j ≤ hs.length := by rw [← T.cnt]; exact hc
  have pl := put_place t j
  generalize hP : SetTable.below t.place j = P at hp1 hp2 pl
  have cnt' : (t.put j).1.place.size = hs.length + 1 := by
    have := congrArg List.length pl
    rw [len_ins _ hp1, T.len, Array.length_toList] at this
    exact this
  have kept : ∀ x, x ∈ t.place.toList → x ∈ (t.put j).1.place.toList := fun x hx => by rw [pl]; exact mem_ins.mpr (.inr hx)
  refine ⟨hp2, ⟨?_, put_dm T.nod j, by rw [len_ins _ hp2]; exact cnt', T.msk, fun x hx => ?_, fun i h' j' e1 e2 => ?_⟩, ?_⟩
  · exact ris_insert T.up fun e => hK (List.mem_of_getElem? (by rw [Array.getElem?_toList]; exact e))
  · rw [pl] at hx
    rcases mem_ins.mp hx with z | z
    · rw [z, ← hj]; exact way_top _ _ _
    · exact T.ins x z
  · rw [pl, tins_get _ hp1] at e2
    rw [tins_get _ hp2] at e1
    have old : ∀ i, hs[i]? = some h' → t.place.toList[i]? = some j' → ∃ k, way (t.put j).1.mask h' k = j' ∧ ∀ c, c < k → way (t.put j).1.mask h' c ∈ (t.put j).1.place.toList := fun i a b => by
      obtain ⟨k, e, z⟩ := T.find i h' j' a b
      exact ⟨k, e, fun c hc => kept _ (z c hc)⟩
    split at e1
    · rename_i c
      rw [if_pos c] at e2
      exact old i e1 e2
    · rename_i c
      rw [if_neg c] at e2
      split at e1
      · rename_i d
        rw [if_pos d] at e2
        cases e1
        cases e2
        exact ⟨K, hj, fun c hc => kept _ (hb c hc)⟩
      · rename_i d
        rw [if_neg d] at e2
        exact old (i - 1) e1 e2
  · have hd := put_dm T.nod j
    show (t.put j).1.place.size + (t.put j).1.dummies.size = _
    rw [cnt', hd]
    rfl
end

/-! ### a table laid anew -/
theorem Mk.seat {m : Nat} (M : Mk m) (ow : Array (Option Nat)) (h : Int) {j : Nat} (hj : j ≤ m) (hf : oAt ow j = none) :
    ∃ K, SetTable.layClean.free m ow (SetTable.turns m) (SetTable.bits h % (m + 1)) (SetTable.bits h) = some (way m h K) ∧ oAt ow (way m h K) = none ∧ ∀ c, c < K → oAt ow (way m h c) ≠ none := by
  obtain ⟨n, hn, e⟩ := M.meets h hj
  generalize hi : SetTable.bits h % (m + 1) = i0
  generalize hB : SetTable.bits h = B at *
  have ew : way m h (off m i0 B n) = j := by
    have z : nth m (runAt m i0 B) (off m i0 B n) = runAt m (runI m B n) (B / 32 ^ n) := by rw [nth_off, ← hi, itL_run]
    show (nth m (runAt m (SetTable.bits h % (m + 1)) (SetTable.bits h)) (off m i0 B n)).j = j
    rw [hB, hi, z]
    exact e
  obtain ⟨K, k1, k2, k3⟩ := st_least (p := fun k => oAt ow (way m h k) = none) _ (by rw [ew]; exact hf)
  refine ⟨K, ?_, k2, k3⟩
  have ww : ∀ c, way m h c = (nth m (runAt m i0 B) c).j := fun c => by
    show (nth m (runAt m (SetTable.bits h % (m + 1)) (SetTable.bits h)) c).j = _
    rw [hB, hi]
  rw [ww K]
  refine free_spec m ow (SetTable.turns m) n i0 B K (by show n < m + 15; omega) k1 (fun c hc => ?_) ?_
  · have q := k3 c hc
    rw [ww] at q
    cases z : oAt ow (nth m (runAt m i0 B) c).j with
    | none => exact absurd z q
    | some _ => rfl
  · rw [ww] at k2
    rw [k2]
    rfl
theorem Mk.own1 {m : Nat} (M : Mk m) {done : List Int} {ow : Array (Option Nat)} (W : Own m done ow) (hl : done.length ≤ m) (h : Int) :
    ∃ j, SetTable.layClean.free m ow (SetTable.turns m) (SetTable.bits h % (m + 1)) (SetTable.bits h) = some j ∧ Own m (done ++ [h]) (ow.setIfInBounds j (some done.length)) := by
  obtain ⟨ps, hps, hin⟩ := W.ps
  obtain ⟨j0, h0, hn0⟩ := st_missing ps (m + 1) (by rw [hps]; omega)
  have free0 : oAt ow j0 = none := by
    cases z : oAt ow j0 with
    | none => rfl
    | some k => exact absurd (hin j0 (Nat.le_of_lt_succ h0) (by rw [z]; simp)) hn0
  obtain ⟨K, e1, e2, e3⟩ := M.seat ow h (Nat.le_of_lt_succ h0) free0
  have hjm := way_top m h K
  refine ⟨way m h K, e1, ?_⟩
  obtain ⟨J, hJe⟩ : ∃ J, way m h K = J := ⟨_, rfl⟩
  rw [hJe] at e2 hjm ⊢
  have hJ : J < ow.size := by rw [W.sz]; omega
  have new := oAt_set_self (some done.length) hJ
  have keep : ∀ i, oAt ow i ≠ none → oAt (ow.setIfInBounds J (some done.length)) i ≠ none := fun i hi => by
    by_cases c : i = J
    · subst c; exact absurd e2 hi
    · rw [oAt_set_ne _ c]; exact hi
  constructor
  · rw [Array.size_setIfInBounds]; exact W.sz
  · intro j k hj e
    by_cases c : j = J
    · subst c
      rw [new] at e
      cases e
      exact ⟨h, K, by simp, hJe, fun c hc => keep _ (e3 c hc)⟩
    · rw [oAt_set_ne _ c] at e
      obtain ⟨h', K', a1, a2, a3⟩ := W.at_ j k hj e
      have hk := (List.getElem?_eq_some_iff.mp a1).1
      exact ⟨h', K', by rw [List.getElem?_append_left hk]; exact a1, a2, fun c hc => keep _ (a3 c hc)⟩
  · intro k hk
    rw [List.length_append, List.length_singleton] at hk
    rcases Nat.lt_or_eq_of_le (Nat.le_of_lt_succ hk) with c | c
    · obtain ⟨j, hj, e⟩ := W.all k c
      refine ⟨j, hj, ?_⟩
      rw [oAt_set_ne _ (fun z => by rw [z, e2] at e; cases e)]
      exact e
    · exact ⟨J, hjm, by rw [c]; exact new⟩
  · refine ⟨J :: ps, by simp [hps], fun j hj e => ?_⟩
    by_cases c : j = J
    · rw [c]; exact List.mem_cons_self
    · rw [oAt_set_ne _ c] at e
      exact List.mem_cons_of_mem _ (hin j hj e)
theorem Mk.ownAll {m : Nat} (M : Mk m) : ∀ (rest done : List Int) (ow : Array (Option Nat)), Own m done ow → done.length + rest.length ≤ m →
    ∃ ow', rest.foldl (stepF m) (some (ow, done.length)) = some (ow', (done ++ rest).length) ∧ Own m (done ++ rest) ow'
  | [], done, ow, W, _ => ⟨ow, by simp, by simpa using W⟩
  | h :: rest, done, ow, W, hl => by
    have hl' : done.length + (rest.length + 1) ≤ m := hl
    obtain ⟨j, e, W1⟩ := M.own1 W (by omega) h
    obtain ⟨ow', f, W2⟩ := Mk.ownAll M rest (done ++ [h]) _ W1 (by simp; omega)
    refine ⟨ow', ?_, by simpa using W2⟩
    rw [List.foldl_cons, stepF_some e]
    simpa using f
theorem Mk.lay {m : Nat} (M : Mk m) {hs : Array Int} (hn : hs.size ≤ m) : ∃ ow, SetTable.layClean m hs = some ow ∧ Own m hs.toList ow := by
  obtain ⟨ow, f, W⟩ := M.ownAll hs.toList [] _ (Own.init m) (by simpa using hn)
  refine ⟨ow, ?_, by simpa using W⟩
  have f' : hs.toList.foldl (stepF m) (some (Array.replicate (m + 1) none, 0)) = _ := f
  rw [layClean_eq, f']
  rfl
/-- the new table, and where its things come from -/
theorem Mk.relaid {M : Nat} (K : Mk M) (t : SetTable) {hs : Array Int} {wanted : Nat} (hw : SetTable.sizeAbove wanted = M + 1) (hn : hs.size ≤ M) :
    ∃ t' order, t.relaid hs wanted = some (t', order) ∧ order.toList.Perm (List.range hs.size) ∧ TabB t' (order.toList.map fun i => hs.getD i 0) ∧ t'.mask = M ∧ t'.led = t.led ∧ t'.plain = t.plain := by
  obtain ⟨ow, e, W⟩ := K.lay hn
  have hr : t.relaid hs wanted = some (tabOf t M ow, ((liveOf M ow).map (·.2)).toArray) := by
    rw [relaid_eq, hw, Nat.add_sub_cancel, e]
    rfl
  have rs := ris_live (fun j => ow.getD j none) (List.range (M + 1)) List.pairwise_lt_range
  have r1 : Ris ((liveOf M ow).map (·.1)) := rs.1
  have r2 : ∀ x ∈ (liveOf M ow).map (·.1), x ∈ List.range (M + 1) := rs.2
  have live : ∀ {j k : Nat}, (j, k) ∈ liveOf M ow ↔ j ≤ M ∧ oAt ow j = some k := mem_live W.sz
  have got : ∀ k, k < hs.size → k ∈ (liveOf M ow).map (·.2) := fun k hk => by
    obtain ⟨j, b1, b2⟩ := W.all k (by simpa using hk)
    exact List.mem_map.mpr ⟨(j, k), live.mpr ⟨b1, b2⟩, rfl⟩
  have ll : (liveOf M ow).length = hs.size := by
    obtain ⟨ps, p1, p2⟩ := W.ps
    have nd1 : ((liveOf M ow).map (·.1)).Nodup := List.Pairwise.imp (fun h => Nat.ne_of_lt h) r1
    have up : (liveOf M ow).length ≤ hs.size := by
      have q := nat_nodup_len ((liveOf M ow).map (·.1)) ps nd1 fun x hx => by
        obtain ⟨⟨y, k⟩, hq, ee⟩ := List.mem_map.mp hx
        cases ee
        have := live.mp hq
        exact p2 _ this.1 (by rw [this.2]; simp)
      simpa [p1] using q
    have dn := nat_nodup_len (List.range hs.size) ((liveOf M ow).map (·.2)) List.nodup_range fun k hk => got k (List.mem_range.mp hk)
    rw [List.length_range, List.length_map] at dn
    omega
  refine ⟨_, _, hr, perm_range hs.size _ (by simpa using ll) (by simpa using got), ⟨r1, rfl, by show ((liveOf M ow).map (·.1)).toArray.size = _; simp, K, fun x hx => Nat.le_of_lt_succ (List.mem_range.mp (r2 x hx)), fun i h j h1 h2 => ?_⟩, rfl, rfl, rfl⟩
  have h2' : ((liveOf M ow).map (·.1))[i]? = some j := h2
  have h1' : (((liveOf M ow).map (·.2)).map fun i => hs.getD i 0)[i]? = some h := h1
  rw [List.getElem?_map] at h2'
  obtain ⟨⟨y, k⟩, hq, ee⟩ := Option.map_eq_some_iff.mp h2'
  cases ee
  rw [List.getElem?_map, List.getElem?_map, hq] at h1'
  have eh : hs.getD k 0 = h := Option.some.inj h1'
  have b := live.mp (List.mem_of_getElem? hq)
  obtain ⟨h0, C, a1, a2, a3⟩ := W.at_ _ _ b.1 b.2
  have e0 : h0 = h := by
    rw [← eh, Array.getD_eq_getD_getElem?, ← Array.getElem?_toList, a1]
    rfl
  subst e0
  refine ⟨C, a2, fun c hc => ?_⟩
  show way M h0 c ∈ (liveOf M ow).map (·.1)
  cases z : oAt ow (way M h0 c) with
  | none => exact absurd z (a3 c hc)
  | some k2 => exact List.mem_map.mpr ⟨(way M h0 c, k2), live.mpr ⟨way_top _ _ _, z⟩, rfl⟩
theorem grow5 : SetTable.sizeAbove (SetTable.grown 5) = 31 + 1 := by decide +kernel
theorem grow19 : SetTable.sizeAbove (SetTable.grown 19) = 127 + 1 := by decide +kernel
theorem grow77 : SetTable.sizeAbove (SetTable.grown 77) = 511 + 1 := by decide +kernel
end DL

end

section
namespace DL
open PySem PySem.Spec PyProof.Rows L2

/-- which masks come, and when the next one is laid -/
inductive MB : Nat → Nat → Prop
  | a {n} : n * 5 < 21 → MB 7 n
  | b {n} : n * 5 < 93 → MB 31 n
  | c {n} : n * 5 < 381 → MB 127 n
  | d {n} : n * 5 < 1533 → MB 511 n
theorem MB.room {m n : Nat} (h : MB m n) : n * 5 < m * 3 := by
  cases h <;> assumption
abbrev Ent := List (Addr × List Int)
/-- the set of tuples of ints at a, of at most 300 -/
structure SetB (P : Program) (w : World) (h : Heap) (a : Addr) (L : Ent) (es : Array (Int × Value)) (ep : Nat) (t : SetTable) : Prop where
  ob : ∃ o, h.get? a = some o ∧ o.ExactSet ∧ o.data = .set es ep t
  rows : es.toList = rowsOf P w L
  tab : TabB t (L.map fun p => thash P w p.2)
  nd : (L.map (·.2)).Nodup
  tup : ∀ p ∈ L, IsT P w h p.2 p.1
  pl : t.plain = true
  ld : w.params.followText "set-order" = true ∨ t.led = true
  mb : MB t.mask L.length
  most : L.length ≤ 300
section
variable {P : Program} {w : World} {A : Around} {E : Value → Shared → Prop} {s : Shared} {a : Addr} {L : Ent} {es : Array (Int × Value)} {ep : Nat} {t : SetTable}
theorem rows_size {L : Ent} {es : Array (Int × Value)} (h : es.toList = rowsOf P w L) : es.size = L.length := by
  have := congrArg List.length h
  rw [Array.length_toList] at this
  rw [this]
  unfold rowsOf
  exact List.length_map ..
theorem rows_at {L : Ent} {es : Array (Int × Value)} (h : es.toList = rowsOf P w L) {i : Nat} {p : Addr × List Int} (hp : L[i]? = some p) : es[i]? = some (thash P w p.2, .ref p.1) := by
  rw [← Array.getElem?_toList, h]
  unfold rowsOf
  rw [List.getElem?_map, hp]
  rfl
theorem fits_of {L : Ent} {es : Array (Int × Value)} {t : SetTable} (h : es.toList = rowsOf P w L) (hc : t.place.size = L.length) (hd : t.dummies = #[]) (hm : L.length ≤ t.mask) : t.fits es.size = true := by
  have e : t.fill = L.length := by
    show t.place.size + t.dummies.size = _
    rw [hc, hd]
    rfl
  unfold SetTable.fits
  rw [rows_size h, e, hc, Bool.and_eq_true]
  exact ⟨beq_self_eq_true _, decide_eq_true hm⟩
theorem SetB.cnt (R : SetB P w s.heap a L es ep t) : t.place.size = L.length := by
  rw [R.tab.cnt, List.length_map]
theorem SetB.fit (R : SetB P w s.heap a L es ep t) : t.fits es.size = true := by
  have := R.mb.room
  exact fits_of R.rows R.cnt R.tab.nod (by omega)
theorem SetB.noway (R : SetB P w s.heap a L es ep t) : ¬ t.gaveWay = true := by
  unfold SetTable.gaveWay
  rw [R.tab.msk.odd]
  decide
/-- the way on which a key is looked for -/
abbrev wayP (t : SetTable) (h : Int) (c : Nat) : SetTable.Probe := nth t.mask (runAt t.mask (SetTable.bits h % (t.mask + 1)) (SetTable.bits h)) c
theorem wayP_add (t : SetTable) (h : Int) (c q : Nat) : nth t.mask (wayP t h c) q = wayP t h (c + q) := (nth_add t.mask c _ q).symm
theorem wayP_dm (t : SetTable) (h : Int) : ∀ c, (wayP t h c).dummy = none
  | 0 => rfl
  | c + 1 => by
    show (nth t.mask _ (c + 1)).dummy = none
    rw [nth_succ]
    have ih := wayP_dm t h c
    unfold adv
    split
    · exact ih
    · exact ih
theorem look_from (R : SetB P w s.heap a L es ep t) {x : Addr} {k : List Int} (hx : IsT P w s.heap k x) {hk : Int} (hh : thash P w k = hk) (hu : A.units < cLine) {K : Nat} (hKf : K < 10 * SetTable.turns t.mask)
    (hK : way t.mask hk K ∉ t.place.toList) (hb : ∀ c, c < K → way t.mask hk c ∈ t.place.toList) {Q : SetFound → Shared → Prop}
    (q1 : k ∈ L.map (·.2) → Q (.there none) s) (q2 : k ∉ L.map (·.2) → Q (.free (way t.mask hk K) false) s) :
    ∀ (f c : Nat) (st : Option SetTable.Probe), st.getD (t.probeStart hk) = wayP t hk c → c ≤ K → K < f + c →
      (∀ (i : Nat) p, L[i]? = some p → p.2 = k → ∃ d, c ≤ d ∧ d < K ∧ t.place.toList[i]? = some (way t.mask hk d)) →
      wpAny (model P w) A (setSearchFrom a (.ref x) hk true f st) Q E s
  | 0, c, st, _, hc, hf, _ => absurd hf (by omega)
  | f + 1, c, st, est, hc, hf, hre => by
    obtain ⟨o, ho, hex, hd⟩ := R.ob
    have hnum : ∀ (i : Nat) p, L[i]? = some p → (fun i => (es[i]?.map (·.1)).getD 0) i = thash P w p.2 := fun i p hp => by
      show (es[i]?.map (·.1)).getD 0 = _
      rw [rows_at R.rows hp]
      rfl
    have wj : ∀ q, (nth t.mask (wayP t hk c) q).j = way t.mask hk (c + q) := fun q => congrArg SetTable.Probe.j (wayP_add t hk c q)
    have spec := go_spec t R.tab.up R.tab.nod (fun i => (es[i]?.map (·.1)).getD 0) hk (10 * SetTable.turns t.mask) (K - c) (wayP t hk c) (wayP_dm t hk c) (by omega)
      (fun q hq => by rw [wj]; exact hb _ (by omega)) (by rw [wj, Nat.add_sub_cancel' hc]; exact hK)
    rw [setSearchFrom_succ]
    refine wpAny_bind (wpAny_setState_of ho hd R.fit ?_)
    dsimp only
    refine wp_if_neg R.noway ?_
    rw [est]
    rcases spec with ⟨q, i, hq, hi, hhi, hno, hp⟩ | ⟨hno, hp⟩
    · have hp : t.probe (fun i => (es[i]?.map (·.1)).getD 0) hk (wayP t hk c) = _ := hp
      rw [hp]
      dsimp only
      rw [wj] at hi ⊢
      rw [wayP_add]
      have hiL : i < L.length := by
        have := (List.getElem?_eq_some_iff.mp hi).1
        rw [R.tab.len, List.length_map] at this
        exact this
      obtain ⟨p, hpi⟩ : ∃ p, L[i]? = some p := ⟨_, List.getElem?_eq_getElem hiL⟩
      have hpm := List.mem_of_getElem? hpi
      have hsl := slot_live R.tab.up hi
      have rest : wpAny (model P w) A (searchRest a (.ref x) hk true f es t (way t.mask hk (c + q)) i (wayP t hk (c + (q + 1)))) Q E s := by
        unfold searchRest
        rw [rows_at R.rows hpi]
        dsimp only
        refine wpAny_bind (wpAny_holding (wpAny_eqBool_tuple hu (R.tup p hpm) hx ?_))
        refine wpAny_bind (wpAny_setState_of ho hd R.fit ?_)
        dsimp only
        by_cases e : p.2 = k
        · refine wp_if_pos (by rw [Bool.true_and]; exact decide_eq_true e) (wpAny_pure (q1 ?_))
          exact e ▸ List.mem_map_of_mem hpm
        · have e' : decide (p.2 = k) = false := decide_eq_false e
          refine wp_if_neg (by rw [e']; decide) ?_
          rw [sameMem]
          dsimp only
          simp only [if_true, hsl, rows_at R.rows hpi]
          refine wpAny_bind (wpAny_isSame_ref_self (wpAny_bind (wpAny_pure ?_)))
          simp only [if_true]
          refine wp_if_neg (by rw [e']; decide) ?_
          refine look_from R hx hh hu hKf hK hb q1 q2 f (c + (q + 1)) _ rfl (by omega) (by omega) fun i0 p0 h0 hk0 => ?_
          obtain ⟨d, d1, d2, d3⟩ := hre i0 p0 h0 hk0
          refine ⟨d, Nat.lt_of_not_le fun z => ?_, d2, d3⟩
          have z : d ≤ c + q := z
          rcases Nat.lt_or_eq_of_le z with z | z
          · refine hno (d - c) i0 (by omega) (by rw [wj, Nat.add_sub_cancel' d1]; exact d3) ?_
            exact (hnum i0 p0 h0).trans ((congrArg (thash P w) hk0).trans hh)
          · subst z
            have s0 := slot_live R.tab.up d3
            rw [hsl] at s0
            cases s0
            rw [hpi] at h0
            cases h0
            exact e hk0
      by_cases hl : t.led = true
      · exact wp_if_neg (by rw [hl]; decide) rest
      · refine wp_if_pos (by simpa using hl) (wpAny_bind (seen_tup hx (fun y hy => ?_) (wp_if_neg (by decide) rest)))
        obtain ⟨e, he, rfl⟩ := List.mem_map.mp hy
        have he : e ∈ es.toList := by
          have : e ∈ es ∧ e.1 = hk := by simpa using he
          simpa using this.1
        rw [R.rows] at he
        obtain ⟨p2, hp2, rfl⟩ := List.mem_map.mp he
        exact ⟨p2.2, p2.1, rfl, R.tup p2 hp2⟩
    · have hp : t.probe (fun i => (es[i]?.map (·.1)).getD 0) hk (wayP t hk c) = _ := hp
      rw [hp, wj, Nat.add_sub_cancel' hc]
      dsimp only
      refine wpAny_pure (q2 fun hm => ?_)
      obtain ⟨p0, h0, hk0⟩ := List.mem_map.mp hm
      obtain ⟨i0, hi0⟩ := List.mem_iff_getElem?.mp h0
      obtain ⟨d, d1, d2, d3⟩ := hre i0 p0 hi0 hk0
      refine hno (d - c) i0 (by omega) (by rw [wj, Nat.add_sub_cancel' d1]; exact d3) ?_
      exact (hnum i0 p0 hi0).trans ((congrArg (thash P w) hk0).trans hh)
theorem look_at (R : SetB P w s.heap a L es ep t) {x : Addr} {k : List Int} (hx : IsT P w s.heap k x) (hu : A.units < cLine) {Q : SetFound → Shared → Prop}
    (q1 : k ∈ L.map (·.2) → Q (.there none) s)
    (q2 : ∀ K, k ∉ L.map (·.2) → way t.mask (thash P w k) K ∉ t.place.toList → (∀ c, c < K → way t.mask (thash P w k) c ∈ t.place.toList) → Q (.free (way t.mask (thash P w k) K) false) s) :
    wpAny (model P w) A (setSearch a (.ref x) (thash P w k) true) Q E s := by
  have hroom := R.mb.room
  have htop := R.tab.msk.top
  obtain ⟨K, hKf, hK, hb⟩ := R.tab.hole (by rw [List.length_map]; omega) (thash P w k)
  have hf : 10 * SetTable.turns t.mask = 10 * (t.mask + 15) := rfl
  unfold setSearch
  refine look_from R hx rfl hu hKf hK hb q1 (fun hn => q2 K hn hK hb) 100000 0 none rfl (Nat.zero_le _) (by omega) fun i p hp hk => ?_
  have hi : (L.map fun p => thash P w p.2)[i]? = some (thash P w k) := by
    rw [List.getElem?_map, hp, ← hk]
    rfl
  have hil : i < t.place.toList.length := by
    rw [R.tab.len, List.length_map]
    exact (List.getElem?_eq_some_iff.mp hp).1
  obtain ⟨c, hc, e⟩ := R.tab.ahead hK hi (List.getElem?_eq_getElem hil)
  exact ⟨c, Nat.zero_le _, hc, by rw [e]; exact List.getElem?_eq_getElem hil⟩

/-- the table laid anew -/
theorem anew_at {o : Obj} (ho : s.heap.get? a = some o) (hex : o.ExactSet) (hd : o.data = .set es ep t) (hr : es.toList = rowsOf P w L) (hc : t.place.size = L.length) (hdm : t.dummies = #[]) (hm : L.length ≤ t.mask)
    (nd : (L.map (·.2)).Nodup) (tup : ∀ p ∈ L, IsT P w s.heap p.2 p.1) (pl : t.plain = true) (ld : w.params.followText "set-order" = true ∨ t.led = true) (most : L.length ≤ 300) {wanted M : Nat}
    (hM : Mk M) (hw : SetTable.sizeAbove wanted = M + 1) (mb : MB M L.length) {Q : Unit → Shared → Prop}
    (hQ : ∀ h' L' es' ep' t', Heap.SameBut a s.heap h' → SetB P w h' a L' es' ep' t' → L'.Perm L → Q () { s with heap := h' }) : wpAny (model P w) A (setRelay a wanted) Q E s := by
  have hz := rows_size hr
  have top := hM.top
  have hn := mb.room
  obtain ⟨t', order, e, hp, T, em, el, epl⟩ := hM.relaid t (hs := es.map (·.1)) (wanted := wanted) hw (by rw [Array.size_map, hz]; omega)
  rw [Array.size_map, hz] at hp
  obtain ⟨L2, r1, r2, r3⟩ := order_rows L es order hr hp
  have hz2 := rows_size r1
  have l2 := r2.length_eq
  rw [setRelay_eq]
  refine wpAny_bind (wpAny_setState_of ho hd (fits_of hr hc hdm hm) ?_)
  dsimp only
  refine wp_if_neg (by rw [sizeLine_eq, hw]; omega) ?_
  rw [e]
  dsimp only
  refine wpAny_bind (wp_if_neg (by rw [hz2, hz, l2]; simp) (wpAny_pure ?_))
  dsimp only
  refine wpAny_storeSet_of ho hd ?_ (by rw [hz2, l2, sizeLine_eq]; omega)
  have sb : Heap.SameBut a s.heap (s.heap.update a (Obj.putSet (order.filterMap (es[·]?)) t')) := Heap.SameBut.update ..
  refine hQ _ L2 _ (ep + 1) t' sb ⟨⟨_, store_at ho hd, ⟨hex.1, hex.2.1, hex.2.2⟩, rfl⟩, r1, r3 ▸ T, (r2.map (·.2)).nodup_iff.mpr nd, fun p hpm => isT_same (tup p (r2.mem_iff.mp hpm)) ho hd sb, epl.trans pl, by rw [el]; exact ld, by rw [l2, em]; exact mb, by rw [l2]; exact most⟩ r2
theorem MB.next {m n : Nat} (h : MB m n) (hn : n + 1 ≤ 300) : MB m (n + 1) ∨ ∃ M, SetTable.sizeAbove (SetTable.grown (n + 1)) = M + 1 ∧ Mk M ∧ MB M (n + 1) := by
  cases h with
  | a h =>
    by_cases c : (n + 1) * 5 < 21
    · exact .inl (.a c)
    · have e : n + 1 = 5 := by omega
      exact .inr ⟨31, by rw [e]; exact grow5, mk31, .b (by omega)⟩
  | b h =>
    by_cases c : (n + 1) * 5 < 93
    · exact .inl (.b c)
    · have e : n + 1 = 19 := by omega
      exact .inr ⟨127, by rw [e]; exact grow19, mk127, .c (by omega)⟩
  | c h =>
    by_cases c : (n + 1) * 5 < 381
    · exact .inl (.c c)
    · have e : n + 1 = 77 := by omega
      exact .inr ⟨511, by rw [e]; exact grow77, mk511, .d (by omega)⟩
  | d h => exact .inl (.d (by omega))

/-- one more thing -/
theorem add_one (R : SetB P w s.heap a L es ep t) {x : Addr} {k : List Int} (hx : IsT P w s.heap k x) (hu : A.units < cLine) (room : k ∉ L.map (·.2) → L.length + 1 ≤ 300) {Q : Bool → Shared → Prop}
    (hQ : ∀ b h' L' es' ep' t', Heap.SameBut a s.heap h' → SetB P w h' a L' es' ep' t' → (k ∈ L.map (·.2) → L' = L) → (k ∉ L.map (·.2) → L'.Perm ((x, k) :: L)) → Q b { s with heap := h' }) :
    wpAny (model P w) A (setAddHashed a (.ref x) (thash P w k)) Q E s := by
  obtain ⟨o, ho, hex, hd⟩ := R.ob
  have hz := rows_size R.rows
  have hroom := R.mb.room
  unfold setAddHashed
  refine wpAny_holding ?_
  rw [show (100000 : Nat) = 99999 + 1 from rfl, setAddHashedIn_succ]
  refine wpAny_bind (wpAny_setState_of ho hd R.fit ?_)
  dsimp only
  refine wp_if_neg (by simp [byScan, Value.scannable]) ?_
  refine wpAny_bind (look_at R hx hu (fun hm => ?_) fun K hm hK hb => ?_)
  · dsimp only
    exact wpAny_pure (hQ false s.heap L es ep t (Heap.SameBut.refl a s.heap) R (fun _ => rfl) fun z => absurd hm z)
  · have room' := room hm
    dsimp only
    refine wpAny_bind (wpAny_setState_of ho hd R.fit ?_)
    dsimp only
    obtain ⟨j, ej⟩ : ∃ j, j = way t.mask (thash P w k) K := ⟨_, rfl⟩
    obtain ⟨p, hp⟩ : ∃ p, p = SetTable.below t.place j := ⟨_, rfl⟩
    obtain ⟨g1, g2, g3⟩ := R.tab.more hK hb ej hp
    rw [← ej]
    have e1 : (t.put j).2 = p := hp.symm
    have e2 : (t.put j).1.plain = true := R.pl
    have e3 : (t.put j).1.mask = t.mask := rfl
    have e4 : w.params.followText "set-order" = true ∨ (t.put j).1.led = true := R.ld
    generalize t.put j = pt at g2 g3 e1 e2 e3 e4 ⊢
    obtain ⟨t1, p1⟩ := pt
    dsimp only at g2 g3 e1 e2 e3 e4 ⊢
    subst e1
    first
      | (refine wpAny_bind ?_; refine wp_if_pos e2 ?_; refine hashBy_tup hx ?_)
      | refine wp_if_pos e2 (wpAny_bind (hashBy_tup hx ?_))
    simp only [if_true]
    have rows1 : (SetTable.insertAt es p1 (thash P w k, Value.ref x)).toList = rowsOf P w (L.take p1 ++ (x, k) :: L.drop p1) := by
      rw [SetTable.toList_insertAt, rows_put, R.rows]
    have pm := put_perm L p1 (x, k)
    have hh : (L.take p1 ++ (x, k) :: L.drop p1).map (fun q => thash P w q.2) = (L.map fun q => thash P w q.2).take p1 ++ thash P w k :: (L.map fun q => thash P w q.2).drop p1 := by
      rw [List.map_append, List.map_cons, List.map_take, List.map_drop]
    rw [← hh] at g2
    generalize SetTable.insertAt es p1 (thash P w k, Value.ref x) = es1 at rows1 ⊢
    generalize L.take p1 ++ (x, k) :: L.drop p1 = L1 at pm g2 rows1
    have l1 : L1.length = L.length + 1 := pm.length_eq
    have z1 := rows_size rows1
    have nd1 : (L1.map (·.2)).Nodup := (pm.map (·.2)).nodup_iff.mpr (List.nodup_cons.mpr ⟨hm, R.nd⟩)
    refine wpAny_bind (wpAny_storeSet_of ho hd ?_ (by rw [z1, l1, sizeLine_eq]; omega))
    have sb : Heap.SameBut a s.heap (s.heap.update a (Obj.putSet es1 t1)) := Heap.SameBut.update ..
    have ho1 := store_at (es' := es1) (t' := t1) ho hd
    generalize s.heap.update a (Obj.putSet es1 t1) = h1 at sb ho1 ⊢
    have tup1 : ∀ q ∈ L1, IsT P w h1 q.2 q.1 := fun q hq => by
      rcases List.mem_cons.mp (pm.mem_iff.mp hq) with e | hq
      · rw [e]; exact isT_same hx ho hd sb
      · exact isT_same (R.tup q hq) ho hd sb
    have c1 : t1.place.size = L1.length := by rw [g2.cnt, List.length_map]
    have f1 : t1.fill = L.length + 1 := by rw [g3, List.length_map]
    have wt : ∀ b : Bool, t1.tooFull = b → (b = true ↔ t.mask * 3 ≤ (L.length + 1) * 5) := fun b e => by
      subst e
      unfold SetTable.tooFull
      rw [decide_eq_true_eq, f1, e3]
    rcases R.mb.next room' with hb1 | ⟨M, hM1, hM2, hM3⟩
    · have hr1 := hb1.room
      have tf : t1.tooFull = false := by
        cases e : t1.tooFull with
        | false => rfl
        | true => exact absurd ((wt _ e).mp rfl) (by omega)
      first
        | refine wp_if_neg (by rw [tf]; decide) ?_
        | (refine wpAny_bind ?_; refine wp_if_neg (by rw [tf]; decide) ?_; refine wpAny_pure ?_)
      exact wpAny_pure (hQ true h1 L1 es1 (ep + 1) t1 sb ⟨⟨_, ho1, ⟨hex.1, hex.2.1, hex.2.2⟩, rfl⟩, rows1, g2, nd1, tup1, e2, e4, by rw [e3, l1]; exact hb1, by rw [l1]; exact room'⟩ (fun z => absurd z hm) fun _ => pm)
    · by_cases tf : t1.tooFull = true
      · have done : wpAny (model P w) A (setRelay a (SetTable.grown (es.size + 1))) (fun _ s' => wpAny (model P w) A (pure true) Q E s') E { s with heap := h1 } := by
          rw [hz]
          refine anew_at (s := { s with heap := h1 }) ho1 ⟨hex.1, hex.2.1, hex.2.2⟩ rfl rows1 c1 g2.nod (by rw [l1, e3]; omega) nd1 tup1 e2 e4 (by rw [l1]; exact room') hM2 hM1 (by rw [l1]; exact hM3) ?_
          intro h2 L2 es2 ep2 t2 sb2 R2 pm2
          exact wpAny_pure (hQ true h2 L2 es2 ep2 t2 (sb.trans sb2) R2 (fun z => absurd z hm) fun _ => pm2.trans pm)
        first
          | exact wpAny_bind (wp_if_pos (by rw [tf]; decide) done)
          | exact wp_if_pos (by rw [tf]; decide) (wpAny_bind done)
      · have hr1 := R.mb
        have hno : ¬ t.mask * 3 ≤ (L.length + 1) * 5 := fun z => tf ((wt _ rfl).mpr z)
        first
          | refine wp_if_neg (by rw [Bool.eq_false_iff.mpr tf]; decide) ?_
          | (refine wpAny_bind ?_; refine wp_if_neg (by rw [Bool.eq_false_iff.mpr tf]; decide) ?_; refine wpAny_pure ?_)
        refine wpAny_pure (hQ true h1 L1 es1 (ep + 1) t1 sb ⟨⟨_, ho1, ⟨hex.1, hex.2.1, hex.2.2⟩, rfl⟩, rows1, g2, nd1, tup1, e2, e4, ?_, by rw [l1]; exact room'⟩ (fun z => absurd z hm) fun _ => pm)
        rw [e3, l1]
        generalize t.mask = m at hno hr1
        cases hr1
        · exact .a (by omega)
        · exact .b (by omega)
        · exact .c (by omega)
        · exact .d (by omega)
end
end DL

end

section
namespace DL
open PySem PySem.Spec PyProof.Rows L2

/-- the object of a new set -/
abbrev newSet (w : World) : Obj := { cls := .type "set", dict := none, data := .set #[] 0 (.fresh 0 0 (!w.params.followText "set-order")) }
/-- what a set is told one by one: J i of the heap behind i things -/
structure Fills (P : Program) (w : World) (A : Around) (S : Addr) (h0 : Heap) (n : Nat) (Pv : Nat → Value → Prop) (J : Nat → Heap → Prop) : Prop where
  keep : ∀ i h h', J i h → (∀ o, h.get? S = some o → h'.get? S = some o) → (∀ b o, h0.get? b = some o → h'.get? b = some o) → J i h'
  add : ∀ (i : Nat) (v : Value) (s : Shared) (Q : Bool → Shared → Prop) (E : Value → Shared → Prop), i < n → Pv i v → J i s.heap → (∀ b o, h0.get? b = some o → s.heap.get? b = some o) →
    (∀ b h' tk, s.toks ≤ tk → Heap.SameBut S s.heap h' → J (i + 1) h' → Q b { s with heap := h', toks := tk }) → wpAny (model P w) A (setAdd S v) Q E s
section
variable {P : Program} {w : World} {A : Around} {E : Value → Shared → Prop} {s : Shared}
theorem fill_loop {I : Addr} {fp wr : List Addr} {G : Array GenState → Array GenState → Prop} {n : Nat} {Pv : Nat → Value → Prop} {St : Nat → Shared → Prop} {R : Result → Shared → Prop} {J : Nat → Heap → Prop} {S : Addr} {h0 : Heap}
    (W : WalksS P w A.in1 I fp wr G n Pv St) (F1 : Fills P w A.in1 S h0 n Pv J) (hSf : S ∉ fp) (hS0 : h0.get? S = none) (hw0 : ∀ b ∈ wr, h0.get? b = none) :
    ∀ (k i : Nat) (s : Shared), i + k = n → St i s → (∀ b o, h0.get? b = some o → s.heap.get? b = some o) → J i s.heap →
      (∀ s', Moved (S :: wr) G s s' → J n s'.heap → (∀ b o, h0.get? b = some o → s'.heap.get? b = some o) → R (.ok (.ret .none)) s') → codeAny (model P w) A (.builtin "set.update.loop" ⟨[.ref S, .ref I], []⟩) R s := by
  have hSw : S ∉ wr := fun h => hSf (W.sub _ h)
  have big : ∀ b ∈ wr, b ∈ S :: wr := fun b hb => List.mem_cons_of_mem _ hb
  have kept : ∀ {s s' : Shared}, Moved wr G s s' → (∀ b o, h0.get? b = some o → s.heap.get? b = some o) → ∀ b o, h0.get? b = some o → s'.heap.get? b = some o := fun mv kp b o e =>
    mv.heap b o (fun hb => absurd (hw0 b hb) (by rw [e]; simp)) (kp b o e)
  intro k
  induction k with
  | zero =>
    intro i s en st kp jj hR
    have en : i = n := en
    subst en
    refine codeAny_builtin F.entry_set_update_loop ?_
    rw [Around.under_plainId F.plain_set_update_loop _]
    show wpAny _ A.in1 (pyNext (.ref I) >>= _) _ _ s
    refine wpAny_bind (W.done s _ _ st fun s' mv => ?_)
    have kp' := kept mv kp
    show wpAny _ A.in1 (ret Value.none) _ _ s'
    exact wpAny_pure (hR s' (mv.mono big) (F1.keep _ _ _ jj (fun o e => mv.heap S o hSw e) kp') kp')
  | succ k ih =>
    intro i s en st kp jj hR
    have lt : i < n := by omega
    refine codeAny_builtin F.entry_set_update_loop ?_
    rw [Around.under_plainId F.plain_set_update_loop _]
    show wpAny _ A.in1 (pyNext (.ref I) >>= _) _ _ s
    refine wpAny_bind (W.item i s _ _ lt st fun v s1 hv st1 mv => ?_)
    have kp1 := kept mv kp
    show wpAny _ A.in1 (holding [v] (setAdd S v) >>= _) _ _ s1
    refine wpAny_bind (wpAny_holding (F1.add i v s1 _ _ lt hv (F1.keep _ _ _ jj (fun o e => mv.heap S o hSw e) kp1) kp1 fun b h' tk le sb j2 => ?_))
    have kp2 : ∀ b o, h0.get? b = some o → h'.get? b = some o := fun b o e => (sb.2 b (fun z => absurd hS0 (by rw [← z, e]; simp))).trans (kp1 b o e)
    refine wpAny_pure ⟨plainId_quiet F.plain_set_update_loop _, ih (i + 1) _ (by omega) (W.frame _ s1 _ _ st1 le fun b hb o e => ?_) kp2 j2 fun s2 mv2 j3 kp3 => ?_⟩
    · exact (sb.2 b fun z => hSf (z ▸ hb)).trans e
    · exact hR s2 (Moved.trans W.gtrans ((mv.mono big).then_heap le fun b o hb e => (sb.2 b fun z => hb (z ▸ List.mem_cons_self)).trans e) mv2) j3 kp3

theorem set_of_list {l : Addr} {items : Array Value} {J : Nat → Heap → Prop} {Q : Value → Shared → Prop} (hh : A.handled = none) (hl : s.heap.IsList l items)
    (F1 : ∀ A', A'.units ≤ A.units + 3 → A'.handled = none → Fills P w A' s.heap.objs.size s.heap items.size (fun i v => items[i]? = some v) J) (j0 : ∀ h, h.get? s.heap.objs.size = some (newSet w) → J 0 h)
    (h : ∀ (h' : Heap) (tk : Nat), J items.size h' → (∀ b o, s.heap.get? b = some o → h'.get? b = some o) → Q (.ref s.heap.objs.size) { s with heap := h', toks := tk }) :
    wpAny (model P w) A (call (.type "set") [.ref l]) Q E s := by
  obtain ⟨c, tl, hmro⟩ := F.called_set.mro
  have g1 := F.called_set.made
  have g2 := F.called_set.sub
  have g3 := F.called_set.notType
  have g4 := F.called_set.canCreate
  have g5 := F.typeCall_set_1 (.ref l)
  refine wpAny_call (codeAny_of_tree ?_)
  show wpAny _ _ (callAny (.type "set") _) _ _ _
  refine wpAny_pure ⟨Code.quiet_builtin _ (by decide +kernel), codeAny_builtin F.entry_type_call ?_⟩
  rw [Around.under_plain (weight_type_call_type "set" [.ref l] []) rfl]
  repeat (any_goals (first | assumption | wp_step))
  refine codeAny_mono (code_set_led1 (.ref l) (E := E) (Q₁ := fun v s1 => v = .ref s.heap.objs.size ∧ s1 = { s with heap := s.heap.push (newSet w) }) ⟨rfl, rfl⟩) fun r s1 hr => ?_
  cases r with
  | error e => exact hr
  | ok fl =>
    cases fl with
    | ret obj =>
      obtain ⟨rfl, rfl⟩ := hr
      have oS : (s.heap.push (newSet w)).get? s.heap.objs.size = some (newSet w) := Heap.get?_push_size _ rfl
      have ty : Shared.TypeIs { s with heap := s.heap.push (newSet w) } (.ref s.heap.objs.size) "set" := ⟨_, oS, rfl⟩
      have g6 := F.called_set.init.lookup
      have g7 := F.called_set.init.bind (.ref s.heap.objs.size)
      repeat (any_goals (first | assumption | wp_step))
      refine codeAny_mono (codeAny_call_builtin (R := wants (fun r s2 => r = .none ∧ ∃ h' tk, s2 = { s with heap := h', toks := tk } ∧ J items.size h' ∧ ∀ b o, s.heap.get? b = some o → h'.get? b = some o) E) F.called_set.init.plain F.entry_set_init (check_set_init_1 ty ?_)) fun r2 s2 hr2 => ?_
      · obtain ⟨ol, hol, hcl, nl, hdl⟩ := hl
        obtain ⟨ocls, odict, odata, oslots⟩ := ol
        simp only at hcl hdl
        subst hcl hdl
        have hol' : (s.heap.push (newSet w)).get? l = some { cls := .type "list", dict := odict, data := .seq items nl, slots := oslots } := Heap.get?_push_of_some _ hol
        have hl1 : (s.heap.push (newSet w)).IsList l items := ⟨_, hol', rfl, nl, rfl⟩
        have g8 := F.sub_list_set
        have g9 := F.sub_list_frozenset
        have g0 : (Value.type "list" == Value.type "dict") = false := by decide
        unfold Builtin.«set.__init__» noKeywords Builtin.Frozenset.updateFrom
        generalize hPI : pyIter = PI
        wp_walk
        subst hPI
        refine wpAny_pyIter_list hl1 ?_
        refine wpAny_bind (wpAny_runValue ?_)
        have lS : l < s.heap.objs.size := Heap.lt_size hol
        have eS : (s.heap.push (newSet w)).objs.size = s.heap.objs.size + 1 := Heap.size_push ..
        have none_of : ∀ b, s.heap.objs.size ≤ b → s.heap.get? b = none := fun b hb => by
          cases q : s.heap.get? b with
          | none => rfl
          | some o => exact absurd (Nat.lt_of_lt_of_le (Heap.lt_size q) hb) (Nat.lt_irrefl _)
        have nI : l ≠ (s.heap.push (newSet w)).objs.size := by rw [eS]; exact Nat.ne_of_lt (Nat.lt_succ_of_lt lS)
        refine fill_loop ((Walks.list (by simp [hh]) _ l nI items).toS) (F1 _ (by show A.in1.in1.in1.units ≤ _; simp [Around.in1, Around.units]) (by simp [hh])) (by rw [eS]; simp only [List.mem_cons, List.not_mem_nil, or_false, not_or]; exact ⟨Nat.ne_of_lt (Nat.lt_succ_self _), Nat.ne_of_gt lS⟩) (none_of _ (Nat.le_refl _)) (fun b hb => none_of b (by rw [List.mem_singleton.mp hb, eS]; exact Nat.le_succ _)) items.size 0 _ (Nat.zero_add _)
          ⟨⟨_, Heap.get?_push_size _ rfl, rfl, rfl⟩, hl1.push _⟩ (fun b o e => Heap.get?_push_of_some _ (Heap.get?_push_of_some _ e)) (j0 _ (Heap.get?_push_of_some _ oS)) fun s3 mv j3 kp3 => ?_
        obtain ⟨h', g', d', tk', os'⟩ := s3
        have e1 : g' = s.gens := mv.gens
        have e2 : d' = s.drawn := mv.drawn
        have e3 : os' = s.os := mv.os
        subst e1 e2 e3
        show wpAny _ _ _ _ _ _
        refine wpAny_pure ?_
        show wpAny _ _ (ret Value.none) _ _ _
        exact wpAny_pure ⟨rfl, h', tk', rfl, j3, kp3⟩
      · cases r2 with
        | error e => exact hr2
        | ok fl2 =>
          cases fl2 with
          | ret r =>
            obtain ⟨rfl, h', tk, rfl, j3, kp3⟩ := hr2
            repeat (any_goals (first | assumption | wp_step))
            exact h _ _ j3 kp3
          | _ => exact hr2.elim
    | _ => exact hr.elim

theorem set_of_tuple {l : Addr} {items : Array Value} {J : Nat → Heap → Prop} {Q : Value → Shared → Prop} (hh : A.handled = none) (hl : s.heap.IsTuple l items)
    (F1 : ∀ A', A'.units ≤ A.units + 3 → A'.handled = none → Fills P w A' s.heap.objs.size s.heap items.size (fun i v => items[i]? = some v) J) (j0 : ∀ h, h.get? s.heap.objs.size = some (newSet w) → J 0 h)
    (h : ∀ (h' : Heap) (tk : Nat), J items.size h' → (∀ b o, s.heap.get? b = some o → h'.get? b = some o) → Q (.ref s.heap.objs.size) { s with heap := h', toks := tk }) :
    wpAny (model P w) A (call (.type "set") [.ref l]) Q E s := by
  obtain ⟨c, tl, hmro⟩ := F.called_set.mro
  have g1 := F.called_set.made
  have g2 := F.called_set.sub
  have g3 := F.called_set.notType
  have g4 := F.called_set.canCreate
  have g5 := F.typeCall_set_1 (.ref l)
  refine wpAny_call (codeAny_of_tree ?_)
  show wpAny _ _ (callAny (.type "set") _) _ _ _
  refine wpAny_pure ⟨Code.quiet_builtin _ (by decide +kernel), codeAny_builtin F.entry_type_call ?_⟩
  rw [Around.under_plain (weight_type_call_type "set" [.ref l] []) rfl]
  repeat (any_goals (first | assumption | wp_step))
  refine codeAny_mono (code_set_led1 (.ref l) (E := E) (Q₁ := fun v s1 => v = .ref s.heap.objs.size ∧ s1 = { s with heap := s.heap.push (newSet w) }) ⟨rfl, rfl⟩) fun r s1 hr => ?_
  cases r with
  | error e => exact hr
  | ok fl =>
    cases fl with
    | ret obj =>
      obtain ⟨rfl, rfl⟩ := hr
      have oS : (s.heap.push (newSet w)).get? s.heap.objs.size = some (newSet w) := Heap.get?_push_size _ rfl
      have ty : Shared.TypeIs { s with heap := s.heap.push (newSet w) } (.ref s.heap.objs.size) "set" := ⟨_, oS, rfl⟩
      have g6 := F.called_set.init.lookup
      have g7 := F.called_set.init.bind (.ref s.heap.objs.size)
      repeat (any_goals (first | assumption | wp_step))
      refine codeAny_mono (codeAny_call_builtin (R := wants (fun r s2 => r = .none ∧ ∃ h' tk, s2 = { s with heap := h', toks := tk } ∧ J items.size h' ∧ ∀ b o, s.heap.get? b = some o → h'.get? b = some o) E) F.called_set.init.plain F.entry_set_init (check_set_init_1 ty ?_)) fun r2 s2 hr2 => ?_
      · obtain ⟨ol, hol, hcl, nl, hdl⟩ := hl
        obtain ⟨ocls, odict, odata, oslots⟩ := ol
        simp only at hcl hdl
        subst hcl hdl
        have hol' : (s.heap.push (newSet w)).get? l = some { cls := .type "tuple", dict := odict, data := .seq items nl, slots := oslots } := Heap.get?_push_of_some _ hol
        have hl1 : (s.heap.push (newSet w)).IsTuple l items := ⟨_, hol', rfl, nl, rfl⟩
        have g8 := F.sub_tuple_set
        have g9 := F.sub_tuple_frozenset
        have g0 : (Value.type "tuple" == Value.type "dict") = false := by decide
        unfold Builtin.«set.__init__» noKeywords Builtin.Frozenset.updateFrom
        generalize hPI : pyIter = PI
        wp_walk
        subst hPI
        refine wpAny_pyIter_tuple hl1 ?_
        refine wpAny_bind (wpAny_runValue ?_)
        have lS : l < s.heap.objs.size := Heap.lt_size hol
        have eS : (s.heap.push (newSet w)).objs.size = s.heap.objs.size + 1 := Heap.size_push ..
        have none_of : ∀ b, s.heap.objs.size ≤ b → s.heap.get? b = none := fun b hb => by
          cases q : s.heap.get? b with
          | none => rfl
          | some o => exact absurd (Nat.lt_of_lt_of_le (Heap.lt_size q) hb) (Nat.lt_irrefl _)
        have nI : l ≠ (s.heap.push (newSet w)).objs.size := by rw [eS]; exact Nat.ne_of_lt (Nat.lt_succ_of_lt lS)
        refine fill_loop ((Walks.tuple (by simp [hh]) _ l nI items).toS) (F1 _ (by show A.in1.in1.in1.units ≤ _; simp [Around.in1, Around.units]) (by simp [hh])) (by rw [eS]; simp only [List.mem_cons, List.not_mem_nil, or_false, not_or]; exact ⟨Nat.ne_of_lt (Nat.lt_succ_self _), Nat.ne_of_gt lS⟩) (none_of _ (Nat.le_refl _)) (fun b hb => none_of b (by rw [List.mem_singleton.mp hb, eS]; exact Nat.le_succ _)) items.size 0 _ (Nat.zero_add _)
          ⟨⟨_, Heap.get?_push_size _ rfl, rfl, rfl⟩, hl1.push _⟩ (fun b o e => Heap.get?_push_of_some _ (Heap.get?_push_of_some _ e)) (j0 _ (Heap.get?_push_of_some _ oS)) fun s3 mv j3 kp3 => ?_
        obtain ⟨h', g', d', tk', os'⟩ := s3
        have e1 : g' = s.gens := mv.gens
        have e2 : d' = s.drawn := mv.drawn
        have e3 : os' = s.os := mv.os
        subst e1 e2 e3
        show wpAny _ _ _ _ _ _
        refine wpAny_pure ?_
        show wpAny _ _ (ret Value.none) _ _ _
        exact wpAny_pure ⟨rfl, h', tk', rfl, j3, kp3⟩
      · cases r2 with
        | error e => exact hr2
        | ok fl2 =>
          cases fl2 with
          | ret r =>
            obtain ⟨rfl, h', tk, rfl, j3, kp3⟩ := hr2
            repeat (any_goals (first | assumption | wp_step))
            exact h _ _ j3 kp3
          | _ => exact hr2.elim
    | _ => exact hr.elim
end
end DL

end

section
namespace DL
open PySem PySem.Spec PyProof.Rows L2

/-! ### what is told again -/
def dd {α : Type} [DecidableEq α] : List α → List α
  | [] => []
  | a :: r => a :: (dd r).filter fun e => !decide (a = e)
section
variable {α : Type} [DecidableEq α]
theorem mem_dd : ∀ {l : List α} {a : α}, a ∈ dd l ↔ a ∈ l
  | [], a => Iff.rfl
  | b :: l, a => by
    rw [dd, List.mem_cons, List.mem_cons, List.mem_filter, mem_dd (l := l)]
    constructor
    · rintro (h | h)
      · exact .inl h
      · exact .inr h.1
    · rintro (h | h)
      · exact .inl h
      · by_cases e : b = a
        · exact .inl e.symm
        · exact .inr ⟨h, by simpa using e⟩
theorem nodup_dd : ∀ l : List α, (dd l).Nodup
  | [] => List.nodup_nil
  | b :: l => by
    rw [dd, List.nodup_cons]
    refine ⟨fun h => ?_, (nodup_dd l).filter _⟩
    have := (List.mem_filter.mp h).2
    simp at this
theorem dd_perm {l m : List α} (h1 : m.Nodup) (h2 : ∀ a, a ∈ m ↔ a ∈ l) : m.Perm (dd l) :=
  (List.perm_ext_iff_of_nodup h1 (nodup_dd l)).mpr fun a => (h2 a).trans mem_dd.symm
theorem dd_most {l m : List α} (h1 : m.Nodup) (h2 : ∀ a ∈ m, a ∈ l) : m.length ≤ (dd l).length :=
  List.Nodup.length_le_of_subset h1 fun a h => mem_dd.mpr (h2 a h)
theorem dedup_map (f : α → D) (hf : ∀ a b, PyData.eqv (f a) (f b) = decide (a = b)) : ∀ l : List α, dedup (l.map f) = (dd l).map f
  | [] => rfl
  | a :: l => by
    rw [List.map_cons, dedup, dedup_map f hf l, dd, List.map_cons, List.filter_map]
    congr 2
    refine List.filter_congr fun e _ => ?_
    show (!PyData.eqv (f a) (f e)) = _
    rw [hf]
end
theorem eqv_i (a b : Int) : PyData.eqv (.int a) (.int b) = decide (a = b) := by
  simp only [PyData.eqv]
  rw [Bool.eq_iff_iff, beq_iff_eq, decide_eq_true_eq]
theorem eqv_is : ∀ xs ys : List Int, PyData.eqvAll (xs.map .int) (ys.map .int) = decide (xs = ys)
  | [], [] => by simp [PyData.eqvAll]
  | [], _ :: _ => by simp [PyData.eqvAll]
  | _ :: _, [] => by simp [PyData.eqvAll]
  | x :: xs, y :: ys => by
    rw [List.map_cons, List.map_cons, PyData.eqvAll, eqv_i, eqv_is xs ys]
    by_cases h : x = y <;> simp [h]
def tupD (r : List Int) : D := .tuple (r.map .int)
theorem eqv_tupD (xs ys : List Int) : PyData.eqv (tupD xs) (tupD ys) = decide (xs = ys) := by
  unfold tupD
  rw [PyData.eqv]
  exact eqv_is xs ys
/-! the order of what is sorted does not hang on how it came -/
theorem sortD_perm {α : Type} (f : α → D) (le : α → α → Prop) (hle : ∀ a b, PySem.W.dataLe false id (f a) (f b) = true ↔ le a b) (tr : ∀ a b c, le a b → le b c → le a c) (tot : ∀ a b, le a b ∨ le b a) (anti : ∀ a b, le a b → le b a → a = b) {l m : List α} (h : l.Perm m) : sortD (l.map f) = sortD (m.map f) := by
  have key : ∀ l : List α, ∃ l' : List α, sortD (l.map f) = l'.map f ∧ l'.Perm l ∧ l'.Pairwise le := fun l => by
    classical
    refine ⟨l.mergeSort fun a b => decide (le a b), ?_, List.mergeSort_perm _ _, ?_⟩
    · unfold sortD
      rw [List.map_mergeSort fun a _ b _ => ?_]
      rw [Bool.eq_iff_iff, decide_eq_true_eq]
      exact (hle a b).symm
    · have := List.pairwise_mergeSort (le := fun a b => decide (le a b)) (fun a b c h1 h2 => by
        simp only [decide_eq_true_eq] at h1 h2 ⊢
        exact tr _ _ _ h1 h2) (fun a b => by
        rw [Bool.or_eq_true, decide_eq_true_eq, decide_eq_true_eq]
        exact tot a b) l
      exact this.imp fun z => by simpa using z
  obtain ⟨l', e1, p1, s1⟩ := key l
  obtain ⟨m', e2, p2, s2⟩ := key m
  rw [e1, e2, List.Perm.eq_of_pairwise (fun a b _ _ => anti a b) s1 s2 ((p1.trans h).trans p2.symm)]
theorem le_i (a b : Int) : PySem.W.dataLe false id (.int a) (.int b) = true ↔ a ≤ b := by
  have := congrFun (congrFun (PySem.W.dataLe_int (fun b : Int => b)) a) b
  rw [show PySem.W.dataLe false id (.int a) (.int b) = PySem.W.dataLe false (fun b : Int => .int b) a b from rfl, this, decide_eq_true_eq]
theorem le_t (a b : List Int) : PySem.W.dataLe false id (tupD a) (tupD b) = true ↔ a ≤ b := by
  rw [PySem.W.dataLe_eq]
  have e : PySem.W.dataLt (tupD b) (tupD a) = decide (b < a) := by
    unfold tupD
    rw [PySem.W.dataLt_tuple]
    exact PySem.W.dataLt_ints b a
  show (!PySem.W.dataLt (tupD b) (tupD a)) = true ↔ _
  rw [e, Bool.not_eq_true', decide_eq_false_iff_not]
  exact List.not_lt
theorem sortD_ints {l m : List Int} (h : l.Perm m) : sortD (l.map .int) = sortD (m.map .int) :=
  sortD_perm .int (· ≤ ·) le_i (fun _ _ _ => Int.le_trans) Int.le_total (fun _ _ => Int.le_antisymm) h
theorem sortD_tups {l m : List (List Int)} (h : l.Perm m) : sortD (l.map tupD) = sortD (m.map tupD) :=
  sortD_perm tupD (· ≤ ·) le_t (fun _ _ _ => List.le_trans) List.le_total (fun _ _ => List.le_antisymm) h

/-! ### a set in the heap: its things, as they stand -/
def SetVs (w : World) (h : Heap) (a : Addr) (xs : List V) : Prop := ∃ o es ep t, h.get? a = some o ∧ o.ExactSet ∧ o.data = .set es ep t ∧ Vals xs (es.toList.map (·.2)) ∧ es.size < scanBound ∧ t.fits es.size = true ∧ Ris t.place.toList ∧ (w.params.followText "set-order" = true ∨ t.led = true)
def SetVO (w : World) (a : Addr) (xs : List V) : HO := .ext fun h => SetVs w h a xs
theorem setVO_new {P : Program} {w : World} {H : Hp} {h : Heap} {a : Addr} {xs : List V} (R : SetVs w h a xs) : ObjOk P w H h a (SetVO w a xs) := by
  have ⟨o, _, _, _, ho, _⟩ := R
  refine ⟨R, ⟨o, ho⟩, fun h1 h2 p k => ?_⟩
  obtain ⟨o', es, ep, t, ho', r⟩ := p
  exact ⟨o', es, ep, t, k o' ho', r⟩
def lotD (r : List (List Int)) : D := .tuple (r.map tupD)
def FlatD (d : D) : Prop := (∃ i, d = .int i) ∨ (∃ r, d = tupD r) ∨ ∃ r, d = lotD r
/-- set(xs): its things are those of xs, each once -/
def rSetV (K : PySem.W.Frag) (w : World) : List V → Hp → VK → Prop := fun xs H Q => ∃ (x : V) (M : AS) (d : D) (ds : List D), xs = [x] ∧ (∀ a, M a → H a ≠ none) ∧ RB K M H x d ∧ itemsOf d = some ds ∧ SetOk ds ∧
  ∀ p ys es, H p = none → RDs K M H ys es → es.length = (dedup ds).length → (∀ e ∈ es, FlatD e) → SortOk es → (∀ fs, fs.Perm es → sortD fs = sortD (dedup ds)) → Q (.ref p) (upd H p (SetVO w p ys))

theorem RDs.tupsOf {K : PySem.W.Frag} {M : AS} {H : Hp} : ∀ {rs : List (List Int)} {vs : List V}, RDs K M H vs (rs.map tupD) → ∃ ks : List (Addr × List Int), vs = ks.map (fun p => V.ref p.1) ∧ rs = ks.map (·.2) ∧ ∀ p ∈ ks, SqF K H p.1 (p.2.map V.int)
  | [], _, h => by cases h; exact ⟨[], rfl, rfl, fun _ z => nomatch z⟩
  | r :: rs, _, h => by
    cases h with
    | cons h1 h2 =>
      obtain ⟨ks, rfl, rfl, h3⟩ := RDs.tupsOf h2
      unfold tupD at h1
      cases h1 with
      | @tup a xs _ h4 h5 =>
        rw [h5.intsOf] at h4
        refine ⟨(a, r) :: ks, rfl, rfl, fun p hp => ?_⟩
        rcases List.mem_cons.mp hp with rfl | hp
        · exact h4
        · exact h3 p hp
theorem rds_tups {K : PySem.W.Frag} {M : AS} {H : Hp} : ∀ {L : List (Addr × List Int)}, (∀ p ∈ L, SqF K H p.1 (p.2.map V.int)) → RDs K M H (L.map fun p => V.ref p.1) (L.map fun p => tupD p.2)
  | [], _ => .nil
  | p :: L, h => .cons (.tup (h p List.mem_cons_self) (RDs.ints _)) (rds_tups fun q hq => h q (List.mem_cons_of_mem _ hq))
theorem sortOk_i (ns : List Int) : SortOk (ns.map .int) := by
  refine ⟨fun d hd => ?_, fun _ => ⟨fun d hd e he => ?_, PySem.W.Sortable.others (enc := PyData.int) (bs := ns) fun b => ⟨(fun h => nomatch h), (fun xs h => nomatch h)⟩⟩⟩
  · obtain ⟨n, _, rfl⟩ := List.mem_map.mp hd
    exact Nat.zero_le _
  · obtain ⟨n, _, rfl⟩ := List.mem_map.mp hd
    obtain ⟨n', _, rfl⟩ := List.mem_map.mp he
    rfl
theorem sortOk_t {rs : List (List Int)} (h : 2 ≤ rs.length → ∀ r ∈ rs, r ≠ []) : SortOk (rs.map tupD) := by
  refine ⟨fun d hd => ?_, fun h2 => ⟨fun d hd e he => ?_, .inl fun d hd => ?_⟩⟩
  · obtain ⟨r, _, rfl⟩ := List.mem_map.mp hd
    unfold tupD
    rw [PyData.depth, PySem.W.depth_ints]
    omega
  · obtain ⟨r, _, rfl⟩ := List.mem_map.mp hd
    obtain ⟨r', _, rfl⟩ := List.mem_map.mp he
    unfold tupD
    rw [PySem.W.alike]
    exact PySem.W.alike_ints r r'
  · obtain ⟨r, hr, rfl⟩ := List.mem_map.mp hd
    have := h (by rw [List.length_map] at h2; exact h2) r hr
    cases r with
    | nil => exact absurd rfl this
    | cons x r => exact ⟨_, _, rfl⟩
/-- the things of a set of tuples -/
theorem setB_vs {P : Program} {w : World} {h : Heap} {a : Addr} {L : Ent} {es : Array (Int × Value)} {ep : Nat} {t : SetTable} (R : SetB P w h a L es ep t) : SetVs w h a (L.map fun p => V.ref p.1) := by
  obtain ⟨o, ho, hex, hd⟩ := R.ob
  have z := rows_size R.rows
  have m := R.most
  refine ⟨o, es, ep, t, ho, hex, hd, ?_, by show es.size < 4096; omega, SetB.fit (s := { heap := h }) R, R.tab.up, R.ld⟩
  rw [R.rows]
  unfold rowsOf
  rw [List.map_map]
  exact vals_of_refs L

section
variable {X : Cx} (hu : X.A.units + 200 < cLine) (hc : X.calm = true)
include hu hc
theorem isT_of {pins : List (Addr × Obj)} {σ : St} {H : Hp} {s : Shared} (I : Inv X pins σ H s) {ks : Ent} (h : ∀ p ∈ ks, SqF X.K H p.1 (p.2.map V.int)) : ∀ p ∈ ks, IsT X.prog X.w s.heap p.2 p.1 := fun p hp => I.isT (h p hp).sqT
/-- tuples go in one by one -/
theorem fills_t {A : Around} {h0 : Heap} {S : Addr} {ks : Ent} (hk : ∀ p ∈ ks, IsT X.prog X.w h0 p.2 p.1) (hS : h0.get? S = none) (hA : A.units < cLine) (most : (dd (ks.map (·.2))).length ≤ 300) {items : Array Value} (hit : items.toList = ks.map fun p => Value.ref p.1) :
    Fills X.prog X.w A S h0 items.size (fun i v => items[i]? = some v) fun i h => ∃ L es ep t, SetB X.prog X.w h S L es ep t ∧ Got ks i L := by
  refine ⟨fun i h h' ⟨L, es, ep, t, R, g⟩ k1 k2 => ?_, fun i v s Q E lt hv ⟨L, es, ep, t, R, g⟩ kp q => ?_⟩
  · obtain ⟨o, ho, r⟩ := R.ob
    exact ⟨L, es, ep, t, ⟨⟨o, k1 o ho, r⟩, R.rows, R.tab, R.nd, fun p hp => isT_keep (hk p (List.mem_of_mem_take (g.sub p hp))) k2, R.pl, R.ld, R.mb, R.most⟩, g⟩
  · have hp : ∃ p, ks[i]? = some p ∧ v = .ref p.1 := by
      have e : items.toList[i]? = some v := by rw [Array.getElem?_toList]; exact hv
      rw [hit, List.getElem?_map] at e
      obtain ⟨p, h1, h2⟩ := Option.map_eq_some_iff.mp e
      exact ⟨p, h1, h2.symm⟩
    obtain ⟨p, hp, rfl⟩ := hp
    have hx : IsT X.prog X.w s.heap p.2 p.1 := isT_keep (hk p (List.mem_of_getElem? hp)) kp
    unfold setAdd
    refine wpAny_holding (wpAny_bind (wpAny_pyHash_tuple hA hx ?_))
    refine add_one (s := { s with toks := s.toks + (p.2.length + 1) }) R hx hA (fun hn => ?_) fun b h' L' es' ep' t' sb R' c1 c2 => ?_
    · have : ((L.map (·.2)) ++ [p.2]).length ≤ (dd (ks.map (·.2))).length := by
        refine dd_most ?_ fun r hr => ?_
        · rw [List.nodup_append]
          refine ⟨R.nd, by simp [List.Nodup], fun a ha b hb e => ?_⟩
          rw [List.mem_singleton.mp hb] at e
          exact hn (e ▸ ha)
        · rcases List.mem_append.mp hr with z | z
          · obtain ⟨q, hq, rfl⟩ := List.mem_map.mp z
            exact List.mem_map_of_mem (List.mem_of_mem_take (g.sub q hq))
          · rw [List.mem_singleton.mp z]
            exact List.mem_map_of_mem (List.mem_of_getElem? hp)
      simp at this
      omega
    · refine q b h' _ (Nat.le_add_right _ _) sb ⟨L', es', ep', t', R', ?_⟩
      rcases Classical.em (p.2 ∈ L.map (·.2)) with c | c
      · rw [c1 c]; exact g.same hp c
      · exact g.more hp (c2 c)
/-- ints -/
theorem setR_cnt {w : World} {h : Heap} {a : Addr} {S : Int → Bool} {n : Nat} (R : SetR w h a S n) {ns : List Int} (hs : ∀ k, S k = true → k ∈ ns) : n ≤ (dd ns).length := by
  obtain ⟨o, es, ep, t, ho, hex, hd, g, nd, hm, hb, hf, hn, r⟩ := R
  have := dd_most nd fun k hk => hs k ((hm k).mpr hk)
  rw [List.length_map, Array.length_toList, hn] at this
  exact this
theorem vals_at : ∀ {xs : List V} {us : List Value} {i : Nat} {u : Value}, Vals xs us → us[i]? = some u → ∃ x, xs[i]? = some x ∧ RelV x u
  | _, _, _, _, .nil, h => by simp at h
  | x :: _, w :: _, 0, u, .cons h t, e => by
    simp at e
    subst e
    exact ⟨x, rfl, h⟩
  | x :: l, w :: m, i + 1, u, .cons h t, e => by
    obtain ⟨y, h1, h2⟩ := vals_at (i := i) t (by simpa using e)
    exact ⟨y, by simpa using h1, h2⟩
theorem fills_i {A : Around} {h0 : Heap} {S : Addr} {ns : List Int} (hA : A.units < cLine) (most : (dd ns).length ≤ 300) {items : Array Value} (hit : Vals (ns.map V.int) items.toList) :
    Fills X.prog X.w A S h0 items.size (fun i v => items[i]? = some v) fun i h => ∃ n, SetR X.w h S (fun j => decide (j ∈ ns.take i)) n := by
  refine ⟨fun i h h' ⟨n, R⟩ k1 k2 => ⟨n, R.at k1⟩, fun i v s Q E lt hv ⟨n, R⟩ kp q => ?_⟩
  have hp : ∃ k t, ns[i]? = some k ∧ v = .int k t := by
    have e : items.toList[i]? = some v := by rw [Array.getElem?_toList]; exact hv
    obtain ⟨x, h1, h2⟩ := vals_at hu hc hit e
    rw [List.getElem?_map] at h1
    obtain ⟨k, h3, rfl⟩ := Option.map_eq_some_iff.mp h1
    obtain ⟨t, rfl⟩ := h2
    exact ⟨k, t, h3, rfl⟩
  obtain ⟨k, tk, hk, rfl⟩ := hp
  have hn := setR_cnt hu hc R (ns := ns) fun j hj => List.mem_of_mem_take (of_decide_eq_true hj)
  unfold setAdd
  refine wpAny_holding (wpAny_bind ((intKind X.prog X.w).pyHash (k := k) (intKind_is _ _ _ _) ?_))
  refine setR_add_hashed (s := { s with toks := s.toks + 1 }) R (by show n + 1 < 4096; omega) fun h' sb R' => ?_
  refine q _ h' _ (Nat.le_succ _) sb ⟨_, R'.congr fun j => ?_⟩
  rw [List.take_add_one, hk]
  simp [List.mem_append]
end
end DL

end

section
namespace DLK
open DL
open PySem PySem.Spec PyProof.Rows L2

/-- keys on the heap that a set may hold -/
structure SK (P : Program) (w : World) (κ : Type) [DecidableEq κ] extends HeapKind P w κ where
  hashBy : ∀ {A : Around} {E : Value → Shared → Prop} {s : Shared} {k : κ} {b : Addr} {Q : Bool → Shared → Prop}, is s.heap k b → Q true s → wpAny (model P w) A (hashByValue 8 (.ref b)) Q E s
  keepAt : ∀ {h h' : Heap} {k : κ} {b : Addr}, is h k b → (∀ a o vs n, h.get? a = some o → o.data = .seq vs n → h'.get? a = some o) → is h' k b
  seen : ∀ {A : Around} {E : Value → Shared → Prop} {s : Shared} {k : κ} {b : Addr} {Q : Bool → Shared → Prop}, is s.heap k b → ∀ {ys : List Value}, (∀ y ∈ ys, ∃ k' c, y = Value.ref c ∧ is s.heap k' c) → Q false s → wpAny (model P w) A (searchCouldBeSeen (.ref b) ys) Q E s
theorem SK.same {P : Program} {w : World} {κ : Type} [DecidableEq κ] (HK : SK P w κ) {h h' : Heap} {k : κ} {a b : Addr} {o : Obj} {es : Array (Int × Value)} {ep : Nat} {t : SetTable} (hb : HK.is h k b) (ho : h.get? a = some o) (hd : o.data = .set es ep t) (hs : Heap.SameBut a h h') : HK.is h' k b :=
  HK.keepAt hb fun b ob vs n hb hc => by
    refine (hs.2 b fun e => ?_).trans hb
    subst e
    rw [ho] at hb
    cases hb
    rw [hd] at hc
    cases hc
abbrev Ent (κ : Type) := List (Addr × κ)
def rowsK {κ : Type} [DecidableEq κ] {P : Program} {w : World} (HK : SK P w κ) (L : Ent κ) : List (Int × Value) := L.map fun p => (HK.hash p.2, Value.ref p.1)
/-- the set of tuples of ints at a, of at most 300 -/
structure SetB {κ : Type} [DecidableEq κ] {P : Program} {w : World} (HK : SK P w κ) (h : Heap) (a : Addr) (L : Ent κ) (es : Array (Int × Value)) (ep : Nat) (t : SetTable) : Prop where
  ob : ∃ o, h.get? a = some o ∧ o.ExactSet ∧ o.data = .set es ep t
  rows : es.toList = rowsK HK L
  tab : TabB t (L.map fun p => HK.hash p.2)
  nd : (L.map (·.2)).Nodup
  tup : ∀ p ∈ L, HK.is h p.2 p.1
  pl : t.plain = true
  ld : w.params.followText "set-order" = true ∨ t.led = true
  mb : MB t.mask L.length
  most : L.length ≤ 300
section
variable {κ : Type} [DecidableEq κ] {P : Program} {w : World} {HK : SK P w κ} {A : Around} {E : Value → Shared → Prop} {s : Shared} {a : Addr} {L : Ent κ} {es : Array (Int × Value)} {ep : Nat} {t : SetTable}
theorem rows_size {L : Ent κ} {es : Array (Int × Value)} (h : es.toList = rowsK HK L) : es.size = L.length := by
  have := congrArg List.length h
  rw [Array.length_toList] at this
  rw [this]
  unfold rowsK
  exact List.length_map ..
theorem rows_at {L : Ent κ} {es : Array (Int × Value)} (h : es.toList = rowsK HK L) {i : Nat} {p : Addr × κ} (hp : L[i]? = some p) : es[i]? = some (HK.hash p.2, .ref p.1) := by
  rw [← Array.getElem?_toList, h]
  unfold rowsK
  rw [List.getElem?_map, hp]
  rfl
theorem fits_of {L : Ent κ} {es : Array (Int × Value)} {t : SetTable} (h : es.toList = rowsK HK L) (hc : t.place.size = L.length) (hd : t.dummies = #[]) (hm : L.length ≤ t.mask) : t.fits es.size = true := by
  have e : t.fill = L.length := by
    show t.place.size + t.dummies.size = _
    rw [hc, hd]
    rfl
  unfold SetTable.fits
  rw [rows_size h, e, hc, Bool.and_eq_true]
  exact ⟨beq_self_eq_true _, decide_eq_true hm⟩
theorem SetB.cnt (R : SetB HK s.heap a L es ep t) : t.place.size = L.length := by
  rw [R.tab.cnt, List.length_map]
theorem SetB.fit (R : SetB HK s.heap a L es ep t) : t.fits es.size = true := by
  have := R.mb.room
  exact fits_of R.rows R.cnt R.tab.nod (by omega)
theorem SetB.noway (R : SetB HK s.heap a L es ep t) : ¬ t.gaveWay = true := by
  unfold SetTable.gaveWay
  rw [R.tab.msk.odd]
  decide
/-- the way on which a key is looked for -/
abbrev wayP (t : SetTable) (h : Int) (c : Nat) : SetTable.Probe := nth t.mask (runAt t.mask (SetTable.bits h % (t.mask + 1)) (SetTable.bits h)) c
theorem wayP_add (t : SetTable) (h : Int) (c q : Nat) : nth t.mask (wayP t h c) q = wayP t h (c + q) := (nth_add t.mask c _ q).symm
theorem wayP_dm (t : SetTable) (h : Int) : ∀ c, (wayP t h c).dummy = none
  | 0 => rfl
  | c + 1 => by
    show (nth t.mask _ (c + 1)).dummy = none
    rw [nth_succ]
    have ih := wayP_dm t h c
    unfold adv
    split
    · exact ih
    · exact ih
theorem look_from (R : SetB HK s.heap a L es ep t) {x : Addr} {k : κ} (hx : HK.is s.heap k x) {hk : Int} (hh : HK.hash k = hk) (hu : HK.room A) {K : Nat} (hKf : K < 10 * SetTable.turns t.mask)
    (hK : way t.mask hk K ∉ t.place.toList) (hb : ∀ c, c < K → way t.mask hk c ∈ t.place.toList) {Q : SetFound → Shared → Prop}
    (q1 : k ∈ L.map (·.2) → Q (.there none) s) (q2 : k ∉ L.map (·.2) → Q (.free (way t.mask hk K) false) s) :
    ∀ (f c : Nat) (st : Option SetTable.Probe), st.getD (t.probeStart hk) = wayP t hk c → c ≤ K → K < f + c →
      (∀ (i : Nat) p, L[i]? = some p → p.2 = k → ∃ d, c ≤ d ∧ d < K ∧ t.place.toList[i]? = some (way t.mask hk d)) →
      wpAny (model P w) A (setSearchFrom a (.ref x) hk true f st) Q E s
  | 0, c, st, _, hc, hf, _ => absurd hf (by omega)
  | f + 1, c, st, est, hc, hf, hre => by
    obtain ⟨o, ho, hex, hd⟩ := R.ob
    have hnum : ∀ (i : Nat) p, L[i]? = some p → (fun i => (es[i]?.map (·.1)).getD 0) i = HK.hash p.2 := fun i p hp => by
      show (es[i]?.map (·.1)).getD 0 = _
      rw [rows_at R.rows hp]
      rfl
    have wj : ∀ q, (nth t.mask (wayP t hk c) q).j = way t.mask hk (c + q) := fun q => congrArg SetTable.Probe.j (wayP_add t hk c q)
    have spec := go_spec t R.tab.up R.tab.nod (fun i => (es[i]?.map (·.1)).getD 0) hk (10 * SetTable.turns t.mask) (K - c) (wayP t hk c) (wayP_dm t hk c) (by omega)
      (fun q hq => by rw [wj]; exact hb _ (by omega)) (by rw [wj, Nat.add_sub_cancel' hc]; exact hK)
    rw [setSearchFrom_succ]
    refine wpAny_bind (wpAny_setState_of ho hd R.fit ?_)
    dsimp only
    refine wp_if_neg R.noway ?_
    rw [est]
    rcases spec with ⟨q, i, hq, hi, hhi, hno, hp⟩ | ⟨hno, hp⟩
    · have hp : t.probe (fun i => (es[i]?.map (·.1)).getD 0) hk (wayP t hk c) = _ := hp
      rw [hp]
      dsimp only
      rw [wj] at hi ⊢
      rw [wayP_add]
      have hiL : i < L.length := by
        have := (List.getElem?_eq_some_iff.mp hi).1
        rw [R.tab.len, List.length_map] at this
        exact this
      obtain ⟨p, hpi⟩ : ∃ p, L[i]? = some p := ⟨_, List.getElem?_eq_getElem hiL⟩
      have hpm := List.mem_of_getElem? hpi
      have hsl := slot_live R.tab.up hi
      have rest : wpAny (model P w) A (searchRest a (.ref x) hk true f es t (way t.mask hk (c + q)) i (wayP t hk (c + (q + 1)))) Q E s := by
        unfold searchRest
        rw [rows_at R.rows hpi]
        dsimp only
        refine wpAny_bind (wpAny_holding (HK.eqBool hu (R.tup p hpm) hx ?_))
        refine wpAny_bind (wpAny_setState_of ho hd R.fit ?_)
        dsimp only
        by_cases e : p.2 = k
        · refine wp_if_pos (by rw [Bool.true_and]; exact decide_eq_true e) (wpAny_pure (q1 ?_))
          exact e ▸ List.mem_map_of_mem hpm
        · have e' : decide (p.2 = k) = false := decide_eq_false e
          refine wp_if_neg (by rw [e']; decide) ?_
          rw [sameMem]
          dsimp only
          simp only [if_true, hsl, rows_at R.rows hpi]
          refine wpAny_bind (wpAny_isSame_ref_self (wpAny_bind (wpAny_pure ?_)))
          simp only [if_true]
          refine wp_if_neg (by rw [e']; decide) ?_
          refine look_from R hx hh hu hKf hK hb q1 q2 f (c + (q + 1)) _ rfl (by omega) (by omega) fun i0 p0 h0 hk0 => ?_
          obtain ⟨d, d1, d2, d3⟩ := hre i0 p0 h0 hk0
          refine ⟨d, Nat.lt_of_not_le fun z => ?_, d2, d3⟩
          have z : d ≤ c + q := z
          rcases Nat.lt_or_eq_of_le z with z | z
          · refine hno (d - c) i0 (by omega) (by rw [wj, Nat.add_sub_cancel' d1]; exact d3) ?_
            exact (hnum i0 p0 h0).trans ((congrArg (HK.hash) hk0).trans hh)
          · subst z
            have s0 := slot_live R.tab.up d3
            rw [hsl] at s0
            cases s0
            rw [hpi] at h0
            cases h0
            exact e hk0
      by_cases hl : t.led = true
      · exact wp_if_neg (by rw [hl]; decide) rest
      · refine wp_if_pos (by simpa using hl) (wpAny_bind (HK.seen hx (fun y hy => ?_) (wp_if_neg (by decide) rest)))
        obtain ⟨e, he, rfl⟩ := List.mem_map.mp hy
        have he : e ∈ es.toList := by
          have : e ∈ es ∧ e.1 = hk := by simpa using he
          simpa using this.1
        rw [R.rows] at he
        obtain ⟨p2, hp2, rfl⟩ := List.mem_map.mp he
        exact ⟨p2.2, p2.1, rfl, R.tup p2 hp2⟩
    · have hp : t.probe (fun i => (es[i]?.map (·.1)).getD 0) hk (wayP t hk c) = _ := hp
      rw [hp, wj, Nat.add_sub_cancel' hc]
      dsimp only
      refine wpAny_pure (q2 fun hm => ?_)
      obtain ⟨p0, h0, hk0⟩ := List.mem_map.mp hm
      obtain ⟨i0, hi0⟩ := List.mem_iff_getElem?.mp h0
      obtain ⟨d, d1, d2, d3⟩ := hre i0 p0 hi0 hk0
      refine hno (d - c) i0 (by omega) (by rw [wj, Nat.add_sub_cancel' d1]; exact d3) ?_
      exact (hnum i0 p0 hi0).trans ((congrArg (HK.hash) hk0).trans hh)
theorem look_at (R : SetB HK s.heap a L es ep t) {x : Addr} {k : κ} (hx : HK.is s.heap k x) (hu : HK.room A) {Q : SetFound → Shared → Prop}
    (q1 : k ∈ L.map (·.2) → Q (.there none) s)
    (q2 : ∀ K, k ∉ L.map (·.2) → way t.mask (HK.hash k) K ∉ t.place.toList → (∀ c, c < K → way t.mask (HK.hash k) c ∈ t.place.toList) → Q (.free (way t.mask (HK.hash k) K) false) s) :
    wpAny (model P w) A (setSearch a (.ref x) (HK.hash k) true) Q E s := by
  have hroom := R.mb.room
  have htop := R.tab.msk.top
  obtain ⟨K, hKf, hK, hb⟩ := R.tab.hole (by rw [List.length_map]; omega) (HK.hash k)
  have hf : 10 * SetTable.turns t.mask = 10 * (t.mask + 15) := rfl
  unfold setSearch
  refine look_from R hx rfl hu hKf hK hb q1 (fun hn => q2 K hn hK hb) 100000 0 none rfl (Nat.zero_le _) (by omega) fun i p hp hk => ?_
  have hi : (L.map fun p => HK.hash p.2)[i]? = some (HK.hash k) := by
    rw [List.getElem?_map, hp, ← hk]
    rfl
  have hil : i < t.place.toList.length := by
    rw [R.tab.len, List.length_map]
    exact (List.getElem?_eq_some_iff.mp hp).1
  obtain ⟨c, hc, e⟩ := R.tab.ahead hK hi (List.getElem?_eq_getElem hil)
  exact ⟨c, Nat.zero_le _, hc, by rw [e]; exact List.getElem?_eq_getElem hil⟩

/-- the table laid anew -/
theorem order_rowsK (L : Ent κ) (es : Array (Int × Value)) (order : Array Nat) (hr : es.toList = rowsK HK L) (hp : order.toList.Perm (List.range L.length)) :
    ∃ L2 : Ent κ, (order.filterMap (es[·]?)).toList = rowsK HK L2 ∧ L2.Perm L ∧ (L2.map fun p => HK.hash p.2) = order.toList.map fun i => (es.map (·.1)).getD i 0 := by
  have ent : ∀ i, es[i]? = (L[i]?).map (fun p : Addr × κ => (HK.hash p.2, Value.ref p.1)) := fun i => by
    rw [← Array.getElem?_toList, hr]
    unfold rowsK
    rw [List.getElem?_map]
  refine ⟨order.toList.filterMap fun i => L[i]?, ?_, ?_, ?_⟩
  · rw [Array.toList_filterMap]
    unfold rowsK
    rw [List.map_filterMap]
    congr 1
    funext i
    exact ent i
  · refine (hp.filterMap _).trans ?_
    have : ∀ l : Ent κ, (List.range l.length).filterMap (fun i => l[i]?) = l := fun l => by
      induction l with
      | nil => rfl
      | cons a l ih =>
        rw [List.length_cons, List.range_succ_eq_map, List.filterMap_cons]
        simp only [List.getElem?_cons_zero]
        rw [List.filterMap_map]
        congr 1
    rw [this]
  · have hb : ∀ i ∈ order.toList, i < L.length := fun i hi => List.mem_range.mp (hp.subset hi)
    generalize order.toList = o at hb
    induction o with
    | nil => rfl
    | cons i o ih =>
      have hi := hb i List.mem_cons_self
      rw [List.filterMap_cons, List.getElem?_eq_getElem hi]
      dsimp only
      rw [List.map_cons, List.map_cons, ih fun j hj => hb j (List.mem_cons_of_mem _ hj)]
      congr 1
      have := ent i
      rw [List.getElem?_eq_getElem hi] at this
      rw [Array.getD_eq_getD_getElem?, Array.getElem?_map, this]
      rfl
theorem anew_at {o : Obj} (ho : s.heap.get? a = some o) (hex : o.ExactSet) (hd : o.data = .set es ep t) (hr : es.toList = rowsK HK L) (hc : t.place.size = L.length) (hdm : t.dummies = #[]) (hm : L.length ≤ t.mask)
    (nd : (L.map (·.2)).Nodup) (tup : ∀ p ∈ L, HK.is s.heap p.2 p.1) (pl : t.plain = true) (ld : w.params.followText "set-order" = true ∨ t.led = true) (most : L.length ≤ 300) {wanted M : Nat}
    (hM : Mk M) (hw : SetTable.sizeAbove wanted = M + 1) (mb : MB M L.length) {Q : Unit → Shared → Prop}
    (hQ : ∀ h' L' es' ep' t', Heap.SameBut a s.heap h' → SetB HK h' a L' es' ep' t' → L'.Perm L → Q () { s with heap := h' }) : wpAny (model P w) A (setRelay a wanted) Q E s := by
  have hz := rows_size hr
  have top := hM.top
  have hn := mb.room
  obtain ⟨t', order, e, hp, T, em, el, epl⟩ := hM.relaid t (hs := es.map (·.1)) (wanted := wanted) hw (by rw [Array.size_map, hz]; omega)
  rw [Array.size_map, hz] at hp
  obtain ⟨L2, r1, r2, r3⟩ := order_rowsK (HK := HK) L es order hr hp
  have hz2 := rows_size r1
  have l2 := r2.length_eq
  rw [setRelay_eq]
  refine wpAny_bind (wpAny_setState_of ho hd (fits_of hr hc hdm hm) ?_)
  dsimp only
  refine wp_if_neg (by rw [sizeLine_eq, hw]; omega) ?_
  rw [e]
  dsimp only
  refine wpAny_bind (wp_if_neg (by rw [hz2, hz, l2]; simp) (wpAny_pure ?_))
  dsimp only
  refine wpAny_storeSet_of ho hd ?_ (by rw [hz2, l2, sizeLine_eq]; omega)
  have sb : Heap.SameBut a s.heap (s.heap.update a (Obj.putSet (order.filterMap (es[·]?)) t')) := Heap.SameBut.update ..
  refine hQ _ L2 _ (ep + 1) t' sb ⟨⟨_, store_at ho hd, ⟨hex.1, hex.2.1, hex.2.2⟩, rfl⟩, r1, r3 ▸ T, (r2.map (·.2)).nodup_iff.mpr nd, fun p hpm => HK.same (tup p (r2.mem_iff.mp hpm)) ho hd sb, epl.trans pl, by rw [el]; exact ld, by rw [l2, em]; exact mb, by rw [l2]; exact most⟩ r2
/-- one more thing -/
theorem add_one (R : SetB HK s.heap a L es ep t) {x : Addr} {k : κ} (hx : HK.is s.heap k x) (hu : HK.room A) (room : k ∉ L.map (·.2) → L.length + 1 ≤ 300) {Q : Bool → Shared → Prop}
    (hQ : ∀ b h' L' es' ep' t', Heap.SameBut a s.heap h' → SetB HK h' a L' es' ep' t' → (k ∈ L.map (·.2) → L' = L) → (k ∉ L.map (·.2) → L'.Perm ((x, k) :: L)) → Q b { s with heap := h' }) :
    wpAny (model P w) A (setAddHashed a (.ref x) (HK.hash k)) Q E s := by
  obtain ⟨o, ho, hex, hd⟩ := R.ob
  have hz := rows_size R.rows
  have hroom := R.mb.room
  unfold setAddHashed
  refine wpAny_holding ?_
  rw [show (100000 : Nat) = 99999 + 1 from rfl, setAddHashedIn_succ]
  refine wpAny_bind (wpAny_setState_of ho hd R.fit ?_)
  dsimp only
  refine wp_if_neg (by simp [byScan, Value.scannable]) ?_
  refine wpAny_bind (look_at R hx hu (fun hm => ?_) fun K hm hK hb => ?_)
  · dsimp only
    exact wpAny_pure (hQ false s.heap L es ep t (Heap.SameBut.refl a s.heap) R (fun _ => rfl) fun z => absurd hm z)
  · have room' := room hm
    dsimp only
    refine wpAny_bind (wpAny_setState_of ho hd R.fit ?_)
    dsimp only
    obtain ⟨j, ej⟩ : ∃ j, j = way t.mask (HK.hash k) K := ⟨_, rfl⟩
    obtain ⟨p, hp⟩ : ∃ p, p = SetTable.below t.place j := ⟨_, rfl⟩
    obtain ⟨g1, g2, g3⟩ := R.tab.more hK hb ej hp
    rw [← ej]
    have e1 : (t.put j).2 = p := hp.symm
    have e2 : (t.put j).1.plain = true := R.pl
    have e3 : (t.put j).1.mask = t.mask := rfl
    have e4 : w.params.followText "set-order" = true ∨ (t.put j).1.led = true := R.ld
    generalize t.put j = pt at g2 g3 e1 e2 e3 e4 ⊢
    obtain ⟨t1, p1⟩ := pt
    dsimp only at g2 g3 e1 e2 e3 e4 ⊢
    subst e1
    first
      | (refine wpAny_bind ?_; refine wp_if_pos e2 ?_; refine HK.hashBy hx ?_)
      | refine wp_if_pos e2 (wpAny_bind (HK.hashBy hx ?_))
    simp only [if_true]
    have rows1 : (SetTable.insertAt es p1 (HK.hash k, Value.ref x)).toList = rowsK HK (L.take p1 ++ (x, k) :: L.drop p1) := by
      rw [SetTable.toList_insertAt, R.rows]
      unfold rowsK
      rw [List.map_append, List.map_cons, List.map_take, List.map_drop]
    have pm := put_perm L p1 (x, k)
    have hh : (L.take p1 ++ (x, k) :: L.drop p1).map (fun q => HK.hash q.2) = (L.map fun q => HK.hash q.2).take p1 ++ HK.hash k :: (L.map fun q => HK.hash q.2).drop p1 := by
      rw [List.map_append, List.map_cons, List.map_take, List.map_drop]
    rw [← hh] at g2
    generalize SetTable.insertAt es p1 (HK.hash k, Value.ref x) = es1 at rows1 ⊢
    generalize L.take p1 ++ (x, k) :: L.drop p1 = L1 at pm g2 rows1
    have l1 : L1.length = L.length + 1 := pm.length_eq
    have z1 := rows_size rows1
    have nd1 : (L1.map (·.2)).Nodup := (pm.map (·.2)).nodup_iff.mpr (List.nodup_cons.mpr ⟨hm, R.nd⟩)
    refine wpAny_bind (wpAny_storeSet_of ho hd ?_ (by rw [z1, l1, sizeLine_eq]; omega))
    have sb : Heap.SameBut a s.heap (s.heap.update a (Obj.putSet es1 t1)) := Heap.SameBut.update ..
    have ho1 := store_at (es' := es1) (t' := t1) ho hd
    generalize s.heap.update a (Obj.putSet es1 t1) = h1 at sb ho1 ⊢
    have tup1 : ∀ q ∈ L1, HK.is h1 q.2 q.1 := fun q hq => by
      rcases List.mem_cons.mp (pm.mem_iff.mp hq) with e | hq
      · rw [e]; exact HK.same hx ho hd sb
      · exact HK.same (R.tup q hq) ho hd sb
    have c1 : t1.place.size = L1.length := by rw [g2.cnt, List.length_map]
    have f1 : t1.fill = L.length + 1 := by rw [g3, List.length_map]
    have wt : ∀ b : Bool, t1.tooFull = b → (b = true ↔ t.mask * 3 ≤ (L.length + 1) * 5) := fun b e => by
      subst e
      unfold SetTable.tooFull
      rw [decide_eq_true_eq, f1, e3]
    rcases R.mb.next room' with hb1 | ⟨M, hM1, hM2, hM3⟩
    · have hr1 := hb1.room
      have tf : t1.tooFull = false := by
        cases e : t1.tooFull with
        | false => rfl
        | true => exact absurd ((wt _ e).mp rfl) (by omega)
      first
        | refine wp_if_neg (by rw [tf]; decide) ?_
        | (refine wpAny_bind ?_; refine wp_if_neg (by rw [tf]; decide) ?_; refine wpAny_pure ?_)
      exact wpAny_pure (hQ true h1 L1 es1 (ep + 1) t1 sb ⟨⟨_, ho1, ⟨hex.1, hex.2.1, hex.2.2⟩, rfl⟩, rows1, g2, nd1, tup1, e2, e4, by rw [e3, l1]; exact hb1, by rw [l1]; exact room'⟩ (fun z => absurd z hm) fun _ => pm)
    · by_cases tf : t1.tooFull = true
      · have done : wpAny (model P w) A (setRelay a (SetTable.grown (es.size + 1))) (fun _ s' => wpAny (model P w) A (pure true) Q E s') E { s with heap := h1 } := by
          rw [hz]
          refine anew_at (s := { s with heap := h1 }) ho1 ⟨hex.1, hex.2.1, hex.2.2⟩ rfl rows1 c1 g2.nod (by rw [l1, e3]; omega) nd1 tup1 e2 e4 (by rw [l1]; exact room') hM2 hM1 (by rw [l1]; exact hM3) ?_
          intro h2 L2 es2 ep2 t2 sb2 R2 pm2
          exact wpAny_pure (hQ true h2 L2 es2 ep2 t2 (sb.trans sb2) R2 (fun z => absurd z hm) fun _ => pm2.trans pm)
        first
          | exact wpAny_bind (wp_if_pos (by rw [tf]; decide) done)
          | exact wp_if_pos (by rw [tf]; decide) (wpAny_bind done)
      · have hr1 := R.mb
        have hno : ¬ t.mask * 3 ≤ (L.length + 1) * 5 := fun z => tf ((wt _ rfl).mpr z)
        first
          | refine wp_if_neg (by rw [Bool.eq_false_iff.mpr tf]; decide) ?_
          | (refine wpAny_bind ?_; refine wp_if_neg (by rw [Bool.eq_false_iff.mpr tf]; decide) ?_; refine wpAny_pure ?_)
        refine wpAny_pure (hQ true h1 L1 es1 (ep + 1) t1 sb ⟨⟨_, ho1, ⟨hex.1, hex.2.1, hex.2.2⟩, rfl⟩, rows1, g2, nd1, tup1, e2, e4, ?_, by rw [l1]; exact room'⟩ (fun z => absurd z hm) fun _ => pm)
        rw [e3, l1]
        generalize t.mask = m at hno hr1
        cases hr1
        · exact .a (by omega)
        · exact .b (by omega)
        · exact .c (by omega)
        · exact .d (by omega)
end
end DLK

end

section
namespace DLK
open DL
open PySem PySem.Spec PyProof.Rows L2
/-- what is in the set once i things have been laid in -/
structure GotK {κ : Type} (ks : Ent κ) (i : Nat) (L : Ent κ) : Prop where
  sub : ∀ p ∈ L, p ∈ ks.take i
  all : ∀ p ∈ ks.take i, p.2 ∈ L.map (·.2)
theorem take_next {κ : Type} {ks : Ent κ} {i : Nat} {x : Addr × κ} (h : ks[i]? = some x) : ks.take (i + 1) = ks.take i ++ [x] := by
  rw [List.take_add_one, h]
  rfl
theorem GotK.zero {κ : Type} (ks : Ent κ) : GotK ks 0 [] := ⟨(fun _ h => nomatch h), (fun _ h => by simp at h)⟩
theorem GotK.same {κ : Type} {ks L : Ent κ} {i : Nat} {x : Addr × κ} (g : GotK ks i L) (h : ks[i]? = some x) (hm : x.2 ∈ L.map (·.2)) : GotK ks (i + 1) L := by
  refine ⟨fun p hp => ?_, fun p hp => ?_⟩
  · rw [take_next h]
    exact List.mem_append_left _ (g.sub p hp)
  · rw [take_next h] at hp
    rcases List.mem_append.mp hp with z | z
    · exact g.all p z
    · rw [List.mem_singleton.mp z]
      exact hm
theorem GotK.more {κ : Type} {ks L L' : Ent κ} {i : Nat} {x : Addr × κ} (g : GotK ks i L) (h : ks[i]? = some x) (pm : L'.Perm (x :: L)) : GotK ks (i + 1) L' := by
  refine ⟨fun p hp => ?_, fun p hp => ?_⟩
  · rw [take_next h]
    rcases List.mem_cons.mp (pm.mem_iff.mp hp) with z | z
    · rw [z]
      exact List.mem_append_right _ List.mem_cons_self
    · exact List.mem_append_left _ (g.sub p z)
  · rw [take_next h] at hp
    refine (pm.map (·.2)).mem_iff.mpr ?_
    rw [List.map_cons]
    rcases List.mem_append.mp hp with z | z
    · exact List.mem_cons_of_mem _ (g.all p z)
    · rw [List.mem_singleton.mp z]
      exact List.mem_cons_self
theorem vals_refsK {κ : Type} : ∀ L : Ent κ, Vals (L.map fun p => V.ref p.1) (L.map fun p => Value.ref p.1)
  | [] => .nil
  | p :: L => .cons (by first | rfl | constructor) (vals_refsK L)
/-- the things of a set of tuples -/
theorem setB_vs {P : Program} {w : World} {κ : Type} [DecidableEq κ] {HK : SK P w κ} {h : Heap} {a : Addr} {L : Ent κ} {es : Array (Int × Value)} {ep : Nat} {t : SetTable} (R : SetB HK h a L es ep t) : SetVs w h a (L.map fun p => V.ref p.1) := by
  obtain ⟨o, ho, hex, hd⟩ := R.ob
  have z := rows_size R.rows
  have m := R.most
  refine ⟨o, es, ep, t, ho, hex, hd, ?_, by show es.size < 4096; omega, SetB.fit (s := { heap := h }) R, R.tab.up, R.ld⟩
  rw [R.rows]
  unfold rowsK
  rw [List.map_map]
  exact vals_refsK L

section
variable {X : Cx} {κ : Type} [DecidableEq κ] (HK : SK X.prog X.w κ)
include HK
/-- tuples go in one by one -/
theorem fills_t {A : Around} {h0 : Heap} {S : Addr} {ks : Ent κ} (hk : ∀ p ∈ ks, HK.is h0 p.2 p.1) (hS : h0.get? S = none) (hA : HK.room A) (most : (dd (ks.map (·.2))).length ≤ 300) {items : Array Value} (hit : items.toList = ks.map fun p => Value.ref p.1) :
    Fills X.prog X.w A S h0 items.size (fun i v => items[i]? = some v) fun i h => ∃ L es ep t, SetB HK h S L es ep t ∧ GotK ks i L := by
  refine ⟨fun i h h' ⟨L, es, ep, t, R, g⟩ k1 k2 => ?_, fun i v s Q E lt hv ⟨L, es, ep, t, R, g⟩ kp q => ?_⟩
  · obtain ⟨o, ho, r⟩ := R.ob
    exact ⟨L, es, ep, t, ⟨⟨o, k1 o ho, r⟩, R.rows, R.tab, R.nd, fun p hp => HK.keepAt (hk p (List.mem_of_mem_take (g.sub p hp))) fun a o _ _ z _ => k2 a o z, R.pl, R.ld, R.mb, R.most⟩, g⟩
  · have hp : ∃ p, ks[i]? = some p ∧ v = .ref p.1 := by
      have e : items.toList[i]? = some v := by rw [Array.getElem?_toList]; exact hv
      rw [hit, List.getElem?_map] at e
      obtain ⟨p, h1, h2⟩ := Option.map_eq_some_iff.mp e
      exact ⟨p, h1, h2.symm⟩
    obtain ⟨p, hp, rfl⟩ := hp
    have hx : HK.is s.heap p.2 p.1 := HK.keepAt (hk p (List.mem_of_getElem? hp)) fun a o _ _ z _ => kp a o z
    unfold setAdd
    refine wpAny_holding (wpAny_bind (HK.pyHash hA hx ?_))
    refine add_one (s := { s with toks := s.toks + HK.draws p.2 }) R hx hA (fun hn => ?_) fun b h' L' es' ep' t' sb R' c1 c2 => ?_
    · have : ((L.map (·.2)) ++ [p.2]).length ≤ (dd (ks.map (·.2))).length := by
        refine dd_most ?_ fun r hr => ?_
        · rw [List.nodup_append]
          refine ⟨R.nd, by simp [List.Nodup], fun a ha b hb e => ?_⟩
          rw [List.mem_singleton.mp hb] at e
          exact hn (e ▸ ha)
        · rcases List.mem_append.mp hr with z | z
          · obtain ⟨q, hq, rfl⟩ := List.mem_map.mp z
            exact List.mem_map_of_mem (List.mem_of_mem_take (g.sub q hq))
          · rw [List.mem_singleton.mp z]
            exact List.mem_map_of_mem (List.mem_of_getElem? hp)
      simp at this
      omega
    · refine q b h' _ (Nat.le_add_right _ _) sb ⟨L', es', ep', t', R', ?_⟩
      rcases Classical.em (p.2 ∈ L.map (·.2)) with c | c
      · rw [c1 c]; exact g.same hp c
      · exact g.more hp (c2 c)
end
end DLK

end

section
namespace DLK
open DL
open PySem PySem.Spec PyProof.Rows L2

/-! ### keys without texts, of any depth to 8, in a set -/
mutual
def plainK : NestedKey → Bool
  | .none => true
  | .num _ => true
  | .text _ => false
  | .tup ks => plainAll ks
def plainAll : List NestedKey → Bool
  | [] => true
  | k :: ks => plainK k && plainAll ks
end
section
variable {P : Program} {w : World}
def HashBy (P : Program) (w : World) (n : Nat) (s : Shared) (v : Value) : Prop := ∀ (A : Around) (E : Value → Shared → Prop) (Q : Bool → Shared → Prop), Q true s → wpAny (model P w) A (hashByValue n v) Q E s
def OfNo (P : Program) (w : World) (n : Nat) (s : Shared) (v : Value) : Prop := ∀ (A : Around) (E : Value → Shared → Prop) (Q : Bool → Shared → Prop), Q false s → wpAny (model P w) A (ofAClassStatement n v) Q E s
theorem HashBy.tuple {n : Nat} {s : Shared} {a : Addr} {o : Obj} {vs : Array Value} {m : Nat} (ho : s.heap.get? a = some o) (hc : o.cls = .type "tuple") (hd : o.data = .seq vs m) (hq : ∀ v ∈ vs.toList, HashBy P w n s v) : HashBy P w (n + 1) s (.ref a) := fun A E Q h => by
  have hT : s.TypeIs (.ref a) "tuple" := ⟨o, ho, hc⟩
  unfold hashByValue
  refine wpAny_bind (wpAny_specialOf hT F.slot_tuple_hash.lookup ?_)
  show wpAny _ _ (seqItems? (.ref a) >>= _) _ _ s
  refine wpAny_bind (wpAny_seqItems ho hd ?_)
  refine wpAny_bind ?_
  show wpAny _ _ (forIn vs _ _) _ _ s
  rw [← Array.forIn_toList]
  refine wpAny_forIn_list _ (fun rest r s' => r.1 = none ∧ s' = s ∧ ∀ v ∈ rest, HashBy P w n s v) _ ?_ ?_ _ _ ⟨rfl, rfl, hq⟩
  · rintro v rest r s' ⟨hr, rfl, hall⟩
    refine wpAny_bind (hall v List.mem_cons_self _ _ _ ?_)
    simp only [Bool.not_true, Bool.false_eq_true, if_false]
    exact wpAny_pure ⟨rfl, rfl, fun u hu' => hall u (List.mem_cons_of_mem _ hu')⟩
  · rintro ⟨r1, r2⟩ s' ⟨hr, rfl, _⟩
    simp only at hr
    subst hr
    exact wpAny_pure h
theorem OfNo.tuple {n : Nat} {s : Shared} {a : Addr} {o : Obj} {vs : Array Value} {m : Nat} (ho : s.heap.get? a = some o) (hc : o.cls = .type "tuple") (hd : o.data = .seq vs m) (hq : ∀ v ∈ vs.toList, OfNo P w n s v) : OfNo P w (n + 1) s (.ref a) := fun A E Q h => by
  have hT : s.TypeIs (.ref a) "tuple" := ⟨o, ho, hc⟩
  unfold ofAClassStatement
  refine wpAny_bind (wpAny_typeOf hT ?_)
  dsimp only
  have e : (("tuple" : String) == "tuple") = true := by decide
  simp only [e, if_true, Bool.not_true, Bool.false_eq_true, if_false]
  try refine wpAny_bind (wpAny_pure ?_)
  try simp only [Bool.not_true, Bool.false_eq_true, if_false]
  show wpAny _ _ (seqItems? (.ref a) >>= _) _ _ s
  refine wpAny_bind (wpAny_seqItems ho hd ?_)
  dsimp only
  refine wpAny_bind ?_
  show wpAny _ _ (forIn vs _ _) _ _ s
  rw [← Array.forIn_toList]
  refine wpAny_forIn_list _ (fun rest r s' => r.1 = none ∧ s' = s ∧ ∀ v ∈ rest, OfNo P w n s v) _ ?_ ?_ _ _ ⟨rfl, rfl, hq⟩
  · rintro v rest r s' ⟨hr, rfl, hall⟩
    refine wpAny_bind (hall v List.mem_cons_self _ _ _ ?_)
    simp only [Bool.false_eq_true, if_false]
    exact wpAny_pure ⟨rfl, rfl, fun u hu' => hall u (List.mem_cons_of_mem _ hu')⟩
  · rintro ⟨r1, r2⟩ s' ⟨hr, rfl, _⟩
    simp only at hr
    subst hr
    exact wpAny_pure h
mutual
theorem hashBy_key : ∀ (k : NestedKey) (v : Value) (n : Nat) (s : Shared), NestedIs s.heap k v → k.depth ≤ n → plainK k = true → HashBy P w n s v
  | .none, _, n, s, x, _, _ => by
    cases x
    intro A E Q h
    have e : hashByValue n .none = pure true := by cases n <;> rfl
    rw [e]
    exact wpAny_pure h
  | .num i, _, n, s, x, _, _ => by
    cases x with
    | bool e =>
      rename_i b
      intro A E Q h
      have e : hashByValue n (.bool b) = pure true := by cases n <;> rfl
      rw [e]
      exact wpAny_pure h
    | int _ t =>
      intro A E Q h
      rw [hashBy_int]
      exact wpAny_pure h
  | .text y, _, n, s, x, _, hp => by simp [plainK] at hp
  | .tup ks, _, n, s, x, hn, hp => by
    cases x with
    | tup hg hc hd hk =>
      simp only [NestedKey.depth] at hn
      cases n with
      | zero => omega
      | succ n => exact .tuple hg hc hd (hashBy_keys ks _ n s hk (by omega) (by simpa [plainK] using hp))
theorem hashBy_keys : ∀ (ks : List NestedKey) (vs : List Value) (n : Nat) (s : Shared), NestedAll s.heap ks vs → NestedKey.depthAll ks ≤ n → plainAll ks = true → ∀ v ∈ vs, HashBy P w n s v
  | [], _, n, s, x, _, _, v, hv => by cases x; cases hv
  | k :: ks, _, n, s, x, hn, hp, v, hv => by
    cases x with
    | cons x1 x2 =>
      simp only [NestedKey.depthAll] at hn
      simp only [plainAll, Bool.and_eq_true] at hp
      rcases List.mem_cons.mp hv with e | hv
      · rw [e]; exact hashBy_key k _ n s x1 (by omega) hp.1
      · exact hashBy_keys ks _ n s x2 (by omega) hp.2 v hv
end
theorem OfNo.flat {n : Nat} {s : Shared} {v : Value} (h : ofAClassStatement n v = pure false) : OfNo P w n s v := fun A E Q q => by
  rw [h]
  exact wpAny_pure q
mutual
theorem ofNo_key : ∀ (k : NestedKey) (v : Value) (n : Nat) (s : Shared), NestedIs s.heap k v → k.depth ≤ n → OfNo P w n s v
  | .none, _, n, s, x, _ => by
    cases x
    exact .flat (by cases n <;> rfl)
  | .num i, _, n, s, x, _ => by
    cases x with
    | bool e => exact .flat (by cases n <;> rfl)
    | int _ t => exact .flat (by cases n <;> rfl)
  | .text y, _, n, s, x, _ => by
    cases x
    exact .flat (by cases n <;> rfl)
  | .tup ks, _, n, s, x, hn => by
    cases x with
    | tup hg hc hd hk =>
      simp only [NestedKey.depth] at hn
      cases n with
      | zero => omega
      | succ n => exact .tuple hg hc hd (ofNo_keys ks _ n s hk (by omega))
theorem ofNo_keys : ∀ (ks : List NestedKey) (vs : List Value) (n : Nat) (s : Shared), NestedAll s.heap ks vs → NestedKey.depthAll ks ≤ n → ∀ v ∈ vs, OfNo P w n s v
  | [], _, n, s, x, _, v, hv => by cases x; cases hv
  | k :: ks, _, n, s, x, hn, v, hv => by
    cases x with
    | cons x1 x2 =>
      simp only [NestedKey.depthAll] at hn
      rcases List.mem_cons.mp hv with e | hv
      · rw [e]; exact ofNo_key k _ n s x1 (by omega)
      · exact ofNo_keys ks _ n s x2 (by omega) v hv
end
/-- keys of a set: tuples of any depth to 8, without texts -/
def nk (P : Program) (w : World) : SK P w NestedKey where
  is := fun h k a => (nestedKind P w).is h k a ∧ plainK k = true
  hash := (nestedKind P w).hash
  draws := (nestedKind P w).draws
  room := (nestedKind P w).room
  inj := fun hx hy => (nestedKind P w).inj hx.1 hy.1
  keeps := fun a b c d => ⟨(nestedKind P w).keeps a.1 b c d, a.2⟩
  pyHash := fun hu hk h => (nestedKind P w).pyHash hu hk.1 h
  eqBool := fun hu hx hy h => (nestedKind P w).eqBool hu hx.1 hy.1 h
  quiet := fun hk h => (nestedKind P w).quiet hk.1 h
  hashBy := fun {A E s k b Q} hk h => hashBy_key k _ 8 s hk.1.1 hk.1.2 hk.2 A E Q h
  keepAt := fun hk h => ⟨⟨NestedIs.at h _ _ hk.1.1, hk.1.2⟩, hk.2⟩
  seen := fun {A E s k b Q} hk ys hy h => by
    unfold searchCouldBeSeen
    refine wpAny_bind ?_
    refine wpAny_forIn_list _ (fun rest r s' => r.1 = none ∧ s' = s ∧ ∀ y ∈ rest, ∃ k' c, y = Value.ref c ∧ ((nestedKind P w).is s.heap k' c ∧ plainK k' = true)) _ ?_ ?_ _ _ ⟨rfl, rfl, hy⟩
    · rintro v rest r s' ⟨hr, rfl, hall⟩
      obtain ⟨k', c, rfl, hc⟩ := hall v List.mem_cons_self
      have rest' : ∀ y ∈ rest, ∃ k' c, y = Value.ref c ∧ ((nestedKind P w).is s'.heap k' c ∧ plainK k' = true) := fun u hu' => hall u (List.mem_cons_of_mem _ hu')
      dsimp only
      by_cases hv : (b == c || (carriedByValue (.ref b) && carriedByValue (.ref c))) = true
      · refine wp_if_pos hv ?_
        exact wpAny_pure ⟨rfl, rfl, rest'⟩
      · refine wp_if_neg hv ?_
        refine wpAny_bind ((nestedKind P w).quiet hk.1 ?_)
        simp only [Bool.not_true, Bool.false_eq_true, if_false]
        refine wpAny_bind ((nestedKind P w).quiet hc.1 ?_)
        simp only [Bool.not_true, Bool.false_eq_true, if_false]
        refine wpAny_bind (ofNo_key k _ 8 _ hk.1.1 hk.1.2 _ _ _ ?_)
        simp only [Bool.false_eq_true, if_false]
        refine wpAny_bind (ofNo_key k' _ 8 _ hc.1.1 hc.1.2 _ _ _ ?_)
        simp only [Bool.false_eq_true, if_false]
        exact wpAny_pure ⟨rfl, rfl, rest'⟩
    · rintro ⟨r1, r2⟩ s' ⟨hr, rfl, _⟩
      simp only at hr
      subst hr
      exact wpAny_pure h
end
end DLK

end

section
namespace DLK
open DL
open PySem PySem.Spec PyProof.Rows L2

/-! ### tuples of tuples of ints, as keys of a set -/
def tkey (t : List Int) : NestedKey := .tup (t.map .num)
def lkey (r : List (List Int)) : NestedKey := .tup (r.map tkey)
theorem num_inj : ∀ {a b : List Int}, a.map NestedKey.num = b.map NestedKey.num → a = b
  | [], [], _ => rfl
  | [], _ :: _, h => by cases h
  | _ :: _, [], h => by cases h
  | a :: as, b :: bs, h => by
    rw [List.map_cons, List.map_cons] at h
    obtain ⟨h1, h2⟩ := List.cons.inj h
    cases h1
    rw [num_inj h2]
theorem tkey_inj {a b : List Int} (h : tkey a = tkey b) : a = b := by
  unfold tkey at h
  injection h with h
  exact num_inj h
theorem tkeys_inj : ∀ {a b : List (List Int)}, a.map tkey = b.map tkey → a = b
  | [], [], _ => rfl
  | [], _ :: _, h => by cases h
  | _ :: _, [], h => by cases h
  | a :: as, b :: bs, h => by
    rw [List.map_cons, List.map_cons] at h
    obtain ⟨h1, h2⟩ := List.cons.inj h
    rw [tkey_inj h1, tkeys_inj h2]
theorem lkey_inj {a b : List (List Int)} (h : lkey a = lkey b) : a = b := by
  unfold lkey at h
  injection h with h
  exact tkeys_inj h
theorem nums_depth : ∀ t : List Int, NestedKey.depthAll (t.map .num) = 0
  | [] => rfl
  | i :: t => by
    rw [List.map_cons, NestedKey.depthAll, nums_depth t]
    rfl
theorem tkeys_depth : ∀ r : List (List Int), NestedKey.depthAll (r.map tkey) ≤ 1
  | [] => by
    rw [List.map_nil, NestedKey.depthAll]
    omega
  | t :: r => by
    have := tkeys_depth r
    have e : (tkey t).depth = 1 := by
      unfold tkey
      rw [NestedKey.depth, nums_depth]
    rw [List.map_cons, NestedKey.depthAll, e]
    omega
theorem lkey_depth (r : List (List Int)) : (lkey r).depth ≤ 8 := by
  have := tkeys_depth r
  unfold lkey
  rw [NestedKey.depth]
  omega
theorem nums_plain : ∀ t : List Int, plainAll (t.map .num) = true
  | [] => rfl
  | i :: t => by
    rw [List.map_cons, plainAll, nums_plain t]
    rfl
theorem tkeys_plain : ∀ r : List (List Int), plainAll (r.map tkey) = true
  | [] => rfl
  | t :: r => by
    have e : plainK (tkey t) = true := by
      unfold tkey
      rw [plainK]
      exact nums_plain t
    rw [List.map_cons, plainAll, e, tkeys_plain r]
    rfl
theorem lkey_plain (r : List (List Int)) : plainK (lkey r) = true := by
  unfold lkey
  rw [plainK]
  exact tkeys_plain r
/-- a kind pulled back -/
def SK.pull {P : Program} {w : World} {κ ι : Type} [DecidableEq κ] [DecidableEq ι] (S : SK P w κ) (f : ι → κ) (hf : ∀ {a b}, f a = f b → a = b) : SK P w ι where
  is := fun h k a => S.is h (f k) a
  hash := fun k => S.hash (f k)
  draws := fun k => S.draws (f k)
  room := S.room
  inj := fun hx hy => hf (S.inj hx hy)
  keeps := fun a b c d => S.keeps a b c d
  pyHash := fun hu hk h => S.pyHash hu hk h
  eqBool := fun {A E s x y a b Q} hu hx hy h => S.eqBool hu hx hy (by
    have e : decide (f x = f y) = decide (x = y) := decide_eq_decide.mpr ⟨hf, fun e => by rw [e]⟩
    rw [e]
    exact h)
  quiet := fun hk h => S.quiet hk h
  hashBy := fun hk h => S.hashBy hk h
  keepAt := fun hk h => S.keepAt hk h
  seen := fun hk ys hy h => S.seen hk (fun y m => let ⟨k', c, e, z⟩ := hy y m; ⟨f k', c, e, z⟩) h
def lk (P : Program) (w : World) : SK P w (List (List Int)) := (nk P w).pull lkey lkey_inj
theorem nums_vals {h : Heap} : ∀ {t : List Int} {its : List Value}, Vals (t.map V.int) its → NestedAll h (t.map .num) its
  | [], _, r => by
    cases r
    exact .nil
  | i :: t, _, r => by
    cases r with
    | cons r1 r2 =>
      refine .cons ?_ (nums_vals r2)
      obtain ⟨tk, rfl⟩ := r1
      exact .int _ _
abbrev Lot' := List (List Int)
/-- what a lot's things are -/
def LotAt (K : PySem.W.Frag) (M : AS) (H : Hp) (a : Addr) (r : Lot') : Prop := ∃ xs, SqF K H a xs ∧ RDs K M H xs (r.map tupD)
section
variable {X : Cx}
theorem tups_vals {pins : List (Addr × Obj)} {σ : L2.St} {H : Hp} {s : Shared} (I : Inv X pins σ H s) : ∀ {ks : List (Addr × List Int)} {its : List Value}, (∀ p ∈ ks, SqF X.K H p.1 (p.2.map V.int)) → Vals (ks.map fun p => V.ref p.1) its → NestedAll s.heap ((ks.map (·.2)).map tkey) its
  | [], _, _, r => by
    cases r
    exact .nil
  | p :: ks, _, hk, r => by
    cases r with
    | cons r1 r2 =>
      refine .cons ?_ (tups_vals I (fun q hq => hk q (List.mem_cons_of_mem _ hq)) r2)
      cases r1
      obtain ⟨its, rv, ⟨o, ho, hc, n, hd⟩, _⟩ := I.tuple (hk p List.mem_cons_self).sqT
      exact .tup ho hc hd (by simpa using nums_vals rv)
theorem isL_of {pins : List (Addr × Obj)} {σ : L2.St} {H : Hp} {s : Shared} {M : AS} (I : Inv X pins σ H s) {a : Addr} {r : Lot'} (h : LotAt X.K M H a r) : (lk X.prog X.w).is s.heap r a := by
  obtain ⟨xs, h1, h2⟩ := h
  obtain ⟨ks, rfl, rfl, hf⟩ := h2.tupsOf
  obtain ⟨its, rv, ⟨o, ho, hc, n, hd⟩, _⟩ := I.tuple h1.sqT
  refine ⟨⟨?_, lkey_depth _⟩, lkey_plain _⟩
  exact .tup ho hc hd (by simpa using tups_vals I hf rv)
end
theorem lotsOf {K : PySem.W.Frag} {M : AS} {H : Hp} : ∀ {rs : List Lot'} {vs : List V}, RDs K M H vs (rs.map lotD) → ∃ ks : Ent Lot', vs = ks.map (fun p => V.ref p.1) ∧ rs = ks.map (·.2) ∧ ∀ p ∈ ks, LotAt K M H p.1 p.2
  | [], _, h => by cases h; exact ⟨[], rfl, rfl, fun _ z => nomatch z⟩
  | r :: rs, _, h => by
    cases h with
    | cons h1 h2 =>
      obtain ⟨ks, rfl, rfl, h3⟩ := lotsOf h2
      unfold lotD at h1
      cases h1 with
      | @tup a xs _ h4 h5 =>
        refine ⟨(a, r) :: ks, rfl, rfl, fun p hp => ?_⟩
        rcases List.mem_cons.mp hp with rfl | hp
        · exact ⟨xs, h4, h5⟩
        · exact h3 p hp
theorem rds_lots {K : PySem.W.Frag} {M : AS} {H : Hp} : ∀ {L : Ent Lot'}, (∀ p ∈ L, LotAt K M H p.1 p.2) → RDs K M H (L.map fun p => V.ref p.1) (L.map fun p => lotD p.2)
  | [], _ => .nil
  | p :: L, h => .cons (let ⟨_, h1, h2⟩ := h p List.mem_cons_self; .tup h1 h2) (rds_lots fun q hq => h q (List.mem_cons_of_mem _ hq))
theorem eqv_lots : ∀ a b : Lot', PyData.eqvAll (a.map tupD) (b.map tupD) = decide (a = b)
  | [], [] => by simp [PyData.eqvAll]
  | [], _ :: _ => by simp [PyData.eqvAll]
  | _ :: _, [] => by simp [PyData.eqvAll]
  | x :: xs, y :: ys => by
    rw [List.map_cons, List.map_cons, PyData.eqvAll, eqv_tupD, eqv_lots xs ys]
    by_cases h : x = y <;> simp [h]
theorem eqv_lotD (a b : Lot') : PyData.eqv (lotD a) (lotD b) = decide (a = b) := by
  unfold lotD
  rw [PyData.eqv]
  exact eqv_lots a b
theorem refs_of_valsK {κ : Type} : ∀ {ks : Ent κ} {us : List Value}, Vals (ks.map fun p => V.ref p.1) us → us = ks.map fun p => Value.ref p.1
  | [], _, .nil => rfl
  | p :: ks, _, .cons r t => by
    cases r
    rw [refs_of_valsK t] <;> rfl
theorem lt_tupD (a b : List Int) : PySem.W.dataLt (tupD a) (tupD b) = decide (a < b) := by
  unfold tupD
  rw [PySem.W.dataLt_tuple]
  exact PySem.W.dataLt_ints a b
theorem alike_tupD (x y : List Int) : PySem.W.alike (tupD x) (tupD y) = true := by
  unfold tupD
  rw [PySem.W.alike]
  exact PySem.W.alike_ints x y
theorem alike_lots : ∀ (a b : Lot'), PySem.W.alikeAll (a.map tupD) (b.map tupD) = true
  | [], _ => by simp [PySem.W.alikeAll]
  | _ :: _, [] => by simp [PySem.W.alikeAll]
  | x :: xs, y :: ys => by
    rw [List.map_cons, List.map_cons, PySem.W.alikeAll, alike_lots xs ys, alike_tupD]
    rfl
theorem rowLt_lot : ∀ a b : Lot', PySem.W.rowLt (a.map tupD) (b.map tupD) = decide (a < b)
  | [], [] => by
    have e : PySem.W.rowLt [] [] = false := PyProof.Rows.lex_irrefl _
    simp [e]
  | [], y :: ys => by
    have e : PySem.W.rowLt [] (tupD y :: ys.map tupD) = true := by
      unfold PySem.W.rowLt
      rw [PySem.W.toks_all_cons]
      simp only [PySem.W.keyToksAll]
      rw [lex_diff (O := PyProof.Rows.itemOrd) (by simp)]
      rfl
    simpa using e
  | x :: xs, [] => by
    have e : PySem.W.rowLt (tupD x :: xs.map tupD) [] = false := by
      unfold PySem.W.rowLt
      rw [PySem.W.toks_all_cons]
      simp only [PySem.W.keyToksAll]
      rw [lex_diff (O := PyProof.Rows.itemOrd) (by simp)]
      rfl
    simpa using e
  | x :: xs, y :: ys => by
    have e : PySem.W.rowLt (tupD x :: xs.map tupD) (tupD y :: ys.map tupD) = if x = y then PySem.W.rowLt (xs.map tupD) (ys.map tupD) else decide (x < y) := by
      unfold PySem.W.rowLt
      rw [PySem.W.dataLt_cons (alike_tupD x y), lt_tupD, eqv_tupD]
      simp
    show PySem.W.rowLt (tupD x :: xs.map tupD) (tupD y :: ys.map tupD) = _
    rw [e]
    by_cases h : x = y
    · rw [if_pos h, rowLt_lot xs ys]
      simp [h, List.cons_lt_cons_iff]
    · rw [if_neg h]
      simp [h, List.cons_lt_cons_iff]
theorem le_lot (a b : Lot') : PySem.W.dataLe false id (lotD a) (lotD b) = true ↔ a ≤ b := by
  rw [PySem.W.dataLe_eq]
  have e : PySem.W.dataLt (lotD b) (lotD a) = decide (b < a) := by
    unfold lotD
    rw [PySem.W.dataLt_tuple]
    exact rowLt_lot b a
  show (!PySem.W.dataLt (lotD b) (lotD a)) = true ↔ _
  rw [e, Bool.not_eq_true', decide_eq_false_iff_not]
  exact List.not_lt
end DLK
namespace DL
open PySem PySem.Spec PyProof.Rows L2
theorem sortD_lots {l m : List (List (List Int))} (h : l.Perm m) : sortD (l.map lotD) = sortD (m.map lotD) :=
  sortD_perm lotD (· ≤ ·) DLK.le_lot (fun _ _ _ => List.le_trans) List.le_total (fun _ _ => List.le_antisymm) h
theorem depth_tups : ∀ r : List (List Int), PyData.depthAll (r.map tupD) ≤ 1
  | [] => by simp [PyData.depthAll]
  | t :: r => by
    have := depth_tups r
    have e : (tupD t).depth ≤ 1 := by
      unfold tupD
      rw [PyData.depth, PySem.W.depth_ints]
      omega
    rw [List.map_cons, PyData.depthAll]
    omega
theorem sortOk_l {rs : List (List (List Int))} (h : 2 ≤ rs.length → ∀ r ∈ rs, r ≠ []) : SortOk (rs.map lotD) := by
  refine ⟨fun d hd => ?_, fun h2 => ⟨fun d hd e he => ?_, .inl fun d hd => ?_⟩⟩
  · obtain ⟨r, _, rfl⟩ := List.mem_map.mp hd
    have := depth_tups r
    unfold lotD
    rw [PyData.depth]
    omega
  · obtain ⟨r, _, rfl⟩ := List.mem_map.mp hd
    obtain ⟨r', _, rfl⟩ := List.mem_map.mp he
    unfold lotD
    rw [PySem.W.alike]
    exact DLK.alike_lots r r'
  · obtain ⟨r, hr, rfl⟩ := List.mem_map.mp hd
    have := h (by rw [List.length_map] at h2; exact h2) r hr
    cases r with
    | nil => exact absurd rfl this
    | cons x r => exact ⟨_, _, rfl⟩
end DL

end

section
namespace DL
open PySem PySem.Spec PyProof.Rows L2

theorem perm_of_map {α β : Type} {f : α → β} {l : List α} {fs : List β} (h : fs.Perm (l.map f)) : ∃ m : List α, fs = m.map f ∧ m.Perm l := by
  generalize e : l.map f = ys at h
  induction h generalizing l with
  | nil =>
    have : l = [] := List.map_eq_nil_iff.mp e
    exact ⟨[], rfl, by rw [this]⟩
  | cons x p ih =>
    cases l with
    | nil => cases e
    | cons a l =>
      obtain ⟨rfl, e2⟩ := List.cons.inj e
      obtain ⟨m, rfl, hm⟩ := ih e2
      exact ⟨a :: m, rfl, hm.cons a⟩
  | swap x y p =>
    match l, e with
    | a :: b :: l, e =>
      obtain ⟨rfl, e2⟩ := List.cons.inj e
      obtain ⟨rfl, rfl⟩ := List.cons.inj e2
      exact ⟨b :: a :: l, rfl, List.Perm.swap a b l⟩
  | trans p q ih1 ih2 =>
    obtain ⟨m, rfl, hm⟩ := ih2 e
    obtain ⟨m2, rfl, hm2⟩ := ih1 rfl
    exact ⟨m2, rfl, hm2.trans hm⟩
/-- what the things stand for goes with them -/
theorem follow_perm {α β : Type} {R : α → β → Prop} {us vs : List α} (h : vs.Perm us) : ∀ {es : List β}, PySem.W.EachIs R us es → ∃ ds, ds.Perm es ∧ PySem.W.EachIs R vs ds := by
  induction h with
  | nil => intro es e; exact ⟨es, List.Perm.refl _, e⟩
  | cons x p ih =>
    intro es e
    cases e with
    | cons h1 h2 =>
      obtain ⟨ds, pd, e2⟩ := ih h2
      exact ⟨_ :: ds, pd.cons _, .cons h1 e2⟩
  | swap x y p =>
    intro es e
    cases e with
    | cons h1 h2 =>
      cases h2 with
      | cons h3 h4 => exact ⟨_ :: _ :: _, List.Perm.swap .., .cons h3 (.cons h1 h4)⟩
  | trans p q ih1 ih2 =>
    intro es e
    obtain ⟨ds, pd, e2⟩ := ih2 e
    obtain ⟨ds2, pd2, e3⟩ := ih1 e2
    exact ⟨ds2, pd2.trans pd, e3⟩
theorem reads_i {h : Heap} : ∀ {ns : List Int} {vs : List Value} {as : List Addr}, ReadsAll h vs (ns.map .int) as → as = []
  | [], _, _, r => by cases r; rfl
  | n :: ns, _, _, r => by
    cases r with
    | cons h1 h2 =>
      cases h1
      rw [reads_i h2]
      rfl
theorem reads_ts {h : Heap} : ∀ {rs : List (List Int)} {vs : List Value} {as : List Addr}, ReadsAll h vs (rs.map tupD) as → as = []
  | [], _, _, r => by cases r; rfl
  | n :: ns, _, _, r => by
    cases r with
    | cons h1 h2 =>
      unfold tupD at h1
      cases h1 with
      | tuple q1 q2 q3 q4 =>
        rw [reads_i q4, reads_ts h2]
        rfl
theorem reads_flat {h : Heap} {d : D} {v : Value} {as : List Addr} (f : FlatD d) (r : Reads h v d as) : as = [] := by
  rcases f with ⟨i, rfl⟩ | ⟨ns, rfl⟩ | ⟨rs, rfl⟩
  · cases r
    rfl
  · unfold tupD at r
    cases r with
    | tuple h1 h2 h3 h4 => exact reads_i h4
  · unfold lotD at r
    cases r with
    | tuple h1 h2 h3 h4 => exact reads_ts h4
theorem setR_vs {w : World} {h : Heap} {a : Addr} {S : Int → Bool} {n : Nat} (R : SetR w h a S n) : ∃ ks : List Int, ks.Nodup ∧ (∀ k, k ∈ ks ↔ S k = true) ∧ SetVs w h a (ks.map V.int) := by
  obtain ⟨o, es, ep, t, ho, hex, hd, g, nd, hm, hb, hf, hn, hr, hl⟩ := R
  refine ⟨es.toList.map keyOf, nd, fun k => (hm k).symm, o, es, ep, t, ho, hex, hd, ?_, hb, hf, hr, hl⟩
  clear nd hm hn hf hd hb
  generalize es.toList = l at g
  induction l with
  | nil => exact .nil
  | cons e l ih =>
    obtain ⟨k, tk, h1, h2⟩ := g e List.mem_cons_self
    refine .cons ?_ (ih fun x hx => g x (List.mem_cons_of_mem _ hx))
    show RelV _ e.2
    rw [h1]
    refine ⟨tk, ?_⟩
    show Value.int k tk = Value.int (keyOf e) tk
    unfold keyOf
    rw [h1]
section
variable {X : Cx} (hu : X.A.units + 200 < cLine) (hc : X.calm = true)
include hu hc
theorem c_setV : CallR X (.type "set") (rSetV X.K X.w) := by
  rintro pins s σ H xs us Q I r ⟨x, M, d, ds, rfl, mx, hx, hi, ⟨hk, hz⟩, q⟩
  obtain ⟨a, vs, kind, rfl, ra⟩ : ∃ a vs, (SqL X.K H a vs ∨ SqF X.K H a vs) ∧ x = .ref a ∧ RDs X.K M H vs ds := by
    cases d <;> first | cases hi | skip
    · obtain ⟨a, xs, rfl, ha, ra⟩ := hx.list
      exact ⟨a, xs, .inl (SqL.of ha), rfl, ra⟩
    · obtain ⟨a, xs, rfl, ha, ra⟩ := hx.tupF
      exact ⟨a, xs, .inr ha, rfl, ra⟩
  obtain ⟨u, rfl, rx⟩ := vals1 r
  cases rx
  have hn : H s.heap.objs.size = none := I.hok.fresh (Nat.le_refl _)
  have h0 : s.heap.get? s.heap.objs.size = none := by
    cases e : s.heap.get? s.heap.objs.size with
    | none => rfl
    | some o => exact absurd (Heap.lt_size e) (Nat.lt_irrefl _)
  have put : ∀ (h' : Heap) (tk : Nat) (ys : List V) (es : List D), SetVs X.w h' s.heap.objs.size ys → RDs X.K M H ys es → es.length = (dedup ds).length → (∀ e ∈ es, FlatD e) → SortOk es → (∀ fs, fs.Perm es → sortD fs = sortD (dedup ds)) → (∀ b o, s.heap.get? b = some o → h'.get? b = some o) →
      EP X pins σ Q (.ref s.heap.objs.size) { s with heap := h', toks := tk } := fun h' tk ys es R e1 e2 e5 e3 e4 k =>
    ⟨.ref _, upd H s.heap.objs.size (SetVO X.w s.heap.objs.size ys), I.laid (t' := tk) k (Nat.le_refl _) (setVO_new R), rfl, q _ ys es hn e1 e2 e5 e3 e4⟩
  have room : ∀ A' : Around, A'.units ≤ X.A.units + 3 → A'.units < cLine := fun A' h => by omega
  have room8 : ∀ A' : Around, A'.units ≤ X.A.units + 3 → A'.units + 8 < cLine := fun A' h => by omega
  have its : ∃ items : Array Value, Vals vs items.toList ∧ (s.heap.IsList a items ∨ s.heap.IsTuple a items) := by
    rcases kind with kind | kind
    · obtain ⟨its, rv, pl, hl⟩ := I.list kind
      exact ⟨its.toArray, by simpa using rv, .inl pl.isList⟩
    · obtain ⟨its, rv, ⟨o, ho, hc2, n, hd⟩, _⟩ := I.tuple kind.sqT
      exact ⟨its.toArray, by simpa using rv, .inr ⟨o, ho, hc2, n, hd⟩⟩
  obtain ⟨items, rv, it⟩ := its
  rcases hk with ⟨ns, rfl⟩ | ⟨rs, rfl, hne⟩ | ⟨rs, rfl, hne⟩
  · rw [dedup_map _ eqv_i, List.length_map] at hz
    have ev := ra.intsOf
    subst ev
    have zz : items.size = ns.length := by
      have := Vals.length rv
      rw [List.length_map] at this
      rw [this, Array.length_toList]
    have fl : ∀ A', A'.units ≤ X.A.units + 3 → A'.handled = none → Fills X.prog X.w A' s.heap.objs.size s.heap items.size (fun i v => items[i]? = some v) fun i h => ∃ n, SetR X.w h s.heap.objs.size (fun j => decide (j ∈ ns.take i)) n := fun A' hA _ => fills_i hu hc (room A' hA) hz rv
    have j0 : ∀ h : Heap, h.get? s.heap.objs.size = some (newSet X.w) → ∃ n, SetR X.w h s.heap.objs.size (fun j => decide (j ∈ ns.take 0)) n := fun h e => ⟨0, setR_new_at e⟩
    have fin : ∀ (h' : Heap) (tk : Nat), (∃ n, SetR X.w h' s.heap.objs.size (fun j => decide (j ∈ ns.take items.size)) n) → (∀ b o, s.heap.get? b = some o → h'.get? b = some o) → EP X pins σ Q (.ref s.heap.objs.size) { s with heap := h', toks := tk } := fun h' tk ⟨n, R⟩ k => by
      obtain ⟨ks, nd, hm, R'⟩ := setR_vs R
      have pm : ks.Perm (dd ns) := dd_perm nd fun k => by
        rw [hm, decide_eq_true_eq, List.take_of_length_le (Nat.le_of_eq zz.symm)]
      refine put h' tk _ (ks.map .int) R' (RDs.ints ks) ?_ (fun e he => ?_) (sortOk_i ks) (fun fs hf => ?_) k
      · rw [dedup_map _ eqv_i, List.length_map, List.length_map, pm.length_eq]
      · obtain ⟨i, _, rfl⟩ := List.mem_map.mp he
        exact .inl ⟨i, rfl⟩
      · rw [dedup_map _ eqv_i]
        obtain ⟨ms, rfl, h2⟩ := perm_of_map hf
        exact sortD_ints (h2.trans pm)
    rcases it with it | it
    · exact set_of_list (I.ok.hd hc) it fl j0 fin
    · exact set_of_tuple (I.ok.hd hc) it fl j0 fin
  · have et : (rs.map fun r => PyData.tuple (r.map .int)) = rs.map tupD := rfl
    rw [et] at ra hz hne put
    obtain ⟨ks, rfl, rfl, hf⟩ := ra.tupsOf
    rw [dedup_map _ eqv_tupD, List.length_map] at hz hne
    have hit : items.toList = ks.map fun p => Value.ref p.1 := refs_of_vals rv
    have zz : items.size = ks.length := by
      rw [← Array.length_toList, hit, List.length_map]
    have hT := isT_of hu hc I hf
    have fl : ∀ A', A'.units ≤ X.A.units + 3 → A'.handled = none → Fills X.prog X.w A' s.heap.objs.size s.heap items.size (fun i v => items[i]? = some v) fun i h => ∃ L es ep t, SetB X.prog X.w h s.heap.objs.size L es ep t ∧ Got ks i L := fun A' hA _ => fills_t hu hc hT h0 (room A' hA) hz hit
    have j0 : ∀ h : Heap, h.get? s.heap.objs.size = some (newSet X.w) → ∃ L es ep t, SetB X.prog X.w h s.heap.objs.size L es ep t ∧ Got ks 0 L := fun h e =>
      ⟨[], #[], 0, _, ⟨⟨_, e, ⟨rfl, rfl, rfl⟩, rfl⟩, rfl, ⟨List.Pairwise.nil, rfl, rfl, mk7, (fun x hx => nomatch hx), fun i h j hi => by simp at hi⟩, List.nodup_nil, (fun p hp => nomatch hp), rfl, by
        show _ ∨ (!X.w.params.followText "set-order") = true
        cases X.w.params.followText "set-order"
        · exact .inr rfl
        · exact .inl rfl, .a (by decide), by decide⟩, Got.zero ks⟩
    have fin : ∀ (h' : Heap) (tk : Nat), (∃ L es ep t, SetB X.prog X.w h' s.heap.objs.size L es ep t ∧ Got ks items.size L) → (∀ b o, s.heap.get? b = some o → h'.get? b = some o) → EP X pins σ Q (.ref s.heap.objs.size) { s with heap := h', toks := tk } := fun h' tk ⟨L, es, ep, t, R, g⟩ k => by
      have sub : ∀ p ∈ L, p ∈ ks := fun p hp => List.mem_of_mem_take (g.sub p hp)
      have pm : (L.map (·.2)).Perm (dd (ks.map (·.2))) := dd_perm R.nd fun r => by
        constructor
        · intro hr
          obtain ⟨p, hp, rfl⟩ := List.mem_map.mp hr
          exact List.mem_map_of_mem (sub p hp)
        · intro hr
          obtain ⟨p, hp, rfl⟩ := List.mem_map.mp hr
          exact g.all p (by rw [zz, List.take_length]; exact hp)
      have e0 : (L.map fun p => tupD p.2) = (L.map (·.2)).map tupD := by rw [List.map_map]; rfl
      have ll := pm.length_eq
      rw [List.length_map] at ll
      refine put h' tk _ (L.map fun p => tupD p.2) (setB_vs R) (rds_tups fun p hp => hf p (sub p hp)) ?_ (fun e he => ?_) ?_ (fun fs hf => ?_) k
      · rw [dedup_map _ eqv_tupD, List.length_map, List.length_map, ll]
      · obtain ⟨p, _, rfl⟩ := List.mem_map.mp he
        exact .inr (.inl ⟨p.2, rfl⟩)
      · rw [e0]
        refine sortOk_t fun h2 r hr => ?_
        rw [List.length_map, ll] at h2
        exact hne h2 r (mem_dd.mp (pm.mem_iff.mp hr))
      · rw [e0] at hf
        rw [dedup_map _ eqv_tupD]
        obtain ⟨ms, rfl, h2⟩ := perm_of_map hf
        exact sortD_tups (h2.trans pm)
    rcases it with it | it
    · exact set_of_list (I.ok.hd hc) it fl j0 fin
    · exact set_of_tuple (I.ok.hd hc) it fl j0 fin
  · have et : (rs.map fun r => PyData.tuple (r.map fun t => PyData.tuple (t.map .int))) = rs.map lotD := rfl
    rw [et] at ra hz hne put
    obtain ⟨ks, rfl, rfl, hf⟩ := DLK.lotsOf ra
    rw [dedup_map _ DLK.eqv_lotD, List.length_map] at hz hne
    have hit : items.toList = ks.map fun p => Value.ref p.1 := DLK.refs_of_valsK rv
    have zz : items.size = ks.length := by
      rw [← Array.length_toList, hit, List.length_map]
    have hT := fun p hp => DLK.isL_of I (hf p hp)
    have fl : ∀ A', A'.units ≤ X.A.units + 3 → A'.handled = none → Fills X.prog X.w A' s.heap.objs.size s.heap items.size (fun i v => items[i]? = some v) fun i h => ∃ L es ep t, DLK.SetB (DLK.lk X.prog X.w) h s.heap.objs.size L es ep t ∧ DLK.GotK ks i L := fun A' hA _ => DLK.fills_t (DLK.lk X.prog X.w) hT h0 (room8 A' hA) hz hit
    have j0 : ∀ h : Heap, h.get? s.heap.objs.size = some (newSet X.w) → ∃ L es ep t, DLK.SetB (DLK.lk X.prog X.w) h s.heap.objs.size L es ep t ∧ DLK.GotK ks 0 L := fun h e =>
      ⟨[], #[], 0, _, ⟨⟨_, e, ⟨rfl, rfl, rfl⟩, rfl⟩, rfl, ⟨List.Pairwise.nil, rfl, rfl, mk7, (fun x hx => nomatch hx), fun i h j hi => by simp at hi⟩, List.nodup_nil, (fun p hp => nomatch hp), rfl, by
        show _ ∨ (!X.w.params.followText "set-order") = true
        cases X.w.params.followText "set-order"
        · exact .inr rfl
        · exact .inl rfl, .a (by decide), by decide⟩, DLK.GotK.zero ks⟩
    have fin : ∀ (h' : Heap) (tk : Nat), (∃ L es ep t, DLK.SetB (DLK.lk X.prog X.w) h' s.heap.objs.size L es ep t ∧ DLK.GotK ks items.size L) → (∀ b o, s.heap.get? b = some o → h'.get? b = some o) → EP X pins σ Q (.ref s.heap.objs.size) { s with heap := h', toks := tk } := fun h' tk ⟨L, es, ep, t, R, g⟩ k => by
      have sub : ∀ p ∈ L, p ∈ ks := fun p hp => List.mem_of_mem_take (g.sub p hp)
      have pm : (L.map (·.2)).Perm (dd (ks.map (·.2))) := dd_perm R.nd fun r => by
        constructor
        · intro hr
          obtain ⟨p, hp, rfl⟩ := List.mem_map.mp hr
          exact List.mem_map_of_mem (sub p hp)
        · intro hr
          obtain ⟨p, hp, rfl⟩ := List.mem_map.mp hr
          exact g.all p (by rw [zz, List.take_length]; exact hp)
      have e0 : (L.map fun p => lotD p.2) = (L.map (·.2)).map lotD := by rw [List.map_map]; rfl
      have ll := pm.length_eq
      rw [List.length_map] at ll
      refine put h' tk _ (L.map fun p => lotD p.2) (DLK.setB_vs R) (DLK.rds_lots fun p hp => hf p (sub p hp)) ?_ (fun e he => ?_) ?_ (fun fs hf => ?_) k
      · rw [dedup_map _ DLK.eqv_lotD, List.length_map, List.length_map, ll]
      · obtain ⟨p, _, rfl⟩ := List.mem_map.mp he
        exact .inr (.inr ⟨p.2, rfl⟩)
      · rw [e0]
        refine sortOk_l fun h2 r hr => ?_
        rw [List.length_map, ll] at h2
        exact hne h2 r (mem_dd.mp (pm.mem_iff.mp hr))
      · rw [e0] at hf
        rw [dedup_map _ DLK.eqv_lotD]
        obtain ⟨ms, rfl, h2⟩ := perm_of_map hf
        exact sortD_lots (h2.trans pm)
    rcases it with it | it
    · exact set_of_list (I.ok.hd hc) it fl j0 fin
    · exact set_of_tuple (I.ok.hd hc) it fl j0 fin
/-- sorted of such a set -/
def rSortV (K : PySem.W.Frag) (w : World) : List V → Hp → VK → Prop := fun xs H Q => ∃ (p : Addr) (ys : List V) (es gs : List D) (M : AS), xs = [.ref p] ∧ H p = some (SetVO w p ys) ∧ RDs K M H ys es ∧ (∀ e ∈ es, FlatD e) ∧ SortOk es ∧ (∀ fs, fs.Perm es → sortD fs = gs) ∧ (∀ a, M a → H a ≠ none) ∧ ∀ q zs, H q = none → RDs K M H zs gs → Q (.ref q) (upd H q (.lst zs))
theorem c_sortV : CallR X (.builtin "sorted") (rSortV X.K X.w) := by
  rintro pins s σ H xs us Q I r ⟨p, ys, es, gs, M, rfl, hp, rd, flat, so, hperm, mx, q⟩
  obtain ⟨u, rfl, rx⟩ := vals1 r
  cases rx
  obtain ⟨o, se, ep, t, ho, hex, hd, rv, hb, hf, hr, hl⟩ : SetVs X.w s.heap p ys := (I.hok p _ hp).1
  have lr := rd.len
  have lv : ys.length = se.size := by
    have := Vals.length rv
    simpa using this
  have hb' : se.size < 4096 := hb
  refine Calls.call_function_entry kind_sorted plain_sorted entry_sorted (args_sorted1 _) ?_
  unfold Builtin.«sorted»
  refine wpAny_bind (m := checkCount "sorted" 1 1 _) (wpAny_pure ?_)
  refine wpAny_bind (collect_set (A := X.A.in1) (I.ok.hd hc) ⟨o, ho, hex.1, hd⟩ hf hb hr hl fun s1 vs k1 hz g1 o1 pm => ?_)
  obtain ⟨ds, pd, each⟩ := follow_perm pm (each_of hu hc I rd rv).1
  have ld := each.length
  have ld2 := pd.length_eq
  have so' : SortOk ds := ⟨fun d h => so.1 d (pd.mem_iff.mp h), fun h2 => by
    obtain ⟨g1, g2⟩ := so.2 (by rw [← ld2]; exact h2)
    refine ⟨fun d hd e he => g1 d (pd.mem_iff.mp hd) e (pd.mem_iff.mp he), ?_⟩
    rcases g2 with g2 | g2
    · exact .inl fun d hd => g2 d (pd.mem_iff.mp hd)
    · exact .inr fun d hd => g2 d (pd.mem_iff.mp hd)⟩
  refine wpAny_bind (wpAny_newList ?_ (by rw [sizeLine_eq]; omega))
  have hL : (s1.heap.push (seqObj "list" vs.toArray 0)).get? s1.heap.objs.size = some (seqObj "list" vs.toArray 0) := Heap.get?_push_size _ rfl
  have kp : ∀ b u, s.heap.get? b = some u → (s1.heap.push (seqObj "list" vs.toArray 0)).get? b = some u := fun b u e => Heap.get?_push_of_some _ (k1 b u e)
  have fin : ∀ out : List Value, PySem.W.EachIs (fun u d => ∃ v, RelV v u ∧ RD X.K M H v d) out (sortD ds) → EP X pins σ Q (.ref s1.heap.objs.size) { s1 with heap := sortedHeap (s1.heap.push (seqObj "list" vs.toArray 0)) s1.heap.objs.size vs out.toArray } := fun out eo => by
    obtain ⟨zs, z1, z2⟩ := of_each hu hc eo
    obtain ⟨c, hc2⟩ := sortedHeap_at (vs := vs) (out := out.toArray) hL
    have hn : H s1.heap.objs.size = none := I.hok.fresh hz
    have lz := z2.len
    have lg : (sortD ds).length = ds.length := by unfold sortD; exact List.length_mergeSort ds
    have keep : ∀ b u, s.heap.get? b = some u → (sortedHeap (s1.heap.push (seqObj "list" vs.toArray 0)) s1.heap.objs.size vs out.toArray).get? b = some u := fun b u e => by
      have lt := Heap.lt_size (k1 b u e)
      rw [sortedHeap_old (Nat.ne_of_lt lt) (by rw [size_push']; exact Nat.lt_succ_of_lt lt)]
      exact kp b u e
    have J : Inv X pins σ (upd H s1.heap.objs.size (.lst zs)) { s with heap := sortedHeap (s1.heap.push (seqObj "list" vs.toArray 0)) s1.heap.objs.size vs out.toArray, gens := s1.gens, drawn := s1.drawn, toks := s1.toks } :=
      I.call (ch := []) (Un.laid keep hz hn) (I.hok.laid keep hz ⟨by rw [lz, lg, ld2, ← lr, lv, sizeLine_eq]; omega, out, c, z1, hc2⟩) (by rw [g1]; exact I.bare) (fun _ z => nomatch z)
    have e : ({ s1 with heap := sortedHeap (s1.heap.push (seqObj "list" vs.toArray 0)) s1.heap.objs.size vs out.toArray } : Shared) = { s with heap := sortedHeap (s1.heap.push (seqObj "list" vs.toArray 0)) s1.heap.objs.size vs out.toArray, gens := s1.gens, drawn := s1.drawn, toks := s1.toks } := by
      cases s1
      cases s
      cases o1
      rfl
    rw [e]
    rw [hperm ds pd] at z2
    exact ⟨.ref _, _, J, rfl, q _ zs hn z2⟩
  by_cases h2 : 2 ≤ ds.length
  · obtain ⟨g3, g4⟩ := so'.2 h2
    refine wpAny_bind (wpAny_holding (PySem.W.list_sort_data (enc := id) (R := fun u d => ∃ v, RelV v u ∧ RD X.K M H v d) (bs := ds) hL each ?_ (by rw [List.map_id]; exact g3) (by rw [List.map_id]; exact g4) (by rw [sizeLine_eq]; omega) (fun b hb3 => ?_) fun out lo eo => ?_))
    · refine (PySem.W.each_mem each).mono fun u d ⟨⟨v, r1, r2⟩, hdm⟩ => ?_
      obtain ⟨as, ra⟩ := Dp.reads I d v u r2.dp r1
      have ea := reads_flat (flat d (pd.mem_iff.mp hdm)) ra
      subst ea
      exact ⟨[], PyProof.Rows.Reads.keeps kp ra, fun h => nomatch h⟩
    · have := so'.1 b hb3
      show X.A.in1.units + 1 + PyData.depth (id b) < cLine
      rw [id]
      show X.A.units + 1 + 1 + _ < _
      omega
    · exact wpAny_pure ⟨_, rfl, fin out eo⟩
  · refine wpAny_bind (wpAny_holding (wpAny_call_entry slot_list_sort ⟨_, hL, rfl⟩ entry_list_sort (SrtO.list_sort_ord (swo_none hu hc) hL (by rw [sizeLine_eq]; omega) (fun z => absurd z (by omega)) fun out z1 z2 => ⟨_, rfl, ?_⟩) (args_list_sort _)))
    have e : out = vs := by
      have hp := z2.perm
      match vs, out, hp, (show vs.length < 2 by omega) with
      | [], out, hp, _ => exact hp.eq_nil
      | [a], out, hp, _ => exact List.perm_singleton.mp hp
      | _ :: _ :: _, _, _, z => exact absurd z (by simp)
    subst e
    refine wpAny_pure ⟨_, rfl, fin out ?_⟩
    have es : sortD ds = ds := by
      match ds, h2 with
      | [], _ => simp [sortD]
      | [a], _ => simp [sortD]
      | _ :: _ :: _, z => exact absurd (by simp) z
    rw [es]
    exact each
/-- len of it -/
def rLenV (w : World) : List V → Hp → VK → Prop := fun xs H Q => ∃ (p : Addr) (ys : List V), xs = [.ref p] ∧ H p = some (SetVO w p ys) ∧ Q (.int ys.length) H
theorem c_lenV : CallR X (.builtin "len") (rLenV X.w) := by
  rintro pins s σ H xs us Q I r ⟨p, ys, rfl, hp, q⟩
  obtain ⟨u, rfl, rx⟩ := vals1 r
  cases rx
  obtain ⟨o, se, ep, t, ho, hex, hd, rv, hb, hf, hr, hl⟩ : SetVs X.w s.heap p ys := (I.hok p _ hp).1
  have lv : ys.length = se.size := by
    have := Vals.length rv
    simpa using this
  have hb' : se.size < 4096 := hb
  exact call_len_set ho hex hd hf (by omega) ⟨.int ys.length, H, I.tok _, ⟨_, by rw [lv]⟩, q⟩
end
end DL

end

section
namespace DL
open PySem PySem.Spec PyProof.Rows L2

mutual
theorem reads_there {h : Heap} : ∀ (d : D) {v : Value} {as : List Addr}, Reads h v d as → ∀ a ∈ as, ∃ o, h.get? a = some o
  | .none, _, _, r, a, m => by cases r; cases m
  | .bool _, _, _, r, a, m => by cases r; cases m
  | .int _, _, _, r, a, m => by cases r; cases m
  | .str _, _, _, r, a, m => by cases r; cases m
  | .list ds, _, _, r, a, m => by
    cases r with
    | list h1 h2 h3 h4 =>
      rcases List.mem_cons.mp m with e | m
      · rw [e]; exact ⟨_, h1⟩
      · exact readsAll_there ds h4 a m
  | .tuple ds, _, _, r, a, m => by
    cases r with
    | tuple h1 h2 h3 h4 => exact readsAll_there ds h4 a m
  | .dict kvs, _, _, r, a, m => by
    cases r with
    | dict h1 h2 h3 h4 h5 =>
      rcases List.mem_append.mp m with m | m
      · rcases List.mem_cons.mp m with e | m
        · rw [e]; exact ⟨_, h1⟩
        · exact readsKeys_there kvs h4 a m
      · exact readsVals_there kvs h5 a m
theorem readsAll_there {h : Heap} : ∀ (ds : List D) {vs : List Value} {as : List Addr}, ReadsAll h vs ds as → ∀ a ∈ as, ∃ o, h.get? a = some o
  | [], _, _, r, a, m => by cases r; cases m
  | d :: ds, _, _, r, a, m => by
    cases r with
    | cons h1 h2 =>
      rcases List.mem_append.mp m with m | m
      · exact reads_there d h1 a m
      · exact readsAll_there ds h2 a m
theorem readsKeys_there {h : Heap} : ∀ (kvs : List (D × D)) {vs : List Value} {as : List Addr}, ReadsAll h vs (kvs.map (·.1)) as → ∀ a ∈ as, ∃ o, h.get? a = some o
  | [], _, _, r, a, m => by cases r; cases m
  | (k, x) :: kvs, _, _, r, a, m => by
    cases r with
    | cons h1 h2 =>
      rcases List.mem_append.mp m with m | m
      · exact reads_there k h1 a m
      · exact readsKeys_there kvs h2 a m
theorem readsVals_there {h : Heap} : ∀ (kvs : List (D × D)) {vs : List Value} {as : List Addr}, ReadsAll h vs (kvs.map (·.2)) as → ∀ a ∈ as, ∃ o, h.get? a = some o
  | [], _, _, r, a, m => by cases r; cases m
  | (k, x) :: kvs, _, _, r, a, m => by
    cases r with
    | cons h1 h2 =>
      rcases List.mem_append.mp m with m | m
      · exact reads_there x h1 a m
      · exact readsVals_there kvs h2 a m
end
section
variable {prog : Program} {w : World} {A : Around} {E : Value → Shared → Prop} {s : Shared}
/-- a tuple's items, gathered into a list -/
theorem collect_tup {l : Addr} {vs : List Value} {Q : List Value → Shared → Prop} (hl : s.heap.IsTuple l vs.toArray) (hz : vs.length ≤ sizeLine)
    (q : Q vs { s with heap := (s.heap.push (seqObj "list" #[] 0)).update s.heap.objs.size (Obj.mapSeq (· ++ vs.toArray)) }) : wpAny (model prog w) A (collect (.ref l)) Q E s := by
  obtain ⟨o, ho, hc, n, hd⟩ := id hl
  have pl : (s.heap.push (seqObj "list" #[] 0)).get? l = some o := Heap.get?_push_of_some _ ho
  have ps : (s.heap.push (seqObj "list" #[] 0)).get? s.heap.objs.size = some (seqObj "list" #[] 0) := Heap.get?_push_size _ rfl
  unfold collect
  refine wpAny_bind (wpAny_runValue (codeAny_builtin entry_proto_collect' ?_))
  show wpAny _ _ (newList [] >>= fun v => again (.builtin "list.__iadd__" ⟨[v, .ref l], []⟩)) _ _ s
  refine wpAny_bind (wpAny_newList (wpAny_pure ⟨Code.quiet_builtin _ (by decide +kernel), codeAny_builtin entry_list_iadd' ?_⟩))
  show wpAny _ _ (Builtin.List.listExtendWith (.ref s.heap.objs.size) (.ref l) (.ref s.heap.objs.size)) _ _ ({ s with heap := s.heap.push (seqObj "list" #[] 0) } : Shared)
  unfold Builtin.List.listExtendWith
  refine wpAny_bind (wpAny_typeOf (T := "tuple") ⟨o, pl, hc⟩ ?_)
  rw [if_pos (by rw [show (Value.type "tuple" == Value.type "tuple") = true from rfl]; simp)]
  refine wpAny_bind (listItems_at pl hd (wpAny_bind (listItems_at (xs := #[]) (n := 0) ps rfl ?_)))
  rw [if_neg (by simp)]
  have room : (#[] ++ vs.toArray : Array Value).size ≤ sizeLine + 1 := by simp; omega
  refine wpAny_bind (listUpdate_at (xs := #[]) (n := 0) ps rfl ?_ (Nat.zero_le _) room)
  refine wpAny_pure ?_
  show wpAny (model prog w) A (load s.heap.objs.size >>= fun o => match o.data with
      | .seq xs _ => pure xs.toList
      | _ => unsupported "internal:collect") Q E ({ s with heap := (s.heap.push (seqObj "list" #[] 0)).update s.heap.objs.size (Obj.mapSeq (· ++ vs.toArray)) } : Shared)
  refine wpAny_bind (wpAny_load (get?_update_seq ps _) ?_)
  have e : (#[] ++ vs.toArray : Array Value).toList = vs := by simp
  show wpAny _ _ (pure (#[] ++ vs.toArray : Array Value).toList) Q E _
  rw [e]
  exact wpAny_pure q
end
section
variable {X : Cx} (hu : X.A.units + 200 < cLine) (hc : X.calm = true)
include hu hc
theorem c_sortT : CallR X (.builtin "sorted") (cD1 X.K (s1 .sortedT)) := by
  rintro pins s σ H xs us Q I r ⟨x, rfl, M, d, k, mx, hx, hs, hq⟩
  cases d <;> first | exact (show False from hs).elim | skip
  rename_i ds
  obtain ⟨so', h3⟩ := hs
  obtain ⟨a, xs, rfl, ha, rd⟩ := hx.tupF
  obtain ⟨u, rfl, rx⟩ := vals1 r
  cases rx
  obtain ⟨vs, rv, tp, hlen⟩ := I.tuple ha.sqT
  have lr := rd.len
  have lv := Vals.length rv
  refine Calls.call_function_entry kind_sorted plain_sorted entry_sorted (args_sorted1 _) ?_
  unfold Builtin.«sorted»
  refine wpAny_bind (m := checkCount "sorted" 1 1 _) (wpAny_pure ?_)
  have each := (each_of hu hc I rd rv).1
  refine wpAny_bind (collect_tup tp (by omega) ?_)
  obtain ⟨s1, es1⟩ : ∃ s1 : Shared, s1 = { s with heap := (s.heap.push (seqObj "list" #[] 0)).update s.heap.objs.size (Obj.mapSeq (· ++ vs.toArray)) } := ⟨_, rfl⟩
  have k1 : ∀ b o, s.heap.get? b = some o → s1.heap.get? b = some o := fun b o e => by
    rw [es1]
    show ((s.heap.push (seqObj "list" #[] 0)).update s.heap.objs.size (Obj.mapSeq (· ++ vs.toArray))).get? b = some o
    rw [Heap.get?_update_ne _ _ _ _ (Nat.ne_of_lt (Heap.lt_size e))]
    exact Heap.get?_push_of_some _ e
  have hz : s.heap.objs.size ≤ s1.heap.objs.size := by
    rw [es1]
    show _ ≤ ((s.heap.push (seqObj "list" #[] 0)).update s.heap.objs.size (Obj.mapSeq (· ++ vs.toArray))).objs.size
    rw [Heap.size_update, size_push']
    exact Nat.le_succ _
  have g1 : s1.gens = s.gens := by rw [es1]
  have o1 : s1.os = s.os := by rw [es1]
  rw [← es1]
  have ld := each.length
  refine wpAny_bind (wpAny_newList ?_ (by omega))
  have hL : (s1.heap.push (seqObj "list" vs.toArray 0)).get? s1.heap.objs.size = some (seqObj "list" vs.toArray 0) := Heap.get?_push_size _ rfl
  have kp : ∀ b u, s.heap.get? b = some u → (s1.heap.push (seqObj "list" vs.toArray 0)).get? b = some u := fun b u e => Heap.get?_push_of_some _ (k1 b u e)
  have fin : ∀ out : List Value, PySem.W.EachIs (fun u d => ∃ v, RelV v u ∧ RD X.K M H v d) out (sortD ds) → EP X pins σ Q (.ref s1.heap.objs.size) { s1 with heap := sortedHeap (s1.heap.push (seqObj "list" vs.toArray 0)) s1.heap.objs.size vs out.toArray } := fun out eo => by
    obtain ⟨zs, z1, z2⟩ := of_each hu hc eo
    obtain ⟨c, hc2⟩ := sortedHeap_at (vs := vs) (out := out.toArray) hL
    have hn : H s1.heap.objs.size = none := I.hok.fresh hz
    have lz := z2.len
    have lg : (sortD ds).length = ds.length := by unfold sortD; exact List.length_mergeSort ds
    have keep : ∀ b u, s.heap.get? b = some u → (sortedHeap (s1.heap.push (seqObj "list" vs.toArray 0)) s1.heap.objs.size vs out.toArray).get? b = some u := fun b u e => by
      have lt := Heap.lt_size (k1 b u e)
      rw [sortedHeap_old (Nat.ne_of_lt lt) (by rw [size_push']; exact Nat.lt_succ_of_lt lt)]
      exact kp b u e
    have J : Inv X pins σ (upd H s1.heap.objs.size (.lst zs)) { s with heap := sortedHeap (s1.heap.push (seqObj "list" vs.toArray 0)) s1.heap.objs.size vs out.toArray, gens := s1.gens, drawn := s1.drawn, toks := s1.toks } :=
      I.call (ch := []) (Un.laid keep hz hn) (I.hok.laid keep hz ⟨by rw [lz, lg]; omega, out, c, z1, hc2⟩) (by rw [g1]; exact I.bare) (fun _ z => nomatch z)
    have e : ({ s1 with heap := sortedHeap (s1.heap.push (seqObj "list" vs.toArray 0)) s1.heap.objs.size vs out.toArray } : Shared) = { s with heap := sortedHeap (s1.heap.push (seqObj "list" vs.toArray 0)) s1.heap.objs.size vs out.toArray, gens := s1.gens, drawn := s1.drawn, toks := s1.toks } := by
      rw [es1]
    rw [e]
    exact ⟨.ref _, _, J, rfl, hq _ _ _ (kf hn) (RD.newL mx z2 hn) h3⟩
  by_cases h2 : 2 ≤ ds.length
  · obtain ⟨g3, g4⟩ := so'.2 h2
    refine wpAny_bind (wpAny_holding (PySem.W.list_sort_data (enc := id) (R := fun u d => ∃ v, RelV v u ∧ RD X.K M H v d) (bs := ds) hL each ?_ (by rw [List.map_id]; exact g3) (by rw [List.map_id]; exact g4) (by omega) (fun b hb3 => ?_) fun out lo eo => ?_))
    · refine (PySem.W.each_mem each).mono fun u d ⟨⟨v, r1, r2⟩, hdm⟩ => ?_
      obtain ⟨as, ra⟩ := Dp.reads I d v u r2.dp r1
      refine ⟨as, PyProof.Rows.Reads.keeps kp ra, fun h => ?_⟩
      obtain ⟨o, e⟩ := reads_there d ra _ h
      exact Nat.lt_irrefl _ (Nat.lt_of_lt_of_le (Heap.lt_size e) hz)
    · have := so'.1 b hb3
      show X.A.in1.units + 1 + PyData.depth (id b) < cLine
      rw [id]
      show X.A.units + 1 + 1 + _ < _
      omega
    · exact wpAny_pure ⟨_, rfl, fin out eo⟩
  · refine wpAny_bind (wpAny_holding (wpAny_call_entry slot_list_sort ⟨_, hL, rfl⟩ entry_list_sort (SrtO.list_sort_ord (swo_none hu hc) hL (by omega) (fun z => absurd z (by omega)) fun out z1 z2 => ⟨_, rfl, ?_⟩) (args_list_sort _)))
    have e : out = vs := by
      have hp := z2.perm
      match vs, out, hp, (show vs.length < 2 by omega) with
      | [], out, hp, _ => exact hp.eq_nil
      | [a], out, hp, _ => exact List.perm_singleton.mp hp
      | _ :: _ :: _, _, _, z => exact absurd z (by simp)
    subst e
    refine wpAny_pure ⟨_, rfl, fin out ?_⟩
    have es : sortD ds = ds := by
      match ds, h2 with
      | [], _ => simp [sortD]
      | [a], _ => simp [sortD]
      | _ :: _ :: _, z => exact absurd (by simp) z
    rw [es]
    exact each
end
end DL

end

section
namespace DL
open PySem PySem.Spec PyProof.Rows L2

theorem isi_eq1 : s1 .isInt = fun d k => k (.bool (isiD "int" d)) := by funext d k; cases d <;> rfl
theorem isi_eq2 : s1 .isBool = fun d k => k (.bool (isiD "bool" d)) := by funext d k; cases d <;> rfl
theorem isi_eq3 : s1 .isTup = fun d k => k (.bool (isiD "tuple" d)) := by funext d k; cases d <;> rfl
theorem isi_eq4 : s1 .isStr = fun d k => k (.bool (isiD "str" d)) := by funext d k; cases d <;> rfl
theorem isi_eq5 : s1 .isList = fun d k => k (.bool (isiD "list" d)) := by funext d k; cases d <;> rfl

section
variable {S : Sx} {N : List Str} {sc : Scope} {W : WX} {Γ : Gm} {cs : List Bs} {Mc M M' M1 M2 : AS} {H H' H1 H2 : Hp} {ρ ρ' ρ1 ρ2 : Ro} {σ : St}
/-! ### a < b < c -/
theorem ok_chain {ea eb ec : Expr} {a b c : DE} {p q : P2} {op op' : CmpOp} {pos : Pos} (ha : OkE S N sc W ea (semE Γ a)) (hb : OkE S N sc W eb (semE Γ b)) (hc : OkE S N sc W ec (semE Γ c))
    (h : ∀ y, Gd S N sc W y → OpR (cx S N y) (compareOp op) (rD S.K (s2 p))) (h' : ∀ y, Gd S N sc W y → OpR (cx S N y) (compareOp op') (rD S.K (s2 q))) (hm : lastMarks [op, op'] [eb, ec] = false) : OkE S N sc W (.Compare ea [op, op'] [eb, ec] pos) (semE Γ (.chain p q a b c)) := by
  obtain ⟨ta, h1, h2⟩ := ha
  obtain ⟨tb, g1, g2⟩ := hb
  obtain ⟨tc, f1, f2⟩ := hc
  refine ⟨tChain (rD S.K (s2 p)) (rD S.K (s2 q)) ta tb tc, fun y g => pe_chain (h y g) (h' y g) (h1 y g) (g1 y g) (f1 y g) hm, fun cs Mc M ρ σ H Q k x R X hs hk => ?_⟩
  refine h2 cs Mc M ρ σ H _ _ x R X hs fun d ρ1 M1 v H1 p1 r1 q1 => ?_
  refine g2 cs Mc M1 ρ1 σ H1 _ _ x p1.rel X q1 fun e ρ2 M2 w H2 p2 r2 q2 => ?_
  refine ⟨M2, d, e, _, p2.rel.mx, .inl (p2.rd p1.rel r1), .inl r2, q2, fun g u H' kp rg kg => ?_⟩
  cases g <;> first | exact (show False from kg).elim | skip
  rename_i t
  cases rg
  have P3 := p2.trans (Post.heap p2.rel kp)
  refine ⟨t, rfl, ?_⟩
  cases t with
  | false => exact hk _ ρ2 M2 _ H' (p1.trans P3) (.bl false) kg
  | true =>
    refine f2 cs Mc M2 ρ2 σ H' _ _ x P3.rel X kg fun f ρ3 M3 w3 H3 p3 r3 q3 => ?_
    have P4 := P3.trans p3
    exact ⟨M3, e, f, _, p3.rel.mx, .inl (p3.rd P3.rel (r2.kp kp (fun _ z => z.elim) fun b z => .inl z)), .inl r3, q3, fun g2 u2 H4 kp2 rg2 kg2 => hk g2 ρ3 M3 u2 H4 ((p1.trans P4).trans (Post.heap p3.rel kp2)) rg2 kg2⟩
theorem ok_tchain {ea eb ec : Expr} {a b c : DE} {p q : P2} {op op' : CmpOp} {pos : Pos} (ha : OkE S N sc W ea (semE Γ a)) (hb : OkE S N sc W eb (semE Γ b)) (hc : OkE S N sc W ec (semE Γ c))
    (h : ∀ y, Gd S N sc W y → OpR (cx S N y) (compareOp op) (rD S.K (s2 p))) (h' : ∀ y, Gd S N sc W y → OpR (cx S N y) (compareOp op') (rD S.K (s2 q))) (hm : lastMarks [op, op'] [eb, ec] = false) : OkT S N sc W (.Compare ea [op, op'] [eb, ec] pos) (semE Γ (.chain p q a b c)) := by
  obtain ⟨ta, h1, h2⟩ := ha
  obtain ⟨tb, g1, g2⟩ := hb
  obtain ⟨tc, f1, f2⟩ := hc
  refine ⟨tTest (tChain (rD S.K (s2 p)) (rD S.K (s2 q)) ta tb tc), fun y g => pt_chain (h y g) (h' y g) (h1 y g) (g1 y g) (f1 y g) hm, fun cs Mc M ρ σ H Q k x R X hs hk => ?_⟩
  refine h2 cs Mc M ρ σ H _ _ x R X hs fun d ρ1 M1 v H1 p1 r1 q1 => ?_
  refine g2 cs Mc M1 ρ1 σ H1 _ _ x p1.rel X q1 fun e ρ2 M2 w H2 p2 r2 q2 => ?_
  refine ⟨M2, d, e, _, p2.rel.mx, .inl (p2.rd p1.rel r1), .inl r2, q2, fun g u H' kp rg kg => ?_⟩
  cases g <;> first | exact (show False from kg).elim | skip
  rename_i t
  cases rg
  have P3 := p2.trans (Post.heap p2.rel kp)
  refine ⟨t, rfl, ?_⟩
  cases t with
  | false => exact ⟨_, rfl, hk _ ρ2 M2 H' (p1.trans P3) kg⟩
  | true =>
    refine f2 cs Mc M2 ρ2 σ H' _ _ x P3.rel X kg fun f ρ3 M3 w3 H3 p3 r3 q3 => ?_
    have P4 := P3.trans p3
    refine ⟨M3, e, f, _, p3.rel.mx, .inl (p3.rd P3.rel (r2.kp kp (fun _ z => z.elim) fun b z => .inl z)), .inl r3, q3, fun g2 u2 H4 kp2 rg2 kg2 => ?_⟩
    cases g2 <;> first | exact (show False from kg2).elim | skip
    cases rg2
    exact ⟨_, rfl, hk _ ρ3 M3 H4 ((p1.trans P4).trans (Post.heap p3.rel kp2)) kg2⟩

/-! ### dicts -/
theorem own_of {i : Nat} (h : isOwnL ρ i = true) : ∃ fr ds, ρ[i]? = some (.o fr (.ls ds)) := by
  unfold isOwnL at h
  split at h
  · exact ⟨_, _, by assumption⟩
  · cases h
theorem ownD_of {i : Nat} (h : isOwnD ρ i = true) : ∃ fr ds, ρ[i]? = some (.o fr (.dk ds)) := by
  unfold isOwnD at h
  split at h
  · exact ⟨_, _, by assumption⟩
  · cases h
theorem kvs_look {K : PySem.W.Frag} {k : Key} : ∀ {xs : List (Key × V)} {kvs : List (Key × D)}, KVs K M H xs kvs → (lookD kvs k = none → valV xs k = none) ∧ ∀ e, lookD kvs k = some e → ∃ v, valV xs k = some v ∧ RD K M H v e
  | _, _, .nil => ⟨fun _ => rfl, fun e h => by cases h⟩
  | (a, v) :: xs, (b, d) :: kvs, .cons h t => by
    obtain ⟨i1, i2⟩ := kvs_look (k := k) t
    have he : a = b := h.1
    subst he
    by_cases e : a = k
    · subst e
      have l : lookD ((a, d) :: kvs) a = some d := by simp [lookD]
      rw [l]
      refine ⟨(fun z => nomatch z), fun e h2 => ?_⟩
      cases h2
      exact ⟨v, valV_pos rfl, h.2⟩
    · have l : lookD ((a, d) :: kvs) k = lookD kvs k := by simp [lookD, List.find?_cons, e]
      rw [l, valV_neg (p := (a, v)) e]
      exact ⟨i1, i2⟩
theorem keyD_v {K : PySem.W.Frag} {v : V} {d : D} {k : Key} (r : RD K M H v d) (h : keyD d = some k) : v = kV k := by
  cases d <;> first | cases h | skip
  · cases r; rfl
  · cases r; rfl
theorem ok_dget {i : Nat} {x : Str} {p apos pos : Pos} {e f : Expr} {b c : DE} (hN : N[i]? = some x) (hv : Vis sc x) (hd : (x == ("__debug__" : Str)) = false) (hd2 : (x == ("__classdict__" : Str)) = false)
    (hb : OkE S N sc W e (semE Γ b)) (hc : OkE S N sc W f (semE Γ c)) (m : ∀ y : Dy, L2.M2 (cx S N y) (.Name x p) "get" apos e f pos) : OkE S N sc W (.Call (.Attribute (.Name x p) "get" apos) [e, f] [] pos) (semE Γ (.dget i b c)) := by
  obtain ⟨tb, h1, h2⟩ := hb
  obtain ⟨tc, g1, g2⟩ := hc
  refine ⟨tDGet2 (tVar i) tb tc, fun y g => pe_dget2 (by have := g.hu; omega) (pe_var hN (by rw [g.sc]; exact hv) hd hd2) (h1 y g) (g1 y g) (m y), fun cs Mc M ρ σ H Q k x R X hs hk => ?_⟩
  obtain ⟨h0, hs⟩ := hs
  obtain ⟨fr, kvs0, q0⟩ := ownD_of h0
  obtain ⟨a, e0, m0, xs0, c0, _⟩ := R.ownA q0
  refine ⟨_, e0, a, rfl, .inl ⟨_, .inl c0⟩, ?_⟩
  refine h2 cs Mc M ρ σ H _ _ x R X hs fun d ρ1 M1 v H1 p1 r1 q1 => ?_
  refine g2 cs Mc M1 ρ1 σ H1 _ _ x p1.rel X q1 fun e ρ2 M2 w H2 p2 r2 q2 => ?_
  split at q2
  · rename_i y fr2 kvs hy hρ
    obtain ⟨a2, e2, m2, xs2, c2, kv2⟩ := p2.rel.ownA hρ
    rw [e0] at e2
    cases e2
    have r1' := p2.rd p1.rel r1
    rw [keyD_v r1' hy]
    refine ⟨_, DGet.k c2, ?_⟩
    obtain ⟨l1, l2⟩ := kvs_look (k := y) kv2
    cases hl : lookD kvs y with
    | none =>
      rw [hl] at q2
      rw [l1 hl]
      exact hk _ _ _ _ _ (p1.trans p2) r2 q2
    | some z =>
      rw [hl] at q2
      obtain ⟨u, z1, z2⟩ := l2 _ hl
      rw [z1]
      exact hk _ _ _ _ _ (p1.trans p2) z2 q2
  · exact q2.elim
/-! ### dicts keyed by tuples of bools -/
theorem ownB_of {i : Nat} (h : isOwnB ρ i = true) : ∃ fr ds, ρ[i]? = some (.o fr (.db ds)) := by
  unfold isOwnB at h
  split at h
  · exact ⟨_, _, by assumption⟩
  · cases h
theorem boolsOf_map : ∀ {ds : List D} {bs : List Bool}, boolsOf ds = some bs → ds = bs.map .bool
  | [], bs, h => by cases h; rfl
  | d :: ds, bs, h => by
    cases d <;> first | (cases h; done) | skip
    rename_i b
    have h : (boolsOf ds).map (b :: ·) = some bs := h
    obtain ⟨cs, h1, rfl⟩ := Option.map_eq_some_iff.mp h
    rw [boolsOf_map h1]
    rfl
theorem bkeyD_t {d : D} {bs : List Bool} (h : bkeyD d = some bs) : d = .tuple (bs.map .bool) := by
  unfold bkeyD at h
  split at h
  · rw [boolsOf_map h]
  · cases h
theorem rd_key {K : PySem.W.Frag} {v : V} {bs : List Bool} (r : RD K M H v (.tuple (bs.map .bool))) : ∃ b, v = .ref b ∧ SqT K H b (bs.map V.bl) := by
  cases r with
  | tup h1 h2 =>
    rw [h2.boolsOf] at h1
    exact ⟨_, rfl, h1.sqT⟩
theorem kbs_keys {K : PySem.W.Frag} : ∀ {ys : List BEn} {kvs : List (List Bool × D)}, KBs K M H ys kvs → ∀ y ∈ ys, SqT K H y.2.1 (y.1.map V.bl)
  | _, _, .nil, _, hy => nomatch hy
  | y :: ys, _, .cons h t, z, hz => by
    rcases List.mem_cons.mp hz with rfl | hz
    · obtain ⟨b, e, q⟩ := rd_key h.2.1
      cases e
      exact q
    · exact kbs_keys t z hz
theorem kbs_look {K : PySem.W.Frag} {bs : List Bool} : ∀ {ys : List BEn} {kvs : List (List Bool × D)}, KBs K M H ys kvs → (lookB kvs bs = none → valB ys bs = none) ∧ ∀ e, lookB kvs bs = some e → ∃ v, valB ys bs = some v ∧ RD K M H v e
  | _, _, .nil => ⟨fun _ => rfl, fun e h => by cases h⟩
  | y :: ys, (b, d) :: kvs, .cons h t => by
    obtain ⟨i1, i2⟩ := kbs_look (bs := bs) t
    have he : y.1 = b := h.1
    subst he
    by_cases e : y.1 = bs
    · have l : lookB ((y.1, d) :: kvs) bs = some d := by simp [lookB, List.find?_cons, e]
      have l2 : valB (y :: ys) bs = some y.2.2 := by simp [valB, List.find?_cons, e]
      rw [l, l2]
      refine ⟨(fun z => nomatch z), fun e h2 => ?_⟩
      cases h2
      exact ⟨_, rfl, h.2.2⟩
    · have l : lookB ((y.1, d) :: kvs) bs = lookB kvs bs := by simp [lookB, List.find?_cons, e]
      have l2 : valB (y :: ys) bs = valB ys bs := by simp [valB, List.find?_cons, e]
      rw [l, l2]
      exact ⟨i1, i2⟩
theorem kbs_map {K : PySem.W.Frag} {bs : List Bool} {v : V} {d : D} (r : RD K M H v d) : ∀ {ys : List BEn} {kvs : List (List Bool × D)}, KBs K M H ys kvs → KBs K M H (ys.map fun y => if y.1 = bs then (y.1, y.2.1, v) else y) (kvs.map fun p => if p.1 = bs then (p.1, d) else p)
  | _, _, .nil => .nil
  | y :: ys, (b, e) :: kvs, .cons h t => by
    refine .cons ?_ (kbs_map r t)
    have he : y.1 = b := h.1
    subst he
    show _ ∧ _
    by_cases z : y.1 = bs
    · simp only [z, if_true]
      refine ⟨trivial, ?_, r⟩
      have := h.2.1
      rw [z] at this
      exact this
    · simp only [z, if_false]
      exact ⟨trivial, h.2⟩
theorem kbs_snoc {K : PySem.W.Frag} {bs : List Bool} {b : Addr} {v : V} {d : D} (rk : RD K M H (.ref b) (.tuple (bs.map .bool))) (r : RD K M H v d) : ∀ {ys : List BEn} {kvs : List (List Bool × D)}, KBs K M H ys kvs → KBs K M H (ys ++ [(bs, b, v)]) (kvs ++ [(bs, d)])
  | _, _, .nil => .cons ⟨rfl, rk, r⟩ .nil
  | _, _, .cons h t => .cons h (kbs_snoc rk r t)
theorem kbs_put {K : PySem.W.Frag} {bs : List Bool} {b : Addr} {v : V} {d : D} {ys : List BEn} {kvs : List (List Bool × D)} (rk : RD K M H (.ref b) (.tuple (bs.map .bool))) (r : RD K M H v d) (h : KBs K M H ys kvs) : KBs K M H (putV ys bs b v) (putB kvs bs d) := by
  obtain ⟨i1, i2⟩ := kbs_look (bs := bs) h
  have e : (valB ys bs).isSome = (lookB kvs bs).isSome := by
    cases q : lookB kvs bs with
    | none => rw [i1 q]; rfl
    | some e =>
      obtain ⟨v, h1, _⟩ := i2 e q
      rw [h1]
      rfl
  unfold putV putB
  rw [e]
  split
  · exact kbs_map r h
  · exact kbs_snoc rk r h
theorem ok_bget {i : Nat} {x : Str} {p apos pos : Pos} {e f : Expr} {b c : DE} (hN : N[i]? = some x) (hv : Vis sc x) (hd : (x == ("__debug__" : Str)) = false) (hd2 : (x == ("__classdict__" : Str)) = false)
    (hb : OkE S N sc W e (semE Γ b)) (hc : OkE S N sc W f (semE Γ c)) (m : ∀ y : Dy, L2.M2 (cx S N y) (.Name x p) "get" apos e f pos) : OkE S N sc W (.Call (.Attribute (.Name x p) "get" apos) [e, f] [] pos) (semE Γ (.bget i b c)) := by
  obtain ⟨tb, h1, h2⟩ := hb
  obtain ⟨tc, g1, g2⟩ := hc
  refine ⟨tDGetB S.K (tVar i) tb tc, fun y g => pe_dgetB (by have := g.hu; omega) (pe_var hN (by rw [g.sc]; exact hv) hd hd2) (h1 y g) (g1 y g) (m y), fun cs Mc M ρ σ H Q k x R X hs hk => ?_⟩
  obtain ⟨h0, hs⟩ := hs
  obtain ⟨fr, kvs0, q0⟩ := ownB_of h0
  obtain ⟨a, e0, m0, xs0, c0, _⟩ := R.ownA q0
  refine ⟨_, e0, a, _, rfl, c0, ?_⟩
  refine h2 cs Mc M ρ σ H _ _ x R X hs fun d ρ1 M1 v H1 p1 r1 q1 => ?_
  refine g2 cs Mc M1 ρ1 σ H1 _ _ x p1.rel X q1 fun e ρ2 M2 w H2 p2 r2 q2 => ?_
  split at q2
  · rename_i bs fr2 kvs hy hρ
    obtain ⟨a2, e2, m2, xs2, c2, kv2⟩ := p2.rel.ownA hρ
    rw [e0] at e2
    cases e2
    have r1' := p2.rd p1.rel r1
    rw [bkeyD_t hy] at r1'
    obtain ⟨b2, rfl, sk⟩ := rd_key r1'
    refine ⟨xs2, bs, b2, c2, rfl, sk, kbs_keys kv2, ?_⟩
    obtain ⟨l1, l2⟩ := kbs_look (bs := bs) kv2
    cases hl : lookB kvs bs with
    | none =>
      rw [hl] at q2
      rw [l1 hl]
      exact hk _ _ _ _ _ (p1.trans p2) r2 q2
    | some z =>
      rw [hl] at q2
      obtain ⟨u, z1, z2⟩ := l2 _ hl
      rw [z1]
      exact hk _ _ _ _ _ (p1.trans p2) z2 q2
  · exact q2.elim
theorem ok_dat {i : Nat} {x : Str} {p pos : Pos} {e : Expr} {b : DE} (hN : N[i]? = some x) (hv : Vis sc x) (hd : (x == ("__debug__" : Str)) = false) (hd2 : (x == ("__classdict__" : Str)) = false)
    (hb : OkE S N sc W e (semE Γ b)) (hs : NoSl e) : OkE S N sc W (.Subscript (.Name x p) e pos) (semE Γ (.dat i b)) := by
  obtain ⟨tb, h1, h2⟩ := hb
  refine ⟨tDGet (tVar i) tb, fun y g => pe_dget (by have := g.hu; omega) (pe_var hN (by rw [g.sc]; exact hv) hd hd2) (h1 y g) hs, fun cs Mc M ρ σ H Q k x R X hs hk => ?_⟩
  obtain ⟨h0, hs⟩ := hs
  obtain ⟨fr, kvs0, q0⟩ := ownD_of h0
  obtain ⟨a, e0, m0, xs0, c0, _⟩ := R.ownA q0
  refine ⟨_, e0, ?_⟩
  refine h2 cs Mc M ρ σ H _ _ x R X hs fun d ρ1 M1 v H1 p1 r1 q1 => ?_
  split at q1
  · rename_i y fr2 kvs hy hρ
    obtain ⟨a2, e2, m2, xs2, c2, kv2⟩ := p1.rel.ownA hρ
    rw [e0] at e2
    cases e2
    rw [keyD_v r1 hy]
    obtain ⟨e, hl, q1⟩ := q1
    obtain ⟨u, z1, z2⟩ := (kvs_look (k := y) kv2).2 _ hl
    refine ⟨a, u, rfl, ?_, hk _ _ _ _ _ p1 z2 q1⟩
    rw [← z1]
    exact DGet.k c2
  · exact q1.elim

/-! ### pop -/
theorem ok_pop {i : Nat} {x : Str} {p apos pos : Pos} {e : Expr} {b : DE} (hN : N[i]? = some x) (hv : Vis sc x) (hd : (x == ("__debug__" : Str)) = false) (hd2 : (x == ("__classdict__" : Str)) = false)
    (hb : OkE S N sc W e (semE Γ b)) (hbase : ∀ env, attributeBase (.Name x p) "pop" env (eval (.Name x p) env) = eval (.Name x p) env)
    (hfew : ∀ env, ((backTo pos (starEach [e] env)).all (fun x => !x.1) && (backToKw pos (keywordEach [] env)).all (fun x => x.1.isSome)
      && decide (([e] : List Expr).length + ([] : List Keyword).length + (if ([] : List Keyword).isEmpty then 0 else 1) < 30)) = true)
    (hline : (apos.endLine == pos.line) = true) (hs2 : ∀ env, starEach [e] env = (false, eval e env) :: starEach [] env) : OkE S N sc W (.Call (.Attribute (.Name x p) "pop" apos) [e] [] pos) (semE Γ (.pop i b)) := by
  obtain ⟨tb, h1, h2⟩ := hb
  refine ⟨tBM S.K "list" rPopAt (tVar i) (tCons tb tNil), fun y g => pe_bm PySem.F.plainAttrs_list PySem.F.slot_list_pop PySem.F.type_list_pop mt_popAt (pe_var hN (by rw [g.sc]; exact hv) hd hd2) (pa_cons (h1 y g) pa_nil (hs2 _)) (hbase _) (hfew _) hline (hs2 _) rfl, fun cs Mc M ρ σ H Q k x R X hs hk => ?_⟩
  obtain ⟨h0, hs⟩ := hs
  obtain ⟨fr, ds0, q0⟩ := own_of h0
  obtain ⟨a, e0, m0, xs0, c0, _⟩ := R.ownA q0
  refine ⟨_, e0, (.inl ⟨rfl, xs0, SqL.of c0⟩ : tyV S.K "list" (.ref a) H), ?_⟩
  refine h2 cs Mc M ρ σ H _ _ x R X hs fun d ρ1 M1 v H1 p1 r1 q1 => ?_
  split at q1
  · rename_i j fr2 ds hρ
    obtain ⟨⟨j0, j1⟩, y, hy, q1⟩ := q1
    obtain ⟨a2, e2, m2, xs2, c2, rd2⟩ := p1.rel.ownA hρ
    rw [e0] at e2
    cases e2
    cases r1
    obtain ⟨u, z1, z2⟩ := rd2.get hy
    have hj : j = (j.toNat : Int) := by omega
    have hlt : j.toNat < xs2.length := (List.getElem?_eq_some_iff.mp z1).1
    have hix : seqIndex? j xs2.length = some j.toNat := by
      refine (ixN_seq (n := xs2.length) ?_).1
      unfold ixN
      rw [if_pos j0, if_pos (by omega)]
    refine ⟨a, xs2, j, j.toNat, u, rfl, rfl, c2, by omega, j1, hix, z1, ?_⟩
    have P := p1.rel.write hρ e0 (rd2.eraseIdx j.toNat)
    exact hk _ _ _ _ _ (p1.trans P) (P.rd p1.rel z2) q1
  · exact q1.elim

/-! ### the script -/
theorem ScOk.sq {K : PySem.W.Frag} {a : Addr} {ns : List Int} (h : ScOk K H a ns) : SqL K H a (ns.map V.int) := by
  rcases h with ⟨o, h⟩ | h
  · exact .inl (.inr ⟨o, h⟩)
  · rcases h with (h | ⟨o, h⟩) | h
    · cases h
    · cases h
    · exact .inr h
theorem ok_slen {i : Nat} {x xl : Str} {p p2 pos : Pos} (B : BiN S sc xl (.builtin "len")) (hN : N[i]? = some x) (hv : Vis sc x) (hd : (x == ("__debug__" : Str)) = false) (hd2 : (x == ("__classdict__" : Str)) = false) :
    OkE S N sc W (.Call (.Name xl p) [.Name x p2] [] pos) (semE Γ (.slen i)) := by
  refine ⟨tCB (fun xs H Q => ∃ x n, xs = [x] ∧ LenV S.K x H n ∧ Q (.int n) H) (tCons (tVar i) tNil), fun y g => pe_callB call_len (gd_gl g B.gl) B.mg B.bt (pa_cons (pe_var hN (by rw [g.sc]; exact hv) hd hd2) pa_nil rfl) B.nn B.db rfl rfl, fun cs Mc M ρ σ H Q k x R X hs hk => ?_⟩
  have hs : (match ρ[i]? with
    | some (.sc ns) => k (.int ns.length) ρ
    | _ => False) := hs
  split at hs
  · rename_i ns hρ
    obtain ⟨ov, e, a, rfl, r⟩ := R.slot hρ
    have r : ScOk S.K H a ns := r
    exact ⟨_, e, _, _, rfl, .inl ⟨_, r.sq, rfl⟩, hk _ _ _ _ _ (Post.refl R) (.int _) (by rw [List.length_map]; exact hs)⟩
  · exact hs.elim
theorem ok_sat {i : Nat} {x : Str} {p pos : Pos} {e : Expr} {b : DE} (hN : N[i]? = some x) (hv : Vis sc x) (hd : (x == ("__debug__" : Str)) = false) (hd2 : (x == ("__classdict__" : Str)) = false)
    (hb : OkE S N sc W e (semE Γ b)) (hs : PlainIx e) : OkE S N sc W (.Subscript (.Name x p) e pos) (semE Γ (.sat i b)) := by
  obtain ⟨tb, h1, h2⟩ := hb
  refine ⟨tOp (rIxL S.K) (tVar i) tb, fun y g => pe_ix ix_list (pe_var hN (by rw [g.sc]; exact hv) hd hd2) (h1 y g) hs, fun cs Mc M ρ σ H Q k x R X hs hk => ?_⟩
  obtain ⟨h0, hs⟩ := hs
  obtain ⟨v0, e0⟩ := R.val h0
  refine ⟨_, e0, ?_⟩
  refine h2 cs Mc M ρ σ H _ _ x R X hs fun d ρ1 M1 v H1 p1 r1 q1 => ?_
  split at q1
  · rename_i j ns hρ
    obtain ⟨n, hn, q1⟩ := q1
    obtain ⟨ov, e, a, rfl, r⟩ := p1.rel.slot hρ
    have r : ScOk S.K H1 a ns := r
    rw [e0] at e
    cases e
    cases r1
    have hat : atI (ns.map V.int) j = some (V.int n) := by
      unfold atI at hn ⊢
      rw [List.length_map]
      cases hx : ixN ns.length j with
      | none => rw [hx] at hn; cases hn
      | some m =>
        rw [hx] at hn
        have hn : ns[m]? = some n := hn
        show (ns.map V.int)[m]? = _
        rw [List.getElem?_map, hn]
        rfl
    exact ⟨a, _, j, _, rfl, rfl, r.sq, hat, hk _ _ _ _ _ p1 (.int n) q1⟩
  · exact q1.elim
end
end DL

end

section
namespace DL
open PySem PySem.Spec PyProof.Rows L2

/-! enumerate of a tuple -/
theorem enum_new1 {v : Value} {o : Obj} {G : Heap → Prop} (B : Begins v o G) :
    Meets (Builtin.«enumerate.__new__» ⟨[.type "enumerate", v], []⟩) (fun _ R s => G s.heap ∧
      R (.ok (.ret (.ref (s.heap.push o).objs.size))) { s with heap := (s.heap.push o).push { cls := .type "enumerate", data := .fields #[.none, .bool false, .ref s.heap.objs.size, rawInt 0, .none, .none] } }) :=
  .of_wp fun prog w A R s h => by
    obtain ⟨hp, g, d, tk, os⟩ := s
    obtain ⟨h1, h⟩ := h
    have hsub := sub_enumerate
    have it1 : ∀ {A' : Around} {E : Value → Shared → Prop} {Q : Value → Shared → Prop}, Q (.ref hp.objs.size) ⟨hp.push o, g, d, tk, os⟩ → wpAny (model prog w) A' (pyIter v) Q E ⟨hp, g, d, tk, os⟩ :=
      fun q => B.iter prog w _ _ ⟨hp, g, d, tk, os⟩ _ h1 q
    wp_walk using it1
    refine wpAny_stack_any fun st => wpAny_pure ?_
    split
    · rename_i c _ _ _ _ _
      cases (c == Value.type "enumerate") <;> (wp_walk using it1; exact ⟨_, rfl, h⟩)
    · wp_walk using it1
      exact ⟨_, rfl, h⟩
theorem call_enum1 {prog : Program} {w : World} {A : Around} {E : Value → Shared → Prop} {s : Shared} {v : Value} {o : Obj} {G : Heap → Prop} {Q : Value → Shared → Prop} (B : Begins v o G) (h1 : G s.heap)
    (h : ∀ h', IsEnum h' (s.heap.objs.size + 1) s.heap.objs.size 0 .none → h'.get? s.heap.objs.size = some o → (∀ b o, s.heap.get? b = some o → h'.get? b = some o) → Q (.ref (s.heap.objs.size + 1)) { s with heap := h' }) :
    wpAny (model prog w) A (call (.type "enumerate") [v]) Q E s := by
  refine callType_new F.called_enumerate (by decide) (F.typeCall_enumerate_1 _) (F.newCall_enumerate_1 _) (fun obj => F.args_object_init_2 obj _) F.entry_enumerate_new (enum_new1 B) ⟨h1, ?_⟩
  have hz : (s.heap.push o).objs.size = s.heap.objs.size + 1 := Heap.size_push ..
  show _ ∧ _
  rw [hz]
  have he : IsEnum ((s.heap.push o).push { cls := .type "enumerate", data := .fields #[.none, .bool false, .ref s.heap.objs.size, rawInt 0, .none, .none] }) (s.heap.objs.size + 1) s.heap.objs.size 0 .none := by
    have q := Heap.get?_push_size (s.heap.push o) (o := { cls := .type "enumerate", data := .fields #[.none, .bool false, .ref s.heap.objs.size, rawInt 0, .none, .none] }) rfl
    rw [hz] at q
    exact q
  exact ⟨⟨_, he, rfl⟩, h _ he (Heap.get?_push_of_some _ (Heap.get?_push_size _ B.free)) fun b o x => Heap.get?_push_of_some _ (Heap.get?_push_of_some _ x)⟩

def IteT (K : PySem.W.Frag) (a : Addr) : It :=
  ⟨fun i H => ∃ (xs : List V) (x : V), SqT K H a xs ∧ xs[i]? = some x, fun i H v H' => ∃ T x, v = .ref T ∧ H T = none ∧ H' = upd H T (.tup [.int (i : Nat), x]) ∧ ∀ xs, SqT K H a xs → xs[i]? = some x, fun i H => ∃ xs : List V, SqT K H a xs ∧ xs.length = i⟩
theorem ne_iter {h : Heap} {a it : Addr} {its : Array Value} {i : Nat} (p : IsTup h a its) (q : h.IsTupleIter it a i) : a ≠ it := by
  obtain ⟨o, h1, h2, _⟩ := p
  obtain ⟨o2, h3, h4, _⟩ := q
  rintro rfl
  rw [h1] at h3
  cases h3
  rw [h2] at h4
  exact absurd h4 (by simp)
theorem turn_enumT {P : Program} {w : World} {K : PySem.W.Frag} {elts : List Expr} {kk : Nat} {tpos : Pos} (a e it : Addr) :
    Turn P w K (.Tuple elts kk tpos) (IteT K a) [e, it] e (fun i h => (∃ old, IsEnum h e it ((i : Nat) : Int) old) ∧ h.IsTupleIter it a i ∧ e ≠ it) where
  mem := List.mem_cons_self
  obj := fun i h st b hb => by
    obtain ⟨⟨old, he⟩, ⟨o, ho, hc, hd⟩, _⟩ := st
    rcases List.mem_cons.mp hb with z | z
    · subst z; exact ⟨_, he, fun v q => nomatch q⟩
    · rw [List.mem_singleton.mp z]; exact ⟨o, ho, fun v q => by rw [hd] at q; cases q⟩
  keep := fun i h h' st k => let ⟨⟨old, he⟩, hi, hne⟩ := st; ⟨⟨old, k e (by simp) _ he⟩, hi.at fun o q => k it (by simp) o q, hne⟩
  item := by
    intro X hP hw hK hc i pins s σ H E I hf st hg
    subst hP hw hK
    obtain ⟨⟨old, he⟩, hit, hne⟩ := st
    obtain ⟨xs, x, hq, hx⟩ := hg
    obtain ⟨its, rv, p, hz⟩ := I.tuple hq
    obtain ⟨u, hu, ru⟩ := rv.get hx
    have hel : e < s.heap.objs.size := Heap.lt_size he
    have hil : it < s.heap.objs.size := by obtain ⟨_, q, _⟩ := hit; exact Heap.lt_size q
    have hae : e ≠ a := by
      obtain ⟨o, h1, h2, _⟩ := p
      rintro rfl
      rw [show s.heap.get? e = _ from he] at h1
      cases h1
      exact absurd h2 (by simp)
    have hlt : i < its.toArray.size := by rw [List.size_toArray]; exact (List.getElem?_eq_some_iff.mp hu).1
    refine wpAny_pyNext_enum_itemC (n := its.toArray.size) (Draws.tuple (by first | exact I.ok.hd hc | exact (Room.in1 ⟨I.ok.hd hc, by omega, by omega⟩).hd) it a (ne_iter p hit) its.toArray) he ⟨hit, p⟩ hlt hne (by
      intro hm
      rcases List.mem_cons.mp hm with z | z
      · exact hne z
      · exact hae (List.mem_singleton.mp z)) fun y h' tk hy ho st' hT hsz hk => ?_
    have ey : y = u := by
      have hy : its.toArray[i]? = some y := hy
      rw [List.getElem?_toArray] at hy
      rw [hu] at hy
      exact (Option.some.inj hy).symm
    subst ey
    have hit' := st'.1
    refine ⟨_, rfl, wpAny_letOwnedTupleGo_enum (s := { s with heap := h', toks := tk + 1 }) ho fun h'' he' sb => ?_⟩
    have hT2 : h''.get? s.heap.objs.size = some { cls := .type "tuple", data := .seq #[.int i tk, y] } := (sb.2 _ (Nat.ne_of_gt hel)).trans hT
    have new : ObjOk X.prog X.w (upd H s.heap.objs.size (.tup [.int (i : Nat), x])) h'' s.heap.objs.size (.tup [.int (i : Nat), x]) :=
      ⟨by show 2 ≤ sizeLine; decide, [.int i tk, y], .cons ⟨_, rfl⟩ (.cons ru .nil), ⟨_, hT2, rfl, _, rfl⟩⟩
    have I1 : Inv X pins σ (upd H s.heap.objs.size (.tup [.int (i : Nat), x])) { s with heap := h'', toks := tk + 1 } :=
      I.turnedNew (ch := [e, it]) (fun b ob hb q => (sb.2 b (fun z => hb (by simp [z]))).trans (hk b ob (fun z => hb (by simp [z])) (fun z => hb (by simp [z])) q)) hf (Nat.le_refl _) new
    refine ⟨.ref s.heap.objs.size, _, I1, rfl, ⟨_, x, rfl, I.hok.fresh (Nat.le_refl _), rfl, fun ys hy => by rw [I.tuple_inj hy hq]; exact hx⟩, ⟨⟨y, ?_⟩, hit'.at fun o q => (sb.2 it (Ne.symm hne)).trans q, hne⟩, fun b hb => ?_⟩
    · have e1 : ((i + 1 : Nat) : Int) = (i : Int) + 1 := by omega
      rw [e1]; exact he'
    · have hb' : b < s.heap.objs.size := by
        rcases List.mem_cons.mp hb with z | z
        · rw [z]; exact hel
        · rw [List.mem_singleton.mp z]; exact hil
      rw [upd_ne (Nat.ne_of_lt hb')]
      exact (hf b hb).1
  done := by
    intro X hP hw hK hc i pins s σ H E I hf st hg
    subst hP hw hK
    obtain ⟨⟨old, he⟩, hit, hne⟩ := st
    obtain ⟨xs, hq, hx⟩ := hg
    obtain ⟨its, rv, p, hz⟩ := I.tuple hq
    obtain ⟨f0, f1, f2, f3, f4, f5⟩ := hf it (by simp)
    have hi : i = its.toArray.size := by rw [List.size_toArray, ← rv.length, hx]
    refine wpAny_pyNext_enum_endD (n := its.toArray.size) (Draws.tuple (by first | exact I.ok.hd hc | exact (Room.in1 ⟨I.ok.hd hc, by omega, by omega⟩).hd) it a (ne_iter p hit) its.toArray) he ⟨by rw [← hi]; exact hit, p⟩ fun h' eb => ⟨rfl, I.turned (t' := s.toks) (fun b o hb q => eb b o hb q) f0 f1 f3 f4 f5⟩
  self := fun A i s Q E st h => let ⟨⟨_, he⟩, _⟩ := st; wpAny_pyIter_enum he h
def iEnumT (K : PySem.W.Frag) (ta : TA) : TI := fun σ H R => ta σ H fun vs H1 => ∃ a xs, vs = [.ref a] ∧ ((SqL K H1 a xs ∧ R (Ite K a) H1) ∨ (SqT K H1 a xs ∧ R (IteT K a) H1))
theorem pi_enumA {X : Cx} {e : Expr} {ta : TA} {p pos tpos : Pos} {elts : List Expr} {kk : Nat} (hg : Gl X "enumerate") (hm : X.mg "enumerate" = none) (ha : PA X [e] ta) (hs : starEach [e] X.env = [(false, eval e X.env)]) :
    PI X (.Tuple elts kk tpos) (.Call (.Name "enumerate" p) [e] [] pos) (iEnumT X.K ta) := by
  refine ⟨fun pins s σ H R I h => Call_ (ld_blt I hg hm boot_enumerate (PyProof.Rows.callWith_type1 (thn (ha.run pos pins s σ H _ I h) fun us s1 ⟨vs, H1, I1, r1, q1⟩ => ?_) hs rfl))⟩
  obtain ⟨a, xs, ex, q1⟩ := q1
  subst ex
  have fp2 : ∀ b ∈ [s1.heap.objs.size + 1, s1.heap.objs.size], FpOk X pins H1 b := fun b hb => by
    have hle : s1.heap.objs.size ≤ b := by
      rcases List.mem_cons.mp hb with z | z
      · rw [z]; exact Nat.le_add_right _ _
      · rw [List.mem_singleton.mp z]; exact Nat.le_refl _
    exact I1.fpOk hle (I1.hok.fresh hle)
  obtain ⟨u, eu, rx⟩ := vals1 r1
  subst eu
  cases rx
  rcases q1 with ⟨hq, q⟩ | ⟨hq, q⟩
  · obtain ⟨its, rv, p', hz⟩ := I1.list hq
    refine call_enumerate_list p'.isList fun h' he hit hsz hk => wpAny_pyIter_enum he ?_
    exact ⟨s1.heap.objs.size + 1, [s1.heap.objs.size + 1, s1.heap.objs.size], _, _, H1, rfl, I1.kept (t' := s1.toks) hk, turn_enum a (s1.heap.objs.size + 1) s1.heap.objs.size, ⟨⟨.none, he⟩, hit, Nat.succ_ne_self _⟩, fp2, q⟩
  · obtain ⟨its, rv, p', hz⟩ := I1.tuple hq
    refine call_enum1 (begins_tuple a its.toArray) p' fun h' he hit hk => wpAny_pyIter_enum he ?_
    exact ⟨s1.heap.objs.size + 1, [s1.heap.objs.size + 1, s1.heap.objs.size], _, _, H1, rfl, I1.kept (t' := s1.toks) hk, turn_enumT a (s1.heap.objs.size + 1) s1.heap.objs.size, ⟨⟨.none, he⟩, ⟨_, hit, rfl, rfl⟩, Nat.succ_ne_self _⟩, fp2, q⟩
/-- a list or a tuple, walked -/
def iSeq (K : PySem.W.Frag) (tl : TE) : TI := fun σ H R => tl σ H fun x H1 => ∃ a xs, x = .ref a ∧ ((SqL K H1 a xs ∧ R (Itl K a) H1) ∨ (SqT K H1 a xs ∧ R (Itt K a) H1))
theorem pi_seq {X : Cx} {tg l : Expr} {tl : TE} (hl : PE X l tl) : PI X tg l (iSeq X.K tl) := by
  refine ⟨fun pins s σ H R I h => thn (hl.run pins s σ H _ I h) fun v s1 ⟨x, H1, I1, r1, a, xs, ex, q1⟩ => ?_⟩
  subst ex
  cases r1
  have fp1 : ∀ b ∈ [s1.heap.objs.size], FpOk X pins H1 b := fun b hb => by
    rw [List.mem_singleton.mp hb]
    exact I1.fpOk (Nat.le_refl _) (I1.hok.fresh (Nat.le_refl _))
  rcases q1 with ⟨hq, q⟩ | ⟨hq, q⟩
  · obtain ⟨its, rv, p, hz⟩ := I1.list hq
    refine wpAny_pyIter_list p.isList ?_
    exact ⟨s1.heap.objs.size, [s1.heap.objs.size], _, _, H1, rfl, I1.kept (t' := s1.toks) fun b o e => Heap.get?_push_of_some _ e, turn_list a _, ⟨_, Heap.get?_push_size _ rfl, rfl, rfl⟩, fp1, q⟩
  · obtain ⟨its, rv, p, hz⟩ := I1.tuple hq
    refine wpAny_pyIter_tuple (show s1.heap.IsTuple a its.toArray from p) ?_
    exact ⟨s1.heap.objs.size, [s1.heap.objs.size], _, _, H1, rfl, I1.kept (t' := s1.toks) fun b o e => Heap.get?_push_of_some _ e, turn_tuple a _, ⟨_, Heap.get?_push_size _ rfl, rfl, rfl⟩, fp1, q⟩
end DL

end

section
namespace DL
open PySem PySem.Spec PyProof.Rows L2

/-! ### what is walked -/
/-- an item: data, or a pair that is about to be taken apart -/
def TD (K : PySem.W.Frag) (nm : Bool) (M : AS) (H : Hp) (v : V) (d : D) : Prop :=
  RD K M H v d ∨ (nm = false ∧ ∃ a xs ds, v = .ref a ∧ d = .tuple ds ∧ SqT K H a xs ∧ RDs K M H xs ds)
structure Itm (K : PySem.W.Frag) (nm : Bool) (J : It) (xs : List D) (Lv : AS → Hp → Prop) : Prop where
  go : ∀ (i : Nat) (M : AS) (H : Hp) (d : D), xs[i]? = some d → Lv M H → J.go i H ∧ ∀ v H', J.yld i H v H' → Kp (fun _ => False) H H' ∧ TD K nm M H' v d
  stop : ∀ (M : AS) (H : Hp), Lv M H → J.stop xs.length H
section
variable {K : PySem.W.Frag} {nm : Bool}
theorem itm_list {a : Addr} {ds : List D} : Itm K nm (Itl K a) ds (fun M H => RB K M H (.ref a) (.list ds)) := by
  refine ⟨fun i M H d hd hl => ?_, fun M H hl => ?_⟩
  · obtain ⟨b, xs, e, h1, h2⟩ := hl.list
    cases e
    obtain ⟨v, z1, z2⟩ := h2.get hd
    refine ⟨⟨xs, v, SqL.of h1, z1⟩, fun u H' y => ?_⟩
    obtain ⟨rfl, y⟩ := y
    have := y xs (SqL.of h1)
    rw [z1] at this
    cases this
    exact ⟨.refl, .inl z2⟩
  · obtain ⟨b, xs, e, h1, h2⟩ := hl.list
    cases e
    exact ⟨xs, SqL.of h1, Nat.le_of_eq h2.len⟩
theorem itm_tup {a : Addr} {ds : List D} : Itm K nm (Itt K a) ds (fun M H => RB K M H (.ref a) (.tuple ds)) := by
  refine ⟨fun i M H d hd hl => ?_, fun M H hl => ?_⟩
  · obtain ⟨b, xs, e, h1, h2⟩ := hl.tup
    cases e
    obtain ⟨v, z1, z2⟩ := h2.get hd
    refine ⟨⟨xs, v, h1, z1⟩, fun u H' y => ?_⟩
    obtain ⟨rfl, y⟩ := y
    have := y xs h1
    rw [z1] at this
    cases this
    exact ⟨.refl, .inl z2⟩
  · obtain ⟨b, xs, e, h1, h2⟩ := hl.tup
    cases e
    exact ⟨xs, h1, Nat.le_of_eq h2.len⟩
theorem itm_rng {lo : Int} {n : Nat} : Itm K nm (Itr lo n) (rangeD lo n) (fun _ _ => True) := by
  have hl : (rangeD lo n).length = n := by unfold rangeD; rw [List.length_map, List.length_range]
  refine ⟨fun i M H d hd _ => ?_, fun M H _ => by rw [hl]; exact Nat.le_refl n⟩
  have hi : i < n := by rw [← hl]; exact (List.getElem?_eq_some_iff.mp hd).1
  have e : d = .int (lo + (i : Nat)) := by
    unfold rangeD at hd
    rw [List.getElem?_map, List.getElem?_range hi] at hd
    exact (Option.some.inj hd).symm
  refine ⟨hi, fun v H' y => ?_⟩
  obtain ⟨rfl, rfl⟩ := y
  subst e
  exact ⟨.refl, .inl (.int _)⟩
theorem zip_at {α β : Type} {xs : List α} {ys : List β} {i : Nat} {p : α × β} (h : (xs.zip ys)[i]? = some p) : xs[i]? = some p.1 ∧ ys[i]? = some p.2 := by
  rw [List.getElem?_zip_eq_some] at h
  exact h
theorem itm_pair {J : It} {xs ys : List D} {Lv : AS → Hp → Prop} (hgo : ∀ (i : Nat) (M : AS) (H : Hp) (d e : D), xs[i]? = some d → ys[i]? = some e → Lv M H → J.go i H ∧ ∀ v H', J.yld i H v H' → ∃ T x y, v = .ref T ∧ H T = none ∧ H' = upd H T (.tup [x, y]) ∧ RD K M H x d ∧ RD K M H y e)
    (hst : ∀ (M : AS) (H : Hp), Lv M H → J.stop (xs.zip ys).length H) : Itm K false J ((xs.zip ys).map fun p => .tuple [p.1, p.2]) Lv := by
  refine ⟨fun i M H d hd hl => ?_, fun M H hl => by rw [List.length_map]; exact hst M H hl⟩
  rw [List.getElem?_map] at hd
  cases hp : (xs.zip ys)[i]? with
  | none => rw [hp] at hd; cases hd
  | some p =>
    rw [hp] at hd
    obtain rfl : d = .tuple [p.1, p.2] := (Option.some.inj hd).symm
    obtain ⟨h1, h2⟩ := zip_at hp
    obtain ⟨g1, g2⟩ := hgo i M H _ _ h1 h2 hl
    refine ⟨g1, fun v H' y => ?_⟩
    obtain ⟨T, x, z, rfl, hT, rfl, r1, r2⟩ := g2 v H' y
    have k : Kp (fun _ => False) H (upd H T (.tup [x, z])) := Kp.fresh hT
    exact ⟨k, .inr ⟨rfl, T, [x, z], _, rfl, rfl, SqT.of upd_same, .cons (r1.kp k (fun _ q => q.elim) fun b q => .inl q) (.cons (r2.kp k (fun _ q => q.elim) fun b q => .inl q) .nil)⟩⟩
theorem zlen {α β : Type} (xs : List α) (ys : List β) : xs.length ≤ (xs.zip ys).length ∨ ys.length ≤ (xs.zip ys).length := by
  rw [List.length_zip]
  omega
theorem itm_zipL {a b : Addr} {xs ys : List D} : Itm K false (Itz K a b) ((xs.zip ys).map fun p => .tuple [p.1, p.2]) (fun M H => RB K M H (.ref a) (.list xs) ∧ RB K M H (.ref b) (.list ys)) := by
  refine itm_pair (fun i M H d e hd he hl => ?_) fun M H hl => ?_
  · obtain ⟨a2, us, e1, h1, h2⟩ := hl.1.list
    obtain ⟨b2, ws, e2, h3, h4⟩ := hl.2.list
    cases e1; cases e2
    obtain ⟨x, z1, z2⟩ := h2.get hd
    obtain ⟨y, z3, z4⟩ := h4.get he
    refine ⟨⟨us, ws, x, y, SqL.of h1, SqL.of h3, z1, z3⟩, fun v H' q => ?_⟩
    obtain ⟨T, x', y', rfl, hT, rfl, q1, q2⟩ := q
    have q1 := q1 us (SqL.of h1)
    have q2 := q2 ws (SqL.of h3)
    rw [z1] at q1; rw [z3] at q2
    cases q1; cases q2
    exact ⟨T, x, y, rfl, hT, rfl, z2, z4⟩
  · obtain ⟨a2, us, e1, h1, h2⟩ := hl.1.list
    obtain ⟨b2, ws, e2, h3, h4⟩ := hl.2.list
    cases e1; cases e2
    refine ⟨us, ws, SqL.of h1, SqL.of h3, ?_⟩
    rw [h2.len, h4.len]
    exact zlen xs ys
theorem itm_zipT {a b : Addr} {xs ys : List D} : Itm K false (RZ.ItzT K a b) ((xs.zip ys).map fun p => .tuple [p.1, p.2]) (fun M H => RB K M H (.ref a) (.tuple xs) ∧ RB K M H (.ref b) (.tuple ys)) := by
  refine itm_pair (fun i M H d e hd he hl => ?_) fun M H hl => ?_
  · obtain ⟨a2, us, e1, h1, h2⟩ := hl.1.tup
    obtain ⟨b2, ws, e2, h3, h4⟩ := hl.2.tup
    cases e1; cases e2
    obtain ⟨x, z1, z2⟩ := h2.get hd
    obtain ⟨y, z3, z4⟩ := h4.get he
    refine ⟨⟨us, ws, x, y, h1, h3, z1, z3⟩, fun v H' q => ?_⟩
    obtain ⟨T, x', y', rfl, hT, rfl, q1, q2⟩ := q
    have q1 := q1 us h1
    have q2 := q2 ws h3
    rw [z1] at q1; rw [z3] at q2
    cases q1; cases q2
    exact ⟨T, x, y, rfl, hT, rfl, z2, z4⟩
  · obtain ⟨a2, us, e1, h1, h2⟩ := hl.1.tup
    obtain ⟨b2, ws, e2, h3, h4⟩ := hl.2.tup
    cases e1; cases e2
    refine ⟨us, ws, h1, h3, ?_⟩
    rw [h2.len, h4.len]
    exact zlen xs ys
theorem enumD_at {xs : List D} {i : Nat} {d : D} (h : (enumD xs)[i]? = some d) : ∃ e, xs[i]? = some e ∧ d = .tuple [.int (i : Nat), e] := by
  unfold enumD at h
  rw [List.getElem?_map, List.getElem?_zipIdx] at h
  cases hx : xs[i]? with
  | none => rw [hx] at h; cases h
  | some e =>
    rw [hx] at h
    simp at h
    exact ⟨e, rfl, h.symm⟩
theorem enumD_len (xs : List D) : (enumD xs).length = xs.length := by unfold enumD; rw [List.length_map, List.length_zipIdx]
theorem itm_enumL {a : Addr} {xs : List D} : Itm K false (Ite K a) (enumD xs) (fun M H => RB K M H (.ref a) (.list xs)) := by
  refine ⟨fun i M H d hd hl => ?_, fun M H hl => ?_⟩
  · obtain ⟨e, he, rfl⟩ := enumD_at hd
    obtain ⟨a2, us, e1, h1, h2⟩ := hl.list
    cases e1
    obtain ⟨x, z1, z2⟩ := h2.get he
    refine ⟨⟨us, x, SqL.of h1, z1⟩, fun v H' q => ?_⟩
    obtain ⟨T, x', rfl, hT, rfl, q1⟩ := q
    have q1 := q1 us (SqL.of h1)
    rw [z1] at q1
    cases q1
    have k : Kp (fun _ => False) H (upd H T (.tup [.int (i : Nat), x])) := Kp.fresh hT
    exact ⟨k, .inr ⟨rfl, T, _, _, rfl, rfl, SqT.of upd_same, .cons (.int _) (.cons (z2.kp k (fun _ q => q.elim) fun b q => .inl q) .nil)⟩⟩
  · obtain ⟨a2, us, e1, h1, h2⟩ := hl.list
    cases e1
    exact ⟨us, SqL.of h1, by rw [h2.len, enumD_len]; exact Nat.le_refl _⟩
theorem itm_enumT {a : Addr} {xs : List D} : Itm K false (IteT K a) (enumD xs) (fun M H => RB K M H (.ref a) (.tuple xs)) := by
  refine ⟨fun i M H d hd hl => ?_, fun M H hl => ?_⟩
  · obtain ⟨e, he, rfl⟩ := enumD_at hd
    obtain ⟨a2, us, e1, h1, h2⟩ := hl.tup
    cases e1
    obtain ⟨x, z1, z2⟩ := h2.get he
    refine ⟨⟨us, x, h1, z1⟩, fun v H' q => ?_⟩
    obtain ⟨T, x', rfl, hT, rfl, q1⟩ := q
    have q1 := q1 us h1
    rw [z1] at q1
    cases q1
    have k : Kp (fun _ => False) H (upd H T (.tup [.int (i : Nat), x])) := Kp.fresh hT
    exact ⟨k, .inr ⟨rfl, T, _, _, rfl, rfl, SqT.of upd_same, .cons (.int _) (.cons (z2.kp k (fun _ q => q.elim) fun b q => .inl q) .nil)⟩⟩
  · obtain ⟨a2, us, e1, h1, h2⟩ := hl.tup
    cases e1
    exact ⟨us, h1, by rw [h2.len, enumD_len]⟩
end

/-- what lives on: the walked thing, as long as what was apart or new is all that changes -/
def Stay (K : PySem.W.Frag) (Ms : AS) (Hs : Hp) (Lv : AS → Hp → Prop) : Prop := ∀ (M2 : AS) (H2 : Hp) (Z : AS), Kp Z Hs H2 → (∀ b, Z b → Ms b ∨ Hs b = none) → (∀ b, M2 b → Ms b ∨ Hs b = none) → Lv M2 H2
theorem stay_rd {K : PySem.W.Frag} {Ms M2 Z : AS} {Hs H2 : Hp} {v : V} {d : D} (r : RD K Ms Hs v d) (k : Kp Z Hs H2) (hz : ∀ b, Z b → Ms b ∨ Hs b = none) (hm : ∀ b, M2 b → Ms b ∨ Hs b = none) : RD K M2 H2 v d :=
  r.keep (fun b o nb e => k.keep b o (fun z => (hz b z).elim nb fun q => by rw [q] at e; cases e) e) (fun _ _ => k.sqF) hm
section
variable {S : Sx} {N : List Str} {sc : Scope} {W : WX} {Γ : Gm}
/-- an iteration over what stays -/
def SndI (S : Sx) (W : WX) (nm : Bool) (wi : TI) (s : SE) : Prop := ∀ (cs : List Bs) (Mc M : AS) (ρ : Ro) (σ : L2.St) (H : Hp) (R : It → Hp → Prop) (k : List D → Ro → Prop) (x : Ex → Prop), RelS S.K cs Mc M ρ σ H → XOk S W cs x → s ρ (kIt k) x →
  (∀ xs ρ' M' J H' Lv, Post S.K cs Mc M ρ σ H M' ρ' H' → Itm S.K nm J xs Lv → Stay S.K M' H' Lv → k xs ρ' → R J H') → wi σ H R
def OkI (S : Sx) (N : List Str) (sc : Scope) (W : WX) (nm : Bool) (tg e : Expr) (s : SE) : Prop := ∃ wi, (∀ y, Gd S N sc W y → PI (cx S N y) tg e wi) ∧ SndI S W nm wi s
theorem oi_seq {tg e : Expr} {nm : Bool} {a : DE} (h : OkE S N sc W e (semE Γ a)) : OkI S N sc W nm tg e (semE Γ a) := by
  obtain ⟨te, h1, h2⟩ := h
  refine ⟨iSeq S.K te, fun y g => pi_seq (h1 y g), fun cs Mc M ρ σ H R k x Rr X hs hk => ?_⟩
  refine h2 cs Mc M ρ σ H _ _ x Rr X hs fun d ρ1 M1 v H1 p1 r1 q1 => ?_
  cases d <;> first | exact (show False from q1).elim | skip
  · obtain ⟨a, us, rfl, h3, h4⟩ := RB.list (.inl r1)
    exact ⟨a, us, rfl, .inl ⟨SqL.of h3, hk _ ρ1 M1 _ H1 _ p1 itm_list (fun M2 H2 Z k2 hz hm => .inl (stay_rd r1 k2 hz hm)) q1⟩⟩
  · obtain ⟨a, us, rfl, h3, h4⟩ := RB.tup (.inl r1)
    exact ⟨a, us, rfl, .inr ⟨h3, hk _ ρ1 M1 _ H1 _ p1 itm_tup (fun M2 H2 Z k2 hz hm => .inl (stay_rd r1 k2 hz hm)) q1⟩⟩
theorem oi_rng1 {tg e : Expr} {nm : Bool} {p pos : Pos} {a : DE} (B : BiN S sc "range" (.type "range")) (h : OkE S N sc W e (semE Γ a)) (hs : ∀ env, starEach [e] env = [(false, eval e env)]) : OkI S N sc W nm tg (.Call (.Name "range" p) [e] [] pos) (semE Γ (.rng1 a)) := by
  obtain ⟨te, h1, h2⟩ := h
  refine ⟨iRng1 (tCons te tNil), fun y g => pi_range1 (gd_gl g B.gl) B.mg (pa_cons (h1 y g) pa_nil (hs _)) (hs _), fun cs Mc M ρ σ H R k x Rr X hs hk => ?_⟩
  refine h2 cs Mc M ρ σ H _ _ x Rr X hs fun d ρ1 M1 v H1 p1 r1 q1 => ?_
  cases d <;> first | exact (show False from q1).elim | skip
  cases r1
  rename_i n
  obtain ⟨⟨z0, z⟩, q1⟩ : (-(2 ^ 62) ≤ n ∧ n < 2 ^ 61) ∧ kIt k (.list (rangeD 0 n.toNat)) ρ1 := q1
  exact ⟨n, rfl, z0, by omega, hk _ ρ1 M1 _ H1 _ p1 itm_rng (fun _ _ _ _ _ _ => trivial) q1⟩
theorem oi_rng2 {tg e f : Expr} {nm : Bool} {p pos : Pos} {a b : DE} (B : BiN S sc "range" (.type "range")) (h : OkE S N sc W e (semE Γ a)) (g : OkE S N sc W f (semE Γ b)) (hs : ∀ env, starEach [e, f] env = [(false, eval e env), (false, eval f env)]) (hs2 : ∀ env, starEach [f] env = [(false, eval f env)]) :
    OkI S N sc W nm tg (.Call (.Name "range" p) [e, f] [] pos) (semE Γ (.rng2 a b)) := by
  obtain ⟨te, h1, h2⟩ := h
  obtain ⟨tf, g1, g2⟩ := g
  refine ⟨iRng2 (tCons te (tCons tf tNil)), fun y gd => pi_range2 (gd_gl gd B.gl) B.mg (pa_cons (h1 y gd) (pa_cons (g1 y gd) pa_nil (hs2 _)) (by rw [hs, hs2])) (hs _) (hs2 _), fun cs Mc M ρ σ H R k x Rr X hs hk => ?_⟩
  refine h2 cs Mc M ρ σ H _ _ x Rr X hs fun d ρ1 M1 v H1 p1 r1 q1 => ?_
  refine g2 cs Mc M1 ρ1 σ H1 _ _ x p1.rel X q1 fun e ρ2 M2 w H2 p2 r2 q2 => ?_
  cases d <;> cases e <;> first | exact (show False from q2).elim | skip
  cases r1
  cases r2
  rename_i m n
  obtain ⟨⟨z1, z2, z3, z4⟩, q2⟩ := q2
  exact ⟨m, n, rfl, ⟨by omega, by omega, by omega, by omega⟩, hk _ ρ2 M2 _ H2 _ (p1.trans p2) itm_rng (fun _ _ _ _ _ _ => trivial) q2⟩
theorem oi_zip {tgs : List Expr} {kk : Nat} {e f : Expr} {p pos tpos : Pos} {a b : DE} (B : BiN S sc "zip" (.type "zip")) (h : OkE S N sc W e (semE Γ a)) (g : OkE S N sc W f (semE Γ b)) (hs : ∀ env, starEach [e, f] env = (false, eval e env) :: starEach [f] env) (hs2 : ∀ env, starEach [f] env = (false, eval f env) :: starEach [] env)
    (hpl : ∀ env, (backTo pos (starEach [f] env)).any (·.1) = false) : OkI S N sc W false (.Tuple tgs kk tpos) (.Call (.Name "zip" p) [e, f] [] pos) (semE Γ (.zip a b)) := by
  obtain ⟨te, h1, h2⟩ := h
  obtain ⟨tf, g1, g2⟩ := g
  refine ⟨RZ.iZipA S.K (tCons te (tCons tf tNil)), fun y gd => RZ.pi_zipA (gd_gl gd B.gl) B.mg (pa_cons (h1 y gd) (pa_cons (g1 y gd) pa_nil (hs2 _)) (hs _)) (hs _) (hpl _), fun cs Mc M ρ σ H R k x Rr X hs hk => ?_⟩
  refine h2 cs Mc M ρ σ H _ _ x Rr X hs fun d ρ1 M1 v H1 p1 r1 q1 => ?_
  refine g2 cs Mc M1 ρ1 σ H1 _ _ x p1.rel X q1 fun e ρ2 M2 w H2 p2 r2 q2 => ?_
  have r1 := p2.rd p1.rel r1
  cases d <;> cases e <;> first | exact (show False from q2).elim | skip
  · obtain ⟨a, us, rfl, h3, h4⟩ := RB.list (.inl r1)
    obtain ⟨b, ws, rfl, h5, h6⟩ := RB.list (.inl r2)
    exact ⟨a, b, us, ws, rfl, .inl ⟨SqL.of h3, SqL.of h5, hk _ ρ2 M2 _ H2 _ (p1.trans p2) itm_zipL (fun M2 H2 Z k2 hz hm => ⟨.inl (stay_rd r1 k2 hz hm), .inl (stay_rd r2 k2 hz hm)⟩) q2⟩⟩
  · obtain ⟨a, us, rfl, h3, h4⟩ := RB.tup (.inl r1)
    obtain ⟨b, ws, rfl, h5, h6⟩ := RB.tup (.inl r2)
    exact ⟨a, b, us, ws, rfl, .inr ⟨h3, h5, hk _ ρ2 M2 _ H2 _ (p1.trans p2) itm_zipT (fun M2 H2 Z k2 hz hm => ⟨.inl (stay_rd r1 k2 hz hm), .inl (stay_rd r2 k2 hz hm)⟩) q2⟩⟩
theorem oi_enum {tgs : List Expr} {kk : Nat} {e : Expr} {p pos tpos : Pos} {a : DE} (B : BiN S sc "enumerate" (.type "enumerate")) (h : OkE S N sc W e (semE Γ a)) (hs : ∀ env, starEach [e] env = [(false, eval e env)]) :
    OkI S N sc W false (.Tuple tgs kk tpos) (.Call (.Name "enumerate" p) [e] [] pos) (semE Γ (.enum a)) := by
  obtain ⟨te, h1, h2⟩ := h
  refine ⟨iEnumT S.K (tCons te tNil), fun y g => pi_enumA (gd_gl g B.gl) B.mg (pa_cons (h1 y g) pa_nil (hs _)) (hs _), fun cs Mc M ρ σ H R k x Rr X hs hk => ?_⟩
  refine h2 cs Mc M ρ σ H _ _ x Rr X hs fun d ρ1 M1 v H1 p1 r1 q1 => ?_
  cases d <;> first | exact (show False from q1).elim | skip
  · obtain ⟨a, us, rfl, h3, h4⟩ := RB.list (.inl r1)
    exact ⟨a, us, rfl, .inl ⟨SqL.of h3, hk _ ρ1 M1 _ H1 _ p1 itm_enumL (fun M2 H2 Z k2 hz hm => .inl (stay_rd r1 k2 hz hm)) q1⟩⟩
  · obtain ⟨a, us, rfl, h3, h4⟩ := RB.tup (.inl r1)
    exact ⟨a, us, rfl, .inr ⟨h3, hk _ ρ1 M1 _ H1 _ p1 itm_enumT (fun M2 H2 Z k2 hz hm => .inl (stay_rd r1 k2 hz hm)) q1⟩⟩
end
end DL

end

section
namespace DL
open PySem PySem.Spec PyProof.Rows L2

/-! ### targets -/
def gNames : List Nat → TGs
  | [] => gNil
  | i :: is => gCons (gName i) (gNames is)
/-- what a target does to the slots -/
def setV : List Nat → List V → L2.St → L2.St
  | i :: is, v :: vs, σ => setV is vs (σ.set i (some v))
  | _, _, σ => σ
theorem setV_len : ∀ {is : List Nat} {vs : List V} {σ : L2.St}, (setV is vs σ).length = σ.length
  | [], _, _ => rfl
  | _ :: _, [], _ => rfl
  | i :: is, v :: vs, σ => by
    show (setV is vs (σ.set i (some v))).length = _
    rw [setV_len, List.length_set]
theorem setV_out : ∀ {is : List Nat} {vs : List V} {σ : L2.St} {j : Nat}, j ∉ is → (setV is vs σ)[j]? = σ[j]?
  | [], _, _, _, _ => rfl
  | _ :: _, [], _, _, _ => rfl
  | i :: is, v :: vs, σ, j, h => by
    show (setV is vs (σ.set i (some v)))[j]? = _
    rw [setV_out (fun z => h (List.mem_cons_of_mem _ z)), List.getElem?_set_ne (fun z => h (by rw [z]; exact List.mem_cons_self))]
theorem setR_own : ∀ {is : List Nat} {ds : List D} {ρ : Ro} {j : Nat} {fr : Bool} {c : Ct}, (setR is ds ρ)[j]? = some (.o fr c) → ρ[j]? = some (.o fr c) ∧ (is.length = ds.length → j ∉ is)
  | [], _, _, _, _, _, h => ⟨h, fun _ => (nomatch ·)⟩
  | _ :: _, [], _, _, _, _, h => ⟨h, fun e => by simp at e⟩
  | i :: is, d :: ds, ρ, j, fr, c, h => by
    have h : (setR is ds (ρ.set i (.p d)))[j]? = some (.o fr c) := h
    obtain ⟨h1, h2⟩ := setR_own h
    rcases get_set_some h1 with ⟨_, z, _⟩ | ⟨z1, z2⟩
    · cases z
    · exact ⟨z2, fun e m => (List.mem_cons.mp m).elim z1 (h2 (by simpa using e))⟩
theorem foldl_setR : ∀ {is : List Nat} {ds : List D} {ρ : Ro}, (is.zip ds).foldl (fun r p => r.set p.1 (.p p.2)) ρ = setR is ds ρ
  | [], _, _ => rfl
  | _ :: _, [], _ => rfl
  | i :: is, d :: ds, ρ => by
    show ((is.zip ds).foldl _ (ρ.set i (.p d))) = setR is ds (ρ.set i (.p d))
    exact foldl_setR
section
variable {K : PySem.W.Frag} {cs : List Bs} {Mc M : AS} {H : Hp}
theorem RelS.setPs : ∀ {is : List Nat} {vs : List V} {ds : List D} {ρ : Ro} {σ : L2.St}, RelS K cs Mc M ρ σ H → RDs K M H vs ds → RelS K cs Mc M (setR is ds ρ) (setV is vs σ) H
  | [], _, _, _, _, R, _ => R
  | _ :: _, [], _, _, _, R, h => by cases h; exact R
  | i :: is, v :: vs, _, ρ, σ, R, h => by
    cases h with
    | @cons _ _ d ds h1 h2 =>
      show RelS K cs Mc M (setR is ds (ρ.set i (.p d))) (setV is vs (σ.set i (some v))) H
      exact RelS.setPs (R.setP h1) h2
end
/-- the target's own judgement -/
def SndTg (K : PySem.W.Frag) (nm : Bool) (g : TG) (is : List Nat) : Prop := ∀ (cs : List Bs) (Mc M : AS) (ρ ρ' : Ro) (σ : L2.St) (H : Hp) (v : V) (d : D) (Q : L2.St → Hp → Prop), RelS K cs Mc M ρ σ H → TD K nm M H v d → bindT is d ρ = some ρ' →
  (∀ σ', RelS K cs Mc M ρ' σ' H → σ'.length = σ.length → (∀ j, j ∉ is → σ'[j]? = σ[j]?) → (∀ (j : Nat) (fr : Bool) (c : Ct), ρ'[j]? = some (.o fr c) → ρ[j]? = some (.o fr c) ∧ j ∉ is) → Q σ' H) → g v σ H Q
def OkTg (S : Sx) (N : List Str) (sc : Scope) (W : WX) (nm : Bool) (e : Expr) (is : List Nat) : Prop := ∃ g, (∀ y, Gd S N sc W y → PG (cx S N y) e g) ∧ SndTg S.K nm g is
/-- a name that may be set here -/
structure Wr (S : Sx) (N : List Str) (sc : Scope) (x : Str) (i : Nat) : Prop where
  ix : N[i]? = some x
  at_ : sc.names.lookup x = some .local ∨ (sc.names.lookup x = some .cell ∧ S.fn x = true)
section
variable {S : Sx} {N : List Str} {sc : Scope} {W : WX} {Γ : Gm}
theorem Wr.pg {x : Str} {i : Nat} {p : Pos} (w : Wr S N sc x i) (hN : N.Nodup) {y : Dy} (g : Gd S N sc W y) : PG (cx S N y) (.Name x p) (gName i) := by
  refine pg_name hN w.ix ?_ ?_
  · show Loc y.env.scope x
    rw [g.sc]
    exact w.at_.imp id fun z => z.1
  · show S.fn x = true ∨ y.env.scope.names.lookup x = some .local
    rw [g.sc]
    exact w.at_.elim .inr fun z => .inl z.2
theorem tg_name {x : Str} {i : Nat} {p : Pos} {nm : Bool} (hN : N.Nodup) (w : Wr S N sc x i) : OkTg S N sc W true (.Name x p) [i] := by
  refine ⟨gName i, fun y g => w.pg hN g, fun cs Mc M ρ ρ' σ H v d Q R r e hq => ?_⟩
  have r : RD S.K M H v d := r.elim id fun z => nomatch z.1
  have e : some (ρ.set i (.p d)) = some ρ' := by
    cases d <;> exact e
  cases e
  refine hq _ (R.setP r) List.length_set (fun j hj => List.getElem?_set_ne (fun z => hj (by rw [z]; exact List.mem_cons_self))) fun j fr c q => ?_
  rcases get_set_some q with ⟨_, z, _⟩ | ⟨z1, z2⟩
  · cases z
  · exact ⟨z2, fun z => z1 (List.mem_singleton.mp z)⟩
/-- several names -/
inductive Wrs (S : Sx) (N : List Str) (sc : Scope) : List Expr → List Nat → Prop
  | nil : Wrs S N sc [] []
  | cons {x : Str} {p : Pos} {i : Nat} {es : List Expr} {is : List Nat} : Wr S N sc x i → Wrs S N sc es is → Wrs S N sc (.Name x p :: es) (i :: is)
theorem Wrs.pgs (hN : N.Nodup) {y : Dy} (g : Gd S N sc W y) : ∀ {es : List Expr} {is : List Nat}, Wrs S N sc es is → PGs (cx S N y) es (gNames is)
  | _, _, .nil => pgs_nil
  | _, _, .cons w t => pgs_cons (w.pg hN g) (Wrs.pgs hN g t)
theorem Wrs.lens {env : Env} : ∀ {es : List Expr} {is : List Nat}, Wrs S N sc es is → (assignEach es env).length = is.length ∧ (assignEach es env).findIdx? (·.1) = none
  | _, _, .nil => ⟨rfl, rfl⟩
  | _, _, .cons w t => by
    obtain ⟨h1, h2⟩ := Wrs.lens (env := env) t
    rename_i x p i es is
    have e : assignEach (.Name x p :: es) env = (false, assign (.Name x p) env) :: assignEach es env := rfl
    rw [e]
    refine ⟨by rw [List.length_cons, h1, List.length_cons], ?_⟩
    rw [List.findIdx?_cons, h2]
    rfl
theorem gNames_run {is : List Nat} : ∀ {vs : List V} {σ : L2.St} {H : Hp} {Q : L2.St → Hp → Prop}, vs.length = is.length → Q (setV is vs σ) H → gNames is vs σ H Q := by
  induction is with
  | nil =>
    intro vs σ H Q hl hq
    cases vs with
    | nil => exact ⟨rfl, hq⟩
    | cons v vs => cases hl
  | cons i is ih =>
    intro vs σ H Q hl hq
    cases vs with
    | nil => cases hl
    | cons v vs => exact ⟨v, vs, rfl, ih (by simpa using hl) hq⟩
theorem tg_tup {es : List Expr} {is : List Nat} {k : Nat} {p : Pos} {nm : Bool} (hN : N.Nodup) (w : Wrs S N sc es is) (h2 : 2 ≤ is.length) : OkTg S N sc W nm (.Tuple es k p) is := by
  refine ⟨gTup S.K is.length (gNames is), fun y g => pg_tup rfl (w.pgs hN g) (w.lens).1 (w.lens).2, fun cs Mc M ρ ρ' σ H v d Q R r e hq => ?_⟩
  have key : ∃ ds, d = .tuple ds ∧ is.length = ds.length ∧ ρ' = setR is ds ρ := by
    match is, h2 with
    | i :: j :: is, _ =>
      cases d <;> first | cases e | skip
      rename_i ds
      have e : (if (i :: j :: is).length = ds.length then some (((i :: j :: is).zip ds).foldl (fun r p => r.set p.1 (Sl.p p.2)) ρ) else none) = some ρ' := e
      by_cases hl : (i :: j :: is).length = ds.length
      · rw [if_pos hl] at e
        cases e
        exact ⟨ds, rfl, hl, foldl_setR⟩
      · rw [if_neg hl] at e
        cases e
  obtain ⟨ds, rfl, hl, rfl⟩ := key
  have r : ∃ a xs, v = .ref a ∧ SqT S.K H a xs ∧ RDs S.K M H xs ds := by
    rcases r with r | ⟨_, a, xs, ds', rfl, e2, h3, h4⟩
    · exact RB.tup (.inl r)
    · cases e2
      exact ⟨a, xs, rfl, h3, h4⟩
  obtain ⟨a, xs, rfl, h3, h4⟩ := r
  have hx : xs.length = is.length := by rw [h4.len, hl]
  exact ⟨a, xs, rfl, h3, hx, gNames_run hx (hq _ (R.setPs h4) setV_len (fun j hj => setV_out hj) fun j fr c q => (setR_own q).imp id fun z => z hl)⟩
end
end DL

end

section
namespace DL
open PySem PySem.Spec PyProof.Rows L2

section
variable {K : PySem.W.Frag} {cs : List Bs} {Mc M M' : AS} {H H' : Hp} {ρ ρ' : Ro} {σ σ' : L2.St}
/-- a list that is being made stands apart, at no name -/
theorem RelS.growD (R : RelS K cs Mc M ρ σ H) {p : Addr} {o : HO} (h : H p = none) : RelS K cs (fun b => Mc b ∨ b = p) (fun b => M b ∨ b = p) ρ σ (upd H p o) := by
  have R2 := R.grow (o := o) h
  refine ⟨R2.len, R2.sl, R2.sep, fun a z => z.imp (R.mc a) id, R2.mx, fun i fr c a q e => ⟨(R2.own i fr c a q e).1, fun hf z => ?_⟩, R2.old, R2.gr, R2.pin⟩
  rcases z with z | z
  · exact (R.own i fr c a q e).2 hf z
  · subst z
    obtain ⟨b, e2, m, _⟩ := R.ownA q
    rw [e] at e2
    cases e2
    exact R.mx _ m h
theorem RelS.dropD {D : Addr} (R : RelS K cs (fun b => Mc b ∨ b = D) M ρ σ H) (nm : ¬ Mut ρ σ D) (nc : ¬ Mc D) : RelS K cs Mc (fun b => M b ∧ b ≠ D) ρ σ H := by
  have hM : ∀ b, (M b ∧ b ≠ D) → M b := fun _ z => z.1
  refine ⟨R.len, fun i s ov q e => ?_, R.sep, fun a z => ⟨R.mc a (.inl z), fun y => nc (by rw [← y]; exact z)⟩, fun a z => R.mx a z.1, fun i fr c a q e => ⟨(R.own i fr c a q e).1, fun hf z => (R.own i fr c a q e).2 hf (.inl z)⟩, R.old, fun b hb a z => R.gr b hb a z.1, R.pin⟩
  have q2 := R.sl i s ov q e
  cases s with
  | un => trivial
  | p d =>
    obtain ⟨v, e1, r⟩ := q2
    exact ⟨v, e1, r.weak hM⟩
  | o fr c =>
    obtain ⟨a, e1, m, r⟩ := q2
    subst e1
    exact ⟨a, rfl, ⟨m, fun z => nm ⟨i, fr, c, q, by rw [← z]; exact e⟩⟩, r.kp (Kp.refl (Z := fun _ => False)) (fun _ z => z.elim) (fun x z => .inl z.1) fun z => z⟩
  | sc ns => exact q2
/-- the list that stands apart is changed -/
theorem RelS.writeD {D : Addr} {xs ys : List V} (R : RelS K cs Mc M ρ σ H) (m : M D) (e : H D = some (.lst xs)) (nm : ¬ Mut ρ σ D) (hb : ∀ b ∈ cs, b.z D ∨ b.h D = none) : RelS K cs Mc M ρ σ (upd H D (.lst ys)) := by
  have k : Kp (fun b => b = D) H (upd H D (.lst ys)) := Kp.write e rfl
  have kz : ∀ b, b = D → M b := fun b z => by rw [z]; exact m
  refine ⟨R.len, fun i s ov q q2 => ?_, R.sep, R.mc, fun a z => k.there a (R.mx a z), R.own, fun B hB => ?_, R.gr, R.pin⟩
  · have q3 := R.sl i s ov q q2
    cases s with
    | un => trivial
    | p d =>
      obtain ⟨v, e1, r⟩ := q3
      exact ⟨v, e1, r.kp k kz fun b z => .inl z⟩
    | o f c =>
      obtain ⟨b, e1, mb, r⟩ := q3
      subst e1
      exact ⟨b, rfl, mb, r.kp k kz (fun b z => .inl z) fun z => nm ⟨i, f, c, q, by rw [← z]; exact q2⟩⟩
    | sc ns =>
      obtain ⟨b, e1, r⟩ := q3
      refine ⟨b, e1, ?_⟩
      rcases r with ⟨o, r⟩ | r
      · exact .inl ⟨o, k.frzs _ _ _ r⟩
      · exact .inr r
  · have ko := R.old B hB
    refine ⟨fun b o nz q => ?_, fun b ys q => k.tups _ _ (ko.tups b ys q), fun b o u q => k.frzs _ _ _ (ko.frzs b o u q), fun b q => k.there b (ko.there b q)⟩
    refine k.keep b o (fun z => ?_) (ko.keep b o nz q)
    subst z
    rcases hb B hB with ow | ow
    · exact nz ow
    · rw [ow] at q
      cases q
theorem wipeR_len : ∀ {vs : List Nat} {ρ : Ro}, (wipeR ρ vs).length = ρ.length
  | [], _ => rfl
  | v :: vs, ρ => by
    show ((wipeR ρ vs).set v .un).length = _
    rw [List.length_set, wipeR_len]
theorem RelS.wipes (R : RelS K cs Mc M ρ σ H) : ∀ (vs : List Nat), RelS K cs Mc M (wipeR ρ vs) (wipe σ vs) H
  | [] => R
  | v :: vs => (R.wipes vs).setU
theorem wipe_out : ∀ {vs : List Nat} {σ : L2.St} {j : Nat}, j ∉ vs → (wipe σ vs)[j]? = σ[j]?
  | [], _, _, _ => rfl
  | v :: vs, σ, j, h => by
    show ((wipe σ vs).set v none)[j]? = _
    rw [List.getElem?_set_ne (fun z => h (by rw [z]; exact List.mem_cons_self)), wipe_out (fun z => h (List.mem_cons_of_mem _ z))]
theorem wipeR_own : ∀ {vs : List Nat} {ρ : Ro} {j : Nat} {fr : Bool} {c : Ct}, (wipeR ρ vs)[j]? = some (.o fr c) → ρ[j]? = some (.o fr c) ∧ j ∉ vs
  | [], _, _, _, _, h => ⟨h, (nomatch ·)⟩
  | v :: vs, ρ, j, fr, c, h => by
    have h : ((wipeR ρ vs).set v .un)[j]? = some (.o fr c) := h
    rcases get_set_some h with ⟨_, z, _⟩ | ⟨z1, z2⟩
    · cases z
    · obtain ⟨y1, y2⟩ := wipeR_own z2
      exact ⟨y1, fun m => (List.mem_cons.mp m).elim z1 y2⟩
theorem wipe_in : ∀ {vs : List Nat} {σ : L2.St} {j : Nat}, j ∈ vs → (wipe σ vs)[j]? = if j < σ.length then some none else none
  | v :: vs, σ, j, h => by
    show ((wipe σ vs).set v none)[j]? = _
    by_cases e : v = j
    · subst e
      by_cases hl : v < σ.length
      · rw [if_pos hl, List.getElem?_set_self (by rw [wipe_length]; exact hl)]
      · rw [if_neg hl, List.getElem?_eq_none (by rw [List.length_set, wipe_length]; omega)]
    · rw [List.getElem?_set_ne e]
      exact wipe_in ((List.mem_cons.mp h).resolve_left (Ne.symm e))
/-- nothing but the slots vs differs -/
theorem wipe_same {vs : List Nat} {σ σ' : L2.St} (hl : σ'.length = σ.length) (h : ∀ j, j ∉ vs → σ'[j]? = σ[j]?) : wipe σ' vs = wipe σ vs := by
  refine List.ext_getElem? fun j => ?_
  by_cases hj : j ∈ vs
  · rw [wipe_in hj, wipe_in hj, hl]
  · rw [wipe_out hj, wipe_out hj, h j hj]
theorem backR_len : ∀ {vs : List Nat} {ρ ρ' : Ro}, (backR ρ ρ' vs).length = ρ'.length
  | [], _, _ => rfl
  | v :: vs, ρ, ρ' => by
    show ((backR ρ ρ' vs).set v _).length = _
    rw [List.length_set, backR_len]
theorem backR_at : ∀ {vs : List Nat} {ρ ρ' : Ro} {j : Nat} {s : Sl}, ρ'.length = ρ.length → (backR ρ ρ' vs)[j]? = some s → (j ∈ vs ∧ ρ[j]? = some s) ∨ (j ∉ vs ∧ ρ'[j]? = some s)
  | [], _, _, _, _, _, h => .inr ⟨(nomatch ·), h⟩
  | v :: vs, ρ, ρ', j, s, hl, h => by
    have h : ((backR ρ ρ' vs).set v (ρ.getD v .un))[j]? = some s := h
    rcases get_set_some h with ⟨z1, z2, z3⟩ | ⟨z1, z2⟩
    · subst z1
      refine .inl ⟨List.mem_cons_self, ?_⟩
      rw [backR_len, hl] at z3
      rw [z2, List.getD_eq_getElem?_getD, List.getElem?_eq_getElem z3]
      rfl
    · rcases backR_at hl z2 with ⟨y1, y2⟩ | ⟨y1, y2⟩
      · exact .inl ⟨List.mem_cons_of_mem _ y1, y2⟩
      · exact .inr ⟨fun m => (List.mem_cons.mp m).elim z1 y1, y2⟩
/-- behind a turn: the own names of the block are those outside -/
theorem RelS.back {vs : List Nat} (R : RelS K cs Mc M ρ σ H) (R' : RelS K cs Mc M' ρ' σ' H') (hv : ∀ (j : Nat) (fr : Bool) (c : Ct), j ∈ vs → ρ[j]? ≠ some (.o fr c)) (hs : ∀ j, j ∉ vs → σ'[j]? = σ[j]?) (hl : σ'.length = σ.length)
    (hr : ∀ v d, RD K M H v d → RD K M' H' v d) (hf : ∀ a o u, H a = some (.frz o u) → H' a = some (.frz o u)) : RelS K cs Mc M' (backR ρ ρ' vs) σ H' := by
  have ll : ρ'.length = ρ.length := by rw [R.len, R'.len, hl]
  have own : ∀ {j : Nat} {fr : Bool} {c : Ct}, (backR ρ ρ' vs)[j]? = some (.o fr c) → ρ'[j]? = some (.o fr c) ∧ σ'[j]? = σ[j]? := fun {j fr c} q => by
    rcases backR_at ll q with ⟨z1, z2⟩ | ⟨z1, z2⟩
    · exact absurd z2 (hv j fr c z1)
    · exact ⟨z2, hs j z1⟩
  refine ⟨by rw [backR_len, ll, R.len], fun j s ov q e => ?_, fun j l fr fr' c c' a q1 q2 q3 q4 => ?_, R'.mc, R'.mx, fun j fr c a q e => ?_, R'.old, R'.gr, fun b hb j c a q e => ?_⟩
  · rcases backR_at ll q with ⟨z1, z2⟩ | ⟨z1, z2⟩
    · have y := R.sl j s ov z2 e
      cases s with
      | un => trivial
      | p d =>
        obtain ⟨v, e1, r⟩ := y
        exact ⟨v, e1, hr _ _ r⟩
      | o fr c => exact absurd z2 (hv j fr c z1)
      | sc ns =>
        obtain ⟨b, e1, r⟩ := y
        refine ⟨b, e1, ?_⟩
        rcases r with ⟨o, r⟩ | r
        · exact .inl ⟨o, hf _ _ _ r⟩
        · exact .inr r
    · exact R'.sl j s ov z2 (by rw [hs j z1]; exact e)
  · obtain ⟨a1, a2⟩ := own q1
    obtain ⟨b1, b2⟩ := own q2
    exact R'.sep j l _ _ _ _ a a1 b1 (by rw [a2]; exact q3) (by rw [b2]; exact q4)
  · obtain ⟨a1, a2⟩ := own q
    exact R'.own j fr c a a1 (by rw [a2]; exact e)
  · obtain ⟨a1, a2⟩ := own q
    exact R'.pin b hb j c a a1 (by rw [a2]; exact e)
end

/-! ### the state of a comprehension between its turns -/
structure LI (K : PySem.W.Frag) (D : Addr) (Mc : AS) (Mx : AS) (Sh : Nat → Bool → Prop) (cs : List Bs) (σ : L2.St) (M : AS) (ρ : Ro) (acc : List DL.D) (H : Hp) (vs : List V) : Prop where
  rel : RelS K cs (fun b => Mc b ∨ b = D) M ρ σ H
  at_ : H D = some (.lst vs)
  rd : RDs K M H vs acc
  sub : ∀ a, M a → Mx a
  sh : ∀ (i : Nat) (fr : Bool) (c : Ct), ρ[i]? = some (.o fr c) → Sh i fr ∧ σ[i]? ≠ some (some (.ref D))
  bs : ∀ b ∈ cs, b.z D ∨ b.h D = none
section
variable {K : PySem.W.Frag} {D : Addr} {Mc Mx : AS} {Sh : Nat → Bool → Prop} {cs : List Bs} {σ σ2 : L2.St} {M M' : AS} {ρ ρ' : Ro} {acc : List DL.D} {H H' : Hp} {vs : List V}
theorem LI.nm (L : LI K D Mc Mx Sh cs σ M ρ acc H vs) : ¬ Mut ρ σ D := fun ⟨i, fr, c, q, e⟩ => (L.sh i fr c q).2 e
theorem LI.post (L : LI K D Mc Mx Sh cs σ M ρ acc H vs) (p : Post K cs (fun b => Mc b ∨ b = D) M ρ σ H M' ρ' H') : LI K D Mc Mx Sh cs σ M' ρ' acc H' vs :=
  ⟨p.rel, p.kp.keep _ _ L.nm L.at_, p.rds L.rel L.rd, fun a z => L.sub a (p.sub a z), fun i fr c q => by
    obtain ⟨c0, e⟩ := p.shr i fr c q
    exact L.sh i fr c0 e, L.bs⟩
theorem LI.heap (L : LI K D Mc Mx Sh cs σ M ρ acc H vs) (k : Kp (fun _ => False) H H') : LI K D Mc Mx Sh cs σ M ρ acc H' vs := L.post (Post.heap L.rel k)
theorem LI.write (L : LI K D Mc Mx Sh cs σ M ρ acc H vs) {v : V} {d : DL.D} (r : RD K M H v d) : LI K D Mc Mx Sh cs σ M ρ (acc ++ [d]) (upd H D (.lst (vs ++ [v]))) (vs ++ [v]) := by
  have m : M D := L.rel.mc D (.inr rfl)
  have k : Kp (fun b => b = D) H (upd H D (.lst (vs ++ [v]))) := Kp.write L.at_ rfl
  exact ⟨L.rel.writeD m L.at_ L.nm L.bs, upd_same, (L.rd.append (.cons r .nil)).kp k (fun b z => by rw [z]; exact m) fun b z => .inl z, L.sub, L.sh, L.bs⟩
theorem LI.back {ws : List Nat} {vs' : List V} {acc' : List DL.D} (L : LI K D Mc Mx Sh cs σ M ρ acc H vs) (L' : LI K D Mc Mx Sh cs σ2 M' ρ' acc' H' vs') (hv : ∀ (j : Nat) (fr : Bool) (c : Ct), j ∈ ws → ρ[j]? ≠ some (.o fr c)) (hs : ∀ j, j ∉ ws → σ2[j]? = σ[j]?) (hl : σ2.length = σ.length)
    (hr : ∀ v d, RD K M H v d → RD K M' H' v d) (hf : ∀ a o u, H a = some (.frz o u) → H' a = some (.frz o u)) : LI K D Mc Mx Sh cs σ M' (backR ρ ρ' ws) acc' H' vs' := by
  refine ⟨L.rel.back L'.rel hv hs hl hr hf, L'.at_, L'.rd, L'.sub, fun i fr c q => ?_, L'.bs⟩
  have ll : ρ'.length = ρ.length := by rw [L.rel.len, L'.rel.len, hl]
  rcases backR_at ll q with ⟨z1, z2⟩ | ⟨z1, z2⟩
  · exact absurd z2 (hv i fr c z1)
  · obtain ⟨h1, h2⟩ := L'.sh i fr c z2
    exact ⟨h1, by rw [← hs i z1]; exact h2⟩
end

/-! ### a turn -/
/-- from now to then: data stays, frozen things stay -/
structure Fw (K : PySem.W.Frag) (M : AS) (H : Hp) (M' : AS) (H' : Hp) : Prop where
  rd : ∀ v d, RD K M H v d → RD K M' H' v d
  fz : ∀ a o u, H a = some (.frz o u) → H' a = some (.frz o u)
theorem Fw.refl {K : PySem.W.Frag} {M : AS} {H : Hp} : Fw K M H M H := ⟨fun _ _ h => h, fun _ _ _ h => h⟩
theorem Fw.trans {K : PySem.W.Frag} {M M1 M2 : AS} {H H1 H2 : Hp} (a : Fw K M H M1 H1) (b : Fw K M1 H1 M2 H2) : Fw K M H M2 H2 := ⟨fun v d h => b.rd v d (a.rd v d h), fun x o u h => b.fz x o u (a.fz x o u h)⟩
theorem Post.fw {K : PySem.W.Frag} {cs : List Bs} {Mc M M' : AS} {ρ ρ' : Ro} {σ : L2.St} {H H' : Hp} (R : RelS K cs Mc M ρ σ H) (p : Post K cs Mc M ρ σ H M' ρ' H') : Fw K M H M' H' := ⟨fun _ _ r => p.rd R r, p.kp.frzs⟩
theorem LI.fwW {K : PySem.W.Frag} {D : Addr} {Mc Mx : AS} {Sh : Nat → Bool → Prop} {cs : List Bs} {σ : L2.St} {M : AS} {ρ : Ro} {acc : List DL.D} {H : Hp} {vs ys : List V} (L : LI K D Mc Mx Sh cs σ M ρ acc H vs) : Fw K M H M (upd H D (.lst ys)) := by
  have m : M D := L.rel.mc D (.inr rfl)
  have k : Kp (fun b => b = D) H (upd H D (.lst ys)) := Kp.write L.at_ rfl
  exact ⟨fun v d r => r.kp k (fun b z => by rw [z]; exact m) fun b z => .inl z, k.frzs⟩
def W0 : WX := fun _ _ _ _ => False
theorem xok0 {S : Sx} {cs : List Bs} : XOk S W0 cs x0 := fun _ h => h.elim
/-- what a turn's bound names do to the state -/
theorem LI.bind {K : PySem.W.Frag} {D : Addr} {Mc Mx : AS} {Sh : Nat → Bool → Prop} {cs : List Bs} {σ σ2 : L2.St} {M : AS} {ρ ρ3 : Ro} {acc : List DL.D} {H : Hp} {vs : List V} {ws is : List Nat} (L : LI K D Mc Mx Sh cs σ M ρ acc H vs) (hsub : ∀ i ∈ is, i ∈ ws)
    (R3 : RelS K cs (fun b => Mc b ∨ b = D) M ρ3 σ2 H) (s1 : ∀ j, j ∉ is → σ2[j]? = (wipe σ ws)[j]?) (sh : ∀ (j : Nat) (fr : Bool) (c : Ct), ρ3[j]? = some (.o fr c) → (wipeR ρ ws)[j]? = some (.o fr c) ∧ j ∉ is) :
    LI K D Mc Mx Sh cs σ2 M ρ3 acc H vs ∧ ∀ j, j ∉ ws → σ2[j]? = σ[j]? := by
  have ag : ∀ j, j ∉ ws → σ2[j]? = σ[j]? := fun j hj => by rw [s1 j (fun z => hj (hsub j z)), wipe_out hj]
  refine ⟨⟨R3, L.at_, L.rd, L.sub, fun i fr c q => ?_, L.bs⟩, ag⟩
  obtain ⟨h1, _⟩ := sh i fr c q
  obtain ⟨h2, h3⟩ := wipeR_own h1
  obtain ⟨h4, h5⟩ := L.sh i fr c h2
  exact ⟨h4, by rw [ag i h3]; exact h5⟩
section
variable {S' : Sx} {nm : Bool} {g : TG} {tt : TT} {te : TE} {is ws : List Nat} {ec el : SE} {Mc Mx : AS} {Sh : Nat → Bool → Prop}
def TurnT (D : Addr) (g : TG) (tt : TT) (te : TE) (ws : List Nat) (σ : L2.St) (v : V) (H : Hp) (Nx : Hp → Prop) : Prop := g v (wipe σ ws) H fun σ2 H2 => wipe σ2 ws = wipe σ ws ∧ tt σ2 H2 fun b H3 =>
    if b = true then te σ2 H3 fun y H4 => ∃ acc, H4 D = some (.lst acc) ∧ acc.length < sizeLine ∧ Nx (upd H4 D (.lst (acc ++ [y]))) else Nx H3
theorem turn_ok (hsub : ∀ i ∈ is, i ∈ ws) (hg : SndTg S'.K nm g is) (hc : SndT S' W0 tt ec) (he : SndE S' W0 te el) {D : Addr} {cs : List Bs} {σ : L2.St} {M : AS} {ρ : Ro} {acc : List DL.D} {H : Hp} {vs : List V} {v : V} {d : DL.D} {kk : List DL.D → Ro → Prop} {Nx : Hp → Prop}
    (L : LI S'.K D Mc Mx Sh cs σ M ρ acc H vs) (hv : ∀ (j : Nat) (fr : Bool) (c : Ct), j ∈ ws → ρ[j]? ≠ some (.o fr c)) (t : TD S'.K nm M H v d) (hs : lcB is ws ec el d acc ρ kk)
    (hN : ∀ M' ρ' acc' H' vs', LI S'.K D Mc Mx Sh cs σ M' ρ' acc' H' vs' → Fw S'.K M H M' H' → kk acc' ρ' → Nx H') : TurnT D g tt te ws σ v H Nx := by
  unfold lcB at hs
  split at hs
  · rename_i ρ3 e3
    refine hg cs _ M _ ρ3 _ H v d _ (L.rel.wipes ws) t e3 fun σ2 R3 l2 s1 sh => ?_
    obtain ⟨L3, ag⟩ := L.bind hsub R3 s1 sh
    have hl : σ2.length = σ.length := by rw [l2, wipe_length]
    refine ⟨wipe_same hl ag, ?_⟩
    refine hc cs _ M ρ3 σ2 H _ _ x0 R3 xok0 hs fun b ρ4 M4 H4 p4 q4 => ?_
    have L4 := L3.post p4
    have F4 := p4.fw R3
    cases b with
    | false => exact hN _ _ _ _ _ (L.back L4 hv ag hl F4.rd F4.fz) F4 q4
    | true =>
      refine he cs _ M4 ρ4 σ2 H4 _ _ x0 p4.rel xok0 q4 fun d5 ρ5 M5 v5 H5 p5 r5 q5 => ?_
      have L5 := L4.post p5
      have F5 := F4.trans (p5.fw p4.rel)
      have L6 := L5.write r5
      have F6 := F5.trans (L5.fwW (ys := vs ++ [v5]))
      exact ⟨vs, L5.at_, by rw [L5.rd.len]; exact q5.1, hN _ _ _ _ _ (L.back L6 hv ag hl F6.rd F6.fz) F6 q5.2⟩
  · exact hs.elim
end
end DL

end

section
namespace DL
open PySem PySem.Spec PyProof.Rows L2

/-- the walked thing is there at each turn, with the slots σ -/
def LvAt (K : PySem.W.Frag) (σ : L2.St) (Ms : AS) (Hs : Hp) (chk : Ro → Prop) (Lv : AS → Hp → Prop) : Prop := ∀ (cs2 : List Bs) (Mc2 M2 : AS) (ρ2 : Ro) (H2 : Hp) (Z : AS), RelS K cs2 Mc2 M2 ρ2 σ H2 → chk ρ2 → Kp Z Hs H2 → (∀ b, Z b → Ms b ∨ Hs b = none) → (∀ b, M2 b → Ms b ∨ Hs b = none) → Lv M2 H2
def SndC (S : Sx) (W : WX) (nm : Bool) (wi : TI) (s : Ro → (List D → (Ro → Prop) → Ro → Prop) → (Ex → Prop) → Prop) : Prop := ∀ (cs : List Bs) (Mc M : AS) (ρ : Ro) (σ : L2.St) (H : Hp) (R : It → Hp → Prop) (k : List D → (Ro → Prop) → Ro → Prop) (x : Ex → Prop), RelS S.K cs Mc M ρ σ H → XOk S W cs x → s ρ k x →
  (∀ xs chk ρ' M' J H' Lv, Post S.K cs Mc M ρ σ H M' ρ' H' → Itm S.K nm J xs Lv → chk ρ' → LvAt S.K σ M' H' chk Lv → k xs chk ρ' → R J H') → wi σ H R
def OkC (S : Sx) (N : List Str) (sc : Scope) (W : WX) (nm : Bool) (tg e : Expr) (s : Ro → (List D → (Ro → Prop) → Ro → Prop) → (Ex → Prop) → Prop) : Prop := ∃ wi, (∀ y, Gd S N sc W y → PI (cx S N y) tg e wi) ∧ SndC S W nm wi s
section
variable {S : Sx} {N : List Str} {sc : Scope} {W : WX} {Γ : Gm}
theorem oc_of {tg e : Expr} {nm : Bool} {a : DE} (h : OkI S N sc W nm tg e (semE Γ a)) (hb : ∀ i, a ≠ .bv i) : OkC S N sc W nm tg e (semI a (semE Γ a)) := by
  obtain ⟨wi, h1, h2⟩ := h
  refine ⟨wi, h1, fun cs Mc M ρ σ H R k x Rr X hs hk => ?_⟩
  have hs' : semE Γ a ρ (kIt fun xs ρ1 => k xs (fun _ => True) ρ1) x := by
    cases a <;> first | exact hs | exact absurd rfl (hb _)
  exact h2 cs Mc M ρ σ H R _ x Rr X hs' fun xs ρ' M' J H' Lv p i st q => hk xs (fun _ => True) ρ' M' J H' Lv p i trivial (fun _ _ M2 _ H2 Z _ _ kp hz hm => st M2 H2 Z kp hz hm) q
theorem oc_bv {tg : Expr} {nm : Bool} {i : Nat} {x : Str} {pos : Pos} (hN : N[i]? = some x) (hv : Vis sc x) (hd : (x == ("__debug__" : Str)) = false) (hd2 : (x == ("__classdict__" : Str)) = false) : OkC S N sc W nm tg (.Name x pos) (semI (.bv i) (semE Γ (.bv i))) := by
  refine ⟨iSeq S.K (tVar i), fun y g => pi_seq (pe_var hN (by rw [g.sc]; exact hv) hd hd2), fun cs Mc M ρ σ H R k x Rr X hs hk => ?_⟩
  have hs : (match rs (.s i) ρ with
    | some d => match itemsOf d with
      | some xs => k xs (fun ρ' => rs (.s i) ρ' = some d) ρ
      | none => False
    | none => False) := hs
  split at hs
  · rename_i d ed
    split at hs
    · rename_i xs ex
      have hval : ∃ v, σ[i]? = some (some v) := Rr.val (by
        unfold okSl
        have ed : (match ρ[i]? with
          | some (.p d) => some d
          | some (.o _ (.ls ds)) => some (.list ds)
          | _ => none) = some d := ed
        split at ed
        · rename_i q; rw [q]
        · rename_i q; rw [q]
        · cases ed)
      obtain ⟨v, ev⟩ := hval
      have rb : RB S.K M H v d := rs_ok Rr (o := .s i) ev ed
      have lv : LvAt S.K σ M H (fun ρ' => rs (.s i) ρ' = some d) (fun M2 H2 => RB S.K M2 H2 v d) := fun cs2 Mc2 M2 ρ2 H2 Z R2 hc _ _ _ => rs_ok R2 (o := .s i) ev hc
      refine ⟨v, ev, ?_⟩
      cases d <;> first | cases ex | skip
      · obtain ⟨a, us, rfl, h3, h4⟩ := rb.list
        exact ⟨a, us, rfl, .inl ⟨SqL.of h3, hk _ _ ρ M _ H _ (Post.refl Rr) itm_list ed lv hs⟩⟩
      · obtain ⟨a, us, rfl, h3, h4⟩ := rb.tup
        exact ⟨a, us, rfl, .inr ⟨h3, hk _ _ ρ M _ H _ (Post.refl Rr) itm_tup ed lv hs⟩⟩
    · exact hs.elim
  · exact hs.elim
end

/-! ### the turns of a comprehension -/
theorem loop_ok {K : PySem.W.Frag} {nm : Bool} {D : Addr} {Mc Mx : AS} {Sh : Nat → Bool → Prop} {cs : List Bs} {σ : L2.St} {J : It} {xs : List DL.D} {Lv : AS → Hp → Prop} {chk : Ro → Prop} {body : DL.D → List DL.D → Ro → (List DL.D → Ro → Prop) → Prop} {k : List DL.D → Ro → Prop} {Qs : Hp → Prop} {TQ : V → Hp → (Hp → Prop) → Prop}
    {M : AS} {ρ : Ro} {acc : List DL.D} {H : Hp} {vs : List V} (G : AS → Hp → Prop) (it : Itm K nm J xs Lv) (hlv : ∀ M2 ρ2 acc2 H2 vs2, LI K D Mc Mx Sh cs σ M2 ρ2 acc2 H2 vs2 → G M2 H2 → chk ρ2 → Lv M2 H2) (hG : ∀ M1 H1 M2 H2, G M1 H1 → Fw K M1 H1 M2 H2 → G M2 H2) (g0 : G M H)
    (L : LI K D Mc Mx Sh cs σ M ρ acc H vs) (c0 : chk ρ) (hs : lcL body chk xs acc ρ k) (hq : ∀ M' ρ' acc' H' vs', LI K D Mc Mx Sh cs σ M' ρ' acc' H' vs' → G M' H' → k acc' ρ' → Qs H')
    (ht : ∀ v d M' ρ' acc' H' vs' kk Nx, LI K D Mc Mx Sh cs σ M' ρ' acc' H' vs' → G M' H' → TD K nm M' H' v d → body d acc' ρ' kk → (∀ M2 ρ2 acc2 H2 vs2, LI K D Mc Mx Sh cs σ M2 ρ2 acc2 H2 vs2 → Fw K M' H' M2 H2 → kk acc2 ρ2 → Nx H2) → TQ v H' Nx) :
    ∃ W : Nat → Nat → Hp → Prop, (∃ m, W 0 m H) ∧ ∀ i m H, W i m H → (J.stop i H ∧ Qs H) ∨ (J.go i H ∧ ∃ Nx : Hp → Prop, (∀ H', Nx H' → ∃ m', m' < m ∧ W (i + 1) m' H') ∧ ∀ v H', J.yld i H v H' → TQ v H' Nx) := by
  refine ⟨fun i m H => ∃ M2 ρ2 acc2 vs2, LI K D Mc Mx Sh cs σ M2 ρ2 acc2 H vs2 ∧ G M2 H ∧ chk ρ2 ∧ lcL body chk (xs.drop i) acc2 ρ2 k ∧ i ≤ xs.length ∧ m = xs.length - i, ⟨xs.length, M, ρ, acc, vs, L, g0, c0, hs, Nat.zero_le _, by omega⟩, ?_⟩
  rintro i m H ⟨M2, ρ2, acc2, vs2, L2, g2, c2, s2, hi, rfl⟩
  by_cases hlt : i < xs.length
  · have hx : xs[i]? = some xs[i] := List.getElem?_eq_getElem hlt
    obtain ⟨g1, g3⟩ := it.go i M2 H _ hx (hlv _ _ _ _ _ L2 g2 c2)
    rw [List.drop_eq_getElem_cons hlt] at s2
    refine .inr ⟨g1, fun H' => ∃ M' ρ' acc' vs', LI K D Mc Mx Sh cs σ M' ρ' acc' H' vs' ∧ G M' H' ∧ chk ρ' ∧ lcL body chk (xs.drop (i + 1)) acc' ρ' k, fun H' h => ?_, fun v H' y => ?_⟩
    · obtain ⟨M', ρ', acc', vs', L', gg, c', s'⟩ := h
      exact ⟨xs.length - (i + 1), by omega, M', ρ', acc', vs', L', gg, c', s', hlt, rfl⟩
    · obtain ⟨k1, t1⟩ := g3 v H' y
      have P := Post.heap L2.rel k1
      have F1 := P.fw L2.rel
      have G1 := hG _ _ _ _ g2 F1
      refine ht v _ M2 ρ2 acc2 H' vs2 _ _ (L2.heap k1) G1 t1 s2 fun M' ρ' acc' H2 vs' L' F2 q => ?_
      exact ⟨M', ρ', acc', vs', L', hG _ _ _ _ G1 F2, q.1, q.2⟩
  · have e : i = xs.length := by omega
    subst e
    rw [List.drop_length] at s2
    exact .inl ⟨it.stop M2 H (hlv _ _ _ _ _ L2 g2 c2), hq _ _ _ _ _ L2 g2 s2⟩
end DL

end

section
namespace DL
open PySem PySem.Spec PyProof.Rows L2

section
variable {K : PySem.W.Frag} {cs : List Bs} {Mc M M' : AS} {H H' : Hp} {ρ ρ' : Ro} {σ : L2.St}
theorem RelS.rootZ (R : RelS K cs Mc M ρ σ H) (z : AS) (hz : ∀ a, Mut ρ σ a → z a) : RelS K (⟨z, M, H, fun i a => σ[i]? = some (some (.ref a))⟩ :: cs) Mc M ρ σ H := by
  refine ⟨R.len, R.sl, R.sep, R.mc, R.mx, fun i fr c a h e => ⟨fun b hb => ?_, (R.own i fr c a h e).2⟩, fun b hb => ?_, fun b hb a m => ?_, fun b hb i c a h e => ?_⟩
  · rcases List.mem_cons.mp hb with y | y
    · rw [y]; exact .inl (hz a ⟨i, fr, c, h, e⟩)
    · exact (R.own i fr c a h e).1 b y
  · rcases List.mem_cons.mp hb with y | y
    · rw [y]; exact .refl
    · exact R.old b y
  · rcases List.mem_cons.mp hb with y | y
    · rw [y]; exact .inl m
    · exact R.gr b y a m
  · rcases List.mem_cons.mp hb with y | y
    · rw [y]; exact e
    · exact R.pin b y i c a h e
variable {D : Addr} {Mx : AS} {Sh : Nat → Bool → Prop} {acc : List DL.D} {vs : List V}
theorem LI.root (L : LI K D Mc Mx Sh cs σ M ρ acc H vs) : LI K D Mc Mx Sh (⟨fun a => Mut ρ σ a ∨ a = D, M, H, fun i a => σ[i]? = some (some (.ref a))⟩ :: cs) σ M ρ acc H vs :=
  ⟨L.rel.rootZ _ fun _ => .inl, L.at_, L.rd, L.sub, L.sh, fun b hb => (List.mem_cons.mp hb).elim (fun z => by rw [z]; exact .inl (.inr rfl)) (L.bs b)⟩
theorem LI.unroot {b : Bs} (L : LI K D Mc Mx Sh (b :: cs) σ M ρ acc H vs) : LI K D Mc Mx Sh cs σ M ρ acc H vs :=
  ⟨L.rel.unroot, L.at_, L.rd, L.sub, L.sh, fun c hc => L.bs c (List.mem_cons_of_mem _ hc)⟩
theorem loopC {nm : Bool} {J : It} {xs : List DL.D} {Lv : AS → Hp → Prop} {chk : Ro → Prop} {body : DL.D → List DL.D → Ro → (List DL.D → Ro → Prop) → Prop} {k : List DL.D → Ro → Prop} {Qs : Hp → Prop} {TQ : V → Hp → (Hp → Prop) → Prop}
    (it : Itm K nm J xs Lv) (lv : LvAt K σ M H chk Lv) (L : LI K D Mc Mx Sh cs σ M ρ acc H vs) (c0 : chk ρ) (hs : lcL body chk xs acc ρ k)
    (hq : ∀ M' ρ' acc' H' vs', LI K D Mc Mx Sh cs σ M' ρ' acc' H' vs' → Kp (fun a => Mut ρ σ a ∨ a = D) H H' → Fw K M H M' H' → k acc' ρ' → Qs H')
    (ht : ∀ cs' v d M' ρ' acc' H' vs' kk Nx, LI K D Mc Mx Sh cs' σ M' ρ' acc' H' vs' → TD K nm M' H' v d → body d acc' ρ' kk → (∀ M2 ρ2 acc2 H2 vs2, LI K D Mc Mx Sh cs' σ M2 ρ2 acc2 H2 vs2 → Fw K M' H' M2 H2 → kk acc2 ρ2 → Nx H2) → TQ v H' Nx) :
    ∃ W : Nat → Nat → Hp → Prop, (∃ m, W 0 m H) ∧ ∀ i m H, W i m H → (J.stop i H ∧ Qs H) ∨ (J.go i H ∧ ∃ Nx : Hp → Prop, (∀ H', Nx H' → ∃ m', m' < m ∧ W (i + 1) m' H') ∧ ∀ v H', J.yld i H v H' → TQ v H' Nx) := by
  have zm : ∀ b, (Mut ρ σ b ∨ b = D) → M b := fun b z => z.elim (fun m => L.rel.mutM m) fun e => by rw [e]; exact L.rel.mc D (.inr rfl)
  refine loop_ok (Qs := Qs) (fun M2 H2 => Fw K M H M2 H2) it (fun M2 ρ2 acc2 H2 vs2 L2 _ c2 => ?_) (fun _ _ _ _ a b => a.trans b) Fw.refl L.root c0 hs (fun M' ρ' acc' H' vs' L' F q => hq M' ρ' acc' H' vs' L'.unroot (L'.rel.old _ List.mem_cons_self) F q)
    (fun v d M' ρ' acc' H' vs' kk Nx L' F t b hn => ht _ v d M' ρ' acc' H' vs' kk Nx L' t b hn)
  exact lv _ _ _ _ _ _ L2.rel c2 (L2.rel.old _ List.mem_cons_self) (fun b z => .inl (zm b z)) (L2.rel.gr _ List.mem_cons_self)
end

section
variable {S : Sx} {N : List Str} {sc : Scope} {W : WX} {Γ : Gm}
/-- around the body of a comprehension -/
abbrev Sx.blk (S : Sx) (scope : Scope) : Sx := { S with fn := fun x => scope.names.lookup x == some .cell }
theorem gd_blk {scope : Scope} {y : Dy} (g : Gd S N sc W y) (s : Shared) (H : Hp) (C : Addr) (cl : List (Str × Addr)) (fp : List Addr) :
    Gd (S.blk scope) N (relS scope sc) W0 ⟨y.A, s, H, compEnvC scope cl C y.env, y.stack, y.stack, fp, [], fun _ _ => False⟩ := by
  refine ⟨?_, g.room, takes0⟩
  show relS scope y.env.scope = relS scope sc
  rw [g.sc]
/-- the tests of a clause -/
def OkTs (S : Sx) (N : List Str) (sc : Scope) (ifs : List Expr) (s : SE) : Prop := ∃ tt, (∀ y, Gd S N sc W0 y → PTs (cx S N y) ifs tt) ∧ SndT S W0 tt s
theorem ots_nil : OkTs S N sc [] (semE Γ (.c (.bool true))) := ⟨tYes, fun y _ => pts_nil, fun cs Mc M ρ σ H Q k x R X hs hk => hk true ρ M H (Post.refl R) hs⟩
theorem ots_one {c : Expr} {s : SE} (h : OkT S N sc W0 c s) : OkTs S N sc [c] s := by
  obtain ⟨tt, h1, h2⟩ := h
  exact ⟨tt, fun y g => pts_one (h1 y g), h2⟩
/-- all that is asked of a comprehension with one for -/
structure LcOk (S : Sx) (N : List Str) (sc : Scope) (W : WX) (Γ : Gm) (elt tg iter : Expr) (ifs : List Expr) (scope : Scope) (own : List (Str × Nat)) (nm : Bool) (is : List Nat) (it cond el : DE) : Prop where
  nd : N.Nodup
  hi : OkC S N sc W nm tg iter (semI it (semE Γ it))
  blk : blkC N sc scope own = true
  tg : OkTg (S.blk scope) N (relS scope sc) W0 nm tg is
  sub : ∀ i ∈ is, i ∈ own.map (·.2)
  ts : OkTs (S.blk scope) N (relS scope sc) ifs (semE Γ cond)
  el : OkE (S.blk scope) N (relS scope sc) W0 elt (semE Γ el)
  fs : ∀ env x, foldedSetIterable iter env x = pure x
theorem noOwn_of {ρ : Ro} {vs : List Nat} (h : noOwn ρ vs = true) : ∀ (j : Nat) (fr : Bool) (c : Ct), j ∈ vs → ρ[j]? ≠ some (.o fr c) := fun j fr c hj e => by
  have q := List.all_eq_true.mp h j hj
  rw [e] at q
  cases q
theorem lv_grow {K : PySem.W.Frag} {σ : L2.St} {M : AS} {H : Hp} {chk : Ro → Prop} {Lv : AS → Hp → Prop} {D : Addr} {o : HO} (l : LvAt K σ M H chk Lv) (hD : H D = none) : LvAt K σ (fun b => M b ∨ b = D) (upd H D o) chk Lv := by
  have nn : ∀ b, upd H D o b = none → H b = none := fun b e => by
    by_cases z : b = D
    · rw [z]; exact hD
    · rw [upd_ne z] at e; exact e
  have cv : ∀ b, ((M b ∨ b = D) ∨ upd H D o b = none) → M b ∨ H b = none := fun b z => by
    rcases z with (z | z) | z
    · exact .inl z
    · rw [z]; exact .inr hD
    · exact .inr (nn b z)
  intro cs2 Mc2 M2 ρ2 H2 Z R2 c2 k hz hm
  exact l cs2 Mc2 M2 ρ2 H2 Z R2 c2 (((Kp.fresh (Z := fun _ => False) hD).mono fun _ z => z.elim).trans k) (fun b z => cv b (hz b z)) (fun b z => cv b (hm b z))
theorem li_start {K : PySem.W.Frag} {cs : List Bs} {Mc M : AS} {ρ : Ro} {σ : L2.St} {H : Hp} {D : Addr} (R : RelS K cs Mc M ρ σ H) (hD : H D = none) :
    LI K D Mc (fun a => M a ∨ a = D) (fun i fr => ∃ c, ρ[i]? = some (.o fr c)) cs σ (fun b => M b ∨ b = D) ρ [] (upd H D (.lst [])) [] :=
  ⟨R.growD hD, upd_same, .nil, fun _ z => z, fun i fr c q => ⟨⟨c, q⟩, fun e => by
    obtain ⟨b, e2, m, _⟩ := R.ownA q
    rw [e] at e2
    cases e2
    exact R.mx _ m hD⟩, fun b hb => .inr (R.nobase hb hD)⟩
/-- behind the last turn -/
theorem li_end {K : PySem.W.Frag} {cs : List Bs} {Mc M M' : AS} {ρ ρ' : Ro} {σ : L2.St} {H H' : Hp} {D : Addr} {acc : List DL.D} {vs : List V} (R : RelS K cs Mc M ρ σ H) (hD : H D = none) (L : LI K D Mc (fun a => M a ∨ a = D) (fun i fr => ∃ c, ρ[i]? = some (.o fr c)) cs σ M' ρ' acc H' vs) (k : Kp (fun a => Mut ρ σ a ∨ a = D) (upd H D (.lst [])) H') :
    Post K cs Mc M ρ σ H (fun b => M' b ∧ b ≠ D) ρ' H' ∧ RD K (fun b => M' b ∧ b ≠ D) H' (.ref D) (.list acc) := by
  have nc : ¬ Mc D := fun z => R.mx D (R.mc D z) hD
  have k1 : Kp (fun a => Mut ρ σ a ∨ a = D) H H' := ((Kp.fresh (Z := fun _ => False) hD).mono fun _ z => z.elim).trans k
  refine ⟨⟨L.rel.dropD L.nm nc, fun a z => (L.sub a z.1).resolve_right z.2, ⟨fun b o nz e => k1.keep b o (fun z => z.elim nz fun y => by rw [y, hD] at e; cases e) e, k1.tups, k1.frzs, k1.there⟩, fun i fr c q => (L.sh i fr c q).1⟩, .lst L.at_ (fun z => z.2 rfl) (L.rd.weak fun _ z => z.1)⟩
def lcK (Γ : Gm) (is : List Nat) (cond el : DE) (vs : List Nat) (xs : List D) (chk : Ro → Prop) (ρ1 : Ro) (k : KE') : Prop := noOwn ρ1 vs = true ∧ lcL (lcB is vs (semE Γ cond) (semE Γ el)) chk xs [] ρ1 fun ds ρ2 => k (.list ds) ρ2
/-- the heart -/
theorem lc_snd {elt tg iter : Expr} {ifs : List Expr} {scope : Scope} {own : List (Str × Nat)} {nm : Bool} {is : List Nat} {it cond el : DE} (h : LcOk S N sc W Γ elt tg iter ifs scope own nm is it cond el) :
    ∃ wi g tt te, (∀ y, Gd S N sc W y → PI (cx S N y) tg iter wi) ∧ (∀ y, Gd (S.blk scope) N (relS scope sc) W0 y → PG (cx (S.blk scope) N y) tg g) ∧ (∀ y, Gd (S.blk scope) N (relS scope sc) W0 y → PTs (cx (S.blk scope) N y) ifs tt) ∧ (∀ y, Gd (S.blk scope) N (relS scope sc) W0 y → PE (cx (S.blk scope) N y) elt te) ∧
      SndE S W (tLc wi g tt te (own.map (·.2))) (semE Γ (.lc is it cond el (own.map (·.2)))) := by
  obtain ⟨wi, i1, i2⟩ := h.hi
  obtain ⟨g, g1, g2⟩ := h.tg
  obtain ⟨tt, t1, t2⟩ := h.ts
  obtain ⟨te, e1, e2⟩ := h.el
  refine ⟨wi, g, tt, te, i1, g1, t1, e1, fun cs Mc M ρ σ H Q k x R X hs hk => ?_⟩
  refine i2 cs Mc M ρ σ H _ _ x R X hs fun xs chk ρ1 M1 J H1 Lv p1 itm c1 lv q1 => ?_
  obtain ⟨no, q1⟩ := q1
  intro D hD
  have nv := noOwn_of no
  refine loopC (TQ := TurnT D g tt te (own.map (·.2)) σ) itm (lv_grow lv hD) (li_start p1.rel hD) c1 q1 (fun M' ρ' acc' H' vs' L' k' F q => ?_) fun cs' v d M' ρ' acc' H' vs' kk Nx L' t b hn => ?_
  · obtain ⟨P, r⟩ := li_end p1.rel hD L' k'
    exact hk _ _ _ _ _ (p1.trans P) r q
  · exact turn_ok (S' := S.blk scope) h.sub g2 t2 e2 L' (fun j fr c hj e => by
      obtain ⟨c0, e0⟩ := (L'.sh j fr c e).1
      exact nv j fr c0 hj e0) t b hn
theorem ok_lc {elt tg iter : Expr} {ifs : List Expr} {scope : Scope} {own : List (Str × Nat)} {nm : Bool} {is : List Nat} {it cond el : DE} {pos : Pos} (h : LcOk S N sc W Γ elt tg iter ifs scope own nm is it cond el) : OkE S N sc W (.ListComp elt [⟨tg, iter, ifs, 0⟩] scope pos) (semE Γ (.lc is it cond el (own.map (·.2)))) := by
  obtain ⟨wi, g, tt, te, i1, g1, t1, e1, sd⟩ := lc_snd h
  refine ⟨_, fun y gd => pe_lc rfl h.nd (i1 y gd) (by
    have := blkOk_by h.blk
    rw [← gd.sc] at this
    exact this) (fun s H C cl fp => g1 _ (gd_blk gd s H C cl fp)) (fun s H C cl fp => t1 _ (gd_blk gd s H C cl fp)) (fun s H C cl fp => e1 _ (gd_blk gd s H C cl fp)) (h.fs _), sd⟩
end
end DL

end

section
namespace DL
open PySem PySem.Spec PyProof.Rows L2

section
variable {S : Sx} {N : List Str} {sc : Scope} {W : WX} {Γ : Gm}
/-- two fors -/
structure Lc2Ok (S : Sx) (N : List Str) (sc : Scope) (W : WX) (Γ : Gm) (elt tg iter tg1 iter1 : Expr) (ifs1 : List Expr) (scope : Scope) (own : List (Str × Nat)) (nm nm1 : Bool) (is is1 vs1 : List Nat) (it it1 cond el : DE) : Prop where
  nd : N.Nodup
  hi : OkC S N sc W nm tg iter (semI it (semE Γ it))
  blk : blkC N sc scope own = true
  hv : ∀ i ∈ vs1, i ∈ own.map (·.2)
  tg : OkTg (S.blk scope) N (relS scope sc) W0 nm tg is
  sub : ∀ i ∈ is, i ∈ own.map (·.2)
  hi1 : OkC (S.blk scope) N (relS scope sc) W0 nm1 tg1 iter1 (semI it1 (semE Γ it1))
  tg1 : OkTg (S.blk scope) N (relS scope sc) W0 nm1 tg1 is1
  sub1 : ∀ i ∈ is1, i ∈ vs1
  ts1 : OkTs (S.blk scope) N (relS scope sc) ifs1 (semE Γ cond)
  el : OkE (S.blk scope) N (relS scope sc) W0 elt (semE Γ el)
  fs : ∀ env x, foldedSetIterable iter env x = pure x
  fs1 : ∀ env x, foldedSetIterable iter1 env x = pure x
theorem lc2_snd {elt tg iter tg1 iter1 : Expr} {ifs1 : List Expr} {scope : Scope} {own : List (Str × Nat)} {nm nm1 : Bool} {is is1 vs1 : List Nat} {it it1 cond el : DE} (h : Lc2Ok S N sc W Γ elt tg iter tg1 iter1 ifs1 scope own nm nm1 is is1 vs1 it it1 cond el) :
    ∃ wi g wi1 g1 tt te, (∀ y, Gd S N sc W y → PI (cx S N y) tg iter wi) ∧ (∀ y, Gd (S.blk scope) N (relS scope sc) W0 y → PG (cx (S.blk scope) N y) tg g) ∧ (∀ y, Gd (S.blk scope) N (relS scope sc) W0 y → PI (cx (S.blk scope) N y) tg1 iter1 wi1) ∧ (∀ y, Gd (S.blk scope) N (relS scope sc) W0 y → PG (cx (S.blk scope) N y) tg1 g1) ∧ (∀ y, Gd (S.blk scope) N (relS scope sc) W0 y → PTs (cx (S.blk scope) N y) ifs1 tt) ∧ (∀ y, Gd (S.blk scope) N (relS scope sc) W0 y → PE (cx (S.blk scope) N y) elt te) ∧
      SndE S W (tLc2 wi g tYes wi1 g1 tt te (own.map (·.2)) vs1) (semE Γ (.lc2 is it is1 it1 cond el (own.map (·.2)) vs1)) := by
  obtain ⟨wi, i1, i2⟩ := h.hi
  obtain ⟨g, g1, g2⟩ := h.tg
  obtain ⟨wi1, j1, j2⟩ := h.hi1
  obtain ⟨f, f1, f2⟩ := h.tg1
  obtain ⟨tt, t1, t2⟩ := h.ts1
  obtain ⟨te, e1, e2⟩ := h.el
  refine ⟨wi, g, wi1, f, tt, te, i1, g1, j1, f1, t1, e1, fun cs Mc M ρ σ H Q k x R X hs hk => ?_⟩
  refine i2 cs Mc M ρ σ H _ _ x R X hs fun xs chk ρ1 M1 J H1 Lv p1 itm c1 lv q1 => ?_
  obtain ⟨no, q1⟩ := q1
  intro D hD
  have nv := noOwn_of no
  refine loopC (TQ := fun v H' Nx => g v (wipe σ (own.map (·.2))) H' fun σ2 H2 => wipe σ2 (own.map (·.2)) = wipe σ (own.map (·.2)) ∧ tYes σ2 H2 fun b H3 =>
    if b = true then wi1 σ2 H3 fun J1 H4 => ∃ W1 : Nat → Nat → Hp → Prop, (∃ m, W1 0 m H4) ∧ ∀ j k H, W1 j k H →
      (J1.stop j H ∧ Nx H) ∨ (J1.go j H ∧ ∃ Nx1 : Hp → Prop, (∀ H', Nx1 H' → ∃ k', k' < k ∧ W1 (j + 1) k' H') ∧ ∀ x H', J1.yld j H x H' → TurnT D f tt te vs1 σ2 x H' Nx1)
    else Nx H3) itm (lv_grow lv hD) (li_start p1.rel hD) c1 q1 (fun M' ρ' acc' H' vs' L' k' F q => ?_) fun cs' v d M' ρ' acc' H' vs' kk Nx L' t b hn => ?_
  · obtain ⟨P, r⟩ := li_end p1.rel hD L' k'
    exact hk _ _ _ _ _ (p1.trans P) r q
  · split at b
    · rename_i ρ3 e3
      have hv' : ∀ (j : Nat) (fr : Bool) (c : Ct), j ∈ own.map (·.2) → ρ'[j]? ≠ some (.o fr c) := fun j fr c hj e => by
        obtain ⟨c0, e0⟩ := (L'.sh j fr c e).1
        exact nv j fr c0 hj e0
      refine g2 cs' _ M' _ ρ3 _ H' v d _ (L'.rel.wipes (own.map (·.2))) t e3 fun σ2 R3 l2 s1 sh => ?_
      obtain ⟨L3, ag⟩ := L'.bind h.sub R3 s1 sh
      have hl : σ2.length = σ.length := by rw [l2, wipe_length]
      refine ⟨wipe_same hl ag, ?_⟩
      simp only [tYes, if_true]
      refine j2 cs' _ M' ρ3 σ2 H' _ _ x0 R3 xok0 b fun ys chk1 ρ4 M4 J1 H4 Lv1 p4 itm1 c4 lv4 q4 => ?_
      have L4 := L3.post p4
      have F4 := p4.fw R3
      refine loopC (TQ := TurnT D f tt te vs1 σ2) itm1 lv4 L4 c4 q4 (fun M5 ρ5 acc5 H5 vs5 L5 k5 F5 q5 => ?_) fun cs2 v2 d2 M5 ρ5 acc5 H5 vs5 kk2 Nx2 L5 t5 b5 hn5 => ?_
      · have F := F4.trans F5
        exact hn _ _ _ _ _ (L'.back L5 hv' ag hl F.rd F.fz) F q5
      · exact turn_ok (S' := S.blk scope) h.sub1 f2 t2 e2 L5 (fun j fr c hj e => by
          obtain ⟨c0, e0⟩ := (L5.sh j fr c e).1
          exact nv j fr c0 (h.hv j hj) e0) t5 b5 hn5
    · exact b.elim
theorem ok_lc2 {elt tg iter tg1 iter1 : Expr} {ifs1 : List Expr} {scope : Scope} {own : List (Str × Nat)} {nm nm1 : Bool} {is is1 vs1 : List Nat} {it it1 cond el : DE} {pos : Pos} (h : Lc2Ok S N sc W Γ elt tg iter tg1 iter1 ifs1 scope own nm nm1 is is1 vs1 it it1 cond el) : OkE S N sc W (.ListComp elt [⟨tg, iter, [], 0⟩, ⟨tg1, iter1, ifs1, 0⟩] scope pos) (semE Γ (.lc2 is it is1 it1 cond el (own.map (·.2)) vs1)) := by
  obtain ⟨wi, g, wi1, f, tt, te, i1, g1, j1, f1, t1, e1, sd⟩ := lc2_snd h
  refine ⟨_, fun y gd => pe_lc2 rfl h.nd (i1 y gd) (by
    have := blkOk_by h.blk
    rw [← gd.sc] at this
    exact this) h.hv (fun s H C cl fp => g1 _ (gd_blk gd s H C cl fp)) (fun _ _ _ _ _ => pts_nil) (fun s H C cl fp => j1 _ (gd_blk gd s H C cl fp)) (fun s H C cl fp => f1 _ (gd_blk gd s H C cl fp)) (fun s H C cl fp => t1 _ (gd_blk gd s H C cl fp)) (fun s H C cl fp => e1 _ (gd_blk gd s H C cl fp)) (h.fs _) h.fs1, sd⟩
/-- tuple(range(n)), list(range(n)) -/
theorem ok_rngT {e : Expr} {p p2 pos pos2 : Pos} {a : DE} (B : BiN S sc "range" (.type "range")) (B2 : BiN S sc "tuple" (.type "tuple")) (h : OkE S N sc W e (semE Γ a)) (hs : ∀ env, starEach [e] env = (false, eval e env) :: starEach [] env)
    (hs2 : ∀ env, starEach [.Call (.Name "range" p) [e] [] pos] env = (false, eval (.Call (.Name "range" p) [e] [] pos) env) :: starEach [] env) : OkE S N sc W (.Call (.Name "tuple" p2) [.Call (.Name "range" p) [e] [] pos] [] pos2) (semE Γ (.rngT a)) := by
  obtain ⟨te, h1, h2⟩ := h
  refine ⟨tTupRgF (tRg1 te), fun y g => pe_tupRgF rfl (gd_gl g B2.gl) B2.mg (prg_1 (gd_gl g B.gl) B.mg (h1 y g) (hs _)) (hs2 _), fun cs Mc M ρ σ H Q k x R X hs hk => ?_⟩
  refine h2 cs Mc M ρ σ H _ _ x R X hs fun d ρ1 M1 v H1 p1 r1 q1 => ?_
  cases d <;> first | exact (show False from q1).elim | skip
  cases r1
  rename_i n
  obtain ⟨⟨z0, z1⟩, q1⟩ := q1
  refine ⟨n, rfl, ⟨by omega, by omega, by omega, by omega, by omega⟩, fun p o ho hp => ?_⟩
  have hr : RDs S.K M1 H1 (rgV 0 n) (rangeD 0 n.toNat) := by
    have e : rgV 0 n = ((List.range n.toNat).map fun i => (0 + (i : Nat) : Int)).map V.int := by
      unfold rgV
      rw [List.map_map, Int.sub_zero]
      rfl
    have e2 : rangeD 0 n.toNat = ((List.range n.toNat).map fun i => (0 + (i : Nat) : Int)).map PyData.int := by
      unfold rangeD
      rw [List.map_map]
      rfl
    rw [e, e2]
    exact RDs.ints _
  exact hk _ _ _ _ _ (p1.trans (Post.newH p1.rel hp)) (RD.newT hr hp ho) q1
theorem ok_rngL {e : Expr} {p p2 pos pos2 : Pos} {a : DE} (B : BiN S sc "range" (.type "range")) (B2 : BiN S sc "list" (.type "list")) (h : OkE S N sc W e (semE Γ a)) (hs : ∀ env, starEach [e] env = (false, eval e env) :: starEach [] env)
    (hs2 : ∀ env, starEach [.Call (.Name "range" p) [e] [] pos] env = (false, eval (.Call (.Name "range" p) [e] [] pos) env) :: starEach [] env) : OkE S N sc W (.Call (.Name "list" p2) [.Call (.Name "range" p) [e] [] pos] [] pos2) (semE Γ (.rngL a)) := by
  obtain ⟨te, h1, h2⟩ := h
  refine ⟨tLstRg (tRg1 te), fun y g => pe_listRg rfl (gd_gl g B2.gl) B2.mg (prg_1 (gd_gl g B.gl) B.mg (h1 y g) (hs _)) (hs2 _), fun cs Mc M ρ σ H Q k x R X hs hk => ?_⟩
  refine h2 cs Mc M ρ σ H _ _ x R X hs fun d ρ1 M1 v H1 p1 r1 q1 => ?_
  cases d <;> first | exact (show False from q1).elim | skip
  cases r1
  rename_i n
  obtain ⟨⟨z0, z1⟩, q1⟩ := q1
  refine ⟨n, rfl, ⟨by omega, by omega, by omega, by omega, by omega⟩, fun p hp => ?_⟩
  have hr : RDs S.K M1 H1 (rgV 0 n) (rangeD 0 n.toNat) := by
    have e : rgV 0 n = ((List.range n.toNat).map fun i => (0 + (i : Nat) : Int)).map V.int := by
      unfold rgV
      rw [List.map_map, Int.sub_zero]
      rfl
    have e2 : rangeD 0 n.toNat = ((List.range n.toNat).map fun i => (0 + (i : Nat) : Int)).map PyData.int := by
      unfold rangeD
      rw [List.map_map]
      rfl
    rw [e, e2]
    exact RDs.ints _
  exact hk _ _ _ _ _ (p1.trans (Post.newH p1.rel hp)) (RD.newL p1.rel.mx hr hp) q1
end
end DL

end

section
namespace DL
open PySem PySem.Spec PyProof.Rows L2

structure GdS (S : Sx) (N : List Str) (sc : Scope) (W : WX) (y : Dy) : Prop where
  gd : Gd S N sc W y
  po : PassesOwn (model S.P S.w) y.A y.env y.xe
  st : y.stack = y.env :: y.outer
  fr : y.env.frame = some y.env.locals
structure EndsOk (S : Sx) (cs : List Bs) (Mc : AS) (E : Ends) (K : DK) : Prop where
  nx : ∀ ρ' σ' M' H', RelS S.K cs Mc M' ρ' σ' H' → K.nx ρ' → E.nx σ' H'
  rt : ∀ d ρ' σ' M' v H', RelS S.K cs Mc M' ρ' σ' H' → RD S.K M' H' v d → K.rt d ρ' → E.rt v H'
  bk : ∀ ρ' σ' M' H', RelS S.K cs Mc M' ρ' σ' H' → K.bk ρ' → E.bk σ' H'
  ct : ∀ ρ' σ' M' H', RelS S.K cs Mc M' ρ' σ' H' → K.ct ρ' → E.ct σ' H'
  rtf : ∀ (ds : List D) (ρ' : Ro) (σ' : L2.St) (M' : AS) (p : Addr) (xs : List V) (H' : Hp), RelS S.K cs Mc (fun a => M' a ∨ a = p) ρ' σ' H' → H' p = some (.lst xs) → RDs S.K (fun a => M' a ∨ a = p) H' xs ds → (∀ b ∈ cs, b.z p ∨ b.h p = none) → ¬ Mc p → K.rtf (.list ds) ρ' → E.rt (.ref p) H'
def SndS (S : Sx) (W : WX) (ts : TS) (s : DK → Ro → Prop) : Prop := ∀ (cs : List Bs) (Mc M : AS) (ρ : Ro) (σ : L2.St) (H : Hp) (E : Ends) (K : DK), RelS S.K cs Mc M ρ σ H → XOk S W cs K.ex → s K ρ → EndsOk S cs Mc E K → ts E σ H
def OkS (S : Sx) (N : List Str) (sc : Scope) (W : WX) (st : Stmt) (s : DK → Ro → Prop) : Prop := ∃ ts, (∀ y, GdS S N sc W y → PS (cx S N y) st ts) ∧ SndS S W ts s
def OkSs (S : Sx) (N : List Str) (sc : Scope) (W : WX) (sts : List Stmt) (s : DK → Ro → Prop) : Prop := ∃ ts, (∀ y, GdS S N sc W y → PSs (cx S N y) sts ts) ∧ SndS S W ts s
section
variable {S : Sx} {N : List Str} {sc : Scope} {W : WX} {Γ : Gm}
theorem oss_nil : OkSs S N sc W [] (semS Γ .skip) := ⟨_, fun y _ => pss_nil, fun cs Mc M ρ σ H E K R X hs hE => hE.nx _ _ _ _ R hs⟩
theorem oss_one {st : Stmt} {s : DK → Ro → Prop} (h : OkS S N sc W st s) : OkSs S N sc W [st] s := by
  obtain ⟨ts, h1, h2⟩ := h
  exact ⟨ts, fun y g => pss_one (h1 y g), h2⟩
theorem oss_cons {st : Stmt} {sts : List Stmt} {a b : DS} (h : OkS S N sc W st (semS Γ a)) (h' : OkSs S N sc W sts (semS Γ b)) : OkSs S N sc W (st :: sts) (semS Γ (.seq a b)) := by
  obtain ⟨ts, h1, h2⟩ := h
  obtain ⟨us, g1, g2⟩ := h'
  refine ⟨_, fun y g => pss_cons (h1 y g) (g1 y g), fun cs Mc M ρ σ H E K R X hs hE => ?_⟩
  exact h2 cs Mc M ρ σ H _ { K with nx := semS Γ b K } R X hs ⟨fun ρ' σ' M' H' R' q => g2 cs Mc M' ρ' σ' H' E K R' X q hE, hE.rt, hE.bk, hE.ct, hE.rtf⟩
theorem os_pass {pos : Pos} : OkS S N sc W (.Pass pos) (semS Γ .skip) := ⟨_, fun y _ => ps_pass, fun cs Mc M ρ σ H E K R X hs hE => hE.nx _ _ _ _ R hs⟩
theorem os_doc {x j pos pos'} : OkS S N sc W (.Expr (.Constant (.str x) j pos) pos') (semS Γ .skip) := ⟨_, fun y _ => ps_doc, fun cs Mc M ρ σ H E K R X hs hE => hE.nx _ _ _ _ R hs⟩
theorem os_brk {pos : Pos} : OkS S N sc W (.Break pos) (semS Γ .brk) := ⟨_, fun y _ => ps_break, fun cs Mc M ρ σ H E K R X hs hE => hE.bk _ _ _ _ R hs⟩
theorem os_cnt {pos : Pos} : OkS S N sc W (.Continue pos) (semS Γ .cnt) := ⟨_, fun y _ => ps_continue, fun cs Mc M ρ σ H E K R X hs hE => hE.ct _ _ _ _ R hs⟩
theorem os_retN {pos : Pos} : OkS S N sc W (.Return none pos) (semS Γ .retN) := ⟨_, fun y _ => ps_retN, fun cs Mc M ρ σ H E K R X hs hE => hE.rt _ _ _ _ _ _ R .non hs⟩
theorem os_ret {e : Expr} {a : DE} {pos : Pos} (h : OkE S N sc W e (semE Γ a)) : OkS S N sc W (.Return (some e) pos) (semS Γ (.ret a)) := by
  obtain ⟨te, h1, h2⟩ := h
  refine ⟨_, fun y g => ps_ret (h1 y g.gd), fun cs Mc M ρ σ H E K R X hs hE => ?_⟩
  exact h2 cs Mc M ρ σ H _ _ _ R X hs fun d ρ' M' v H' p r q => hE.rt _ _ _ _ _ _ p.rel r q
theorem os_ex {e : Expr} {a : DE} {pos : Pos} (h : OkE S N sc W e (semE Γ a)) (hs : ∀ env, swapsWith e none pos.line env = pure false) : OkS S N sc W (.Expr e pos) (semS Γ (.ex a)) := by
  obtain ⟨te, h1, h2⟩ := h
  refine ⟨_, fun y g => ps_expr (h1 y g.gd) (hs _), fun cs Mc M ρ σ H E K R X hs hE => ?_⟩
  exact h2 cs Mc M ρ σ H _ _ _ R X hs fun d ρ' M' v H' p r q => hE.nx _ _ _ _ p.rel q
theorem os_if {c : Expr} {a b : List Stmt} {t : DE} {da db : DS} {pos : Pos} (hc : OkT S N sc W c (semE Γ t)) (ha : OkSs S N sc W a (semS Γ da)) (hb : OkSs S N sc W b (semS Γ db)) : OkS S N sc W (.If c a b pos) (semS Γ (.ife t da db)) := by
  obtain ⟨tt, f1, f2⟩ := hc
  obtain ⟨ta, h1, h2⟩ := ha
  obtain ⟨tb, g1, g2⟩ := hb
  refine ⟨_, fun y g => ps_if (f1 y g.gd) (h1 y g) (g1 y g), fun cs Mc M ρ σ H E K R X hs hE => ?_⟩
  refine f2 cs Mc M ρ σ H _ _ _ R X hs fun b ρ1 M1 H1 p1 q1 => ?_
  cases b with
  | true => exact h2 cs Mc M1 ρ1 σ H1 E K p1.rel X q1 hE
  | false => exact g2 cs Mc M1 ρ1 σ H1 E K p1.rel X q1 hE
/-! names set -/
theorem tgw {x : Str} {i : Nat} {p : Pos} (hN : N.Nodup) (w : Wr S N sc x i) {y : Dy} (g : Gd S N sc W y) : Loc (cx S N y).env.scope x ∧ ((cx S N y).fn x = true ∨ (cx S N y).env.scope.names.lookup x = some .local) := by
  constructor
  · show Loc y.env.scope x
    rw [g.sc]
    exact w.at_.imp id fun z => z.1
  · show S.fn x = true ∨ y.env.scope.names.lookup x = some .local
    rw [g.sc]
    exact w.at_.elim .inr fun z => .inl z.2
theorem os_asg {x : Str} {i : Nat} {p pos : Pos} {e : Expr} {a : DE} (hN : N.Nodup) (w : Wr S N sc x i) (h : OkE S N sc W e (semE Γ a)) (hs : ∀ env, env.scope = sc → swapsWith e (some (.Name x p)) pos.line env = pure false) : OkS S N sc W (.Assign [.Name x p] e pos) (semS Γ (.asg i a)) := by
  obtain ⟨te, h1, h2⟩ := h
  refine ⟨tAsg te (gName i), fun y g => ps_set hN w.ix (tgw (p := p) hN w g.gd).1 (h1 y g.gd) (hs _ g.gd.sc) (tgw (p := p) hN w g.gd).2, fun cs Mc M ρ σ H E K R X hs hE => ?_⟩
  exact h2 cs Mc M ρ σ H _ _ _ R X hs fun d ρ' M' v H' p r q => hE.nx _ _ _ _ (p.rel.setP r) q
/-! ### lists of one's own -/
structure NewAt (K : PySem.W.Frag) (cs : List Bs) (Mc M : AS) (ρ : Ro) (σ : L2.St) (H : Hp) (M' : AS) (ρ' : Ro) (H' : Hp) (p : Addr) (xs : List V) (ds : List D) : Prop where
  rel : RelS K cs Mc (fun a => M' a ∨ a = p) ρ' σ H'
  sub : ∀ a, M' a → M a
  kp : Kp (Mut ρ σ) H H'
  shr : ∀ (i : Nat) (fr : Bool) (c' : Ct), ρ'[i]? = some (.o fr c') → ∃ c, ρ[i]? = some (.o fr c)
  at_ : H' p = some (.lst xs)
  rd : RDs K (fun a => M' a ∨ a = p) H' xs ds
  bs : ∀ b ∈ cs, b.h p = none
  nc : ¬ Mc p
  nm : ¬ Mut ρ' σ p
  nq : ¬ M' p
theorem RelS.growK {K : PySem.W.Frag} {cs : List Bs} {Mc M : AS} {ρ : Ro} {σ : L2.St} {H H' : Hp} (R : RelS K cs Mc M ρ σ H) {p : Addr} (h : H p = none) (k : Kp (fun _ => False) H H') (h' : H' p ≠ none) : RelS K cs Mc (fun b => M b ∨ b = p) ρ σ H' := by
  have hm : ∀ b, (M b ∨ b = p) → M b ∨ H b = none := fun b z => z.imp id fun y => by rw [y]; exact h
  refine ⟨R.len, fun i s ov q e => ?_, R.sep, fun a z => .inl (R.mc a z), fun a m => ?_, R.own, fun b hb => (R.old b hb).trans (k.mono fun _ z => z.elim), fun b hb a z => ?_, R.pin⟩
  · have q := R.sl i s ov q e
    cases s with
    | un => trivial
    | p d =>
      obtain ⟨v, e1, r⟩ := q
      exact ⟨v, e1, r.kp k (fun b z => z.elim) hm⟩
    | o fr c =>
      obtain ⟨a, e1, m, r⟩ := q
      exact ⟨a, e1, .inl m, r.kp k (fun b z => z.elim) hm fun z => z⟩
    | sc ns =>
      obtain ⟨a, e1, r⟩ := q
      refine ⟨a, e1, ?_⟩
      rcases r with ⟨o, r⟩ | r
      · exact .inl ⟨o, k.frzs _ _ _ r⟩
      · exact .inr r
  · rcases m with m | m
    · exact k.there a (R.mx a m)
    · rw [m]; exact h'
  · rcases z with z | z
    · exact R.gr b hb a z
    · rw [z]
      exact .inr (R.nobase hb h)
theorem newAt_of {K : PySem.W.Frag} {cs : List Bs} {Mc M M1 : AS} {ρ ρ1 : Ro} {σ : L2.St} {H H1 H' : Hp} {p : Addr} {xs : List V} {ds : List D} (p1 : Post K cs Mc M ρ σ H M1 ρ1 H1) (h : H1 p = none) (k : Kp (fun _ => False) H1 H') (e : H' p = some (.lst xs)) (r : RDs K (fun a => M1 a ∨ a = p) H' xs ds) : NewAt K cs Mc M ρ σ H M1 ρ1 H' p xs ds :=
  ⟨p1.rel.growK h k (by rw [e]; exact fun z => nomatch z), p1.sub, p1.kp.trans (k.mono fun _ z => z.elim), p1.shr, e, r, fun b hb => p1.rel.nobase hb h, fun z => p1.rel.mx p (p1.rel.mc p z) h, fun ⟨i, fr, c, q, z⟩ => by
    obtain ⟨a, e2, m, _⟩ := p1.rel.ownA q
    rw [z] at e2
    cases e2
    exact p1.rel.mx _ m h, fun z => p1.rel.mx p z h⟩
theorem newAt_upd {K : PySem.W.Frag} {cs : List Bs} {Mc M M1 : AS} {ρ ρ1 : Ro} {σ : L2.St} {H H1 : Hp} {p : Addr} {xs : List V} {ds : List D} (p1 : Post K cs Mc M ρ σ H M1 ρ1 H1) (h : H1 p = none) (r : RDs K M1 H1 xs ds) : NewAt K cs Mc M ρ σ H M1 ρ1 (upd H1 p (.lst xs)) p xs ds :=
  newAt_of p1 h (Kp.fresh h) upd_same (r.kp (Kp.fresh (Z := fun _ => False) h) (fun _ z => z.elim) fun b z => z.imp id fun y => by rw [y]; exact h)
def SndF (S : Sx) (W : WX) (te : TE) (s : SE) : Prop := ∀ (cs : List Bs) (Mc M : AS) (ρ : Ro) (σ : L2.St) (H : Hp) (Q : VK) (k : KE') (x : Ex → Prop), RelS S.K cs Mc M ρ σ H → XOk S W cs x → s ρ k x →
  (∀ ds ρ' M' p xs H', NewAt S.K cs Mc M ρ σ H M' ρ' H' p xs ds → k (.list ds) ρ' → Q (.ref p) H') → te σ H Q
def OkF (S : Sx) (N : List Str) (sc : Scope) (W : WX) (e : Expr) (s : SE) : Prop := ∃ te, (∀ y, Gd S N sc W y → PE (cx S N y) e te) ∧ SndF S W te s
theorem of_lst {es : List Expr} {pos : Pos} {a : DE} (ha : OkA S N sc W es (semA Γ a)) : OkF S N sc W (.List es pos) (semE Γ (.lst a)) := by
  obtain ⟨ta, h1, h2⟩ := ha
  refine ⟨_, fun y g => pe_lst (h1 y g), fun cs Mc M ρ σ H Q k x R X hs hk => ?_⟩
  exact h2 cs Mc M ρ σ H _ _ x R X hs fun ds ρ1 M1 vs H1 p1 r1 q1 => ⟨by rw [r1.len]; exact Nat.le_of_lt (small1000 q1.1), fun p hp => hk _ _ _ _ _ _ (newAt_upd p1 hp r1) q1.2⟩
theorem of_call {x : Str} {p pos : Pos} {e : Expr} {es : List Expr} {dv : Nat} {a : DE} (F : FnReg S Γ x dv) (hf : Γ.fr x = true) (hg : sc.names.lookup x = some .globalImplicit) (hdb : (x == ("__debug__" : Str)) = false) (ha : OkG S N sc W (e :: es) (semG Γ a))
    (hs : ∀ env, starEach (e :: es) env = (false, eval e env) :: starEach es env) (hpl : ∀ env, (backTo pos (starEach es env)).any (·.1) = false) : OkF S N sc W (.Call (.Name x p) (e :: es) [] pos) (semE Γ (.call x a dv)) := by
  obtain ⟨te, h1, h2⟩ := call_snd (p := p) F hg hdb ha hs hpl
  refine ⟨te, h1, fun cs Mc M ρ σ H Q k x' R X hsem hk' => h2 cs Mc M ρ σ H Q k x' R X hsem fun d ρ1 M1 H1 ρ' v H' p1 p2 rd nw hk2 => ?_⟩
  obtain ⟨⟨q, xs, ds, rfl, rfl, z1, z2, z3⟩, rfl, k1⟩ := nw hf
  exact hk' _ _ _ _ _ _ (newAt_of p1 z1 k1 z2 z3) hk2
theorem of_rngL {e : Expr} {p p2 pos pos2 : Pos} {a : DE} (B : BiN S sc "range" (.type "range")) (B2 : BiN S sc "list" (.type "list")) (h : OkE S N sc W e (semE Γ a)) (hs : ∀ env, starEach [e] env = (false, eval e env) :: starEach [] env)
    (hs2 : ∀ env, starEach [.Call (.Name "range" p) [e] [] pos] env = (false, eval (.Call (.Name "range" p) [e] [] pos) env) :: starEach [] env) : OkF S N sc W (.Call (.Name "list" p2) [.Call (.Name "range" p) [e] [] pos] [] pos2) (semE Γ (.rngL a)) := by
  obtain ⟨te, h1, h2⟩ := h
  refine ⟨tLstRg (tRg1 te), fun y g => pe_listRg rfl (gd_gl g B2.gl) B2.mg (prg_1 (gd_gl g B.gl) B.mg (h1 y g) (hs _)) (hs2 _), fun cs Mc M ρ σ H Q k x R X hs hk => ?_⟩
  refine h2 cs Mc M ρ σ H _ _ x R X hs fun d ρ1 M1 v H1 p1 r1 q1 => ?_
  cases d <;> first | exact (show False from q1).elim | skip
  cases r1
  rename_i n
  obtain ⟨⟨z0, z1⟩, q1⟩ := q1
  refine ⟨n, rfl, ⟨by omega, by omega, by omega, by omega, by omega⟩, fun p hp => hk _ _ _ _ _ _ (newAt_upd p1 hp ?_) q1⟩
  have e : rgV 0 n = ((List.range n.toNat).map fun i => (0 + (i : Nat) : Int)).map V.int := by
    unfold rgV
    rw [List.map_map, Int.sub_zero]
    rfl
  have e2 : rangeD 0 n.toNat = ((List.range n.toNat).map fun i => (0 + (i : Nat) : Int)).map PyData.int := by
    unfold rangeD
    rw [List.map_map]
    rfl
  rw [e, e2]
  exact RDs.ints _
/-- list(x) -/
theorem of_list {x : Str} {p pos : Pos} {e : Expr} {a : DE} (B : BiN S sc x (.type "list")) (ha : OkO S N sc W e (semO a (semE Γ a))) (hs : ∀ env, starEach [e] env = (false, eval e env) :: starEach [] env) : OkF S N sc W (.Call (.Name x p) [e] [] pos) (semE Γ (.op1 .listOf a)) := by
  obtain ⟨ta, h1, h2⟩ := ha
  refine ⟨tCB (fun xs H Q => ∃ q ys, xs = [.ref q] ∧ (SqL S.K H q ys ∨ SqT S.K H q ys) ∧ ∀ l, H l = none → Q (.ref l) (upd H l (.lst ys))) (tCons ta tNil), fun y g => pe_callTy ?_ (gd_gl g B.gl) B.mg B.bt (pa_cons (h1 y g) pa_nil (hs _)) B.nn B.db (hs _) rfl, fun cs Mc M ρ σ H Q k x R X hs hk => ?_⟩
  · exact fun pins s σ H xs us Q I r h => call_list_of pins s σ H xs us Q I r h
  refine h2 cs Mc M ρ σ H _ _ x R X hs fun o ρ1 M1 v H1 p1 r1 q1 => ?_
  split at q1
  · rename_i d e
    have rb := rs_ok p1.rel r1 e
    cases d <;> first | exact (show False from q1).elim | skip
    · obtain ⟨b, ys, rfl, z1, z2⟩ := rb.list
      exact ⟨b, ys, rfl, .inl (SqL.of z1), fun l hl => hk _ _ _ _ _ _ (newAt_upd p1 hl z2) q1⟩
    · obtain ⟨b, ys, rfl, z1, z2⟩ := rb.tup
      exact ⟨b, ys, rfl, .inr z1, fun l hl => hk _ _ _ _ _ _ (newAt_upd p1 hl z2) q1⟩
  · exact q1.elim
end
end DL

end

section
namespace DL
open PySem PySem.Spec PyProof.Rows L2

section
variable {K : PySem.W.Frag} {cs : List Bs} {Mc M M1 M2 : AS} {ρ ρ' ρ1 : Ro} {σ : L2.St} {H H' H1 : Hp} {p : Addr} {xs : List V} {ds : List D}
theorem RelS.shrink (R : RelS K cs Mc M ρ σ H) {Mc2 : AS} (h1 : ∀ a, M2 a → M a) (h2 : ∀ a, Mc2 a → M2 a) (h3 : ∀ a, Mut ρ σ a → M2 a) (h4 : ∀ a, Mc2 a → Mc a) : RelS K cs Mc2 M2 ρ σ H := by
  refine ⟨R.len, fun i s ov q e => ?_, R.sep, h2, fun a z => R.mx a (h1 a z), fun i fr c a q e => ⟨(R.own i fr c a q e).1, fun hf z => (R.own i fr c a q e).2 hf (h4 a z)⟩, R.old, fun b hb a z => R.gr b hb a (h1 a z), R.pin⟩
  have q2 := R.sl i s ov q e
  cases s with
  | un => trivial
  | p d =>
    obtain ⟨v, e1, r⟩ := q2
    exact ⟨v, e1, r.weak h1⟩
  | o fr c =>
    obtain ⟨a, e1, m, r⟩ := q2
    subst e1
    exact ⟨a, rfl, h3 a ⟨i, fr, c, q, e⟩, r.kp (Kp.refl (Z := fun _ => False)) (fun _ z => z.elim) (fun x z => .inl (h1 x z)) fun z => z⟩
  | sc ns => exact q2
theorem NewAt.post (n : NewAt K cs Mc M ρ σ H M1 ρ1 H1 p xs ds) : Post K cs Mc M ρ σ H M1 ρ1 H1 ∧ RD K M1 H1 (.ref p) (.list ds) := by
  refine ⟨⟨n.rel.shrink (fun _ z => .inl z) (fun a z => (n.rel.mc a z).resolve_right fun e => n.nc (by rw [← e]; exact z)) (fun a m => (n.rel.mutM m).resolve_right fun e => n.nm (by rw [← e]; exact m)) (fun _ z => z), n.sub, n.kp, n.shr⟩, ?_⟩
  exact .lst n.at_ n.nq (n.rd.weak fun _ => .inl)
end
section
variable {S : Sx} {N : List Str} {sc : Scope} {W : WX} {Γ : Gm}
theorem SndF.snd {te : TE} {s : SE} (h : SndF S W te s) : SndE S W te s := fun cs Mc M ρ σ H Q k x R X hs hk =>
  h cs Mc M ρ σ H Q k x R X hs fun ds ρ' M' p xs H' n q => hk _ _ _ _ _ n.post.1 n.post.2 q
theorem ok_ofF {e : Expr} {s : SE} (h : OkF S N sc W e s) : OkE S N sc W e s := by
  obtain ⟨te, h1, h2⟩ := h
  exact ⟨te, h1, h2.snd⟩
/-- behind the last turn, the list is new -/
theorem li_new {K : PySem.W.Frag} {cs : List Bs} {Mc M M' : AS} {ρ ρ' : Ro} {σ : L2.St} {H H' : Hp} {D : Addr} {acc : List DL.D} {vs : List V} (R : RelS K cs Mc M ρ σ H) (hD : H D = none) (L : LI K D Mc (fun a => M a ∨ a = D) (fun i fr => ∃ c, ρ[i]? = some (.o fr c)) cs σ M' ρ' acc H' vs) (k : Kp (fun a => Mut ρ σ a ∨ a = D) (upd H D (.lst [])) H') :
    NewAt K cs Mc M ρ σ H (fun b => M' b ∧ b ≠ D) ρ' H' D vs acc := by
  have nc : ¬ Mc D := fun z => R.mx D (R.mc D z) hD
  have mD : M' D := L.rel.mc D (.inr rfl)
  have eM : (fun b => (M' b ∧ b ≠ D) ∨ b = D) = M' := by
    funext b
    refine propext ⟨fun z => z.elim (fun y => y.1) fun y => by rw [y]; exact mD, fun z => ?_⟩
    by_cases e : b = D
    · exact .inr e
    · exact .inl ⟨z, e⟩
  obtain ⟨P, r⟩ := li_end R hD L k
  refine ⟨?_, P.sub, P.kp, P.shr, L.at_, ?_, fun b hb => R.nobase hb hD, nc, L.nm, fun z => z.2 rfl⟩
  · rw [eM]
    exact L.rel.shrink (fun _ z => z) (fun a z => L.rel.mc a (.inl z)) (fun a m => L.rel.mutM m) fun a z => .inl z
  · rw [eM]
    exact L.rd
theorem NewAt.trans {K : PySem.W.Frag} {cs : List Bs} {Mc M M1 M2 : AS} {ρ ρ1 ρ2 : Ro} {σ : L2.St} {H H1 H2 : Hp} {p : Addr} {xs : List V} {ds : List D} (a : Post K cs Mc M ρ σ H M1 ρ1 H1) (n : NewAt K cs Mc M1 ρ1 σ H1 M2 ρ2 H2 p xs ds) : NewAt K cs Mc M ρ σ H M2 ρ2 H2 p xs ds :=
  ⟨n.rel, fun b z => a.sub b (n.sub b z), a.kp.trans (n.kp.mono fun b m => a.mut m), fun i fr c q => by
    obtain ⟨c1, e1⟩ := n.shr i fr c q
    exact a.shr i fr c1 e1, n.at_, n.rd, n.bs, n.nc, n.nm, n.nq⟩
theorem lc_sndF {elt tg iter : Expr} {ifs : List Expr} {scope : Scope} {own : List (Str × Nat)} {nm : Bool} {is : List Nat} {it cond el : DE} (h : LcOk S N sc W Γ elt tg iter ifs scope own nm is it cond el) :
    ∃ wi g tt te, (∀ y, Gd S N sc W y → PI (cx S N y) tg iter wi) ∧ (∀ y, Gd (S.blk scope) N (relS scope sc) W0 y → PG (cx (S.blk scope) N y) tg g) ∧ (∀ y, Gd (S.blk scope) N (relS scope sc) W0 y → PTs (cx (S.blk scope) N y) ifs tt) ∧ (∀ y, Gd (S.blk scope) N (relS scope sc) W0 y → PE (cx (S.blk scope) N y) elt te) ∧
      SndF S W (tLc wi g tt te (own.map (·.2))) (semE Γ (.lc is it cond el (own.map (·.2)))) := by
  obtain ⟨wi, i1, i2⟩ := h.hi
  obtain ⟨g, g1, g2⟩ := h.tg
  obtain ⟨tt, t1, t2⟩ := h.ts
  obtain ⟨te, e1, e2⟩ := h.el
  refine ⟨wi, g, tt, te, i1, g1, t1, e1, fun cs Mc M ρ σ H Q k x R X hs hk => ?_⟩
  refine i2 cs Mc M ρ σ H _ _ x R X hs fun xs chk ρ1 M1 J H1 Lv p1 itm c1 lv q1 => ?_
  obtain ⟨no, q1⟩ := q1
  intro D hD
  have nv := noOwn_of no
  refine loopC (TQ := TurnT D g tt te (own.map (·.2)) σ) itm (lv_grow lv hD) (li_start p1.rel hD) c1 q1 (fun M' ρ' acc' H' vs' L' k' F q => hk _ _ _ _ _ _ (NewAt.trans p1 (li_new p1.rel hD L' k')) q) fun cs' v d M' ρ' acc' H' vs' kk Nx L' t b hn => ?_
  exact turn_ok (S' := S.blk scope) h.sub g2 t2 e2 L' (fun j fr c hj e => by
      obtain ⟨c0, e0⟩ := (L'.sh j fr c e).1
      exact nv j fr c0 hj e0) t b hn
theorem of_lc {elt tg iter : Expr} {ifs : List Expr} {scope : Scope} {own : List (Str × Nat)} {nm : Bool} {is : List Nat} {it cond el : DE} {pos : Pos} (h : LcOk S N sc W Γ elt tg iter ifs scope own nm is it cond el) : OkF S N sc W (.ListComp elt [⟨tg, iter, ifs, 0⟩] scope pos) (semE Γ (.lc is it cond el (own.map (·.2)))) := by
  obtain ⟨wi, g, tt, te, i1, g1, t1, e1, sd⟩ := lc_sndF h
  refine ⟨_, fun y gd => pe_lc rfl h.nd (i1 y gd) (by
    have := blkOk_by h.blk
    rw [← gd.sc] at this
    exact this) (fun s H C cl fp => g1 _ (gd_blk gd s H C cl fp)) (fun s H C cl fp => t1 _ (gd_blk gd s H C cl fp)) (fun s H C cl fp => e1 _ (gd_blk gd s H C cl fp)) (h.fs _), sd⟩

/-! ### storing -/
theorem own_nx {cs : List Bs} {Mc M M' : AS} {ρ ρ' : Ro} {σ : L2.St} {H H' : Hp} {p : Addr} {xs : List V} {ds : List D} {i : Nat} (n : NewAt S.K cs Mc M ρ σ H M' ρ' H' p xs ds) : RelS S.K cs Mc (fun a => M' a ∨ a = p) (ρ'.set i (.o true (.ls ds))) (σ.set i (some (.ref p))) H' :=
  n.rel.setO (.inr rfl) ⟨xs, n.at_, n.rd⟩ ⟨fun b hb => .inr (n.bs b hb), n.nc⟩ n.nm
theorem os_own {x : Str} {i : Nat} {p pos : Pos} {e : Expr} {a : DE} (hN : N.Nodup) (w : Wr S N sc x i) (h : OkF S N sc W e (semE Γ a)) (hs : ∀ env, env.scope = sc → swapsWith e (some (.Name x p)) pos.line env = pure false) : OkS S N sc W (.Assign [.Name x p] e pos) (semS Γ (.own i a)) := by
  obtain ⟨te, h1, h2⟩ := h
  refine ⟨tAsg te (gName i), fun y g => ps_set hN w.ix (tgw (p := p) hN w g.gd).1 (h1 y g.gd) (hs _ g.gd.sc) (tgw (p := p) hN w g.gd).2, fun cs Mc M ρ σ H E K R X hs hE => ?_⟩
  exact h2 cs Mc M ρ σ H _ _ _ R X hs fun ds ρ' M' p xs H' n q => hE.nx _ _ _ _ (own_nx n) q
/-- name = [..], swapped -/
structure Sw (N : List Str) (sc scope : Scope) (x : Str) (i : Nat) (py pos : Pos) : Prop where
  ix : N[i]? = some x
  lc : sc.names.lookup x = some .local
  kf : sc.kind = .function
  ln : (py.line == pos.line) = true
  no : (scope.names.any fun (n, k) => n == x && (k == .local || k == .cell)) = false
theorem Sw.sw {scope : Scope} {x : Str} {i : Nat} {py pos : Pos} (w : Sw N sc scope x i py pos) {y : Dy} (g : Gd S N sc W y) {elt : Expr} {gs : List Comprehension} {l : Nat} : swapsWith (.ListComp elt gs scope pos) (some (.Name x py)) l (cx S N y).env = pure true ∧ (cx S N y).env.scope.names.lookup x = some .local := by
  have e : (cx S N y).env.scope = sc := g.sc
  refine ⟨sw_true (by rw [e]; exact w.kf) (by rw [e]; exact w.lc) w.ln w.no, by rw [e]; exact w.lc⟩
theorem os_asgLc {x : Str} {i : Nat} {p pos spos : Pos} {elt tg iter : Expr} {ifs : List Expr} {scope : Scope} {own : List (Str × Nat)} {nm : Bool} {is : List Nat} {it cond el : DE} (w : Sw N sc scope x i p pos) (h : LcOk S N sc W Γ elt tg iter ifs scope own nm is it cond el) :
    OkS S N sc W (.Assign [.Name x p] (.ListComp elt [⟨tg, iter, ifs, 0⟩] scope pos) spos) (semS Γ (.asg i (.lc is it cond el (own.map (·.2))))) ∧ OkS S N sc W (.Assign [.Name x p] (.ListComp elt [⟨tg, iter, ifs, 0⟩] scope pos) spos) (semS Γ (.own i (.lc is it cond el (own.map (·.2))))) := by
  obtain ⟨wi, g, tt, te, i1, g1, t1, e1, sd⟩ := lc_sndF h
  have hp : ∀ y, GdS S N sc W y → PS (cx S N y) (.Assign [.Name x p] (.ListComp elt [⟨tg, iter, ifs, 0⟩] scope pos) spos) (tAsg (tLc wi g tt te (own.map (·.2))) (gName i)) := fun y gs => by
    have gd := gs.gd
    exact ps_setLc rfl h.nd w.ix (w.sw gd (elt := elt) (gs := []) (l := 0)).2 (w.sw gd).1 (i1 y gd) (by
      have := blkOk_by h.blk
      rw [← gd.sc] at this
      exact this) (fun s H C cl fp => g1 _ (gd_blk gd s H C cl fp)) (fun s H C cl fp => t1 _ (gd_blk gd s H C cl fp)) (fun s H C cl fp => e1 _ (gd_blk gd s H C cl fp)) (h.fs _)
  refine ⟨⟨_, hp, fun cs Mc M ρ σ H E K R X hs hE => ?_⟩, ⟨_, hp, fun cs Mc M ρ σ H E K R X hs hE => ?_⟩⟩
  · exact sd.snd cs Mc M ρ σ H _ _ _ R X hs fun d ρ' M' v H' p r q => hE.nx _ _ _ _ (p.rel.setP r) q
  · exact sd cs Mc M ρ σ H _ _ _ R X hs fun ds ρ' M' p xs H' n q => hE.nx _ _ _ _ (own_nx n) q
theorem os_asgLc2 {x : Str} {i : Nat} {p pos spos : Pos} {elt tg iter tg1 iter1 : Expr} {ifs1 : List Expr} {scope : Scope} {own : List (Str × Nat)} {nm nm1 : Bool} {is is1 vs1 : List Nat} {it it1 cond el : DE} (w : Sw N sc scope x i p pos) (h : Lc2Ok S N sc W Γ elt tg iter tg1 iter1 ifs1 scope own nm nm1 is is1 vs1 it it1 cond el) :
    OkS S N sc W (.Assign [.Name x p] (.ListComp elt [⟨tg, iter, [], 0⟩, ⟨tg1, iter1, ifs1, 0⟩] scope pos) spos) (semS Γ (.asg i (.lc2 is it is1 it1 cond el (own.map (·.2)) vs1))) := by
  obtain ⟨wi, g, wi1, f, tt, te, i1, g1, j1, f1, t1, e1, sd⟩ := lc2_snd h
  refine ⟨tAsg (tLc2 wi g tYes wi1 f tt te (own.map (·.2)) vs1) (gName i), fun y gs => ?_, fun cs Mc M ρ σ H E K R X hs hE => ?_⟩
  · have gd := gs.gd
    exact ps_setLc2 rfl h.nd w.ix (w.sw gd (elt := elt) (gs := []) (l := 0)).2 (w.sw gd).1 (i1 y gd) (by
      have := blkOk_by h.blk
      rw [← gd.sc] at this
      exact this) h.hv (fun s H C cl fp => g1 _ (gd_blk gd s H C cl fp)) (fun _ _ _ _ _ => pts_nil) (fun s H C cl fp => j1 _ (gd_blk gd s H C cl fp)) (fun s H C cl fp => f1 _ (gd_blk gd s H C cl fp)) (fun s H C cl fp => t1 _ (gd_blk gd s H C cl fp)) (fun s H C cl fp => e1 _ (gd_blk gd s H C cl fp)) (h.fs _) h.fs1
  · exact sd cs Mc M ρ σ H _ _ _ R X hs fun d ρ' M' v H' p r q => hE.nx _ _ _ _ (p.rel.setP r) q
theorem os_tupa {es : List Expr} {is : List Nat} {k : Nat} {p pos : Pos} {e : Expr} {a : DE} (hN : N.Nodup) (w : Wrs S N sc es is) (h2 : 2 ≤ is.length) (h : OkE S N sc W e (semE Γ a)) (hs : ∀ env, swapsWithSole [.Tuple es k p] e pos.line env = pure false) (hw : ∀ env, env.scope = sc → swappedStores [.Tuple es k p] e env = pure none) :
    OkS S N sc W (.Assign [.Tuple es k p] e pos) (semS Γ (.tupa is a)) := by
  obtain ⟨te, h1, h3⟩ := h
  obtain ⟨g, g1, g2⟩ := tg_tup (nm := true) (k := k) (p := p) (W := W) hN w h2
  refine ⟨_, fun y gd => ps_asg (h1 y gd.gd) (g1 y gd.gd) (hs _) (hw _ gd.gd.sc) rfl, fun cs Mc M ρ σ H E K R X hs hE => ?_⟩
  refine h3 cs Mc M ρ σ H _ _ _ R X hs fun d ρ' M' v H' p r q => ?_
  cases d <;> first | exact (show False from q).elim | skip
  obtain ⟨hl, q⟩ := q
  split at q
  · rename_i ρ2 e2
    exact g2 cs Mc M' ρ' ρ2 σ H' v _ _ p.rel (.inl r) e2 fun σ' R' _ _ _ => hE.nx _ _ _ _ R' q
  · exact q.elim
/-- two, three names at once -/
theorem os_par2 {i j : Nat} {x y' : Str} {a b : Expr} {px py pt pos : Pos} {kt k2 : Nat} {pt2 : Pos} {d : DE} (hN : N.Nodup) (hi : N[i]? = some x) (hj : N[j]? = some y') (hij : i ≠ j) (hx : sc.names.lookup x = some .local) (hy : sc.names.lookup y' = some .local) (h : OkA S N sc W [a, b] (semA Γ d))
    (hw : ∀ env, env.scope = sc → swappedStores [.Tuple [.Name x px, .Name y' py] kt pt] (.Tuple [a, b] k2 pt2) env = pure (some [x, y'])) : OkS S N sc W (.Assign [.Tuple [.Name x px, .Name y' py] kt pt] (.Tuple [a, b] k2 pt2) pos) (semS Γ (.par [i, j] d)) := by
  obtain ⟨ta, h1, h2⟩ := h
  refine ⟨tPar i j ta, fun y gd => ps_par rfl hN hi hj hij (by show y.env.scope.names.lookup x = _; rw [gd.gd.sc]; exact hx) (by show y.env.scope.names.lookup y' = _; rw [gd.gd.sc]; exact hy) (h1 y gd.gd) (hw _ gd.gd.sc) rfl, fun cs Mc M ρ σ H E K R X hs hE => ?_⟩
  refine h2 cs Mc M ρ σ H _ _ _ R X hs fun ds ρ1 M1 vs H1 p1 r1 q1 => ?_
  obtain ⟨hl, q1⟩ := q1
  match vs, ds, r1, hl with
  | [v, w], [d1, d2], r1, _ => exact ⟨v, w, rfl, hE.nx _ _ _ _ (p1.rel.setPs (is := [i, j]) r1) q1⟩
  | [], _, r1, hl => rw [← r1.len] at hl; cases hl
  | [_], _, r1, hl => rw [← r1.len] at hl; cases hl
  | _ :: _ :: _ :: _, _, r1, hl => rw [← r1.len] at hl; simp at hl
theorem os_par3 {i j l : Nat} {x y' z : Str} {a b c : Expr} {px py pz pt pos : Pos} {kt k2 : Nat} {pt2 : Pos} {d : DE} (hN : N.Nodup) (hi : N[i]? = some x) (hj : N[j]? = some y') (hl : N[l]? = some z) (hij : i ≠ j) (hil : i ≠ l) (hjl : j ≠ l) (hx : sc.names.lookup x = some .local) (hy : sc.names.lookup y' = some .local) (hz : sc.names.lookup z = some .local)
    (h : OkA S N sc W [a, b, c] (semA Γ d)) (hw : ∀ env, env.scope = sc → swappedStores [.Tuple [.Name x px, .Name y' py, .Name z pz] kt pt] (.Tuple [a, b, c] k2 pt2) env = pure (some [x, y', z])) : OkS S N sc W (.Assign [.Tuple [.Name x px, .Name y' py, .Name z pz] kt pt] (.Tuple [a, b, c] k2 pt2) pos) (semS Γ (.par [i, j, l] d)) := by
  obtain ⟨ta, h1, h2⟩ := h
  refine ⟨tPar3 i j l ta, fun y gd => ps_par3 rfl hN hi hj hl hij hil hjl (by show y.env.scope.names.lookup x = _; rw [gd.gd.sc]; exact hx) (by show y.env.scope.names.lookup y' = _; rw [gd.gd.sc]; exact hy) (by show y.env.scope.names.lookup z = _; rw [gd.gd.sc]; exact hz) (h1 y gd.gd) (hw _ gd.gd.sc) rfl, fun cs Mc M ρ σ H E K R X hs hE => ?_⟩
  refine h2 cs Mc M ρ σ H _ _ _ R X hs fun ds ρ1 M1 vs H1 p1 r1 q1 => ?_
  obtain ⟨hl, q1⟩ := q1
  match vs, ds, r1, hl with
  | [v, w, u], [d1, d2, d3], r1, _ => exact ⟨v, w, u, rfl, hE.nx _ _ _ _ (p1.rel.setPs (is := [i, j, l]) r1) q1⟩
  | [], _, r1, hl => rw [← r1.len] at hl; cases hl
  | [_], _, r1, hl => rw [← r1.len] at hl; cases hl
  | [_, _], _, r1, hl => rw [← r1.len] at hl; cases hl
  | _ :: _ :: _ :: _ :: _, _, r1, hl => rw [← r1.len] at hl; simp at hl
end
end DL

end

section
namespace DL
open PySem PySem.Spec PyProof.Rows L2

section
variable {S : Sx} {N : List Str} {sc : Scope} {W : WX} {Γ : Gm}
theorem XOk.more {cs : List Bs} {x : Ex → Prop} {b : Bs} (X : XOk S W cs x) : XOk S W (b :: cs) x := fun e he C od σ H hC hD hk => X e he C od σ H hC hD fun c hc => hk c (List.mem_cons_of_mem _ hc)
theorem EndsOk.more {cs : List Bs} {Mc : AS} {E : Ends} {K : DK} {b : Bs} (h : EndsOk S cs Mc E K) : EndsOk S (b :: cs) Mc E K :=
  ⟨fun _ _ _ _ R => h.nx _ _ _ _ R.unroot, fun _ _ _ _ _ _ R => h.rt _ _ _ _ _ _ R.unroot, fun _ _ _ _ R => h.bk _ _ _ _ R.unroot, fun _ _ _ _ R => h.ct _ _ _ _ R.unroot, fun _ _ _ _ _ _ _ R e r hb => h.rtf _ _ _ _ _ _ _ R.unroot e r fun c hc => hb c (List.mem_cons_of_mem _ hc)⟩
/-- a, b = list(..), (..): the first is a list of one's own -/
theorem os_parO {i j : Nat} {x y' : Str} {a b : Expr} {px py pt pos : Pos} {kt k2 : Nat} {pt2 : Pos} {d0 d : DE} (hN : N.Nodup) (hi : N[i]? = some x) (hj : N[j]? = some y') (hij : i ≠ j) (hx : sc.names.lookup x = some .local) (hy : sc.names.lookup y' = some .local)
    (h0 : OkF S N sc W a (semE Γ d0)) (h : OkA S N sc W [b] (semA Γ d)) (hs0 : ∀ env, starEach [a, b] env = (false, eval a env) :: starEach [b] env)
    (hw : ∀ env, env.scope = sc → swappedStores [.Tuple [.Name x px, .Name y' py] kt pt] (.Tuple [a, b] k2 pt2) env = pure (some [x, y'])) : OkS S N sc W (.Assign [.Tuple [.Name x px, .Name y' py] kt pt] (.Tuple [a, b] k2 pt2) pos) (semS Γ (.parO i d0 [j] d)) := by
  obtain ⟨te, g1, g2⟩ := h0
  obtain ⟨ta, h1, h2⟩ := h
  refine ⟨tPar i j (tCons te ta), fun y gd => ps_par rfl hN hi hj hij (by show y.env.scope.names.lookup x = _; rw [gd.gd.sc]; exact hx) (by show y.env.scope.names.lookup y' = _; rw [gd.gd.sc]; exact hy) (pa_cons (g1 y gd.gd) (h1 y gd.gd) (hs0 _)) (hw _ gd.gd.sc) rfl, fun cs Mc M ρ σ H E K R X hs hE => ?_⟩
  refine g2 cs Mc M ρ σ H _ _ _ R X hs fun ds0 ρ1 M1 p xs H1 n q1 => ?_
  have R1 : RelS S.K cs (fun a => Mc a ∨ a = p) (fun a => M1 a ∨ a = p) ρ1 σ H1 := by
    refine ⟨n.rel.len, n.rel.sl, n.rel.sep, fun a z => z.elim (n.rel.mc a) .inr, n.rel.mx, fun i fr c a q e => ⟨(n.rel.own i fr c a q e).1, fun hf z => ?_⟩, n.rel.old, n.rel.gr, n.rel.pin⟩
    rcases z with z | z
    · exact (n.rel.own i fr c a q e).2 hf z
    · exact n.nm ⟨i, fr, c, q, by rw [← z]; exact e⟩
  refine h2 cs _ _ ρ1 σ H1 _ _ _ R1 X q1 fun ds ρ2 M2 vs H2 p2 r2 q2 => ?_
  obtain ⟨hl, q2⟩ := q2
  have m2 : M2 p := p2.rel.mc p (.inr rfl)
  have e2 : H2 p = some (.lst xs) := p2.kp.keep _ _ n.nm n.at_
  have rd2 : RDs S.K M2 H2 xs ds0 := p2.rds R1 n.rd
  have nm2 : ¬ Mut ρ2 σ p := fun m => n.nm (p2.mut m)
  have R2 : RelS S.K cs Mc M2 ρ2 σ H2 := p2.rel.shrink (fun _ z => z) (fun a z => p2.rel.mc a (.inl z)) (fun a m => p2.rel.mutM m) fun _ => .inl
  have R3 := R2.setO (i := i) (c := .ls ds0) m2 ⟨xs, e2, rd2⟩ ⟨fun b hb => .inr (n.bs b hb), n.nc⟩ nm2
  match vs, ds, r2, hl with
  | [w], [d1], r2, _ => exact ⟨.ref p, w, rfl, hE.nx _ _ _ _ (R3.setPs (is := [j]) r2) q2⟩
  | [], _, r2, hl => rw [← r2.len] at hl; cases hl
  | _ :: _ :: _, _, r2, hl => rw [← r2.len] at hl; simp at hl
theorem os_app {i : Nat} {x : Str} {p apos pos pos' : Pos} {e : Expr} {b : DE} (hN : N[i]? = some x) (hv : Vis sc x) (hd : (x == ("__debug__" : Str)) = false) (hd2 : (x == ("__classdict__" : Str)) = false)
    (hb : OkE S N sc W e (semE Γ b)) (hbase : ∀ env, attributeBase (.Name x p) "append" env (eval (.Name x p) env) = eval (.Name x p) env)
    (hfew : ∀ env, ((backTo pos (starEach [e] env)).all (fun x => !x.1) && (backToKw pos (keywordEach [] env)).all (fun x => x.1.isSome)
      && decide (([e] : List Expr).length + ([] : List Keyword).length + (if ([] : List Keyword).isEmpty then 0 else 1) < 30)) = true)
    (hline : (apos.endLine == pos.line) = true) (hs2 : ∀ env, starEach [e] env = (false, eval e env) :: starEach [] env) : OkS S N sc W (.Expr (.Call (.Attribute (.Name x p) "append" apos) [e] [] pos) pos') (semS Γ (.app i b)) := by
  obtain ⟨tb, h1, h2⟩ := hb
  refine ⟨tDrop (tBM S.K "list" rAppend (tVar i) (tCons tb tNil)), fun y g => ps_expr (pe_bm PySem.F.plainAttrs_list PySem.F.slot_list_append PySem.F.type_list_append mt_append (pe_var hN (by rw [g.gd.sc]; exact hv) hd hd2) (pa_cons (h1 y g.gd) pa_nil (hs2 _)) (hbase _) (hfew _) hline (hs2 _) rfl) rfl, fun cs Mc M ρ σ H E K R X hs hE => ?_⟩
  obtain ⟨h0, hs⟩ := hs
  obtain ⟨fr, ds0, q0⟩ := own_of h0
  obtain ⟨a, e0, m0, xs0, c0, _⟩ := R.ownA q0
  refine ⟨_, e0, (.inl ⟨rfl, xs0, SqL.of c0⟩ : tyV S.K "list" (.ref a) H), ?_⟩
  refine h2 cs Mc M ρ σ H _ _ _ R X hs fun d ρ1 M1 v H1 p1 r1 q1 => ?_
  split at q1
  · rename_i fr2 ds hρ
    obtain ⟨hlt, q1⟩ := q1
    obtain ⟨a2, e2, m2, xs2, c2, rd2⟩ := p1.rel.ownA hρ
    rw [e0] at e2
    cases e2
    have P := p1.rel.write hρ e0 (rd2.append (.cons r1 .nil))
    exact ⟨a, xs2, v, rfl, rfl, c2, by rw [rd2.len]; exact hlt, hE.nx _ _ _ _ P.rel q1⟩
  · exact q1.elim
theorem os_seti {i : Nat} {x : Str} {p p2 pos : Pos} {ej e : Expr} {j b : DE} (hN : N[i]? = some x) (hv : Vis sc x) (hd : (x == ("__debug__" : Str)) = false) (hd2 : (x == ("__classdict__" : Str)) = false)
    (hj : OkE S N sc W ej (semE Γ j)) (hb : OkE S N sc W e (semE Γ b)) (ha : ∀ env v, assign (.Subscript (.Name x p) ej p2) env v = (do
      let ov ← holding [v] (eval (.Name x p) env)
      let iv ← holding [v, ov] (eval ej env)
      standAt p2
      holding [v, ov, iv] (setItem ov iv v)
      release [v, ov, iv] []))
    (hs : ∀ env, swapsWithSole [.Subscript (.Name x p) ej p2] e pos.line env = pure false) : OkS S N sc W (.Assign [.Subscript (.Name x p) ej p2] e pos) (semS Γ (.seti i j b)) := by
  obtain ⟨tj, g1, g2⟩ := hj
  obtain ⟨tb, h1, h2⟩ := hb
  refine ⟨tAsg tb (gSub (tVar i) tj rSetL), fun y g => ps_asg (h1 y g.gd) (pg_sub (pe_var hN (by rw [g.gd.sc]; exact hv) hd hd2) (g1 y g.gd) set_list (ha _)) (hs _) rfl rfl, fun cs Mc M ρ σ H E K R X hs hE => ?_⟩
  refine h2 cs Mc M ρ σ H _ _ _ R X hs fun d ρ1 M1 v H1 p1 r1 q1 => ?_
  obtain ⟨h0, q1⟩ := q1
  obtain ⟨fr, ds0, q0⟩ := own_of h0
  obtain ⟨a, e0, m0, xs0, c0, _⟩ := p1.rel.ownA q0
  refine ⟨_, e0, ?_⟩
  refine g2 cs Mc M1 ρ1 σ H1 _ _ _ p1.rel X q1 fun n ρ2 M2 w H2 p2 r2 q2 => ?_
  split at q2
  · rename_i n fr2 ds hρ
    obtain ⟨n0, n1, q2⟩ := q2
    obtain ⟨a2, e2, m2, xs2, c2, rd2⟩ := p2.rel.ownA hρ
    rw [e0] at e2
    cases e2
    cases r2
    have hl := rd2.len
    have hix : ixN xs2.length n = some n.toNat := by
      unfold ixN
      rw [if_pos n0, if_pos (by omega)]
    have P := p2.rel.write hρ e0 (rd2.set n.toNat (p2.rd p1.rel r1))
    exact ⟨a, xs2, n, n.toNat, rfl, rfl, c2, hix, hE.nx _ _ _ _ P.rel q2⟩
  · exact q2.elim
theorem os_bset {i : Nat} {x : Str} {p p2 pos : Pos} {ej e : Expr} {j b : DE} (hN : N[i]? = some x) (hv : Vis sc x) (hd : (x == ("__debug__" : Str)) = false) (hd2 : (x == ("__classdict__" : Str)) = false)
    (hj : OkE S N sc W ej (semE Γ j)) (hb : OkE S N sc W e (semE Γ b)) (ha : ∀ env v, assign (.Subscript (.Name x p) ej p2) env v = (do
      let ov ← holding [v] (eval (.Name x p) env)
      let iv ← holding [v, ov] (eval ej env)
      standAt p2
      holding [v, ov, iv] (setItem ov iv v)
      release [v, ov, iv] []))
    (hs : ∀ env, swapsWithSole [.Subscript (.Name x p) ej p2] e pos.line env = pure false) : OkS S N sc W (.Assign [.Subscript (.Name x p) ej p2] e pos) (semS Γ (.bset i j b)) := by
  obtain ⟨tj, g1, g2⟩ := hj
  obtain ⟨tb, h1, h2⟩ := hb
  refine ⟨tAsg tb (gSub (tVar i) tj (rSetB S.K)), fun y g => ps_asg (h1 y g.gd) (pg_sub (pe_var hN (by rw [g.gd.sc]; exact hv) hd hd2) (g1 y g.gd) (set_dictB (by have := g.gd.hu; omega)) (ha _)) (hs _) rfl rfl, fun cs Mc M ρ σ H E K R X hs hE => ?_⟩
  refine h2 cs Mc M ρ σ H _ _ _ R X hs fun d ρ1 M1 v H1 p1 r1 q1 => ?_
  obtain ⟨h0, q1⟩ := q1
  obtain ⟨fr, ds0, q0⟩ := ownB_of h0
  obtain ⟨a, e0, m0, xs0, c0, _⟩ := p1.rel.ownA q0
  refine ⟨_, e0, ?_⟩
  refine g2 cs Mc M1 ρ1 σ H1 _ _ _ p1.rel X q1 fun n ρ2 M2 w H2 p2 r2 q2 => ?_
  split at q2
  · rename_i bs fr2 kvs hy hρ
    obtain ⟨hl, q2⟩ := q2
    obtain ⟨a2, e2, m2, xs2, c2, kv2⟩ := p2.rel.ownA hρ
    rw [e0] at e2
    cases e2
    rw [bkeyD_t hy] at r2
    obtain ⟨b2, rfl, sk⟩ := rd_key r2
    have kx : Kp (fun b => b = a) H2 (upd H2 a (DictBO a (putV xs2 bs b2 v))) := Kp.writeX c2 rfl
    have kb := (kbs_put r2 (p2.rd p1.rel r1) kv2).kp kx (fun b z => by rw [z]; exact m2) fun b z => .inl z
    have P := p2.rel.writeO (c2 := .db (putB kvs bs d)) hρ e0 kx ⟨_, upd_same, kb⟩
    exact ⟨a, xs2, bs, b2, rfl, rfl, c2, sk, kbs_keys kv2, by rw [Paired.length kv2]; exact hl, hE.nx _ _ _ _ P.rel q2⟩
  · exact q2.elim
theorem os_aug {i : Nat} {x : Str} {p pos : Pos} {e : Expr} {b : DE} (hN : N.Nodup) (w : Wr S N sc x i) (hb : OkE S N sc W e (semE Γ b)) : OkS S N sc W (.AugAssign (.Name x p) .Add e pos) (semS Γ (.aug i .add b)) := by
  obtain ⟨tb, h1, h2⟩ := hb
  refine ⟨tAug i tb (ipI fun i j => i + j), fun y g => ps_aug hN w.ix (tgw (p := p) hN w g.gd).1 (h1 y g.gd) ip_add (tgw (p := p) hN w g.gd).2, fun cs Mc M ρ σ H E K R X hs hE => ?_⟩
  have hs : (match ρ[i]? with
    | some (.p (.int m)) => semE Γ b ρ (fun d ρ1 => match (P2.add), d with
      | .add, .int n => K.nx (ρ1.set i (.p (.int (m + n))))
      | _, _ => False) K.ex
    | _ => False) := hs
  split at hs
  · rename_i m hρ
    obtain ⟨v, e0, r0⟩ := R.pure hρ
    cases r0
    refine ⟨_, e0, h2 cs Mc M ρ σ H _ _ _ R X hs fun d ρ1 M1 v H1 p1 r1 q1 => ?_⟩
    cases d <;> first | exact (show False from q1).elim | skip
    cases r1
    exact ⟨_, _, rfl, rfl, hE.nx _ _ _ _ (p1.rel.setP (.int _)) q1⟩
  · exact hs.elim
theorem os_retF {e : Expr} {a : DE} {pos : Pos} (h : OkF S N sc W e (semE Γ a)) : OkS S N sc W (.Return (some e) pos) (semS Γ (.retF a)) := by
  obtain ⟨te, h1, h2⟩ := h
  refine ⟨_, fun y g => ps_ret (h1 y g.gd), fun cs Mc M ρ σ H E K R X hs hE => ?_⟩
  exact h2 cs Mc M ρ σ H _ _ _ R X hs fun ds ρ' M' p xs H' n q => hE.rtf _ _ _ _ _ _ _ n.rel n.at_ n.rd (fun b hb => .inr (n.bs b hb)) n.nc q
theorem os_retO {i : Nat} {x : Str} {p pos : Pos} (hN : N[i]? = some x) (hv : Vis sc x) (hd : (x == ("__debug__" : Str)) = false) (hd2 : (x == ("__classdict__" : Str)) = false) : OkS S N sc W (.Return (some (.Name x p)) pos) (semS Γ (.retO i)) := by
  refine ⟨tRet (tVar i), fun y g => ps_ret (pe_var hN (by rw [g.gd.sc]; exact hv) hd hd2), fun cs Mc M ρ σ H E K R X hs hE => ?_⟩
  have hs : (match ρ[i]? with
    | some (.o true (.ls ds)) => K.rtf (.list ds) (ρ.set i .un)
    | _ => False) := hs
  split at hs
  · rename_i ds hρ
    obtain ⟨a, e, m, xs, h1, h2⟩ := R.ownA hρ
    have R2 : RelS S.K cs Mc M (ρ.set i .un) (σ.set i (some (.ref a))) H := R.setU
    have es : σ.set i (some (.ref a)) = σ := by
      refine List.ext_getElem? fun j => ?_
      by_cases z : i = j
      · subst z
        rw [List.getElem?_set_self (List.getElem?_eq_some_iff.mp e).1, e]
      · rw [List.getElem?_set_ne z]
    rw [es] at R2
    have eM : (fun b => M b ∨ b = a) = M := by
      funext b
      exact propext ⟨fun z => z.elim id fun y => by rw [y]; exact m, .inl⟩
    exact ⟨_, e, hE.rtf ds _ σ M a xs H (by rw [eM]; exact R2) h1 (by rw [eM]; exact h2) (R.own i true _ a hρ e).1 ((R.own i true _ a hρ e).2 rfl) hs⟩
  · exact hs.elim

/-! ### loops -/
theorem os_for {tg iter : Expr} {body : List Stmt} {pos : Pos} {nm : Bool} {is : List Nat} {it : DE} {b : DS} (hi : OkI S N sc W nm tg iter (semE Γ it)) (hg : OkTg S N sc W nm tg is) (hb : OkSs S N sc W body (semS Γ b)) (hs : ∀ env x, foldedSetIterable iter env x = pure x) :
    OkS S N sc W (.For tg iter body [] pos) (semS Γ (.for' is it b)) := by
  obtain ⟨wi, i1, i2⟩ := hi
  obtain ⟨g, g1, g2⟩ := hg
  obtain ⟨tb, b1, b2⟩ := hb
  refine ⟨tFor wi g tb, fun y gd => ps_for gd.po rfl (i1 y gd.gd) (g1 y gd.gd) (b1 y gd) (hs _), fun cs Mc M ρ σ H E K R X hs hE => ?_⟩
  refine i2 cs Mc M ρ σ H _ _ _ R X hs fun xs ρ1 M1 J H1 Lv p1 itm st q1 => ?_
  have R1 := p1.rel.root
  refine ⟨fun i m σ' H' => ∃ M' ρ', RelS S.K (⟨Mut ρ1 σ, M1, H1, fun i a => σ[i]? = some (some (.ref a))⟩ :: cs) Mc M' ρ' σ' H' ∧ forL is (semS Γ b) K (xs.drop i) ρ' ∧ i ≤ xs.length ∧ m = xs.length - i, ⟨_, M1, ρ1, R1, q1, Nat.zero_le _, rfl⟩, ?_⟩
  rintro i m σ' H' ⟨M', ρ', R', s', hi', rfl⟩
  have lv : Lv M' H' := st M' H' _ (R'.old _ List.mem_cons_self) (fun b z => .inl (p1.rel.mutM z)) (R'.gr _ List.mem_cons_self)
  by_cases hlt : i < xs.length
  · obtain ⟨z1, z2⟩ := itm.go i M' H' _ (List.getElem?_eq_getElem hlt) lv
    rw [List.drop_eq_getElem_cons hlt] at s'
    refine .inr ⟨z1, fun σ2 H2 => ∃ M2 ρ2, RelS S.K (⟨Mut ρ1 σ, M1, H1, fun i a => σ[i]? = some (some (.ref a))⟩ :: cs) Mc M2 ρ2 σ2 H2 ∧ forL is (semS Γ b) K (xs.drop (i + 1)) ρ2, fun σ2 H2 ⟨M2, ρ2, R2, s2⟩ => ⟨xs.length - (i + 1), by omega, M2, ρ2, R2, s2, hlt, rfl⟩, fun v H2 y => ?_⟩
    obtain ⟨k1, t1⟩ := z2 v H2 y
    have s' : (match bindT is xs[i] ρ' with
      | some ρ1 => semS Γ b { K with nx := forL is (semS Γ b) K (xs.drop (i + 1)), ct := forL is (semS Γ b) K (xs.drop (i + 1)), bk := K.nx } ρ1
      | none => False) := s'
    split at s'
    · rename_i ρ3 e3
      refine g2 _ Mc M' ρ' ρ3 σ' H2 v _ _ (R'.heap k1 fun _ z => z) t1 e3 fun σ3 R3 _ _ _ => ?_
      exact b2 _ Mc M' ρ3 σ3 H2 _ { K with nx := forL is (semS Γ b) K (xs.drop (i + 1)), ct := forL is (semS Γ b) K (xs.drop (i + 1)), bk := K.nx } R3 X.more s' ⟨fun _ _ _ _ r q => ⟨_, _, r, q⟩, fun _ _ _ _ _ _ r => hE.rt _ _ _ _ _ _ r.unroot, fun _ _ _ _ r => hE.nx _ _ _ _ r.unroot, fun _ _ _ _ r q => ⟨_, _, r, q⟩, hE.more.rtf⟩
    · exact s'.elim
  · have e : i = xs.length := by omega
    subst e
    rw [List.drop_length] at s'
    exact .inl ⟨itm.stop M' H' lv, hE.nx _ _ _ _ R'.unroot s'⟩
theorem os_while {c : Expr} {body : List Stmt} {pos : Pos} {t : DE} {b : DS} (hc : OkT S N sc W c (semE Γ t)) (hb : OkSs S N sc W body (semS Γ b)) : OkS S N sc W (.While c body [] pos) (semS Γ (.whl t b)) := by
  obtain ⟨tt, f1, f2⟩ := hc
  obtain ⟨tb, b1, b2⟩ := hb
  refine ⟨tWhile tt tb, fun y gd => ps_while gd.po (f1 y gd.gd) (b1 y gd), fun cs Mc M ρ σ H E K R X hs hE => ?_⟩
  obtain ⟨Wd, ⟨m0, w0⟩, turn⟩ := hs
  refine ⟨fun m σ' H' => ∃ M' ρ', RelS S.K cs Mc M' ρ' σ' H' ∧ Wd m ρ', ⟨m0, M, ρ, R, w0⟩, ?_⟩
  rintro m σ' H' ⟨M', ρ', R', w'⟩
  refine f2 cs Mc M' ρ' σ' H' _ _ _ R' X (turn m ρ' w') fun b ρ1 M1 H1 p1 q1 => ?_
  cases b with
  | false => exact hE.nx _ _ _ _ p1.rel q1
  | true =>
    refine ⟨fun σ2 H2 => ∃ m', m' < m ∧ ∃ M2 ρ2, RelS S.K cs Mc M2 ρ2 σ2 H2 ∧ Wd m' ρ2, fun σ2 H2 h => h, ?_⟩
    exact b2 cs Mc M1 ρ1 σ' H1 _ { K with nx := fun ρ2 => ∃ m', m' < m ∧ Wd m' ρ2, ct := fun ρ2 => ∃ m', m' < m ∧ Wd m' ρ2, bk := K.nx } p1.rel X q1 ⟨fun ρ2 σ2 M2 H2 r ⟨m', hm, q⟩ => ⟨m', hm, M2, ρ2, r, q⟩, hE.rt, hE.nx, fun ρ2 σ2 M2 H2 r ⟨m', hm, q⟩ => ⟨m', hm, M2, ρ2, r, q⟩, hE.rtf⟩
end
end DL

end

section
namespace DL
open PySem PySem.Spec PyProof.Rows L2

section
variable {S : Sx} {N : List Str} {sc : Scope} {W : WX} {Γ : Gm}
/-- an exception's class that is made with a text -/
def XReg (S : Sx) (x : Str) : Prop := ∃ (C : Addr) (bmB : List Value) (B newId initId : String), ExcBaseFacts B newId initId bmB ∧ PySem.W.excIn S.K C bmB newId = true ∧ S.mg x = some (.ref C) ∧ PySem.W.keepIn S.K (.ref C) = true ∧
  PySem.W.subIn S.K (.ref C) (.type "BaseException") = some true ∧ PySem.W.typeIn S.K (.ref C) = some (.type "type")
theorem os_raise {x m : Str} {j : Nat} {p p2 pos pos' : Pos} (F : XReg S x) (hg : sc.names.lookup x = some .globalImplicit) (hdb : (x == ("__debug__" : Str)) = false) :
    OkS S N sc W (.Raise (some (.Call (.Name x p) [.Constant (.str m) j p2] [] pos)) none pos') (semS Γ (.raise x)) := by
  obtain ⟨C, bmB, B, newId, initId, f1, f2, f3, f4, f5, f6⟩ := F
  refine ⟨fun _ σ H => W (.ref C) none σ H, fun y gd => ?_, fun cs Mc M ρ σ H E K R X hs hE => X _ hs C none σ H f3 rfl fun b hb => R.old b hb⟩
  exact ps_raise rfl gd.gd.tk (pmk_own f1 f2 f3 f4 (raises_own f5 f6) (gd_gl gd.gd hg) hdb)

/-! ### try -/
/-- the handler's name -/
structure HReg (S : Sx) (sc : Scope) (Γ : Gm) (x : Str) (c : Value) : Prop where
  gl : sc.names.lookup x = some .globalImplicit
  db : (x == ("__debug__" : Str)) = false
  nm : S.mg x = some c ∨ (S.mg x = none ∧ bootBuiltins x = some c ∧ x ≠ "__name__")
  ex : ∀ e ∈ Γ.xs, ∀ C, S.mg e = some (.ref C) → PySem.W.exmOne S.K (.ref C) c = some (Γ.sb e x)
/-- behind an exception nothing of the names is known -/
theorem rel_blank {K : PySem.W.Frag} {cs : List Bs} {Mc M : AS} {ρ : Ro} {σ σ' : L2.St} {H H' : Hp} (R : RelS K cs Mc M ρ σ H) (k : Kp (Mut ρ σ) H H') (hk : ∀ b ∈ cs, Kp b.z b.h H') : RelS K cs Mc Mc (List.replicate σ'.length .un) σ' H' := by
  have no : ∀ {i : Nat} {fr : Bool} {c : Ct}, (List.replicate σ'.length Sl.un)[i]? = some (.o fr c) → False := fun {i fr c} q => by
    rw [List.getElem?_replicate] at q
    split at q <;> cases q
  refine ⟨List.length_replicate, fun i s ov q e => ?_, fun i j fr fr' c c' a q => (no q).elim, fun _ z => z, fun a z => k.there a (R.mx a (R.mc a z)), fun i fr c a q => (no q).elim, hk, fun b hb a z => R.gr b hb a (R.mc a z), fun b hb i c a q => (no q).elim⟩
  rw [List.getElem?_replicate] at q
  split at q
  · cases q
    trivial
  · cases q
theorem os_try {x : Str} {c : Value} {body : List Stmt} {b : DS} {np pos pos' rp : Pos} {e : Expr} {v : V} {r : D} (Hr : HReg S sc Γ x c) (hb : ∀ W, OkSs S N sc W body (semS Γ b)) (hv : ∀ X : Cx, PE X e (tC v)) (rd : ∀ M H, RD S.K M H v r) :
    OkS S N sc W (.Try body [.ExceptHandler (some (.Name x np)) none [.Return (some e) rp] pos'] [] [] pos) (semS Γ (.trye b x r)) := by
  refine ⟨fun D σ H => (Classical.choose (hb (wOnly S.K c (fun _ _ _ => tRet (tC v)) W D))) D σ H, fun y gd => ?_, fun cs Mc M ρ σ H E K R X hs hE => ?_⟩
  · refine ps_try_only (tb := fun W' => Classical.choose (hb W')) (ts := fun _ _ _ => tRet (tC v)) (Wout := W) gd.st gd.fr ⟨gd_gl gd.gd Hr.gl, Hr.db, Hr.nm⟩ gd.gd.tk (fun W' pn xe tk po => ?_) (fun a oe cls d pn _ _ => pss_one (ps_ret (hv _)))
    exact (Classical.choose_spec (hb W')).1 ⟨y.A, y.s0, y.H0, y.env, y.outer, y.stack, y.ex, pn, xe⟩ ⟨⟨gd.gd.sc, gd.gd.room, tk⟩, po, gd.st, gd.fr⟩
  · have R1 := R.root
    refine (Classical.choose_spec (hb (wOnly S.K c (fun _ _ _ => tRet (tC v)) W E))).2 _ Mc M ρ σ H E { K with ex := fun e => e.c ∈ Γ.xs ∧ (Γ.sb e.c x = true → ∀ ρ', K.rt r ρ') ∧ (Γ.sb e.c x = false → K.ex e) } R1 (fun ex he C od σ' H' hC hD hk => ?_) hs ⟨hE.more.nx, hE.more.rt, hE.more.bk, hE.more.ct, hE.more.rtf⟩
    obtain ⟨e1, e2, e3⟩ := he
    refine ⟨_, Hr.ex _ e1 C hC, fun hy a _ => ?_, fun hn => X _ (e3 hn) C od σ' H' hC hD fun b' hb' => hk b' (List.mem_cons_of_mem _ hb')⟩
    have R2 : RelS S.K cs Mc Mc (List.replicate σ'.length .un) σ' H' := rel_blank R (hk _ List.mem_cons_self) fun b' hb' => hk b' (List.mem_cons_of_mem _ hb')
    exact hE.rt _ _ _ _ _ _ R2 (rd _ _) (e2 hy _)

/-! ### dict(pairs) -/
theorem pairsD_get {K : PySem.W.Frag} {M : AS} {H : Hp} : ∀ {ds : List D} {vs : List V} {kvs : List (Key × D)}, RDs K M H vs ds → pairsD ds = some kvs →
    ∃ (ps : List Addr) (ws : List (Key × V)), vs = ps.map V.ref ∧ Paired (fun p kv => SqT K H p [kV kv.1, kv.2]) ps ws ∧ KVs K M H ws kvs
  | [], vs, kvs, r, h => by
    cases r
    cases h
    exact ⟨[], [], rfl, .nil, .nil⟩
  | d :: ds, _, kvs, .cons (v := v) (vs := vs) r1 r2, h => by
    unfold pairsD at h
    split at h
    · exact nomatch ‹d :: ds = []›
    · rename_i k w l e
      obtain ⟨rfl, rfl⟩ := List.cons.inj e
      split at h
      · rename_i y l' e1 e2
        cases h
        obtain ⟨ps, ws, hv, hp, hk⟩ := pairsD_get r2 e2
        subst hv
        obtain ⟨a, us, rfl, h3, h4⟩ := RB.tup (.inl r1)
        cases h4 with
        | cons rk t =>
          cases t with
          | cons rw' t2 =>
            cases t2
            have ek := keyD_v rk e1
            subst ek
            exact ⟨a :: ps, (y, _) :: ws, rfl, .cons h3 hp, .cons ⟨rfl, rw'⟩ hk⟩
      · cases h
    · cases h
theorem put_kv {K : PySem.W.Frag} {M : AS} {H : Hp} {k : Key} {v : V} {d : D} (r : RD K M H v d) : ∀ {xs : List (Key × V)} {kvs : List (Key × D)}, KVs K M H xs kvs →
    (xs.any fun kv => decide (kv.1 = k)) = (kvs.any fun p => decide (p.1 = k)) ∧ KVs K M H (xs.map fun kv => if kv.1 = k then (kv.1, v) else kv) (kvs.map fun p => if p.1 = k then (p.1, d) else p) ∧ KVs K M H (xs ++ [(k, v)]) (kvs ++ [(k, d)])
  | _, _, .nil => ⟨rfl, .nil, .cons ⟨rfl, r⟩ .nil⟩
  | (a, w) :: xs, (b, e) :: kvs, .cons h t => by
    obtain ⟨i1, i2, i3⟩ := put_kv r t
    have he : a = b := h.1
    subst he
    refine ⟨by rw [List.any_cons, List.any_cons, i1], ?_, .cons h i3⟩
    rw [List.map_cons, List.map_cons]
    by_cases z : a = k
    · rw [if_pos z, if_pos z]
      exact .cons ⟨rfl, r⟩ i2
    · rw [if_neg z, if_neg z]
      exact .cons h i2
theorem putK_kv {K : PySem.W.Frag} {M : AS} {H : Hp} {k : Key} {v : V} {d : D} {xs : List (Key × V)} {kvs : List (Key × D)} (r : RD K M H v d) (h : KVs K M H xs kvs) : KVs K M H (putK xs k v) (putD kvs k d) := by
  obtain ⟨i1, i2, i3⟩ := put_kv (k := k) r h
  unfold putK putD
  rw [i1]
  split
  · exact i2
  · exact i3
theorem mergeK_kv {K : PySem.W.Frag} {M : AS} {H : Hp} : ∀ {ws : List (Key × V)} {kvs : List (Key × D)} {xs : List (Key × V)} {ys : List (Key × D)}, KVs K M H ws kvs → KVs K M H xs ys → KVs K M H (mergeK xs ws) (mergeD ys kvs)
  | _, _, _, _, .nil, q => q
  | (a, w) :: ws, (b, e) :: kvs, xs, ys, .cons h t, q => by
    have he : a = b := h.1
    subst he
    show KVs K M H (mergeK (putK xs a w) ws) (mergeD (putD ys a e) kvs)
    exact mergeK_kv t (putK_kv h.2 q)
theorem os_dct {x : Str} {i : Nat} {p p2 pos pos' : Pos} {e : Expr} {a : DE} (hN : N.Nodup) (w : Wr S N sc x i) (B : BiN S sc "dict" (.type "dict")) (h : OkE S N sc W e (semE Γ a)) (hs : ∀ env, starEach [e] env = (false, eval e env) :: starEach [] env) :
    OkS S N sc W (.Assign [.Name x p] (.Call (.Name "dict" p2) [e] [] pos') pos) (semS Γ (.dct i a)) := by
  obtain ⟨te, h1, h2⟩ := h
  refine ⟨tAsg (tCB (fun xs H Q => ∃ (a : Addr) (ps : List Addr) (kvs : List (Key × V)), xs = [.ref a] ∧ SqL S.K H a (ps.map V.ref) ∧ Paired (fun p kv => SqT S.K H p [kV kv.1, kv.2]) ps kvs ∧ ∀ p, H p = none → Q (.ref p) (upd H p (.dK (mergeK [] kvs)))) (tCons te tNil)) (gName i),
    fun y g => ps_set hN w.ix (tgw (p := p) hN w g.gd).1 (pe_callTy (call_dictP rfl) (gd_gl g.gd B.gl) B.mg B.bt (pa_cons (h1 y g.gd) pa_nil (hs _)) B.nn B.db (hs _) rfl) rfl (tgw (p := p) hN w g.gd).2, fun cs Mc M ρ σ H E K R X hs hE => ?_⟩
  refine h2 cs Mc M ρ σ H _ _ _ R X hs fun d ρ1 M1 v H1 p1 r1 q1 => ?_
  cases d <;> first | exact (show False from q1).elim | skip
  rename_i ds
  have q1 : (match pairsD ds with
      | some kvs => K.nx (ρ1.set i (.o true (.dk (mergeD [] kvs))))
      | none => False) := q1
  split at q1
  · rename_i kvs ek
    obtain ⟨b, us, rfl, h3, h4⟩ := RB.list (.inl r1)
    obtain ⟨ps, ws, rfl, hp, hk⟩ := pairsD_get h4 ek
    refine ⟨b, ps, ws, rfl, SqL.of h3, hp, fun q hq => ?_⟩
    have k0 : Kp (fun _ => False) H1 (upd H1 q (.dK (mergeK [] ws))) := Kp.fresh hq
    have R2 := p1.rel.growK hq k0 (by rw [upd_same]; exact fun z => nomatch z)
    have kv : KVs S.K (fun a => M1 a ∨ a = q) (upd H1 q (.dK (mergeK [] ws))) (mergeK [] ws) (mergeD [] kvs) := (mergeK_kv hk .nil).kp k0 (fun _ z => z.elim) fun a z => z.imp id fun y => by rw [y]; exact hq
    have nc : ¬ Mc q := fun z => p1.rel.mx q (p1.rel.mc q z) hq
    have nm : ¬ Mut ρ1 σ q := fun ⟨j, fr, c, z1, z2⟩ => by
      obtain ⟨a2, e2, m, _⟩ := p1.rel.ownA z1
      rw [z2] at e2
      cases e2
      exact p1.rel.mx _ m hq
    exact hE.nx _ _ _ _ (R2.setO (i := i) (c := .dk (mergeD [] kvs)) (.inr rfl) ⟨_, upd_same, kv⟩ ⟨fun b hb => .inr (p1.rel.nobase hb hq), nc⟩ nm) q1
  · exact q1.elim
theorem os_dnew {x : Str} {i : Nat} {p pos pos' : Pos} (hN : N.Nodup) (w : Wr S N sc x i) : OkS S N sc W (.Assign [.Name x p] (.Dict [] [] pos') pos) (semS Γ (.dnew i)) := by
  refine ⟨tAsg tDNewB (gName i), fun y g => ps_set hN w.ix (tgw (p := p) hN w g.gd).1 pe_dnewB rfl (tgw (p := p) hN w g.gd).2, fun cs Mc M ρ σ H E K R X hs hE => ?_⟩
  intro q hq
  have k0 : Kp (fun _ => False) H (upd H q (DictBO q [])) := Kp.fresh hq
  have R2 := R.growK hq k0 (by rw [upd_same]; exact fun z => nomatch z)
  have nc : ¬ Mc q := fun z => R.mx q (R.mc q z) hq
  have nm : ¬ Mut ρ σ q := fun ⟨j, fr, c, z1, z2⟩ => by
    obtain ⟨a2, e2, m, _⟩ := R.ownA z1
    rw [z2] at e2
    cases e2
    exact R.mx _ m hq
  exact hE.nx _ _ _ _ (R2.setO (i := i) (c := .db []) (.inr rfl) ⟨_, upd_same, .nil⟩ ⟨fun b hb => .inr (R.nobase hb hq), nc⟩ nm) hs
theorem os_parN2 {j i : Nat} {x y' : Str} {a : Expr} {px py pt pos lp : Pos} {kt k2 : Nat} {pt2 : Pos} {d : DE} (hN : N.Nodup) (hj : N[j]? = some x) (hi : N[i]? = some y') (hij : j ≠ i) (hx : sc.names.lookup x = some .local) (hy : sc.names.lookup y' = some .local)
    (h : OkE S N sc W a (semE Γ d)) (hs0 : ∀ env, starEach [a, .List [] lp] env = (false, eval a env) :: starEach [.List [] lp] env)
    (hw : ∀ env, env.scope = sc → swappedStores [.Tuple [.Name x px, .Name y' py] kt pt] (.Tuple [a, .List [] lp] k2 pt2) env = pure (some [x, y'])) : OkS S N sc W (.Assign [.Tuple [.Name x px, .Name y' py] kt pt] (.Tuple [a, .List [] lp] k2 pt2) pos) (semS Γ (.parN [j] (.cons d .nil) i)) := by
  obtain ⟨te, h1, h2⟩ := h
  refine ⟨tPar j i (tCons te (tCons (tLst tNil) tNil)), fun y gd => ps_par rfl hN hj hi hij (by show y.env.scope.names.lookup x = _; rw [gd.gd.sc]; exact hx) (by show y.env.scope.names.lookup y' = _; rw [gd.gd.sc]; exact hy) (pa_cons (h1 y gd.gd) (pa_cons (pe_lst pa_nil) pa_nil rfl) (hs0 _)) (hw _ gd.gd.sc) rfl, fun cs Mc M ρ σ H E K R X hs hE => ?_⟩
  refine h2 cs Mc M ρ σ H _ _ _ R X hs fun d1 ρ1 M1 v H1 p1 r1 q1 => ?_
  refine ⟨Nat.zero_le _, fun p hp => ?_⟩
  have k0 : Kp (fun _ => False) H1 (upd H1 p (.lst [])) := Kp.fresh hp
  have R2 := p1.rel.growK hp k0 (by rw [upd_same]; exact fun z => nomatch z)
  have r2 : RD S.K (fun a => M1 a ∨ a = p) (upd H1 p (.lst [])) v d1 := r1.kp k0 (fun _ z => z.elim) fun b z => z.imp id fun y => by rw [y]; exact hp
  have nc : ¬ Mc p := fun z => p1.rel.mx p (p1.rel.mc p z) hp
  have nm : ¬ Mut ρ1 σ p := fun ⟨j, fr, c, z1, z2⟩ => by
    obtain ⟨a2, e2, m, _⟩ := p1.rel.ownA z1
    rw [z2] at e2
    cases e2
    exact p1.rel.mx _ m hp
  have R3 := R2.setO (i := i) (c := .ls []) (.inr rfl) ⟨[], upd_same, .nil⟩ ⟨fun b hb => .inr (p1.rel.nobase hb hp), nc⟩ nm
  have R4 := R3.setPs (is := [j]) (.cons r2 .nil)
  have q1 : [d1].length = [j].length ∧ K.nx (setR [j] [d1] (ρ1.set i (.o true (.ls [])))) := q1
  refine ⟨v, .ref p, rfl, ?_⟩
  rw [List.set_comm _ _ hij]
  exact hE.nx _ _ _ _ R4 q1.2
theorem os_parN3 {j l i : Nat} {x y' z' : Str} {a b : Expr} {px py pz pt pos lp : Pos} {kt k2 : Nat} {pt2 : Pos} {d d' : DE} (hN : N.Nodup) (hj : N[j]? = some x) (hl : N[l]? = some y') (hi : N[i]? = some z') (hjl : j ≠ l) (hji : j ≠ i) (hli : l ≠ i) (hx : sc.names.lookup x = some .local) (hy : sc.names.lookup y' = some .local) (hz : sc.names.lookup z' = some .local)
    (h : OkE S N sc W a (semE Γ d)) (h' : OkE S N sc W b (semE Γ d')) (hs0 : ∀ env, starEach [a, b, .List [] lp] env = (false, eval a env) :: starEach [b, .List [] lp] env) (hs1 : ∀ env, starEach [b, .List [] lp] env = (false, eval b env) :: starEach [.List [] lp] env)
    (hw : ∀ env, env.scope = sc → swappedStores [.Tuple [.Name x px, .Name y' py, .Name z' pz] kt pt] (.Tuple [a, b, .List [] lp] k2 pt2) env = pure (some [x, y', z'])) : OkS S N sc W (.Assign [.Tuple [.Name x px, .Name y' py, .Name z' pz] kt pt] (.Tuple [a, b, .List [] lp] k2 pt2) pos) (semS Γ (.parN [j, l] (.cons d (.cons d' .nil)) i)) := by
  obtain ⟨te, h1, h2⟩ := h
  obtain ⟨te', h1', h2'⟩ := h'
  refine ⟨tPar3 j l i (tCons te (tCons te' (tCons (tLst tNil) tNil))), fun y gd => ps_par3 rfl hN hj hl hi hjl hji hli (by show y.env.scope.names.lookup x = _; rw [gd.gd.sc]; exact hx) (by show y.env.scope.names.lookup y' = _; rw [gd.gd.sc]; exact hy) (by show y.env.scope.names.lookup z' = _; rw [gd.gd.sc]; exact hz) (pa_cons (h1 y gd.gd) (pa_cons (h1' y gd.gd) (pa_cons (pe_lst pa_nil) pa_nil rfl) (hs1 _)) (hs0 _)) (hw _ gd.gd.sc) rfl, fun cs Mc M ρ σ H E K R X hs hE => ?_⟩
  refine h2 cs Mc M ρ σ H _ _ _ R X hs fun d1 ρ0 M0 u H0 p0 r0 q0 => ?_
  refine h2' cs Mc M0 ρ0 σ H0 _ _ _ p0.rel X q0 fun d2 ρ1 M1 v H1 p1 r1 q1 => ?_
  refine ⟨Nat.zero_le _, fun p hp => ?_⟩
  have k0 : Kp (fun _ => False) H1 (upd H1 p (.lst [])) := Kp.fresh hp
  have R2 := p1.rel.growK hp k0 (by rw [upd_same]; exact fun z => nomatch z)
  have r2 : RD S.K (fun a => M1 a ∨ a = p) (upd H1 p (.lst [])) v d2 := r1.kp k0 (fun _ z => z.elim) fun b z => z.imp id fun y => by rw [y]; exact hp
  have r02 : RD S.K (fun a => M1 a ∨ a = p) (upd H1 p (.lst [])) u d1 := (p1.rd p0.rel r0).kp k0 (fun _ z => z.elim) fun b z => z.imp id fun y => by rw [y]; exact hp
  have nc : ¬ Mc p := fun z => p1.rel.mx p (p1.rel.mc p z) hp
  have nm : ¬ Mut ρ1 σ p := fun ⟨j, fr, c, z1, z2⟩ => by
    obtain ⟨a2, e2, m, _⟩ := p1.rel.ownA z1
    rw [z2] at e2
    cases e2
    exact p1.rel.mx _ m hp
  have R3 := R2.setO (i := i) (c := .ls []) (.inr rfl) ⟨[], upd_same, .nil⟩ ⟨fun b hb => .inr (p1.rel.nobase hb hp), nc⟩ nm
  have R4 := R3.setPs (is := [j, l]) (.cons r02 (.cons r2 .nil))
  have q1 : [d1, d2].length = [j, l].length ∧ K.nx (setR [j, l] [d1, d2] (ρ1.set i (.o true (.ls [])))) := q1
  refine ⟨u, v, .ref p, rfl, ?_⟩
  rw [List.set_comm _ _ hli, List.set_comm _ _ hji]
  exact hE.nx _ _ _ _ R4 q1.2
end
end DL

end

section
namespace DL
open PySem PySem.Spec PyProof.Rows L2

/-! ### defs -/
@[simp] def agSl : Ag → Sl
  | .p d => .p d
  | .o c => .o false c
  | .sc ns => .sc ns
def ro0 (n : Nat) (as : List Ag) : Ro := as.map agSl ++ List.replicate (n - as.length) .un
@[simp] def outsOf : Nat → List Ag → Ro → Option (List Ct)
  | _, [], _ => some []
  | i, .o _ :: as, ρ => match ρ[i]? with
    | some (.o false c) => (outsOf (i + 1) as ρ).map (c :: ·)
    | _ => none
  | i, _ :: as, ρ => outsOf (i + 1) as ρ
@[simp] def outK (as : List Ag) (k : D → List Ct → Prop) (d : D) (ρ : Ro) : Prop := match outsOf 0 as ρ with
  | some cts => k d cts
  | none => False
@[simp] def dkOf (fr : Bool) (as : List Ag) (k : D → List Ct → Prop) (x : Ex → Prop) : DK :=
  ⟨fun ρ => fr = false ∧ outK as k .none ρ, fun d ρ => fr = false ∧ outK as k d ρ, fun d ρ => fr = true ∧ outK as k d ρ, fun _ => False, fun _ => False, x⟩
theorem ownA_p {v : V} {vs : List V} {d : D} {as : List Ag} : ownA (v :: vs) (.p d :: as) = ownA vs as := by cases v <;> rfl
section
variable {K : PySem.W.Frag} {Mc : AS} {H : Hp} {vs : List V} {as : List Ag}
theorem ownA_mem : ∀ {vs : List V} {as : List Ag}, Paired (AgOk K Mc H) vs as → ∀ a ∈ ownA vs as, Mc a
  | _, _, .nil, a, h => by cases h
  | v :: vs, g :: as, .cons r t, a, h => by
    cases r with
    | p r =>
      rw [ownA_p] at h
      exact ownA_mem t a h
    | o m r =>
      rcases List.mem_cons.mp h with e | h
      · rw [e]; exact m
      · exact ownA_mem t a h
    | sc r => exact ownA_mem t a h
theorem ownA_at : ∀ {vs : List V} {as : List Ag}, Paired (AgOk K Mc H) vs as → ∀ (i : Nat) (c : Ct) (a : Addr), as[i]? = some (.o c) → vs[i]? = some (.ref a) → a ∈ ownA vs as
  | _, _, .nil, i, c, a, h, _ => by simp at h
  | v :: vs, g :: as, .cons r t, i, c, a, h1, h2 => by
    cases i with
    | zero =>
      simp at h1 h2
      subst h1 h2
      exact List.mem_cons_self
    | succ i =>
      have h1 : as[i]? = some (.o c) := by simpa using h1
      have h2 : vs[i]? = some (.ref a) := by simpa using h2
      have ih := ownA_at t i c a h1 h2
      cases r with
      | p r =>
        rw [ownA_p]
        exact ih
      | o m r => exact List.mem_cons_of_mem _ ih
      | sc r => exact ih
theorem ownA_inj : ∀ {vs : List V} {as : List Ag}, Paired (AgOk K Mc H) vs as → (ownA vs as).Nodup → ∀ (i j : Nat) (c c' : Ct) (a : Addr), as[i]? = some (.o c) → as[j]? = some (.o c') → vs[i]? = some (.ref a) → vs[j]? = some (.ref a) → i = j
  | _, _, .nil, _, i, j, c, c', a, h, _, _, _ => by simp at h
  | v :: vs, g :: as, .cons r t, nd, i, j, c, c', a, h1, h2, h3, h4 => by
    have tail : (ownA vs as).Nodup := by
      cases r with
      | p r =>
        rw [ownA_p] at nd
        exact nd
      | o m r => exact (List.nodup_cons.mp nd).2
      | sc r => exact nd
    cases i with
    | zero =>
      cases j with
      | zero => rfl
      | succ j =>
        simp at h1 h3
        subst h1 h3
        exact absurd (ownA_at t j c' a (by simpa using h2) (by simpa using h4)) (List.nodup_cons.mp nd).1
    | succ i =>
      cases j with
      | zero =>
        simp at h2 h4
        subst h2 h4
        exact absurd (ownA_at t i c a (by simpa using h1) (by simpa using h3)) (List.nodup_cons.mp nd).1
      | succ j => exact congrArg Nat.succ (ownA_inj t tail i j c c' a (by simpa using h1) (by simpa using h2) (by simpa using h3) (by simpa using h4))
theorem paired_at {α β : Type} {F : α → β → Prop} : ∀ {l₁ : List α} {l₂ : List β} {i : Nat} {b : β}, Paired F l₁ l₂ → l₂[i]? = some b → ∃ a, l₁[i]? = some a ∧ F a b
  | _, _, _, _, .nil, h => by simp at h
  | a :: l₁, c :: l₂, 0, b, .cons h t, e => by
    simp at e
    subst e
    exact ⟨a, rfl, h⟩
  | a :: l₁, c :: l₂, i + 1, b, .cons h t, e => by
    obtain ⟨x, h1, h2⟩ := paired_at (i := i) t (by simpa using e)
    exact ⟨x, by simpa using h1, h2⟩
theorem ro0_at {n : Nat} {as : List Ag} {i : Nat} {s : Sl} (h : (ro0 n as)[i]? = some s) : (∃ g, as[i]? = some g ∧ s = agSl g) ∨ (as.length ≤ i ∧ s = .un) := by
  unfold ro0 at h
  by_cases hi : i < as.length
  · rw [List.getElem?_append_left (by simpa using hi), List.getElem?_map, List.getElem?_eq_getElem hi] at h
    exact .inl ⟨_, List.getElem?_eq_getElem hi, (Option.some.inj h).symm⟩
  · rw [List.getElem?_append_right (by simpa using hi), List.getElem?_replicate] at h
    split at h
    · exact .inr ⟨by omega, (Option.some.inj h).symm⟩
    · cases h
theorem start_at {N : List Str} {vs : List V} {i : Nat} {v : V} (h : vs[i]? = some v) : (L2.start N vs)[i]? = some (some v) := by
  unfold L2.start
  have hi := (List.getElem?_eq_some_iff.mp h).1
  rw [List.getElem?_append_left (by simpa using hi), List.getElem?_map, h]
  rfl
/-- at the entry -/
theorem rel_start {N : List Str} (hp : Paired (AgOk K Mc H) vs as) (nd : (ownA vs as).Nodup) (mx : ∀ a, Mc a → H a ≠ none) (hN : as.length ≤ N.length) :
    RelS K [⟨fun a => a ∈ ownA vs as, Mc, H, fun i a => (L2.start N vs)[i]? = some (some (.ref a))⟩] Mc Mc (ro0 N.length as) (L2.start N vs) H := by
  have hl : vs.length = as.length := hp.length
  have own : ∀ {i : Nat} {fr : Bool} {c : Ct} {a : Addr}, (ro0 N.length as)[i]? = some (.o fr c) → (L2.start N vs)[i]? = some (some (.ref a)) → fr = false ∧ as[i]? = some (.o c) ∧ vs[i]? = some (.ref a) ∧ Mc a ∧ CtOk K Mc H a c := fun {i fr c a} q e => by
    rcases ro0_at q with ⟨g, h1, h2⟩ | ⟨_, h2⟩
    · cases g <;> first | cases h2 | skip
      obtain ⟨v, h3, h4⟩ := paired_at hp h1
      rw [start_at h3] at e
      cases e
      cases h4 with
      | o m r => exact ⟨rfl, h1, h3, m, r⟩
    · cases h2
  refine ⟨?_, fun i s ov q e => ?_, fun i j fr fr' c c' a q1 q2 e1 e2 => ?_, fun _ z => z, mx, fun i fr c a q e => ?_, fun b hb => ?_, fun b hb a z => ?_, fun b hb i c a q e => ?_⟩
  · unfold ro0 L2.start
    rw [List.length_append, List.length_map, List.length_replicate, List.length_append, List.length_map, List.length_replicate, hl]
  · rcases ro0_at q with ⟨g, h1, rfl⟩ | ⟨_, rfl⟩
    · obtain ⟨v, h3, h4⟩ := paired_at hp h1
      rw [start_at h3] at e
      cases e
      cases h4 with
      | p r => exact ⟨v, rfl, r⟩
      | o m r => exact ⟨_, rfl, m, r⟩
      | sc r => exact ⟨_, rfl, r⟩
    · trivial
  · obtain ⟨_, a1, a2, _⟩ := own q1 e1
    obtain ⟨_, b1, b2, _⟩ := own q2 e2
    exact ownA_inj hp nd i j _ _ a a1 b1 a2 b2
  · obtain ⟨hf, a1, a2, _⟩ := own q e
    refine ⟨fun b hb => ?_, fun z => by rw [hf] at z; cases z⟩
    rw [List.mem_singleton.mp hb]
    exact .inl (ownA_at hp i c a a1 a2)
  · rw [List.mem_singleton.mp hb]; exact .refl
  · rw [List.mem_singleton.mp hb]; exact .inl z
  · rw [List.mem_singleton.mp hb]; exact e
/-- what stands in the lists that were handed on, at the end -/
theorem outs_ok {N : List Str} {vs0 : List V} {cs : List Bs} {M' : AS} {ρ' : Ro} {σ' : L2.St} {H' : Hp} (R : RelS K cs Mc M' ρ' σ' H') (hb : ∀ (i : Nat) (c : Ct) (a : Addr), ρ'[i]? = some (.o false c) → σ'[i]? = some (some (.ref a)) → (L2.start N vs0)[i]? = some (some (.ref a))) :
    ∀ {vs : List V} {as : List Ag} {i : Nat} {cts : List Ct}, Paired (AgOk K Mc H) vs as → (∀ j v, vs[j]? = some v → vs0[i + j]? = some v) → outsOf i as ρ' = some cts → Paired (CtOk K Mc H') (ownA vs as) cts
  | _, _, i, cts, .nil, _, h => by
    cases h
    exact .nil
  | v :: vs, g :: as, i, cts, .cons r t, hv, h => by
    have hv' : ∀ j v, vs[j]? = some v → vs0[i + 1 + j]? = some v := fun j w e => by
      have := hv (j + 1) w (by simpa using e)
      rw [← this]
      congr 1
      omega
    cases r with
    | p r =>
      rw [ownA_p]
      exact outs_ok R hb t hv' h
    | sc r =>
      show Paired _ (ownA vs as) cts
      exact outs_ok R hb t hv' h
    | @o a c m r =>
      have h : (match ρ'[i]? with
        | some (.o false c) => (outsOf (i + 1) as ρ').map (c :: ·)
        | _ => none) = some cts := h
      split at h
      · rename_i c2 q
        cases e : outsOf (i + 1) as ρ' with
        | none => rw [e] at h; cases h
        | some l =>
          rw [e] at h
          cases h
          refine .cons ?_ (outs_ok R hb t hv' e)
          obtain ⟨b, e1, m1, r1⟩ := R.ownA q
          have e2 := hb i c2 b q e1
          have e3 := hv 0 (.ref a) rfl
          rw [Nat.add_zero] at e3
          rw [start_at e3] at e2
          cases e2
          exact r1.kp (Kp.refl (Z := fun _ => False)) (fun _ z => z.elim) (fun x z => .inl (R.mc x z)) fun z => z
      · cases h
end
/-- THE RULE for a def -/
theorem fn_ok {P : Program} {w : World} {K : PySem.W.Frag} {mg : Str → Option Value} {base : Heap} {x qual : Str} {params : Arguments} {body : List Stmt} {scope : Scope} {dvs : List V} {kws : List (Str × V)} {f : Addr} {fd : FuncData} {N ps : List Str} {k : Nat} {fr : Bool} {sp : DSp} {Γ : Gm} {ds : DS}
    (F : FunD K x qual params body scope dvs kws f fd) (Sc : FnScope N ps scope) (hb : ∀ W, OkSs ⟨P, w, K, mg, base, k, fun _ => true⟩ N scope W body (semS Γ ds)) (ar : ∀ as k x, sp as k x → as.length = ps.length)
    (law : ∀ as k x, sp as k x → semS Γ ds (dkOf fr as k x) (ro0 N.length as)) : FnOk P w K mg base (L2.CX P w) (k + 1) f fd ps (liftSp K mg fr ps.length sp) := by
  have hpl : ps.length ≤ N.length := by
    have := congrArg List.length Sc.pre
    rw [List.length_take] at this
    omega
  refine F.ok Sc (fun vs H Q E h => h.choose_spec.choose_spec.1) fun cdv A outer s H vs Q E hr h => ?_
  obtain ⟨Mc, as, hl, hp, nd, mx, kk, xx, hs, hq, he⟩ := h
  obtain ⟨ts, t1, t2⟩ := hb (fun cls d _ H => E cls d H)
  have har := ar _ _ _ hs
  let X := cxOf (L2.CX P w) P w K mg base N qual scope f cdv A outer s H E
  refine ⟨ts, t1 ⟨A.deeper (envOfC qual scope s.heap.objs.size f cdv), s, H, envOfC qual scope s.heap.objs.size f cdv, outer, envOfC qual scope s.heap.objs.size f cdv :: outer, [], [], X.xe⟩ ⟨⟨rfl, hr, takes_of (X := X) rfl rfl rfl rfl⟩, passes_of (X := X) rfl, rfl, rfl⟩, ?_⟩
  have R0 := rel_start (N := N) hp nd mx (by rw [har]; exact hpl)
  have fin : ∀ {d : D} {ρ' : Ro} {σ' : L2.St} {M' : AS} {v : V} {H' : Hp}, RelS K [⟨fun a => a ∈ ownA vs as, Mc, H, fun i a => (L2.start N vs)[i]? = some (some (.ref a))⟩] Mc M' ρ' σ' H' → RD K Mc H' v d → (fr = true → NewL K Mc H H' v d) → outK as kk d ρ' → Q v H' := fun {d ρ' σ' M' v H'} R r nl ho => by
    unfold outK at ho
    split at ho
    · rename_i cts ec
      exact hq _ _ _ _ (R.old _ List.mem_cons_self) r nl ho (outs_ok (N := N) (vs0 := vs) R (fun i c a q e => R.pin _ List.mem_cons_self i c a q e) hp (fun j v e => by rw [Nat.zero_add]; exact e) ec)
    · exact ho.elim
  refine t2 _ Mc Mc _ _ H _ (dkOf fr as kk xx) R0 (fun e hx C od σ' H' hC hD hk => he e hx C od H' hC hD (hk _ List.mem_cons_self)) (law _ _ _ hs) ⟨fun ρ' σ' M' H' R q => fin R .non (fun z => by rw [q.1] at z; cases z) q.2, fun d ρ' σ' M' v H' R r q => fin R (r.weak R.mc) (fun z => by rw [q.1] at z; cases z) q.2, fun _ _ _ _ _ q => q.elim, fun _ _ _ _ _ q => q.elim, fun ds' ρ' σ' M' p us H' R e r hz hc q => ?_⟩
  have hw : ∀ a, (Mc a ∨ a = p) → (M' a ∨ a = p) := fun a z => z.elim (fun y => R.mc a y) .inr
  refine fin R (.lst e hc (r.weak fun a z => hw a (.inl z))) (fun _ => ⟨p, us, ds', rfl, rfl, ?_, e, r.weak hw⟩) q.2
  rcases hz _ List.mem_cons_self with z | z
  · exact absurd (ownA_mem hp p z) hc
  · exact z
end DL

end

section
namespace DL
open PySem PySem.Spec PyProof.Rows L2

/-! ### what the forms of the text give -/
def noStar : Expr → Bool
  | .Starred .. => false
  | _ => true
theorem star1 {e : Expr} (h : noStar e = true) (es : List Expr) (env : Env) : starEach (e :: es) env = (false, eval e env) :: starEach es env := by
  cases e <;> first | rfl | cases h
theorem star_pl {pos : Pos} {env : Env} : ∀ {es : List Expr}, es.all noStar = true → (backTo pos (starEach es env)).any (·.1) = false
  | [], _ => rfl
  | e :: es, h => by
    obtain ⟨h1, h2⟩ := Bool.and_eq_true_iff.mp (List.all_cons .. ▸ h)
    rw [star1 h1]
    show (false || (backTo pos (starEach es env)).any (·.1)) = false
    rw [star_pl h2]
    rfl
def plainB : Expr → Bool
  | .Slice .. => false
  | _ => true
theorem plain_ix {b : Expr} (h : plainB b = true) : PlainIx b := by
  cases b <;> first | exact fun _ _ => rfl | cases h
theorem no_sl {b : Expr} (h : plainB b = true) : NoSl b := by
  cases b <;> first | exact fun _ _ => rfl | cases h
def noCall : Expr → Bool
  | .Call _ [] _ _ => false
  | _ => true
theorem attr_base {e : Expr} (h : noCall e = true) (name : Str) (env : Env) (wh : Sem Value) : attributeBase e name env wh = wh := by
  cases e <;> first | rfl | skip
  rename_i f as ks p
  cases as with
  | nil => cases h
  | cons a as => cases f <;> rfl
theorem few1 {e : Expr} (h : noStar e = true) (pos : Pos) (env : Env) : ((backTo pos (starEach [e] env)).all (fun x => !x.1) && (backToKw pos (keywordEach [] env)).all (fun x => x.1.isSome)
      && decide (([e] : List Expr).length + ([] : List Keyword).length + (if ([] : List Keyword).isEmpty then 0 else 1) < 30)) = true := by
  rw [star1 h]
  rfl
def noComp : Expr → Bool
  | .ListComp .. => false
  | .SetComp .. => false
  | .DictComp .. => false
  | _ => true
theorem sw_no {e : Expr} (h : noComp e = true) (t : Option Expr) (l : Nat) (env : Env) : swapsWith e t l env = pure false := by
  cases e <;> first | rfl | cases h
def noSet : Expr → Bool
  | .Set .. => false
  | _ => true
theorem folded_no {e : Expr} (h : noSet e = true) (env : Env) (x : Value) : foldedSetIterable e env x = pure x := by
  cases e <;> first | rfl | cases h
def noTup : Expr → Bool
  | .Tuple .. => false
  | _ => true
theorem stores_no {t e : Expr} (h : noTup e = true) (env : Env) : swappedStores [t] e env = pure none := by
  cases t <;> cases e <;> first | rfl | cases h
/-- a test that is a value's truth -/
def noCallB : Expr → Bool
  | .UnaryOp .Not _ _ => false
  | .BoolOp .. => false
  | .IfExp .. => false
  | .Compare .. => false
  | _ => true
theorem val_test {e : Expr} (h : noCallB e = true) : ∀ env whole, isTrue e env whole = (do let v ← whole; standAt e.pos; holding [v] (truthy v)) := by
  intro env whole
  cases e <;> first | rfl | cases h | skip
  rename_i op x p
  cases op <;> first | rfl | cases h
/-- both names are stored from the right -/
def namesOf (sc : Scope) (ts : List Expr) : List Str := ts.filterMap fun
      | .Name id pos => if sc.names.lookup id == some .local && pos.line == (ts.head?.map (·.pos.line)).getD 0 then some id else none
      | _ => none
def starB (vs : List Expr) : Bool := vs.any fun | .Starred .. => true | _ => false
structure SwOk (sc : Scope) (ts vs : List Expr) : Prop where
  a : ¬ (!(ts.length == 2 || ts.length == 3) || vs.length != ts.length || sc.kind != .function) = true
  b : ¬ starB vs = true
  c : ¬ ((namesOf sc ts).length != ts.length || (namesOf sc ts).eraseDups.length != (namesOf sc ts).length) = true
  d : ¬ vs.all (foldedForSure 8) = true
  e : ¬ vs.all (constantsAlone 8) = true
def swB (sc : Scope) (ts vs : List Expr) : Bool :=
  !(!(ts.length == 2 || ts.length == 3) || vs.length != ts.length || sc.kind != .function) && (!starB vs && (!((namesOf sc ts).length != ts.length || (namesOf sc ts).eraseDups.length != (namesOf sc ts).length) && (!(vs.all (foldedForSure 8)) && !(vs.all (constantsAlone 8)))))
theorem notB {b : Bool} (h : (!b) = true) : ¬ b = true := by cases b <;> simp_all
theorem swOk_of {sc : Scope} {ts vs : List Expr} (h : swB sc ts vs = true) : SwOk sc ts vs := by
  obtain ⟨h1, h⟩ := Bool.and_eq_true_iff.mp h
  obtain ⟨h2, h⟩ := Bool.and_eq_true_iff.mp h
  obtain ⟨h3, h⟩ := Bool.and_eq_true_iff.mp h
  obtain ⟨h4, h5⟩ := Bool.and_eq_true_iff.mp h
  exact ⟨notB h1, notB h2, notB h3, notB h4, notB h5⟩
theorem blockFn {env : Env} : env.scope.kind = .function → env.blockKind = .function := fun h => by unfold Env.blockKind; rw [h]; rfl
theorem sw_stores {sc : Scope} {ts vs : List Expr} {k k2 : Nat} {p p2 : Pos} (h : swB sc ts vs = true) (env : Env) (he : env.scope = sc) : swappedStores [.Tuple ts k p] (.Tuple vs k2 p2) env = pure (some (namesOf sc ts)) := by
  obtain ⟨h1, h2, h3, h4, h5⟩ := swOk_of h
  subst he
  have hk : env.scope.kind = .function := by
    cases q : env.scope.kind with
    | function => rfl
    | _ =>
      exfalso
      rw [q] at h1
      exact h1 (by rw [Bool.or_eq_true]; exact .inr rfl)
  have hb := blockFn hk
  rw [hk] at h1
  unfold swappedStores
  simp only [hb]
  refine (if_neg h1).trans ?_
  refine (if_neg h2).trans ?_
  refine (if_neg h3).trans ?_
  refine (if_neg h4).trans ?_
  exact (if_neg h5)
/-- a name among them is no plain local one: they are stored one after another -/
def cellB (sc : Scope) (ts : List Expr) : Bool := (namesOf sc ts).length != ts.length
theorem stores_cell {sc : Scope} {ts vs : List Expr} {k k2 : Nat} {p p2 : Pos} (h : cellB sc ts = true) (env : Env) (he : env.scope = sc) : swappedStores [.Tuple ts k p] (.Tuple vs k2 p2) env = pure none := by
  subst he
  have h' : ((namesOf env.scope ts).length != ts.length || (namesOf env.scope ts).eraseDups.length != (namesOf env.scope ts).length) = true := by
    rw [Bool.or_eq_true]
    exact .inl h
  unfold swappedStores
  show (if _ then _ else _) = _
  split
  · rfl
  · split
    · rfl
    · exact if_pos h'
end DL

end

section
namespace DL
open PySem PySem.Spec PyProof.Rows L2

section
variable {S : Sx} {N : List Str} {sc : Scope} {W : WX} {Γ : Gm}
theorem ok_srtSet {x y : Str} {p p2 pos pos2 : Pos} {e : Expr} {a : DE} (B : BiN S sc x (.builtin "sorted")) (BT : BiN S sc y (.type "set")) (ha : OkO S N sc W e (semO a (semE Γ a)))
    (hs : ∀ env, starEach [e] env = (false, eval e env) :: starEach [] env) : OkE S N sc W (.Call (.Name x p) [.Call (.Name y p2) [e] [] pos2] [] pos) (semE Γ (.op1 .srtSet a)) := by
  obtain ⟨ta, h1, h2⟩ := ha
  refine ⟨tCB (rSortV S.K S.w) (tCons (tCB (rSetV S.K S.w) (tCons ta tNil)) tNil), fun y g => pe_callB (c_sortV g.hu rfl) (gd_gl g B.gl) B.mg B.bt (pa_cons (pe_callTy (c_setV g.hu rfl) (gd_gl g BT.gl) BT.mg BT.bt (pa_cons (h1 y g) pa_nil (hs _)) BT.nn BT.db (hs _) rfl) pa_nil rfl) B.nn B.db rfl rfl, fun cs Mc M ρ σ H Q k x R X hs hk => ?_⟩
  refine h2 cs Mc M ρ σ H _ _ x R X hs fun o ρ1 M1 v H1 p1 r1 q1 => ?_
  split at q1
  · rename_i d e
    obtain ⟨ds, hi, so, kk⟩ : ∃ ds, itemsOf d = some ds ∧ SetOk ds ∧ k (.list (sortD (dedup ds))) ρ1 := by
      cases d <;> first | exact (show False from q1).elim | exact ⟨_, rfl, q1.1, q1.2⟩
    refine ⟨v, M1, d, ds, rfl, p1.rel.mx, rs_ok p1.rel r1 e, hi, so, fun p ys es hp rd len flat sk pm => ?_⟩
    have k0 : Kp (fun _ => False) H1 (upd H1 p (SetVO S.w p ys)) := Kp.fresh hp
    have mx : ∀ a, M1 a → upd H1 p (SetVO S.w p ys) a ≠ none := fun a m => k0.there a (p1.rel.mx a m)
    refine ⟨p, ys, es, _, M1, rfl, upd_same, rd.kp k0 (fun _ z => z.elim) (fun _ z => .inl z), flat, sk, pm, mx, fun q zs hq rz => ?_⟩
    exact hk _ ρ1 M1 _ _ (p1.trans (Post.heap p1.rel (k0.trans (Kp.fresh hq)))) (RD.newL mx rz hq) kk
  · exact q1.elim
theorem ok_lenSet {x y : Str} {p p2 pos pos2 : Pos} {e : Expr} {a : DE} (B : BiN S sc x (.builtin "len")) (BT : BiN S sc y (.type "set")) (ha : OkO S N sc W e (semO a (semE Γ a)))
    (hs : ∀ env, starEach [e] env = (false, eval e env) :: starEach [] env) : OkE S N sc W (.Call (.Name x p) [.Call (.Name y p2) [e] [] pos2] [] pos) (semE Γ (.op1 .lenSet a)) := by
  obtain ⟨ta, h1, h2⟩ := ha
  refine ⟨tCB (rLenV S.w) (tCons (tCB (rSetV S.K S.w) (tCons ta tNil)) tNil), fun y g => pe_callB (c_lenV g.hu rfl) (gd_gl g B.gl) B.mg B.bt (pa_cons (pe_callTy (c_setV g.hu rfl) (gd_gl g BT.gl) BT.mg BT.bt (pa_cons (h1 y g) pa_nil (hs _)) BT.nn BT.db (hs _) rfl) pa_nil rfl) B.nn B.db rfl rfl, fun cs Mc M ρ σ H Q k x R X hs hk => ?_⟩
  refine h2 cs Mc M ρ σ H _ _ x R X hs fun o ρ1 M1 v H1 p1 r1 q1 => ?_
  split at q1
  · rename_i d e
    obtain ⟨ds, hi, so, kk⟩ : ∃ ds, itemsOf d = some ds ∧ SetOk ds ∧ k (.int (dedup ds).length) ρ1 := by
      cases d <;> first | exact (show False from q1).elim | exact ⟨_, rfl, q1.1, q1.2⟩
    refine ⟨v, M1, d, ds, rfl, p1.rel.mx, rs_ok p1.rel r1 e, hi, so, fun p ys es hp rd len flat sk pm => ?_⟩
    have k0 : Kp (fun _ => False) H1 (upd H1 p (SetVO S.w p ys)) := Kp.fresh hp
    refine ⟨p, ys, rfl, upd_same, ?_⟩
    rw [rd.len, len]
    exact hk _ ρ1 M1 _ _ (p1.trans (Post.heap p1.rel k0)) (.int _) kk
  · exact q1.elim
/-! what is never come to -/
theorem ok_never {e : Expr} : OkE S N sc W e (semE Γ .never) :=
  ⟨fun _ _ _ => False, fun y g => ⟨fun pins s σ H Q I h => h.elim⟩, fun cs Mc M ρ σ H Q k x R X hs hk => hs.elim⟩
theorem os_never {st : Stmt} : OkS S N sc W st (semS Γ .never) :=
  ⟨fun _ _ _ => False, fun y g => ⟨fun pins s σ H D I h => h.elim⟩, fun cs Mc M ρ σ H E K R X hs hE => hs.elim⟩
/-! several clauses -/
inductive HdR (S : Sx) (sc : Scope) (Γ : Gm) : List (Str × Hd) → List ExceptHandler → List (Value × (Addr → Value → Option Addr → TS)) → Prop
  | nil : HdR S sc Γ [] [] []
  | cons {x : Str} {c : Value} {r : D} {v : V} {e : Expr} {np rp pos' : Pos} {hs : List (Str × Hd)} {es : List ExceptHandler} {l : List (Value × (Addr → Value → Option Addr → TS))} (Hr : HReg S sc Γ x c) (hv : ∀ X : Cx, PE X e (tC v)) (rd : ∀ M H, RD S.K M H v r) (t : HdR S sc Γ hs es l) :
      HdR S sc Γ ((x, .ret r) :: hs) (.ExceptHandler (some (.Name x np)) none [.Return (some e) rp] pos' :: es) ((c, fun _ _ _ => tRet (tC v)) :: l)
theorem HdR.ok {hs : List (Str × Hd)} {es : List ExceptHandler} {l : List (Value × (Addr → Value → Option Addr → TS))} (h : HdR S sc Γ hs es l) {y : Dy} (g : Gd S N sc W y) : HdsOk (cx S N y) es l := by
  induction h with
  | nil => exact .nil
  | cons Hr hv rd t ih => exact .cons ⟨gd_gl g Hr.gl, Hr.db, Hr.nm⟩ (fun a oe cls d pn _ _ => pss_one (ps_ret (hv _))) ih
theorem os_tryn {body : List Stmt} {b : DS} {hs : List (Str × Hd)} {h0 : ExceptHandler} {es : List ExceptHandler} {l : List (Value × (Addr → Value → Option Addr → TS))} {pos : Pos} (hr : HdR S sc Γ hs (h0 :: es) l) (hb : ∀ W, OkSs S N sc W body (semS Γ b)) :
    OkS S N sc W (.Try body (h0 :: es) [] [] pos) (semS Γ (.tryn b hs)) := by
  refine ⟨fun D σ H => (Classical.choose (hb (wMany S.K W D l))) D σ H, fun y gd => ?_, fun cs Mc M ρ σ H E K R X hsm hE => ?_⟩
  · refine ps_try_many (tb := fun W' => Classical.choose (hb W')) (Wout := W) gd.st gd.fr gd.gd.tk (fun W' pn xe tk po => ?_) (hr.ok gd.gd)
    exact (Classical.choose_spec (hb W')).1 ⟨y.A, y.s0, y.H0, y.env, y.outer, y.stack, y.ex, pn, xe⟩ ⟨⟨gd.gd.sc, gd.gd.room, tk⟩, po, gd.st, gd.fr⟩
  · have R1 := R.root
    refine (Classical.choose_spec (hb (wMany S.K W E l))).2 _ Mc M ρ σ H E { K with ex := fun e => e.c ∈ Γ.xs ∧ hsP Γ K e hs } R1 (fun ex he C od σ' H' hC hD hk => ?_) hsm ⟨hE.more.nx, hE.more.rt, hE.more.bk, hE.more.ct, hE.more.rtf⟩
    obtain ⟨e1, e2⟩ := he
    have R2 : RelS S.K cs Mc Mc (List.replicate σ'.length .un) σ' H' := rel_blank R (hk _ List.mem_cons_self) fun b' hb' => hk b' (List.mem_cons_of_mem _ hb')
    clear hsm hb
    generalize h0 :: es = hl at hr
    induction hr with
    | nil => exact X _ e2 C od σ' H' hC hD fun b' hb' => hk b' (List.mem_cons_of_mem _ hb')
    | cons Hr hv rd t ih =>
      exact ⟨_, Hr.ex _ e1 C hC, fun hy a _ => hE.rt _ _ _ _ _ _ R2 (rd _ _) (e2.1 hy _), fun hn => ih (e2.2 hn)⟩
end
end DL

end

section
namespace DL
open PySem PySem.Spec PyProof.Rows L2

/-! ### comprehensions with three fors -/
theorem compTurn3_0 (elt t0 i0 t1 i1 t2 i2 : Expr) (ifs0 ifs1 ifs2 : List Expr) (scope : Scope) (pos : Pos) (it acc : Value) (env : Env) :
    compTurn (.ListComp elt [⟨t0, i0, ifs0, 0⟩, ⟨t1, i1, ifs1, 0⟩, ⟨t2, i2, ifs2, 0⟩] scope pos) 0 it acc env = (do
      standAt i0.pos
      match ← pyNext it with
      | none => pure (.done .next)
      | some v =>
        letOwnedTupleGo t0 it v
        assign t0 env v
        let mut ok := true
        for c in ifs0 do
          if ok then ok ← isTrue c env (eval c env)
        if ok then
          let x ← eval i1 env
          standAt i1.pos
          let x ← foldedSetIterable i1 env x
          let _ ← runOwn (.compStart (.ListComp elt [⟨t0, i0, ifs0, 0⟩, ⟨t1, i1, ifs1, 0⟩, ⟨t2, i2, ifs2, 0⟩] scope pos) 1 (← holding [x] (pyIter x)) acc env) env
        again (.compLoop (.ListComp elt [⟨t0, i0, ifs0, 0⟩, ⟨t1, i1, ifs1, 0⟩, ⟨t2, i2, ifs2, 0⟩] scope pos) 0 it acc env)) := by rfl

theorem compTurn3_1 (elt t0 i0 t1 i1 t2 i2 : Expr) (ifs0 ifs1 ifs2 : List Expr) (scope : Scope) (pos : Pos) (it acc : Value) (env : Env) :
    compTurn (.ListComp elt [⟨t0, i0, ifs0, 0⟩, ⟨t1, i1, ifs1, 0⟩, ⟨t2, i2, ifs2, 0⟩] scope pos) 1 it acc env = (do
      standAt i1.pos
      match ← pyNext it with
      | none => pure (.done .next)
      | some v =>
        letOwnedTupleGo t1 it v
        assign t1 env v
        let mut ok := true
        for c in ifs1 do
          if ok then ok ← isTrue c env (eval c env)
        if ok then
          let x ← eval i2 env
          standAt i2.pos
          let x ← foldedSetIterable i2 env x
          let _ ← runOwn (.compStart (.ListComp elt [⟨t0, i0, ifs0, 0⟩, ⟨t1, i1, ifs1, 0⟩, ⟨t2, i2, ifs2, 0⟩] scope pos) 2 (← holding [x] (pyIter x)) acc env) env
        again (.compLoop (.ListComp elt [⟨t0, i0, ifs0, 0⟩, ⟨t1, i1, ifs1, 0⟩, ⟨t2, i2, ifs2, 0⟩] scope pos) 1 it acc env)) := by rfl

theorem compTurn3_2 (elt t0 i0 t1 i1 t2 i2 : Expr) (ifs0 ifs1 ifs2 : List Expr) (scope : Scope) (pos : Pos) (it acc : Value) (env : Env) :
    compTurn (.ListComp elt [⟨t0, i0, ifs0, 0⟩, ⟨t1, i1, ifs1, 0⟩, ⟨t2, i2, ifs2, 0⟩] scope pos) 2 it acc env = (do
      standAt i2.pos
      match ← pyNext it with
      | none => pure (.done .next)
      | some v =>
        letOwnedTupleGo t2 it v
        assign t2 env v
        let mut ok := true
        for c in ifs2 do
          if ok then ok ← isTrue c env (eval c env)
        if ok then
          (do let _ ← call (.builtin "list.append") [acc, ← eval elt env])
        again (.compLoop (.ListComp elt [⟨t0, i0, ifs0, 0⟩, ⟨t1, i1, ifs1, 0⟩, ⟨t2, i2, ifs2, 0⟩] scope pos) 2 it acc env)) := by rfl


section
variable {prog : Program} {w : World} {A : Around} {R : Result → Shared → Prop} {s : Shared} {elt t0 i0 t1 i1 t2 i2 : Expr} {ifs0 ifs1 ifs2 : List Expr} {scope : Scope} {pos : Pos} {it acc : Value} {env : Env}

theorem compLoop3_0 (hs : ∀ x, foldedSetIterable i1 env x = pure x) (I : Nat → Shared → Prop)
    (turn : ∀ n s, I n s → wpAny (model prog w) A (pyNext it) (fun r s₁ => match r with
      | none => R (.ok .next) s₁
      | some v => wpAny (model prog w) A (letOwnedTupleGo t0 it v) (fun _ s₁' => wpAny (model prog w) A (assign t0 env v) (fun _ s₂ =>
          wpAny (model prog w) A (forIn ifs0 true fun c r => if r = true then do let ok ← isTrue c env (eval c env); pure (ForInStep.yield ok) else pure (ForInStep.yield r)) (fun ok s₃ =>
            if ok = true then wpAny (model prog w) A (eval i1 env) (fun x s₄ => wpAny (model prog w) A (pyIter x) (fun it1 s₅ =>
              codeAny (model prog w) A (.compStart (.ListComp elt [⟨t0, i0, ifs0, 0⟩, ⟨t1, i1, ifs1, 0⟩, ⟨t2, i2, ifs2, 0⟩] scope pos) 1 it1 acc env) (fun r s' => match r with
                | .ok _ => ∃ m, m < n ∧ I m s'
                | .error _ => False) s₅) (notedBy (model prog w) A env fun e s' => R (.error e) s') s₄) (notedBy (model prog w) A env fun e s' => R (.error e) s') s₃
            else ∃ m, m < n ∧ I m s₃) (notedBy (model prog w) A env fun e s' => R (.error e) s') s₂) (notedBy (model prog w) A env fun e s' => R (.error e) s') s₁') (notedBy (model prog w) A env fun e s' => R (.error e) s') s₁) (notedBy (model prog w) A env fun e s' => R (.error e) s') s)
    (n : Nat) (h : I n s) :
    codeAny (model prog w) A (.compLoop (.ListComp elt [⟨t0, i0, ifs0, 0⟩, ⟨t1, i1, ifs1, 0⟩, ⟨t2, i2, ifs2, 0⟩] scope pos) 0 it acc env) R s := by
  refine codeAny_loop rfl I (fun n s hI => ?_) n h
  show wpAny _ A ((compTurn (.ListComp elt [⟨t0, i0, ifs0, 0⟩, ⟨t1, i1, ifs1, 0⟩, ⟨t2, i2, ifs2, 0⟩] scope pos) 0 it acc env).onRaise (fun x => do noteFrame x env; theTreesLotGoes x)) _ _ s
  refine wpAny_noted ?_
  rw [compTurn3_0]
  refine wpAny_bind (wpAny_standAt (wpAny_bind (wpAny_mono (turn n s hI) (fun r s₁ h₁ => ?_) fun _ _ h' => h')))
  cases r with
  | none => exact wpAny_pure h₁
  | some v =>
    refine wpAny_bind (wpAny_mono h₁ (fun _ s₁' h₁' => ?_) fun _ _ h' => h')
    refine wpAny_bind (wpAny_mono h₁' (fun _ s₂ h₂ => wpAny_bind (wpAny_mono h₂ (fun ok s₃ h₃ => ?_) fun _ _ h' => h')) fun _ _ h' => h')
    cases ok with
    | false => exact wpAny_pure ⟨rfl, h₃⟩
    | true =>
      refine wpAny_bind (wpAny_mono h₃ (fun x s₄ h₄ => ?_) fun _ _ h' => h')
      refine wpAny_bind (wpAny_standAt (wpAny_bind (wpAny_of_eq (hs x) (wpAny_bind (wpAny_holding (wpAny_mono h₄ (fun it1 s₅ h₅ => ?_) fun _ _ h' => h'))))))
      refine wpAny_bind (wpAny_runOwn ?_)
      rw [Around.mark_none]
      refine codeAny_mono h₅ fun r s' hr => ?_
      cases r with
      | ok f =>
        first
          | exact wpAny_pure ⟨rfl, hr⟩
          | exact wpAny_bind (wpAny_pure (wpAny_pure ⟨rfl, hr⟩))
      | error e => exact hr.elim

theorem compLoop3_1 (hs : ∀ x, foldedSetIterable i2 env x = pure x) (I : Nat → Shared → Prop)
    (turn : ∀ n s, I n s → wpAny (model prog w) A (pyNext it) (fun r s₁ => match r with
      | none => R (.ok .next) s₁
      | some v => wpAny (model prog w) A (letOwnedTupleGo t1 it v) (fun _ s₁' => wpAny (model prog w) A (assign t1 env v) (fun _ s₂ =>
          wpAny (model prog w) A (forIn ifs1 true fun c r => if r = true then do let ok ← isTrue c env (eval c env); pure (ForInStep.yield ok) else pure (ForInStep.yield r)) (fun ok s₃ =>
            if ok = true then wpAny (model prog w) A (eval i2 env) (fun x s₄ => wpAny (model prog w) A (pyIter x) (fun it1 s₅ =>
              codeAny (model prog w) A (.compStart (.ListComp elt [⟨t0, i0, ifs0, 0⟩, ⟨t1, i1, ifs1, 0⟩, ⟨t2, i2, ifs2, 0⟩] scope pos) 2 it1 acc env) (fun r s' => match r with
                | .ok _ => ∃ m, m < n ∧ I m s'
                | .error _ => False) s₅) (notedBy (model prog w) A env fun e s' => R (.error e) s') s₄) (notedBy (model prog w) A env fun e s' => R (.error e) s') s₃
            else ∃ m, m < n ∧ I m s₃) (notedBy (model prog w) A env fun e s' => R (.error e) s') s₂) (notedBy (model prog w) A env fun e s' => R (.error e) s') s₁') (notedBy (model prog w) A env fun e s' => R (.error e) s') s₁) (notedBy (model prog w) A env fun e s' => R (.error e) s') s)
    (n : Nat) (h : I n s) :
    codeAny (model prog w) A (.compLoop (.ListComp elt [⟨t0, i0, ifs0, 0⟩, ⟨t1, i1, ifs1, 0⟩, ⟨t2, i2, ifs2, 0⟩] scope pos) 1 it acc env) R s := by
  refine codeAny_loop rfl I (fun n s hI => ?_) n h
  show wpAny _ A ((compTurn (.ListComp elt [⟨t0, i0, ifs0, 0⟩, ⟨t1, i1, ifs1, 0⟩, ⟨t2, i2, ifs2, 0⟩] scope pos) 1 it acc env).onRaise (fun x => do noteFrame x env; theTreesLotGoes x)) _ _ s
  refine wpAny_noted ?_
  rw [compTurn3_1]
  refine wpAny_bind (wpAny_standAt (wpAny_bind (wpAny_mono (turn n s hI) (fun r s₁ h₁ => ?_) fun _ _ h' => h')))
  cases r with
  | none => exact wpAny_pure h₁
  | some v =>
    refine wpAny_bind (wpAny_mono h₁ (fun _ s₁' h₁' => ?_) fun _ _ h' => h')
    refine wpAny_bind (wpAny_mono h₁' (fun _ s₂ h₂ => wpAny_bind (wpAny_mono h₂ (fun ok s₃ h₃ => ?_) fun _ _ h' => h')) fun _ _ h' => h')
    cases ok with
    | false => exact wpAny_pure ⟨rfl, h₃⟩
    | true =>
      refine wpAny_bind (wpAny_mono h₃ (fun x s₄ h₄ => ?_) fun _ _ h' => h')
      refine wpAny_bind (wpAny_standAt (wpAny_bind (wpAny_of_eq (hs x) (wpAny_bind (wpAny_holding (wpAny_mono h₄ (fun it1 s₅ h₅ => ?_) fun _ _ h' => h'))))))
      refine wpAny_bind (wpAny_runOwn ?_)
      rw [Around.mark_none]
      refine codeAny_mono h₅ fun r s' hr => ?_
      cases r with
      | ok f =>
        first
          | exact wpAny_pure ⟨rfl, hr⟩
          | exact wpAny_bind (wpAny_pure (wpAny_pure ⟨rfl, hr⟩))
      | error e => exact hr.elim

theorem compLoop3_2 (I : Nat → Shared → Prop)
    (turn : ∀ n s, I n s → wpAny (model prog w) A (pyNext it) (fun r s₁ => match r with
      | none => R (.ok .next) s₁
      | some v => wpAny (model prog w) A (letOwnedTupleGo t2 it v) (fun _ s₁' => wpAny (model prog w) A (assign t2 env v) (fun _ s₂ =>
          wpAny (model prog w) A (forIn ifs2 true fun c r => if r = true then do let ok ← isTrue c env (eval c env); pure (ForInStep.yield ok) else pure (ForInStep.yield r)) (fun ok s₃ =>
            if ok = true then wpAny (model prog w) A (eval elt env) (fun x s₄ =>
              wpAny (model prog w) A (call (.builtin "list.append") [acc, x]) (fun _ s₅ => ∃ m, m < n ∧ I m s₅) (notedBy (model prog w) A env fun e s' => R (.error e) s') s₄) (notedBy (model prog w) A env fun e s' => R (.error e) s') s₃
            else ∃ m, m < n ∧ I m s₃) (notedBy (model prog w) A env fun e s' => R (.error e) s') s₂) (notedBy (model prog w) A env fun e s' => R (.error e) s') s₁') (notedBy (model prog w) A env fun e s' => R (.error e) s') s₁) (notedBy (model prog w) A env fun e s' => R (.error e) s') s)
    (n : Nat) (h : I n s) :
    codeAny (model prog w) A (.compLoop (.ListComp elt [⟨t0, i0, ifs0, 0⟩, ⟨t1, i1, ifs1, 0⟩, ⟨t2, i2, ifs2, 0⟩] scope pos) 2 it acc env) R s := by
  refine codeAny_loop rfl I (fun n s hI => ?_) n h
  show wpAny _ A ((compTurn (.ListComp elt [⟨t0, i0, ifs0, 0⟩, ⟨t1, i1, ifs1, 0⟩, ⟨t2, i2, ifs2, 0⟩] scope pos) 2 it acc env).onRaise (fun x => do noteFrame x env; theTreesLotGoes x)) _ _ s
  refine wpAny_noted ?_
  rw [compTurn3_2]
  refine wpAny_bind (wpAny_standAt (wpAny_bind (wpAny_mono (turn n s hI) (fun r s₁ h₁ => ?_) fun _ _ h' => h')))
  cases r with
  | none => exact wpAny_pure h₁
  | some v =>
    refine wpAny_bind (wpAny_mono h₁ (fun _ s₁' h₁' => ?_) fun _ _ h' => h')
    refine wpAny_bind (wpAny_mono h₁' (fun _ s₂ h₂ => wpAny_bind (wpAny_mono h₂ (fun ok s₃ h₃ => ?_) fun _ _ h' => h')) fun _ _ h' => h')
    cases ok with
    | false => exact wpAny_pure ⟨rfl, h₃⟩
    | true =>
      exact wpAny_bind (wpAny_bind (wpAny_mono h₃ (fun x s₄ h₄ => wpAny_bind (wpAny_mono h₄ (fun _ s₅ h₅ => wpAny_pure (wpAny_pure ⟨rfl, h₅⟩)) fun _ _ h' => h')) fun _ _ h' => h'))

theorem compStart3_1 (h0 : codeAny (model prog w) A (.compLoop (.ListComp elt [⟨t0, i0, ifs0, 0⟩, ⟨t1, i1, ifs1, 0⟩, ⟨t2, i2, ifs2, 0⟩] scope pos) 1 it acc env) R s)
    (h : wpAny (model prog w) A (pyIter it) (fun it' s' => codeAny (model prog w) A (.compLoop (.ListComp elt [⟨t0, i0, ifs0, 0⟩, ⟨t1, i1, ifs1, 0⟩, ⟨t2, i2, ifs2, 0⟩] scope pos) 1 it' acc env) R s')
      (notedBy (model prog w) A env fun x s' => R (.error x) s') s) :
    codeAny (model prog w) A (.compStart (.ListComp elt [⟨t0, i0, ifs0, 0⟩, ⟨t1, i1, ifs1, 0⟩, ⟨t2, i2, ifs2, 0⟩] scope pos) 1 it acc env) R s := by
  refine codeAny_of_tree ?_
  show wpAny _ _ ((compStart (.ListComp elt [⟨t0, i0, ifs0, 0⟩, ⟨t1, i1, ifs1, 0⟩, ⟨t2, i2, ifs2, 0⟩] scope pos) 1 it acc env).onRaise (fun x => do noteFrame x env; standAt theWindowsPlace)) _ _ s
  refine wpAny_notedAt ?_
  unfold compStart
  show wpAny _ _ (ask >>= _) _ _ s
  refine wpAny_bind (wpAny_askSetting (wpAny_ite ?_))
  split
  · first
      | exact wpAny_bind (wpAny_pure (wpAny_pure (And.intro rfl h0)))
      | exact wpAny_pure (And.intro rfl h0)
  · first
      | exact wpAny_bind (wpAny_rule (wpAny_bind (wpAny_standAt (wpAny_bind (wpAny_mono h (fun it' s' h' => wpAny_pure (And.intro rfl h')) fun _ _ x => x)))))
      | (refine wpAny_bind (wpAny_rule ?_); show wpAny _ _ (standAt i1.pos >>= _) _ _ s; exact wpAny_bind (wpAny_standAt (wpAny_bind (wpAny_mono h (fun it' s' h' => wpAny_pure (And.intro rfl h')) fun _ _ x => x))))

theorem compStart3_2 (h0 : codeAny (model prog w) A (.compLoop (.ListComp elt [⟨t0, i0, ifs0, 0⟩, ⟨t1, i1, ifs1, 0⟩, ⟨t2, i2, ifs2, 0⟩] scope pos) 2 it acc env) R s)
    (h : wpAny (model prog w) A (pyIter it) (fun it' s' => codeAny (model prog w) A (.compLoop (.ListComp elt [⟨t0, i0, ifs0, 0⟩, ⟨t1, i1, ifs1, 0⟩, ⟨t2, i2, ifs2, 0⟩] scope pos) 2 it' acc env) R s')
      (notedBy (model prog w) A env fun x s' => R (.error x) s') s) :
    codeAny (model prog w) A (.compStart (.ListComp elt [⟨t0, i0, ifs0, 0⟩, ⟨t1, i1, ifs1, 0⟩, ⟨t2, i2, ifs2, 0⟩] scope pos) 2 it acc env) R s := by
  refine codeAny_of_tree ?_
  show wpAny _ _ ((compStart (.ListComp elt [⟨t0, i0, ifs0, 0⟩, ⟨t1, i1, ifs1, 0⟩, ⟨t2, i2, ifs2, 0⟩] scope pos) 2 it acc env).onRaise (fun x => do noteFrame x env; standAt theWindowsPlace)) _ _ s
  refine wpAny_notedAt ?_
  unfold compStart
  show wpAny _ _ (ask >>= _) _ _ s
  refine wpAny_bind (wpAny_askSetting (wpAny_ite ?_))
  split
  · first
      | exact wpAny_bind (wpAny_pure (wpAny_pure (And.intro rfl h0)))
      | exact wpAny_pure (And.intro rfl h0)
  · first
      | exact wpAny_bind (wpAny_rule (wpAny_bind (wpAny_standAt (wpAny_bind (wpAny_mono h (fun it' s' h' => wpAny_pure (And.intro rfl h')) fun _ _ x => x)))))
      | (refine wpAny_bind (wpAny_rule ?_); show wpAny _ _ (standAt i2.pos >>= _) _ _ s; exact wpAny_bind (wpAny_standAt (wpAny_bind (wpAny_mono h (fun it' s' h' => wpAny_pure (And.intro rfl h')) fun _ _ x => x))))

end

end DL

end

section
namespace DL
open PySem PySem.Spec PyProof.Rows L2

section
variable {X : Cx}
/-- three fors: the innermost loop ends in the middle one's next turn, that one's in the first one's. vs1: what the second and third for bind, vs2: what the third one does -/
def tIn3 (J2 : It) (g2 : TG) (tt2 : TT) (te : TE) (vs2 : List Nat) (D : Addr) (σ3 : L2.St) (Nx1 : Hp → Prop) (H7 : Hp) : Prop := ∃ W2 : Nat → Nat → Hp → Prop, (∃ m, W2 0 m H7) ∧ ∀ j k H, W2 j k H →
  (J2.stop j H ∧ Nx1 H) ∨ (J2.go j H ∧ ∃ Nx2 : Hp → Prop, (∀ H', Nx2 H' → ∃ k', k' < k ∧ W2 (j + 1) k' H') ∧ ∀ x H', J2.yld j H x H' → g2 x (wipe σ3 vs2) H' fun σ4 H8 => wipe σ4 vs2 = wipe σ3 vs2 ∧ tt2 σ4 H8 fun b H9 =>
    if b = true then te σ4 H9 fun y H10 => ∃ acc, H10 D = some (.lst acc) ∧ acc.length < sizeLine ∧ Nx2 (upd H10 D (.lst (acc ++ [y]))) else Nx2 H9)
def tMid3 (J1 : It) (g1 : TG) (tt1 : TT) (wi2 : TI) (g2 : TG) (tt2 : TT) (te : TE) (vs1 vs2 : List Nat) (D : Addr) (σ2 : L2.St) (Nx : Hp → Prop) (H4 : Hp) : Prop := ∃ W1 : Nat → Nat → Hp → Prop, (∃ m, W1 0 m H4) ∧ ∀ j k H, W1 j k H →
  (J1.stop j H ∧ Nx H) ∨ (J1.go j H ∧ ∃ Nx1 : Hp → Prop, (∀ H', Nx1 H' → ∃ k', k' < k ∧ W1 (j + 1) k' H') ∧ ∀ x H', J1.yld j H x H' → g1 x (wipe σ2 vs1) H' fun σ3 H5 => wipe σ3 vs1 = wipe σ2 vs1 ∧ tt1 σ3 H5 fun b H6 =>
    if b = true then wi2 σ3 H6 fun J2 H7 => tIn3 J2 g2 tt2 te vs2 D σ3 Nx1 H7 else Nx1 H6)
def tLc3 (wi : TI) (g : TG) (tt : TT) (wi1 : TI) (g1 : TG) (tt1 : TT) (wi2 : TI) (g2 : TG) (tt2 : TT) (te : TE) (vs vs1 vs2 : List Nat) : TE := fun σ H Q => wi σ H fun J H1 => ∀ D, H1 D = none → ∃ W : Nat → Nat → Hp → Prop, (∃ m, W 0 m (upd H1 D (.lst []))) ∧ ∀ i m H, W i m H →
  (J.stop i H ∧ Q (.ref D) H) ∨ (J.go i H ∧ ∃ Nx : Hp → Prop, (∀ H', Nx H' → ∃ m', m' < m ∧ W (i + 1) m' H') ∧ ∀ x H', J.yld i H x H' → g x (wipe σ vs) H' fun σ2 H2 => wipe σ2 vs = wipe σ vs ∧ tt σ2 H2 fun b H3 =>
    if b = true then wi1 σ2 H3 fun J1 H4 => tMid3 J1 g1 tt1 wi2 g2 tt2 te vs1 vs2 D σ2 Nx H4 else Nx H3)
theorem lc3_core {pins : List (Addr × Obj)} {s : Shared} {σ : L2.St} {H : Hp} {Q : VK} {elt tg iter tg1 iter1 tg2 iter2 : Expr} {ifs ifs1 ifs2 : List Expr} {scope : Scope} {own : List (Str × Nat)} {vs1 vs2 : List Nat} {pos pos' : Pos} {wi wi1 wi2 : TI} {g g1 g2 : TG} {tt tt1 tt2 : TT} {te : TE} {use : Option (Value → Sem Unit)} {Qf : Value → Shared → Prop}
    (hc : X.calm = true) (hN : X.N.Nodup) (I : L2.Inv X pins σ H s) (hi : PI X tg iter wi) (ok : BlkOk X.N X.env.scope scope own) (hv : ∀ i ∈ vs1, i ∈ own.map (·.2)) (hv2 : ∀ i ∈ vs2, i ∈ vs1)
    (hg : ∀ (s : Shared) (H : Hp) (C : Addr) (cl : List (Str × Addr)) (fp : List Addr), PG (X.blk s H scope (compEnvC scope cl C X.env) fp) tg g) (ht : ∀ (s : Shared) (H : Hp) (C : Addr) (cl : List (Str × Addr)) (fp : List Addr), PTs (X.blk s H scope (compEnvC scope cl C X.env) fp) ifs tt)
    (he : ∀ (s : Shared) (H : Hp) (C : Addr) (cl : List (Str × Addr)) (fp : List Addr), PE (X.blk s H scope (compEnvC scope cl C X.env) fp) elt te) (hs : ∀ x, foldedSetIterable iter X.env x = pure x)
    (hi1 : ∀ (s : Shared) (H : Hp) (C : Addr) (cl : List (Str × Addr)) (fp : List Addr), PI (X.blk s H scope (compEnvC scope cl C X.env) fp) tg1 iter1 wi1)
    (hg1 : ∀ (s : Shared) (H : Hp) (C : Addr) (cl : List (Str × Addr)) (fp : List Addr), PG (X.blk s H scope (compEnvC scope cl C X.env) fp) tg1 g1)
    (ht1 : ∀ (s : Shared) (H : Hp) (C : Addr) (cl : List (Str × Addr)) (fp : List Addr), PTs (X.blk s H scope (compEnvC scope cl C X.env) fp) ifs1 tt1)
    (ht2 : ∀ (s : Shared) (H : Hp) (C : Addr) (cl : List (Str × Addr)) (fp : List Addr), PTs (X.blk s H scope (compEnvC scope cl C X.env) fp) ifs2 tt2)
    (hi2 : ∀ (s : Shared) (H : Hp) (C : Addr) (cl : List (Str × Addr)) (fp : List Addr), PI (X.blk s H scope (compEnvC scope cl C X.env) fp) tg2 iter2 wi2)
    (hg2 : ∀ (s : Shared) (H : Hp) (C : Addr) (cl : List (Str × Addr)) (fp : List Addr), PG (X.blk s H scope (compEnvC scope cl C X.env) fp) tg2 g2)
    (hs1 : ∀ env x, foldedSetIterable iter1 env x = pure x) (hs2 : ∀ env x, foldedSetIterable iter2 env x = pure x)
    (h : tLc3 wi g tt wi1 g1 tt1 wi2 g2 tt2 te (own.map (·.2)) vs1 vs2 σ H Q)
    (hRR : ∀ D C s' m H', L2.Inv X pins σ H' s' → Q (.ref D) H' → s'.heap.Ns C m → FpOk X pins H' C → compPost (model X.prog X.w) X.A X.xe use Qf (.ref D) C (.ok .next) s') :
    wpAny (model X.prog X.w) X.A (comprehension (.ListComp elt [⟨tg, iter, ifs, 0⟩, ⟨tg1, iter1, ifs1, 0⟩, ⟨tg2, iter2, ifs2, 0⟩] scope pos) scope X.env pos' (newList []) false (eval iter X.env) use) Qf X.xe s := by
  have hfree : ∀ y ∈ scope.names, y.2 = .free → ∃ c, X.env.cells.lookup y.1 = some c := fun y hy e => by
    rcases ok.free y hy e with k | k
    · exact I.ok.has _ (.inl k)
    · exact I.ok.has _ (.inr k)
  refine wpAny_comprehension_free (use := use) rfl hs (closure_ok hfree) ok.kind (fun y hy e => by rw [ok.uniq y hy, e])
    (thn (hi.run pins s σ H _ I h) fun xv s1 hx => thn hx fun itv s2 h2 => ?_)
  obtain ⟨it, fp, tn, J, H2, e, I2, T, st2, f2, q⟩ := h2
  subst e
  refine wpAny_newObj_type (newEnv_comp ?_) (by show 0 ≤ sizeLine; decide)
  generalize hD : s2.heap.objs.size = D
  have hDn : H2 D = none := I2.hok.fresh (Nat.le_of_eq hD)
  obtain ⟨W, ⟨m0, w0⟩, turn⟩ := q D hDn
  -- the new list
  generalize hs3 : ({ s2 with heap := s2.heap.push { cls := .type "list", data := .seq ([] : List Value).toArray } } : Shared) = s3
  have I3 : L2.Inv X pins σ (upd H2 D (.lst [])) s3 := by
    rw [← hs3]
    refine I2.laid (t' := s2.toks) (fun b o e => Heap.get?_push_of_some _ e) (Nat.le_of_eq hD) ⟨Nat.zero_le _, [], 0, .nil, ?_⟩
    rw [← hD]
    exact Heap.get?_push_size _ rfl
  have h3 : s3.heap = s2.heap.push { cls := .type "list", data := .seq ([] : List Value).toArray } := by rw [← hs3]
  have sz : ∀ b ∈ fp, b < s2.heap.objs.size := fun b hb => by
    obtain ⟨o, e, _⟩ := T.obj _ _ st2 b hb
    exact Heap.lt_size e
  have f3 : ∀ b ∈ fp, FpOk X pins (upd H2 D (.lst [])) b ∧ b < s3.heap.objs.size := fun b hb => by
    have hlt := sz b hb
    refine ⟨⟨?_, (f2 b hb).2⟩, by rw [h3, Heap.size_push]; exact Nat.lt_succ_of_lt hlt⟩
    rw [upd_ne (by rw [← hD]; exact Nat.ne_of_lt hlt)]
    exact (f2 b hb).1
  have st3 : tn 0 s3.heap := T.keep _ _ _ st2 fun b _ o e => by rw [h3]; exact Heap.get?_push_of_some _ e
  have I4 := block_start I3 ok hN f3
  have pg := hg s3 (upd H2 D (.lst [])) s3.heap.objs.size (cellsFrom (s3.heap.objs.size + 1) scope.names (cloFrom X.env.cells scope.names [])) fp
  have pt := ht s3 (upd H2 D (.lst [])) s3.heap.objs.size (cellsFrom (s3.heap.objs.size + 1) scope.names (cloFrom X.env.cells scope.names [])) fp
  have pe := he s3 (upd H2 D (.lst [])) s3.heap.objs.size (cellsFrom (s3.heap.objs.size + 1) scope.names (cloFrom X.env.cells scope.names [])) fp
  have pi1 := hi1 s3 (upd H2 D (.lst [])) s3.heap.objs.size (cellsFrom (s3.heap.objs.size + 1) scope.names (cloFrom X.env.cells scope.names [])) fp
  have pi2 := hi2 s3 (upd H2 D (.lst [])) s3.heap.objs.size (cellsFrom (s3.heap.objs.size + 1) scope.names (cloFrom X.env.cells scope.names [])) fp
  have pg1 := hg1 s3 (upd H2 D (.lst [])) s3.heap.objs.size (cellsFrom (s3.heap.objs.size + 1) scope.names (cloFrom X.env.cells scope.names [])) fp
  have pg2 := hg2 s3 (upd H2 D (.lst [])) s3.heap.objs.size (cellsFrom (s3.heap.objs.size + 1) scope.names (cloFrom X.env.cells scope.names [])) fp
  have pt1 := ht1 s3 (upd H2 D (.lst [])) s3.heap.objs.size (cellsFrom (s3.heap.objs.size + 1) scope.names (cloFrom X.env.cells scope.names [])) fp
  have pt2 := ht2 s3 (upd H2 D (.lst [])) s3.heap.objs.size (cellsFrom (s3.heap.objs.size + 1) scope.names (cloFrom X.env.cells scope.names [])) fp
  show codeAny _ _ (.compStart (.ListComp elt [⟨tg, iter, ifs, 0⟩, ⟨tg1, iter1, ifs1, 0⟩, ⟨tg2, iter2, ifs2, 0⟩] scope pos) 0 (.ref it) (.ref D) (compEnvC scope (cellsFrom (s3.heap.objs.size + 1) scope.names (cloFrom X.env.cells scope.names [])) s3.heap.objs.size X.env)) (compPost (model X.prog X.w) X.A X.xe use Qf (.ref D) s3.heap.objs.size) { s3 with heap := pushCells (s3.heap.push { cls := .type "dict", data := .dict #[] }) scope.names }
  have nfp : ∀ b ∈ fp, (upd H2 D (.lst [])) b = none := fun b hb => (f3 b hb).1.1
  generalize hce : compEnvC scope (cellsFrom (s3.heap.objs.size + 1) scope.names (cloFrom X.env.cells scope.names [])) s3.heap.objs.size X.env = ce at I4 pg pt pe pi1 pg1 pt1 pi2 pg2 pt2 ⊢
  have cL : ce.locals = s3.heap.objs.size := by subst hce; rfl
  generalize hH3 : upd H2 D (.lst []) = H3 at I3 I4 pg pt pe pi1 pg1 pt1 pi2 pg2 pt2 w0 nfp f3
  generalize hs4 : ({ s3 with heap := pushCells (s3.heap.push { cls := .type "dict", data := .dict #[] }) scope.names } : Shared) = s4 at I4 ⊢
  have st4 : tn 0 s4.heap := T.keep _ _ _ st3 fun b _ o e => by rw [← hs4]; exact pushCells_keeps _ _ _ _ (Heap.get?_push_of_some _ e)
  have stat : ∀ {σ' : L2.St} {H' : Hp} {s' : Shared}, L2.Inv (X.blk s3 H3 scope ce fp) [] σ' H' s' → (∀ b ∈ fp, H' b = none) → ∀ b ∈ fp, FpOk (X.blk s3 H3 scope ce fp) [] H' b := fun {σ' H' s'} I' hn b hb =>
    ⟨hn b hb, (I'.ok.exf b hb).1, I'.ok.exfs b hb, .inl hb, fun x c e => (I'.ok.exf b hb).2 x c e, fun p hp => absurd (show p ∈ ([] : List (Addr × Obj)) ++ [] from hp) (by simp)⟩
  have loop : codeAny (model X.prog X.w) X.A (.compLoop (.ListComp elt [⟨tg, iter, ifs, 0⟩, ⟨tg1, iter1, ifs1, 0⟩, ⟨tg2, iter2, ifs2, 0⟩] scope pos) 0 (.ref it) (.ref D) ce) (compPost (model X.prog X.w) X.A X.xe use Qf (.ref D) s3.heap.objs.size) s4 := by
    refine compLoop3_0 (hs1 ce) (fun n s' => ∃ i H', L2.Inv (X.blk s3 H3 scope ce fp) [] (wipe σ (own.map (·.2))) H' s' ∧ tn i s'.heap ∧ (∀ b ∈ fp, H' b = none) ∧ W i n H') ?_ m0 ⟨0, H3, I4, st4, nfp, w0⟩
    rintro n s5 ⟨i, H5, I5, st5, n5, w5⟩
    rcases turn i n H5 w5 with ⟨stop, qq⟩ | ⟨go, Nx, hNx, step⟩
    · have td := T.done (X.blk s3 H3 scope ce fp) rfl rfl rfl hc i [] s5 _ H5 (fun _ _ => False) I5 (stat I5 n5) st5 stop
      refine thnF td fun r s6 ⟨hr, I6⟩ => ?_
      subst hr
      -- back in the def's context
      have I7 : L2.Inv X pins σ H5 s6 := I3.call' (ch := fp) I6.os I6.base I6.hok I6.bare fun b hb => ⟨(f3 b hb).1.2.2.2.1, (f3 b hb).1.2.1, (f3 b hb).1.2.2.2.2.1, (f3 b hb).1.2.2.2.2.2⟩
      have nC : H5 s3.heap.objs.size = none := by
        have z : H5 ce.locals = none := I6.free
        rw [cL] at z
        exact z
      obtain ⟨m, hn, _⟩ := I6.loc
      have hn : s6.heap.Ns ce.locals m := hn
      rw [cL] at hn
      exact hRR D s3.heap.objs.size s6 m H5 I7 qq hn (I3.fpOk (Nat.le_refl _) nC)
    · have ti := T.item (X.blk s3 H3 scope ce fp) rfl rfl rfl hc i [] s5 _ H5 (fun _ _ => False) I5 (stat I5 n5) st5 go
      refine thnF ti fun r s6 ⟨u, hr, h6⟩ => ?_
      subst hr
      refine thnF h6 fun _ s7 ⟨x, H7, I7, r7, y7, st7, n7⟩ => ?_
      have I7' := I7.pinned (stat I7 n7) (T.obj _ _ st7)
      refine thnF (pg.run _ s7 _ H7 x u _ I7' r7 (step x H7 y7)) fun _ s8 ⟨σ8, H8, I8, hw8, q8⟩ => ?_
      refine thnF (pt.run _ s8 σ8 H8 _ I8 q8) fun b s9 ⟨H9, I9, q9⟩ => ?_
      -- the turn's end, from any slots that know what the block knew at its start
      have fin : ∀ {σ9 : L2.St} {s' : Shared} {H' : Hp}, L2.Inv (X.blk s3 H3 scope ce fp) ([] ++ pinsAt fp s7.heap) σ9 H' s' → (wipe σ (own.map (·.2))).length = σ9.length → (∀ (j : Nat) v, (wipe σ (own.map (·.2)))[j]? = some (some v) → σ9[j]? = some (some v)) → Nx H' →
          ∃ m, m < n ∧ ∃ i H', L2.Inv (X.blk s3 H3 scope ce fp) [] (wipe σ (own.map (·.2))) H' s' ∧ tn i s'.heap ∧ (∀ b ∈ fp, H' b = none) ∧ W i m H' := fun {σ9 s' H'} I' hl hk nx => by
        obtain ⟨m', hm, w'⟩ := hNx H' nx
        have pin' : ∀ b ∈ fp, ∀ o, s7.heap.get? b = some o → s'.heap.get? b = some o ∧ H' b = none := fun b hb o e =>
          let z := I'.pin (b, o) (List.mem_append_right _ (List.mem_append_right _ (mem_pinsAt hb e)))
          ⟨z.1, z.2.1⟩
        refine ⟨m', hm, i + 1, H', (I'.unpinned (pins := [])).weak hl hk, T.keep _ _ _ st7 fun b hb o e => (pin' b hb o e).1, fun b hb => ?_, w'⟩
        obtain ⟨o, e, _⟩ := T.obj _ _ st7 b hb
        exact (pin' b hb o e).2
      have hl8 : (wipe σ (own.map (·.2))).length = σ8.length := by rw [← hw8, wipe_length]
      have hk8 : ∀ (j : Nat) v, (wipe σ (own.map (·.2)))[j]? = some (some v) → σ8[j]? = some (some v) := fun j v e => by
        rw [← hw8] at e
        exact (wipe_some e).1
      have hk9 : ∀ (j : Nat) v, (wipe σ (own.map (·.2)))[j]? = some (some v) → (wipe σ8 vs1)[j]? = some (some v) := fun j v e => by
        rw [← hw8] at e
        obtain ⟨e1, e2⟩ := wipe_some e
        rw [wipe_out fun z => e2 (hv j z)]
        exact e1
      cases b with
      | false =>
        simp only [Bool.false_eq_true, if_false] at q9 ⊢
        exact fin I9 hl8 hk8 q9
      | true =>
        simp only [if_true] at q9 ⊢
        refine thnF (pi1.run _ s9 σ8 H9 _ I9 q9) fun xv s10 hx => thnF hx fun itv s11 h11 => ?_
        obtain ⟨it1, fp1, tn1, J1, H11, e1, I11, T1, st11, f11, W1, ⟨m1, w1⟩, turn1⟩ := h11
        subst e1
        -- the inner loop
        have stat1 : ∀ {H' : Hp}, (∀ b ∈ fp1, H' b = none) → ∀ b ∈ fp1, FpOk (X.blk s3 H3 scope ce fp) ([] ++ pinsAt fp s7.heap) H' b := fun hn b hb => ⟨hn b hb, (f11 b hb).2⟩
        have loop1 : codeAny (model X.prog X.w) X.A (.compLoop (.ListComp elt [⟨tg, iter, ifs, 0⟩, ⟨tg1, iter1, ifs1, 0⟩, ⟨tg2, iter2, ifs2, 0⟩] scope pos) 1 (.ref it1) (.ref D) ce)
            (fun r s' => match r with
              | .ok _ => ∃ m, m < n ∧ ∃ i H', L2.Inv (X.blk s3 H3 scope ce fp) [] (wipe σ (own.map (·.2))) H' s' ∧ tn i s'.heap ∧ (∀ b ∈ fp, H' b = none) ∧ W i m H'
              | .error _ => False) s11 := by
          refine compLoop3_1 (hs2 ce) (fun k s' => ∃ j H', L2.Inv (X.blk s3 H3 scope ce fp) ([] ++ pinsAt fp s7.heap) (wipe σ8 vs1) H' s' ∧ tn1 j s'.heap ∧ (∀ b ∈ fp1, H' b = none) ∧ W1 j k H') ?_ m1 ⟨0, H11, I11.weak (wipe_length _ _) (fun j v e => (wipe_some e).1), st11, fun b hb => (f11 b hb).1, w1⟩
          rintro k s12 ⟨j, H12, I12, st12, n12, w12⟩
          rcases turn1 j k H12 w12 with ⟨stop1, nx1⟩ | ⟨go1, Nx1, hNx1, step1⟩
          · refine thnF (T1.done (X.blk s3 H3 scope ce fp) rfl rfl rfl hc j _ s12 (wipe σ8 vs1) H12 (fun _ _ => False) I12 (stat1 n12) st12 stop1) fun r s13 ⟨hr, I13⟩ => ?_
            subst hr
            exact fin I13 (hl8.trans (wipe_length σ8 vs1).symm) hk9 nx1
          · refine thnF (T1.item (X.blk s3 H3 scope ce fp) rfl rfl rfl hc j _ s12 (wipe σ8 vs1) H12 (fun _ _ => False) I12 (stat1 n12) st12 go1) fun r s13 ⟨u1, hr, h13⟩ => ?_
            subst hr
            refine thnF h13 fun _ s14 ⟨x1, H14, I14, r14, y14, st14, n14⟩ => ?_
            have I14' := I14.pinned (stat1 n14) (T1.obj _ _ st14)
            refine thnF (pg1.run _ s14 (wipe σ8 vs1) H14 x1 u1 _ I14' r14 (step1 x1 H14 y14)) fun _ s15 ⟨σ15, H15, I15, hw15, q15⟩ => ?_
            refine thnF (pt1.run _ s15 σ15 H15 _ I15 q15) fun b1 s16 ⟨H16, I16, q16⟩ => ?_
            have fin1 : ∀ {s' : Shared} {H' : Hp}, L2.Inv (X.blk s3 H3 scope ce fp) (([] ++ pinsAt fp s7.heap) ++ pinsAt fp1 s14.heap) σ15 H' s' → Nx1 H' → ∃ m, m < k ∧ ∃ j H', L2.Inv (X.blk s3 H3 scope ce fp) ([] ++ pinsAt fp s7.heap) (wipe σ8 vs1) H' s' ∧ tn1 j s'.heap ∧ (∀ b ∈ fp1, H' b = none) ∧ W1 j m H' := fun {s' H'} I' nx => by
              obtain ⟨m', hm, w'⟩ := hNx1 H' nx
              have pin' : ∀ b ∈ fp1, ∀ o, s14.heap.get? b = some o → s'.heap.get? b = some o ∧ H' b = none := fun b hb o e =>
                let z := I'.pin (b, o) (List.mem_append_right _ (List.mem_append_right _ (mem_pinsAt hb e)))
                ⟨z.1, z.2.1⟩
              refine ⟨m', hm, j + 1, H', I'.unpinned.weak (by rw [← hw15, wipe_length]) (fun j v e => by rw [← hw15] at e; exact (wipe_some e).1), T1.keep _ _ _ st14 fun b hb o e => (pin' b hb o e).1, fun b hb => ?_, w'⟩
              obtain ⟨o, e, _⟩ := T1.obj _ _ st14 b hb
              exact (pin' b hb o e).2
            cases b1 with
            | false =>
              simp only [Bool.false_eq_true, if_false] at q16 ⊢
              exact fin1 I16 q16
            | true =>
              simp only [if_true] at q16 ⊢
              have hkv : ∀ (j : Nat) v, (wipe σ8 vs1)[j]? = some (some v) → (wipe σ15 vs2)[j]? = some (some v) := fun j v e => by
                rw [← hw15] at e
                obtain ⟨e1, e2⟩ := wipe_some e
                rw [wipe_out fun z => e2 (hv2 j z)]
                exact e1
              have hlv : (wipe σ8 vs1).length = (wipe σ15 vs2).length := by rw [← hw15, wipe_length, wipe_length]
              refine thnF (pi2.run _ s16 σ15 H16 _ I16 q16) fun xv s20 hx => thnF hx fun itv s21 h21 => ?_
              obtain ⟨it2, fp2, tn2, J2, H21, e2, I21, T2, st21, f21, W2, ⟨m2, w2⟩, turn2⟩ := h21
              subst e2
              have stat2 : ∀ {H' : Hp}, (∀ b ∈ fp2, H' b = none) → ∀ b ∈ fp2, FpOk (X.blk s3 H3 scope ce fp) (([] ++ pinsAt fp s7.heap) ++ pinsAt fp1 s14.heap) H' b := fun hn b hb => ⟨hn b hb, (f21 b hb).2⟩
              have fin2 : ∀ {σ' : L2.St} {s' : Shared} {H' : Hp}, L2.Inv (X.blk s3 H3 scope ce fp) (([] ++ pinsAt fp s7.heap) ++ pinsAt fp1 s14.heap) σ' H' s' → (wipe σ8 vs1).length = σ'.length → (∀ (j : Nat) v, (wipe σ8 vs1)[j]? = some (some v) → σ'[j]? = some (some v)) → Nx1 H' → ∃ m, m < k ∧ ∃ j H', L2.Inv (X.blk s3 H3 scope ce fp) ([] ++ pinsAt fp s7.heap) (wipe σ8 vs1) H' s' ∧ tn1 j s'.heap ∧ (∀ b ∈ fp1, H' b = none) ∧ W1 j m H' := fun {σ' s' H'} I' hl hk nx => by
                obtain ⟨m', hm, w'⟩ := hNx1 H' nx
                have pin' : ∀ b ∈ fp1, ∀ o, s14.heap.get? b = some o → s'.heap.get? b = some o ∧ H' b = none := fun b hb o e =>
                  let z := I'.pin (b, o) (List.mem_append_right _ (List.mem_append_right _ (mem_pinsAt hb e)))
                  ⟨z.1, z.2.1⟩
                refine ⟨m', hm, j + 1, H', I'.unpinned.weak hl hk, T1.keep _ _ _ st14 fun b hb o e => (pin' b hb o e).1, fun b hb => ?_, w'⟩
                obtain ⟨o, e, _⟩ := T1.obj _ _ st14 b hb
                exact (pin' b hb o e).2
              have loop2 : codeAny (model X.prog X.w) X.A (.compLoop (.ListComp elt [⟨tg, iter, ifs, 0⟩, ⟨tg1, iter1, ifs1, 0⟩, ⟨tg2, iter2, ifs2, 0⟩] scope pos) 2 (.ref it2) (.ref D) ce)
                  (fun r s' => match r with
                    | .ok _ => ∃ m, m < k ∧ ∃ j H', L2.Inv (X.blk s3 H3 scope ce fp) ([] ++ pinsAt fp s7.heap) (wipe σ8 vs1) H' s' ∧ tn1 j s'.heap ∧ (∀ b ∈ fp1, H' b = none) ∧ W1 j m H'
                    | .error _ => False) s21 := by
                refine compLoop3_2 (fun l s' => ∃ j2 H', L2.Inv (X.blk s3 H3 scope ce fp) (([] ++ pinsAt fp s7.heap) ++ pinsAt fp1 s14.heap) (wipe σ15 vs2) H' s' ∧ tn2 j2 s'.heap ∧ (∀ b ∈ fp2, H' b = none) ∧ W2 j2 l H') ?_ m2 ⟨0, H21, I21.weak (wipe_length _ _) (fun j v e => (wipe_some e).1), st21, fun b hb => (f21 b hb).1, w2⟩
                rintro l s22 ⟨j2, H22, I22, st22, n22, w22⟩
                rcases turn2 j2 l H22 w22 with ⟨stop2, nx2⟩ | ⟨go2, Nx2, hNx2, step2⟩
                · refine thnF (T2.done (X.blk s3 H3 scope ce fp) rfl rfl rfl hc j2 _ s22 (wipe σ15 vs2) H22 (fun _ _ => False) I22 (stat2 n22) st22 stop2) fun r s23 ⟨hr, I23⟩ => ?_
                  subst hr
                  exact fin2 I23 hlv hkv nx2
                · refine thnF (T2.item (X.blk s3 H3 scope ce fp) rfl rfl rfl hc j2 _ s22 (wipe σ15 vs2) H22 (fun _ _ => False) I22 (stat2 n22) st22 go2) fun r s23 ⟨u2, hr, h23⟩ => ?_
                  subst hr
                  refine thnF h23 fun _ s24 ⟨x2, H24, I24, r24, y24, st24, n24⟩ => ?_
                  have I24' := I24.pinned (stat2 n24) (T2.obj _ _ st24)
                  refine thnF (pg2.run _ s24 (wipe σ15 vs2) H24 x2 u2 _ I24' r24 (step2 x2 H24 y24)) fun _ s25 ⟨σ25, H25, I25, hw25, q25⟩ => ?_
                  refine thnF (pt2.run _ s25 σ25 H25 _ I25 q25) fun b2 s26 ⟨H26, I26, q26⟩ => ?_
                  have fin3 : ∀ {s' : Shared} {H' : Hp}, L2.Inv (X.blk s3 H3 scope ce fp) ((([] ++ pinsAt fp s7.heap) ++ pinsAt fp1 s14.heap) ++ pinsAt fp2 s24.heap) σ25 H' s' → Nx2 H' → ∃ m, m < l ∧ ∃ j2 H', L2.Inv (X.blk s3 H3 scope ce fp) (([] ++ pinsAt fp s7.heap) ++ pinsAt fp1 s14.heap) (wipe σ15 vs2) H' s' ∧ tn2 j2 s'.heap ∧ (∀ b ∈ fp2, H' b = none) ∧ W2 j2 m H' := fun {s' H'} I' nx => by
                    obtain ⟨m', hm, w'⟩ := hNx2 H' nx
                    have pin' : ∀ b ∈ fp2, ∀ o, s24.heap.get? b = some o → s'.heap.get? b = some o ∧ H' b = none := fun b hb o e =>
                      let z := I'.pin (b, o) (List.mem_append_right _ (List.mem_append_right _ (mem_pinsAt hb e)))
                      ⟨z.1, z.2.1⟩
                    refine ⟨m', hm, j2 + 1, H', I'.unpinned.weak (by rw [← hw25, wipe_length]) (fun j v e => by rw [← hw25] at e; exact (wipe_some e).1), T2.keep _ _ _ st24 fun b hb o e => (pin' b hb o e).1, fun b hb => ?_, w'⟩
                    obtain ⟨o, e, _⟩ := T2.obj _ _ st24 b hb
                    exact (pin' b hb o e).2
                  cases b2 with
                  | false =>
                    simp only [Bool.false_eq_true, if_false] at q26 ⊢
                    exact fin3 I26 q26
                  | true =>
                    simp only [if_true] at q26 ⊢
                    refine thnF (pe.run _ s26 σ25 H26 _ I26 q26) fun z s27 ⟨yv, H27, I27, r27, acc, hD27, hz27, nx⟩ => ?_
                    exact app_ok (X := X.blk s3 H3 scope ce fp) I27 hD27 hz27 r27 fun s28 I28 => fin3 I28 nx
              exact compStart3_2 loop2 (T2.self X.A 0 _ _ _ st21 loop2)
        exact compStart3_1 loop1 (T1.self X.A 0 _ _ _ st11 loop1)
  exact codeAny_compStart_list loop (T.self X.A 0 _ _ _ st4 loop)
theorem pe_lc3 {elt tg iter tg1 iter1 tg2 iter2 : Expr} {ifs ifs1 ifs2 : List Expr} {scope : Scope} {own : List (Str × Nat)} {vs1 vs2 : List Nat} {pos : Pos} {wi wi1 wi2 : TI} {g g1 g2 : TG} {tt tt1 tt2 : TT} {te : TE} (hc : X.calm = true) (hN : X.N.Nodup) (hi : PI X tg iter wi) (ok : BlkOk X.N X.env.scope scope own) (hv : ∀ i ∈ vs1, i ∈ own.map (·.2)) (hv2 : ∀ i ∈ vs2, i ∈ vs1)
    (hg : ∀ (s : Shared) (H : Hp) (C : Addr) (cl : List (Str × Addr)) (fp : List Addr), PG (X.blk s H scope (compEnvC scope cl C X.env) fp) tg g) (ht : ∀ (s : Shared) (H : Hp) (C : Addr) (cl : List (Str × Addr)) (fp : List Addr), PTs (X.blk s H scope (compEnvC scope cl C X.env) fp) ifs tt)
    (hi1 : ∀ (s : Shared) (H : Hp) (C : Addr) (cl : List (Str × Addr)) (fp : List Addr), PI (X.blk s H scope (compEnvC scope cl C X.env) fp) tg1 iter1 wi1)
    (hg1 : ∀ (s : Shared) (H : Hp) (C : Addr) (cl : List (Str × Addr)) (fp : List Addr), PG (X.blk s H scope (compEnvC scope cl C X.env) fp) tg1 g1) (ht1 : ∀ (s : Shared) (H : Hp) (C : Addr) (cl : List (Str × Addr)) (fp : List Addr), PTs (X.blk s H scope (compEnvC scope cl C X.env) fp) ifs1 tt1)
    (hg2 : ∀ (s : Shared) (H : Hp) (C : Addr) (cl : List (Str × Addr)) (fp : List Addr), PG (X.blk s H scope (compEnvC scope cl C X.env) fp) tg2 g2) (ht2 : ∀ (s : Shared) (H : Hp) (C : Addr) (cl : List (Str × Addr)) (fp : List Addr), PTs (X.blk s H scope (compEnvC scope cl C X.env) fp) ifs2 tt2)
    (hi2 : ∀ (s : Shared) (H : Hp) (C : Addr) (cl : List (Str × Addr)) (fp : List Addr), PI (X.blk s H scope (compEnvC scope cl C X.env) fp) tg2 iter2 wi2)
    (he : ∀ (s : Shared) (H : Hp) (C : Addr) (cl : List (Str × Addr)) (fp : List Addr), PE (X.blk s H scope (compEnvC scope cl C X.env) fp) elt te) (hs : ∀ x, foldedSetIterable iter X.env x = pure x := by intro _; rfl) (hs1 : ∀ env x, foldedSetIterable iter1 env x = pure x := by intro _ _; rfl) (hs2 : ∀ env x, foldedSetIterable iter2 env x = pure x := by intro _ _; rfl) :
    PE X (.ListComp elt [⟨tg, iter, ifs, 0⟩, ⟨tg1, iter1, ifs1, 0⟩, ⟨tg2, iter2, ifs2, 0⟩] scope pos) (tLc3 wi g tt wi1 g1 tt1 wi2 g2 tt2 te (own.map (·.2)) vs1 vs2) := by
  refine ⟨fun pins s σ H Q I h => ?_⟩
  rw [eval_ListComp]
  refine lc3_core hc hN I hi ok hv hv2 hg ht he hs hi1 hg1 ht1 ht2 hi2 hg2 hs1 hs2 h fun D C s' m H' I' q hn f => ⟨m, hn, fun h'' sb => ?_⟩
  obtain ⟨f0, f1, f2, f3, f4, f5⟩ := f
  exact ⟨.ref D, H', I'.turned (t' := s'.toks) (fun b o hb e => (sb.2 b hb).trans e) f0 f1 f3 f4 f5, rfl, q⟩
end
end DL

end

section
namespace DL
open PySem PySem.Spec PyProof.Rows L2

section
variable {S : Sx} {N : List Str} {sc : Scope} {W : WX} {Γ : Gm}
/-- three fors -/
structure Lc3Ok (S : Sx) (N : List Str) (sc : Scope) (W : WX) (Γ : Gm) (elt tg iter tg1 iter1 tg2 iter2 : Expr) (ifs2 : List Expr) (scope : Scope) (own : List (Str × Nat)) (nm nm1 nm2 : Bool) (is is1 is2 vs1 vs2 : List Nat) (it it1 it2 cond el : DE) : Prop where
  nd : N.Nodup
  hi : OkC S N sc W nm tg iter (semI it (semE Γ it))
  blk : blkC N sc scope own = true
  hv : ∀ i ∈ vs1, i ∈ own.map (·.2)
  hv2 : ∀ i ∈ vs2, i ∈ vs1
  tg : OkTg (S.blk scope) N (relS scope sc) W0 nm tg is
  sub : ∀ i ∈ is, i ∈ own.map (·.2)
  hi1 : OkC (S.blk scope) N (relS scope sc) W0 nm1 tg1 iter1 (semI it1 (semE Γ it1))
  tg1 : OkTg (S.blk scope) N (relS scope sc) W0 nm1 tg1 is1
  sub1 : ∀ i ∈ is1, i ∈ vs1
  hi2 : OkC (S.blk scope) N (relS scope sc) W0 nm2 tg2 iter2 (semI it2 (semE Γ it2))
  tg2 : OkTg (S.blk scope) N (relS scope sc) W0 nm2 tg2 is2
  sub2 : ∀ i ∈ is2, i ∈ vs2
  ts2 : OkTs (S.blk scope) N (relS scope sc) ifs2 (semE Γ cond)
  el : OkE (S.blk scope) N (relS scope sc) W0 elt (semE Γ el)
  fs : ∀ env x, foldedSetIterable iter env x = pure x
  fs1 : ∀ env x, foldedSetIterable iter1 env x = pure x
  fs2 : ∀ env x, foldedSetIterable iter2 env x = pure x
theorem ok_lc3 {elt tg iter tg1 iter1 tg2 iter2 : Expr} {ifs2 : List Expr} {scope : Scope} {own : List (Str × Nat)} {nm nm1 nm2 : Bool} {is is1 is2 vs1 vs2 : List Nat} {it it1 it2 cond el : DE} {pos : Pos} (h : Lc3Ok S N sc W Γ elt tg iter tg1 iter1 tg2 iter2 ifs2 scope own nm nm1 nm2 is is1 is2 vs1 vs2 it it1 it2 cond el) :
    OkE S N sc W (.ListComp elt [⟨tg, iter, [], 0⟩, ⟨tg1, iter1, [], 0⟩, ⟨tg2, iter2, ifs2, 0⟩] scope pos) (semE Γ (.lc3 is it is1 it1 is2 it2 cond el (own.map (·.2)) vs1 vs2)) := by
  obtain ⟨wi, i1, i2⟩ := h.hi
  obtain ⟨g, g1, g2⟩ := h.tg
  obtain ⟨wi1, j1, j2⟩ := h.hi1
  obtain ⟨f, f1, f2⟩ := h.tg1
  obtain ⟨wi2, k1, k2⟩ := h.hi2
  obtain ⟨e0, e1, e2⟩ := h.tg2
  obtain ⟨tt, t1, t2⟩ := h.ts2
  obtain ⟨te, l1, l2⟩ := h.el
  refine ⟨tLc3 wi g tYes wi1 f tYes wi2 e0 tt te (own.map (·.2)) vs1 vs2, fun y gd => pe_lc3 rfl h.nd (i1 y gd) (by
    have := blkOk_by h.blk
    rw [← gd.sc] at this
    exact this) h.hv h.hv2 (fun s H C cl fp => g1 _ (gd_blk gd s H C cl fp)) (fun _ _ _ _ _ => pts_nil) (fun s H C cl fp => j1 _ (gd_blk gd s H C cl fp)) (fun s H C cl fp => f1 _ (gd_blk gd s H C cl fp)) (fun _ _ _ _ _ => pts_nil) (fun s H C cl fp => e1 _ (gd_blk gd s H C cl fp)) (fun s H C cl fp => t1 _ (gd_blk gd s H C cl fp)) (fun s H C cl fp => k1 _ (gd_blk gd s H C cl fp)) (fun s H C cl fp => l1 _ (gd_blk gd s H C cl fp)) (h.fs _) h.fs1 h.fs2, fun cs Mc M ρ σ H Q k x R X hs hk => ?_⟩
  refine i2 cs Mc M ρ σ H _ _ x R X hs fun xs chk ρ1 M1 J H1 Lv p1 itm c1 lv q1 => ?_
  obtain ⟨no, q1⟩ := q1
  intro D hD
  have nv := noOwn_of no
  refine loopC (TQ := fun v H' Nx => g v (wipe σ (own.map (·.2))) H' fun σ2 H2 => wipe σ2 (own.map (·.2)) = wipe σ (own.map (·.2)) ∧ tYes σ2 H2 fun b H3 =>
    if b = true then wi1 σ2 H3 fun J1 H4 => tMid3 J1 f tYes wi2 e0 tt te vs1 vs2 D σ2 Nx H4 else Nx H3) itm (lv_grow lv hD) (li_start p1.rel hD) c1 q1 (fun M' ρ' acc' H' vs' L' k' F q => ?_) fun cs' v d M' ρ' acc' H' vs' kk Nx L' t b hn => ?_
  · obtain ⟨P, r⟩ := li_end p1.rel hD L' k'
    exact hk _ _ _ _ _ (p1.trans P) r q
  · split at b
    · rename_i ρ3 e3
      have hv' : ∀ (j : Nat) (fr : Bool) (c : Ct), j ∈ own.map (·.2) → ρ'[j]? ≠ some (.o fr c) := fun j fr c hj e => by
        obtain ⟨c0, q0⟩ := (L'.sh j fr c e).1
        exact nv j fr c0 hj q0
      refine g2 cs' _ M' _ ρ3 _ H' v d _ (L'.rel.wipes (own.map (·.2))) t e3 fun σ2 R3 l2' s1 sh => ?_
      obtain ⟨L3, ag⟩ := L'.bind h.sub R3 s1 sh
      have hl : σ2.length = σ.length := by rw [l2', wipe_length]
      refine ⟨wipe_same hl ag, ?_⟩
      simp only [tYes, if_true]
      refine j2 cs' _ M' ρ3 σ2 H' _ _ x0 R3 xok0 b fun ys chk1 ρ4 M4 J1 H4 Lv1 p4 itm1 c4 lv4 q4 => ?_
      have L4 := L3.post p4
      have F4 := p4.fw R3
      refine loopC (TQ := fun v H' Nx1 => f v (wipe σ2 vs1) H' fun σ3 H5 => wipe σ3 vs1 = wipe σ2 vs1 ∧ tYes σ3 H5 fun b H6 =>
        if b = true then wi2 σ3 H6 fun J2 H7 => tIn3 J2 e0 tt te vs2 D σ3 Nx1 H7 else Nx1 H6) itm1 lv4 L4 c4 q4 (fun M5 ρ5 acc5 H5 vs5 L5 k5 F5 q5 => ?_) fun cs2 v2 d2 M5 ρ5 acc5 H5 vs5 kk2 Nx2 L5 t5 b5 hn5 => ?_
      · have F := F4.trans F5
        exact hn _ _ _ _ _ (L'.back L5 hv' ag hl F.rd F.fz) F q5
      · split at b5
        · rename_i ρ6 e6
          have hv5 : ∀ (j : Nat) (fr : Bool) (c : Ct), j ∈ vs1 → ρ5[j]? ≠ some (.o fr c) := fun j fr c hj e => by
            obtain ⟨c0, q0⟩ := (L5.sh j fr c e).1
            exact nv j fr c0 (h.hv j hj) q0
          refine f2 cs2 _ M5 _ ρ6 _ H5 v2 d2 _ (L5.rel.wipes vs1) t5 e6 fun σ3 R6 l6 s6 sh6 => ?_
          obtain ⟨L6, ag6⟩ := L5.bind h.sub1 R6 s6 sh6
          have hl6 : σ3.length = σ2.length := by rw [l6, wipe_length]
          refine ⟨wipe_same hl6 ag6, ?_⟩
          simp only [tYes, if_true]
          refine k2 cs2 _ M5 ρ6 σ3 H5 _ _ x0 R6 xok0 b5 fun zs chk2 ρ7 M7 J2 H7 Lv2 p7 itm2 c7 lv7 q7 => ?_
          have L7 := L6.post p7
          have F7 := p7.fw R6
          refine loopC (TQ := TurnT D e0 tt te vs2 σ3) itm2 lv7 L7 c7 q7 (fun M8 ρ8 acc8 H8 vs8 L8 k8 F8 q8 => ?_) fun cs3 v3 d3 M8 ρ8 acc8 H8 vs8 kk3 Nx3 L8 t8 b8 hn8 => ?_
          · have F := F7.trans F8
            exact hn5 _ _ _ _ _ (L5.back L8 hv5 ag6 hl6 F.rd F.fz) F q8
          · exact turn_ok (S' := S.blk scope) h.sub2 e2 t2 l2 L8 (fun j fr c hj e => by
              obtain ⟨c0, q0⟩ := (L8.sh j fr c e).1
              exact nv j fr c0 (h.hv j (h.hv2 j hj)) q0) t8 b8 hn8
        · exact b5.elim
    · exact b.elim
end
end DL

end

section
namespace DL
open PySem PySem.Spec PyProof.Rows L2

/-! ### t[::-1] -/
section
variable {prog : Program} {w : World} {A : Around} {E : Value → Shared → Prop} {s : Shared}
theorem adjust_rev (n : Nat) : Builtin.Slice.sliceAdjust none none (-1) (n : Int) = ((n : Int) - 1, -1) := rfl
theorem places_rev (n : Nat) : Builtin.Slice.slicePlaces ((n : Int) - 1) (-1) (-1) = n := by
  unfold Builtin.Slice.slicePlaces
  have h1 : ¬ ((-1 : Int) > 0) := by omega
  have h2 : (- -1 : Int) = 1 := rfl
  simp only [h1, if_false, h2, Int.ediv_one]
  split <;> omega
theorem pick_rev (xs : Array Value) : ((List.range xs.size).filterMap fun (m : Nat) => xs[(((xs.size : Int) - 1) + (m : Int) * (-1)).toNat]?).toArray = xs.toList.reverse.toArray := by
  congr 1
  have e : (List.range xs.size).filterMap (fun (m : Nat) => xs[(((xs.size : Int) - 1) + (m : Int) * (-1)).toNat]?) = (List.range xs.size).filterMap fun m => xs.toList.reverse[m]? := by
    have fc : ∀ (l : List Nat) (f g : Nat → Option Value), (∀ m ∈ l, f m = g m) → l.filterMap f = l.filterMap g := by
      intro l f g h
      induction l with
      | nil => rfl
      | cons a l ih =>
        rw [List.filterMap_cons, List.filterMap_cons, h a List.mem_cons_self, ih fun m hm => h m (List.mem_cons_of_mem _ hm)]
    refine fc _ _ _ fun m hm => ?_
    have hm := List.mem_range.mp hm
    rw [show (((xs.size : Int) - 1) + (m : Int) * (-1)).toNat = xs.size - 1 - m by omega, List.getElem?_reverse (by simpa using hm)]
    simp
  rw [e]
  have h2 := pick_run xs.toList.reverse.toArray 0 xs.size
  rw [List.filterMap_map] at h2
  have e2 : ((fun x => xs.toList.reverse.toArray[x]?) ∘ fun x => 0 + x) = fun m => xs.toList.reverse[m]? := by
    funext m
    show xs.toList.reverse.toArray[0 + m]? = _
    rw [Nat.zero_add]
    simp
  rw [e2] at h2
  rw [h2, List.drop_zero, List.take_of_length_le (by simp)]
theorem sliceApplied_rev {sl : Addr} {vl vu vs : Value} {n : Nat} {Q : Int × Int × Nat → Shared → Prop} (hs : s.heap.IsSliceOf sl vl vu vs) (pl : IsPart vl none) (pu : IsPart vu none) (ps : IsPart vs (some (-1)))
    (h : Q ((n : Int) - 1, -1, n) s) : wpAny (model prog w) A (Builtin.Slice.sliceApplied (.ref sl) (pure (n : Int))) Q E s := by
  obtain ⟨os, hos, hcs, hds⟩ := id hs
  unfold Builtin.Slice.sliceApplied Builtin.Slice.sliceFields
  refine wpAny_bind (wpAny_bind (wpAny_field hos hds (x := vl) rfl (wpAny_bind (wpAny_field hos hds (x := vu) rfl (wpAny_bind (wpAny_field hos hds (x := vs) rfl (wpAny_pure ?_)))))))
  refine wpAny_bind (HT.slicePart_ ps ?_)
  show wpAny _ _ (if ((-1 : Int) == 0) = true then _ else _) _ _ s
  rw [if_neg (by decide)]
  refine wpAny_bind (HT.slicePart_ pl (wpAny_bind (HT.slicePart_ pu (wpAny_bind (wpAny_pure ?_)))))
  show wpAny _ _ (match Builtin.Slice.sliceAdjust none none (-1) (n : Int) with | (lo, hi) => pure (lo, (-1 : Int), Builtin.Slice.slicePlaces lo hi (-1))) _ _ s
  rw [adjust_rev n]
  show wpAny _ _ (pure ((n : Int) - 1, (-1 : Int), Builtin.Slice.slicePlaces ((n : Int) - 1) (-1) (-1))) _ _ s
  rw [places_rev]
  exact wpAny_pure h
theorem getItem_tuple_rev {t sl : Addr} {items : Array Value} {vl vu vs : Value} {Q : Value → Shared → Prop} (ht : IsTup s.heap t items) (hs : s.heap.IsSliceOf sl vl vu vs) (pl : IsPart vl none) (pu : IsPart vu none) (ps : IsPart vs (some (-1)))
    (h : Q (.ref s.heap.objs.size) { s with heap := s.heap.push { cls := .type "tuple", data := .seq items.toList.reverse.toArray } })
    (hsz : items.size ≤ sizeLine) : wpAny (model prog w) A (getItem (.ref t) (.ref sl)) Q E s := by
  have htake : sizeOk (.seq items.toList.reverse.toArray) := by
    show items.toList.reverse.toArray.size ≤ sizeLine
    rw [List.size_toArray, List.length_reverse, Array.length_toList]
    exact hsz
  obtain ⟨os, hos, hcs, hds⟩ := id hs
  have hTs : s.TypeIs (.ref sl) "slice" := ⟨os, hos, hcs⟩
  unfold getItem
  try with_reducible refine wpAny_holding ?_
  first | refine wpAny_bind (wpAny_pure ?_) | skip
  refine wpAny_bind (wpAny_sequenceKey ht.typeIs (by decide) ?_)
  refine wpAny_bind (wpAny_callSpecial?_slot (name := Str.ofString "__getitem__") ht.typeIs PyProof.Rows.slot_tuple_getitem
    (wpAny_call_entry PyProof.Rows.slot_tuple_getitem ht.typeIs entry_tuple_getitem ?_ (args_tuple_getitem _ _)))
  show wpAny _ _ (Builtin.Tuple.tupleItemsOf (.ref t) >>= _) _ _ s
  refine wpAny_bind (tupleItemsOf_ ht ?_)
  refine wpAny_bind (wpAny_typeOf hTs ?_)
  rw [if_pos (by decide)]
  refine wpAny_bind (sliceApplied_rev hs pl pu ps ?_)
  have hno : ¬ ((((items.size : Int) - 1) == 0 && (-1 : Int) == 1 && items.size == items.size) = true) := by
    intro q
    rw [Bool.and_eq_true, Bool.and_eq_true] at q
    exact absurd (eq_of_beq q.1.2) (by decide)
  show wpAny _ _ (if (((items.size : Int) - 1) == 0 && (-1 : Int) == 1 && items.size == items.size) = true then _ else _) _ _ s
  rw [if_neg hno, pick_rev]
  first
    | exact wpAny_bind (m := Builtin.Tuple.tupleExact _) (wpAny_newObj_type (wpAny_pure ⟨_, rfl, wpAny_pure h⟩) htake)
    | exact wpAny_bind (m := Builtin.Tuple.tupleExact _) (wpAny_newObj_type (wpAny_bind (wpAny_pure (wpAny_pure ⟨_, rfl, wpAny_pure h⟩))) htake)
    | exact wpAny_bind (wpAny_bind (m := Builtin.Tuple.tupleExact _) (wpAny_newObj_type (wpAny_pure (wpAny_pure ⟨_, rfl, wpAny_pure h⟩)) htake))
    | exact wpAny_bind (wpAny_bind (m := Builtin.Tuple.tupleExact _) (wpAny_newObj_type (wpAny_pure ⟨_, rfl, wpAny_pure h⟩) htake))
end
theorem Vals.rev {xs : List V} {us : List Value} (r : Vals xs us) : Vals xs.reverse us.reverse := L2.Vals.reverse r
theorem RDs.rev {K : PySem.W.Frag} {M : AS} {H : Hp} : ∀ {xs : List V} {ds : List D}, RDs K M H xs ds → RDs K M H xs.reverse ds.reverse
  | [], _, h => by
    cases h
    exact .nil
  | x :: xs, _, h => by
    cases h with
    | cons h t =>
      rw [List.reverse_cons, List.reverse_cons]
      exact (RDs.rev t).append (.cons h .nil)
theorem pe_rev {X : Cx} {e : Expr} {te : TE} {k : Nat} {p1 p2 p3 pos : Pos} (he : PE X e te) : PE X (.Subscript e (.Slice none none (some (.UnaryOp .USub (.Constant (.int 1) k p1) p2)) p3) pos) (tUn (rD1 X.K sRev) te) := by
  refine ⟨fun pins s σ H Q I h => ?_⟩
  refine Subscript_ (thn (he.run pins s σ H _ I h) fun v s1 ⟨x, H1, I1, r1, q1⟩ => ?_)
  obtain ⟨M, d, kk, mx, hx, hk, hq⟩ := q1
  have hst : PO X (some (.UnaryOp .USub (.Constant (.int 1) k p1) p2)) (tPart (tUn (rU fun i => .int (-i)) (tC (.int 1)))) := po_some (pe_un un_neg pe_int)
  refine wpAny_Slice (thn (po_none.run pins s1 σ H1 (fun o H2 => o = none ∧ H2 = H1) I1 ⟨rfl, rfl⟩) fun vl s2 ⟨l, H2, I2, pl, el, e2⟩ => ?_)
  subst el e2
  refine thn (po_none.run pins s2 σ H2 (fun o H3 => o = none ∧ H3 = H2) I2 ⟨rfl, rfl⟩) fun vu s3 ⟨u, H3, I3, pu, eu, e3⟩ => ?_
  subst eu e3
  refine thn (hst.run pins s3 σ H3 (fun o H4 => o = some (-1) ∧ H4 = H3) I3 ⟨1, rfl, -1, rfl, rfl, rfl⟩) fun vs s4 ⟨o, H4, I4, ps, eo, e4⟩ => ?_
  subst eo e4
  have I5 : Inv X pins σ H4 { s4 with heap := s4.heap.push { cls := .type "slice", data := .fields #[vl, vu, vs] } } := I4.kept (t' := s4.toks) fun b ob q => Heap.get?_push_of_some _ q
  show wpAny (model X.prog X.w) X.A (subscriptTail e (.Slice none none (some (.UnaryOp .USub (.Constant (.int 1) k p1) p2)) p3) v (.ref s4.heap.objs.size)) (EP X pins σ Q) X.xe { s4 with heap := s4.heap.push { cls := .type "slice", data := .fields #[vl, vu, vs] } }
  cases d <;> first | exact (show False from hk).elim | skip
  · obtain ⟨a, xs, rfl, ha, ra⟩ := hx.list
    cases r1
    obtain ⟨its, r, ht, hz⟩ := I5.list (SqL.of ha)
    have hlen := r.length
    refine tail_any (ops := [.ref a, .ref s4.heap.objs.size]) ht.isList.typeIs (PySem.slot_list_getitem.lookup) ?_ (by with_unfolding_all rfl)
    refine wpAny_getItem_list_slice ht.isList (Heap.IsSliceOf.new _ vl vu vs) pl pu ps (by decide) ?_ (by rw [List.size_toArray]; omega)
    rw [PySem.W.krv_pick]
    have hp : H4 s4.heap.objs.size.succ = none ∨ True := .inr trivial
    refine ⟨.ref _, _, I5.laid (t' := s4.toks) (o := .lst xs.reverse) (fun b ob q => Heap.get?_push_of_some _ q) (Nat.le_refl _) ?_, rfl, hq _ _ _ (kf (I5.hok.fresh (Nat.le_refl _))) (RD.newL mx (RDs.rev ra) (I5.hok.fresh (Nat.le_refl _))) hk⟩
    exact ⟨by rw [List.length_reverse]; exact hz, _, 0, r.reverse, Heap.get?_push_size _ rfl⟩
  · obtain ⟨a, xs, rfl, ha, ra⟩ := hx.tupF
    cases r1
    obtain ⟨its, r, ht, hz⟩ := I5.tuple ha.sqT
    have hlen := r.length
    refine tail_any (ops := [.ref a, .ref s4.heap.objs.size]) ht.typeIs (PyProof.Rows.slot_tuple_getitem.lookup) ?_ (by with_unfolding_all rfl)
    refine getItem_tuple_rev ht (Heap.IsSliceOf.new _ vl vu vs) pl pu ps ?_ (by rw [List.size_toArray]; omega)
    have q2 : NewT H4 Q xs.reverse := fun p o ho hp => hq _ _ _ (kf hp) (RD.newT (RDs.rev ra) hp ho) hk
    exact q2.ep (tk := s4.toks) I5 (by rw [List.length_reverse]; exact hz) r.reverse
theorem ok_rev {S : Sx} {N : List Str} {sc : Scope} {W : WX} {Γ : Gm} {e : Expr} {a : DE} {k : Nat} {p1 p2 p3 pos : Pos} (ha : OkO S N sc W e (semO a (semE Γ a))) :
    OkE S N sc W (.Subscript e (.Slice none none (some (.UnaryOp .USub (.Constant (.int 1) k p1) p2)) p3) pos) (semE Γ (.op1 .rev a)) :=
  ok_op1 ha fun y ta g h => pe_rev h
end DL

end

section
namespace DL
open PySem PySem.Spec PyProof.Rows L2

/-! ### the text against the data language -/
structure CE where
  N : List Str
  sc : Scope
  fn : Str → Bool
  fns : List (Str × Nat)
  frs : List Str
  fre : List Str
  cst : List (Str × D)
  xcs : List Str
  hds : List Str
structure COk (c : CE) (S : Sx) (Γ : Gm) : Prop where
  nd : c.N.Nodup
  fns : ∀ q ∈ c.fns, FnReg S Γ q.1 q.2
  frs : ∀ x ∈ c.frs, Γ.fr x = true
  fre : ∀ x ∈ c.fre, S.mg x = none
  cst : ∀ q ∈ c.cst, Γ.cs q.1 = some q.2 ∧ ∃ u v, S.mg q.1 = some u ∧ RelV v u ∧ ∀ M H, RD S.K M H v q.2
  fn : S.fn = c.fn
  xcs : ∀ x ∈ c.xcs, XReg S x
  hds : ∀ x ∈ c.hds, ∃ v, (S.mg x = some v ∨ (S.mg x = none ∧ bootBuiltins x = some v ∧ x ≠ "__name__")) ∧ ∀ e ∈ Γ.xs, ∀ C, S.mg e = some (.ref C) → PySem.W.exmOne S.K (.ref C) v = some (Γ.sb e x)
def dbB (x : Str) : Bool := !(x == ("__debug__" : Str)) && !(x == ("__classdict__" : Str))
theorem dbB_of {x : Str} (h : dbB x = true) : (x == ("__debug__" : Str)) = false ∧ (x == ("__classdict__" : Str)) = false := by
  obtain ⟨h1, h2⟩ := Bool.and_eq_true_iff.mp h
  exact ⟨by simpa using h1, by simpa using h2⟩
def visK : Option NameKind → Bool
  | some .local => true
  | some .cell => true
  | some .free => true
  | _ => false
theorem visK_of {sc : Scope} {x : Str} (h : visK (sc.names.lookup x) = true) : Vis sc x := by
  cases e : sc.names.lookup x with
  | none => rw [e] at h; cases h
  | some k =>
    rw [e] at h
    cases k <;> first | cases h | skip
    · exact .inl e
    · exact .inr (.inl e)
    · exact .inr (.inr e)
/-- the name of the slot i stands here -/
def nmB (c : CE) (i : Nat) : Expr → Bool
  | .Name x _ => decide (c.N[i]? = some x) && (visK (c.sc.names.lookup x) && dbB x)
  | _ => false
theorem nmB_of {c : CE} {i : Nat} {e : Expr} (h : nmB c i e = true) : ∃ x p, e = .Name x p ∧ c.N[i]? = some x ∧ Vis c.sc x ∧ (x == ("__debug__" : Str)) = false ∧ (x == ("__classdict__" : Str)) = false := by
  cases e <;> first | cases h | skip
  rename_i x p
  obtain ⟨h1, h2⟩ := Bool.and_eq_true_iff.mp h
  obtain ⟨h3, h4⟩ := Bool.and_eq_true_iff.mp h2
  exact ⟨x, p, rfl, of_decide_eq_true h1, visK_of h3, dbB_of h4⟩
def glB (c : CE) (x : Str) : Bool := decide (c.sc.names.lookup x = some .globalImplicit) && dbB x
theorem glB_of {c : CE} {x : Str} (h : glB c x = true) : c.sc.names.lookup x = some .globalImplicit ∧ (x == ("__debug__" : Str)) = false := by
  obtain ⟨h1, h2⟩ := Bool.and_eq_true_iff.mp h
  exact ⟨of_decide_eq_true h1, (dbB_of h2).1⟩
/-- the built-in thing y by its name -/
def biB (c : CE) (y x : Str) : Bool := decide (x = y) && (glB c x && (decide (x ∈ c.fre) && decide (x ≠ "__name__")))
theorem biB_of {c : CE} {S : Sx} {Γ : Gm} (ok : COk c S Γ) {y x : Str} {v : Value} (h : biB c y x = true) (hb : bootBuiltins y = some v) : x = y ∧ BiN S c.sc x v := by
  obtain ⟨h1, h2⟩ := Bool.and_eq_true_iff.mp h
  obtain ⟨h3, h4⟩ := Bool.and_eq_true_iff.mp h2
  obtain ⟨h5, h6⟩ := Bool.and_eq_true_iff.mp h4
  have e : x = y := of_decide_eq_true h1
  subst e
  obtain ⟨g1, g2⟩ := glB_of h3
  exact ⟨rfl, g1, ok.fre x (of_decide_eq_true h5), hb, of_decide_eq_true h6, g2⟩
/-- constants -/
def cB : D → Expr → Bool
  | .none, .Constant .none _ _ => true
  | .bool b, .Constant (.bool c) _ _ => b == c
  | .int i, .Constant (.int j) _ _ => decide (i = j)
  | .str x, .Constant (.str y) _ _ => decide (x = y)
  | _, _ => false
theorem cB_of {d : D} {e : Expr} (h : cB d e = true) : ∃ v, (∀ X : Cx, PE X e (tC v)) ∧ ∀ (K : PySem.W.Frag) M H, RD K M H v d := by
  unfold cB at h
  split at h
  · exact ⟨.non, fun X => pe_non, fun K M H => .non⟩
  · rw [eq_of_beq h]
    exact ⟨.bl _, fun X => pe_bl, fun K M H => .bl _⟩
  · rw [of_decide_eq_true h]
    exact ⟨.int _, fun X => pe_int, fun K M H => .int _⟩
  · rw [of_decide_eq_true h]
    exact ⟨.str _, fun X => pe_str, fun K M H => .str _⟩
  · cases h
/-! one operand -/
def k1 (c : CE) (p : P1) (ko : Expr → Bool) (e : Expr) : Bool := match p with
  | .neg => kNeg
  | .isNone => kIsN
  | .notNone => kNotN
  | .isInt => kIs "int"
  | .isBool => kIs "bool"
  | .isTup => kIs "tuple"
  | .isStr => kIs "str"
  | .isList => kIs "list"
  | .len => kBi "len"
  | .all => kBi "all"
  | .any => kBi "any"
  | .sum => kBi "sum"
  | .maxOf => kBi "max"
  | .minOf => kBi "min"
  | .sorted => kBi "sorted"
  | .sortedT => kBi "sorted"
  | .srtSet => kSet "sorted"
  | .lenSet => kSet "len"
  | .tupOf => kBi "tuple"
  | .listOf => kBi "list"
  | .intOf => kBi "int"
  | .strOf => kBi "str"
  | .rev => kRev
where
  kNeg : Bool := match e with
    | .UnaryOp .USub a _ => ko a
    | _ => false
  kIsN : Bool := match e with
    | .Compare a [.Is] [.Constant .none _ _] _ => ko a
    | _ => false
  kRev : Bool := match e with
    | .Subscript a (.Slice none none (some (.UnaryOp .USub (.Constant (.int 1) _ _) _)) _) _ => ko a
    | _ => false
  kNotN : Bool := match e with
    | .Compare a [.IsNot] [.Constant .none _ _] _ => ko a
    | _ => false
  kSet (y : Str) : Bool := match e with
    | .Call (.Name x _) [.Call (.Name z _) [a] [] _] [] _ => biB c y x && (biB c "set" z && (ko a && noStar a))
    | _ => false
  kBi (y : Str) : Bool := match e with
    | .Call (.Name x _) [a] [] _ => biB c y x && (ko a && noStar a)
    | _ => false
  kIs (t : Str) : Bool := match e with
    | .Call (.Name x _) [a, .Name xt _] [] _ => biB c "isinstance" x && (biB c t xt && (ko a && noStar a))
    | _ => false
theorem bt_len : bootBuiltins "len" = some (.builtin "len") := by decide +kernel
theorem bt_all : bootBuiltins "all" = some (.builtin "all") := by decide +kernel
theorem bt_any : bootBuiltins "any" = some (.builtin "any") := by decide +kernel
theorem bt_sum : bootBuiltins "sum" = some (.builtin "sum") := by decide +kernel
theorem bt_max : bootBuiltins "max" = some (.builtin "max") := by decide +kernel
theorem bt_min : bootBuiltins "min" = some (.builtin "min") := by decide +kernel
theorem bt_sorted : bootBuiltins "sorted" = some (.builtin "sorted") := by decide +kernel
theorem bt_set : bootBuiltins "set" = some (.type "set") := by decide +kernel
theorem bt_isinstance : bootBuiltins "isinstance" = some (.builtin "isinstance") := by decide +kernel
theorem bt_tuple : bootBuiltins "tuple" = some (.type "tuple") := by decide +kernel
theorem bt_list : bootBuiltins "list" = some (.type "list") := by decide +kernel
theorem bt_int : bootBuiltins "int" = some (.type "int") := by decide +kernel
theorem bt_bool : bootBuiltins "bool" = some (.type "bool") := by decide +kernel
theorem bt_str : bootBuiltins "str" = some (.type "str") := by decide +kernel
theorem bt_range : bootBuiltins "range" = some (.type "range") := by decide +kernel
theorem bt_zip : bootBuiltins "zip" = some (.type "zip") := by decide +kernel
theorem bt_enumerate : bootBuiltins "enumerate" = some (.type "enumerate") := by decide +kernel
theorem bt_dict : bootBuiltins "dict" = some (.type "dict") := by decide +kernel
section
variable {c : CE} {S : Sx} {Γ : Gm} {W : WX} {ko : Expr → Bool} {a : DE}
theorem kBi_bi {e : Expr} {y : Str} {id : String} {p : P1} (ok : COk c S Γ) (hb : bootBuiltins y = some (.builtin id)) (hc : ∀ yy, Gd S c.N c.sc W yy → CallR (cx S c.N yy) (.builtin id) (cD1 S.K (s1 p))) (ho : ∀ e, ko e = true → OkO S c.N c.sc W e (semO a (semE Γ a)))
    (h : k1.kBi c ko e y = true) : OkE S c.N c.sc W e (semE Γ (.op1 p a)) := by
  unfold k1.kBi at h
  split at h
  · obtain ⟨h1, h2⟩ := Bool.and_eq_true_iff.mp h
    obtain ⟨h3, h4⟩ := Bool.and_eq_true_iff.mp h2
    exact ok_bi1 (biB_of ok h1 hb).2 hc rfl (ho _ h3) (star1 h4 [])
  · cases h
theorem kBi_ty {e : Expr} {y : Str} {T : String} {p : P1} (ok : COk c S Γ) (hb : bootBuiltins y = some (.type T)) (hc : ∀ yy, Gd S c.N c.sc W yy → CallR (cx S c.N yy) (.type T) (cD1 S.K (s1 p))) (ho : ∀ e, ko e = true → OkO S c.N c.sc W e (semO a (semE Γ a)))
    (h : k1.kBi c ko e y = true) : OkE S c.N c.sc W e (semE Γ (.op1 p a)) := by
  unfold k1.kBi at h
  split at h
  · obtain ⟨h1, h2⟩ := Bool.and_eq_true_iff.mp h
    obtain ⟨h3, h4⟩ := Bool.and_eq_true_iff.mp h2
    exact ok_ty1 (biB_of ok h1 hb).2 hc rfl (ho _ h3) (star1 h4 [])
  · cases h
theorem kIs_ok {e : Expr} {y : Str} {T : String} {p : P1} (ok : COk c S Γ) (hb : bootBuiltins y = some (.type T)) (hT : T = "int" ∨ T = "bool" ∨ T = "tuple" ∨ T = "str" ∨ T = "list") (hq : s1 p = fun d k => k (.bool (isiD T d))) (ho : ∀ e, ko e = true → OkO S c.N c.sc W e (semO a (semE Γ a)))
    (h : k1.kIs c ko e y = true) : OkE S c.N c.sc W e (semE Γ (.op1 p a)) := by
  unfold k1.kIs at h
  split at h
  · obtain ⟨h1, h2⟩ := Bool.and_eq_true_iff.mp h
    obtain ⟨h3, h4⟩ := Bool.and_eq_true_iff.mp h2
    obtain ⟨h5, h6⟩ := Bool.and_eq_true_iff.mp h4
    obtain ⟨rfl, B⟩ := biB_of ok h1 bt_isinstance
    exact ok_isi B (biB_of ok h3 hb).2 hT hq (ho _ h5) (fun env => star1 h6 [_] env) fun env => star_pl (es := [.Name _ _]) rfl
  · cases h
theorem k1_ok {e : Expr} {p : P1} (ok : COk c S Γ) (ho : ∀ e, ko e = true → OkO S c.N c.sc W e (semO a (semE Γ a))) (h : k1 c p ko e = true) : OkE S c.N c.sc W e (semE Γ (.op1 p a)) := by
  cases p with
  | neg =>
    have h : k1.kNeg ko e = true := h
    unfold k1.kNeg at h
    split at h
    · exact ok_op1 (ho _ h) fun y ta g k => pe_un (u_neg g.hu rfl) k
    · cases h
  | isNone =>
    have h : k1.kIsN ko e = true := h
    unfold k1.kIsN at h
    split at h
    · exact ok_isN (ho _ h) (f := isN) rfl (fun y => pe_non) fun y ta tb g k1 k2 => pe_cmpR (o_isN g.hu rfl) k1 k2 rfl
    · cases h
  | notNone =>
    have h : k1.kNotN ko e = true := h
    unfold k1.kNotN at h
    split at h
    · exact ok_isN (ho _ h) (f := fun d => !isN d) rfl (fun y => pe_non) fun y ta tb g k1 k2 => pe_cmpR (o_notN g.hu rfl) k1 k2 rfl
    · cases h
  | isInt => exact kIs_ok ok bt_int (.inl rfl) isi_eq1 ho h
  | isBool => exact kIs_ok ok bt_bool (.inr (.inl rfl)) isi_eq2 ho h
  | isTup => exact kIs_ok ok bt_tuple (.inr (.inr (.inl rfl))) isi_eq3 ho h
  | isStr => exact kIs_ok ok bt_str (.inr (.inr (.inr (.inl rfl)))) isi_eq4 ho h
  | isList => exact kIs_ok ok bt_list (.inr (.inr (.inr (.inr rfl)))) isi_eq5 ho h
  | len => exact kBi_bi ok bt_len (fun y g => c_len g.hu rfl) ho h
  | all => exact kBi_bi ok bt_all (fun y g => c_all g.hu rfl) ho h
  | any => exact kBi_bi ok bt_any (fun y g => c_any g.hu rfl) ho h
  | sum => exact kBi_bi ok bt_sum (fun y g => c_sum g.hu rfl) ho h
  | maxOf => exact kBi_bi ok bt_max (fun y g => c_maxL g.hu rfl) ho h
  | minOf => exact kBi_bi ok bt_min (fun y g => c_minL g.hu rfl) ho h
  | sorted => exact kBi_bi ok bt_sorted (fun y g => c_sorted g.hu rfl) ho h
  | tupOf => exact kBi_ty ok bt_tuple (fun y g => c_tup g.hu rfl) ho h
  | listOf => exact kBi_ty ok bt_list (fun y g => c_list g.hu rfl) ho h
  | intOf => exact kBi_ty ok bt_int (fun y g => c_int g.hu rfl) ho h
  | strOf => exact kBi_ty ok bt_str (fun y g => c_str g.hu rfl) ho h
  | sortedT => exact kBi_bi ok bt_sorted (fun y g => c_sortT g.hu rfl) ho h
  | srtSet =>
    have h : k1.kSet c ko e "sorted" = true := h
    unfold k1.kSet at h
    split at h
    · obtain ⟨h1, h2⟩ := Bool.and_eq_true_iff.mp h
      obtain ⟨h3, h4⟩ := Bool.and_eq_true_iff.mp h2
      obtain ⟨h5, h6⟩ := Bool.and_eq_true_iff.mp h4
      exact ok_srtSet (biB_of ok h1 bt_sorted).2 (biB_of ok h3 bt_set).2 (ho _ h5) (star1 h6 [])
    · cases h
  | lenSet =>
    have h : k1.kSet c ko e "len" = true := h
    unfold k1.kSet at h
    split at h
    · obtain ⟨h1, h2⟩ := Bool.and_eq_true_iff.mp h
      obtain ⟨h3, h4⟩ := Bool.and_eq_true_iff.mp h2
      obtain ⟨h5, h6⟩ := Bool.and_eq_true_iff.mp h4
      exact ok_lenSet (biB_of ok h1 bt_len).2 (biB_of ok h3 bt_set).2 (ho _ h5) (star1 h6 [])
    · cases h
  | rev =>
    have h : k1.kRev ko e = true := h
    unfold k1.kRev at h
    split at h
    · exact ok_rev (ho _ h)
    · cases h
end
end DL

end

section
namespace DL
open PySem PySem.Spec PyProof.Rows L2

def opOf : P2 → Option Operator
  | .add => some .Add
  | .sub => some .Sub
  | .mul => some .Mult
  | .fdiv => some .FloorDiv
  | .mod => some .Mod
  | .pow => some .Pow
  | .shl => some .LShift
  | _ => none
def cmpOf : P2 → Option CmpOp
  | .eq => some .Eq
  | .ne => some .NotEq
  | .lt => some .Lt
  | .le => some .LtE
  | .gt => some .Gt
  | .ge => some .GtE
  | .inn => some .In
  | .nin => some .NotIn
  | _ => none
section
variable {c : CE} {S : Sx} {Γ : Gm} {W : WX} {N : List Str} {sc : Scope}
theorem op_ok {p : P2} {op : Operator} (h : opOf p = some op) : ∀ y, Gd S N sc W y → OpR (cx S N y) (binaryOp op) (rD S.K (s2 p)) := by
  intro y g
  cases p <;> first | cases h | skip
  · exact o_add g.hu rfl
  · exact o_sub g.hu rfl
  · exact o_mul g.hu rfl
  · exact o_fdiv g.hu rfl
  · exact o_mod g.hu rfl
  · exact o_pow g.hu rfl
  · exact o_shl g.hu rfl
theorem cmp_ok {p : P2} {op : CmpOp} (h : cmpOf p = some op) : ∀ y, Gd S N sc W y → OpR (cx S N y) (compareOp op) (rD S.K (s2 p)) := by
  intro y g
  cases p <;> first | cases h | skip
  · exact o_eq g.hu rfl
  · exact o_ne g.hu rfl
  · exact o_lt g.hu rfl
  · exact o_le g.hu rfl
  · exact o_gt g.hu rfl
  · exact o_ge g.hu rfl
  · exact o_in g.hu rfl
  · exact o_nin g.hu rfl
end
def k2 (c : CE) (p : P2) (ka kb : Expr → Bool) (e : Expr) : Bool := match p with
  | .idx => kIdx
  | .min => kBi "min"
  | .max => kBi "max"
  | .index => kMt "index"
  | .indexL => kMt "index"
  | .count => kMt "count"
  | .from => kFrom
  | .upto => kUpto
  | p => kBin p || kCmp p
where
  kBin (p : P2) : Bool := match e with
    | .BinOp a op b _ => decide (opOf p = some op) && (ka a && kb b)
    | _ => false
  kCmp (p : P2) : Bool := match e with
    | .Compare a [op] [b] _ => decide (cmpOf p = some op) && (ka a && (kb b && !behindInMarks op b))
    | _ => false
  kIdx : Bool := match e with
    | .Subscript a b _ => ka a && (kb b && plainB b)
    | _ => false
  kBi (y : Str) : Bool := match e with
    | .Call (.Name x _) [a, b] [] _ => biB c y x && (ka a && (kb b && (noStar a && noStar b)))
    | _ => false
  kMt (y : Str) : Bool := match e with
    | .Call (.Attribute a name ap) [b] [] pos => decide (name = y) && (ka a && (kb b && (noCall a && (noStar b && (ap.endLine == pos.line)))))
    | _ => false
  kFrom : Bool := match e with
    | .Subscript a (.Slice (some b) none none _) _ => ka a && kb b
    | _ => false
  kUpto : Bool := match e with
    | .Subscript a (.Slice none (some b) none _) _ => ka a && kb b
    | _ => false
section
variable {c : CE} {S : Sx} {Γ : Gm} {W : WX} {ka kb : Expr → Bool} {a b : DE}
theorem k2_ok {e : Expr} {p : P2} (ok : COk c S Γ) (ha : ∀ e, ka e = true → OkO S c.N c.sc W e (semO a (semE Γ a))) (hb : ∀ e, kb e = true → OkO S c.N c.sc W e (semO b (semE Γ b))) (h : k2 c p ka kb e = true) : OkE S c.N c.sc W e (semE Γ (.op2 p a b)) := by
  have bin : ∀ p, k2.kBin ka kb e p = true → OkE S c.N c.sc W e (semE Γ (.op2 p a b)) := fun p h => by
    unfold k2.kBin at h
    split at h
    · obtain ⟨h1, h2⟩ := Bool.and_eq_true_iff.mp h
      obtain ⟨h3, h4⟩ := Bool.and_eq_true_iff.mp h2
      exact ok_op2 (ha _ h3) (hb _ h4) fun y ta tb g z1 z2 => pe_op (op_ok (of_decide_eq_true h1) y g) z1 z2
    · cases h
  have cmp : ∀ p, k2.kCmp ka kb e p = true → OkE S c.N c.sc W e (semE Γ (.op2 p a b)) := fun p h => by
    unfold k2.kCmp at h
    split at h
    · obtain ⟨h1, h2⟩ := Bool.and_eq_true_iff.mp h
      obtain ⟨h3, h4⟩ := Bool.and_eq_true_iff.mp h2
      obtain ⟨h5, h6⟩ := Bool.and_eq_true_iff.mp h4
      exact ok_op2 (ha _ h3) (hb _ h5) fun y ta tb g z1 z2 => pe_cmpR (cmp_ok (of_decide_eq_true h1) y g) z1 z2 (by simpa using h6)
    · cases h
  have mtL : ∀ (p : P2) (y : Str) (id : String), k2.kMt ka kb e y = true → Slot "list" y id → typeOf (.builtin id) = pure (.type "method_descriptor") → (∀ yy, Gd S c.N c.sc W yy → MtR (cx S c.N yy) id (fun x xs H Q => ∃ y, xs = [y] ∧ rD S.K (s2 p) x y H Q)) →
      (∀ o, pre2 p (some o) = true → ∃ ds, o = .list ds) → pre2 p none = false → OkE S c.N c.sc W e (semE Γ (.op2 p a b)) := fun p y id h sl ty hm hp hn => by
    unfold k2.kMt at h
    split at h
    · obtain ⟨h1, h2⟩ := Bool.and_eq_true_iff.mp h
      obtain ⟨h3, h4⟩ := Bool.and_eq_true_iff.mp h2
      obtain ⟨h5, h6⟩ := Bool.and_eq_true_iff.mp h4
      obtain ⟨h7, h8⟩ := Bool.and_eq_true_iff.mp h6
      obtain ⟨h9, h10⟩ := Bool.and_eq_true_iff.mp h8
      have e1 := of_decide_eq_true h1
      subst e1
      refine ok_mt2 PySem.F.plainAttrs_list sl ty hm (fun M H v o rb q => ?_) hn (ha _ h3) (hb _ h5) (fun env => attr_base h7 _ env _) (fun env => few1 h9 _ env) h10 (fun env => star1 h9 [] env)
      obtain ⟨ds, rfl⟩ := hp o q
      obtain ⟨a, xs, rfl, z1, _⟩ := rb.list
      exact .inl ⟨rfl, xs, SqL.of z1⟩
    · cases h
  cases p with
  | idx =>
    have h : k2.kIdx ka kb e = true := h
    unfold k2.kIdx at h
    split at h
    · obtain ⟨h1, h2⟩ := Bool.and_eq_true_iff.mp h
      obtain ⟨h3, h4⟩ := Bool.and_eq_true_iff.mp h2
      exact ok_op2 (ha _ h1) (hb _ h3) fun y ta tb g z1 z2 => pe_ix (o_idx g.hu rfl) z1 z2 (plain_ix h4)
    · cases h
  | min =>
    have h : k2.kBi c ka kb e "min" = true := h
    unfold k2.kBi at h
    split at h
    · obtain ⟨h1, h2⟩ := Bool.and_eq_true_iff.mp h
      obtain ⟨h3, h4⟩ := Bool.and_eq_true_iff.mp h2
      obtain ⟨h5, h6⟩ := Bool.and_eq_true_iff.mp h4
      obtain ⟨h7, h8⟩ := Bool.and_eq_true_iff.mp h6
      exact ok_bi2 (biB_of ok h1 bt_min).2 (fun y g => c_min g.hu rfl) (ha _ h3) (hb _ h5) (fun env => star1 h7 _ env) (fun env => star1 h8 [] env) fun env => star_pl (by rw [List.all_cons, h8]; rfl)
    · cases h
  | max =>
    have h : k2.kBi c ka kb e "max" = true := h
    unfold k2.kBi at h
    split at h
    · obtain ⟨h1, h2⟩ := Bool.and_eq_true_iff.mp h
      obtain ⟨h3, h4⟩ := Bool.and_eq_true_iff.mp h2
      obtain ⟨h5, h6⟩ := Bool.and_eq_true_iff.mp h4
      obtain ⟨h7, h8⟩ := Bool.and_eq_true_iff.mp h6
      exact ok_bi2 (biB_of ok h1 bt_max).2 (fun y g => c_max g.hu rfl) (ha _ h3) (hb _ h5) (fun env => star1 h7 _ env) (fun env => star1 h8 [] env) fun env => star_pl (by rw [List.all_cons, h8]; rfl)
    · cases h
  | index =>
    have h : k2.kMt ka kb e "index" = true := h
    unfold k2.kMt at h
    split at h
    · obtain ⟨h1, h2⟩ := Bool.and_eq_true_iff.mp h
      obtain ⟨h3, h4⟩ := Bool.and_eq_true_iff.mp h2
      obtain ⟨h5, h6⟩ := Bool.and_eq_true_iff.mp h4
      obtain ⟨h7, h8⟩ := Bool.and_eq_true_iff.mp h6
      obtain ⟨h9, h10⟩ := Bool.and_eq_true_iff.mp h8
      have e1 := of_decide_eq_true h1
      subst e1
      exact ok_mtF PySem.F.slot_tuple_index PySem.F.type_tuple_index (fun y g => m_index g.hu rfl) (fun o q => by
        cases o <;> first | exact ⟨_, rfl⟩ | cases q) rfl (ha _ h3) (hb _ h5) (fun env => attr_base h7 _ env _) (fun env => few1 h9 _ env) h10 (fun env => star1 h9 [] env)
    · cases h
  | indexL => exact mtL _ "index" "list.index" h PySem.F.slot_list_index PySem.F.type_list_index (fun y g => m_indexL g.hu rfl) (fun o q => by cases o <;> first | exact ⟨_, rfl⟩ | cases q) rfl
  | count => exact mtL _ "count" "list.count" h PySem.F.slot_list_count PySem.F.type_list_count (fun y g => m_count g.hu rfl) (fun o q => by cases o <;> first | exact ⟨_, rfl⟩ | cases q) rfl
  | «from» =>
    have h : k2.kFrom ka kb e = true := h
    unfold k2.kFrom at h
    split at h
    · obtain ⟨h1, h2⟩ := Bool.and_eq_true_iff.mp h
      exact ok_from (ha _ h1) (hb _ h2)
    · cases h
  | upto =>
    have h : k2.kUpto ka kb e = true := h
    unfold k2.kUpto at h
    split at h
    · obtain ⟨h1, h2⟩ := Bool.and_eq_true_iff.mp h
      exact ok_upto (ha _ h1) (hb _ h2)
    · cases h
  | _ => exact (Bool.or_eq_true_iff.mp h).elim (bin _) (cmp _)
end
end DL

end

section
namespace DL
open PySem PySem.Spec PyProof.Rows L2

def kO (c : CE) (d : DE) (k : Expr → Bool) : Expr → Bool := match d with
  | .bv i => nmB c i
  | _ => k
def wrB (c : CE) (x : Str) (i : Nat) : Bool := decide (c.N[i]? = some x) && (decide (c.sc.names.lookup x = some .local) || (decide (c.sc.names.lookup x = some .cell) && c.fn x))
def wrsB (c : CE) : List Expr → List Nat → Bool
  | [], [] => true
  | .Name x _ :: es, i :: is => wrB c x i && wrsB c es is
  | _, _ => false
def kTg (c : CE) (t : Expr) (is : List Nat) : Bool := match t with
  | .Name x _ => match is with
    | [i] => wrB c x i
    | _ => false
  | .Tuple es _ _ => decide (2 ≤ is.length) && wrsB c es is
  | _ => false
def isNm : Expr → Bool
  | .Name .. => true
  | _ => false
def isTu : Expr → Bool
  | .Tuple .. => true
  | _ => false
def isTt : DE → Bool
  | .c (.bool true) => true
  | _ => false
def blkE (c : CE) (scope : Scope) : CE := { c with sc := relS scope c.sc, fn := fun x => scope.names.lookup x == some .cell }
def ownOf (c : CE) (vs : List Nat) : List (Str × Nat) := vs.map fun v => (c.N.getD v (Str.ofString ""), v)
theorem ownOf_snd (c : CE) (vs : List Nat) : (ownOf c vs).map (·.2) = vs := by
  unfold ownOf
  rw [List.map_map]
  exact List.map_id vs
mutual
def kE (c : CE) : DE → Expr → Bool
  | .var i, e => nmB c i e
  | .bv _, _ => false
  | .c d, e => cB d e
  | .gl x, e => match e with
    | .Name y _ => decide (x = y) && (glB c x && (c.cst.any fun q => decide (q.1 = x)))
    | _ => false
  | .op1 p a, e => k1 c p (kO c a (kE c a)) e
  | .op2 p a b, e => k2 c p (kO c a (kE c a)) (kO c b (kE c b)) e
  | .cut a lo hi, e => match e with
    | .Subscript x (.Slice (some l) (some h) none _) _ => kO c a (kE c a) x && (kE c lo l && kE c hi h)
    | _ => false
  | .and a b, e => match e with
    | .BoolOp .And (x :: y :: r) _ => kE c a x && kV c b (kE c b) .And (y :: r)
    | _ => false
  | .or a b, e => match e with
    | .BoolOp .Or (x :: y :: r) _ => kE c a x && kV c b (kE c b) .Or (y :: r)
    | _ => false
  | .not a, e => match e with
    | .UnaryOp .Not x _ => kE c a x
    | _ => false
  | .ite t a b, e => match e with
    | .IfExp x y z _ => kT c t (kE c t) x && (kE c a y && kE c b z)
    | _ => false
  | .chain p q a b d, e => match e with
    | .Compare x [o1, o2] [y, z] _ => decide (cmpOf p = some o1) && (decide (cmpOf q = some o2) && (kE c a x && (kE c b y && (kE c d z && !lastMarks [o1, o2] [y, z]))))
    | _ => false
  | .tup es, e => match e with
    | .Tuple xs _ _ => kA c es xs
    | _ => false
  | .lst es, e => match e with
    | .List xs _ => kA c es xs
    | _ => false
  | .nil, _ => false
  | .cons _ _, _ => false
  | .never, _ => true
  | .call f es dv, e => match e with
    | .Call (.Name x _) (y :: ys) [] _ => decide (x = f) && (glB c x && (decide ((x, dv) ∈ c.fns) && (kG c es (y :: ys) && (noStar y && ys.all noStar))))
    | _ => false
  | .lc tg it cond elt vs, e => match e with
    | .ListComp x [⟨t, i, ifs, 0⟩] scope _ => blkC c.N c.sc scope (ownOf c vs) && (kTg (blkE c scope) t tg && (kC c it (kI c it (kE c it)) t i && (decide (∀ i ∈ tg, i ∈ vs) && (kF (blkE c scope) cond (kT (blkE c scope) cond (kE (blkE c scope) cond)) ifs && (kE (blkE c scope) elt x && noSet i)))))
    | _ => false
  | .lc2 tg it tg1 it1 cond elt vs vs1, e => match e with
    | .ListComp x [⟨t, i, [], 0⟩, ⟨t1, i1, ifs, 0⟩] scope _ => blkC c.N c.sc scope (ownOf c vs) && (kTg (blkE c scope) t tg && (kC c it (kI c it (kE c it)) t i && (decide (∀ i ∈ tg, i ∈ vs) && (decide (∀ i ∈ vs1, i ∈ vs) && (kTg (blkE c scope) t1 tg1 && (kC (blkE c scope) it1 (kI (blkE c scope) it1 (kE (blkE c scope) it1)) t1 i1 && (decide (∀ i ∈ tg1, i ∈ vs1) &&
        (kF (blkE c scope) cond (kT (blkE c scope) cond (kE (blkE c scope) cond)) ifs && (kE (blkE c scope) elt x && (noSet i && noSet i1))))))))))
    | _ => false
  | .lc3 tg it tg1 it1 tg2 it2 cond elt vs vs1 vs2, e => match e with
    | .ListComp x [⟨t, i, [], 0⟩, ⟨t1, i1, [], 0⟩, ⟨t2, i2, ifs, 0⟩] scope _ => blkC c.N c.sc scope (ownOf c vs) && (kTg (blkE c scope) t tg && (kC c it (kI c it (kE c it)) t i && (decide (∀ i ∈ tg, i ∈ vs) && (decide (∀ i ∈ vs1, i ∈ vs) && (decide (∀ i ∈ vs2, i ∈ vs1) && (kTg (blkE c scope) t1 tg1 && (kC (blkE c scope) it1 (kI (blkE c scope) it1 (kE (blkE c scope) it1)) t1 i1 && (decide (∀ i ∈ tg1, i ∈ vs1) &&
        (kTg (blkE c scope) t2 tg2 && (kC (blkE c scope) it2 (kI (blkE c scope) it2 (kE (blkE c scope) it2)) t2 i2 && (decide (∀ i ∈ tg2, i ∈ vs2) &&
        (kF (blkE c scope) cond (kT (blkE c scope) cond (kE (blkE c scope) cond)) ifs && (kE (blkE c scope) elt x && (noSet i && (noSet i1 && noSet i2)))))))))))))))
    | _ => false
  | .rng1 _, _ => false
  | .rng2 _ _, _ => false
  | .zip _ _, _ => false
  | .enum _, _ => false
  | .rngT a, e => match e with
    | .Call (.Name x _) [.Call (.Name y _) [z] [] _] [] _ => biB c "tuple" x && (biB c "range" y && (kE c a z && noStar z))
    | _ => false
  | .rngL a, e => match e with
    | .Call (.Name x _) [.Call (.Name y _) [z] [] _] [] _ => biB c "list" x && (biB c "range" y && (kE c a z && noStar z))
    | _ => false
  | .pop i a, e => match e with
    | .Call (.Attribute x name ap) [y] [] pos => decide (name = "pop") && (nmB c i x && (kE c a y && (noStar y && (ap.endLine == pos.line))))
    | _ => false
  | .slen i, e => match e with
    | .Call (.Name x _) [y] [] _ => biB c "len" x && nmB c i y
    | _ => false
  | .sat i a, e => match e with
    | .Subscript x y _ => nmB c i x && (kE c a y && plainB y)
    | _ => false
  | .dget i a b, e => match e with
    | .Call (.Attribute x name ap) [y, z] [] pos => decide (name = "get") && (nmB c i x && (kE c a y && (kE c b z && (noStar y && (noStar z && (ap.endLine == pos.line))))))
    | _ => false
  | .bget i a b, e => match e with
    | .Call (.Attribute x name ap) [y, z] [] pos => decide (name = "get") && (nmB c i x && (kE c a y && (kE c b z && (noStar y && (noStar z && (ap.endLine == pos.line))))))
    | _ => false
  | .dat i a, e => match e with
    | .Subscript x y _ => nmB c i x && (kE c a y && plainB y)
    | _ => false
/-- a chain of and, of or -/
def kV (c : CE) : DE → (Expr → Bool) → BoolOp → List Expr → Bool
  | .and a b, k, op, es => match op, es with
    | _, [x] => k x
    | .And, x :: y :: r => kE c a x && kV c b (kE c b) .And (y :: r)
    | _, _ => false
  | .or a b, k, op, es => match op, es with
    | _, [x] => k x
    | .Or, x :: y :: r => kE c a x && kV c b (kE c b) .Or (y :: r)
    | _, _ => false
  | _, k, _, es => match es with
    | [x] => k x
    | _ => false
/-- a test -/
def kT (c : CE) : DE → (Expr → Bool) → Expr → Bool
  | .and a b, _, e => match e with
    | .BoolOp .And (x :: y :: r) _ => kT c a (kE c a) x && kW c b (kT c b (kE c b)) .And (y :: r)
    | _ => false
  | .or a b, _, e => match e with
    | .BoolOp .Or (x :: y :: r) _ => kT c a (kE c a) x && kW c b (kT c b (kE c b)) .Or (y :: r)
    | _ => false
  | .not a, _, e => match e with
    | .UnaryOp .Not x _ => kT c a (kE c a) x
    | _ => false
  | .op2 p a b, k, e => match e with
    | .Compare x [op] [y] _ => decide (cmpOf p = some op) && (kO c a (kE c a) x && (kO c b (kE c b) y && !behindInMarks op y))
    | e => k e && noCallB e
  | .op1 p a, k, e => match e with
    | .Compare x [.Is] [.Constant .none _ _] _ => decide (p = .isNone) && kO c a (kE c a) x
    | .Compare x [.IsNot] [.Constant .none _ _] _ => decide (p = .notNone) && kO c a (kE c a) x
    | e => k e && noCallB e
  | .chain p q a b d, _, e => match e with
    | .Compare x [o1, o2] [y, z] _ => decide (cmpOf p = some o1) && (decide (cmpOf q = some o2) && (kE c a x && (kE c b y && (kE c d z && !lastMarks [o1, o2] [y, z]))))
    | _ => false
  | _, k, e => k e && noCallB e
def kW (c : CE) : DE → (Expr → Bool) → BoolOp → List Expr → Bool
  | .and a b, k, op, es => match op, es with
    | _, [x] => k x
    | .And, x :: y :: r => kT c a (kE c a) x && kW c b (kT c b (kE c b)) .And (y :: r)
    | _, _ => false
  | .or a b, k, op, es => match op, es with
    | _, [x] => k x
    | .Or, x :: y :: r => kT c a (kE c a) x && kW c b (kT c b (kE c b)) .Or (y :: r)
    | _, _ => false
  | _, k, _, es => match es with
    | [x] => k x
    | _ => false
def kA (c : CE) : DE → List Expr → Bool
  | .nil, es => es.isEmpty
  | .cons a b, es => match es with
    | x :: r => noStar x && (kE c a x && kA c b r)
    | _ => false
  | _, _ => false
def kG (c : CE) : DE → List Expr → Bool
  | .nil, es => es.isEmpty
  | .cons a b, es => match es with
    | x :: r => noStar x && (kO c a (kE c a) x && kG c b r)
    | _ => false
  | _, _ => false
/-- what a loop walks -/
def kI (c : CE) : DE → (Expr → Bool) → Expr → Expr → Bool
  | .rng1 a, _, _, e => match e with
    | .Call (.Name x _) [y] [] _ => biB c "range" x && (kE c a y && noStar y)
    | _ => false
  | .rng2 a b, _, _, e => match e with
    | .Call (.Name x _) [y, z] [] _ => biB c "range" x && (kE c a y && (kE c b z && (noStar y && noStar z)))
    | _ => false
  | .zip a b, _, t, e => match e with
    | .Call (.Name x _) [y, z] [] _ => isTu t && (biB c "zip" x && (kE c a y && (kE c b z && (noStar y && noStar z))))
    | _ => false
  | .enum a, _, t, e => match e with
    | .Call (.Name x _) [y] [] _ => isTu t && (biB c "enumerate" x && (kE c a y && noStar y))
    | _ => false
  | .bv _, _, _, _ => false
  | _, k, _, e => k e
def kC (c : CE) : DE → (Expr → Expr → Bool) → Expr → Expr → Bool
  | .bv i, _, _, e => nmB c i e
  | _, k, t, e => k t e
def kF (c : CE) : DE → (Expr → Bool) → List Expr → Bool
  | d, k, [] => isTt d
  | _, k, [x] => k x
  | _, _, _ => false
end
end DL

end

section
namespace DL
open PySem PySem.Spec PyProof.Rows L2

theorem b2 {a b : Bool} (h : (a && b) = true) : a = true ∧ b = true := Bool.and_eq_true_iff.mp h
theorem cok_blk {c : CE} {S : Sx} {Γ : Gm} (ok : COk c S Γ) (scope : Scope) : COk (blkE c scope) (S.blk scope) Γ :=
  ⟨ok.nd, ok.fns, ok.frs, ok.fre, ok.cst, rfl, ok.xcs, ok.hds⟩
theorem wrB_of {c : CE} {S : Sx} {Γ : Gm} (ok : COk c S Γ) {x : Str} {i : Nat} (h : wrB c x i = true) : Wr S c.N c.sc x i := by
  obtain ⟨h1, h2⟩ := b2 h
  refine ⟨of_decide_eq_true h1, ?_⟩
  rcases Bool.or_eq_true_iff.mp h2 with h | h
  · exact .inl (of_decide_eq_true h)
  · obtain ⟨h3, h4⟩ := b2 h
    exact .inr ⟨of_decide_eq_true h3, by rw [ok.fn]; exact h4⟩
theorem wrsB_of {c : CE} {S : Sx} {Γ : Gm} (ok : COk c S Γ) : ∀ {es : List Expr} {is : List Nat}, wrsB c es is = true → Wrs S c.N c.sc es is
  | [], [], _ => .nil
  | [], _ :: _, h => by cases h
  | e :: es, [], h => by cases e <;> cases h
  | e :: es, i :: is, h => by
    cases e <;> first | cases h | skip
    obtain ⟨h1, h2⟩ := b2 h
    exact .cons (wrB_of ok h1) (wrsB_of ok h2)
theorem kTg_of {c : CE} {S : Sx} {Γ : Gm} (W : WX) (ok : COk c S Γ) {t : Expr} {is : List Nat} (h : kTg c t is = true) : OkTg S c.N c.sc W (isNm t) t is := by
  cases t <;> first | cases h | skip
  · match is, h with
    | [i], h => exact tg_name (nm := true) ok.nd (wrB_of ok h)
    | [], h => cases h
    | _ :: _ :: _, h => cases h
  · obtain ⟨h1, h2⟩ := b2 h
    exact tg_tup ok.nd (wrsB_of ok h2) (of_decide_eq_true h1)
/-- an expression keeps what it says, in every context -/
def KE (c : CE) (e : Expr) (d : DE) : Prop := ∀ (S : Sx) (Γ : Gm) (W : WX), COk c S Γ → OkE S c.N c.sc W e (semE Γ d)
def KT (c : CE) (e : Expr) (d : DE) : Prop := ∀ (S : Sx) (Γ : Gm) (W : WX), COk c S Γ → OkT S c.N c.sc W e (semE Γ d)
def KW (c : CE) (e : Expr) (d : DE) : Prop := ∀ (S : Sx) (Γ : Gm) (W : WX), COk c S Γ → ∃ tt, (∀ y, Gd S c.N c.sc W y → PW (cx S c.N y) e tt) ∧ SndT S W tt (semE Γ d)
theorem kO_of {c : CE} {d : DE} {k : Expr → Bool} {e : Expr} (hk : ∀ e, k e = true → KE c e d) (h : kO c d k e = true) (S : Sx) (Γ : Gm) (W : WX) (ok : COk c S Γ) : OkO S c.N c.sc W e (semO d (semE Γ d)) := by
  by_cases hb : ∃ i, d = .bv i
  · obtain ⟨i, rfl⟩ := hb
    obtain ⟨x, p, rfl, h1, h2, h3, h4⟩ := nmB_of (show nmB c i e = true from h)
    exact ok_bv h1 h2 h3 h4
  · have hk' : k e = true := by
      cases d <;> first | exact h | exact absurd ⟨_, rfl⟩ hb
    exact ok_opd (hk e hk' S Γ W ok) fun i q => hb ⟨i, q⟩
theorem KT.val {c : CE} {d : DE} {k : Expr → Bool} {e : Expr} (hk : ∀ e, k e = true → KE c e d) (h : (k e && noCallB e) = true) : KT c e d := fun S Γ W ok => by
  obtain ⟨h1, h2⟩ := b2 h
  exact ok_tval (hk e h1 S Γ W ok) (val_test h2)
theorem KW.of {c : CE} {d : DE} {e : Expr} {op : BoolOp} {pos : Pos} (h : KT c e d) : KW c (.BoolOp op [e] pos) d := fun S Γ W ok => by
  obtain ⟨tt, h1, h2⟩ := h S Γ W ok
  cases op with
  | And => exact ⟨tt, fun y g => pw_and1 (h1 y g), h2⟩
  | Or => exact ⟨tt, fun y g => pw_or1 (h1 y g), h2⟩
theorem kC_of {c : CE} {d : DE} {k : Expr → Expr → Bool} {t e : Expr} (h : kC c d k t e = true) (S : Sx) (Γ : Gm) (W : WX) (ok : COk c S Γ) (hk : k t e = true → OkI S c.N c.sc W (isNm t) t e (semE Γ d)) : OkC S c.N c.sc W (isNm t) t e (semI d (semE Γ d)) := by
  by_cases hb : ∃ i, d = .bv i
  · obtain ⟨i, rfl⟩ := hb
    obtain ⟨x, p, rfl, h1, h2, h3, h4⟩ := nmB_of (show nmB c i e = true from by unfold kC at h; exact h)
    exact oc_bv h1 h2 h3 h4
  · have hk' : k t e = true := by
      cases d <;> first | (unfold kC at h; exact h) | exact absurd ⟨_, rfl⟩ hb
    exact oc_of (hk hk') fun i q => hb ⟨i, q⟩
theorem kF_of {c : CE} {d : DE} {k : Expr → Bool} {ifs : List Expr} (hk : ∀ e, k e = true → KT c e d) (h : kF c d k ifs = true) (S : Sx) (Γ : Gm) (ok : COk c S Γ) : OkTs S c.N c.sc ifs (semE Γ d) := by
  unfold kF at h
  split at h
  · have e : d = .c (.bool true) := by
      unfold isTt at h
      split at h
      · rfl
      · cases h
    subst e
    exact ots_nil
  · exact ots_one (hk _ h S Γ W0 ok)
  · cases h
mutual
theorem kE_ok : ∀ (d : DE) {c : CE} {e : Expr}, kE c d e = true → KE c e d
  | .var i, c, e, h => fun S Γ W ok => by
    unfold kE at h
    obtain ⟨x, p, rfl, h1, h2, h3, h4⟩ := nmB_of h
    exact ok_var h1 h2 h3 h4
  | .bv i, c, e, h => by unfold kE at h; cases h
  | .c d, c, e, h => fun S Γ W ok => by
    unfold kE at h
    obtain ⟨v, h1, h2⟩ := cB_of h
    exact ok_c (fun y => h1 _) (h2 _)
  | .gl x, c, e, h => fun S Γ W ok => by
    unfold kE at h
    split at h
    · obtain ⟨h1, h2⟩ := b2 h
      obtain ⟨h3, h4⟩ := b2 h2
      obtain ⟨q, hq, eq⟩ := List.any_eq_true.mp h4
      have e1 := of_decide_eq_true h1
      have e2 := of_decide_eq_true eq
      subst e1 e2
      obtain ⟨g1, g2⟩ := glB_of h3
      obtain ⟨z1, u, v, z2, z3, z4⟩ := ok.cst q hq
      refine ⟨tC v, fun y g => pe_glob (gd_gl g g1) z2 z3 g2, fun cs Mc M ρ σ H Q k x R X hs hk => ?_⟩
      have hs : (match Γ.cs q.1 with
        | some d => k d ρ
        | none => False) := hs
      rw [z1] at hs
      exact hk _ ρ M v H (Post.refl R) (z4 _ _) hs
    · cases h
  | .op1 p a, c, e, h => fun S Γ W ok => by
    unfold kE at h
    exact k1_ok ok (fun e he => kO_of (fun e he => kE_ok a he) he S Γ W ok) h
  | .op2 p a b, c, e, h => fun S Γ W ok => by
    unfold kE at h
    exact k2_ok ok (fun e he => kO_of (fun e he => kE_ok a he) he S Γ W ok) (fun e he => kO_of (fun e he => kE_ok b he) he S Γ W ok) h
  | .cut a lo hi, c, e, h => fun S Γ W ok => by
    unfold kE at h
    split at h
    · obtain ⟨h1, h2⟩ := b2 h
      obtain ⟨h3, h4⟩ := b2 h2
      exact ok_cut (kO_of (fun e he => kE_ok a he) h1 S Γ W ok) (kE_ok lo h3 S Γ W ok) (kE_ok hi h4 S Γ W ok)
    · cases h
  | .and a b, c, e, h => fun S Γ W ok => by
    unfold kE at h
    split at h
    · obtain ⟨h1, h2⟩ := b2 h
      exact ok_and (kE_ok a h1 S Γ W ok) (kV_ok b (fun x hx => kE_ok b hx) h2 _ S Γ W ok)
    · cases h
  | .or a b, c, e, h => fun S Γ W ok => by
    unfold kE at h
    split at h
    · obtain ⟨h1, h2⟩ := b2 h
      exact ok_or (kE_ok a h1 S Γ W ok) (kV_ok b (fun x hx => kE_ok b hx) h2 _ S Γ W ok)
    · cases h
  | .not a, c, e, h => fun S Γ W ok => by
    unfold kE at h
    split at h
    · exact ok_not (kE_ok a h S Γ W ok)
    · cases h
  | .ite t a b, c, e, h => fun S Γ W ok => by
    unfold kE at h
    split at h
    · obtain ⟨h1, h2⟩ := b2 h
      obtain ⟨h3, h4⟩ := b2 h2
      exact ok_ite (kT_ok t (fun x hx => kE_ok t hx) h1 S Γ W ok) (kE_ok a h3 S Γ W ok) (kE_ok b h4 S Γ W ok)
    · cases h
  | .chain p q a b d, c, e, h => fun S Γ W ok => by
    unfold kE at h
    split at h
    · obtain ⟨h1, h2⟩ := b2 h
      obtain ⟨h3, h4⟩ := b2 h2
      obtain ⟨h5, h6⟩ := b2 h4
      obtain ⟨h7, h8⟩ := b2 h6
      obtain ⟨h9, h10⟩ := b2 h8
      exact ok_chain (kE_ok a h5 S Γ W ok) (kE_ok b h7 S Γ W ok) (kE_ok d h9 S Γ W ok) (cmp_ok (of_decide_eq_true h1)) (cmp_ok (of_decide_eq_true h3)) (by simpa using h10)
    · cases h
  | .tup es, c, e, h => fun S Γ W ok => by
    unfold kE at h
    split at h
    · exact ok_tup (kA_ok es h S Γ W ok)
    · cases h
  | .lst es, c, e, h => fun S Γ W ok => by
    unfold kE at h
    split at h
    · exact ok_lst (kA_ok es h S Γ W ok)
    · cases h
  | .nil, c, e, h => by unfold kE at h; cases h
  | .cons _ _, c, e, h => by unfold kE at h; cases h
  | .never, c, e, h => fun S Γ W ok => ok_never
  | .call f es dv, c, e, h => fun S Γ W ok => by
    unfold kE at h
    split at h
    · obtain ⟨h1, h2⟩ := b2 h
      obtain ⟨h3, h4⟩ := b2 h2
      obtain ⟨h5, h6⟩ := b2 h4
      obtain ⟨h7, h8⟩ := b2 h6
      obtain ⟨h9, h10⟩ := b2 h8
      have e1 := of_decide_eq_true h1
      subst e1
      obtain ⟨g1, g2⟩ := glB_of h3
      exact ok_call (ok.fns _ (of_decide_eq_true h5)) g1 g2 (kG_ok es h7 S Γ W ok) (fun env => star1 h9 _ env) fun env => star_pl h10
    · cases h
  | .lc tg it cond elt vs, c, e, h => fun S Γ W ok => by
    unfold kE at h
    split at h
    · rename_i x t i ifs scope pos
      obtain ⟨h1, h2⟩ := b2 h
      obtain ⟨h3, h4⟩ := b2 h2
      obtain ⟨h5, h6⟩ := b2 h4
      obtain ⟨h7, h8⟩ := b2 h6
      obtain ⟨h9, h10⟩ := b2 h8
      obtain ⟨h11, h12⟩ := b2 h10
      have okb := cok_blk ok scope
      have L : LcOk S c.N c.sc W Γ x t i ifs scope (ownOf c vs) (isNm t) tg it cond elt := ⟨ok.nd, kC_of h5 S Γ W ok (fun hk => kI_ok it (fun x hx => kE_ok it hx) hk S Γ W ok), h1, kTg_of W0 okb h3, by rw [ownOf_snd]; exact of_decide_eq_true h7, kF_of (fun x hx => kT_ok cond (fun x hx => kE_ok cond hx) hx) h9 _ Γ okb, kE_ok elt h11 _ Γ W0 okb, fun env x => folded_no h12 env x⟩
      have := ok_lc (pos := pos) L
      rw [ownOf_snd] at this
      exact this
    · cases h
  | .lc2 tg it tg1 it1 cond elt vs vs1, c, e, h => fun S Γ W ok => by
    unfold kE at h
    split at h
    · rename_i x t i t1 i1 ifs scope pos
      obtain ⟨h1, h2⟩ := b2 h
      obtain ⟨h3, h4⟩ := b2 h2
      obtain ⟨h5, h6⟩ := b2 h4
      obtain ⟨h7, h8⟩ := b2 h6
      obtain ⟨h9, h10⟩ := b2 h8
      obtain ⟨h11, h12⟩ := b2 h10
      obtain ⟨h13, h14⟩ := b2 h12
      obtain ⟨h15, h16⟩ := b2 h14
      obtain ⟨h17, h18⟩ := b2 h16
      obtain ⟨h19, h20⟩ := b2 h18
      obtain ⟨h21, h22⟩ := b2 h20
      have okb := cok_blk ok scope
      have L : Lc2Ok S c.N c.sc W Γ x t i t1 i1 ifs scope (ownOf c vs) (isNm t) (isNm t1) tg tg1 vs1 it it1 cond elt := ⟨ok.nd, kC_of h5 S Γ W ok (fun hk => kI_ok it (fun x hx => kE_ok it hx) hk S Γ W ok), h1, by rw [ownOf_snd]; exact of_decide_eq_true h9, kTg_of W0 okb h3, by rw [ownOf_snd]; exact of_decide_eq_true h7, kC_of h13 _ Γ W0 okb (fun hk => kI_ok it1 (fun x hx => kE_ok it1 hx) hk _ Γ W0 okb), kTg_of W0 okb h11, of_decide_eq_true h15, kF_of (fun x hx => kT_ok cond (fun x hx => kE_ok cond hx) hx) h17 _ Γ okb, kE_ok elt h19 _ Γ W0 okb, fun env x => folded_no h21 env x, fun env x => folded_no h22 env x⟩
      have := ok_lc2 (pos := pos) L
      rw [ownOf_snd] at this
      exact this
    · cases h
  | .lc3 tg it tg1 it1 tg2 it2 cond elt vs vs1 vs2, c, e, h => fun S Γ W ok => by
    unfold kE at h
    split at h
    · rename_i x t i t1 i1 t2 i2 ifs scope pos
      obtain ⟨a0, r0⟩ := b2 h
      obtain ⟨a1, r1⟩ := b2 r0
      obtain ⟨a2, r2⟩ := b2 r1
      obtain ⟨a3, r3⟩ := b2 r2
      obtain ⟨a4, r4⟩ := b2 r3
      obtain ⟨a5, r5⟩ := b2 r4
      obtain ⟨a6, r6⟩ := b2 r5
      obtain ⟨a7, r7⟩ := b2 r6
      obtain ⟨a8, r8⟩ := b2 r7
      obtain ⟨a9, r9⟩ := b2 r8
      obtain ⟨a10, r10⟩ := b2 r9
      obtain ⟨a11, r11⟩ := b2 r10
      obtain ⟨a12, r12⟩ := b2 r11
      obtain ⟨a13, r13⟩ := b2 r12
      obtain ⟨a14, r14⟩ := b2 r13
      obtain ⟨a15, a16⟩ := b2 r14
      have okb := cok_blk ok scope
      have L : Lc3Ok S c.N c.sc W Γ x t i t1 i1 t2 i2 ifs scope (ownOf c vs) (isNm t) (isNm t1) (isNm t2) tg tg1 tg2 vs1 vs2 it it1 it2 cond elt :=
        { nd := ok.nd
          hi := kC_of a2 S Γ W ok (fun hk => kI_ok it (fun x hx => kE_ok it hx) hk S Γ W ok)
          blk := a0
          hv := by rw [ownOf_snd]; exact of_decide_eq_true a4
          hv2 := of_decide_eq_true a5
          tg := kTg_of W0 okb a1
          sub := by rw [ownOf_snd]; exact of_decide_eq_true a3
          hi1 := kC_of a7 _ Γ W0 okb (fun hk => kI_ok it1 (fun x hx => kE_ok it1 hx) hk _ Γ W0 okb)
          tg1 := kTg_of W0 okb a6
          sub1 := of_decide_eq_true a8
          hi2 := kC_of a10 _ Γ W0 okb (fun hk => kI_ok it2 (fun x hx => kE_ok it2 hx) hk _ Γ W0 okb)
          tg2 := kTg_of W0 okb a9
          sub2 := of_decide_eq_true a11
          ts2 := kF_of (fun x hx => kT_ok cond (fun x hx => kE_ok cond hx) hx) a12 _ Γ okb
          el := kE_ok elt a13 _ Γ W0 okb
          fs := fun env x => folded_no a14 env x
          fs1 := fun env x => folded_no a15 env x
          fs2 := fun env x => folded_no a16 env x }
      have := ok_lc3 (pos := pos) L
      rw [ownOf_snd] at this
      exact this
    · cases h
  | .rng1 _, c, e, h => by unfold kE at h; cases h
  | .rng2 _ _, c, e, h => by unfold kE at h; cases h
  | .zip _ _, c, e, h => by unfold kE at h; cases h
  | .enum _, c, e, h => by unfold kE at h; cases h
  | .rngT a, c, e, h => fun S Γ W ok => by
    unfold kE at h
    split at h
    · obtain ⟨h1, h2⟩ := b2 h
      obtain ⟨h3, h4⟩ := b2 h2
      obtain ⟨h5, h6⟩ := b2 h4
      obtain ⟨rfl, B⟩ := biB_of ok h1 bt_tuple
      obtain ⟨rfl, B2⟩ := biB_of ok h3 bt_range
      exact ok_rngT B2 B (kE_ok a h5 S Γ W ok) (fun env => star1 h6 [] env) fun env => rfl
    · cases h
  | .rngL a, c, e, h => fun S Γ W ok => by
    unfold kE at h
    split at h
    · obtain ⟨h1, h2⟩ := b2 h
      obtain ⟨h3, h4⟩ := b2 h2
      obtain ⟨h5, h6⟩ := b2 h4
      obtain ⟨rfl, B⟩ := biB_of ok h1 bt_list
      obtain ⟨rfl, B2⟩ := biB_of ok h3 bt_range
      exact ok_rngL B2 B (kE_ok a h5 S Γ W ok) (fun env => star1 h6 [] env) fun env => rfl
    · cases h
  | .pop i a, c, e, h => fun S Γ W ok => by
    unfold kE at h
    split at h
    · obtain ⟨h1, h2⟩ := b2 h
      obtain ⟨h3, h4⟩ := b2 h2
      obtain ⟨h5, h6⟩ := b2 h4
      obtain ⟨h7, h8⟩ := b2 h6
      have e1 := of_decide_eq_true h1
      subst e1
      obtain ⟨x, p, rfl, g1, g2, g3, g4⟩ := nmB_of h3
      exact ok_pop g1 g2 g3 g4 (kE_ok a h5 S Γ W ok) (fun env => rfl) (fun env => few1 h7 _ env) h8 fun env => star1 h7 [] env
    · cases h
  | .slen i, c, e, h => fun S Γ W ok => by
    unfold kE at h
    split at h
    · obtain ⟨h1, h2⟩ := b2 h
      obtain ⟨x, p, rfl, g1, g2, g3, g4⟩ := nmB_of h2
      exact ok_slen (biB_of ok h1 bt_len).2 g1 g2 g3 g4
    · cases h
  | .sat i a, c, e, h => fun S Γ W ok => by
    unfold kE at h
    split at h
    · obtain ⟨h1, h2⟩ := b2 h
      obtain ⟨h3, h4⟩ := b2 h2
      obtain ⟨x, p, rfl, g1, g2, g3, g4⟩ := nmB_of h1
      exact ok_sat g1 g2 g3 g4 (kE_ok a h3 S Γ W ok) (plain_ix h4)
    · cases h
  | .dget i a b, c, e, h => fun S Γ W ok => by
    unfold kE at h
    split at h
    · obtain ⟨h1, h2⟩ := b2 h
      obtain ⟨h3, h4⟩ := b2 h2
      obtain ⟨h5, h6⟩ := b2 h4
      obtain ⟨h7, h8⟩ := b2 h6
      obtain ⟨h9, h10⟩ := b2 h8
      obtain ⟨h11, h12⟩ := b2 h10
      have e1 := of_decide_eq_true h1
      subst e1
      obtain ⟨x, p, rfl, g1, g2, g3, g4⟩ := nmB_of h3
      rename_i y z pos
      exact ok_dget g1 g2 g3 g4 (kE_ok a h5 S Γ W ok) (kE_ok b h7 S Γ W ok) fun yy => ⟨rfl, by rw [star1 h9, star1 h11]; rfl, h12, by rw [star1 h9, star1 h11]; rfl⟩
    · cases h
  | .bget i a b, c, e, h => fun S Γ W ok => by
    unfold kE at h
    split at h
    · obtain ⟨h1, h2⟩ := b2 h
      obtain ⟨h3, h4⟩ := b2 h2
      obtain ⟨h5, h6⟩ := b2 h4
      obtain ⟨h7, h8⟩ := b2 h6
      obtain ⟨h9, h10⟩ := b2 h8
      obtain ⟨h11, h12⟩ := b2 h10
      have e1 := of_decide_eq_true h1
      subst e1
      obtain ⟨x, p, rfl, g1, g2, g3, g4⟩ := nmB_of h3
      rename_i y z pos
      exact ok_bget g1 g2 g3 g4 (kE_ok a h5 S Γ W ok) (kE_ok b h7 S Γ W ok) fun yy => ⟨rfl, by rw [star1 h9, star1 h11]; rfl, h12, by rw [star1 h9, star1 h11]; rfl⟩
    · cases h
  | .dat i a, c, e, h => fun S Γ W ok => by
    unfold kE at h
    split at h
    · obtain ⟨h1, h2⟩ := b2 h
      obtain ⟨h3, h4⟩ := b2 h2
      obtain ⟨x, p, rfl, g1, g2, g3, g4⟩ := nmB_of h1
      exact ok_dat g1 g2 g3 g4 (kE_ok a h3 S Γ W ok) (no_sl h4)
    · cases h
theorem kV_ok : ∀ (d : DE) {c : CE} {k : Expr → Bool} {op : BoolOp} {es : List Expr}, (∀ x, k x = true → KE c x d) → kV c d k op es = true → ∀ pos, KE c (.BoolOp op es pos) d := by
  intro d c k op es hk h pos S Γ W ok
  have one : ∀ x, k x = true → OkE S c.N c.sc W (.BoolOp op [x] pos) (semE Γ d) := fun x hx => ok_one (hk x hx S Γ W ok)
  cases d
  case and a b =>
    unfold kV at h
    split at h
    · exact one _ h
    · obtain ⟨h1, h2⟩ := b2 h
      exact ok_and (kE_ok a h1 S Γ W ok) (kV_ok b (fun x hx => kE_ok b hx) h2 _ S Γ W ok)
    · cases h
  case or a b =>
    unfold kV at h
    split at h
    · exact one _ h
    · obtain ⟨h1, h2⟩ := b2 h
      exact ok_or (kE_ok a h1 S Γ W ok) (kV_ok b (fun x hx => kE_ok b hx) h2 _ S Γ W ok)
    · cases h
  all_goals
    unfold kV at h
    split at h
    · exact one _ h
    · cases h
theorem kT_ok : ∀ (d : DE) {c : CE} {k : Expr → Bool} {e : Expr}, (∀ x, k x = true → KE c x d) → kT c d k e = true → KT c e d := by
  intro d c k e hk h
  cases d
  case and a b =>
    unfold kT at h
    split at h
    · obtain ⟨h1, h2⟩ := b2 h
      intro S Γ W ok
      obtain ⟨tt, z1, z2⟩ := ok_tand (W' := W) (kT_ok a (fun x hx => kE_ok a hx) h1 S Γ W ok) (kW_ok b (fun x hx => kT_ok b (fun x hx => kE_ok b hx) hx) h2 _ S Γ W ok)
      exact ⟨tt, fun y g => (z1 y g).pt, z2⟩
    · cases h
  case or a b =>
    unfold kT at h
    split at h
    · obtain ⟨h1, h2⟩ := b2 h
      intro S Γ W ok
      obtain ⟨tt, z1, z2⟩ := ok_tor (kT_ok a (fun x hx => kE_ok a hx) h1 S Γ W ok) (kW_ok b (fun x hx => kT_ok b (fun x hx => kE_ok b hx) hx) h2 _ S Γ W ok)
      exact ⟨tt, fun y g => (z1 y g).pt, z2⟩
    · cases h
  case not a =>
    unfold kT at h
    split at h
    · exact fun S Γ W ok => ok_tnot (kT_ok a (fun x hx => kE_ok a hx) h S Γ W ok)
    · cases h
  case op2 p a b =>
    unfold kT at h
    split at h
    · obtain ⟨h1, h2⟩ := b2 h
      obtain ⟨h3, h4⟩ := b2 h2
      obtain ⟨h5, h6⟩ := b2 h4
      exact fun S Γ W ok => ok_tcmp2 (kO_of (fun e he => kE_ok a he) h3 S Γ W ok) (kO_of (fun e he => kE_ok b he) h5 S Γ W ok) (cmp_ok (of_decide_eq_true h1)) (by simpa using h6)
    · exact KT.val hk h
  case op1 p a =>
    unfold kT at h
    split at h
    · obtain ⟨h1, h2⟩ := b2 h
      have e1 := of_decide_eq_true h1
      subst e1
      exact fun S Γ W ok => ok_tcmpN (kO_of (fun e he => kE_ok a he) h2 S Γ W ok) (f := isN) rfl (fun y => pe_non) (fun y g => o_isN g.hu rfl) rfl
    · obtain ⟨h1, h2⟩ := b2 h
      have e1 := of_decide_eq_true h1
      subst e1
      exact fun S Γ W ok => ok_tcmpN (kO_of (fun e he => kE_ok a he) h2 S Γ W ok) (f := fun d => !isN d) rfl (fun y => pe_non) (fun y g => o_notN g.hu rfl) rfl
    · exact KT.val hk h
  case chain p q a b d =>
    unfold kT at h
    split at h
    · obtain ⟨h1, h2⟩ := b2 h
      obtain ⟨h3, h4⟩ := b2 h2
      obtain ⟨h5, h6⟩ := b2 h4
      obtain ⟨h7, h8⟩ := b2 h6
      obtain ⟨h9, h10⟩ := b2 h8
      exact fun S Γ W ok => ok_tchain (kE_ok a h5 S Γ W ok) (kE_ok b h7 S Γ W ok) (kE_ok d h9 S Γ W ok) (cmp_ok (of_decide_eq_true h1)) (cmp_ok (of_decide_eq_true h3)) (by simpa using h10)
    · cases h
  all_goals
    unfold kT at h
    exact KT.val hk h
theorem kW_ok : ∀ (d : DE) {c : CE} {k : Expr → Bool} {op : BoolOp} {es : List Expr}, (∀ x, k x = true → KT c x d) → kW c d k op es = true → ∀ pos, KW c (.BoolOp op es pos) d := by
  intro d c k op es hk h pos
  cases d
  case and a b =>
    unfold kW at h
    split at h
    · exact KW.of (hk _ h)
    · obtain ⟨h1, h2⟩ := b2 h
      exact fun S Γ W ok => ok_tand (W' := W) (kT_ok a (fun x hx => kE_ok a hx) h1 S Γ W ok) (kW_ok b (fun x hx => kT_ok b (fun x hx => kE_ok b hx) hx) h2 _ S Γ W ok)
    · cases h
  case or a b =>
    unfold kW at h
    split at h
    · exact KW.of (hk _ h)
    · obtain ⟨h1, h2⟩ := b2 h
      exact fun S Γ W ok => ok_tor (kT_ok a (fun x hx => kE_ok a hx) h1 S Γ W ok) (kW_ok b (fun x hx => kT_ok b (fun x hx => kE_ok b hx) hx) h2 _ S Γ W ok)
    · cases h
  all_goals
    unfold kW at h
    split at h
    · exact KW.of (hk _ h)
    · cases h
theorem kA_ok : ∀ (d : DE) {c : CE} {es : List Expr}, kA c d es = true → ∀ (S : Sx) (Γ : Gm) (W : WX), COk c S Γ → OkA S c.N c.sc W es (semA Γ d) := by
  intro d c es h S Γ W ok
  cases d
  case nil =>
    unfold kA at h
    cases es with
    | nil => exact ok_anil
    | cons x r => cases h
  case cons a b =>
    unfold kA at h
    split at h
    · obtain ⟨h1, h2⟩ := b2 h
      obtain ⟨h3, h4⟩ := b2 h2
      exact ok_acons (kE_ok a h3 S Γ W ok) (kA_ok b h4 S Γ W ok) fun env => star1 h1 _ env
    · cases h
  all_goals
    unfold kA at h
    cases h
theorem kG_ok : ∀ (d : DE) {c : CE} {es : List Expr}, kG c d es = true → ∀ (S : Sx) (Γ : Gm) (W : WX), COk c S Γ → OkG S c.N c.sc W es (semG Γ d) := by
  intro d c es h S Γ W ok
  cases d
  case nil =>
    unfold kG at h
    cases es with
    | nil => exact ok_gnil
    | cons x r => cases h
  case cons a b =>
    unfold kG at h
    split at h
    · obtain ⟨h1, h2⟩ := b2 h
      obtain ⟨h3, h4⟩ := b2 h2
      exact ok_gcons (kO_of (fun e he => kE_ok a he) h3 S Γ W ok) (kG_ok b h4 S Γ W ok) fun env => star1 h1 _ env
    · cases h
  all_goals
    unfold kG at h
    cases h
theorem kI_ok : ∀ (d : DE) {c : CE} {k : Expr → Bool} {t e : Expr}, (∀ x, k x = true → KE c x d) → kI c d k t e = true → ∀ (S : Sx) (Γ : Gm) (W : WX), COk c S Γ → OkI S c.N c.sc W (isNm t) t e (semE Γ d) := by
  intro d c k t e hk h S Γ W ok
  cases d
  case bv i => unfold kI at h; cases h
  case rng1 a =>
    unfold kI at h
    split at h
    · obtain ⟨h1, h2⟩ := b2 h
      obtain ⟨h3, h4⟩ := b2 h2
      obtain ⟨rfl, B⟩ := biB_of ok h1 bt_range
      exact oi_rng1 B (kE_ok a h3 S Γ W ok) fun env => star1 h4 [] env
    · cases h
  case rng2 a b =>
    unfold kI at h
    split at h
    · obtain ⟨h1, h2⟩ := b2 h
      obtain ⟨h3, h4⟩ := b2 h2
      obtain ⟨h5, h6⟩ := b2 h4
      obtain ⟨h7, h8⟩ := b2 h6
      obtain ⟨rfl, B⟩ := biB_of ok h1 bt_range
      exact oi_rng2 B (kE_ok a h3 S Γ W ok) (kE_ok b h5 S Γ W ok) (fun env => by rw [star1 h7, star1 h8]; rfl) fun env => star1 h8 [] env
    · cases h
  case zip a b =>
    unfold kI at h
    split at h
    · obtain ⟨h0, h⟩ := b2 h
      obtain ⟨h1, h2⟩ := b2 h
      obtain ⟨h3, h4⟩ := b2 h2
      obtain ⟨h5, h6⟩ := b2 h4
      obtain ⟨h7, h8⟩ := b2 h6
      obtain ⟨rfl, B⟩ := biB_of ok h1 bt_zip
      cases t <;> first | cases h0 | skip
      exact oi_zip B (kE_ok a h3 S Γ W ok) (kE_ok b h5 S Γ W ok) (fun env => star1 h7 _ env) (fun env => star1 h8 [] env) fun env => star_pl (by rw [List.all_cons, h8]; rfl)
    · cases h
  case enum a =>
    unfold kI at h
    split at h
    · obtain ⟨h0, h⟩ := b2 h
      obtain ⟨h1, h2⟩ := b2 h
      obtain ⟨h3, h4⟩ := b2 h2
      obtain ⟨rfl, B⟩ := biB_of ok h1 bt_enumerate
      cases t <;> first | cases h0 | skip
      exact oi_enum B (kE_ok a h3 S Γ W ok) fun env => star1 h4 [] env
    · cases h
  all_goals
    unfold kI at h
    exact oi_seq (hk _ h S Γ W ok)
end
end DL

end

section
namespace DL
open PySem PySem.Spec PyProof.Rows L2

theorem sw_name {sc : Scope} {e : Expr} {x : Str} {p : Pos} (h : (noComp e || !decide (sc.names.lookup x = some .local)) = true) (l : Nat) (env : Env) (he : env.scope = sc) : swapsWith e (some (.Name x p)) l env = pure false := by
  rcases Bool.or_eq_true_iff.mp h with h | h
  · exact sw_no h _ l env
  · have hk : (env.kindOf x == some .local) = false := by
      have h2 : ¬ sc.names.lookup x = some .local := by simpa using h
      rw [← he] at h2
      show (env.scope.names.lookup x == some .local) = false
      exact beq_eq_false_iff_ne.mpr h2
    cases e <;> first | rfl | skip
    all_goals
      unfold swapsWith
      simp only [hk, Bool.and_false, Bool.false_and]
theorem sw_tup {t : Expr} {es : List Expr} {k : Nat} {p : Pos} (e : Expr) (l : Nat) (env : Env) : swapsWithSole [.Tuple es k p] e l env = pure false := by
  cases e <;> rfl
theorem sw_sub {o i : Expr} {p : Pos} (e : Expr) (l : Nat) (env : Env) : swapsWithSole [.Subscript o i p] e l env = pure false := by
  cases e <;> rfl
theorem assign_sub {x : Str} {p p2 : Pos} {ej : Expr} (h : plainB ej = true) (env : Env) (v : Value) : assign (.Subscript (.Name x p) ej p2) env v = (do
      let ov ← holding [v] (eval (.Name x p) env)
      let iv ← holding [v, ov] (eval ej env)
      standAt p2
      holding [v, ov, iv] (setItem ov iv v)
      release [v, ov, iv] []) := by
  cases ej <;> first | rfl | cases h
theorem lc_of {c : CE} {x : Expr} {gens : List Comprehension} {scope : Scope} {pos : Pos} {tg : List Nat} {it cond elt : DE} {vs : List Nat} (h : kE c (.lc tg it cond elt vs) (.ListComp x gens scope pos) = true) (S : Sx) (Γ : Gm) (W : WX) (ok : COk c S Γ) :
    ∃ t i ifs, gens = [⟨t, i, ifs, 0⟩] ∧ LcOk S c.N c.sc W Γ x t i ifs scope (ownOf c vs) (isNm t) tg it cond elt := by
  unfold kE at h
  split at h
  · rename_i x' t i ifs scope' pos' e
    cases e
    obtain ⟨h1, h2⟩ := b2 h
    obtain ⟨h3, h4⟩ := b2 h2
    obtain ⟨h5, h6⟩ := b2 h4
    obtain ⟨h7, h8⟩ := b2 h6
    obtain ⟨h9, h10⟩ := b2 h8
    obtain ⟨h11, h12⟩ := b2 h10
    have okb := cok_blk ok scope
    exact ⟨t, i, ifs, rfl, ok.nd, kC_of h5 S Γ W ok (fun hk => kI_ok it (fun x hx => kE_ok it hx) hk S Γ W ok), h1, kTg_of W0 okb h3, by rw [ownOf_snd]; exact of_decide_eq_true h7, kF_of (fun x hx => kT_ok cond (fun x hx => kE_ok cond hx) hx) h9 _ Γ okb, kE_ok elt h11 _ Γ W0 okb, fun env x => folded_no h12 env x⟩
  · cases h
theorem lc2_of {c : CE} {x : Expr} {gens : List Comprehension} {scope : Scope} {pos : Pos} {tg tg1 : List Nat} {it it1 cond elt : DE} {vs vs1 : List Nat} (h : kE c (.lc2 tg it tg1 it1 cond elt vs vs1) (.ListComp x gens scope pos) = true) (S : Sx) (Γ : Gm) (W : WX) (ok : COk c S Γ) :
    ∃ t i t1 i1 ifs, gens = [⟨t, i, [], 0⟩, ⟨t1, i1, ifs, 0⟩] ∧ Lc2Ok S c.N c.sc W Γ x t i t1 i1 ifs scope (ownOf c vs) (isNm t) (isNm t1) tg tg1 vs1 it it1 cond elt := by
  unfold kE at h
  split at h
  · rename_i x' t i t1 i1 ifs scope' pos' e
    cases e
    obtain ⟨h1, h2⟩ := b2 h
    obtain ⟨h3, h4⟩ := b2 h2
    obtain ⟨h5, h6⟩ := b2 h4
    obtain ⟨h7, h8⟩ := b2 h6
    obtain ⟨h9, h10⟩ := b2 h8
    obtain ⟨h11, h12⟩ := b2 h10
    obtain ⟨h13, h14⟩ := b2 h12
    obtain ⟨h15, h16⟩ := b2 h14
    obtain ⟨h17, h18⟩ := b2 h16
    obtain ⟨h19, h20⟩ := b2 h18
    obtain ⟨h21, h22⟩ := b2 h20
    have okb := cok_blk ok scope
    exact ⟨t, i, t1, i1, ifs, rfl, ok.nd, kC_of h5 S Γ W ok (fun hk => kI_ok it (fun x hx => kE_ok it hx) hk S Γ W ok), h1, by rw [ownOf_snd]; exact of_decide_eq_true h9, kTg_of W0 okb h3, by rw [ownOf_snd]; exact of_decide_eq_true h7, kC_of h13 _ Γ W0 okb (fun hk => kI_ok it1 (fun x hx => kE_ok it1 hx) hk _ Γ W0 okb), kTg_of W0 okb h11, of_decide_eq_true h15, kF_of (fun x hx => kT_ok cond (fun x hx => kE_ok cond hx) hx) h17 _ Γ okb, kE_ok elt h19 _ Γ W0 okb, fun env x => folded_no h21 env x, fun env x => folded_no h22 env x⟩
  · cases h
/-! ### new lists -/
def isLst : DE → Expr → Bool
  | .lst _, _ => true
  | .rngL _, _ => true
  | .op1 .listOf _, _ => true
  | .lc _ _ _ _ _, .ListComp .. => true
  | _, _ => false
def kFr (c : CE) (d : DE) (e : Expr) : Bool := (match d with
  | .call f _ _ => decide (f ∈ c.frs)
  | d => isLst d e) && kE c d e
theorem kFr_ok {c : CE} {d : DE} {e : Expr} (h00 : kFr c d e = true) (S : Sx) (Γ : Gm) (W : WX) (ok : COk c S Γ) : OkF S c.N c.sc W e (semE Γ d) := by
  obtain ⟨h0, h⟩ := b2 h00
  clear h00
  cases d <;> first | cases h0 | skip
  case lst es =>
    unfold kE at h
    split at h
    · exact of_lst (kA_ok es h S Γ W ok)
    · cases h
  case rngL a =>
    unfold kE at h
    split at h
    · obtain ⟨h1, h2⟩ := b2 h
      obtain ⟨h3, h4⟩ := b2 h2
      obtain ⟨h5, h6⟩ := b2 h4
      obtain ⟨rfl, B⟩ := biB_of ok h1 bt_list
      obtain ⟨rfl, B2⟩ := biB_of ok h3 bt_range
      exact of_rngL B2 B (kE_ok a h5 S Γ W ok) (fun env => star1 h6 [] env) fun env => rfl
    · cases h
  case op1 p a =>
    cases p <;> first | cases h0 | skip
    unfold kE at h
    have h : k1.kBi c (kO c a (kE c a)) e "list" = true := h
    unfold k1.kBi at h
    split at h
    · obtain ⟨h1, h2⟩ := b2 h
      obtain ⟨h3, h4⟩ := b2 h2
      exact of_list (biB_of ok h1 bt_list).2 (kO_of (fun e he => kE_ok a he) h3 S Γ W ok) (star1 h4 [])
    · cases h
  case lc tg it cond elt vs =>
    cases e <;> first | cases h0 | skip
    rename_i x gens scope pos
    obtain ⟨t, i, ifs, rfl, L⟩ := lc_of h S Γ W ok
    have := of_lc (pos := pos) L
    rw [ownOf_snd] at this
    exact this
  case call f es dv =>
    unfold kE at h
    split at h
    · obtain ⟨h1, h2⟩ := b2 h
      obtain ⟨h3, h4⟩ := b2 h2
      obtain ⟨h5, h6⟩ := b2 h4
      obtain ⟨h7, h8⟩ := b2 h6
      obtain ⟨h9, h10⟩ := b2 h8
      have e1 := of_decide_eq_true h1
      subst e1
      obtain ⟨g1, g2⟩ := glB_of h3
      exact of_call (ok.fns _ (of_decide_eq_true h5)) (ok.frs _ (of_decide_eq_true h0)) g1 g2 (kG_ok es h7 S Γ W ok) (fun env => star1 h9 _ env) fun env => star_pl h10
    · cases h
/-- swapped: name = [..] on one line -/
def swLc (c : CE) (i : Nat) (x : Str) (py : Pos) (scope : Scope) (pos : Pos) : Bool := decide (c.N[i]? = some x) && (decide (c.sc.names.lookup x = some .local) && ((match c.sc.kind with
  | .function => true
  | _ => false) && ((py.line == pos.line) && !(scope.names.any fun (n, k) => n == x && (k == .local || k == .cell)))))
theorem swLc_of {c : CE} {i : Nat} {x : Str} {py pos : Pos} {scope : Scope} (h : swLc c i x py scope pos = true) : Sw c.N c.sc scope x i py pos := by
  obtain ⟨h1, h2⟩ := b2 h
  obtain ⟨h3, h4⟩ := b2 h2
  obtain ⟨h5, h6⟩ := b2 h4
  obtain ⟨h7, h8⟩ := b2 h6
  refine ⟨of_decide_eq_true h1, of_decide_eq_true h3, ?_, h7, by simpa using h8⟩
  split at h5
  · assumption
  · cases h5
def kAsg (c : CE) (i : Nat) (d : DE) (x : Str) (p : Pos) (v : Expr) : Bool :=
  (wrB c x i && (noComp v || !decide (c.sc.names.lookup x = some .local)) && kE c d v) || (match d, v with
    | .lc .., .ListComp _ _ scope pos => swLc c i x p scope pos && kE c d v
    | .lc2 .., .ListComp _ _ scope pos => swLc c i x p scope pos && kE c d v
    | _, _ => false)
theorem kAsg_ok {c : CE} {i : Nat} {d : DE} {x : Str} {p pos : Pos} {v : Expr} (h : kAsg c i d x p v = true) (S : Sx) (Γ : Gm) (W : WX) (ok : COk c S Γ) : OkS S c.N c.sc W (.Assign [.Name x p] v pos) (semS Γ (.asg i d)) := by
  rcases Bool.or_eq_true_iff.mp h with h | h
  · obtain ⟨h1, h2⟩ := b2 h
    obtain ⟨h3, h4⟩ := b2 h1
    exact os_asg ok.nd (wrB_of ok h3) (kE_ok d h2 S Γ W ok) fun env he => sw_name h4 _ env he
  · split at h
    · rename_i x' gens scope pos'
      obtain ⟨h1, h2⟩ := b2 h
      obtain ⟨t, i, ifs, rfl, L⟩ := lc_of h2 S Γ W ok
      have := (os_asgLc (spos := pos) (swLc_of h1) L).1
      rw [ownOf_snd] at this
      exact this
    · rename_i x' gens scope pos'
      obtain ⟨h1, h2⟩ := b2 h
      obtain ⟨t, i, t1, i1, ifs, rfl, L⟩ := lc2_of h2 S Γ W ok
      have := os_asgLc2 (spos := pos) (swLc_of h1) L
      rw [ownOf_snd] at this
      exact this
    · cases h
def kOwn (c : CE) (i : Nat) (d : DE) (x : Str) (p : Pos) (v : Expr) : Bool :=
  (wrB c x i && (noComp v || !decide (c.sc.names.lookup x = some .local)) && kFr c d v) || (match d, v with
    | .lc .., .ListComp _ _ scope pos => swLc c i x p scope pos && kE c d v
    | _, _ => false)
theorem kOwn_ok {c : CE} {i : Nat} {d : DE} {x : Str} {p pos : Pos} {v : Expr} (h : kOwn c i d x p v = true) (S : Sx) (Γ : Gm) (W : WX) (ok : COk c S Γ) : OkS S c.N c.sc W (.Assign [.Name x p] v pos) (semS Γ (.own i d)) := by
  rcases Bool.or_eq_true_iff.mp h with h | h
  · obtain ⟨h1, h2⟩ := b2 h
    obtain ⟨h3, h4⟩ := b2 h1
    exact os_own ok.nd (wrB_of ok h3) (kFr_ok h2 S Γ W ok) fun env he => sw_name h4 _ env he
  · split at h
    · rename_i x' gens scope pos'
      obtain ⟨h1, h2⟩ := b2 h
      obtain ⟨t, i, ifs, rfl, L⟩ := lc_of h2 S Γ W ok
      have := (os_asgLc (spos := pos) (swLc_of h1) L).2
      rw [ownOf_snd] at this
      exact this
    · cases h
end DL

end

section
namespace DL
open PySem PySem.Spec PyProof.Rows L2

def namesAt (c : CE) : List Expr → List Nat → Bool
  | [], [] => true
  | .Name x _ :: ts, i :: is => decide (c.N[i]? = some x) && (decide (c.sc.names.lookup x = some .local) && namesAt c ts is)
  | _, _ => false
def kPar (c : CE) (is : List Nat) (es : DE) (ts vs : List Expr) : Bool := swB c.sc ts vs && (namesAt c ts is && (decide (is.Nodup) && (kA c es vs && (match ts, vs with
  | [.Name x _, .Name y _], [_, _] => decide (namesOf c.sc ts = [x, y])
  | [.Name x _, .Name y _, .Name z _], [_, _, _] => decide (namesOf c.sc ts = [x, y, z])
  | _, _ => false))))
def kParO (c : CE) (i : Nat) (e : DE) (is : List Nat) (es : DE) (ts vs : List Expr) : Bool := swB c.sc ts vs && (match ts, vs, is with
  | [.Name x p, .Name y q], [a, b], [j] => namesAt c [.Name x p, .Name y q] [i, j] && (decide (i ≠ j) && (kFr c e a && (kA c es [b] && (noStar a && decide (namesOf c.sc ts = [x, y])))))
  | _, _, _ => false)
section
variable {S : Sx} {N : List Str} {sc : Scope} {W : WX} {Γ : Gm}
/-- a, b, c = .., [], ..: the list in the middle is one's own -/
theorem os_parM3 {j l i : Nat} {x y' z' : Str} {a b : Expr} {px py pz pt pos lp : Pos} {kt k2 : Nat} {pt2 : Pos} {d d' : DE} (hN : N.Nodup) (hj : N[j]? = some x) (hi : N[i]? = some y') (hl : N[l]? = some z') (hji : j ≠ i) (hjl : j ≠ l) (hil : i ≠ l) (hx : sc.names.lookup x = some .local) (hy : sc.names.lookup y' = some .local) (hz : sc.names.lookup z' = some .local)
    (h : OkE S N sc W a (semE Γ d)) (h' : OkE S N sc W b (semE Γ d')) (hs0 : ∀ env, starEach [a, .List [] lp, b] env = (false, eval a env) :: starEach [.List [] lp, b] env) (hs1 : ∀ env, starEach [b] env = (false, eval b env) :: starEach [] env)
    (hw : ∀ env, env.scope = sc → swappedStores [.Tuple [.Name x px, .Name y' py, .Name z' pz] kt pt] (.Tuple [a, .List [] lp, b] k2 pt2) env = pure (some [x, y', z'])) : OkS S N sc W (.Assign [.Tuple [.Name x px, .Name y' py, .Name z' pz] kt pt] (.Tuple [a, .List [] lp, b] k2 pt2) pos) (semS Γ (.parN [j, l] (.cons d (.cons d' .nil)) i)) := by
  obtain ⟨te, h1, h2⟩ := h
  obtain ⟨te', h1', h2'⟩ := h'
  refine ⟨tPar3 j i l (tCons te (tCons (tLst tNil) (tCons te' tNil))), fun y gd => ps_par3 rfl hN hj hi hl hji hjl hil (by show y.env.scope.names.lookup x = _; rw [gd.gd.sc]; exact hx) (by show y.env.scope.names.lookup y' = _; rw [gd.gd.sc]; exact hy) (by show y.env.scope.names.lookup z' = _; rw [gd.gd.sc]; exact hz) (pa_cons (h1 y gd.gd) (pa_cons (pe_lst pa_nil) (pa_cons (h1' y gd.gd) pa_nil (hs1 _)) rfl) (hs0 _)) (hw _ gd.gd.sc) rfl, fun cs Mc M ρ σ H E K R X hs hE => ?_⟩
  refine h2 cs Mc M ρ σ H _ _ _ R X hs fun d1 ρ0 M0 u H0 p0 r0 q0 => ?_
  refine ⟨Nat.zero_le _, fun p hp => ?_⟩
  have k0 : Kp (fun _ => False) H0 (upd H0 p (.lst [])) := Kp.fresh hp
  have R1 := p0.rel.growK hp k0 (by rw [upd_same]; exact fun z => nomatch z)
  have nc : ¬ Mc p := fun z => p0.rel.mx p (p0.rel.mc p z) hp
  have nm : ¬ Mut ρ0 σ p := fun ⟨j, fr, c, z1, z2⟩ => by
    obtain ⟨a2, e2, m, _⟩ := p0.rel.ownA z1
    rw [z2] at e2
    cases e2
    exact p0.rel.mx _ m hp
  have r02 : RD S.K (fun a => M0 a ∨ a = p) (upd H0 p (.lst [])) u d1 := r0.kp k0 (fun _ z => z.elim) fun b z => z.imp id fun y => by rw [y]; exact hp
  have R1' : RelS S.K cs (fun a => Mc a ∨ a = p) (fun a => M0 a ∨ a = p) ρ0 σ (upd H0 p (.lst [])) := by
    refine ⟨R1.len, R1.sl, R1.sep, fun a z => z.elim (fun y => R1.mc a y) .inr, R1.mx, fun i fr c a q e => ⟨(R1.own i fr c a q e).1, fun hf z => ?_⟩, R1.old, R1.gr, R1.pin⟩
    rcases z with z | z
    · exact (R1.own i fr c a q e).2 hf z
    · exact nm ⟨i, fr, c, q, by rw [← z]; exact e⟩
  refine h2' cs _ _ ρ0 σ _ _ _ _ R1' X q0 fun d2 ρ2 M2 v H2 p2 r2 q2 => ?_
  have m2 : M2 p := p2.rel.mc p (.inr rfl)
  have e2 : H2 p = some (.lst []) := p2.kp.keep _ _ nm upd_same
  have nm2 : ¬ Mut ρ2 σ p := fun m => nm (p2.mut m)
  have R2 : RelS S.K cs Mc M2 ρ2 σ H2 := p2.rel.shrink (fun _ z => z) (fun a z => p2.rel.mc a (.inl z)) (fun a m => p2.rel.mutM m) fun _ => .inl
  have R3 := R2.setO (i := i) (c := .ls []) m2 ⟨[], e2, .nil⟩ ⟨fun b hb => .inr (p0.rel.nobase hb hp), nc⟩ nm2
  have R4 := R3.setPs (is := [j, l]) (.cons (p2.rd R1' r02) (.cons r2 .nil))
  have q1 : [d1, d2].length = [j, l].length ∧ K.nx (setR [j, l] [d1, d2] (ρ2.set i (.o true (.ls [])))) := q2
  refine ⟨u, .ref p, v, rfl, ?_⟩
  rw [List.set_comm _ _ hji]
  exact hE.nx _ _ _ _ R4 q1.2
end
def kParN (c : CE) (is : List Nat) (es : DE) (i : Nat) (ts vs : List Expr) : Bool := swB c.sc ts vs && (match ts, vs, is, es with
  | [.Name x p, .Name y q], [a, .List [] _], [j], .cons d .nil => namesAt c [.Name x p, .Name y q] [j, i] && (decide (j ≠ i) && (kE c d a && (noStar a && decide (namesOf c.sc ts = [x, y]))))
  | [.Name x p, .Name y q, .Name z r], [a, b, .List [] _], [j, l], .cons d (.cons d2 .nil) => namesAt c [.Name x p, .Name y q, .Name z r] [j, l, i] && (decide ([j, l, i].Nodup) && (kE c d a && (kE c d2 b && (noStar a && (noStar b && decide (namesOf c.sc ts = [x, y, z]))))))
  | [.Name x p, .Name y q, .Name z r], [a, .List [] _, b], [j, l], .cons d (.cons d2 .nil) => namesAt c [.Name x p, .Name y q, .Name z r] [j, i, l] && (decide ([j, i, l].Nodup) && (kE c d a && (kE c d2 b && (noStar a && (noStar b && decide (namesOf c.sc ts = [x, y, z]))))))
  | _, _, _, _ => false)
/-- the clauses of a try that return constants -/
def kHd (c : CE) : List (Str × Hd) → List ExceptHandler → Bool
  | [], [] => true
  | (x, .ret r) :: hs, .ExceptHandler (some (.Name y _)) none [.Return (some e) _] _ :: es => decide (y = x) && (glB c y && (decide (y ∈ c.hds) && (cB r e && kHd c hs es)))
  | _, _ => false
mutual
def kS (c : CE) : DS → Stmt → Bool
  | .skip, st => match st with
    | .Pass _ => true
    | .Expr (.Constant (.str _) _ _) _ => true
    | _ => false
  | .seq _ _, _ => false
  | .asg i d, st => match st with
    | .Assign [.Name x p] v _ => kAsg c i d x p v
    | _ => false
  | .dct i d, st => match st with
    | .Assign [.Name x _] (.Call (.Name y _) [v] [] _) _ => wrB c x i && (biB c "dict" y && (kE c d v && noStar v))
    | _ => false
  | .own i d, st => match st with
    | .Assign [.Name x p] v _ => kOwn c i d x p v
    | _ => false
  | .tupa is d, st => match st with
    | .Assign [.Tuple ts _ _] v _ => decide (2 ≤ is.length) && (wrsB c ts is && (kE c d v && (noTup v || cellB c.sc ts)))
    | _ => false
  | .par is d, st => match st with
    | .Assign [.Tuple ts _ _] (.Tuple vs _ _) _ => kPar c is d ts vs
    | _ => false
  | .parO i e is d, st => match st with
    | .Assign [.Tuple ts _ _] (.Tuple vs _ _) _ => kParO c i e is d ts vs
    | _ => false
  | .app i d, st => match st with
    | .Expr (.Call (.Attribute x name ap) [v] [] pos) _ => decide (name = "append") && (nmB c i x && (kE c d v && (noStar v && (ap.endLine == pos.line))))
    | _ => false
  | .seti i j d, st => match st with
    | .Assign [.Subscript x ej _] v _ => nmB c i x && (kE c j ej && (kE c d v && plainB ej))
    | _ => false
  | .bset i j d, st => match st with
    | .Assign [.Subscript x ej _] v _ => nmB c i x && (kE c j ej && (kE c d v && plainB ej))
    | _ => false
  | .parN is es i, st => match st with
    | .Assign [.Tuple ts _ _] (.Tuple vs _ _) _ => kParN c is es i ts vs
    | _ => false
  | .dnew i, st => match st with
    | .Assign [.Name x _] (.Dict [] [] _) _ => wrB c x i
    | _ => false
  | .aug i p d, st => match st with
    | .AugAssign (.Name x _) .Add v _ => decide (p = .add) && (wrB c x i && kE c d v)
    | _ => false
  | .ex d, st => match st with
    | .Expr v _ => kE c d v && noComp v
    | _ => false
  | .ife t a b, st => match st with
    | .If e x y _ => kT c t (kE c t) e && (kSs c a x && kSs c b y)
    | _ => false
  | .for' tg it b, st => match st with
    | .For t e body [] _ => kTg c t tg && (kI c it (kE c it) t e && (kSs c b body && noSet e))
    | _ => false
  | .whl t b, st => match st with
    | .While e body [] _ => kT c t (kE c t) e && kSs c b body
    | _ => false
  | .ret d, st => match st with
    | .Return (some e) _ => kE c d e
    | _ => false
  | .retF d, st => match st with
    | .Return (some e) _ => kFr c d e
    | _ => false
  | .retO i, st => match st with
    | .Return (some e) _ => nmB c i e
    | _ => false
  | .retN, st => match st with
    | .Return none _ => true
    | _ => false
  | .brk, st => match st with
    | .Break _ => true
    | _ => false
  | .cnt, st => match st with
    | .Continue _ => true
    | _ => false
  | .raise x, st => match st with
    | .Raise (some (.Call (.Name y _) [.Constant (.str _) _ _] [] _)) none _ => decide (y = x) && (glB c y && decide (y ∈ c.xcs))
    | _ => false
  | .raise1 _ _ _, _ => false
  | .never, _ => true
  | .tryn b hs, st => match st with
    | .Try body (h0 :: es) [] [] _ => kHd c hs (h0 :: es) && kSs c b body
    | _ => false
  | .trye b x r, st => match st with
    | .Try body [.ExceptHandler (some (.Name y _)) none [.Return (some e) _] _] [] [] _ => decide (y = x) && (glB c y && (decide (y ∈ c.hds) && (cB r e && kSs c b body)))
    | _ => false
  | .tryf _ _ _, _ => false
def kSs (c : CE) : DS → List Stmt → Bool
  | .skip, sts => sts.isEmpty
  | .seq a b, sts => match sts with
    | st :: r => kS c a st && kSs c b r
    | _ => false
  | _, _ => false
end
theorem stores_none {sc : Scope} {ts : List Expr} {v : Expr} {k : Nat} {p : Pos} (h : (noTup v || cellB sc ts) = true) (env : Env) (he : env.scope = sc) : swappedStores [.Tuple ts k p] v env = pure none := by
  rcases Bool.or_eq_true_iff.mp h with h | h
  · exact stores_no h env
  · by_cases q : noTup v = true
    · exact stores_no q env
    · cases v <;> first | exact absurd rfl q | exact stores_cell h env he
theorem namesAt2 {c : CE} {x y : Str} {p q : Pos} {is : List Nat} (h : namesAt c [.Name x p, .Name y q] is = true) : ∃ i j, is = [i, j] ∧ c.N[i]? = some x ∧ c.N[j]? = some y ∧ c.sc.names.lookup x = some .local ∧ c.sc.names.lookup y = some .local := by
  match is, h with
  | [i, j], h =>
    obtain ⟨h1, h2⟩ := b2 h
    obtain ⟨h3, h4⟩ := b2 h2
    obtain ⟨h5, h6⟩ := b2 h4
    obtain ⟨h7, h8⟩ := b2 h6
    exact ⟨i, j, rfl, of_decide_eq_true h1, of_decide_eq_true h5, of_decide_eq_true h3, of_decide_eq_true h7⟩
  | [], h => cases h
  | [_], h =>
    obtain ⟨h1, h2⟩ := b2 h
    obtain ⟨h3, h4⟩ := b2 h2
    cases h4
  | _ :: _ :: _ :: _, h =>
    obtain ⟨h1, h2⟩ := b2 h
    obtain ⟨h3, h4⟩ := b2 h2
    obtain ⟨h5, h6⟩ := b2 h4
    obtain ⟨h7, h8⟩ := b2 h6
    cases h8
theorem namesAt3 {c : CE} {x y z : Str} {p q r : Pos} {is : List Nat} (h : namesAt c [.Name x p, .Name y q, .Name z r] is = true) : ∃ i j l, is = [i, j, l] ∧ c.N[i]? = some x ∧ c.N[j]? = some y ∧ c.N[l]? = some z ∧ c.sc.names.lookup x = some .local ∧ c.sc.names.lookup y = some .local ∧ c.sc.names.lookup z = some .local := by
  cases is with
  | nil => cases h
  | cons i is =>
    obtain ⟨h1, h2⟩ := b2 h
    obtain ⟨h3, h4⟩ := b2 h2
    obtain ⟨j, l, rfl, g⟩ := namesAt2 h4
    exact ⟨i, j, l, rfl, of_decide_eq_true h1, g.1, g.2.1, of_decide_eq_true h3, g.2.2.1, g.2.2.2⟩
theorem kPar_ok {c : CE} {is : List Nat} {es : DE} {ts vs : List Expr} {k k2 : Nat} {p p2 pos : Pos} (h : kPar c is es ts vs = true) (S : Sx) (Γ : Gm) (W : WX) (ok : COk c S Γ) : OkS S c.N c.sc W (.Assign [.Tuple ts k p] (.Tuple vs k2 p2) pos) (semS Γ (.par is es)) := by
  obtain ⟨h1, h2⟩ := b2 h
  obtain ⟨h3, h4⟩ := b2 h2
  obtain ⟨h5, h6⟩ := b2 h4
  obtain ⟨h7, h8⟩ := b2 h6
  have nd := of_decide_eq_true h5
  have sw := fun env he => sw_stores (k := k) (k2 := k2) (p := p) (p2 := p2) h1 env he
  split at h8
  · obtain ⟨i, j, rfl, g1, g2, g3, g4⟩ := namesAt2 h3
    have e := of_decide_eq_true h8
    rw [e] at sw
    exact os_par2 ok.nd g1 g2 (fun q => by rw [q] at nd; simp at nd) g3 g4 (kA_ok es h7 S Γ W ok) sw
  · obtain ⟨i, j, l, rfl, g1, g2, g3, g4, g5, g6⟩ := namesAt3 h3
    have e := of_decide_eq_true h8
    rw [e] at sw
    have nd := List.nodup_cons.mp nd
    have nd2 := List.nodup_cons.mp nd.2
    exact os_par3 ok.nd g1 g2 g3 (fun q => nd.1 (by rw [q]; exact List.mem_cons_self)) (fun q => nd.1 (by rw [q]; exact List.mem_cons_of_mem _ List.mem_cons_self)) (fun q => nd2.1 (by rw [q]; exact List.mem_cons_self)) g4 g5 g6 (kA_ok es h7 S Γ W ok) sw
  · cases h8
theorem kParO_ok {c : CE} {i : Nat} {e : DE} {is : List Nat} {es : DE} {ts vs : List Expr} {k k2 : Nat} {p p2 pos : Pos} (h : kParO c i e is es ts vs = true) (S : Sx) (Γ : Gm) (W : WX) (ok : COk c S Γ) : OkS S c.N c.sc W (.Assign [.Tuple ts k p] (.Tuple vs k2 p2) pos) (semS Γ (.parO i e is es)) := by
  obtain ⟨h1, h2⟩ := b2 h
  have sw := fun env he => sw_stores (k := k) (k2 := k2) (p := p) (p2 := p2) h1 env he
  split at h2
  · obtain ⟨h3, h4⟩ := b2 h2
    obtain ⟨h5, h6⟩ := b2 h4
    obtain ⟨h7, h8⟩ := b2 h6
    obtain ⟨h9, h10⟩ := b2 h8
    obtain ⟨h11, h12⟩ := b2 h10
    obtain ⟨i', j', ee, g1, g2, g3, g4⟩ := namesAt2 h3
    cases ee
    have e := of_decide_eq_true h12
    rw [e] at sw
    exact os_parO ok.nd g1 g2 (of_decide_eq_true h5) g3 g4 (kFr_ok h7 S Γ W ok) (kA_ok es h9 S Γ W ok) (fun env => star1 h11 _ env) sw
  · cases h2
theorem kParN_ok {c : CE} {i : Nat} {is : List Nat} {es : DE} {ts vs : List Expr} {k k2 : Nat} {p p2 pos : Pos} (h : kParN c is es i ts vs = true) (S : Sx) (Γ : Gm) (W : WX) (ok : COk c S Γ) : OkS S c.N c.sc W (.Assign [.Tuple ts k p] (.Tuple vs k2 p2) pos) (semS Γ (.parN is es i)) := by
  obtain ⟨h1, h2⟩ := b2 h
  have sw := fun env he => sw_stores (k := k) (k2 := k2) (p := p) (p2 := p2) h1 env he
  split at h2
  · obtain ⟨h3, h4⟩ := b2 h2
    obtain ⟨h5, h6⟩ := b2 h4
    obtain ⟨h7, h8⟩ := b2 h6
    obtain ⟨h9, h10⟩ := b2 h8
    obtain ⟨i', j', ee, g1, g2, g3, g4⟩ := namesAt2 h3
    cases ee
    have e := of_decide_eq_true h10
    rw [e] at sw
    exact os_parN2 ok.nd g1 g2 (of_decide_eq_true h5) g3 g4 (kE_ok _ h7 S Γ W ok) (fun env => star1 h9 _ env) sw
  · obtain ⟨h3, h4⟩ := b2 h2
    obtain ⟨h5, h6⟩ := b2 h4
    obtain ⟨h7, h8⟩ := b2 h6
    obtain ⟨h9, h10⟩ := b2 h8
    obtain ⟨h11, h12⟩ := b2 h10
    obtain ⟨h13, h14⟩ := b2 h12
    obtain ⟨i', j', l', ee, g1, g2, g3, g4, g5, g6⟩ := namesAt3 h3
    cases ee
    have e := of_decide_eq_true h14
    rw [e] at sw
    have nd := List.nodup_cons.mp (of_decide_eq_true h5)
    have nd2 := List.nodup_cons.mp nd.2
    exact os_parN3 ok.nd g1 g2 g3 (fun q => nd.1 (by rw [q]; exact List.mem_cons_self)) (fun q => nd.1 (by rw [q]; exact List.mem_cons_of_mem _ List.mem_cons_self)) (fun q => nd2.1 (by rw [q]; exact List.mem_cons_self)) g4 g5 g6 (kE_ok _ h7 S Γ W ok) (kE_ok _ h9 S Γ W ok) (fun env => star1 h11 _ env) (fun env => star1 h13 _ env) sw
  · obtain ⟨h3, h4⟩ := b2 h2
    obtain ⟨h5, h6⟩ := b2 h4
    obtain ⟨h7, h8⟩ := b2 h6
    obtain ⟨h9, h10⟩ := b2 h8
    obtain ⟨h11, h12⟩ := b2 h10
    obtain ⟨h13, h14⟩ := b2 h12
    obtain ⟨i', j', l', ee, g1, g2, g3, g4, g5, g6⟩ := namesAt3 h3
    cases ee
    have e := of_decide_eq_true h14
    rw [e] at sw
    have nd := List.nodup_cons.mp (of_decide_eq_true h5)
    have nd2 := List.nodup_cons.mp nd.2
    exact os_parM3 ok.nd g1 g2 g3 (fun q => nd.1 (by rw [q]; exact List.mem_cons_self)) (fun q => nd.1 (by rw [q]; exact List.mem_cons_of_mem _ List.mem_cons_self)) (fun q => nd2.1 (by rw [q]; exact List.mem_cons_self)) g4 g5 g6 (kE_ok _ h7 S Γ W ok) (kE_ok _ h9 S Γ W ok) (fun env => star1 h11 _ env) (fun env => star1 h13 _ env) sw
  · cases h2
theorem kHd_ok {c : CE} {S : Sx} {Γ : Gm} (ok : COk c S Γ) : ∀ (hs : List (Str × Hd)) (es : List ExceptHandler), kHd c hs es = true → ∃ l, HdR S c.sc Γ hs es l := by
  intro hs
  induction hs with
  | nil =>
    intro es h
    cases es with
    | nil => exact ⟨[], .nil⟩
    | cons a b => cases h
  | cons q hs ih =>
    intro es h
    unfold kHd at h
    split at h
    · rename_i e
      cases e
    · rename_i x r hs' y p e rp pos es' e1
      cases e1
      obtain ⟨h1, h2⟩ := b2 h
      obtain ⟨h3, h4⟩ := b2 h2
      obtain ⟨h5, h6⟩ := b2 h4
      obtain ⟨h7, h8⟩ := b2 h6
      have e1 := of_decide_eq_true h1
      subst e1
      obtain ⟨g1, g2⟩ := glB_of h3
      obtain ⟨v, z1, z2⟩ := ok.hds _ (of_decide_eq_true h5)
      obtain ⟨u, y1, y2⟩ := cB_of h7
      obtain ⟨l, hl⟩ := ih _ h8
      exact ⟨_, .cons ⟨g1, g2, z1, z2⟩ y1 (fun M H => y2 _ M H) hl⟩
    · cases h
mutual
theorem kS_ok : ∀ (d : DS) {c : CE} {st : Stmt}, kS c d st = true → ∀ (S : Sx) (Γ : Gm) (W : WX), COk c S Γ → OkS S c.N c.sc W st (semS Γ d)
  | .skip, c, st, h => fun S Γ W ok => by
    unfold kS at h
    split at h
    · exact os_pass
    · exact os_doc
    · cases h
  | .seq _ _, c, st, h => by unfold kS at h; cases h
  | .asg i d, c, st, h => fun S Γ W ok => by
    unfold kS at h
    split at h
    · exact kAsg_ok h S Γ W ok
    · cases h
  | .dct i d, c, st, h => fun S Γ W ok => by
    unfold kS at h
    split at h
    · obtain ⟨h1, h2⟩ := b2 h
      obtain ⟨h3, h4⟩ := b2 h2
      obtain ⟨h5, h6⟩ := b2 h4
      obtain ⟨rfl, B⟩ := biB_of ok h3 bt_dict
      exact os_dct ok.nd (wrB_of ok h1) B (kE_ok d h5 S Γ W ok) fun env => star1 h6 [] env
    · cases h
  | .own i d, c, st, h => fun S Γ W ok => by
    unfold kS at h
    split at h
    · exact kOwn_ok h S Γ W ok
    · cases h
  | .tupa is d, c, st, h => fun S Γ W ok => by
    unfold kS at h
    split at h
    · obtain ⟨h1, h2⟩ := b2 h
      obtain ⟨h3, h4⟩ := b2 h2
      obtain ⟨h5, h6⟩ := b2 h4
      exact os_tupa ok.nd (wrsB_of ok h3) (of_decide_eq_true h1) (kE_ok d h5 S Γ W ok) (fun env => sw_tup (t := .Name (Str.ofString "") ⟨0, 0, 0, 0⟩) _ _ env) fun env he => stores_none h6 env he
    · cases h
  | .par is d, c, st, h => fun S Γ W ok => by
    unfold kS at h
    split at h
    · exact kPar_ok h S Γ W ok
    · cases h
  | .parO i e is d, c, st, h => fun S Γ W ok => by
    unfold kS at h
    split at h
    · exact kParO_ok h S Γ W ok
    · cases h
  | .app i d, c, st, h => fun S Γ W ok => by
    unfold kS at h
    split at h
    · obtain ⟨h1, h2⟩ := b2 h
      obtain ⟨h3, h4⟩ := b2 h2
      obtain ⟨h5, h6⟩ := b2 h4
      obtain ⟨h7, h8⟩ := b2 h6
      have e1 := of_decide_eq_true h1
      subst e1
      obtain ⟨x, p, rfl, g1, g2, g3, g4⟩ := nmB_of h3
      exact os_app g1 g2 g3 g4 (kE_ok d h5 S Γ W ok) (fun env => rfl) (fun env => few1 h7 _ env) h8 fun env => star1 h7 [] env
    · cases h
  | .seti i j d, c, st, h => fun S Γ W ok => by
    unfold kS at h
    split at h
    · obtain ⟨h1, h2⟩ := b2 h
      obtain ⟨h3, h4⟩ := b2 h2
      obtain ⟨h5, h6⟩ := b2 h4
      obtain ⟨x, p, rfl, g1, g2, g3, g4⟩ := nmB_of h1
      exact os_seti g1 g2 g3 g4 (kE_ok j h3 S Γ W ok) (kE_ok d h5 S Γ W ok) (fun env v => assign_sub h6 env v) fun env => sw_sub _ _ env
    · cases h
  | .bset i j d, c, st, h => fun S Γ W ok => by
    unfold kS at h
    split at h
    · obtain ⟨h1, h2⟩ := b2 h
      obtain ⟨h3, h4⟩ := b2 h2
      obtain ⟨h5, h6⟩ := b2 h4
      obtain ⟨x, p, rfl, g1, g2, g3, g4⟩ := nmB_of h1
      exact os_bset g1 g2 g3 g4 (kE_ok j h3 S Γ W ok) (kE_ok d h5 S Γ W ok) (fun env v => assign_sub h6 env v) fun env => sw_sub _ _ env
    · cases h
  | .parN is es i, c, st, h => fun S Γ W ok => by
    unfold kS at h
    split at h
    · exact kParN_ok h S Γ W ok
    · cases h
  | .dnew i, c, st, h => fun S Γ W ok => by
    unfold kS at h
    split at h
    · exact os_dnew ok.nd (wrB_of ok h)
    · cases h
  | .aug i p d, c, st, h => fun S Γ W ok => by
    unfold kS at h
    split at h
    · obtain ⟨h1, h2⟩ := b2 h
      obtain ⟨h3, h4⟩ := b2 h2
      have e1 := of_decide_eq_true h1
      subst e1
      exact os_aug ok.nd (wrB_of ok h3) (kE_ok d h4 S Γ W ok)
    · cases h
  | .ex d, c, st, h => fun S Γ W ok => by
    unfold kS at h
    split at h
    · obtain ⟨h1, h2⟩ := b2 h
      exact os_ex (kE_ok d h1 S Γ W ok) fun env => sw_no h2 _ _ env
    · cases h
  | .ife t a b, c, st, h => fun S Γ W ok => by
    unfold kS at h
    split at h
    · obtain ⟨h1, h2⟩ := b2 h
      obtain ⟨h3, h4⟩ := b2 h2
      exact os_if (kT_ok t (fun x hx => kE_ok t hx) h1 S Γ W ok) (kSs_ok a h3 S Γ W ok) (kSs_ok b h4 S Γ W ok)
    · cases h
  | .for' tg it b, c, st, h => fun S Γ W ok => by
    unfold kS at h
    split at h
    · obtain ⟨h1, h2⟩ := b2 h
      obtain ⟨h3, h4⟩ := b2 h2
      obtain ⟨h5, h6⟩ := b2 h4
      exact os_for (kI_ok it (fun x hx => kE_ok it hx) h3 S Γ W ok) (kTg_of W ok h1) (kSs_ok b h5 S Γ W ok) fun env x => folded_no h6 env x
    · cases h
  | .whl t b, c, st, h => fun S Γ W ok => by
    unfold kS at h
    split at h
    · obtain ⟨h1, h2⟩ := b2 h
      exact os_while (kT_ok t (fun x hx => kE_ok t hx) h1 S Γ W ok) (kSs_ok b h2 S Γ W ok)
    · cases h
  | .ret d, c, st, h => fun S Γ W ok => by
    unfold kS at h
    split at h
    · exact os_ret (kE_ok d h S Γ W ok)
    · cases h
  | .retF d, c, st, h => fun S Γ W ok => by
    unfold kS at h
    split at h
    · exact os_retF (kFr_ok h S Γ W ok)
    · cases h
  | .retO i, c, st, h => fun S Γ W ok => by
    unfold kS at h
    split at h
    · obtain ⟨x, p, rfl, g1, g2, g3, g4⟩ := nmB_of h
      exact os_retO g1 g2 g3 g4
    · cases h
  | .retN, c, st, h => fun S Γ W ok => by
    unfold kS at h
    split at h
    · exact os_retN
    · cases h
  | .brk, c, st, h => fun S Γ W ok => by
    unfold kS at h
    split at h
    · exact os_brk
    · cases h
  | .cnt, c, st, h => fun S Γ W ok => by
    unfold kS at h
    split at h
    · exact os_cnt
    · cases h
  | .raise x, c, st, h => fun S Γ W ok => by
    unfold kS at h
    split at h
    · obtain ⟨h1, h2⟩ := b2 h
      obtain ⟨h3, h4⟩ := b2 h2
      have e1 := of_decide_eq_true h1
      subst e1
      obtain ⟨g1, g2⟩ := glB_of h3
      exact os_raise (ok.xcs _ (of_decide_eq_true h4)) g1 g2
    · cases h
  | .raise1 _ _ _, c, st, h => by unfold kS at h; cases h
  | .never, c, st, h => fun S Γ W ok => os_never
  | .tryn b hs, c, st, h => fun S Γ W ok => by
    unfold kS at h
    split at h
    · obtain ⟨h1, h2⟩ := b2 h
      obtain ⟨l, hl⟩ := kHd_ok ok hs _ h1
      exact os_tryn hl fun W => kSs_ok b h2 S Γ W ok
    · cases h
  | .trye b x r, c, st, h => fun S Γ W ok => by
    unfold kS at h
    split at h
    · obtain ⟨h1, h2⟩ := b2 h
      obtain ⟨h3, h4⟩ := b2 h2
      obtain ⟨h5, h6⟩ := b2 h4
      obtain ⟨h7, h8⟩ := b2 h6
      have e1 := of_decide_eq_true h1
      subst e1
      obtain ⟨g1, g2⟩ := glB_of h3
      obtain ⟨v, z1, z2⟩ := ok.hds _ (of_decide_eq_true h5)
      obtain ⟨u, y1, y2⟩ := cB_of h7
      exact os_try ⟨g1, g2, z1, z2⟩ (fun W => kSs_ok b h8 S Γ W ok) y1 fun M H => y2 _ M H
    · cases h
  | .tryf _ _ _, c, st, h => by unfold kS at h; cases h
theorem kSs_ok : ∀ (d : DS) {c : CE} {sts : List Stmt}, kSs c d sts = true → ∀ (S : Sx) (Γ : Gm) (W : WX), COk c S Γ → OkSs S c.N c.sc W sts (semS Γ d) := by
  intro d c sts h S Γ W ok
  cases d
  case skip =>
    unfold kSs at h
    cases sts with
    | nil => exact oss_nil
    | cons x r => cases h
  case seq a b =>
    unfold kSs at h
    split at h
    · obtain ⟨h1, h2⟩ := b2 h
      exact oss_cons (kS_ok a h1 S Γ W ok) (kSs_ok b h2 S Γ W ok)
    · cases h
  all_goals
    unfold kSs at h
    cases h
end
end DL

end

section
namespace DL
open PySem PySem.Spec PyProof.Rows L2

/-! ### loops over data -/
theorem lcL_ind {body : D → List D → Ro → (List D → Ro → Prop) → Prop} {chk : Ro → Prop} {k : List D → Ro → Prop} (I : List D → List D → Ro → Prop)
    (step : ∀ x xs acc ρ kk, I (x :: xs) acc ρ → (∀ acc' ρ', I xs acc' ρ' → kk acc' ρ') → body x acc ρ kk) (hc : ∀ xs acc ρ, I xs acc ρ → chk ρ) (fin : ∀ acc ρ, I [] acc ρ → k acc ρ) :
    ∀ {xs acc ρ}, I xs acc ρ → lcL body chk xs acc ρ k
  | [], acc, ρ, h => fin acc ρ h
  | x :: xs, acc, ρ, h => step x xs acc ρ _ h fun acc' ρ' h' => ⟨hc xs acc' ρ' h', lcL_ind I step hc fin h'⟩
/-- nothing changes but the list that is made -/
theorem lcL_map {body : D → List D → Ro → (List D → Ro → Prop) → Prop} {chk : Ro → Prop} {k : List D → Ro → Prop} (f : D → D) (p : D → Bool) {xs : List D} {ρ : Ro}
    (step : ∀ x acc kk, x ∈ xs → acc.length < sizeLine → kk (if p x = true then acc ++ [f x] else acc) ρ → body x acc ρ kk) (hc : chk ρ) (hz : xs.length ≤ sizeLine) (fin : k ((xs.filter p).map f) ρ) : lcL body chk xs [] ρ k := by
  refine lcL_ind (fun ys acc r => r = ρ ∧ (∀ y ∈ ys, y ∈ xs) ∧ acc.length + ys.length ≤ sizeLine ∧ acc ++ (ys.filter p).map f = (xs.filter p).map f) ?_ (fun _ _ _ h => by rw [h.1]; exact hc) (fun acc r h => ?_) ⟨rfl, fun _ h => h, by simpa using hz, rfl⟩
  · rintro x ys acc r kk ⟨rfl, h1, h2, h3⟩ hk
    have hl : acc.length < sizeLine := by
      rw [List.length_cons] at h2
      omega
    refine step x acc kk (h1 x List.mem_cons_self) hl (hk _ _ ⟨rfl, fun y hy => h1 y (List.mem_cons_of_mem _ hy), ?_, ?_⟩)
    · rw [List.length_cons] at h2
      split
      · rw [List.length_append, List.length_singleton]
        omega
      · omega
    · rw [← h3]
      by_cases hp : p x = true
      · rw [if_pos hp, List.filter_cons_of_pos hp, List.map_cons, List.append_assoc]
        rfl
      · rw [if_neg hp, List.filter_cons_of_neg hp]
  · obtain ⟨rfl, _, _, h3⟩ := h
    have e : acc = (xs.filter p).map f := by simpa using h3
    rw [e]
    exact fin
theorem forL_ind {tg : List Nat} {body : DK → Ro → Prop} {K : DK} (I : List D → Ro → Prop)
    (step : ∀ x xs ρ (nx : Ro → Prop), I (x :: xs) ρ → (∀ ρ', I xs ρ' → nx ρ') → (match bindT tg x ρ with
      | some ρ1 => body { K with nx := nx, ct := nx, bk := K.nx } ρ1
      | none => False)) (fin : ∀ ρ, I [] ρ → K.nx ρ) : ∀ {xs ρ}, I xs ρ → forL tg body K xs ρ
  | [], ρ, h => fin ρ h
  | x :: xs, ρ, h => step x xs ρ _ h fun ρ' h' => forL_ind I step fin h'
theorem idx0 {a : D} {r : List D} : atI (a :: r) 0 = some a := by
  unfold atI ixN
  rw [if_pos (by omega), if_pos (by rw [List.length_cons]; omega)]
  rfl
theorem idx1 {a b : D} {r : List D} : atI (a :: b :: r) 1 = some b := by
  unfold atI ixN
  rw [if_pos (by omega), if_pos (by rw [List.length_cons, List.length_cons]; omega)]
  rfl
theorem idx2 {a b c : D} {r : List D} : atI (a :: b :: c :: r) 2 = some c := by
  unfold atI ixN
  rw [if_pos (by omega), if_pos (by rw [List.length_cons, List.length_cons, List.length_cons]; omega)]
  rfl
theorem idxN {α : Type} {ds : List α} {i : Int} (h0 : 0 ≤ i) (h1 : i < ds.length) : ∃ d, atI ds i = some d ∧ ds[i.toNat]? = some d ∧ d ∈ ds := by
  have hi : i.toNat < ds.length := by omega
  refine ⟨ds[i.toNat], ?_, List.getElem?_eq_getElem hi, List.getElem_mem hi⟩
  unfold atI ixN
  rw [if_pos h0, if_pos h1]
  exact List.getElem?_eq_getElem hi
theorem rangeD_len (lo : Int) (n : Nat) : (rangeD lo n).length = n := by unfold rangeD; rw [List.length_map, List.length_range]
theorem sz : sizeLine = 16777216 := sizeLine_eq

/-! ### the bag -/
def law_bag_1 : DS := (.seq (.retF (.lst (.cons (.var 2) (.cons (.var 4) .nil)))) .skip)
def law_bag_2 : DS := (.seq (.asg 3 (.op2 .add (.op2 .mul (.op2 .mod (.op1 .intOf (.bv 2)) (.c (.int 2147483629))) (.c (.int 16807))) (.op2 .mul (.op2 .mul (.c (.int 40009)) (.bv 1)) (.bv 1)))) (.seq (.asg 4 (.op2 .add (.c (.int 1)) (.op2 .mod (.op1 .intOf (.op2 .add (.op2 .add (.bv 3) (.op2 .mul (.c (.int 7919)) (.bv 1))) (.c (.int 1009)))) (.c (.int 2147483645))))) (.seq (.ife (.op2 .lt (.bv 2) (.op2 .pow (.c (.int 10)) (.c (.int 18)))) (.seq (.retF (.lst (.cons (.c (.int 0)) (.cons (.var 4) .nil)))) .skip) .skip) law_bag_1)))
def d_law_bag : DS := (.seq (.asg 2 (.c (.int 0))) (.seq (.ife (.op2 .lt (.bv 1) (.slen 0)) (.seq (.asg 2 (.op2 .mod (.op1 .intOf (.sat 0 (.var 1))) (.op2 .pow (.c (.int 10)) (.c (.int 60))))) .skip) .skip) law_bag_2))
def law_take_1 : DS := (.seq (.seti 0 (.c (.int 1)) (.op2 .mod (.op1 .intOf (.op2 .mul (.op2 .idx (.bv 0) (.c (.int 1))) (.c (.int 48271)))) (.c (.int 2147483647)))) (.seq (.asg 2 (.op2 .mul (.op2 .fdiv (.op1 .intOf (.op2 .idx (.bv 0) (.c (.int 1)))) (.c (.int 13))) (.op2 .add (.op2 .mod (.op1 .intOf (.op2 .idx (.bv 0) (.c (.int 1)))) (.c (.int 32749))) (.c (.int 17))))) (.seq (.ret (.op2 .mod (.op1 .intOf (.op2 .fdiv (.op2 .mod (.op1 .intOf (.bv 2)) (.c (.int 2147483629))) (.c (.int 32)))) (.bv 1))) .skip)))
def d_law_take : DS := (.seq (.ife (.op2 .gt (.op2 .idx (.bv 0) (.c (.int 0))) (.c (.int 0))) (.seq (.asg 3 (.op2 .mod (.op1 .intOf (.op2 .idx (.bv 0) (.c (.int 0)))) (.bv 1))) (.seq (.seti 0 (.c (.int 0)) (.op2 .fdiv (.op1 .intOf (.op2 .idx (.bv 0) (.c (.int 0)))) (.bv 1))) (.seq (.ret (.var 3)) .skip))) .skip) law_take_1)
def d_law_of : DS := (.seq (.ret (.op2 .idx (.bv 1) (.call "_law_take" (.cons (.bv 0) (.cons (.op1 .len (.bv 1)) .nil)) 0))) .skip)
def law_deed_1 : DE := (.call "_law_take" (.cons (.bv 0) (.cons (.bv 1) .nil)) 0)
def law_deed_2 : DS := (.seq (.ret (.op1 .tupOf (.lc [6] (.rng1 (.var 1)) (.c (.bool true)) law_deed_1 [6]))) .skip)
def law_deed_3 : DE := (.ite (.op2 .eq (.bv 6) (.bv 3)) (.var 4) (.var 6))
def law_deed_4 : DS := (.seq (.ife (.op2 .eq (.bv 2) (.c (.int 3))) (.seq (.ret (.op1 .tupOf (.lc [6] (.rng1 (.var 1)) (.c (.bool true)) law_deed_3 [6]))) .skip) .skip) law_deed_2)
def law_deed_5 : DE := (.dget 5 (.var 6) (.var 6))
def law_deed_6 : DS := (.seq (.ife (.op2 .eq (.bv 2) (.c (.int 2))) (.seq (.dct 5 (.lst (.cons (.tup (.cons (.var 3) (.cons (.var 4) .nil))) (.cons (.tup (.cons (.var 4) (.cons (.var 3) .nil))) .nil)))) (.seq (.ret (.op1 .tupOf (.lc [6] (.rng1 (.var 1)) (.c (.bool true)) law_deed_5 [6]))) .skip)) .skip) law_deed_4)
def law_deed_7 : DE := (.op2 .mod (.op1 .intOf (.op2 .add (.bv 6) (.c (.int 1)))) (.bv 1))
def law_deed_8 : DS := (.seq (.ife (.op2 .eq (.bv 2) (.c (.int 1))) (.seq (.ret (.op1 .tupOf (.lc [6] (.rng1 (.var 1)) (.c (.bool true)) law_deed_7 [6]))) .skip) .skip) law_deed_6)
def d_law_deed : DS := (.seq (.tupa [2, 3, 4] (.tup (.cons (.call "_law_take" (.cons (.bv 0) (.cons (.c (.int 5)) .nil)) 0) (.cons (.call "_law_take" (.cons (.bv 0) (.cons (.bv 1) .nil)) 0) (.cons (.call "_law_take" (.cons (.bv 0) (.cons (.bv 1) .nil)) 0) .nil))))) (.seq (.ife (.op2 .eq (.bv 2) (.c (.int 0))) (.seq (.ret (.op2 .mul (.tup (.cons (.var 3) .nil)) (.bv 1))) .skip) .skip) law_deed_8))
def law_mixed_1 : DS := (.seq (.ret (.var 3)) .skip)
def law_mixed_2 : DE := (.op2 .ne (.bv 2) (.lst .nil))
def law_mixed_3 : DS := (.seq (.asg 3 (.op2 .add (.bv 3) (.tup (.cons (.pop 2 (.call "_law_take" (.cons (.bv 0) (.cons (.op1 .len (.bv 2)) .nil)) 0)) .nil)))) .skip)
def d_law_mixed : DS := (.seq (.parO 2 (.op1 .listOf (.bv 1)) [3] (.cons (.tup .nil) .nil)) (.seq (.whl law_mixed_2 law_mixed_3) law_mixed_1))
def law_bundle_1 : DS := (.seq (.ret (.tup (.cons (.var 1) (.cons (.var 4) (.cons (.op1 .tupOf (.op1 .sorted (.bv 8))) .nil))))) .skip)
def law_bundle_2 : DE := (.op2 .eq (.call "_law_take" (.cons (.bv 0) (.cons (.bv 7) .nil)) 0) (.c (.int 0)))
def law_bundle_3 : DE := (.tup (.cons (.op2 .idx (.bv 6) (.bv 5)) (.cons (.var 10) .nil)))
def law_bundle_4 : DS := (.seq (.asg 8 (.op2 .add (.bv 8) (.lc [10] (.op2 .from (.bv 6) (.op2 .add (.bv 5) (.c (.int 1)))) law_bundle_2 law_bundle_3 [10]))) .skip)
def law_bundle_5 : DS := (.seq (.tupa [6, 7, 8] (.tup (.cons (.call "_law_mixed" (.cons (.bv 0) (.cons (.rngL (.var 2)) .nil)) 0) (.cons (.call "_law_of" (.cons (.bv 0) (.cons (.lst (.cons (.c (.int 2)) (.cons (.c (.int 3)) (.cons (.c (.int 5)) (.cons (.c (.int 100)) .nil))))) .nil)) 0) (.cons (.lst .nil) .nil))))) (.seq (.for' [5] (.rng1 (.var 2)) law_bundle_4) law_bundle_1))
def law_bundle_6 : DE := (.call "_law_of" (.cons (.bv 0) (.cons (.op2 .add (.bv 3) (.lst (.cons (.call "_law_deed" (.cons (.bv 0) (.cons (.bv 1) .nil)) 0) .nil))) .nil)) 0)
def law_bundle_7 : DS := (.seq (.asg 4 (.op1 .tupOf (.lc [9] (.rng1 (.var 2)) (.c (.bool true)) law_bundle_6 [9]))) law_bundle_5)
def law_bundle_8 : DE := (.call "_law_deed" (.cons (.bv 0) (.cons (.bv 1) .nil)) 0)
def d_law_bundle : DS := (.seq (.asg 3 (.lc [9] (.rng1 (.op2 .add (.c (.int 1)) (.call "_law_of" (.cons (.bv 0) (.cons (.lst (.cons (.c (.int 0)) (.cons (.c (.int 1)) (.cons (.c (.int 2)) (.cons (.c (.int 3)) .nil))))) .nil)) 0))) (.c (.bool true)) law_bundle_8 [9])) law_bundle_7)
def d_law_any_bundle : DS := (.seq (.asg 2 (.call "_law_of" (.cons (.bv 0) (.cons (.lst (.cons (.c (.int 2)) (.cons (.c (.int 3)) (.cons (.c (.int 3)) (.cons (.c (.int 4)) (.cons (.c (.int 1)) .nil)))))) .nil)) 0)) (.seq (.ret (.call "_law_bundle" (.cons (.bv 0) (.cons (.bv 2) (.cons (.call "_law_of" (.cons (.bv 0) (.cons (.lst (.cons (.var 1) (.cons (.var 1) (.cons (.op2 .sub (.bv 1) (.c (.int 1))) (.cons (.call "_law_take" (.cons (.bv 0) (.cons (.op2 .add (.bv 1) (.c (.int 1))) .nil)) 0) .nil))))) .nil)) 0) .nil))) 0)) .skip))
def BagC (c : Ct) : Prop := ∃ x s : Int, c = .ls [.int x, .int s]
def sp_take : DSp := fun as k _ => ∃ (c : Ct) (n : Int), as = [.o c, .p (.int n)] ∧ BagC c ∧ 0 < n ∧ n < 1073741824 ∧ ∀ (r : Int) (c' : Ct), 0 ≤ r → r < n → BagC c' → k (.int r) [c']
theorem law_take {Γ : Gm} : ∀ as k x, sp_take as k x → semS Γ d_law_take (dkOf false as k x) (ro0 4 as) := by
  rintro as k x ⟨c, n, rfl, ⟨b, s, rfl⟩, h1, h2, hk⟩
  simp [d_law_take, law_take_1, ro0, idx0, idx1, CDiv, CMul]
  split
  · exact ⟨h1, ⟨h1, h2⟩, hk _ _ (Int.emod_nonneg _ (by omega)) (Int.emod_lt_of_pos _ h1) ⟨_, _, rfl⟩⟩
  · exact ⟨.inr ⟨by omega, by omega⟩, h1, hk _ _ (Int.emod_nonneg _ (by omega)) (Int.emod_lt_of_pos _ h1) ⟨_, _, rfl⟩⟩
def sp_of : DSp := fun as k _ => ∃ (c : Ct) (ds : List D), as = [.o c, .p (.list ds)] ∧ BagC c ∧ ds ≠ [] ∧ ds.length < 1073741824 ∧ ∀ (d : D) (c' : Ct), d ∈ ds → BagC c' → k d [c']
theorem law_of {Γ : Gm} (ht : Γ.fn "_law_take" = sp_take) (hf : Γ.fr "_law_take" = false) : ∀ as k x, sp_of as k x → semS Γ d_law_of (dkOf false as k x) (ro0 2 as) := by
  rintro as k x ⟨c, ds, rfl, hc, h1, h2, hk⟩
  simp [d_law_of, ro0, ht, hf, sp_take]
  refine ⟨c, ds.length, ⟨rfl, rfl⟩, hc, by have := List.length_pos_iff.mpr h1; omega, by omega, fun r c' r0 r1 hc' => ?_⟩
  obtain ⟨d, e1, e2, e3⟩ := idxN r0 r1
  exact ⟨d, e1, hk d c' e3 hc'⟩
end DL

end

section
namespace DL
open PySem PySem.Spec PyProof.Rows L2

@[simp] theorem eqv_int (a b : Int) : PyData.eqv (.int a) (.int b) = decide (a = b) := by
  simp only [PyData.eqv]
  rw [Bool.eq_iff_iff, beq_iff_eq, decide_eq_true_eq]
@[simp] theorem eqOk_int1 (a : Int) (e : D) : EqOk (.int a) e := .inl (Nat.zero_le 60)
@[simp] theorem eqOk_int2 (a : Int) (e : D) : EqOk e (.int a) := .inr (Nat.zero_le 60)
theorem mem_rangeD {lo : Int} {n : Nat} {d : D} (h : d ∈ rangeD lo n) : ∃ i : Int, d = .int i ∧ lo ≤ i ∧ i < lo + n := by
  unfold rangeD at h
  obtain ⟨j, h1, rfl⟩ := List.mem_map.mp h
  have := List.mem_range.mp h1
  exact ⟨_, rfl, by omega, by omega⟩
def MapZ (n : Int) (m : List Int) : Prop := (m.length : Int) = n ∧ ∀ i ∈ m, 0 ≤ i ∧ i < n
def sp_deed : DSp := fun as k _ => ∃ (c : Ct) (n : Int), as = [.o c, .p (.int n)] ∧ BagC c ∧ 1 ≤ n ∧ n ≤ 1000 ∧ ∀ (m : List Int) (c' : Ct), MapZ n m → BagC c' → k (.tuple (m.map .int)) [c']
/-- an int's work on data -/
def onI (f : Int → Int) : D → D
  | .int i => .int (f i)
  | d => d
theorem map_rangeD (f : Int → Int) (lo : Int) (n : Nat) : (rangeD lo n).map (onI f) = ((List.range n).map fun (i : Nat) => f (lo + (i : Nat))).map .int := by
  unfold rangeD
  rw [List.map_map, List.map_map]
  rfl
theorem filter_tt {α : Type} (l : List α) : l.filter (fun _ => true) = l := List.filter_eq_self.mpr fun _ _ => rfl
theorem mapZ_range {n : Int} (hn : 1 ≤ n) (f : Int → Int) (hf : ∀ i, 0 ≤ i → i < n → 0 ≤ f i ∧ f i < n) : MapZ n ((List.range n.toNat).map fun (i : Nat) => f (0 + (i : Nat))) := by
  refine ⟨by rw [List.length_map, List.length_range]; omega, fun i hi => ?_⟩
  obtain ⟨j, h1, rfl⟩ := List.mem_map.mp hi
  have := List.mem_range.mp h1
  exact hf _ (by omega) (by omega)
theorem law_deed {Γ : Gm} (ht : Γ.fn "_law_take" = sp_take) (hf : Γ.fr "_law_take" = false) : ∀ as k x, sp_deed as k x → semS Γ d_law_deed (dkOf false as k x) (ro0 7 as) := by
  rintro as k x ⟨c, n, rfl, hc, h1, h2, hk⟩
  simp [d_law_deed, ro0, ht, hf, sp_take]
  refine ⟨c, 5, ⟨rfl, rfl⟩, hc, by omega, by omega, fun way c1 w0 w1 b1 => ?_⟩
  refine ⟨c1, n, ⟨rfl, rfl⟩, b1, by omega, by omega, fun one c2 o0 o1 b2 => ?_⟩
  refine ⟨c2, n, ⟨rfl, rfl⟩, b2, by omega, by omega, fun other c3 q0 q1 b3 => ?_⟩
  have hz : (rangeD 0 n.toNat).length ≤ sizeLine := by rw [rangeD_len, sz]; omega
  split
  · refine ⟨h1, h2, ?_⟩
    have := hk (List.replicate n.toNat one) c3 ⟨by rw [List.length_replicate]; omega, fun i hi => by rw [(List.mem_replicate.mp hi).2]; exact ⟨o0, o1⟩⟩ b3
    rw [List.map_replicate] at this
    exact this
  simp [law_deed_8]
  split
  · refine ⟨by omega, lcL_map (onI fun i => (i + 1) % n) (fun _ => true) (fun y acc kk hy hl hkk => ?_) trivial hz ?_⟩
    · obtain ⟨i, rfl, z0, z1⟩ := mem_rangeD hy
      simp [law_deed_7]
      exact ⟨by omega, hl, hkk⟩
    · rw [filter_tt, map_rangeD]
      exact hk _ c3 (mapZ_range h1 (fun i => (i + 1) % n) fun i _ _ => ⟨Int.emod_nonneg _ (by omega), Int.emod_lt_of_pos _ (by omega)⟩) b3
  simp [law_deed_6]
  split
  · refine ⟨by omega, lcL_map (onI fun i => if i = one then other else if i = other then one else i) (fun _ => true) (fun y acc kk hy hl hkk => ?_) trivial hz ?_⟩
    · obtain ⟨i, rfl, z0, z1⟩ := mem_rangeD hy
      simp [law_deed_5]
      refine ⟨hl, ?_⟩
      have e : (lookD (mergeD [] [(Sum.inl one, PyData.int other), (Sum.inl other, PyData.int one)]) (Sum.inl i)).getD (PyData.int i) = onI (fun i => if i = one then other else if i = other then one else i) (.int i) := by
        show _ = PyData.int (if i = one then other else if i = other then one else i)
        by_cases e1 : one = other
        · subst e1
          by_cases e2 : i = one
          · subst e2
            simp [mergeD, putD, lookD]
          · have e3 : ¬ one = i := fun z => e2 z.symm
            simp [mergeD, putD, lookD, e2, e3]
        · have e1' : ¬ other = one := fun z => e1 z.symm
          by_cases e2 : i = one
          · subst e2
            simp [mergeD, putD, lookD, e1, e1']
          · have e3 : ¬ one = i := fun z => e2 z.symm
            by_cases e4 : i = other
            · subst e4
              simp [mergeD, putD, lookD, e1, e1', e2]
            · have e5 : ¬ other = i := fun z => e4 z.symm
              simp [mergeD, putD, lookD, e1, e1', e2, e3, e4, e5]
      rw [e]
      exact hkk
    · rw [filter_tt, map_rangeD]
      exact hk _ c3 (mapZ_range h1 (fun i => if i = one then other else if i = other then one else i) fun i _ _ => by split <;> (try split) <;> omega) b3
  simp [law_deed_4]
  split
  · refine ⟨by omega, lcL_map (onI fun i => if i = one then other else i) (fun _ => true) (fun y acc kk hy hl hkk => ?_) trivial hz ?_⟩
    · obtain ⟨i, rfl, z0, z1⟩ := mem_rangeD hy
      simp [law_deed_3]
      by_cases e : i = one
      · simp only [onI, e, if_pos] at hkk ⊢
        simpa using ⟨hl, hkk⟩
      · simp only [onI, e, if_neg] at hkk ⊢
        simpa [e] using ⟨hl, hkk⟩
    · rw [filter_tt, map_rangeD]
      exact hk _ c3 (mapZ_range h1 (fun i => if i = one then other else i) fun i _ _ => by split <;> omega) b3
  simp [law_deed_2]
  · refine ⟨by omega, lcL_ind (fun ys acc ρ => ∃ (m : List Int) (c' : Ct), acc = m.map .int ∧ BagC c' ∧ m.length + ys.length = n.toNat ∧ (∀ i ∈ m, 0 ≤ i ∧ i < n) ∧ ρ = [Sl.o false c', Sl.p (PyData.int n), Sl.p (PyData.int way), Sl.p (PyData.int one), Sl.p (PyData.int other), Sl.un, Sl.un]) ?_ (fun _ _ _ _ => trivial) ?_ ⟨[], c3, rfl, b3, by rw [rangeD_len]; simp, by simp, rfl⟩⟩
    · rintro y ys acc ρ kk ⟨m, c', rfl, bc, hl, hm, rfl⟩ hkk
      simp [law_deed_1, ht, hf, sp_take]
      have hl' : m.length + (ys.length + 1) = n.toNat := hl
      refine ⟨c', n, ⟨rfl, rfl⟩, bc, by omega, by omega, fun r c2' r0 r1 bc' => ⟨by rw [sz]; omega, hkk _ _ ⟨m ++ [r], c2', by rw [List.map_append]; rfl, bc', ?_, fun i hi => ?_, rfl⟩⟩⟩
      · rw [List.length_append, List.length_singleton]; omega
      · rcases List.mem_append.mp hi with z | z
        · exact hm i z
        · rw [List.mem_singleton.mp z]; exact ⟨r0, r1⟩
    · rintro acc ρ ⟨m, c', rfl, bc, hl, hm, rfl⟩
      simp
      exact hk _ _ ⟨by simp at hl; omega, hm⟩ bc
end DL

end

section
namespace DL
open PySem PySem.Spec PyProof.Rows L2

theorem whlP_ind {t : SE} {b : DK → Ro → Prop} {K : DK} {ρ : Ro} (I : Nat → Ro → Prop) (m : Nat) (h0 : I m ρ) (step : ∀ m ρ (nx : Ro → Prop), I m ρ → (∀ m' ρ', m' < m → I m' ρ' → nx ρ') → t ρ (kOfB fun c ρ1 => if c = true
      then b { K with nx := nx, ct := nx, bk := K.nx } ρ1 else K.nx ρ1) K.ex) : whlP t b K ρ :=
  ⟨I, ⟨m, h0⟩, fun m ρ h => step m ρ _ h fun m' ρ' h1 h2 => ⟨m', h1, h2⟩⟩
@[simp] theorem eqv_lnil (l : List D) : PyData.eqv (.list l) (.list []) = l.isEmpty := by
  cases l <;> simp [PyData.eqv, PyData.eqvAll]
@[simp] theorem eqOk_lnil (d : D) : EqOk d (.list []) := .inr (by simp [PyData.depth, PyData.depthAll])
def sp_mixed : DSp := fun as k _ => ∃ (c : Ct) (ds : List D), as = [.o c, .p (.list ds)] ∧ BagC c ∧ ds.length ≤ 1000 ∧ ∀ (es : List D) (c' : Ct), es.Perm ds → BagC c' → k (.tuple es) [c']
theorem erase_perm {α : Type} : ∀ {l : List α} {i : Nat} {y : α}, l[i]? = some y → (y :: l.eraseIdx i).Perm l
  | [], i, y, h => by simp at h
  | a :: l, 0, y, h => by
    simp at h
    subst h
    exact List.Perm.refl _
  | a :: l, i + 1, y, h => by
    have h : l[i]? = some y := by simpa using h
    exact (List.Perm.swap a y _).trans ((erase_perm h).cons a)
theorem law_mixed {Γ : Gm} (ht : Γ.fn "_law_take" = sp_take) (hf : Γ.fr "_law_take" = false) : ∀ as k x, sp_mixed as k x → semS Γ d_law_mixed (dkOf false as k x) (ro0 4 as) := by
  rintro as k x ⟨c, ds, rfl, hc, hz, hk⟩
  simp [d_law_mixed, ro0]
  refine whlP_ind (fun m ρ => ∃ (left found : List D) (c' : Ct), m = left.length ∧ BagC c' ∧ (found ++ left).Perm ds ∧ ρ = [Sl.o false c', Sl.p (.list ds), Sl.o true (.ls left), Sl.p (.tuple found)]) ds.length ⟨ds, [], c, rfl, hc, List.Perm.refl _, rfl⟩ ?_
  rintro m ρ nx ⟨left, found, c', rfl, bc, hp, rfl⟩ hn
  have hl := hp.length_eq
  rw [List.length_append] at hl
  cases left with
  | nil =>
    simp [law_mixed_2, law_mixed_1]
    exact hk found c' (by simpa using hp) bc
  | cons a left =>
    simp [law_mixed_2, law_mixed_3, ht, hf, sp_take]
    rw [List.length_cons] at hl
    refine ⟨c', (left.length : Int) + 1, ⟨rfl, rfl⟩, bc, by omega, by omega, fun r c2 r0 r1 bc2 => ⟨⟨r0, by omega⟩, ?_⟩⟩
    have hr : r.toNat < (a :: left).length := by rw [List.length_cons]; omega
    obtain ⟨y, ey⟩ : ∃ y, (a :: left)[r.toNat]? = some y := ⟨_, List.getElem?_eq_getElem hr⟩
    refine ⟨y, ey, by rw [sz]; omega, hn ((a :: left).eraseIdx r.toNat).length _ ?_ ⟨(a :: left).eraseIdx r.toNat, found ++ [y], c2, rfl, bc2, ?_, rfl⟩⟩
    · rw [List.length_eraseIdx_of_lt hr]
      simp
    · rw [List.append_assoc]
      exact ((List.perm_append_left_iff found).mpr (erase_perm ey)).trans hp
end DL

end

section
namespace DL
open PySem PySem.Spec PyProof.Rows L2

/-! ### rows of ints, sorted -/
def T (ns : List Int) : D := .tuple (ns.map .int)
theorem lt_T (xs ys : List Int) : PySem.W.dataLt (T xs) (T ys) = decide (xs < ys) := by
  unfold T
  rw [PySem.W.dataLt_tuple]
  exact PySem.W.dataLt_ints xs ys
theorem le_T (xs ys : List Int) : PySem.W.dataLe false id (T xs) (T ys) = decide (xs ≤ ys) := by
  rw [PySem.W.dataLe_eq]
  show (!PySem.W.dataLt (T ys) (T xs)) = _
  rw [lt_T]
  by_cases h : ys < xs
  · have h' : ¬ xs ≤ ys := fun q => List.not_lt.mpr q h
    simp [h, h']
  · have h' : xs ≤ ys := List.not_lt.mp h
    simp [h, h']
def sortRows (rs : List (List Int)) : List (List Int) := rs.mergeSort fun a b => decide (a ≤ b)
theorem sortD_T (rs : List (List Int)) : sortD (rs.map T) = (sortRows rs).map T := by
  unfold sortD sortRows
  rw [List.map_mergeSort fun a _ b _ => (le_T a b).symm]
theorem sortRows_perm (rs : List (List Int)) : (sortRows rs).Perm rs := List.mergeSort_perm _ _
theorem sortRows_pw (rs : List (List Int)) : (sortRows rs).Pairwise (· ≤ ·) := by
  have h := List.pairwise_mergeSort (le := fun (a b : List Int) => decide (a ≤ b)) (fun a b c h1 h2 => by
    simp only [decide_eq_true_eq] at h1 h2 ⊢
    exact List.le_trans h1 h2) (fun a b => by
    rw [Bool.or_eq_true, decide_eq_true_eq, decide_eq_true_eq]
    exact List.le_total a b) rs
  exact h.imp fun z => by simpa using z
theorem sortRows_lt {rs : List (List Int)} (nd : rs.Nodup) : (sortRows rs).Pairwise (· < ·) := by
  have h2 : (sortRows rs).Nodup := (sortRows_perm rs).nodup_iff.mpr nd
  refine (sortRows_pw rs).imp₂ (fun a b h1 h2 => ?_) h2
  rcases Classical.em (a < b) with z | z
  · exact z
  · exact absurd (List.le_antisymm h1 (List.not_lt.mp z)) h2
theorem alike_ints : ∀ (xs ys : List Int), PySem.W.alikeAll (xs.map .int) (ys.map .int) = true
  | [], _ => by simp [PySem.W.alikeAll]
  | _ :: _, [] => by simp [PySem.W.alikeAll]
  | x :: xs, y :: ys => by
    rw [List.map_cons, List.map_cons, PySem.W.alikeAll, alike_ints xs ys]
    simp [PySem.W.alike]
theorem depth_ints : ∀ (xs : List Int), PyData.depthAll (xs.map .int) = 0
  | [] => rfl
  | x :: xs => by
    rw [List.map_cons, PyData.depthAll, depth_ints xs]
    rfl
@[simp] theorem depth_T (xs : List Int) : (T xs).depth = 1 := by
  unfold T
  rw [PyData.depth, depth_ints]
theorem sortOk_T {rs : List (List Int)} (h : 2 ≤ rs.length → ∀ r ∈ rs, r ≠ []) : SortOk (rs.map T) := by
  refine ⟨fun d hd => ?_, fun h2 => ⟨fun d hd e he => ?_, .inl fun d hd => ?_⟩⟩
  · obtain ⟨r, _, rfl⟩ := List.mem_map.mp hd
    rw [depth_T]
    omega
  · obtain ⟨r, _, rfl⟩ := List.mem_map.mp hd
    obtain ⟨r', _, rfl⟩ := List.mem_map.mp he
    unfold T
    rw [PySem.W.alike]
    exact alike_ints r r'
  · obtain ⟨r, hr, rfl⟩ := List.mem_map.mp hd
    have := h (by rw [List.length_map] at h2; exact h2) r hr
    cases r with
    | nil => exact absurd rfl this
    | cons x r => exact ⟨_, _, rfl⟩
/-! ### bundles -/
structure Bun where
  n : Int
  maps : List (List Int)
  known : List (List Int)
def Before (o : List Int) (a b : Int) : Prop := ∃ i j : Nat, i < j ∧ o[i]? = some a ∧ o[j]? = some b
def rangeI (m : Nat) : List Int := (List.range m).map fun (i : Nat) => (i : Int)
structure BunOk (B : Bun) : Prop where
  n1 : 1 ≤ B.n
  n4 : B.n ≤ 4
  m6 : B.maps.length ≤ 6
  maps : ∀ m ∈ B.maps, MapZ B.n m
  known : B.known.Pairwise (· < ·)
  lin : ∃ o : List Int, o.Perm (rangeI B.maps.length) ∧ ∀ p ∈ B.known, ∃ a b, p = [a, b] ∧ Before o a b
def Bun.d (B : Bun) : D := .tuple [.int B.n, .tuple (B.maps.map T), .tuple (B.known.map T)]
def sp_bundle : DSp := fun as k _ => ∃ (c : Ct) (n m : Int), as = [.o c, .p (.int n), .p (.int m)] ∧ BagC c ∧ (1 ≤ n ∧ n ≤ 4) ∧ (0 ≤ m ∧ m ≤ 6) ∧ ∀ (B : Bun) (c' : Ct), BunOk B → B.n = n → (B.maps.length : Int) = m → BagC c' → k B.d [c']
theorem perm_map_inv {α β : Type} {f : α → β} {g : β → α} (hg : ∀ a, g (f a) = a) {l : List α} {es : List β} (h : es.Perm (l.map f)) : ∃ l' : List α, es = l'.map f ∧ l'.Perm l := by
  refine ⟨es.map g, ?_, ?_⟩
  · rw [List.map_map]
    have : es.map (f ∘ g) = es.map id := List.map_congr_left fun e he => by
      obtain ⟨a, _, rfl⟩ := List.mem_map.mp (h.mem_iff.mp he)
      show f (g (f a)) = f a
      rw [hg]
    rw [this, List.map_id]
  · have := h.map g
    rw [List.map_map] at this
    refine this.trans (List.Perm.of_eq ?_)
    rw [show (g ∘ f) = id from funext hg, List.map_id]
def toI : D → Int
  | .int i => i
  | _ => 0
theorem rangeD_I (m : Nat) : rangeD 0 m = (rangeI m).map .int := by
  unfold rangeD rangeI
  rw [List.map_map]
  refine List.map_congr_left fun i _ => ?_
  show PyData.int (0 + (i : Int)) = PyData.int (i : Int)
  rw [Int.zero_add]
theorem rangeI_nodup (m : Nat) : (rangeI m).Nodup := by
  unfold rangeI List.Nodup
  rw [List.pairwise_map]
  exact List.nodup_range.imp fun h e => h (Int.ofNat.inj e)
theorem rangeD_succ (lo : Int) (n : Nat) : rangeD lo (n + 1) = .int lo :: rangeD (lo + 1) n := by
  unfold rangeD
  rw [List.range_succ_eq_map, List.map_cons, List.map_map]
  congr 1
  · simp
  · refine List.map_congr_left fun i _ => ?_
    show PyData.int (lo + ((i + 1 : Nat) : Int)) = PyData.int (lo + 1 + (i : Int))
    congr 1
    omega
theorem atI_nat {α : Type} {l : List α} {i : Nat} (h : i < l.length) : atI l (i : Int) = l[i]? := by
  unfold atI ixN
  rw [if_pos (by omega), if_pos (by omega)]
  rfl
theorem dropI_nat (n i : Nat) (h : i ≤ n) : dropI n (i : Int) = i := by
  show HT.sIx n 0 (some (i : Int)) = i
  rw [HT.sIx_nat]
  omega
theorem law_bundle {Γ : Gm} (h1 : Γ.fn "_law_take" = sp_take) (f1 : Γ.fr "_law_take" = false) (h2 : Γ.fn "_law_of" = sp_of) (f2 : Γ.fr "_law_of" = false) (h3 : Γ.fn "_law_deed" = sp_deed) (f3 : Γ.fr "_law_deed" = false) (h4 : Γ.fn "_law_mixed" = sp_mixed) (f4 : Γ.fr "_law_mixed" = false) :
    ∀ as k x, sp_bundle as k x → semS Γ d_law_bundle (dkOf false as k x) (ro0 11 as) := by
  rintro as k x ⟨c, n, m, rfl, hc, ⟨n1, n4⟩, ⟨m0, m6⟩, hk⟩
  simp [d_law_bundle, ro0, h2, f2, sp_of]
  refine ⟨c, _, ⟨rfl, rfl⟩, hc, by simp, by simp, fun d c1 hd b1 => ?_⟩
  obtain ⟨t, rfl, t0, t3⟩ : ∃ t : Int, d = .int t ∧ 0 ≤ t ∧ t ≤ 3 := by
    simp at hd
    rcases hd with rfl | rfl | rfl | rfl <;> exact ⟨_, rfl, by omega, by omega⟩
  simp
  refine ⟨by omega, lcL_ind (fun ys acc ρ => ∃ (ms : List (List Int)) (c' : Ct), acc = ms.map T ∧ BagC c' ∧ ms.length + ys.length = (1 + t).toNat ∧ (∀ q ∈ ms, MapZ n q) ∧ ρ = [Sl.o false c', Sl.p (.int n), Sl.p (.int m), .un, .un, .un, .un, .un, .un, .un, .un]) ?_ (fun _ _ _ _ => trivial) ?_ ⟨[], c1, rfl, b1, by rw [rangeD_len]; simp, by simp, rfl⟩⟩
  · rintro y ys acc ρ kk ⟨ms, c', rfl, bc, hl, hm, rfl⟩ hkk
    rw [List.length_cons] at hl
    simp [law_bundle_8, h3, f3, sp_deed]
    refine ⟨c', n, ⟨rfl, rfl⟩, bc, n1, by omega, fun q c2 hq b2 => ⟨by rw [sz]; omega, hkk _ _ ⟨ms ++ [q], c2, by rw [List.map_append]; rfl, b2, ?_, fun r hr => ?_, rfl⟩⟩⟩
    · rw [List.length_append, List.length_singleton]; omega
    · rcases List.mem_append.mp hr with z | z
      · exact hm r z
      · rw [List.mem_singleton.mp z]; exact hq
  rintro acc ρ ⟨pool, c2, rfl, b2, hl, hpool, rfl⟩
  have hpl : pool.length ≤ 4 := by simp at hl; omega
  simp [law_bundle_7]
  refine ⟨by omega, lcL_ind (fun ys acc ρ => ∃ (ms : List (List Int)) (c' : Ct), acc = ms.map T ∧ BagC c' ∧ ms.length + ys.length = m.toNat ∧ (∀ q ∈ ms, MapZ n q) ∧ ρ = [Sl.o false c', Sl.p (.int n), Sl.p (.int m), Sl.p (.list (pool.map T)), .un, .un, .un, .un, .un, .un, .un]) ?_ (fun _ _ _ _ => trivial) ?_ ⟨[], c2, rfl, b2, by rw [rangeD_len]; simp, by simp, rfl⟩⟩
  · rintro y ys acc ρ kk ⟨ms, c', rfl, bc, hl, hm, rfl⟩ hkk
    rw [List.length_cons] at hl
    simp [law_bundle_6, h2, f2, sp_of, h3, f3, sp_deed]
    refine ⟨c', n, ⟨rfl, rfl⟩, bc, n1, by omega, fun q c2 hq b2 => ⟨by rw [sz]; omega, c2, _, ⟨rfl, rfl⟩, b2, by simp, by simp; omega, fun d c3 hd b3 => ⟨by rw [sz]; omega, ?_⟩⟩⟩
    obtain ⟨r, rfl, hr⟩ : ∃ r, d = T r ∧ MapZ n r := by
      rcases List.mem_append.mp hd with z | z
      · obtain ⟨r, hr, rfl⟩ := List.mem_map.mp z
        exact ⟨r, rfl, hpool r hr⟩
      · exact ⟨q, List.mem_singleton.mp z, hq⟩
    refine hkk _ _ ⟨ms ++ [r], c3, by rw [List.map_append]; rfl, b3, ?_, fun u hu => ?_, rfl⟩
    · rw [List.length_append, List.length_singleton]; omega
    · rcases List.mem_append.mp hu with z | z
      · exact hm u z
      · rw [List.mem_singleton.mp z]; exact hr
  rintro acc ρ ⟨ms, c3, rfl, b3, hl, hms, rfl⟩
  have hml : (ms.length : Int) = m := by simp at hl; omega
  simp [law_bundle_5, h4, f4, sp_mixed, h2, f2, sp_of]
  refine ⟨by omega, c3, _, ⟨rfl, rfl⟩, b3, by rw [rangeD_len]; omega, fun es c4 hp b4 => ⟨c4, _, ⟨rfl, rfl⟩, b4, by simp, by simp, fun d c5 hd b5 => ⟨by omega, ?_⟩⟩⟩
  rw [rangeD_I] at hp
  obtain ⟨os, rfl, ho⟩ := perm_map_inv (g := toI) (fun _ => rfl) hp
  have hol : os.length = m.toNat := by rw [ho.length_eq]; unfold rangeI; rw [List.length_map, List.length_range]
  have ond : os.Nodup := ho.nodup_iff.mpr (rangeI_nodup _)
  obtain ⟨part, rfl, p2⟩ : ∃ t : Int, d = .int t ∧ 2 ≤ t ∧ t ≤ 100 := by
    simp at hd
    rcases hd with rfl | rfl | rfl | rfl <;> exact ⟨_, rfl, by omega, by omega⟩
  refine forL_ind (fun ys ρ => ∃ (i : Nat) (pairs : List (List Int)) (c' : Ct) (s5 : Sl), ys = rangeD (i : Int) (m.toNat - i) ∧ i ≤ m.toNat ∧ BagC c' ∧ pairs.Nodup ∧ pairs.length ≤ 6 * i ∧ (∀ p ∈ pairs, ∃ (u v : Nat) (a b : Int), p = [a, b] ∧ u < i ∧ u < v ∧ os[u]? = some a ∧ os[v]? = some b) ∧
    ρ = [Sl.o false c', Sl.p (.int n), Sl.p (.int m), Sl.p (.list (pool.map T)), Sl.p (.tuple (ms.map T)), s5, Sl.p (.tuple (os.map .int)), Sl.p (.int part), Sl.p (.list (pairs.map T)), .un, .un]) ?_ ?_ ⟨0, [], c5, .un, by simp, by omega, b5, List.nodup_nil, by simp, by simp, rfl⟩
  · rintro y ys ρ nx ⟨i, pairs, c', s5, hy, hi, bc, pnd, pl, hpr, rfl⟩ hnx
    have hlt : i < m.toNat := by
      rcases Nat.lt_or_ge i m.toNat with z | z
      · exact z
      · exfalso
        have : m.toNat - i = 0 := by omega
        rw [this] at hy
        exact nomatch hy
    rw [show m.toNat - i = (m.toNat - (i + 1)) + 1 by omega, rangeD_succ] at hy
    obtain ⟨rfl, rfl⟩ := List.cons.inj hy
    simp [law_bundle_4]
    obtain ⟨a0, ea⟩ : ∃ a, os[i]? = some a := ⟨os[i]'(by omega), List.getElem?_eq_getElem (by omega)⟩
    have edr : dropI os.length ((i : Int) + 1) = i + 1 := dropI_nat os.length (i + 1) (by omega)
    rw [edr, ← List.map_drop]
    refine lcL_ind (fun zs acc ρ => ∃ (done rest sub : List Int) (c2 : Ct), os.drop (i + 1) = done ++ rest ∧ zs = rest.map .int ∧ sub.Sublist done ∧ acc = (sub.map fun b => [a0, b]).map T ∧ BagC c2 ∧
      ρ = [Sl.o false c2, Sl.p (.int n), Sl.p (.int m), Sl.p (.list (pool.map T)), Sl.p (.tuple (ms.map T)), Sl.p (.int i), Sl.p (.tuple (os.map .int)), Sl.p (.int part), Sl.p (.list (pairs.map T)), .un, .un]) ?_ (fun _ _ _ _ => trivial) ?_ ⟨[], _, [], c', rfl, rfl, List.Sublist.refl _, rfl, bc, rfl⟩
    · rintro z zs acc ρ kk ⟨done, rest, sub, c2, e1, e2, e3, rfl, b2, rfl⟩ hkk
      cases rest with
      | nil => cases e2
      | cons b rest =>
        obtain ⟨rfl, rfl⟩ := List.cons.inj e2
        have hdl : done.length + (rest.length + 1) ≤ 6 := by
          have := congrArg List.length e1
          rw [List.length_drop, List.length_append, List.length_cons] at this
          omega
        have hsl := e3.length_le
        simp [law_bundle_2, h1, f1, sp_take]
        refine ⟨c2, part, ⟨rfl, rfl⟩, b2, by omega, by omega, fun r c3 r0 r1 b3 => ?_⟩
        have ex : os.drop (i + 1) = (done ++ [b]) ++ rest := by rw [e1, List.append_assoc]; rfl
        split
        · simp [law_bundle_3]
          refine ⟨.int a0, ?_, by rw [sz]; omega, ?_⟩
          · rw [atI_nat (by rw [List.length_map]; omega), List.getElem?_map, ea]
            rfl
          · have := hkk ((sub ++ [b]).map (fun b => [a0, b]) |>.map T) _ ⟨done ++ [b], rest, sub ++ [b], c3, ex, rfl, e3.append (List.Sublist.refl _), rfl, b3, rfl⟩
            simpa [T] using this
        · exact hkk _ _ ⟨done ++ [b], rest, sub, c3, ex, rfl, e3.trans (List.sublist_append_left _ _), by rw [List.map_map], b3, rfl⟩
    · rintro acc ρ ⟨done, rest, sub, c2, e1, e2, e3, rfl, b2, rfl⟩
      have er : rest = [] := by
        cases rest with
        | nil => rfl
        | cons a r => cases e2
      subst er
      rw [List.append_nil] at e1
      subst e1
      have hsl := e3.length_le
      rw [List.length_drop] at hsl
      simp
      refine ⟨by rw [sz]; omega, hnx _ ⟨i + 1, pairs ++ sub.map fun b => [a0, b], c2, .p (.int i), by simp, by omega, b2, ?_, ?_, fun p hp => ?_, by simp⟩⟩
      · refine List.nodup_append.mpr ⟨pnd, ?_, fun p hp q hq e => ?_⟩
        · refine List.Pairwise.map _ (fun a b h e => h (by simpa using e)) (?_ : sub.Pairwise (· ≠ ·))
          exact (ond.sublist (List.drop_sublist _ _)).sublist e3
        · subst e
          obtain ⟨u, v, a, b, rfl, h1, h2, h3, h4⟩ := hpr _ hp
          obtain ⟨b', _, eb⟩ := List.mem_map.mp hq
          have : a = a0 := by
            have := eb
            simp at this
            exact this.1.symm
          subst this
          have hu := (List.getElem?_inj (by omega) ond).mp (h3.trans ea.symm)
          omega
      · rw [List.length_append, List.length_map]; omega
      · rcases List.mem_append.mp hp with z | z
        · obtain ⟨u, v, a, b, rfl, h1, h2, h3, h4⟩ := hpr _ z
          exact ⟨u, v, a, b, rfl, by omega, h2, h3, h4⟩
        · obtain ⟨b, hb, rfl⟩ := List.mem_map.mp z
          have hb := e3.subset hb
          obtain ⟨w, hw⟩ := List.mem_iff_getElem?.mp hb
          rw [List.getElem?_drop] at hw
          exact ⟨i, i + 1 + w, a0, b, rfl, by omega, by omega, ea, hw⟩
  · rintro ρ ⟨i, pairs, c', s5, hy, hi, bc, pnd, pl, hpr, rfl⟩
    simp [law_bundle_1]
    refine ⟨sortOk_T fun _ r hr => ?_, ?_⟩
    · obtain ⟨u, v, a, b, rfl, _⟩ := hpr r hr
      simp
    · rw [sortD_T]
      refine hk ⟨n, ms, sortRows pairs⟩ c' ⟨n1, n4, by show ms.length ≤ 6; omega, hms, sortRows_lt pnd, os, ?_, fun p hp => ?_⟩ rfl hml bc
      · show os.Perm (rangeI ms.length)
        rw [show ms.length = m.toNat by omega]
        exact ho
      · obtain ⟨u, v, a, b, rfl, h1, h2, h3, h4⟩ := hpr p ((sortRows_perm pairs).mem_iff.mp hp)
        exact ⟨a, b, rfl, u, v, h2, h3, h4⟩
end DL

end

section
namespace DL
open PySem PySem.Spec PyProof.Rows L2

def sp_any : DSp := fun as k _ => ∃ (c : Ct) (m : Int), as = [.o c, .p (.int m)] ∧ BagC c ∧ 1 ≤ m ∧ m ≤ 6 ∧ ∀ (B : Bun) (c' : Ct), BunOk B → (B.maps.length : Int) ≤ m → BagC c' → k B.d [c']
theorem law_any {Γ : Gm} (h1 : Γ.fn "_law_take" = sp_take) (f1 : Γ.fr "_law_take" = false) (h2 : Γ.fn "_law_of" = sp_of) (f2 : Γ.fr "_law_of" = false) (h3 : Γ.fn "_law_bundle" = sp_bundle) (f3 : Γ.fr "_law_bundle" = false) :
    ∀ as k x, sp_any as k x → semS Γ d_law_any_bundle (dkOf false as k x) (ro0 3 as) := by
  rintro as k x ⟨c, m, rfl, hc, m1, m6, hk⟩
  simp [d_law_any_bundle, ro0, h2, f2, sp_of]
  refine ⟨c, _, ⟨rfl, rfl⟩, hc, by simp, by simp, fun d c1 hd b1 => ?_⟩
  obtain ⟨n, rfl, n1, n4⟩ : ∃ t : Int, d = .int t ∧ 1 ≤ t ∧ t ≤ 4 := by
    simp at hd
    rcases hd with rfl | rfl | rfl | rfl <;> exact ⟨_, rfl, by omega, by omega⟩
  simp [h3, f3, sp_bundle, h1, f1, sp_take]
  refine ⟨c1, m + 1, ⟨rfl, rfl⟩, b1, by omega, by omega, fun r c2 r0 r1 b2 => ?_⟩
  refine ⟨c2, _, ⟨rfl, rfl⟩, b2, by simp, by simp, fun d c3 hd b3 => ?_⟩
  obtain ⟨q, rfl, q0, q1⟩ : ∃ t : Int, d = .int t ∧ 0 ≤ t ∧ t ≤ m := by
    simp at hd
    rcases hd with rfl | rfl | rfl <;> exact ⟨_, rfl, by omega, by omega⟩
  refine ⟨c3, n, q, ⟨rfl, rfl, rfl⟩, b3, ⟨n1, n4⟩, ⟨q0, by omega⟩, fun B c4 hB hn hm b4 => hk B c4 hB (by omega) b4⟩
/-- the script's first numbers -/
def sp_bag : DSp := fun as k _ => ∃ (ns : List Int) (i : Int), as = [.sc ns, .p (.int i)] ∧ 0 ≤ i ∧ i < 1000 ∧ ∀ (x s : Int), k (.list [.int x, .int s]) []
theorem law_bag2 {Γ : Gm} {ns : List Int} {i cell : Int} (i0 : 0 ≤ i) (i1 : i < 1000) (K : DK) (hk : ∀ (x s : Int) ρ, K.rtf (.list [.int x, .int s]) ρ) : semS Γ law_bag_2 K [Sl.sc ns, Sl.p (.int i), Sl.p (.int cell), .un, .un] := by
  simp only [law_bag_2, law_bag_1, semS, semE, semO, semA, okSl, rs, pre2, s1, s2, sII, sMul, sIntOf, sAdd, sLt, kOfB, List.getElem?_cons_zero, List.getElem?_cons_succ, List.set_cons_zero, List.set_cons_succ, true_and]
  refine ⟨by omega, .inr ⟨by omega, by omega⟩, .inl ⟨by omega, by omega⟩, .inr ⟨by omega, by omega⟩, .inl ⟨by omega, by omega⟩, by omega, ⟨by omega, by omega, by decide⟩, ?_⟩
  split
  · exact ⟨by simp, hk _ _ _⟩
  · exact ⟨by simp, hk _ _ _⟩
theorem law_bag {Γ : Gm} : ∀ as k x, sp_bag as k x → semS Γ d_law_bag (dkOf true as k x) (ro0 5 as) := by
  rintro as k x ⟨ns, i, rfl, i0, i1, hk⟩
  simp [d_law_bag, ro0]
  split
  · rename_i hlt
    obtain ⟨v, e1, e2, e3⟩ := idxN (ds := ns) i0 hlt
    exact ⟨v, e1, ⟨by omega, by omega, by decide⟩, law_bag2 i0 i1 _ fun x s ρ => hk x s⟩
  · exact law_bag2 i0 i1 _ fun x s ρ => hk x s
end DL

end

section
namespace DL
open PySem PySem.Spec PyProof.Rows L2

def d_is_integer : DS := (.seq (.ret (.and (.op1 .isInt (.bv 0)) (.and (.not (.op1 .isBool (.bv 0))) (.chain .le .le (.var 1) (.var 0) (.var 2))))) .skip)
def is_map_1 : DE := (.call "is_integer" (.cons (.bv 2) (.cons (.c (.int 0)) (.cons (.op2 .sub (.bv 0) (.c (.int 1))) .nil))) 0)
def is_map_2 : DS := (.seq (.ret (.op1 .all (.lc [2] (.bv 1) (.c (.bool true)) is_map_1 [2]))) .skip)
def d_is_map : DS := (.seq (.ife (.or (.not (.op1 .isTup (.bv 1))) (.op2 .ne (.op1 .len (.bv 1)) (.bv 0))) (.seq (.ret (.c (.bool false))) .skip) .skip) is_map_2)
def is_pair_1 : DE := (.call "is_integer" (.cons (.bv 2) (.cons (.c (.int 0)) (.cons (.op2 .sub (.bv 1) (.c (.int 1))) .nil))) 0)
def d_is_pair : DS := (.seq (.ret (.and (.op1 .isTup (.bv 0)) (.and (.op2 .eq (.op1 .len (.bv 0)) (.c (.int 2))) (.op1 .all (.lc [2] (.bv 0) (.c (.bool true)) is_pair_1 [2]))))) .skip)
def ascends_1 : DE := (.op2 .lt (.bv 1) (.bv 2))
def d_ascends : DS := (.seq (.ret (.op1 .all (.lc [1, 2] (.zip (.var 0) (.op2 .from (.bv 0) (.c (.int 1)))) (.c (.bool true)) ascends_1 [1, 2]))) .skip)
def orders_of_1 : DS := (.seq (.ret (.var 2)) .skip)
def orders_of_2 : DS := (.seq (.asg 2 (.var 4)) .skip)
def orders_of_3 : DE := (.op2 .inn (.bv 8) (.bv 5))
def orders_of_4 : DS := (.seq (.ife (.and (.op2 .nin (.bv 6) (.bv 5)) (.op1 .all (.lc [8] (.bv 7) (.c (.bool true)) orders_of_3 [8]))) (.seq (.app 4 (.op2 .add (.bv 5) (.tup (.cons (.var 6) .nil)))) .skip) .skip) .skip)
def orders_of_5 : DE := (.op2 .eq (.bv 9) (.bv 6))
def orders_of_6 : DS := (.seq (.asg 7 (.lc [8, 9] (.bv 1) orders_of_5 (.var 8) [8, 9])) orders_of_4)
def orders_of_7 : DS := (.seq (.for' [6] (.rng1 (.var 0)) orders_of_6) .skip)
def orders_of_8 : DS := (.seq (.own 4 (.lst .nil)) (.seq (.for' [5] (.var 2) orders_of_7) orders_of_2))
def d_orders_of : DS := (.seq (.asg 2 (.lst (.cons (.tup .nil) .nil))) (.seq (.for' [3] (.rng1 (.var 0)) orders_of_8) orders_of_1))
def is_bundle_1 : DS := (.seq (.ret (.and (.call "ascends" (.cons (.bv 3) .nil) 0) (.op2 .ne (.call "orders_of" (.cons (.op1 .len (.bv 2)) (.cons (.bv 3) .nil)) 0) (.lst .nil)))) .skip)
def is_bundle_2 : DE := (.call "is_pair" (.cons (.bv 5) (.cons (.op1 .len (.bv 2)) .nil)) 0)
def is_bundle_3 : DS := (.seq (.ife (.or (.not (.op1 .isTup (.bv 3))) (.not (.op1 .all (.lc [5] (.bv 3) (.c (.bool true)) is_bundle_2 [5])))) (.seq (.ret (.c (.bool false))) .skip) .skip) is_bundle_1)
def is_bundle_4 : DE := (.call "is_map" (.cons (.bv 1) (.cons (.bv 4) .nil)) 0)
def is_bundle_5 : DS := (.seq (.tupa [1, 2, 3] (.var 0)) (.seq (.ife (.or (.not (.op1 .isTup (.bv 2))) (.or (.op2 .gt (.op1 .len (.bv 2)) (.gl "MOST_DEEDS")) (.not (.op1 .all (.lc [4] (.bv 2) (.c (.bool true)) is_bundle_4 [4]))))) (.seq (.ret (.c (.bool false))) .skip) .skip) is_bundle_3))
def d_is_bundle : DS := (.seq (.ife (.or (.not (.op1 .isTup (.bv 0))) (.or (.op2 .ne (.op1 .len (.bv 0)) (.c (.int 3))) (.not (.call "is_integer" (.cons (.op2 .idx (.bv 0) (.c (.int 0))) (.cons (.c (.int 1)) (.cons (.gl "MOST_SIZE") .nil))) 0)))) (.seq (.ret (.c (.bool false))) .skip) .skip) is_bundle_5)
def d_all_orders : DS := (.seq (.ret (.call "orders_of" (.cons (.op1 .len (.op2 .idx (.bv 0) (.c (.int 1)))) (.cons (.op2 .idx (.bv 0) (.c (.int 2))) .nil)) 0)) .skip)
def d_need_bundle : DS := (.seq (.ife (.not (.call "is_bundle" (.cons (.bv 0) .nil) 0)) (.seq (.raise "InvalidBundle") .skip) .skip) .skip)
def is_order_of_1 : DS := (.seq (.ret (.op2 .inn (.bv 1) (.call "all_orders" (.cons (.bv 0) .nil) 0))) .skip)
def is_order_of_2 : DE := (.call "is_integer" (.cons (.bv 2) (.cons (.c (.int 0)) (.cons (.op2 .sub (.op1 .len (.op2 .idx (.bv 0) (.c (.int 1)))) (.c (.int 1))) .nil))) 0)
def d_is_order_of : DS := (.seq (.ife (.or (.not (.op1 .isTup (.bv 1))) (.not (.op1 .all (.lc [2] (.bv 1) (.c (.bool true)) is_order_of_2 [2])))) (.seq (.ret (.c (.bool false))) .skip) .skip) is_order_of_1)
def d_need_order : DS := (.seq (.ife (.not (.call "is_order_of" (.cons (.bv 0) (.cons (.bv 1) .nil)) 0)) (.seq (.raise "InvalidOrder") .skip) .skip) .skip)
def all_questions_1 : DE := (.rng2 (.op2 .add (.bv 1) (.c (.int 1))) (.var 0))
def all_questions_2 : DE := (.tup (.cons (.var 1) (.cons (.var 2) .nil)))
def d_all_questions : DS := (.seq (.ret (.lc2 [1] (.rng1 (.var 0)) [2] all_questions_1 (.c (.bool true)) all_questions_2 [1, 2] [2])) .skip)
def d_is_ahead : DS := (.seq (.ret (.op2 .lt (.op2 .index (.bv 0) (.bv 1)) (.op2 .index (.bv 0) (.bv 2)))) .skip)
def open_questions_1 : DS := (.seq (.ret (.var 2)) .skip)
def open_questions_2 : DS := (.seq (.ife (.and (.op1 .any (.bv 5)) (.not (.op1 .all (.bv 5)))) (.seq (.app 2 (.tup (.cons (.var 3) (.cons (.var 4) .nil)))) .skip) .skip) .skip)
def open_questions_3 : DE := (.call "is_ahead" (.cons (.bv 6) (.cons (.bv 3) (.cons (.bv 4) .nil))) 0)
def open_questions_4 : DS := (.seq (.asg 5 (.lc [6] (.bv 1) (.c (.bool true)) open_questions_3 [6])) open_questions_2)
def d_open_questions : DS := (.seq (.own 2 (.lst .nil)) (.seq (.for' [3, 4] (.call "all_questions" (.cons (.bv 0) .nil) 0) open_questions_4) open_questions_1))
/-- nothing changes but the list that is made; the items by what they stand for -/
theorem lcL_typ {α : Type} {body : D → List D → Ro → (List D → Ro → Prop) → Prop} {chk : Ro → Prop} {k : List D → Ro → Prop} (g f : α → D) (p : α → Bool) {ys : List α} {ρ : Ro}
    (step : ∀ y acc kk, y ∈ ys → acc.length < sizeLine → kk (if p y = true then acc ++ [f y] else acc) ρ → body (g y) acc ρ kk) (hc : chk ρ) (hz : ys.length ≤ sizeLine) (fin : k ((ys.filter p).map f) ρ) : lcL body chk (ys.map g) [] ρ k := by
  refine lcL_ind (fun ds acc r => ∃ zs : List α, ds = zs.map g ∧ r = ρ ∧ (∀ y ∈ zs, y ∈ ys) ∧ acc.length + zs.length ≤ sizeLine ∧ acc ++ (zs.filter p).map f = (ys.filter p).map f) ?_ (fun _ _ _ ⟨_, _, h, _⟩ => by rw [h]; exact hc) (fun acc r h => ?_) ⟨ys, rfl, rfl, fun _ h => h, by simpa using hz, rfl⟩
  · rintro x ds acc r kk ⟨zs, e, rfl, h1, h2, h3⟩ hk
    cases zs with
    | nil => cases e
    | cons z zs =>
      obtain ⟨rfl, rfl⟩ := List.cons.inj e
      rw [List.length_cons] at h2
      refine step z acc kk (h1 z List.mem_cons_self) (by omega) (hk _ _ ⟨zs, rfl, rfl, fun y hy => h1 y (List.mem_cons_of_mem _ hy), ?_, ?_⟩)
      · split
        · rw [List.length_append, List.length_singleton]
          omega
        · omega
      · rw [← h3]
        by_cases hp : p z = true
        · rw [if_pos hp, List.filter_cons_of_pos hp, List.map_cons, List.append_assoc]
          rfl
        · rw [if_neg hp, List.filter_cons_of_neg hp]
  · obtain ⟨zs, e, rfl, _, _, h3⟩ := h
    have ez : zs = [] := by
      cases zs with
      | nil => rfl
      | cons a b => cases e
    subst ez
    have e2 : acc = (ys.filter p).map f := by simpa using h3
    rw [e2]
    exact fin
def intB (v : D) (lo hi : Int) : Bool := match v with
  | .int i => decide (lo ≤ i) && decide (i ≤ hi)
  | _ => false
def sp_is_integer : DSp := fun as k _ => ∃ (v : D) (lo hi : Int), as = [.p v, .p (.int lo), .p (.int hi)] ∧ k (.bool (intB v lo hi)) []
theorem ok_is_integer {Γ : Gm} : ∀ as k x, sp_is_integer as k x → semS Γ d_is_integer (dkOf false as k x) (ro0 3 as) := by
  rintro as k x ⟨v, lo, hi, rfl, hk⟩
  cases v <;> simp [d_is_integer, ro0] <;> simp [intB] at hk <;> try exact hk
  split
  · rename_i h
    simp [h] at hk
    exact hk
  · rename_i h
    simp [h] at hk
    exact hk
@[simp] theorem intB_int (i lo hi : Int) : intB (.int i) lo hi = (decide (lo ≤ i) && decide (i ≤ hi)) := rfl
/-! maps -/
def mapB (n : Int) (v : D) : Bool := match v with
  | .tuple ds => decide ((ds.length : Int) = n) && ds.all fun d => intB d 0 (n - 1)
  | _ => false
def sp_is_map : DSp := fun as k _ => ∃ (n : Int) (v : D), as = [.p (.int n), .p v] ∧ n ≤ 1000 ∧ k (.bool (mapB n v)) []
theorem bools_map (f : D → Bool) (ds : List D) : ∃ bs : List Bool, ds.map (fun d => PyData.bool (f d)) = bs.map .bool ∧ bs.all id = ds.all f ∧ bs.any id = ds.any f := by
  refine ⟨ds.map f, by rw [List.map_map]; rfl, ?_, ?_⟩
  · rw [List.all_map]; rfl
  · rw [List.any_map]; rfl
theorem all_typ {α : Type} {f : α → Bool} {ds : List α} {k : Bool → Prop} (h : k (ds.all f)) : ∃ bs : List Bool, ds.map (fun d => PyData.bool (f d)) = bs.map .bool ∧ k (bs.all id) :=
  ⟨ds.map f, by rw [List.map_map]; rfl, by rw [List.all_map]; exact h⟩
theorem any_typ {α : Type} {f : α → Bool} {ds : List α} {k : Bool → Prop} (h : k (ds.any f)) : ∃ bs : List Bool, ds.map (fun d => PyData.bool (f d)) = bs.map .bool ∧ k (bs.any id) :=
  ⟨ds.map f, by rw [List.map_map]; rfl, by rw [List.any_map]; exact h⟩
theorem all_map {f : D → Bool} {ds : List D} {k : Bool → Prop} (h : k (ds.all f)) : ∃ bs : List Bool, ds.map (fun d => PyData.bool (f d)) = bs.map .bool ∧ k (bs.all id) := by
  obtain ⟨bs, e1, e2, _⟩ := bools_map f ds
  exact ⟨bs, e1, by rw [e2]; exact h⟩
theorem any_map {f : D → Bool} {ds : List D} {k : Bool → Prop} (h : k (ds.any f)) : ∃ bs : List Bool, ds.map (fun d => PyData.bool (f d)) = bs.map .bool ∧ k (bs.any id) := by
  obtain ⟨bs, e1, _, e2⟩ := bools_map f ds
  exact ⟨bs, e1, by rw [e2]; exact h⟩
theorem ok_is_map {Γ : Gm} (h1 : Γ.fn "is_integer" = sp_is_integer) (f1 : Γ.fr "is_integer" = false) : ∀ as k x, sp_is_map as k x → semS Γ d_is_map (dkOf false as k x) (ro0 3 as) := by
  rintro as k x ⟨n, v, rfl, hn, hk⟩
  cases v <;> simp [d_is_map, ro0] <;> try exact hk
  rename_i ds
  simp [is_map_2]
  by_cases h : (ds.length : Int) = n
  · simp [h]
    refine lcL_map (fun d => .bool (intB d 0 (n - 1))) (fun _ => true) (fun y acc kk hy hl hkk => ?_) (by simp) (by rw [sz]; omega) ?_
    · simp [is_map_1, h1, f1, sp_is_integer]
      exact ⟨y, 0, n - 1, ⟨rfl, rfl, rfl⟩, hl, hkk⟩
    · rw [filter_tt]
      exact all_map (k := fun b => k (.bool b) []) (by simpa [mapB, h] using hk)
  · simp [h]
    simp [mapB, h] at hk
    exact hk
/-! pairs -/
def pairB (m : Int) (v : D) : Bool := match v with
  | .tuple ds => decide (ds.length = 2) && ds.all fun d => intB d 0 (m - 1)
  | _ => false
def sp_is_pair : DSp := fun as k _ => ∃ (v : D) (m : Int), as = [.p v, .p (.int m)] ∧ k (.bool (pairB m v)) []
theorem ok_is_pair {Γ : Gm} (h1 : Γ.fn "is_integer" = sp_is_integer) (f1 : Γ.fr "is_integer" = false) : ∀ as k x, sp_is_pair as k x → semS Γ d_is_pair (dkOf false as k x) (ro0 3 as) := by
  rintro as k x ⟨v, m, rfl, hk⟩
  cases v <;> simp [d_is_pair, ro0] <;> try exact hk
  rename_i ds
  by_cases h : ds.length = 2
  · have h' : (ds.length : Int) = 2 := by omega
    simp [h']
    refine lcL_map (fun d => .bool (intB d 0 (m - 1))) (fun _ => true) (fun y acc kk hy hl hkk => ?_) (by simp) (by rw [sz]; omega) ?_
    · simp [is_pair_1, h1, f1, sp_is_integer]
      exact ⟨y, 0, m - 1, ⟨rfl, rfl, rfl⟩, hl, hkk⟩
    · rw [filter_tt]
      exact all_map (k := fun b => k (.bool b) []) (by simpa [pairB, h] using hk)
  · have h' : ¬ (ds.length : Int) = 2 := by omega
    simp [h']
    simp [pairB, h] at hk
    exact hk
/-! rows that ascend -/
def ascB : List (List Int) → Bool
  | [] => true
  | [_] => true
  | a :: b :: r => decide (a < b) && ascB (b :: r)
def sp_ascends : DSp := fun as k _ => ∃ ps : List (List Int), as = [.p (.tuple (ps.map T))] ∧ ps.length ≤ 100000 ∧ k (.bool (ascB ps)) []
theorem ltOk_T (a b : List Int) : LtOk (T a) (T b) := by
  refine ⟨?_, (fun h => by unfold T at h; cases h), by rw [depth_T]; omega⟩
  unfold T
  rw [PySem.W.alike]
  exact alike_ints a b
theorem asc_zip : ∀ ps : List (List Int), ((ps.zip (ps.drop 1)).all fun p => decide (p.1 < p.2)) = ascB ps
  | [] => rfl
  | [_] => rfl
  | a :: b :: r => by
    have ih := asc_zip (b :: r)
    show (decide (a < b) && (((b :: r).zip r).all fun p => decide (p.1 < p.2))) = _
    rw [ascB, ← ih]
    rfl
theorem ok_ascends {Γ : Gm} : ∀ as k x, sp_ascends as k x → semS Γ d_ascends (dkOf false as k x) (ro0 3 as) := by
  rintro as k x ⟨ps, rfl, hz, hk⟩
  simp [d_ascends, ro0]
  have e1 : (ps.map T).drop (dropI ps.length 1) = (ps.drop 1).map T := by
    rw [← List.map_drop]
    cases ps with
    | nil => rfl
    | cons a r => rw [show dropI (a :: r).length 1 = 1 from dropI_nat _ 1 (by rw [List.length_cons]; omega)]
  rw [e1, List.zip_map, List.map_map]
  refine lcL_typ _ (fun p : List Int × List Int => .bool (decide (p.1 < p.2))) (fun _ => true) (fun y acc kk hy hl hkk => ?_) trivial (by rw [List.length_zip, sz]; omega) ?_
  · obtain ⟨a, b⟩ := y
    simp [ascends_1]
    have ha := ltOk_T a b
    have hb := lt_T a b
    unfold T at ha hb
    simp [T]
    refine ⟨ha, hl, ?_⟩
    rw [hb]
    exact hkk
  · rw [filter_tt]
    exact all_typ (k := fun b => k (.bool b) []) (by rw [asc_zip]; exact hk)
end DL

end

section
namespace DL
open PySem PySem.Spec PyProof.Rows L2

@[simp] theorem inOk_int (i : Int) : InOk (.int i) := Nat.zero_le 60
@[simp] theorem any_ints (row : List Int) (d : Int) : ((row.map PyData.int).any fun e => PyData.eqv e (.int d)) = decide (d ∈ row) := by
  rw [List.any_map, Bool.eq_iff_iff, List.any_eq_true, decide_eq_true_eq]
  constructor
  · rintro ⟨x, hx, e⟩
    have e : PyData.eqv (.int x) (.int d) = true := e
    rw [eqv_int, decide_eq_true_eq] at e
    rw [← e]; exact hx
  · intro h
    exact ⟨d, h, by show PyData.eqv (.int d) (.int d) = true; rw [eqv_int]; simp⟩
@[simp] theorem any_ints2 (row : List Int) (d : Int) : (row.any ((fun e => PyData.eqv e (.int d)) ∘ PyData.int)) = decide (d ∈ row) := by rw [← List.any_map]; exact any_ints row d
/-! ### all orders, step by step -/
def fstI (p : List Int) : Int := p.headD 0
def sndI (p : List Int) : Int := p.getD 1 0
def IsPair (p : List Int) : Prop := ∃ a b, p = [a, b]
def okDeed (ps : List (List Int)) (row : List Int) (d : Int) : Bool := !decide (d ∈ row) && ((ps.filter fun p => decide (sndI p = d)).all fun p => decide (fstI p ∈ row))
def stepO (m : Nat) (ps rows : List (List Int)) : List (List Int) := rows.flatMap fun row => ((rangeI m).filter (okDeed ps row)).map fun d => row ++ [d]
def ordN (m : Nat) (ps : List (List Int)) : Nat → List (List Int)
  | 0 => [[]]
  | t + 1 => stepO m ps (ordN m ps t)
def ordersOf (m : Nat) (ps : List (List Int)) : List (List Int) := ordN m ps m
theorem rangeI_len (m : Nat) : (rangeI m).length = m := by unfold rangeI; rw [List.length_map, List.length_range]
theorem stepO_len (m : Nat) (ps : List (List Int)) : ∀ rows : List (List Int), (stepO m ps rows).length ≤ rows.length * m
  | [] => Nat.zero_le _
  | row :: rows => by
    have ih := stepO_len m ps rows
    show ((((rangeI m).filter (okDeed ps row)).map fun d => row ++ [d]) ++ stepO m ps rows).length ≤ _
    rw [List.length_append, List.length_map, List.length_cons, Nat.succ_mul]
    have := List.length_filter_le (okDeed ps row) (rangeI m)
    rw [rangeI_len] at this
    omega
theorem ordN_len (m : Nat) (ps : List (List Int)) : ∀ t, (ordN m ps t).length ≤ m ^ t
  | 0 => Nat.le_refl 1
  | t + 1 => by
    rw [Nat.pow_succ]
    exact Nat.le_trans (stepO_len m ps _) (Nat.mul_le_mul_right m (ordN_len m ps t))
theorem ordN_row (m : Nat) (ps : List (List Int)) : ∀ t, ∀ r ∈ ordN m ps t, r.length = t
  | 0, r, h => by rw [List.mem_singleton.mp h]; rfl
  | t + 1, r, h => by
    obtain ⟨row, hr, h2⟩ := List.mem_flatMap.mp h
    obtain ⟨d, _, rfl⟩ := List.mem_map.mp h2
    rw [List.length_append, ordN_row m ps t row hr]
    rfl
theorem stepO_snoc (m : Nat) (ps done : List (List Int)) (row : List Int) : stepO m ps (done ++ [row]) = stepO m ps done ++ ((rangeI m).filter (okDeed ps row)).map fun d => row ++ [d] := by
  unfold stepO
  rw [List.flatMap_append, List.flatMap_singleton]
theorem rangeI_succ (m : Nat) : rangeI (m + 1) = rangeI m ++ [(m : Int)] := by
  unfold rangeI
  rw [List.range_succ, List.map_append]
  rfl
def sp_orders_of : DSp := fun as k _ => ∃ (m : Nat) (ps : List (List Int)), as = [.p (.int m), .p (.tuple (ps.map T))] ∧ m ≤ 6 ∧ ps.length ≤ 1000 ∧ (∀ p ∈ ps, IsPair p) ∧ k (.list ((ordersOf m ps).map T)) []
theorem ok_orders_of {Γ : Gm} : ∀ as k x, sp_orders_of as k x → semS Γ d_orders_of (dkOf false as k x) (ro0 10 as) := by
  rintro as k x ⟨m, ps, rfl, hm, hps, hpp, hk⟩
  simp [d_orders_of, ro0]
  refine ⟨by omega, ?_⟩
  refine forL_ind (fun ys ρ => ∃ (i : Nat) (s3 s4 s5 s6 s7 : Sl), ys = rangeD (i : Int) (m - i) ∧ i ≤ m ∧ ρ = [.p (.int m), .p (.tuple (ps.map T)), .p (.list ((ordN m ps i).map T)), s3, s4, s5, s6, s7, .un, .un]) ?_ ?_ ⟨0, .un, .un, .un, .un, .un, by simp, by omega, rfl⟩
  · rintro y ys ρ nx ⟨i, s3, s4, s5, s6, s7, hy, hi, rfl⟩ hnx
    have hlt : i < m := by
      rcases Nat.lt_or_ge i m with z | z
      · exact z
      · exfalso
        rw [show m - i = 0 by omega] at hy
        exact nomatch hy
    rw [show m - i = (m - (i + 1)) + 1 by omega, rangeD_succ] at hy
    obtain ⟨rfl, rfl⟩ := List.cons.inj hy
    have hrl : (ordN m ps i).length * m ≤ 46656 := by
      have h1 : m ^ i * m = m ^ (i + 1) := (Nat.pow_succ ..).symm
      have h2 : m ^ (i + 1) ≤ 6 ^ (i + 1) := Nat.pow_le_pow_left hm _
      have h3 : (6 : Nat) ^ (i + 1) ≤ 6 ^ 6 := Nat.pow_le_pow_right (by omega) (by omega)
      have h4 := Nat.mul_le_mul_right m (ordN_len m ps i)
      have h5 : (6 : Nat) ^ 6 = 46656 := by decide
      omega
    have hol : ∀ r ∈ ordN m ps i, r.length = i := ordN_row m ps i
    simp [orders_of_8]
    refine forL_ind (fun ys ρ => ∃ (done rest : List (List Int)) (s5 s6 s7 : Sl), ordN m ps i = done ++ rest ∧ ys = rest.map T ∧ ρ = [.p (.int m), .p (.tuple (ps.map T)), .p (.list ((ordN m ps i).map T)), .p (.int i), .o true (.ls ((stepO m ps done).map T)), s5, s6, s7, .un, .un]) ?_ ?_ ⟨[], _, s5, s6, s7, rfl, rfl, rfl⟩
    · rintro z zs ρ nx2 ⟨done, rest, s5, s6, s7, e1, e2, rfl⟩ hnx2
      cases rest with
      | nil => cases e2
      | cons row rest =>
        obtain ⟨rfl, rfl⟩ := List.cons.inj e2
        have ex : ordN m ps i = (done ++ [row]) ++ rest := by rw [e1, List.append_assoc]; rfl
        have hdl : (done.length + 1) * m ≤ 46656 := by
          refine Nat.le_trans (Nat.mul_le_mul_right m ?_) hrl
          rw [e1, List.length_append, List.length_cons]
          omega
        have hrow : row.length = i := hol row (by rw [e1]; exact List.mem_append_right _ List.mem_cons_self)
        simp [orders_of_7]
        refine ⟨by omega, ?_⟩
        refine forL_ind (fun ys ρ => ∃ (j : Nat) (s6 s7 : Sl), ys = rangeD (j : Int) (m - j) ∧ j ≤ m ∧ ρ = [.p (.int m), .p (.tuple (ps.map T)), .p (.list ((ordN m ps i).map T)), .p (.int i), .o true (.ls ((stepO m ps done ++ ((rangeI j).filter (okDeed ps row)).map fun d => row ++ [d]).map T)), .p (T row), s6, s7, .un, .un]) ?_ ?_ ⟨0, s6, s7, by simp, by omega, by simp [rangeI]⟩
        · rintro w ws ρ nx3 ⟨j, s6, s7, hw, hj, rfl⟩ hnx3
          have hlt2 : j < m := by
            rcases Nat.lt_or_ge j m with z | z
            · exact z
            · exfalso
              rw [show m - j = 0 by omega] at hw
              exact nomatch hw
          rw [show m - j = (m - (j + 1)) + 1 by omega, rangeD_succ] at hw
          obtain ⟨rfl, rfl⟩ := List.cons.inj hw
          simp [orders_of_6]
          refine lcL_typ T (fun p => .int (fstI p)) (fun p => decide (sndI p = (j : Int))) (fun p acc kk hp hl hkk => ?_) (by simp) (by rw [sz]; omega) ?_
          · obtain ⟨a, b, rfl⟩ := hpp p hp
            by_cases hb : b = (j : Int)
            · simp [T, orders_of_5, hb]
              simp [sndI, fstI, hb] at hkk
              exact ⟨hl, hkk⟩
            · simp [T, orders_of_5, hb]
              simp [sndI, hb] at hkk
              exact hkk
          · simp [orders_of_4, T]
            have hsnoc : ∀ b : Bool, okDeed ps row (j : Int) = b → (if b = true then (rangeI j).filter (okDeed ps row) ++ [(j : Int)] else (rangeI j).filter (okDeed ps row)) = (rangeI (j + 1)).filter (okDeed ps row) := by
              intro b e
              rw [rangeI_succ, List.filter_append]
              cases b
              · rw [List.filter_cons_of_neg (by rw [e]; decide)]; simp
              · rw [List.filter_cons_of_pos e]; simp
            have hfl : ((rangeI j).filter (okDeed ps row)).length ≤ j := by
              have := List.length_filter_le (okDeed ps row) (rangeI j)
              rw [rangeI_len] at this
              exact this
            have hsl := stepO_len m ps done
            have hsm : (done.length + 1) * m = done.length * m + m := Nat.succ_mul ..
            split
            · rename_i hin
              have e : okDeed ps row (j : Int) = false := by
                have : (j : Int) ∈ row := hin
                unfold okDeed
                simp [this]
              exact hnx3 _ ⟨j + 1, .p (.int j), .p (.list ((ps.filter fun p => decide (sndI p = (j : Int))).map fun p => .int (fstI p))), by simp, by omega, by rw [← hsnoc _ e]; simp [T]⟩
            · rename_i hnin
              refine lcL_typ (fun p => .int (fstI p)) (fun p => .bool (decide (fstI p ∈ row))) (fun _ => true) (fun p acc kk hp hl hkk => ?_) (by simp) (by have := List.length_filter_le (fun p => decide (sndI p = (j : Int))) ps; rw [sz]; omega) ?_
              · simp [orders_of_3]
                simp at hkk
                exact ⟨hl, hkk⟩
              · rw [filter_tt]
                refine ⟨(ps.filter fun p => decide (sndI p = (j : Int))).map fun p => decide (fstI p ∈ row), by rw [List.map_map]; rfl, ?_⟩
                have hnin' : decide ((j : Int) ∈ row) = false := by
                  simp
                  exact hnin
                rw [List.all_map]
                have hok : okDeed ps row (j : Int) = ((ps.filter fun p => decide (sndI p = (j : Int))).all fun p => decide (fstI p ∈ row)) := by
                  unfold okDeed
                  rw [hnin']
                  rfl
                split
                · rename_i hf
                  have e : okDeed ps row (j : Int) = true := hok.trans hf
                  simp
                  refine ⟨by rw [sz]; omega, by rw [sz]; omega, ?_⟩
                  exact hnx3 _ ⟨j + 1, .p (.int j), .p (.list ((ps.filter fun p => decide (sndI p = (j : Int))).map fun p => .int (fstI p))), by simp, by omega, by rw [← hsnoc _ e]; simp [T]⟩
                · rename_i hf
                  have e : okDeed ps row (j : Int) = false := hok.trans (Bool.eq_false_iff.mpr hf)
                  exact hnx3 _ ⟨j + 1, .p (.int j), .p (.list ((ps.filter fun p => decide (sndI p = (j : Int))).map fun p => .int (fstI p))), by simp, by omega, by rw [← hsnoc _ e]; simp [T]⟩
        · rintro ρ ⟨j, s6, s7, hw, hj, rfl⟩
          have : j = m := by
            rcases Nat.lt_or_ge j m with z | z
            · exfalso
              rw [show m - j = (m - (j + 1)) + 1 by omega, rangeD_succ] at hw
              exact nomatch hw
            · omega
          subst this
          exact hnx2 _ ⟨done ++ [row], rest, .p (T row), s6, s7, ex, rfl, by rw [stepO_snoc]⟩
    · rintro ρ ⟨done, rest, s5, s6, s7, e1, e2, rfl⟩
      have er : rest = [] := by
        cases rest with
        | nil => rfl
        | cons a r => cases e2
      subst er
      rw [List.append_nil] at e1
      simp [orders_of_2]
      exact hnx _ ⟨i + 1, .p (.int i), _, s5, s6, s7, by simp, by omega, by rw [← e1]; rfl⟩
  · rintro ρ ⟨i, s3, s4, s5, s6, s7, hy, hi, rfl⟩
    have : i = m := by
      rcases Nat.lt_or_ge i m with z | z
      · exfalso
        rw [show m - i = (m - (i + 1)) + 1 by omega, rangeD_succ] at hy
        exact nomatch hy
      · omega
    subst this
    simp [orders_of_1]
    exact hk
end DL

end

section
namespace DL
open PySem PySem.Spec PyProof.Rows L2

/-! ### which rows are orders -/
def Adm (ps : List (List Int)) (r : List Int) : Prop := ∀ p ∈ ps, sndI p ∈ r → r.idxOf (fstI p) < r.idxOf (sndI p)
theorem idxOf_le (r : List Int) (a : Int) : r.idxOf a ≤ r.length := by
  rcases Classical.em (a ∈ r) with z | z
  · exact Nat.le_of_lt (List.idxOf_lt_length_iff.mpr z)
  · exact Nat.le_of_eq (List.idxOf_eq_length z)
theorem idxOf_snoc (r : List Int) (d a : Int) : (r ++ [d]).idxOf a = if a ∈ r then r.idxOf a else if d = a then r.length else r.length + 1 := by
  rw [List.idxOf_append]
  split
  · rfl
  · rw [List.idxOf_cons]
    by_cases h : d = a
    · simp [h]
    · have : (d == a) = false := by simpa using h
      rw [this, if_neg h]
      simp [Nat.add_comm]
theorem adm_snoc {ps : List (List Int)} {r : List Int} {d : Int} (hd : d ∉ r) : Adm ps (r ++ [d]) ↔ Adm ps r ∧ ∀ p ∈ ps, sndI p = d → fstI p ∈ r := by
  have hi : ∀ a, a ∈ r → r.idxOf a < r.length := fun a h => List.idxOf_lt_length_iff.mpr h
  constructor
  · intro h
    refine ⟨fun p hp hs => ?_, fun p hp hs => ?_⟩
    · have := h p hp (List.mem_append_left _ hs)
      rw [idxOf_snoc, idxOf_snoc, if_pos hs] at this
      have h2 := hi _ hs
      split at this
      · exact this
      · split at this <;> omega
    · have := h p hp (List.mem_append_right _ (by rw [hs]; exact List.mem_singleton_self d))
      rw [idxOf_snoc, idxOf_snoc, hs, if_neg hd, if_pos rfl] at this
      split at this
      · assumption
      · split at this <;> omega
  · rintro ⟨h1, h2⟩ p hp hs
    rw [idxOf_snoc, idxOf_snoc]
    rcases List.mem_append.mp hs with z | z
    · rw [if_pos z]
      have h3 := h1 p hp z
      have h4 := hi _ z
      have h5 : fstI p ∈ r := List.idxOf_lt_length_iff.mp (by omega)
      rw [if_pos h5]
      exact h3
    · have z := List.mem_singleton.mp z
      have h5 := h2 p hp z
      rw [if_pos h5, z, if_neg hd, if_pos rfl]
      exact hi _ h5
theorem okDeed_iff {ps : List (List Int)} {r : List Int} {d : Int} : okDeed ps r d = true ↔ d ∉ r ∧ ∀ p ∈ ps, sndI p = d → fstI p ∈ r := by
  unfold okDeed
  rw [Bool.and_eq_true, List.all_eq_true]
  simp only [Bool.not_eq_true', decide_eq_false_iff_not, decide_eq_true_eq, List.mem_filter, and_imp]
theorem nodup_snoc {r : List Int} {d : Int} : (r ++ [d]).Nodup ↔ r.Nodup ∧ d ∉ r := by
  rw [List.nodup_append]
  constructor
  · rintro ⟨h1, _, h3⟩
    exact ⟨h1, fun h => h3 d h d (List.mem_singleton_self d) rfl⟩
  · rintro ⟨h1, h2⟩
    exact ⟨h1, (by simp [List.Nodup]), fun a ha b hb e => h2 (by rw [← List.mem_singleton.mp hb, ← e]; exact ha)⟩
theorem mem_ordN (m : Nat) (ps : List (List Int)) : ∀ (t : Nat) (r : List Int), r ∈ ordN m ps t ↔ r.length = t ∧ r.Nodup ∧ (∀ d ∈ r, d ∈ rangeI m) ∧ Adm ps r
  | 0, r => by
    show r ∈ [[]] ↔ _
    rw [List.mem_singleton]
    constructor
    · rintro rfl
      refine ⟨rfl, List.nodup_nil, ?_, ?_⟩
      · intro d hd
        cases hd
      · intro p _ hs
        cases hs
    · exact fun h => List.length_eq_zero_iff.mp h.1
  | t + 1, r => by
    show r ∈ stepO m ps (ordN m ps t) ↔ _
    unfold stepO
    rw [List.mem_flatMap]
    constructor
    · rintro ⟨row, hr, h⟩
      obtain ⟨d, hd, rfl⟩ := List.mem_map.mp h
      obtain ⟨h1, h2, h3, h4⟩ := (mem_ordN m ps t row).mp hr
      obtain ⟨h5, h6⟩ := List.mem_filter.mp hd
      obtain ⟨h7, h8⟩ := okDeed_iff.mp h6
      refine ⟨by rw [List.length_append, h1]; rfl, nodup_snoc.mpr ⟨h2, h7⟩, fun x hx => ?_, (adm_snoc h7).mpr ⟨h4, h8⟩⟩
      rcases List.mem_append.mp hx with z | z
      · exact h3 x z
      · rw [List.mem_singleton.mp z]; exact h5
    · rintro ⟨h1, h2, h3, h4⟩
      rcases List.eq_nil_or_concat r with rfl | ⟨row, d, rfl⟩
      · exact nomatch h1
      · rw [List.concat_eq_append] at *
        obtain ⟨h5, h6⟩ := nodup_snoc.mp h2
        obtain ⟨h7, h8⟩ := (adm_snoc h6).mp h4
        refine ⟨row, (mem_ordN m ps t row).mpr ⟨?_, h5, fun x hx => h3 x (List.mem_append_left _ hx), h7⟩, List.mem_map.mpr ⟨d, List.mem_filter.mpr ⟨h3 d (List.mem_append_right _ (List.mem_singleton_self d)), okDeed_iff.mpr ⟨h6, h8⟩⟩, rfl⟩⟩
        rw [List.length_append, List.length_singleton] at h1
        omega
theorem perm_of_sub {r l : List Int} (h1 : r.Nodup) (h2 : ∀ d ∈ r, d ∈ l) (h3 : r.length = l.length) (h4 : l.Nodup) : r.Perm l := by
  rw [List.perm_ext_iff_of_nodup h1 h4]
  refine fun a => ⟨h2 a, fun ha => ?_⟩
  rcases Classical.em (a ∈ r) with z | z
  · exact z
  · exfalso
    have := List.Nodup.length_le_of_subset (l₁ := a :: r) (l₂ := l) (List.nodup_cons.mpr ⟨z, h1⟩) (fun x hx => by
      rcases List.mem_cons.mp hx with rfl | y
      · exact ha
      · exact h2 x y)
    rw [List.length_cons] at this
    omega
theorem mem_orders {m : Nat} {ps : List (List Int)} {r : List Int} : r ∈ ordersOf m ps ↔ r.Perm (rangeI m) ∧ Adm ps r := by
  unfold ordersOf
  rw [mem_ordN]
  constructor
  · rintro ⟨h1, h2, h3, h4⟩
    exact ⟨perm_of_sub h2 h3 (by rw [rangeI_len, h1]) (rangeI_nodup m), h4⟩
  · rintro ⟨h1, h2⟩
    exact ⟨by rw [h1.length_eq, rangeI_len], h1.nodup_iff.mpr (rangeI_nodup m), fun d hd => h1.mem_iff.mp hd, h2⟩
/-! the orders ascend -/
theorem rangeI_lt (m : Nat) : (rangeI m).Pairwise (· < ·) := by
  unfold rangeI
  rw [List.pairwise_map]
  exact List.pairwise_lt_range.imp fun h => by omega
theorem append_lt : ∀ (a b x y : List Int), a.length = b.length → a < b → a ++ x < b ++ y
  | [], [], _, _, _, h => absurd h (List.lt_irrefl _)
  | [], _ :: _, _, _, e, _ => nomatch e
  | _ :: _, [], _, _, e, _ => nomatch e
  | a :: as, b :: bs, x, y, e, h => by
    rw [List.cons_append, List.cons_append, List.cons_lt_cons_iff]
    rcases List.cons_lt_cons_iff.mp h with z | ⟨z1, z2⟩
    · exact .inl z
    · exact .inr ⟨z1, append_lt as bs x y (by simpa using e) z2⟩
theorem ordN_lt (m : Nat) (ps : List (List Int)) : ∀ t, (ordN m ps t).Pairwise (· < ·)
  | 0 => List.pairwise_singleton _ _
  | t + 1 => by
    show (stepO m ps (ordN m ps t)).Pairwise (· < ·)
    unfold stepO
    rw [List.pairwise_flatMap]
    refine ⟨fun row _ => ?_, ?_⟩
    · rw [List.pairwise_map]
      refine ((rangeI_lt m).filter _).imp fun {a b} h => ?_
      exact List.append_left_lt (List.cons_lt_cons_iff.mpr (.inl h))
    · have h := ordN_lt m ps t
      refine List.Pairwise.imp_of_mem (fun {a b} ha hb hab x hx y hy => ?_) h
      obtain ⟨d, _, rfl⟩ := List.mem_map.mp hx
      obtain ⟨d', _, rfl⟩ := List.mem_map.mp hy
      exact append_lt _ _ _ _ (by rw [ordN_row m ps t a ha, ordN_row m ps t b hb]) hab
theorem orders_lt (m : Nat) (ps : List (List Int)) : (ordersOf m ps).Pairwise (· < ·) := ordN_lt m ps m
theorem nodup_of_lt {l : List (List Int)} (h : l.Pairwise (· < ·)) : l.Nodup := h.imp fun {a b} z (e : a = b) => List.lt_irrefl b (e ▸ z)
theorem eq_of_lt {a b : List (List Int)} (ha : a.Pairwise (· < ·)) (hb : b.Pairwise (· < ·)) (h : ∀ r, r ∈ a ↔ r ∈ b) : a = b :=
  List.Perm.eq_of_pairwise (fun x y _ _ h1 h2 => absurd (List.lt_trans h1 h2) (List.lt_irrefl x)) ha hb ((List.perm_ext_iff_of_nodup (nodup_of_lt ha) (nodup_of_lt hb)).mpr h)
/-! bundles -/
theorem before_idx {o : List Int} (nd : o.Nodup) {a b : Int} (h : Before o a b) : o.idxOf a < o.idxOf b ∧ b ∈ o := by
  obtain ⟨i, j, hij, ha, hb⟩ := h
  obtain ⟨hi, rfl⟩ := List.getElem?_eq_some_iff.mp ha
  obtain ⟨hj, rfl⟩ := List.getElem?_eq_some_iff.mp hb
  rw [nd.idxOf_getElem, nd.idxOf_getElem]
  exact ⟨hij, List.getElem_mem hj⟩
def Bun.ords (B : Bun) : List (List Int) := ordersOf B.maps.length B.known
theorem bun_ne {B : Bun} (h : BunOk B) : B.ords ≠ [] := by
  obtain ⟨o, h1, h2⟩ := h.lin
  have : o ∈ B.ords := mem_orders.mpr ⟨h1, fun p hp _ => by
    obtain ⟨a, b, rfl, hb⟩ := h2 p hp
    exact (before_idx (h1.nodup_iff.mpr (rangeI_nodup _)) hb).1⟩
  exact List.ne_nil_of_mem this
theorem bun_pair {B : Bun} (h : BunOk B) : ∀ p ∈ B.known, IsPair p ∧ pairB B.maps.length (T p) = true := by
  intro p hp
  obtain ⟨o, h1, h2⟩ := h.lin
  obtain ⟨a, b, rfl, i, j, hij, ha, hb⟩ := h2 p hp
  have m1 := h1.mem_iff.mp (List.mem_of_getElem? ha)
  have m2 := h1.mem_iff.mp (List.mem_of_getElem? hb)
  unfold rangeI at m1 m2
  simp at m1 m2
  obtain ⟨x, hx, rfl⟩ := m1
  obtain ⟨y, hy, rfl⟩ := m2
  refine ⟨⟨_, _, rfl⟩, ?_⟩
  simp [pairB, T]
  omega
theorem sub_len {l r : List (List Int)} (hl : l.Nodup) (h : ∀ x ∈ l, x ∈ r) : l.length ≤ r.length := List.Nodup.length_le_of_subset hl h
theorem bun_kn {B : Bun} (h : BunOk B) : B.known.length ≤ 36 := by
  have h1 := sub_len (r := (rangeI B.maps.length).flatMap fun a => (rangeI B.maps.length).map fun b => [a, b]) (nodup_of_lt h.known) (fun p hp => by
    obtain ⟨o, h1, h2⟩ := h.lin
    obtain ⟨a, b, rfl, i, j, hij, ha, hb⟩ := h2 p hp
    exact List.mem_flatMap.mpr ⟨a, h1.mem_iff.mp (List.mem_of_getElem? ha), List.mem_map.mpr ⟨b, h1.mem_iff.mp (List.mem_of_getElem? hb), rfl⟩⟩)
  have h2 : ∀ (l : List Int), (l.flatMap fun a => (rangeI B.maps.length).map fun b => [a, b]).length = l.length * B.maps.length := by
    intro l
    induction l with
    | nil => simp
    | cons x l ih =>
      rw [List.flatMap_cons, List.length_append, ih, List.length_map, rangeI_len, List.length_cons, Nat.succ_mul, Nat.add_comm]
  rw [h2, rangeI_len] at h1
  have h3 := Nat.mul_le_mul h.m6 h.m6
  omega
theorem asc_lt : ∀ {ps : List (List Int)}, ps.Pairwise (· < ·) → ascB ps = true
  | [], _ => rfl
  | [_], _ => rfl
  | a :: b :: r, h => by
    rw [ascB, asc_lt (List.pairwise_cons.mp h).2]
    have := (List.pairwise_cons.mp h).1 b List.mem_cons_self
    simpa using this
theorem mapB_ok {n : Int} {q : List Int} (h : MapZ n q) : mapB n (T q) = true := by
  obtain ⟨h1, h2⟩ := h
  simp [mapB, T, h1]
  intro i hi
  have := h2 i hi
  omega
end DL

end

section
namespace DL
open PySem PySem.Spec PyProof.Rows L2

theorem eqvAll_map {α : Type} [DecidableEq α] (f : α → D) (hf : ∀ a b, PyData.eqv (f a) (f b) = decide (a = b)) : ∀ xs ys : List α, PyData.eqvAll (xs.map f) (ys.map f) = decide (xs = ys)
  | [], [] => by simp [PyData.eqvAll]
  | [], _ :: _ => by simp [PyData.eqvAll]
  | _ :: _, [] => by simp [PyData.eqvAll]
  | x :: xs, y :: ys => by
    rw [List.map_cons, List.map_cons, PyData.eqvAll, hf, eqvAll_map f hf xs ys]
    by_cases h : x = y <;> simp [h]
@[simp] theorem eqv_ints (xs ys : List Int) : PyData.eqv (.tuple (xs.map .int)) (.tuple (ys.map .int)) = decide (xs = ys) := by
  rw [PyData.eqv]
  exact eqvAll_map _ eqv_int xs ys
@[simp] theorem eqv_T (xs ys : List Int) : PyData.eqv (T xs) (T ys) = decide (xs = ys) := eqv_ints xs ys
@[simp] theorem eqv_T1 (xs ys : List Int) : PyData.eqv (T xs) (.tuple (ys.map .int)) = decide (xs = ys) := eqv_ints xs ys
@[simp] theorem eqv_T2 (xs ys : List Int) : PyData.eqv (.tuple (xs.map .int)) (T ys) = decide (xs = ys) := eqv_ints xs ys
@[simp] theorem eqv_lT (xs ys : List (List Int)) : PyData.eqv (.list (xs.map T)) (.list (ys.map T)) = decide (xs = ys) := by
  rw [PyData.eqv]
  exact eqvAll_map _ eqv_T xs ys
@[simp] theorem eqOk_T1 (xs : List Int) (d : D) : EqOk (T xs) d := .inl (by rw [depth_T]; omega)
@[simp] theorem eqOk_T2 (xs : List Int) (d : D) : EqOk d (T xs) := .inr (by rw [depth_T]; omega)
@[simp] theorem eqOk_t1 (xs : List Int) (d : D) : EqOk (.tuple (xs.map .int)) d := eqOk_T1 xs d
@[simp] theorem eqOk_t2 (xs : List Int) (d : D) : EqOk d (.tuple (xs.map .int)) := eqOk_T2 xs d
@[simp] theorem inOk_T (xs : List Int) : InOk (T xs) := by unfold InOk; rw [depth_T]; omega
@[simp] theorem inOk_t (xs : List Int) : InOk (.tuple (xs.map .int)) := inOk_T xs
theorem depth_rows : ∀ xs : List (List Int), PyData.depthAll (xs.map T) ≤ 1
  | [] => Nat.zero_le _
  | x :: xs => by
    rw [List.map_cons, PyData.depthAll, depth_T]
    have := depth_rows xs
    omega
@[simp] theorem eqOk_lT (xs : List (List Int)) (d : D) : EqOk (.list (xs.map T)) d := .inl (by
  rw [PyData.depth]
  have := depth_rows xs
  omega)
@[simp] theorem eqOk_lT2 (xs : List (List Int)) (d : D) : EqOk d (.list (xs.map T)) := .inr (by
  rw [PyData.depth]
  have := depth_rows xs
  omega)
@[simp] theorem any_rows (rs : List (List Int)) (r : List Int) : ((rs.map T).any fun e => PyData.eqv e (T r)) = decide (r ∈ rs) := by
  rw [List.any_map, Bool.eq_iff_iff, List.any_eq_true, decide_eq_true_eq]
  constructor
  · rintro ⟨x, hx, e⟩
    have e : PyData.eqv (T x) (T r) = true := e
    rw [eqv_T, decide_eq_true_eq] at e
    rw [← e]; exact hx
  · intro h
    exact ⟨r, h, by show PyData.eqv (T r) (T r) = true; rw [eqv_T]; simp⟩
@[simp] theorem any_rows2 (rs : List (List Int)) (r : List Int) : (rs.any ((fun e => PyData.eqv e (T r)) ∘ T)) = decide (r ∈ rs) := by rw [← List.any_map]; exact any_rows rs r
@[simp] theorem any_rows3 (rs : List (List Int)) (r : List Int) : (rs.any ((fun e => PyData.eqv e (.tuple (r.map .int))) ∘ T)) = decide (r ∈ rs) := any_rows2 rs r
theorem findIdx_map {α : Type} [BEq α] [LawfulBEq α] (f : α → D) (l : List α) (a : α) (hf : ∀ x, PyData.eqv (f x) (f a) = (x == a)) (h : a ∈ l) : ((l.map f).findIdx? fun e => PyData.eqv e (f a)) = some (l.idxOf a) := by
  rw [List.findIdx?_map, List.findIdx?_eq_some_iff_findIdx_eq]
  refine ⟨List.idxOf_lt_length_iff.mpr h, ?_⟩
  unfold List.idxOf
  congr 1
  funext x
  exact hf x
theorem index_ints {r : List Int} {a : Int} (h : a ∈ r) : ((r.map .int).findIdx? fun e => PyData.eqv e (.int a)) = some (r.idxOf a) := findIdx_map _ r a (fun x => by rw [eqv_int]; rfl) h
theorem index_rows {rs : List (List Int)} {r : List Int} (h : r ∈ rs) : ((rs.map T).findIdx? fun e => PyData.eqv e (T r)) = some (rs.idxOf r) := findIdx_map _ rs r (fun x => by
  rw [eqv_T]
  by_cases e : x = r
  · simp [e]
  · simp [e]) h

theorem index_ints2 {r : List Int} {a : Int} (h : a ∈ r) : (r.findIdx? ((fun e => PyData.eqv e (.int a)) ∘ PyData.int)) = some (r.idxOf a) := by rw [← List.findIdx?_map]; exact index_ints h
theorem index_rows2 {rs : List (List Int)} {r : List Int} (h : r ∈ rs) : (rs.findIdx? ((fun e => PyData.eqv e (T r)) ∘ T)) = some (rs.idxOf r) := by rw [← List.findIdx?_map]; exact index_rows h
/-! ### bundles -/
def sp_is_bundle : DSp := fun as k _ => ∃ B : Bun, as = [.p B.d] ∧ BunOk B ∧ k (.bool true) []
theorem ok_is_bundle {Γ : Gm} (h1 : Γ.fn "is_integer" = sp_is_integer) (f1 : Γ.fr "is_integer" = false) (h2 : Γ.fn "is_map" = sp_is_map) (f2 : Γ.fr "is_map" = false) (h3 : Γ.fn "is_pair" = sp_is_pair) (f3 : Γ.fr "is_pair" = false) (h4 : Γ.fn "ascends" = sp_ascends) (f4 : Γ.fr "ascends" = false) (h5 : Γ.fn "orders_of" = sp_orders_of) (f5 : Γ.fr "orders_of" = false) (c1 : Γ.cs "MOST_SIZE" = some (.int 4)) (c2 : Γ.cs "MOST_DEEDS" = some (.int 6)) :
    ∀ as k x, sp_is_bundle as k x → semS Γ d_is_bundle (dkOf false as k x) (ro0 6 as) := by
  rintro as k x ⟨B, rfl, hB, hk⟩
  have b1 := hB.n1
  have b4 := hB.n4
  have m6 := hB.m6
  have kl := bun_kn hB
  simp [d_is_bundle, ro0, Bun.d, idx0, h1, f1, sp_is_integer, c1]
  refine ⟨_, _, _, ⟨rfl, rfl, rfl⟩, ?_⟩
  have hi : intB (.int B.n) 1 4 = true := by simp; omega
  rw [hi]
  simp [is_bundle_5, c2]
  have hm : ¬ (6 : Int) < B.maps.length := by omega
  simp [hm]
  refine lcL_typ T (fun _ => .bool true) (fun _ => true) (fun q acc kk hq hl hkk => ?_) (by simp) (by rw [sz]; omega) ?_
  · simp [is_bundle_4, h2, f2, sp_is_map]
    refine ⟨_, _, ⟨rfl, rfl⟩, by omega, hl, ?_⟩
    rw [mapB_ok (hB.maps q hq)]
    exact hkk
  · rw [filter_tt]
    refine ⟨B.maps.map fun _ => true, by rw [List.map_map]; rfl, ?_⟩
    simp [is_bundle_3]
    refine lcL_typ T (fun _ => .bool true) (fun _ => true) (fun q acc kk hq hl hkk => ?_) (by simp) (by rw [sz]; omega) ?_
    · simp [is_bundle_2, h3, f3, sp_is_pair]
      refine ⟨_, _, ⟨rfl, rfl⟩, hl, ?_⟩
      rw [(bun_pair hB q hq).2]
      exact hkk
    · rw [filter_tt]
      refine ⟨B.known.map fun _ => true, by rw [List.map_map]; rfl, ?_⟩
      simp [is_bundle_1, h4, f4, sp_ascends]
      refine ⟨B.known, rfl, by omega, ?_⟩
      rw [asc_lt hB.known]
      simp [h5, f5, sp_orders_of]
      refine ⟨B.maps.length, B.known, ⟨rfl, rfl⟩, m6, by omega, fun p hp => (bun_pair hB p hp).1, ?_⟩
      have hne : B.ords ≠ [] := bun_ne hB
      rw [show ordersOf B.maps.length B.known = B.ords from rfl]
      have : (!B.ords.isEmpty) = true := by simpa using hne
      rw [this]
      exact hk
def sp_need_bundle : DSp := fun as k _ => ∃ B : Bun, as = [.p B.d] ∧ BunOk B ∧ k .none []
theorem ok_need_bundle {Γ : Gm} (h1 : Γ.fn "is_bundle" = sp_is_bundle) (f1 : Γ.fr "is_bundle" = false) : ∀ as k x, sp_need_bundle as k x → semS Γ d_need_bundle (dkOf false as k x) (ro0 1 as) := by
  rintro as k x ⟨B, rfl, hB, hk⟩
  simp [d_need_bundle, ro0, h1, f1, sp_is_bundle]
  exact ⟨B, rfl, hB, hk⟩
def sp_all_orders : DSp := fun as k _ => ∃ B : Bun, as = [.p B.d] ∧ BunOk B ∧ k (.list (B.ords.map T)) []
theorem ok_all_orders {Γ : Gm} (h1 : Γ.fn "orders_of" = sp_orders_of) (f1 : Γ.fr "orders_of" = false) : ∀ as k x, sp_all_orders as k x → semS Γ d_all_orders (dkOf false as k x) (ro0 1 as) := by
  rintro as k x ⟨B, rfl, hB, hk⟩
  have kl := bun_kn hB
  simp [d_all_orders, ro0, h1, f1, sp_orders_of, Bun.d, idx1, idx2]
  exact ⟨B.maps.length, B.known, ⟨rfl, rfl⟩, hB.m6, by omega, fun p hp => (bun_pair hB p hp).1, hk⟩
def sp_is_order_of : DSp := fun as k _ => ∃ (B : Bun) (r : List Int), as = [.p B.d, .p (T r)] ∧ BunOk B ∧ r ∈ B.ords ∧ k (.bool true) []
theorem ok_is_order_of {Γ : Gm} (h1 : Γ.fn "is_integer" = sp_is_integer) (f1 : Γ.fr "is_integer" = false) (h2 : Γ.fn "all_orders" = sp_all_orders) (f2 : Γ.fr "all_orders" = false) : ∀ as k x, sp_is_order_of as k x → semS Γ d_is_order_of (dkOf false as k x) (ro0 3 as) := by
  rintro as k x ⟨B, r, rfl, hB, hr, hk⟩
  have m6 := hB.m6
  obtain ⟨hp, _⟩ := mem_orders.mp hr
  have hl := hp.length_eq
  rw [rangeI_len] at hl
  simp [d_is_order_of, ro0, T]
  refine lcL_typ .int (fun _ => .bool true) (fun _ => true) (fun q acc kk hq hl hkk => ?_) (by simp) (by rw [sz]; omega) ?_
  · simp [is_order_of_2, h1, f1, sp_is_integer, Bun.d, idx1]
    refine ⟨_, _, _, ⟨rfl, rfl, rfl⟩, hl, ?_⟩
    have hq := hp.mem_iff.mp hq
    unfold rangeI at hq
    obtain ⟨i, hi, rfl⟩ := List.mem_map.mp hq
    have hi := List.mem_range.mp hi
    have : intB (.int (i : Int)) 0 ((B.maps.length : Int) - 1) = true := by simp; omega
    rw [this]
    exact hkk
  · rw [filter_tt]
    refine ⟨r.map fun _ => true, by rw [List.map_map]; rfl, ?_⟩
    simp [is_order_of_1, h2, f2, sp_all_orders]
    refine ⟨B, rfl, hB, ?_⟩
    simp [hr]
    exact hk
def sp_need_order : DSp := fun as k _ => ∃ (B : Bun) (r : List Int), as = [.p B.d, .p (T r)] ∧ BunOk B ∧ r ∈ B.ords ∧ k .none []
theorem ok_need_order {Γ : Gm} (h1 : Γ.fn "is_order_of" = sp_is_order_of) (f1 : Γ.fr "is_order_of" = false) : ∀ as k x, sp_need_order as k x → semS Γ d_need_order (dkOf false as k x) (ro0 2 as) := by
  rintro as k x ⟨B, r, rfl, hB, hr, hk⟩
  simp [d_need_order, ro0, h1, f1, sp_is_order_of]
  exact ⟨B, r, ⟨rfl, rfl⟩, hB, hr, hk⟩
end DL

end

section
namespace DL
open PySem PySem.Spec PyProof.Rows L2

/-- the same behind things that are there already -/
theorem lcL_typ0 {α : Type} {body : D → List D → Ro → (List D → Ro → Prop) → Prop} {chk : Ro → Prop} {k : List D → Ro → Prop} (g f : α → D) (p : α → Bool) {ys : List α} {ρ : Ro} {acc0 : List D}
    (step : ∀ y acc kk, y ∈ ys → acc.length < sizeLine → kk (if p y = true then acc ++ [f y] else acc) ρ → body (g y) acc ρ kk) (hc : chk ρ) (hz : acc0.length + ys.length ≤ sizeLine) (fin : k (acc0 ++ (ys.filter p).map f) ρ) : lcL body chk (ys.map g) acc0 ρ k := by
  refine lcL_ind (fun ds acc r => ∃ zs : List α, ds = zs.map g ∧ r = ρ ∧ (∀ y ∈ zs, y ∈ ys) ∧ acc.length + zs.length ≤ sizeLine ∧ acc ++ (zs.filter p).map f = acc0 ++ (ys.filter p).map f) ?_ (fun _ _ _ ⟨_, _, h, _⟩ => by rw [h]; exact hc) (fun acc r h => ?_) ⟨ys, rfl, rfl, fun _ h => h, hz, rfl⟩
  · rintro x ds acc r kk ⟨zs, e, rfl, h1, h2, h3⟩ hk
    cases zs with
    | nil => cases e
    | cons z zs =>
      obtain ⟨rfl, rfl⟩ := List.cons.inj e
      rw [List.length_cons] at h2
      refine step z acc kk (h1 z List.mem_cons_self) (by omega) (hk _ _ ⟨zs, rfl, rfl, fun y hy => h1 y (List.mem_cons_of_mem _ hy), ?_, ?_⟩)
      · split
        · rw [List.length_append, List.length_singleton]
          omega
        · omega
      · rw [← h3]
        by_cases hp : p z = true
        · rw [if_pos hp, List.filter_cons_of_pos hp, List.map_cons, List.append_assoc]
          rfl
        · rw [if_neg hp, List.filter_cons_of_neg hp]
  · obtain ⟨zs, e, rfl, _, _, h3⟩ := h
    have ez : zs = [] := by
      cases zs with
      | nil => rfl
      | cons a b => cases e
    subst ez
    have e2 : acc = acc0 ++ (ys.filter p).map f := by simpa using h3
    rw [e2]
    exact fin
def rangeI2 (lo : Int) (n : Nat) : List Int := (List.range n).map fun i => lo + (i : Nat)
theorem rangeD_I2 (lo : Int) (n : Nat) : rangeD lo n = (rangeI2 lo n).map .int := by
  unfold rangeD rangeI2
  rw [List.map_map]
  rfl
theorem rangeI2_len (lo : Int) (n : Nat) : (rangeI2 lo n).length = n := by unfold rangeI2; rw [List.length_map, List.length_range]
/-- the questions: pairs that ascend -/
def qFrom (m : Nat) (i : Int) : List (List Int) := (rangeI2 (i + 1) ((m : Int) - (i + 1)).toNat).map fun j => [i, j]
def qs (m : Nat) : List (List Int) := (rangeI m).flatMap (qFrom m)
theorem qFrom_len (m : Nat) (i : Int) (h : 0 ≤ i) : (qFrom m i).length ≤ m := by
  unfold qFrom
  rw [List.length_map, rangeI2_len]
  omega
theorem qPart_len (m : Nat) : ∀ i : Nat, ((rangeI i).flatMap (qFrom m)).length ≤ i * m
  | 0 => Nat.zero_le _
  | i + 1 => by
    have ih := qPart_len m i
    have := qFrom_len m i (by omega)
    rw [rangeI_succ, List.flatMap_append, List.flatMap_singleton, List.length_append, Nat.succ_mul]
    omega
def sp_all_questions : DSp := fun as k _ => ∃ m : Nat, as = [.p (.int m)] ∧ m ≤ 100 ∧ k (.list ((qs m).map T)) []
theorem ok_all_questions {Γ : Gm} : ∀ as k x, sp_all_questions as k x → semS Γ d_all_questions (dkOf false as k x) (ro0 3 as) := by
  rintro as k x ⟨m, rfl, hm, hk⟩
  simp [d_all_questions, ro0]
  refine ⟨by omega, ?_⟩
  refine lcL_ind (fun ys acc ρ => ∃ i : Nat, ys = rangeD (i : Int) (m - i) ∧ i ≤ m ∧ acc = ((rangeI i).flatMap (qFrom m)).map T ∧ ρ = [.p (.int m), .un, .un]) ?_ (fun _ _ _ _ => trivial) ?_ ⟨0, by simp, by omega, rfl, rfl⟩
  · rintro y ys acc ρ kk ⟨i, hy, hi, rfl, rfl⟩ hkk
    have hlt : i < m := by
      rcases Nat.lt_or_ge i m with z | z
      · exact z
      · exfalso
        rw [show m - i = 0 by omega] at hy
        exact nomatch hy
    rw [show m - i = (m - (i + 1)) + 1 by omega, rangeD_succ] at hy
    obtain ⟨rfl, rfl⟩ := List.cons.inj hy
    have hl := qPart_len m i
    have h2 : i * m ≤ 100 * 100 := Nat.mul_le_mul (by omega) hm
    simp [all_questions_1]
    refine ⟨by omega, ?_⟩
    rw [rangeD_I2]
    refine lcL_typ0 .int (fun j => T [(i : Int), j]) (fun _ => true) (fun j acc kk2 hj hl2 hkk2 => ?_) trivial (by rw [List.length_map, rangeI2_len, sz]; omega) ?_
    · simp [all_questions_2]
      simp [T] at hkk2
      exact ⟨hl2, hkk2⟩
    · rw [filter_tt]
      refine hkk _ _ ⟨i + 1, by simp, by omega, ?_, by simp⟩
      rw [rangeI_succ, List.flatMap_append, List.flatMap_singleton, List.map_append]
      congr 1
      unfold qFrom
      rw [List.map_map]
      rfl
  · rintro acc ρ ⟨i, hy, hi, rfl, rfl⟩
    have : i = m := by
      rcases Nat.lt_or_ge i m with z | z
      · exfalso
        rw [show m - i = (m - (i + 1)) + 1 by omega, rangeD_succ] at hy
        exact nomatch hy
      · omega
    subst this
    exact hk
def aheadB (r q : List Int) : Bool := decide (r.idxOf (fstI q) < r.idxOf (sndI q))
def sp_is_ahead : DSp := fun as k _ => ∃ (r : List Int) (a b : Int), as = [.p (T r), .p (.int a), .p (.int b)] ∧ a ∈ r ∧ b ∈ r ∧ k (.bool (aheadB r [a, b])) []
theorem ok_is_ahead {Γ : Gm} : ∀ as k x, sp_is_ahead as k x → semS Γ d_is_ahead (dkOf false as k x) (ro0 3 as) := by
  rintro as k x ⟨r, a, b, rfl, ha, hb, hk⟩
  simp [d_is_ahead, ro0, T]
  refine ⟨_, index_ints2 ha, _, index_ints2 hb, ?_⟩
  simp [aheadB, fstI, sndI] at hk
  exact hk
/-- it is open: here so, there so -/
def openB (rs : List (List Int)) (q : List Int) : Bool := (rs.any fun r => aheadB r q) && !(rs.all fun r => aheadB r q)
theorem openB_iff (rs : List (List Int)) (q : List Int) : openB rs q = true ↔ true ∈ rs.map (fun r => aheadB r q) ∧ false ∈ rs.map (fun r => aheadB r q) := by
  unfold openB
  rw [Bool.and_eq_true, Bool.not_eq_true', List.any_eq_true, List.all_eq_false]
  simp only [List.mem_map, Bool.not_eq_true]
theorem mem_qs {m : Nat} {q : List Int} (h : q ∈ qs m) : ∃ a b, q = [a, b] ∧ a ∈ rangeI m ∧ b ∈ rangeI m := by
  unfold qs at h
  obtain ⟨i, hi, h⟩ := List.mem_flatMap.mp h
  unfold qFrom at h
  obtain ⟨j, hj, rfl⟩ := List.mem_map.mp h
  refine ⟨i, j, rfl, hi, ?_⟩
  unfold rangeI at hi ⊢
  obtain ⟨i', hi', rfl⟩ := List.mem_map.mp hi
  unfold rangeI2 at hj
  obtain ⟨j', hj', rfl⟩ := List.mem_map.mp hj
  rw [List.mem_range] at hi' hj'
  exact List.mem_map.mpr ⟨i' + 1 + j', List.mem_range.mpr (by omega), by omega⟩
theorem qs_len (m : Nat) : (qs m).length ≤ m * m := qPart_len m m
def sp_open_questions : DSp := fun as k _ => ∃ (m : Nat) (rs : List (List Int)), as = [.p (.int m), .p (.list (rs.map T))] ∧ m ≤ 100 ∧ rs.length ≤ 1000000 ∧ (∀ r ∈ rs, r.Perm (rangeI m)) ∧ k (.list (((qs m).filter (openB rs)).map T)) []
theorem ok_open_questions {Γ : Gm} (h1 : Γ.fn "all_questions" = sp_all_questions) (f1 : Γ.fr "all_questions" = false) (h2 : Γ.fn "is_ahead" = sp_is_ahead) (f2 : Γ.fr "is_ahead" = false) : ∀ as k x, sp_open_questions as k x → semS Γ d_open_questions (dkOf false as k x) (ro0 7 as) := by
  rintro as k x ⟨m, rs, rfl, hm, hz, hp, hk⟩
  simp [d_open_questions, ro0, h1, f1, sp_all_questions]
  refine ⟨m, rfl, hm, ?_⟩
  have hql : (qs m).length ≤ 10000 := Nat.le_trans (qs_len m) (Nat.mul_le_mul hm hm)
  refine forL_ind (fun ys ρ => ∃ (done rest : List (List Int)) (s3 s4 s5 : Sl), qs m = done ++ rest ∧ ys = rest.map T ∧ ρ = [.p (.int m), .p (.list (rs.map T)), .o true (.ls ((done.filter (openB rs)).map T)), s3, s4, s5, .un]) ?_ ?_ ⟨[], _, .un, .un, .un, rfl, rfl, rfl⟩
  · rintro y ys ρ nx ⟨done, rest, s3, s4, s5, e1, e2, rfl⟩ hnx
    cases rest with
    | nil => cases e2
    | cons q rest =>
      obtain ⟨rfl, rfl⟩ := List.cons.inj e2
      obtain ⟨a, b, rfl, ha, hb⟩ := mem_qs (m := m) (q := q) (by rw [e1]; exact List.mem_append_right _ List.mem_cons_self)
      have ex : qs m = (done ++ [[a, b]]) ++ rest := by rw [e1, List.append_assoc]; rfl
      have hdl : (done.filter (openB rs)).length + 1 ≤ 10000 := by
        have h3 := List.length_filter_le (openB rs) done
        have h4 := congrArg List.length e1
        rw [List.length_append, List.length_cons] at h4
        omega
      simp [T, open_questions_4]
      refine lcL_typ T (fun r => .bool (aheadB r [a, b])) (fun _ => true) (fun r acc kk hr hl hkk => ?_) (by simp [T]) (by rw [sz]; omega) ?_
      · simp [open_questions_3, h2, f2, sp_is_ahead]
        exact ⟨r, a, b, ⟨rfl, rfl, rfl⟩, (hp r hr).mem_iff.mpr ha, (hp r hr).mem_iff.mpr hb, hl, hkk⟩
      · rw [filter_tt]
        simp [open_questions_2]
        have ho := openB_iff rs [a, b]
        have hf : ∀ b2 : Bool, openB rs [a, b] = b2 → (done ++ [[a, b]]).filter (openB rs) = if b2 = true then done.filter (openB rs) ++ [[a, b]] else done.filter (openB rs) := by
          intro b2 e
          rw [List.filter_append]
          cases b2
          · rw [List.filter_cons_of_neg (by rw [e]; decide)]; simp
          · rw [List.filter_cons_of_pos e]; simp
        refine ⟨rs.map fun r => aheadB r [a, b], by rw [List.map_map]; rfl, ?_⟩
        split
        · rename_i t1
          refine ⟨rs.map fun r => aheadB r [a, b], by rw [List.map_map]; rfl, ?_⟩
          split
          · rename_i t2
            refine ⟨by rw [sz]; omega, hnx _ ⟨done ++ [[a, b]], rest, .p (.int a), .p (.int b), .p (.list (rs.map fun r => .bool (aheadB r [a, b]))), ex, rfl, ?_⟩⟩
            rw [hf true (ho.mpr ⟨t1, t2⟩)]
            simp [T]
          · rename_i t2
            refine hnx _ ⟨done ++ [[a, b]], rest, .p (.int a), .p (.int b), .p (.list (rs.map fun r => .bool (aheadB r [a, b]))), ex, rfl, ?_⟩
            rw [hf false (Bool.eq_false_iff.mpr fun e => t2 (ho.mp e).2)]
            simp
        · rename_i t1
          refine hnx _ ⟨done ++ [[a, b]], rest, .p (.int a), .p (.int b), .p (.list (rs.map fun r => .bool (aheadB r [a, b]))), ex, rfl, ?_⟩
          rw [hf false (Bool.eq_false_iff.mpr fun e => t1 (ho.mp e).1)]
          simp
  · rintro ρ ⟨done, rest, s3, s4, s5, e1, e2, rfl⟩
    have er : rest = [] := by
      cases rest with
      | nil => rfl
      | cons a r => cases e2
    subst er
    rw [List.append_nil] at e1
    simp [open_questions_1]
    rw [← e1]
    exact hk
def d_count_orders : DS := (.seq (.ex (.call "need_bundle" (.cons (.bv 0) .nil) 0)) (.seq (.ret (.op1 .len (.call "all_orders" (.cons (.bv 0) .nil) 0))) .skip))
def order_at_1 : DS := (.seq (.ret (.op2 .idx (.bv 2) (.bv 1))) .skip)
def d_order_at : DS := (.seq (.ex (.call "need_bundle" (.cons (.bv 0) .nil) 0)) (.seq (.asg 2 (.call "all_orders" (.cons (.bv 0) .nil) 0)) (.seq (.ife (.not (.call "is_integer" (.cons (.bv 1) (.cons (.c (.int 0)) (.cons (.op2 .sub (.op1 .len (.bv 2)) (.c (.int 1))) .nil))) 0)) (.seq (.raise "InvalidPlace") .skip) .skip) order_at_1)))
def d_place_of : DS := (.seq (.ex (.call "need_bundle" (.cons (.bv 0) .nil) 0)) (.seq (.ex (.call "need_order" (.cons (.bv 0) (.cons (.bv 1) .nil)) 0)) (.seq (.ret (.op2 .indexL (.call "all_orders" (.cons (.bv 0) .nil) 0) (.bv 1))) .skip)))
def d_free_pairs : DS := (.seq (.ex (.call "need_bundle" (.cons (.bv 0) .nil) 0)) (.seq (.ret (.call "open_questions" (.cons (.op1 .len (.op2 .idx (.bv 0) (.c (.int 1)))) (.cons (.call "all_orders" (.cons (.bv 0) .nil) 0) .nil)) 0)) .skip))
def sp_count : DSp := fun as k _ => ∃ B : Bun, as = [.p B.d] ∧ BunOk B ∧ k (.int B.ords.length) []
theorem ok_count {Γ : Gm} (h1 : Γ.fn "need_bundle" = sp_need_bundle) (f1 : Γ.fr "need_bundle" = false) (h2 : Γ.fn "all_orders" = sp_all_orders) (f2 : Γ.fr "all_orders" = false) : ∀ as k x, sp_count as k x → semS Γ d_count_orders (dkOf false as k x) (ro0 1 as) := by
  rintro as k x ⟨B, rfl, hB, hk⟩
  simp [d_count_orders, ro0, h1, f1, sp_need_bundle, h2, f2, sp_all_orders]
  exact ⟨B, rfl, hB, B, rfl, hB, hk⟩
def sp_order_at : DSp := fun as k x => ∃ (B : Bun) (v : D), as = [.p B.d, .p v] ∧ BunOk B ∧ (intB v 0 ((B.ords.length : Int) - 1) = false → x ⟨"InvalidPlace", none⟩) ∧ ∀ (i : Nat) (r : List Int), v = .int i → B.ords[i]? = some r → k (T r) []
theorem ok_order_at {Γ : Gm} (h1 : Γ.fn "need_bundle" = sp_need_bundle) (f1 : Γ.fr "need_bundle" = false) (h2 : Γ.fn "all_orders" = sp_all_orders) (f2 : Γ.fr "all_orders" = false) (h3 : Γ.fn "is_integer" = sp_is_integer) (f3 : Γ.fr "is_integer" = false) : ∀ as k x, sp_order_at as k x → semS Γ d_order_at (dkOf false as k x) (ro0 3 as) := by
  rintro as k x ⟨B, v, rfl, hB, hx, hk⟩
  simp [d_order_at, ro0, h1, f1, sp_need_bundle, h2, f2, sp_all_orders]
  refine ⟨B, rfl, hB, B, rfl, hB, ?_⟩
  simp [h3, f3, sp_is_integer]
  refine ⟨_, _, _, ⟨rfl, rfl, rfl⟩, ?_⟩
  cases hi : intB v 0 ((B.ords.length : Int) - 1)
  · simp
    exact hx hi
  · simp [order_at_1]
    obtain ⟨i, rfl⟩ : ∃ i : Int, v = .int i := by
      cases v <;> first | exact ⟨_, rfl⟩ | exact absurd hi (by simp [intB])
    rw [intB_int, Bool.and_eq_true, decide_eq_true_eq, decide_eq_true_eq] at hi
    obtain ⟨d, e1, e2, e3⟩ := idxN (ds := B.ords.map T) hi.1 (by rw [List.length_map]; omega)
    rw [List.getElem?_map] at e2
    obtain ⟨r, e4, rfl⟩ := Option.map_eq_some_iff.mp e2
    refine ⟨_, e1, hk i.toNat r (by rw [Int.toNat_of_nonneg hi.1]) e4⟩
def sp_place_of : DSp := fun as k _ => ∃ (B : Bun) (r : List Int), as = [.p B.d, .p (T r)] ∧ BunOk B ∧ r ∈ B.ords ∧ k (.int (B.ords.idxOf r)) []
theorem ok_place_of {Γ : Gm} (h1 : Γ.fn "need_bundle" = sp_need_bundle) (f1 : Γ.fr "need_bundle" = false) (h2 : Γ.fn "all_orders" = sp_all_orders) (f2 : Γ.fr "all_orders" = false) (h3 : Γ.fn "need_order" = sp_need_order) (f3 : Γ.fr "need_order" = false) : ∀ as k x, sp_place_of as k x → semS Γ d_place_of (dkOf false as k x) (ro0 2 as) := by
  rintro as k x ⟨B, r, rfl, hB, hr, hk⟩
  simp [d_place_of, ro0, h1, f1, sp_need_bundle, h2, f2, sp_all_orders, h3, f3, sp_need_order]
  refine ⟨B, rfl, hB, B, r, ⟨rfl, rfl⟩, hB, hr, B, rfl, hB, ?_⟩
  exact ⟨_, index_rows2 hr, hk⟩
def sp_free_pairs : DSp := fun as k _ => ∃ B : Bun, as = [.p B.d] ∧ BunOk B ∧ k (.list (((qs B.maps.length).filter (openB B.ords)).map T)) []
theorem ords_len (B : Bun) (h : BunOk B) : B.ords.length ≤ 46656 := by
  have h1 := ordN_len B.maps.length B.known B.maps.length
  have h2 : B.maps.length ^ B.maps.length ≤ 6 ^ B.maps.length := Nat.pow_le_pow_left h.m6 _
  have h3 : (6 : Nat) ^ B.maps.length ≤ 6 ^ 6 := Nat.pow_le_pow_right (by omega) h.m6
  have h5 : (6 : Nat) ^ 6 = 46656 := by decide
  show (ordN _ _ _).length ≤ _
  omega
theorem ok_free_pairs {Γ : Gm} (h1 : Γ.fn "need_bundle" = sp_need_bundle) (f1 : Γ.fr "need_bundle" = false) (h2 : Γ.fn "all_orders" = sp_all_orders) (f2 : Γ.fr "all_orders" = false) (h3 : Γ.fn "open_questions" = sp_open_questions) (f3 : Γ.fr "open_questions" = false) : ∀ as k x, sp_free_pairs as k x → semS Γ d_free_pairs (dkOf false as k x) (ro0 1 as) := by
  rintro as k x ⟨B, rfl, hB, hk⟩
  have hl := ords_len B hB
  have m6 := hB.m6
  simp [d_free_pairs, ro0, h1, f1, sp_need_bundle, h2, f2, sp_all_orders, h3, f3, sp_open_questions, Bun.d, idx1]
  exact ⟨B, ⟨rfl, rfl, rfl⟩, hB, B, ⟨rfl, rfl, rfl⟩, hB, _, _, ⟨rfl, rfl⟩, by omega, by omega, fun r hr => (mem_orders.mp hr).1, hk⟩
end DL

end

section
namespace DL
open PySem PySem.Spec PyProof.Rows L2

def law_rows_1 : DS := (.seq (.ret (.op1 .sorted (.bv 1))) .skip)
def law_rows_2 : DS := (.seq (.asg 1 (.var 3)) .skip)
def law_rows_3 : DE := (.op2 .add (.op2 .add (.op2 .upto (.bv 4) (.bv 5)) (.tup (.cons (.var 2) .nil))) (.op2 .from (.bv 4) (.bv 5)))
def law_rows_4 : DS := (.seq (.asg 3 (.op2 .add (.bv 3) (.lc [5] (.rng1 (.op2 .add (.op1 .len (.bv 4)) (.c (.int 1)))) (.c (.bool true)) law_rows_3 [5]))) .skip)
def law_rows_5 : DS := (.seq (.asg 3 (.lst .nil)) (.seq (.for' [4] (.var 1) law_rows_4) law_rows_2))
def d_law_rows : DS := (.seq (.asg 1 (.lst (.cons (.tup .nil) .nil))) (.seq (.for' [2] (.rng1 (.var 0)) law_rows_5) law_rows_1))
def law_stands_1 : DE := (.op2 .ge (.dat 2 (.op2 .idx (.bv 3) (.c (.int 0)))) (.dat 2 (.op2 .idx (.bv 3) (.c (.int 1)))))
def law_stands_2 : DS := (.seq (.ret (.op2 .eq (.lc [3] (.bv 1) law_stands_1 (.var 3) [3]) (.lst .nil))) .skip)
def law_stands_3 : DE := (.tup (.cons (.var 5) (.cons (.var 4) .nil)))
def d_law_stands : DS := (.seq (.dct 2 (.lc [4, 5] (.enum (.var 0)) (.c (.bool true)) law_stands_3 [4, 5])) law_stands_2)
def law_orders_1 : DE := (.call "_law_stands" (.cons (.bv 1) (.cons (.op2 .idx (.bv 0) (.c (.int 2))) .nil)) 0)
def d_law_orders : DS := (.seq (.ret (.lc [1] (.call "_law_rows" (.cons (.op1 .len (.op2 .idx (.bv 0) (.c (.int 1)))) .nil) 0) law_orders_1 (.var 1) [1])) .skip)
def law_questions_1 : DS := (.seq (.ret (.var 1)) .skip)
def law_questions_2 : DE := (.tup (.cons (.var 2) (.cons (.var 3) .nil)))
def law_questions_3 : DS := (.seq (.asg 1 (.op2 .add (.bv 1) (.lc [3] (.rng2 (.op2 .add (.bv 2) (.c (.int 1))) (.var 0)) (.c (.bool true)) law_questions_2 [3]))) .skip)
def d_law_questions : DS := (.seq (.asg 1 (.lst .nil)) (.seq (.for' [2] (.rng1 (.var 0)) law_questions_3) law_questions_1))
/-! ### all rows, by putting in -/
def ins (row : List Int) (t : Int) (a : Nat) : List Int := row.take a ++ t :: row.drop a
def insR (t : Int) (rows : List (List Int)) : List (List Int) := rows.flatMap fun row => (List.range (row.length + 1)).map fun a => ins row t a
def insN : Nat → List (List Int)
  | 0 => [[]]
  | t + 1 => insR (t : Int) (insN t)
theorem ins_perm (row : List Int) (t : Int) (a : Nat) : (ins row t a).Perm (row ++ [t]) := by
  unfold ins
  have h : (row.take a ++ t :: row.drop a).Perm (t :: (row.take a ++ row.drop a)) := List.perm_middle
  rw [List.take_append_drop] at h
  exact h.trans (List.perm_append_comm (l₁ := [t]))
theorem ins_inj {row row' : List Int} {t : Int} {a a' : Nat} (h1 : t ∉ row) (h2 : t ∉ row') (ha : a ≤ row.length) (ha' : a' ≤ row'.length) (e : ins row t a = ins row' t a') : row = row' ∧ a = a' := by
  have i1 : (ins row t a).idxOf t = a := by
    unfold ins
    rw [List.idxOf_append, if_neg (fun z => h1 (List.mem_of_mem_take z)), List.length_take, Nat.min_eq_left ha]
    simp
  have i2 : (ins row' t a').idxOf t = a' := by
    unfold ins
    rw [List.idxOf_append, if_neg (fun z => h2 (List.mem_of_mem_take z)), List.length_take, Nat.min_eq_left ha']
    simp
  have ea : a = a' := by rw [← i1, e, i2]
  subst ea
  refine ⟨?_, rfl⟩
  unfold ins at e
  have := List.append_inj e (by rw [List.length_take, List.length_take, Nat.min_eq_left ha, Nat.min_eq_left ha'])
  have t2 := (List.cons.inj this.2).2
  rw [← List.take_append_drop a row, this.1, t2, List.take_append_drop]
theorem mem_insN : ∀ (t : Nat) (r : List Int), r ∈ insN t ↔ r.Perm (rangeI t)
  | 0, r => by
    show r ∈ [[]] ↔ r.Perm []
    rw [List.mem_singleton, List.perm_nil]
  | t + 1, r => by
    show r ∈ insR _ _ ↔ _
    unfold insR
    rw [List.mem_flatMap, rangeI_succ]
    constructor
    · rintro ⟨row, hr, h⟩
      obtain ⟨a, _, rfl⟩ := List.mem_map.mp h
      exact (ins_perm row t a).trans (List.Perm.append_right _ ((mem_insN t row).mp hr))
    · intro h
      have hm : (t : Int) ∈ r := h.mem_iff.mpr (List.mem_append_right _ (List.mem_singleton_self _))
      obtain ⟨s1, s2, rfl⟩ := List.append_of_mem hm
      have hp : (s1 ++ s2).Perm (rangeI t) := by
        have h2 : ((t : Int) :: (s1 ++ s2)).Perm ((t : Int) :: rangeI t) := (List.perm_middle.symm.trans h).trans List.perm_append_comm
        exact h2.cons_inv
      refine ⟨s1 ++ s2, (mem_insN t _).mpr hp, List.mem_map.mpr ⟨s1.length, List.mem_range.mpr (by rw [List.length_append]; omega), ?_⟩⟩
      unfold ins
      simp
theorem insN_fresh {t : Nat} {r : List Int} (h : r ∈ insN t) : (t : Int) ∉ r := by
  intro hm
  have := ((mem_insN t r).mp h).mem_iff.mp hm
  unfold rangeI at this
  obtain ⟨i, hi, e⟩ := List.mem_map.mp this
  have := List.mem_range.mp hi
  omega
theorem insN_nodup : ∀ t, (insN t).Nodup
  | 0 => by simp [insN]
  | t + 1 => by
    show (insR _ _).Nodup
    unfold insR List.Nodup
    rw [List.pairwise_flatMap]
    refine ⟨fun row hr => ?_, ?_⟩
    · rw [List.pairwise_map]
      refine List.nodup_range.imp_of_mem fun {a b} ha hb hne e => ?_
      rw [List.mem_range] at ha hb
      exact hne (ins_inj (insN_fresh hr) (insN_fresh hr) (by omega) (by omega) e).2
    · refine (insN_nodup t).imp_of_mem fun {r1 r2} h1 h2 hne x hx y hy e => ?_
      obtain ⟨a, ha, rfl⟩ := List.mem_map.mp hx
      obtain ⟨b, hb, rfl⟩ := List.mem_map.mp hy
      rw [List.mem_range] at ha hb
      exact hne (ins_inj (insN_fresh h1) (insN_fresh h2) (by omega) (by omega) e).1
theorem insN_row {t : Nat} {r : List Int} (h : r ∈ insN t) : r.length = t := by rw [((mem_insN t r).mp h).length_eq, rangeI_len]
theorem insR_len (t : Int) (n : Nat) : ∀ rows : List (List Int), (∀ r ∈ rows, r.length = n) → (insR t rows).length = rows.length * (n + 1)
  | [], _ => by simp [insR]
  | r :: rows, h => by
    have ih := insR_len t n rows fun x hx => h x (List.mem_cons_of_mem _ hx)
    have : insR t (r :: rows) = ((List.range (r.length + 1)).map fun a => ins r t a) ++ insR t rows := rfl
    rw [this, List.length_append, ih, List.length_map, List.length_range, h r List.mem_cons_self, List.length_cons, Nat.succ_mul, Nat.add_comm]
theorem insN_len : ∀ t, (insN t).length ≤ 6 ^ t ∨ 6 < t
  | 0 => .inl (Nat.le_refl 1)
  | t + 1 => by
    rcases insN_len t with h | h
    · rcases Nat.lt_or_ge 6 (t + 1) with z | z
      · exact .inr z
      · refine .inl ?_
        show (insR _ _).length ≤ _
        rw [insR_len t t _ fun r hr => insN_row hr, Nat.pow_succ]
        exact Nat.mul_le_mul h z
    · exact .inr (by omega)
theorem insR_snoc (t : Int) (done : List (List Int)) (row : List Int) : insR t (done ++ [row]) = insR t done ++ (List.range (row.length + 1)).map fun a => ins row t a := by
  unfold insR
  rw [List.flatMap_append, List.flatMap_singleton]
theorem takeI_nat (n i : Nat) (h : i ≤ n) : takeI n (i : Int) = i := by
  show HT.sIx n n (some (i : Int)) = i
  rw [HT.sIx_nat]
  omega
def sp_rows : DSp := fun as k _ => ∃ m : Nat, as = [.p (.int m)] ∧ m ≤ 6 ∧ k (.list ((sortRows (insN m)).map T)) []
theorem ok_rows {Γ : Gm} : ∀ as k x, sp_rows as k x → semS Γ d_law_rows (dkOf false as k x) (ro0 6 as) := by
  rintro as k x ⟨m, rfl, hm, hk⟩
  simp [d_law_rows, ro0]
  refine ⟨by omega, ?_⟩
  refine forL_ind (fun ys ρ => ∃ (i : Nat) (s2 s3 s4 : Sl), ys = rangeD (i : Int) (m - i) ∧ i ≤ m ∧ ρ = [.p (.int m), .p (.list ((insN i).map T)), s2, s3, s4, .un]) ?_ ?_ ⟨0, .un, .un, .un, by simp, by omega, rfl⟩
  · rintro y ys ρ nx ⟨i, s2, s3, s4, hy, hi, rfl⟩ hnx
    have hlt : i < m := by
      rcases Nat.lt_or_ge i m with z | z
      · exact z
      · exfalso
        rw [show m - i = 0 by omega] at hy
        exact nomatch hy
    rw [show m - i = (m - (i + 1)) + 1 by omega, rangeD_succ] at hy
    obtain ⟨rfl, rfl⟩ := List.cons.inj hy
    have hil : (insN i).length * (i + 1) ≤ 46656 := by
      rcases insN_len (i + 1) with h | h
      · have e : (insN (i + 1)).length = _ := insR_len i i (insN i) fun r hr => insN_row hr
        rw [e] at h
        have h3 : (6 : Nat) ^ (i + 1) ≤ 6 ^ 6 := Nat.pow_le_pow_right (by omega) (by omega)
        have h5 : (6 : Nat) ^ 6 = 46656 := by decide
        omega
      · omega
    simp [law_rows_5]
    refine forL_ind (fun ys ρ => ∃ (done rest : List (List Int)) (s4 : Sl), insN i = done ++ rest ∧ ys = rest.map T ∧ ρ = [.p (.int m), .p (.list ((insN i).map T)), .p (.int i), .p (.list ((insR i done).map T)), s4, .un]) ?_ ?_ ⟨[], _, s4, rfl, rfl, rfl⟩
    · rintro z zs ρ nx2 ⟨done, rest, s4, e1, e2, rfl⟩ hnx2
      cases rest with
      | nil => cases e2
      | cons row rest =>
        obtain ⟨rfl, rfl⟩ := List.cons.inj e2
        have ex : insN i = (done ++ [row]) ++ rest := by rw [e1, List.append_assoc]; rfl
        have hrow : row.length = i := insN_row (by rw [e1]; exact List.mem_append_right _ List.mem_cons_self)
        have hdl : (insR i done).length + (i + 1) ≤ 46656 := by
          rw [insR_len i i done fun r hr => insN_row (by rw [e1]; exact List.mem_append_left _ hr)]
          have : (done.length + 1) * (i + 1) ≤ (insN i).length * (i + 1) := Nat.mul_le_mul_right _ (by rw [e1, List.length_append, List.length_cons]; omega)
          rw [Nat.succ_mul] at this
          omega
        simp [law_rows_4, T]
        refine ⟨by omega, ?_⟩
        have hz : rangeD 0 (row.length + 1) = (List.range (row.length + 1)).map fun a => PyData.int (a : Nat) := by
          unfold rangeD
          refine List.map_congr_left fun a _ => ?_
          rw [Int.zero_add]
        rw [hz]
        refine lcL_typ (fun a : Nat => .int (a : Nat)) (fun a => T (ins row i a)) (fun _ => true) (fun a acc kk ha hl hkk => ?_) trivial (by rw [List.length_range, sz]; omega) ?_
        · have ha := List.mem_range.mp ha
          simp [law_rows_3]
          rw [takeI_nat _ _ (by omega), dropI_nat _ _ (by omega)]
          simp [T, ins] at hkk
          exact ⟨by rw [sz]; omega, by rw [sz]; omega, hl, hkk⟩
        · rw [filter_tt]
          simp
          refine ⟨by rw [sz]; omega, hnx2 _ ⟨done ++ [row], rest, .p (T row), ex, rfl, ?_⟩⟩
          rw [insR_snoc]
          rw [List.map_append, List.map_map]
          rfl
    · rintro ρ ⟨done, rest, s4, e1, e2, rfl⟩
      have er : rest = [] := by
        cases rest with
        | nil => rfl
        | cons a r => cases e2
      subst er
      rw [List.append_nil] at e1
      simp [law_rows_2]
      exact hnx _ ⟨i + 1, .p (.int i), _, s4, by simp, by omega, by rw [← e1]; rfl⟩
  · rintro ρ ⟨i, s2, s3, s4, hy, hi, rfl⟩
    have : i = m := by
      rcases Nat.lt_or_ge i m with z | z
      · exfalso
        rw [show m - i = (m - (i + 1)) + 1 by omega, rangeD_succ] at hy
        exact nomatch hy
      · omega
    subst this
    simp [law_rows_1]
    refine ⟨sortOk_T fun h2 r hr => ?_, by rw [sortD_T]; exact hk⟩
    intro e
    subst e
    have := insN_row hr
    have : i = 0 := this.symm
    subst this
    exact absurd h2 (by decide)

/-! ### a row stands -/
theorem putD_new {kvs : List (Key × D)} {k : Key} {d : D} (h : ∀ p ∈ kvs, p.1 ≠ k) : putD kvs k d = kvs ++ [(k, d)] := by
  unfold putD
  rw [if_neg]
  intro e
  obtain ⟨p, hp, e⟩ := List.any_eq_true.mp e
  exact h p hp (by simpa using e)
theorem mergeD_new : ∀ (more kvs : List (Key × D)), (more.map (·.1)).Nodup → (∀ p ∈ kvs, ∀ q ∈ more, p.1 ≠ q.1) → mergeD kvs more = kvs ++ more
  | [], kvs, _, _ => by simp [mergeD]
  | q :: more, kvs, nd, h => by
    obtain ⟨h1, h2⟩ := List.nodup_cons.mp nd
    show mergeD (putD kvs q.1 q.2) more = _
    rw [putD_new fun p hp => h p hp q List.mem_cons_self, mergeD_new more _ h2 ?_, List.append_assoc]
    · rfl
    · intro p hp q' hq'
      rcases List.mem_append.mp hp with z | z
      · exact h p z q' (List.mem_cons_of_mem _ hq')
      · rw [List.mem_singleton.mp z]
        exact fun e => h1 (List.mem_map.mpr ⟨q', hq', e.symm⟩)
def placeL (r : List Int) (n : Nat) : List (Key × D) := (r.zipIdx n).map fun p => (.inl p.1, .int (p.2 : Nat))
theorem look_place : ∀ (r : List Int) (n : Nat) (a : Int), a ∈ r → lookD (placeL r n) (.inl a) = some (.int ((n + r.idxOf a : Nat) : Int))
  | b :: r, n, a, h => by
    unfold placeL lookD
    rw [List.zipIdx_cons, List.map_cons, List.find?_cons]
    by_cases e : b = a
    · subst e
      simp
    · have h' : a ∈ r := by
        rcases List.mem_cons.mp h with z | z
        · exact absurd z.symm e
        · exact z
      have ih := look_place r (n + 1) a h'
      unfold placeL lookD at ih
      have ee : decide ((Sum.inl b : Key) = Sum.inl a) = false := by
        rw [decide_eq_false_iff_not]
        exact fun z => e (Sum.inl.inj z)
      simp only [ee]
      rw [ih, List.idxOf_cons]
      have : (b == a) = false := by simpa using e
      rw [this]
      simp only [cond_false]
      congr 3
      omega
theorem pairs_place : ∀ l : List (Int × Nat), pairsD (l.map fun p => .tuple [.int p.1, .int (p.2 : Nat)]) = some (l.map fun p => (.inl p.1, .int (p.2 : Nat)))
  | [] => rfl
  | p :: l => by
    rw [List.map_cons, pairsD, pairs_place l]
    rfl
theorem place_ok {r : List Int} (nd : r.Nodup) : mergeD [] (placeL r 0) = placeL r 0 := by
  rw [mergeD_new _ [] ?_ (fun _ h => nomatch h)]
  · rfl
  · unfold placeL
    rw [List.map_map]
    have e : (r.zipIdx 0).map ((fun p : Key × D => p.1) ∘ fun p : Int × Nat => ((.inl p.1 : Key), (PyData.int (p.2 : Nat)))) = r.map (fun a => (.inl a : Key)) := by
      have := List.zipIdx_map_fst 0 r
      conv => rhs; rw [← this]
      rw [List.map_map]
      rfl
    rw [e]
    unfold List.Nodup
    rw [List.pairwise_map]
    exact nd.imp fun h z => h (Sum.inl.inj z)
theorem enum_ints (r : List Int) : enumD (r.map .int) = (r.zipIdx).map fun p => .tuple [.int (p.2 : Nat), .int p.1] := by
  unfold enumD
  rw [List.zipIdx_map, List.map_map]
  rfl
def sp_stands : DSp := fun as k _ => ∃ (r : List Int) (ps : List (List Int)) (c : D), as = [.p (T r), .p c] ∧ (c = .tuple (ps.map T) ∨ c = .list (ps.map T)) ∧ r.Nodup ∧ r.length ≤ 1000 ∧ ps.length ≤ 1000 ∧ (∀ p ∈ ps, ∃ a b, p = [a, b] ∧ a ∈ r ∧ b ∈ r) ∧ k (.bool (ps.all (aheadB r))) []
theorem ok_stands {Γ : Gm} : ∀ as k x, sp_stands as k x → semS Γ d_law_stands (dkOf false as k x) (ro0 6 as) := by
  rintro as k x ⟨r, ps, c, rfl, hc, nd, hr, hp, hpp, hk⟩
  have hci : itemsOf c = some (ps.map T) := by rcases hc with rfl | rfl <;> rfl
  simp [d_law_stands, ro0, T]
  rw [enum_ints]
  refine lcL_typ (fun p : Int × Nat => .tuple [.int (p.2 : Nat), .int p.1]) (fun p => .tuple [.int p.1, .int (p.2 : Nat)]) (fun _ => true) (fun p acc kk hq hl hkk => ?_) trivial (by rw [List.length_zipIdx, sz]; omega) ?_
  · simp [law_stands_3]
    exact ⟨hl, hkk⟩
  · rw [filter_tt]
    rw [pairs_place]
    simp only []
    rw [show (List.map (fun p : Int × Nat => ((Sum.inl p.1 : Key), PyData.int (p.2 : Nat))) r.zipIdx) = placeL r 0 from rfl, place_ok nd]
    rcases hc with rfl | rfl
    all_goals
      simp [law_stands_2]
      refine lcL_typ T T (fun p => !aheadB r p) (fun p acc kk hq hl hkk => ?_) (by simp) (by rw [sz]; omega) ?_
      · obtain ⟨a, b, rfl, ha, hb⟩ := hpp p hq
        simp [law_stands_1, T, idx0, idx1]
        refine ⟨_, look_place r 0 a ha, _, look_place r 0 b hb, ?_⟩
        simp [aheadB, fstI, sndI, T] at hkk
        simp
        split
        · rename_i h
          rw [if_pos h] at hkk
          exact ⟨hl, hkk⟩
        · rename_i h
          rw [if_neg h] at hkk
          exact hkk
      · have e : (ps.filter fun p => !aheadB r p).isEmpty = ps.all (aheadB r) := by
          rw [Bool.eq_iff_iff, List.isEmpty_iff, List.filter_eq_nil_iff, List.all_eq_true]
          simp
        simp
        rw [e]
        exact hk
/-! ### the orders, the other way -/
theorem stands_adm {m : Nat} {ps : List (List Int)} {r : List Int} (hp : r.Perm (rangeI m)) (hps : ∀ p ∈ ps, ∃ a b, p = [a, b] ∧ a ∈ rangeI m ∧ b ∈ rangeI m) : ps.all (aheadB r) = true ↔ Adm ps r := by
  rw [List.all_eq_true]
  unfold Adm aheadB
  constructor
  · intro h p hpp _
    simpa using h p hpp
  · intro h p hpp
    obtain ⟨a, b, rfl, ha, hb⟩ := hps p hpp
    have := h [a, b] hpp (hp.mem_iff.mpr hb)
    simpa using this
theorem rows_orders {m : Nat} {ps : List (List Int)} (hps : ∀ p ∈ ps, ∃ a b, p = [a, b] ∧ a ∈ rangeI m ∧ b ∈ rangeI m) : (sortRows (insN m)).filter (fun r => ps.all (aheadB r)) = ordersOf m ps := by
  refine eq_of_lt ((sortRows_lt (insN_nodup m)).filter _) (orders_lt m ps) fun r => ?_
  rw [List.mem_filter, (sortRows_perm _).mem_iff, mem_insN, mem_orders]
  constructor
  · rintro ⟨h1, h2⟩
    exact ⟨h1, (stands_adm h1 hps).mp h2⟩
  · rintro ⟨h1, h2⟩
    exact ⟨h1, (stands_adm h1 hps).mpr h2⟩
theorem bun_pairs {B : Bun} (h : BunOk B) : ∀ p ∈ B.known, ∃ a b, p = [a, b] ∧ a ∈ rangeI B.maps.length ∧ b ∈ rangeI B.maps.length := by
  intro p hp
  obtain ⟨o, h1, h2⟩ := h.lin
  obtain ⟨a, b, rfl, i, j, hij, ha, hb⟩ := h2 p hp
  exact ⟨a, b, rfl, h1.mem_iff.mp (List.mem_of_getElem? ha), h1.mem_iff.mp (List.mem_of_getElem? hb)⟩
def sp_orders : DSp := fun as k _ => ∃ B : Bun, as = [.p B.d] ∧ BunOk B ∧ k (.list (B.ords.map T)) []
theorem ok_orders {Γ : Gm} (h1 : Γ.fn "_law_rows" = sp_rows) (f1 : Γ.fr "_law_rows" = false) (h2 : Γ.fn "_law_stands" = sp_stands) (f2 : Γ.fr "_law_stands" = false) : ∀ as k x, sp_orders as k x → semS Γ d_law_orders (dkOf false as k x) (ro0 2 as) := by
  rintro as k x ⟨B, rfl, hB, hk⟩
  have m6 := hB.m6
  have kl := bun_kn hB
  simp [d_law_orders, ro0, h1, f1, sp_rows, Bun.d, idx1]
  refine ⟨_, rfl, m6, ?_⟩
  refine lcL_typ T T (fun r => B.known.all (aheadB r)) (fun r acc kk hr hl hkk => ?_) trivial ?_ ?_
  · have hp : r.Perm (rangeI B.maps.length) := (mem_insN _ _).mp ((sortRows_perm _).mem_iff.mp hr)
    have hrl := hp.length_eq
    rw [rangeI_len] at hrl
    simp [law_orders_1, h2, f2, sp_stands, Bun.d, idx2]
    refine ⟨r, B.known, _, ⟨rfl, rfl⟩, .inl rfl, hp.nodup_iff.mpr (rangeI_nodup _), by omega, by omega, fun p hpp => ?_, ?_⟩
    · obtain ⟨a, b, e, ha, hb⟩ := bun_pairs hB p hpp
      exact ⟨a, b, e, hp.mem_iff.mpr ha, hp.mem_iff.mpr hb⟩
    · simp only [List.all_eq_true] at hkk
      split
      · rename_i h
        rw [if_pos h] at hkk
        exact ⟨hl, hkk⟩
      · rename_i h
        rw [if_neg h] at hkk
        exact hkk
  · rw [(sortRows_perm _).length_eq, sz]
    rcases insN_len B.maps.length with h | h
    · have h3 : (6 : Nat) ^ B.maps.length ≤ 6 ^ 6 := Nat.pow_le_pow_right (by omega) m6
      have h5 : (6 : Nat) ^ 6 = 46656 := by decide
      omega
    · omega
  · rw [rows_orders (bun_pairs hB)]
    exact hk
def sp_questions : DSp := fun as k _ => ∃ m : Nat, as = [.p (.int m)] ∧ m ≤ 100 ∧ k (.list ((qs m).map T)) []
theorem ok_questions {Γ : Gm} : ∀ as k x, sp_questions as k x → semS Γ d_law_questions (dkOf false as k x) (ro0 4 as) := by
  rintro as k x ⟨m, rfl, hm, hk⟩
  simp [d_law_questions, ro0]
  refine ⟨by omega, ?_⟩
  refine forL_ind (fun ys ρ => ∃ (i : Nat) (sx : Sl), ys = rangeD (i : Int) (m - i) ∧ i ≤ m ∧ ρ = [.p (.int m), .p (.list (((rangeI i).flatMap (qFrom m)).map T)), sx, .un]) ?_ ?_ ⟨0, .un, by simp, by omega, rfl⟩
  · rintro y ys ρ nx ⟨i, sx, hy, hi, rfl⟩ hnx
    have hlt : i < m := by
      rcases Nat.lt_or_ge i m with z | z
      · exact z
      · exfalso
        rw [show m - i = 0 by omega] at hy
        exact nomatch hy
    rw [show m - i = (m - (i + 1)) + 1 by omega, rangeD_succ] at hy
    obtain ⟨rfl, rfl⟩ := List.cons.inj hy
    have hl := qPart_len m i
    have h2 : i * m ≤ 100 * 100 := Nat.mul_le_mul (by omega) hm
    have h3 := qFrom_len m i (by omega)
    simp [law_questions_3]
    refine ⟨by omega, ?_⟩
    rw [rangeD_I2]
    refine lcL_typ .int (fun j => T [(i : Int), j]) (fun _ => true) (fun j acc kk2 hj hl2 hkk2 => ?_) trivial (by rw [rangeI2_len, sz]; omega) ?_
    · simp [law_questions_2]
      simp [T] at hkk2
      exact ⟨hl2, hkk2⟩
    · rw [filter_tt]
      have e : (rangeI2 ((i : Int) + 1) ((m : Int) - ((i : Int) + 1)).toNat).map (fun j => T [(i : Int), j]) = (qFrom m i).map T := by
        unfold qFrom
        rw [List.map_map]
        rfl
      rw [e]
      simp only [List.getElem?_cons_zero, List.getElem?_cons_succ, s2, sAdd, List.length_map]
      refine ⟨by rw [sz]; omega, hnx _ ⟨i + 1, .p (.int i), by simp, by omega, ?_⟩⟩
      rw [rangeI_succ, List.flatMap_append, List.flatMap_singleton, List.map_append]
      rfl
  · rintro ρ ⟨i, sx, hy, hi, rfl⟩
    have : i = m := by
      rcases Nat.lt_or_ge i m with z | z
      · exfalso
        rw [show m - i = (m - (i + 1)) + 1 by omega, rangeD_succ] at hy
        exact nomatch hy
      · omega
    subst this
    simp [law_questions_1]
    exact hk
end DL

end

section
namespace DL
open PySem PySem.Spec PyProof.Rows L2

def law_refused_1 : DS := (.seq (.ret (.c (.bool false))) .skip)
def d_law_refused : DS := (.seq (.trye (.seq (.ex (.call "order_at" (.cons (.bv 0) (.cons (.bv 1) .nil)) 0)) .skip) "InvalidPlace" (.bool true)) law_refused_1)
def k02_law_1 : DS := (.seq (.ret (.c (.bool true))) .skip)
def k02_law_2 : DS := (.seq (.ife (.op2 .ne (.call "free_pairs" (.cons (.bv 3) .nil) 0) (.bv 6)) (.seq (.ret (.c (.bool false))) .skip) .skip) .skip)
def k02_law_3 : DS := (.seq (.asg 6 (.op2 .add (.bv 6) (.op2 .mul (.lst (.cons (.var 7) .nil)) (.op1 .intOf (.chain .lt .lt (.c (.int 0)) (.var 8) (.op1 .len (.bv 4))))))) .skip)
def k02_law_4 : DE := (.call "_law_stands" (.cons (.bv 9) (.cons (.lst (.cons (.var 7) .nil)) .nil)) 0)
def k02_law_5 : DS := (.seq (.asg 8 (.op1 .len (.lc [9] (.bv 4) k02_law_4 (.var 9) [9]))) k02_law_3)
def k02_law_6 : DS := (.seq (.asg 6 (.lst .nil)) (.seq (.for' [7] (.call "_law_questions" (.cons (.op1 .len (.op2 .idx (.bv 3) (.c (.int 1)))) .nil) 0) k02_law_5) k02_law_2))
def k02_law_7 : DS := (.seq (.ife (.not (.call "_law_refused" (.cons (.bv 3) (.cons (.bv 5) .nil)) 0)) (.seq (.ret (.c (.bool false))) .skip) .skip) .skip)
def k02_law_8 : DS := (.seq (.for' [5] (.lst (.cons (.op1 .len (.bv 4)) (.cons (.op1 .neg (.c (.int 1))) (.cons (.c .none) (.cons (.c (.bool true)) (.cons (.c (.str "0")) (.cons (.tup (.cons (.c (.int 0)) .nil)) .nil))))))) k02_law_7) k02_law_6)
def k02_law_9 : DS := (.seq (.ife (.or (.op2 .ne (.call "order_at" (.cons (.bv 3) (.cons (.bv 5) .nil)) 0) (.op2 .idx (.bv 4) (.bv 5))) (.op2 .ne (.call "place_of" (.cons (.bv 3) (.cons (.op2 .idx (.bv 4) (.bv 5)) .nil)) 0) (.bv 5))) (.seq (.ret (.c (.bool false))) .skip) .skip) .skip)
def k02_law_10 : DS := (.seq (.for' [5] (.lst (.cons (.c (.int 0)) (.cons (.op2 .sub (.op1 .len (.bv 4)) (.c (.int 1))) (.cons (.call "_law_take" (.cons (.bv 2) (.cons (.op1 .len (.bv 4)) .nil)) 0) (.cons (.call "_law_take" (.cons (.bv 2) (.cons (.op1 .len (.bv 4)) .nil)) 0) .nil))))) k02_law_9) k02_law_8)
def k02_law_11 : DS := (.seq (.own 2 (.call "_law_bag" (.cons (.bv 0) (.cons (.bv 1) .nil)) 0)) (.seq (.asg 3 (.call "_law_any_bundle" (.cons (.bv 2) (.cons (.c (.int 6)) .nil)) 0)) (.seq (.asg 4 (.call "_law_orders" (.cons (.bv 3) .nil) 0)) (.seq (.ife (.op2 .ne (.call "count_orders" (.cons (.bv 3) .nil) 0) (.op1 .len (.bv 4))) (.seq (.ret (.c (.bool false))) .skip) .skip) k02_law_10))))
def k02_d_law : DS := (.seq (.for' [1] (.rng1 (.op2 .max (.c (.int 3)) (.op2 .min (.c (.int 6)) (.op2 .add (.slen 0) (.c (.int 2)))))) k02_law_11) k02_law_1)
def sp_refused : DSp := fun as k _ => ∃ (B : Bun) (v : D), as = [.p B.d, .p v] ∧ BunOk B ∧ intB v 0 ((B.ords.length : Int) - 1) = false ∧ k (.bool true) []
theorem ok_refused {Γ : Gm} (h1 : Γ.fn "order_at" = sp_order_at) (f1 : Γ.fr "order_at" = false) (hx : ("InvalidPlace" : Str) ∈ Γ.xs) (hs : Γ.sb "InvalidPlace" "InvalidPlace" = true) : ∀ as k x, sp_refused as k x → semS Γ d_law_refused (dkOf false as k x) (ro0 2 as) := by
  rintro as k x ⟨B, v, rfl, hB, hv, hk⟩
  simp [d_law_refused, ro0, h1, f1, sp_order_at]
  refine ⟨B, v, ⟨rfl, rfl⟩, hB, fun _ => ⟨hx, fun _ => hk, fun e => ?_⟩, fun i r e hr => ?_⟩
  · rw [hs] at e
    exact nomatch e
  · exfalso
    obtain ⟨hl, _⟩ := List.getElem?_eq_some_iff.mp hr
    rw [e, intB_int] at hv
    simp at hv
    omega
theorem open_count (rs : List (List Int)) (q : List Int) : openB rs q = decide (0 < ((rs.filter fun r => aheadB r q).length : Int) ∧ ((rs.filter fun r => aheadB r q).length : Int) < rs.length) := by
  rw [Bool.eq_iff_iff, decide_eq_true_eq]
  unfold openB
  rw [Bool.and_eq_true, Bool.not_eq_true', List.any_eq_true, List.all_eq_false]
  have h1 : (∃ r, r ∈ rs ∧ aheadB r q = true) ↔ 0 < (rs.filter fun r => aheadB r q).length := by
    rw [List.length_pos_iff_exists_mem]
    simp only [List.mem_filter]
  have h2 : (∃ r, r ∈ rs ∧ ¬ aheadB r q = true) ↔ (rs.filter fun r => aheadB r q).length < rs.length := by
    have := List.length_filter_lt_length_iff_exists (p := fun r => aheadB r q) (l := rs)
    rw [this]
  rw [h1, h2]
  omega
theorem due_snoc (rs done : List (List Int)) (q : List Int) : (done ++ [q]).filter (openB rs) = done.filter (openB rs) ++ if openB rs q = true then [q] else [] := by
  rw [List.filter_append]
  cases e : openB rs q
  · rw [List.filter_cons_of_neg (by rw [e]; decide)]; simp
  · rw [List.filter_cons_of_pos e]; simp
def sp_law : DSp := fun as k _ => ∃ ns : List Int, as = [.sc ns] ∧ k (.bool true) []
structure GK02 (Γ : Gm) : Prop where
  bag : Γ.fn "_law_bag" = sp_bag
  bagF : Γ.fr "_law_bag" = true
  take : Γ.fn "_law_take" = sp_take
  takeF : Γ.fr "_law_take" = false
  any : Γ.fn "_law_any_bundle" = sp_any
  anyF : Γ.fr "_law_any_bundle" = false
  ords : Γ.fn "_law_orders" = sp_orders
  ordsF : Γ.fr "_law_orders" = false
  cnt : Γ.fn "count_orders" = sp_count
  cntF : Γ.fr "count_orders" = false
  oat : Γ.fn "order_at" = sp_order_at
  oatF : Γ.fr "order_at" = false
  plc : Γ.fn "place_of" = sp_place_of
  plcF : Γ.fr "place_of" = false
  ref : Γ.fn "_law_refused" = sp_refused
  refF : Γ.fr "_law_refused" = false
  qst : Γ.fn "_law_questions" = sp_questions
  qstF : Γ.fr "_law_questions" = false
  std : Γ.fn "_law_stands" = sp_stands
  stdF : Γ.fr "_law_stands" = false
  fps : Γ.fn "free_pairs" = sp_free_pairs
  fpsF : Γ.fr "free_pairs" = false
theorem k02_tail {Γ : Gm} (G : GK02 Γ) {ns : List Int} {B : Bun} (hB : BunOk B) {s1 c2 s5 s6 s7 s8 : Sl} (K : DK) (hn : ∀ s1 c2 s3 s4 s5 s6 s7 s8, K.nx [.sc ns, s1, c2, s3, s4, s5, s6, s7, s8, .un]) :
    semS Γ k02_law_6 K [.sc ns, s1, c2, .p B.d, .p (.list (B.ords.map T)), s5, s6, s7, s8, .un] := by
  have m6 := hB.m6
  have ol := ords_len B hB
  have hql : (qs B.maps.length).length ≤ 36 := Nat.le_trans (qs_len _) (Nat.mul_le_mul m6 m6)
  simp [k02_law_6, G.qst, G.qstF, sp_questions, Bun.d, idx1]
  refine ⟨_, rfl, by omega, ?_⟩
  refine forL_ind (fun ys ρ => ∃ (done rest : List (List Int)) (s7 s8 : Sl), qs B.maps.length = done ++ rest ∧ ys = rest.map T ∧ ρ = [.sc ns, s1, c2, .p B.d, .p (.list (B.ords.map T)), s5, .p (.list ((done.filter (openB B.ords)).map T)), s7, s8, .un]) ?_ ?_ ⟨[], _, s7, s8, rfl, rfl, rfl⟩
  · rintro y ys ρ nx ⟨done, rest, s7, s8, e1, e2, rfl⟩ hnx
    cases rest with
    | nil => cases e2
    | cons q rest =>
      obtain ⟨rfl, rfl⟩ := List.cons.inj e2
      obtain ⟨a, b, rfl, ha, hb⟩ := mem_qs (m := B.maps.length) (q := q) (by rw [e1]; exact List.mem_append_right _ List.mem_cons_self)
      have ex : qs B.maps.length = (done ++ [[a, b]]) ++ rest := by rw [e1, List.append_assoc]; rfl
      have hdl : (done.filter (openB B.ords)).length + 1 ≤ 36 := by
        have h3 := List.length_filter_le (openB B.ords) done
        have h4 := congrArg List.length e1
        rw [List.length_append, List.length_cons] at h4
        omega
      simp [k02_law_5]
      refine lcL_typ T T (fun r => aheadB r [a, b]) (fun r acc kk hr hl hkk => ?_) (by simp) (by rw [sz]; omega) ?_
      · have hp := (mem_orders.mp hr).1
        have hrl := hp.length_eq
        rw [rangeI_len] at hrl
        simp [k02_law_4, G.std, G.stdF, sp_stands]
        refine ⟨r, [[a, b]], _, ⟨rfl, rfl⟩, .inr rfl, hp.nodup_iff.mpr (rangeI_nodup _), by omega, by simp, fun p hpp => ?_, ?_⟩
        · rw [List.mem_singleton.mp hpp]
          exact ⟨a, b, rfl, hp.mem_iff.mpr ha, hp.mem_iff.mpr hb⟩
        · simp
          split
          · rename_i h
            rw [if_pos h] at hkk
            exact ⟨hl, hkk⟩
          · rename_i h
            rw [if_neg h] at hkk
            exact hkk
      · have hoc := open_count B.ords [a, b]
        have hsn := due_snoc B.ords done [a, b]
        simp [k02_law_3]
        have hsn2 : ∀ b2 : Bool, openB B.ords [a, b] = b2 → (done ++ [[a, b]]).filter (openB B.ords) = done.filter (openB B.ords) ++ if b2 = true then [[a, b]] else [] := fun b2 e => by rw [hsn, e]
        have hio : openB B.ords [a, b] = true ↔ (∃ x, x ∈ B.ords ∧ aheadB x [a, b] = true) ∧ ∃ x, x ∈ B.ords ∧ aheadB x [a, b] = false := by
          rw [openB_iff]
          simp only [List.mem_map]
        by_cases g1 : ∃ x, x ∈ B.ords ∧ aheadB x [a, b] = true
        · rw [if_pos g1]
          by_cases g2 : ∃ x, x ∈ B.ords ∧ aheadB x [a, b] = false
          · simp only [if_pos g2]
            refine ⟨by omega, by omega, by rw [sz]; show _ + 1 ≤ _; omega, hnx _ ⟨done ++ [[a, b]], rest, .p (T [a, b]), .p (.int (B.ords.filter fun r => aheadB r [a, b]).length), ex, rfl, ?_⟩⟩
            rw [hsn2 true (hio.mpr ⟨g1, g2⟩)]
            simp
          · simp only [if_neg g2]
            refine ⟨by omega, by omega, by rw [sz]; show _ + 0 ≤ _; omega, hnx _ ⟨done ++ [[a, b]], rest, .p (T [a, b]), .p (.int (B.ords.filter fun r => aheadB r [a, b]).length), ex, rfl, ?_⟩⟩
            rw [hsn2 false (Bool.eq_false_iff.mpr fun e => g2 (hio.mp e).2)]
            simp
        · rw [if_neg g1]
          refine ⟨by rw [sz]; omega, hnx _ ⟨done ++ [[a, b]], rest, .p (T [a, b]), .p (.int (B.ords.filter fun r => aheadB r [a, b]).length), ex, rfl, ?_⟩⟩
          rw [hsn2 false (Bool.eq_false_iff.mpr fun e => g1 (hio.mp e).1)]
          simp
  · rintro ρ ⟨done, rest, s7, s8, e1, e2, rfl⟩
    have er : rest = [] := by
      cases rest with
      | nil => rfl
      | cons a r => cases e2
    subst er
    rw [List.append_nil] at e1
    simp [k02_law_2, G.fps, G.fpsF, sp_free_pairs]
    refine ⟨B, rfl, hB, ?_⟩
    rw [← e1]
    simp
    exact hn ..

theorem k02_mid {Γ : Gm} (G : GK02 Γ) {ns : List Int} {B : Bun} (hB : BunOk B) {s1 c2 s5 s6 s7 s8 : Sl} (K : DK) (hn : ∀ s1 c2 s3 s4 s5 s6 s7 s8, K.nx [.sc ns, s1, c2, s3, s4, s5, s6, s7, s8, .un]) :
    semS Γ k02_law_8 K [.sc ns, s1, c2, .p B.d, .p (.list (B.ords.map T)), s5, s6, s7, s8, .un] := by
  simp [k02_law_8]
  refine forL_ind (fun ys ρ => ∃ s5 : Sl, (∀ y ∈ ys, intB y 0 ((B.ords.length : Int) - 1) = false) ∧ ρ = [.sc ns, s1, c2, .p B.d, .p (.list (B.ords.map T)), s5, s6, s7, s8, .un]) ?_ ?_ ⟨s5, ?_, rfl⟩
  · rintro y ys ρ nx ⟨s5, hy, rfl⟩ hnx
    simp [k02_law_7, G.ref, G.refF, sp_refused]
    exact ⟨B, y, ⟨rfl, rfl⟩, hB, hy y List.mem_cons_self, hnx _ ⟨.p y, fun z hz => hy z (List.mem_cons_of_mem _ hz), rfl⟩⟩
  · rintro ρ ⟨s5, hy, rfl⟩
    exact k02_tail G hB K hn
  · intro y hy
    simp at hy
    rcases hy with rfl | rfl | rfl | rfl | rfl | rfl <;> simp [intB] <;> omega
theorem k02_places {Γ : Gm} (G : GK02 Γ) {ns : List Int} {B : Bun} (hB : BunOk B) {s1 s5 s6 s7 s8 : Sl} {c : Ct} (hc : BagC c) (K : DK) (hn : ∀ s1 c2 s3 s4 s5 s6 s7 s8, K.nx [.sc ns, s1, c2, s3, s4, s5, s6, s7, s8, .un]) :
    semS Γ k02_law_10 K [.sc ns, s1, .o true c, .p B.d, .p (.list (B.ords.map T)), s5, s6, s7, s8, .un] := by
  have ol := ords_len B hB
  have hpos : 0 < B.ords.length := List.length_pos_iff.mpr (bun_ne hB)
  obtain ⟨x, s, rfl⟩ := hc
  simp [k02_law_10, G.take, G.takeF, sp_take]
  refine ⟨_, _, ⟨rfl, rfl⟩, ⟨x, s, rfl⟩, by omega, by omega, fun r c1 r0 r1 b1 => ?_⟩
  refine ⟨_, _, ⟨rfl, rfl⟩, b1, by omega, by omega, fun q c2 q0 q1 b2 => ?_⟩
  refine forL_ind (fun ys ρ => ∃ s5 : Sl, (∀ y ∈ ys, ∃ i : Nat, y = .int i ∧ i < B.ords.length) ∧ ρ = [.sc ns, s1, .o true c2, .p B.d, .p (.list (B.ords.map T)), s5, s6, s7, s8, .un]) ?_ ?_ ⟨s5, ?_, rfl⟩
  · rintro y ys ρ nx ⟨s5, hy, rfl⟩ hnx
    obtain ⟨i, rfl, hi⟩ := hy y List.mem_cons_self
    have hat : atI (B.ords.map T) (i : Int) = some (T B.ords[i]) := by
      rw [atI_nat (by rw [List.length_map]; exact hi), List.getElem?_map, List.getElem?_eq_getElem hi]
      rfl
    simp [k02_law_9, G.oat, G.oatF, sp_order_at, G.plc, G.plcF, sp_place_of]
    refine ⟨B, _, ⟨rfl, rfl⟩, hB, fun e => ?_, fun j r ej hr => ?_⟩
    · exfalso
      rw [intB_int] at e
      simp at e
      omega
    · have ej : i = j := by
        have := PyData.int.inj ej
        omega
      subst ej
      refine ⟨_, hat, ?_⟩
      rw [List.getElem?_eq_getElem hi] at hr
      have hr := Option.some.inj hr
      simp [hr]
      refine ⟨_, hat, B, r, ⟨rfl, by rw [hr]⟩, hB, by rw [← hr]; exact List.getElem_mem hi, ?_⟩
      have hidx : B.ords.idxOf r = i := by
        rw [← hr]
        exact (nodup_of_lt (orders_lt _ _)).idxOf_getElem i hi
      simp [hidx]
      exact hnx _ ⟨.p (.int i), fun z hz => hy z (List.mem_cons_of_mem _ hz), rfl⟩
  · rintro ρ ⟨s5, hy, rfl⟩
    exact k02_mid G hB K hn
  · intro y hy
    simp at hy
    rcases hy with rfl | rfl | rfl | rfl
    · exact ⟨0, rfl, hpos⟩
    · exact ⟨B.ords.length - 1, by congr 1; omega, by omega⟩
    · exact ⟨r.toNat, by rw [Int.toNat_of_nonneg r0], by omega⟩
    · exact ⟨q.toNat, by rw [Int.toNat_of_nonneg q0], by omega⟩
theorem ok_k02 {Γ : Gm} (G : GK02 Γ) : ∀ as k x, sp_law as k x → semS Γ k02_d_law (dkOf false as k x) (ro0 10 as) := by
  rintro as k x ⟨ns, rfl, hk⟩
  simp [k02_d_law, ro0]
  generalize hN : (if (3 : Int) < if (ns.length : Int) + 2 < 6 then (ns.length : Int) + 2 else 6 then if (ns.length : Int) + 2 < 6 then (ns.length : Int) + 2 else 6 else 3) = N
  have hN6 : 3 ≤ N ∧ N ≤ 6 := by
    rw [← hN]
    split <;> split <;> omega
  refine ⟨by omega, ?_⟩
  refine forL_ind (fun ys ρ => ∃ (s1 s2 s3 s4 s5 s6 s7 s8 : Sl), (∀ y ∈ ys, ∃ i : Int, y = .int i ∧ 0 ≤ i ∧ i < 1000) ∧ ρ = [.sc ns, s1, s2, s3, s4, s5, s6, s7, s8, .un]) ?_ ?_ ⟨.un, .un, .un, .un, .un, .un, .un, .un, ?_, rfl⟩
  · rintro y ys ρ nx ⟨s1, s2, s3, s4, s5, s6, s7, s8, hy, rfl⟩ hnx
    obtain ⟨i, rfl, i0, i1⟩ := hy y List.mem_cons_self
    simp [k02_law_11, G.bag, G.bagF, sp_bag]
    refine ⟨ns, i, ⟨rfl, rfl⟩, i0, i1, fun x s => ?_⟩
    simp [G.any, G.anyF, sp_any]
    refine ⟨_, 6, ⟨rfl, rfl⟩, ⟨x, s, rfl⟩, by omega, by omega, fun B c hB _ hc => ?_⟩
    simp [G.ords, G.ordsF, sp_orders, G.cnt, G.cntF, sp_count]
    refine ⟨B, rfl, hB, B, rfl, hB, ?_⟩
    simp
    exact k02_places G hB hc _ fun s1 c2 s3 s4 s5 s6 s7 s8 => hnx _ ⟨s1, c2, s3, s4, s5, s6, s7, s8, fun z hz => hy z (List.mem_cons_of_mem _ hz), rfl⟩
  · rintro ρ ⟨s1, s2, s3, s4, s5, s6, s7, s8, hy, rfl⟩
    simp [k02_law_1]
    exact hk
  · intro y hy
    unfold rangeD at hy
    obtain ⟨i, hi, rfl⟩ := List.mem_map.mp hy
    have := List.mem_range.mp hi
    exact ⟨_, rfl, by omega, by omega⟩
end DL

end

section
namespace DL
open PySem PySem.Spec PyProof.Rows L2
/-- a def of the text keeps its contract -/
theorem reg {P : Program} {w : World} {K : PySem.W.Frag} {mg : Str → Option Value} {base : Heap} {x qual : Str} {params : Arguments} {scope : Scope} {f : Addr} {fd : FuncData} {N ps : List Str} {k : Nat} {Γ : Gm} {ds : DS} {c : CE} {body : List Stmt} {fr : Bool} {sp : DSp}
    (F : FunD K x qual params body scope [] [] f fd) (Sc : FnScope N ps scope) (ck : kSs c ds body = true) (cN : c.N = N) (cs : c.sc = scope) (ok : COk c ⟨P, w, K, mg, base, k, fun _ => true⟩ Γ) (hfn : Γ.fn x = sp) (hfr : Γ.fr x = fr)
    (ar : ∀ as k x, sp as k x → as.length = ps.length) (law : ∀ as k x, sp as k x → semS Γ ds (dkOf fr as k x) (ro0 N.length as)) (hm : mg x = some (.ref f)) (hb : Binds K fd ps []) :
    FnOk P w K mg base (L2.CX P w) (k + 1) f fd ps (liftSp K mg fr ps.length sp) ∧ ∀ lv, k + 1 ≤ lv → FnReg ⟨P, w, K, mg, base, lv, fun _ => true⟩ Γ x 0 := by
  subst cN cs
  have R : FnOk P w K mg base (L2.CX P w) (k + 1) f fd ps (liftSp K mg fr ps.length sp) := fn_ok F Sc (fun W => kSs_ok ds ck _ Γ W ok) ar law
  refine ⟨R, fun lv hl => ⟨f, fd, ps, [], k + 1, ?_, hl, hm, F.kp, hb, .nil, ?_⟩⟩
  · rw [hfn, hfr]
    exact R
  · rw [hfn]
    exact ar

/-- a def with one default, None -/
theorem reg2 {P : Program} {w : World} {K : PySem.W.Frag} {mg : Str → Option Value} {base : Heap} {x qual : Str} {params : Arguments} {scope : Scope} {f : Addr} {fd : FuncData} {N ps : List Str} {k : Nat} {Γ : Gm} {ds : DS} {c : CE} {body : List Stmt} {fr : Bool} {sp : DSp}
    (F : FunD K x qual params body scope [.non] [] f fd) (Sc : FnScope N ps scope) (ck : kSs c ds body = true) (cN : c.N = N) (cs : c.sc = scope) (ok : COk c ⟨P, w, K, mg, base, k, fun _ => true⟩ Γ) (hfn : Γ.fn x = sp) (hfr : Γ.fr x = fr)
    (ar : ∀ as k x, sp as k x → as.length = ps.length) (law : ∀ as k x, sp as k x → semS Γ ds (dkOf fr as k x) (ro0 N.length as)) (hm : mg x = some (.ref f)) (hb0 : ∃ ds, Vals [] ds ∧ Binds K fd ps ds) (hb1 : ∃ ds, Vals [.non] ds ∧ Binds K fd ps ds) :
    FnOk P w K mg base (L2.CX P w) (k + 1) f fd ps (liftSp K mg fr ps.length sp) ∧ ∀ lv, k + 1 ≤ lv → FnReg ⟨P, w, K, mg, base, lv, fun _ => true⟩ Γ x 0 ∧ FnReg ⟨P, w, K, mg, base, lv, fun _ => true⟩ Γ x 1 := by
  subst cN cs
  have R : FnOk P w K mg base (L2.CX P w) (k + 1) f fd ps (liftSp K mg fr ps.length sp) := fn_ok F Sc (fun W => kSs_ok ds ck _ Γ W ok) ar law
  obtain ⟨d0, v0, b0⟩ := hb0
  obtain ⟨d1, v1, b1⟩ := hb1
  refine ⟨R, fun lv hl => ⟨⟨f, fd, ps, d0, k + 1, ?_, hl, hm, F.kp, b0, v0, ?_⟩, ⟨f, fd, ps, d1, k + 1, ?_, hl, hm, F.kp, b1, v1, ?_⟩⟩⟩
  · rw [hfn, hfr]
    exact R
  · rw [hfn]
    exact ar
  · rw [hfn, hfr]
    exact R
  · rw [hfn]
    exact ar
theorem sc_of {K : PySem.W.Frag} {H : Hp} {a : Addr} {ns : List Int} (hO : Only H) (hS : SqL K H a (ns.map V.int)) : ScOk K H a ns := by
  rcases hS with r | ⟨o, its, n, h⟩
  · rcases r with r | ⟨o, r⟩
    · rcases hO a with e | ⟨o, xs, e⟩
      · rw [e] at r; cases r
      · rw [e] at r; cases r
    · exact .inl ⟨o, r⟩
  · exact .inr (.inr ⟨o, its, n, h⟩)
/-- the law's contract, at the script -/
theorem law_sp {K : PySem.W.Frag} {mg : Str → Option Value} {sp : DSp} (h : ∀ (ns : List Int) (k : D → List Ct → Prop) (x : Ex → Prop), k (.bool true) [] → sp [.sc ns] k x) {H : Hp} {a : Addr} {ns : List Int} (hO : Only H) (hS : SqL K H a (ns.map V.int)) :
    liftSp K mg false 1 sp [.ref a] H (fun v _ => v = .bl true) fun _ _ _ => False :=
  ⟨fun _ => False, [.sc ns], rfl, .cons (.sc (sc_of hO hS)) .nil, List.nodup_nil, fun _ h => h.elim, fun d _ => d = .bool true, fun _ => False, h ns _ _ rfl, fun d cs v H' _ rd _ e _ => by
    subst e
    cases rd
    rfl, fun _ h => h.elim⟩
/-- a law over a head, exceptions in the world's own way -/
theorem walk_w {law : PySem.W.OpenLaw} {most lv : Nat} {prog : Program} {free : List Str} {XH : (Str → Option Value) → Heap → Prop} {YH : World → Heap → Prop} {rec : DefRec} {air : World → CXT} {arg : Str}
    (m1 : law.most = some most) (m2 : most ≤ sizeLine) (nodef : rec.params.defaults = []) (room : Room lv callerA)
    (give : ∀ (w : World) (mg : Str → Option Value) (fa : Addr) (h : Heap), YH w h → h.Ns mainGlobals mg → mg rec.name = some (.ref fa) → ∃ (K : PySem.W.Frag) (fd : FuncData) (sp : Sp), K.In h ∧ (∀ (s : Shared) (u : Value), BindsTo s fd ⟨[u], []⟩ [(arg, u)]) ∧
      (∀ (H : Hp) (a : Addr) (ns : List Int), Only H → SqL K H a (ns.map V.int) → sp [.ref a] H (fun v _ => v = .bl true) fun _ _ _ => False) ∧ ∀ base : Heap, K.In base → base.Ns mainGlobals mg → FnOk law.prog w K mg base (air w) lv fa fd [arg] sp)
    (calm : ∀ (w : World) (H : Hp) (s : Shared) (e : Value) (t : Shared), air w [] H s (fun _ _ _ => False) e t → False) : PySem.W.WalkO prog free XH YH law.row.toRowW rec [] (fun g us => PySem.call g us) := by
  refine Att.attach_call m1 nodef fun w _ t mg mb fa _ _ _ _ a vals nums gg yy _ _ _ named at_ vints short still => ?_
  obtain ⟨K, fd, sp, inK, bind, says, keeps⟩ := give w mg fa _ yy gg.T.g named
  exact law_call inK gg.T.g gg.T.b gg.T.builtins gg.T.nolimit still at_ vints (Nat.le_trans short m2) room keeps bind (fun H only sq => says H a nums only sq) fun H e t' => calm w H t e t'
theorem calm_CX {P : Program} (w : World) (H : Hp) (s : Shared) (e : Value) (t : Shared) (h : L2.CX P w [] H s (fun _ _ _ => False) e t) : False := by
  obtain ⟨_, _, _, _, _, _, _, _, _, _, _, _, z⟩ := h
  exact z
end DL

end

section
namespace DL
open PySem PySem.Spec PyProof.Rows L2

/-! ### maps of orders -/
def getI (xs : List Int) (i : Int) : Int := xs.getD i.toNat 0
def getR (rs : List (List Int)) (i : Int) : List Int := rs.getD i.toNat []
def thenI (xs ys : List Int) : List Int := xs.map (getI ys)
def Bun.mp (B : Bun) (d : Int) : List Int := getR B.maps d
def omap (B : Bun) (r : List Int) : List Int := r.foldl (fun f d => thenI f (B.mp d)) (rangeI B.n.toNat)
def lend (B : Bun) (r : List Int) (s : Int) : Int := r.foldl (fun s d => getI (B.mp d) s) s
def OkRow (B : Bun) (r : List Int) : Prop := ∀ d ∈ r, 0 ≤ d ∧ d < B.maps.length
theorem atI_i {xs : List Int} {i : Int} (h0 : 0 ≤ i) (h1 : i < xs.length) : atI (xs.map PyData.int) i = some (.int (getI xs i)) := by
  obtain ⟨n, rfl⟩ := Int.eq_ofNat_of_zero_le h0
  have hn : n < xs.length := by omega
  rw [atI_nat (by rw [List.length_map]; exact hn), List.getElem?_map, List.getElem?_eq_getElem hn]
  unfold getI
  rw [Int.toNat_natCast, List.getD_eq_getElem?_getD, List.getElem?_eq_getElem hn]
  rfl
theorem atI_r {rs : List (List Int)} {i : Int} (h0 : 0 ≤ i) (h1 : i < rs.length) : atI (rs.map T) i = some (T (getR rs i)) := by
  obtain ⟨n, rfl⟩ := Int.eq_ofNat_of_zero_le h0
  have hn : n < rs.length := by omega
  rw [atI_nat (by rw [List.length_map]; exact hn), List.getElem?_map, List.getElem?_eq_getElem hn]
  unfold getR
  rw [Int.toNat_natCast, List.getD_eq_getElem?_getD, List.getElem?_eq_getElem hn]
  rfl
theorem getI_mem {xs : List Int} {i : Int} (h0 : 0 ≤ i) (h1 : i < xs.length) : getI xs i ∈ xs := by
  have hn : i.toNat < xs.length := by omega
  unfold getI
  rw [List.getD_eq_getElem?_getD, List.getElem?_eq_getElem hn]
  exact List.getElem_mem hn
theorem getR_mem {xs : List (List Int)} {i : Int} (h0 : 0 ≤ i) (h1 : i < xs.length) : getR xs i ∈ xs := by
  have hn : i.toNat < xs.length := by omega
  unfold getR
  rw [List.getD_eq_getElem?_getD, List.getElem?_eq_getElem hn]
  exact List.getElem_mem hn
theorem mem_rangeI {m : Nat} {i : Int} : i ∈ rangeI m ↔ 0 ≤ i ∧ i < m := by
  unfold rangeI
  rw [List.mem_map]
  constructor
  · rintro ⟨j, hj, rfl⟩
    rw [List.mem_range] at hj
    omega
  · rintro ⟨h0, h1⟩
    exact ⟨i.toNat, List.mem_range.mpr (by omega), by omega⟩
theorem mapZ_then {n : Int} {xs ys : List Int} (hx : MapZ n xs) (hy : MapZ n ys) : MapZ n (thenI xs ys) := by
  refine ⟨by unfold thenI; rw [List.length_map]; exact hx.1, fun i hi => ?_⟩
  obtain ⟨j, hj, rfl⟩ := List.mem_map.mp hi
  have := hx.2 j hj
  exact hy.2 _ (getI_mem this.1 (by have := hy.1; omega))
theorem mapZ_id {n : Int} (h : 0 ≤ n) : MapZ n (rangeI n.toNat) := by
  refine ⟨by rw [rangeI_len]; omega, fun i hi => ?_⟩
  have := mem_rangeI.mp hi
  omega
theorem mp_ok {B : Bun} (h : BunOk B) {d : Int} (hd : 0 ≤ d ∧ d < B.maps.length) : MapZ B.n (B.mp d) := h.maps _ (getR_mem hd.1 hd.2)
theorem omap_ok {B : Bun} (h : BunOk B) {r : List Int} (hr : OkRow B r) : MapZ B.n (omap B r) := by
  have n1 := h.n1
  have : ∀ (r f : List Int), OkRow B r → MapZ B.n f → MapZ B.n (r.foldl (fun f d => thenI f (B.mp d)) f) := by
    intro r
    induction r with
    | nil => intro f _ hf; exact hf
    | cons d r ih => exact fun f hr hf => ih _ (fun x hx => hr x (List.mem_cons_of_mem _ hx)) (mapZ_then hf (mp_ok h (hr d List.mem_cons_self)))
  exact this r _ hr (mapZ_id (by omega))
theorem omap_eq {B : Bun} (r : List Int) : omap B r = (rangeI B.n.toNat).map (lend B r) := by
  have : ∀ (r f : List Int), r.foldl (fun f d => thenI f (B.mp d)) f = f.map (lend B r) := by
    intro r
    induction r with
    | nil => intro f; exact (List.map_id f).symm
    | cons d r ih =>
      intro f
      rw [List.foldl_cons, ih]
      unfold thenI
      rw [List.map_map]
      rfl
  exact this r _
theorem lend_ok {B : Bun} (h : BunOk B) : ∀ {r : List Int} {s : Int}, OkRow B r → 0 ≤ s ∧ s < B.n → 0 ≤ lend B r s ∧ lend B r s < B.n
  | [], _, _, hs => hs
  | d :: r, s, hr, hs => by
    have hm := mp_ok h (hr d List.mem_cons_self)
    exact lend_ok h (r := r) (fun x hx => hr x (List.mem_cons_of_mem _ hx)) (hm.2 _ (getI_mem hs.1 (by rw [hm.1]; exact hs.2)))
theorem ord_row {B : Bun} {r : List Int} (h : r ∈ B.ords) : OkRow B r := fun d hd => by
  have := (mem_orders.mp h).1.mem_iff.mp hd
  exact mem_rangeI.mp this
theorem ord_len {B : Bun} {r : List Int} (h : r ∈ B.ords) : r.length = B.maps.length := by
  rw [(mem_orders.mp h).1.length_eq, rangeI_len]
/-! ### sets of rows -/
def uniq (rs : List (List Int)) : List (List Int) := sortRows (dd rs)
def sortI (ns : List Int) : List Int := ns.mergeSort fun a b => decide (a ≤ b)
def uniqI (ns : List Int) : List Int := sortI (dd ns)
theorem set_T (rs : List (List Int)) : sortD (dedup (rs.map T)) = (uniq rs).map T := by
  rw [dedup_map T eqv_T, sortD_T]
  rfl
theorem set_I (ns : List Int) : sortD (dedup (ns.map .int)) = (uniqI ns).map .int := by
  rw [dedup_map _ eqv_int]
  unfold sortD uniqI sortI
  rw [List.map_mergeSort fun a _ b _ => ?_]
  rw [Bool.eq_iff_iff, decide_eq_true_eq]
  exact (le_i a b).symm
theorem sortD_I (ns : List Int) : sortD (ns.map .int) = (sortI ns).map .int := by
  unfold sortD sortI
  rw [List.map_mergeSort fun a _ b _ => ?_]
  rw [Bool.eq_iff_iff, decide_eq_true_eq]
  exact (le_i a b).symm
theorem mem_uniq {rs : List (List Int)} {r : List Int} : r ∈ uniq rs ↔ r ∈ rs := (sortRows_perm _).mem_iff.trans mem_dd
theorem mem_sortI {ns : List Int} {i : Int} : i ∈ sortI ns ↔ i ∈ ns := (List.mergeSort_perm _ _).mem_iff
theorem mem_uniqI {ns : List Int} {i : Int} : i ∈ uniqI ns ↔ i ∈ ns := mem_sortI.trans mem_dd
theorem uniq_lt (rs : List (List Int)) : (uniq rs).Pairwise (· < ·) := sortRows_lt (nodup_dd rs)
theorem uniq_ext {a b : List (List Int)} (h : ∀ r, r ∈ a ↔ r ∈ b) : uniq a = uniq b := eq_of_lt (uniq_lt a) (uniq_lt b) fun r => by rw [mem_uniq, mem_uniq, h]
theorem dd_le {α : Type} [DecidableEq α] {l u : List α} (h : ∀ a ∈ l, a ∈ u) : (dd l).length ≤ u.length :=
  List.Nodup.length_le_of_subset (nodup_dd l) fun a ha => h a (mem_dd.mp ha)
theorem uniq_len (rs : List (List Int)) : (uniq rs).length = (dd rs).length := (sortRows_perm _).length_eq
theorem uniqI_len (rs : List Int) : (uniqI rs).length = (dd rs).length := (List.mergeSort_perm _ _).length_eq
/-- all rows of so many numbers less than 4 -/
def all4 : Nat → List (List Int)
  | 0 => [[]]
  | k + 1 => (rangeI 4).flatMap fun d => (all4 k).map (d :: ·)
theorem all4_len : ∀ k, (all4 k).length = 4 ^ k
  | 0 => rfl
  | k + 1 => by
    have e : ∀ l : List Int, (l.flatMap fun d => (all4 k).map (d :: ·)).length = l.length * 4 ^ k := by
      intro l
      induction l with
      | nil => simp
      | cons d l ih => rw [List.flatMap_cons, List.length_append, ih, List.length_map, all4_len k, List.length_cons, Nat.succ_mul, Nat.add_comm]
    show ((rangeI 4).flatMap fun d => (all4 k).map (d :: ·)).length = _
    rw [e, rangeI_len, Nat.pow_succ, Nat.mul_comm]
theorem mem_all4 : ∀ {k : Nat} {r : List Int}, r.length = k → (∀ i ∈ r, 0 ≤ i ∧ i < 4) → r ∈ all4 k
  | 0, [], _, _ => List.mem_singleton_self _
  | k + 1, d :: r, h, hr => List.mem_flatMap.mpr ⟨d, mem_rangeI.mpr (hr d List.mem_cons_self), List.mem_map.mpr ⟨r, mem_all4 (by simpa using h) fun i hi => hr i (List.mem_cons_of_mem _ hi), rfl⟩⟩
/-- rows of so many states: not many -/
theorem few_rows {rs : List (List Int)} {k : Nat} (hk : k ≤ 4) (h : ∀ r ∈ rs, r.length = k ∧ ∀ i ∈ r, 0 ≤ i ∧ i < 4) : (dd rs).length ≤ 256 := by
  have h1 := dd_le (l := rs) (u := all4 k) fun r hr => mem_all4 (h r hr).1 (h r hr).2
  rw [all4_len] at h1
  have h2 : (4 : Nat) ^ k ≤ 4 ^ 4 := Nat.pow_le_pow_right (by omega) hk
  have h3 : (4 : Nat) ^ 4 = 256 := by decide
  omega
theorem setOk_T {rs : List (List Int)} (h1 : (dd rs).length ≤ 300) (h2 : 2 ≤ (dd rs).length → ∀ r ∈ rs, r ≠ []) : SetOk (rs.map T) := by
  refine ⟨.inr (.inl ⟨rs, rfl, fun h => h2 ?_⟩), ?_⟩
  · rw [dedup_map T eqv_T, List.length_map] at h
    exact h
  · rw [dedup_map T eqv_T, List.length_map]
    exact h1
theorem setOk_I {ns : List Int} (h1 : (dd ns).length ≤ 300) : SetOk (ns.map .int) := ⟨.inl ⟨ns, rfl⟩, by rw [dedup_map _ eqv_int, List.length_map]; exact h1⟩
theorem setOk_maps {n : Int} {rs : List (List Int)} (n1 : 1 ≤ n) (n4 : n ≤ 4) (h : ∀ r ∈ rs, MapZ n r) : SetOk (rs.map T) := by
  refine setOk_T ?_ fun _ r hr e => ?_
  · have := few_rows (rs := rs) (k := n.toNat) (by omega) fun r hr => ⟨by have := (h r hr).1; omega, fun i hi => by have := (h r hr).2 i hi; omega⟩
    omega
  · have := (h r hr).1
    rw [e] at this
    simp at this
    omega
/-- states: few -/
theorem few_states {ns : List Int} {n : Int} (n4 : n ≤ 4) (h : ∀ i ∈ ns, 0 ≤ i ∧ i < n) : (dd ns).length ≤ 4 := by
  have := dd_le (l := ns) (u := rangeI 4) fun i hi => mem_rangeI.mpr (by have := h i hi; omega)
  rw [rangeI_len] at this
  exact this
def mapsOf (B : Bun) (rs : List (List Int)) : List (List Int) := uniq (rs.map (omap B))
def Bun.all (B : Bun) : List (List Int) := mapsOf B B.ords
theorem mapsOf_ok {B : Bun} (h : BunOk B) {rs : List (List Int)} (hr : ∀ r ∈ rs, OkRow B r) : ∀ m ∈ mapsOf B rs, MapZ B.n m := fun m hm => by
  obtain ⟨r, h1, rfl⟩ := List.mem_map.mp (mem_uniq.mp hm)
  exact omap_ok h (hr r h1)
theorem all_ok {B : Bun} (h : BunOk B) : ∀ m ∈ B.all, MapZ B.n m := mapsOf_ok h fun _ hr => ord_row hr
theorem mapsOf_len {B : Bun} (h : BunOk B) {rs : List (List Int)} (hr : ∀ r ∈ rs, OkRow B r) : (mapsOf B rs).length ≤ 256 := by
  unfold mapsOf
  rw [uniq_len]
  have n1 := h.n1
  have n4 := h.n4
  refine few_rows (k := B.n.toNat) (by omega) fun m hm => ?_
  obtain ⟨r, h1, rfl⟩ := List.mem_map.mp hm
  have := omap_ok h (hr r h1)
  exact ⟨by have := this.1; omega, fun i hi => by have := this.2 i hi; omega⟩
/-! ### data that is compared with itself -/
inductive OkN : Nat → D → Prop
  | none {n} : OkN n .none
  | bool {n b} : OkN n (.bool b)
  | int {n i} : OkN n (.int i)
  | str {n x} : OkN n (.str x)
  | list {n l} : (∀ d ∈ l, OkN n d) → OkN (n + 1) (.list l)
  | tuple {n l} : (∀ d ∈ l, OkN n d) → OkN (n + 1) (.tuple l)
mutual
theorem plain_of : ∀ {d : D} {n : Nat}, OkN n d → d.plain = true
  | .none, _, _ => rfl
  | .bool _, _, _ => rfl
  | .int _, _, _ => rfl
  | .str _, _, _ => rfl
  | .list l, _, h => by
    cases h with
    | list h => exact plains_of (n := _) h
  | .tuple l, _, h => by
    cases h with
    | tuple h => exact plains_of (n := _) h
  | .dict _, _, h => nomatch h
theorem plains_of : ∀ {l : List D} {n : Nat}, (∀ d ∈ l, OkN n d) → PyData.plainAll l = true
  | [], _, _ => rfl
  | d :: l, n, h => by
    rw [PyData.plainAll, plain_of (h d List.mem_cons_self), plains_of fun x hx => h x (List.mem_cons_of_mem _ hx)]
    rfl
end
mutual
theorem depth_of : ∀ {d : D} {n : Nat}, OkN n d → d.depth ≤ n
  | .none, _, _ => Nat.zero_le _
  | .bool _, _, _ => Nat.zero_le _
  | .int _, _, _ => Nat.zero_le _
  | .str _, _, _ => Nat.zero_le _
  | .list l, _, h => by
    cases h with
    | list h =>
      rw [PyData.depth]
      exact Nat.succ_le_succ (depths_of h)
  | .tuple l, _, h => by
    cases h with
    | tuple h =>
      rw [PyData.depth]
      exact Nat.succ_le_succ (depths_of h)
  | .dict _, _, h => nomatch h
theorem depths_of : ∀ {l : List D} {n : Nat}, (∀ d ∈ l, OkN n d) → PyData.depthAll l ≤ n
  | [], _, _ => Nat.zero_le _
  | d :: l, n, h => by
    rw [PyData.depthAll]
    have h1 := depth_of (h d List.mem_cons_self)
    have h2 := depths_of fun x hx => h x (List.mem_cons_of_mem _ hx)
    omega
end
theorem eqv_ok {n : Nat} {d : D} (h : OkN n d) : PyData.eqv d d = true := PySem.SeqAt.eqv_refl_plain d (plain_of h)
theorem eqOk_ok {d e : D} (h : OkN 60 d) : EqOk d e := .inl (depth_of h)
theorem OkN.up : ∀ {n m : Nat} {d : D}, OkN n d → n ≤ m → OkN m d
  | _, _, .none, _, _ => .none
  | _, _, .bool _, _, _ => .bool
  | _, _, .int _, _, _ => .int
  | _, _, .str _, _, _ => .str
  | n, m, .list l, h, q => by
    cases h with
    | list h =>
      cases m with
      | zero => exact absurd q (by omega)
      | succ m => exact .list fun d hd => (h d hd).up (by omega)
  | n, m, .tuple l, h, q => by
    cases h with
    | tuple h =>
      cases m with
      | zero => exact absurd q (by omega)
      | succ m => exact .tuple fun d hd => (h d hd).up (by omega)
  | _, _, .dict _, h, _ => nomatch h
theorem okN_T {n : Nat} {r : List Int} : OkN (n + 1) (T r) := .tuple fun d hd => by
  obtain ⟨i, _, rfl⟩ := List.mem_map.mp hd
  exact .int
theorem okN_lT {n : Nat} {rs : List (List Int)} : OkN (n + 2) (.list (rs.map T)) := .list fun d hd => by
  obtain ⟨i, _, rfl⟩ := List.mem_map.mp hd
  exact okN_T
theorem okN_tT {n : Nat} {rs : List (List Int)} : OkN (n + 2) (.tuple (rs.map T)) := .tuple fun d hd => by
  obtain ⟨i, _, rfl⟩ := List.mem_map.mp hd
  exact okN_T
theorem okN_lI {n : Nat} {r : List Int} : OkN (n + 1) (.list (r.map .int)) := .list fun d hd => by
  obtain ⟨i, _, rfl⟩ := List.mem_map.mp hd
  exact .int
theorem okN_bun {B : Bun} : OkN 60 B.d := .tuple fun d hd => by
  simp at hd
  rcases hd with rfl | rfl | rfl
  · exact .int
  · exact okN_tT
  · exact okN_tT
/-- it is not unlike itself -/
theorem ne_self {a : D} {P Q : Prop} (h : OkN 60 a) (hp : P) : EqOk a a ∧ if PyData.eqv a a = true then P else Q := ⟨eqOk_ok h, by rw [if_pos (eqv_ok h)]; exact hp⟩
theorem ne_self2 {a : D} {P Q : Prop} (h : OkN 60 a) (hp : Q) : EqOk a a ∧ if (PyData.eqv a a != true) = true then P else Q := ⟨eqOk_ok h, by rw [eqv_ok h]; exact hp⟩
theorem ne_self3 {a : D} {P Q : Prop} (h : OkN 60 a) (hp : Q) : EqOk a a ∧ if (!PyData.eqv a a) = true then P else Q := ⟨eqOk_ok h, by rw [eqv_ok h]; exact hp⟩
theorem ne_self4 {a : D} {P Q : Prop} (h : OkN 60 a) (hp : Q) : EqOk a a ∧ if PyData.eqv a a = false then P else Q := ⟨eqOk_ok h, by rw [eqv_ok h]; exact hp⟩
theorem eq_self {a : D} {P Q : Prop} (h : OkN 60 a) (hp : P) : EqOk a a ∧ if PyData.eqv a a = true then P else Q := ne_self h hp
end DL

end

section
namespace DL
open PySem PySem.Spec PyProof.Rows L2

def d_need_state : DS := (.seq (.ife (.not (.call "is_integer" (.cons (.bv 1) (.cons (.c (.int 0)) (.cons (.op2 .sub (.bv 0) (.c (.int 1))) .nil))) 0)) (.seq (.raise "InvalidState") .skip) .skip) .skip)
def are_states_1 : DE := (.call "is_integer" (.cons (.bv 2) (.cons (.c (.int 0)) (.cons (.op2 .sub (.bv 0) (.c (.int 1))) .nil))) 0)
def are_states_2 : DS := (.seq (.ret (.op1 .all (.lc [2] (.bv 1) (.c (.bool true)) are_states_1 [2]))) .skip)
def d_are_states : DS := (.seq (.ife (.or (.not (.op1 .isTup (.bv 1))) (.not (.chain .le .le (.c (.int 1)) (.op1 .len (.bv 1)) (.c (.int 4))))) (.seq (.ret (.c (.bool false))) .skip) .skip) are_states_2)
def d_need_states : DS := (.seq (.ife (.not (.call "are_states" (.cons (.bv 0) (.cons (.bv 1) .nil)) 0)) (.seq (.raise "InvalidState") .skip) .skip) .skip)
def d_still_map : DS := (.seq (.ret (.rngT (.var 0))) .skip)
def then_1 : DE := (.op2 .idx (.bv 1) (.bv 2))
def d_then : DS := (.seq (.ret (.op1 .tupOf (.lc [2] (.bv 0) (.c (.bool true)) then_1 [2]))) .skip)
def order_map_1 : DS := (.seq (.ret (.var 2)) .skip)
def order_map_2 : DS := (.seq (.asg 2 (.call "then" (.cons (.bv 2) (.cons (.op2 .idx (.op2 .idx (.bv 0) (.c (.int 1))) (.bv 3)) .nil)) 0)) .skip)
def d_order_map : DS := (.seq (.asg 2 (.call "still_map" (.cons (.op2 .idx (.bv 0) (.c (.int 0))) .nil) 0)) (.seq (.for' [3] (.var 1) order_map_2) order_map_1))
def ends_with_1 : DE := (.op2 .idx (.bv 3) (.bv 4))
def d_ends_with : DS := (.seq (.asg 3 (.call "order_map" (.cons (.bv 0) (.cons (.bv 1) .nil)) 0)) (.seq (.ret (.ite (.op1 .isNone (.bv 2)) (.var 3) (.op1 .tupOf (.lc [4] (.bv 2) (.c (.bool true)) ends_with_1 [4])))) .skip))
def maps_of_1 : DE := (.call "order_map" (.cons (.bv 0) (.cons (.bv 2) .nil)) 0)
def d_maps_of : DS := (.seq (.ret (.op1 .srtSet (.lc [2] (.bv 1) (.c (.bool true)) maps_of_1 [2]))) .skip)
def d_all_maps : DS := (.seq (.ret (.call "maps_of" (.cons (.bv 0) (.cons (.call "all_orders" (.cons (.bv 0) .nil) 0) .nil)) 0)) .skip)
def ends_by_1 : DE := (.op2 .idx (.bv 2) (.bv 1))
def d_ends_by : DS := (.seq (.ret (.op1 .srtSet (.lc [2] (.bv 0) (.c (.bool true)) ends_by_1 [2]))) .skip)
def together_by_1 : DE := (.op2 .idx (.bv 2) (.bv 3))
def together_by_2 : DE := (.op1 .tupOf (.lc [3] (.bv 1) (.c (.bool true)) together_by_1 [3]))
def d_together_by : DS := (.seq (.ret (.op1 .srtSet (.lc [2] (.bv 0) (.c (.bool true)) together_by_2 [2]))) .skip)
def d_ends : DS := (.seq (.ex (.call "need_bundle" (.cons (.bv 0) .nil) 0)) (.seq (.ex (.call "need_state" (.cons (.op2 .idx (.bv 0) (.c (.int 0))) (.cons (.bv 1) .nil)) 0)) (.seq (.ret (.call "ends_by" (.cons (.call "all_maps" (.cons (.bv 0) .nil) 0) (.cons (.bv 1) .nil)) 0)) .skip)))
def d_together : DS := (.seq (.ex (.call "need_bundle" (.cons (.bv 0) .nil) 0)) (.seq (.ex (.call "need_states" (.cons (.op2 .idx (.bv 0) (.c (.int 0))) (.cons (.bv 1) .nil)) 0)) (.seq (.ret (.call "together_by" (.cons (.call "all_maps" (.cons (.bv 0) .nil) 0) (.cons (.bv 1) .nil)) 0)) .skip)))
def counts_1 : DE := (.tup (.cons (.var 4) (.cons (.op2 .count (.bv 2) (.bv 4)) .nil)))
def counts_2 : DS := (.seq (.ret (.lc [4] (.op1 .srtSet (.bv 2)) (.c (.bool true)) counts_1 [4])) .skip)
def counts_3 : DE := (.call "ends_with" (.cons (.bv 0) (.cons (.bv 3) (.cons (.bv 1) .nil))) 0)
def d_counts : DS := (.seq (.ex (.call "need_bundle" (.cons (.bv 0) .nil) 0)) (.seq (.ex (.call "need_states" (.cons (.op2 .idx (.bv 0) (.c (.int 0))) (.cons (.bv 1) .nil)) 0)) (.seq (.asg 2 (.lc [3] (.call "all_orders" (.cons (.bv 0) .nil) 0) (.c (.bool true)) counts_3 [3])) counts_2)))
def law_end_1 : DS := (.seq (.ret (.var 2)) .skip)
def law_end_2 : DS := (.seq (.asg 2 (.op2 .idx (.op2 .idx (.op2 .idx (.bv 0) (.c (.int 1))) (.bv 3)) (.bv 2))) .skip)
def d_law_end : DS := (.seq (.for' [3] (.var 1) law_end_2) law_end_1)
def law_ends_with_1 : DE := (.call "_law_end" (.cons (.bv 0) (.cons (.bv 1) (.cons (.bv 4) .nil))) 0)
def d_law_ends_with : DS := (.seq (.asg 3 (.ite (.op1 .isNone (.bv 2)) (.rngL (.op2 .idx (.bv 0) (.c (.int 0)))) (.op1 .listOf (.bv 2)))) (.seq (.ret (.op1 .tupOf (.lc [4] (.bv 3) (.c (.bool true)) law_ends_with_1 [4]))) .skip))
def d_exchanged : DS := (.seq (.ret (.op2 .add (.op2 .add (.op2 .upto (.bv 0) (.bv 1)) (.tup (.cons (.op2 .idx (.bv 0) (.op2 .add (.bv 1) (.c (.int 1)))) (.cons (.op2 .idx (.bv 0) (.bv 1)) .nil)))) (.op2 .from (.bv 0) (.op2 .add (.bv 1) (.c (.int 2)))))) .skip)
def d_is_settled : DS := (.seq (.ex (.call "need_bundle" (.cons (.bv 0) .nil) 0)) (.seq (.ret (.op2 .eq (.op1 .len (.call "all_maps" (.cons (.bv 0) .nil) 0)) (.c (.int 1)))) .skip))
def law_map_1 : DE := (.call "_law_end" (.cons (.bv 0) (.cons (.bv 1) (.cons (.bv 2) .nil))) 0)
def d_law_map : DS := (.seq (.ret (.op1 .tupOf (.lc [2] (.rng1 (.op2 .idx (.bv 0) (.c (.int 0)))) (.c (.bool true)) law_map_1 [2]))) .skip)
def law_maps_1 : DE := (.call "_law_map" (.cons (.bv 0) (.cons (.bv 1) .nil)) 0)
def d_law_maps : DS := (.seq (.ret (.op1 .srtSet (.lc [1] (.call "_law_orders" (.cons (.bv 0) .nil) 0) (.c (.bool true)) law_maps_1 [1]))) .skip)
def commuting_1 : DE := (.op2 .eq (.call "then" (.cons (.op2 .idx (.bv 1) (.bv 3)) (.cons (.op2 .idx (.bv 1) (.bv 4)) .nil)) 0) (.call "then" (.cons (.op2 .idx (.bv 1) (.bv 4)) (.cons (.op2 .idx (.bv 1) (.bv 3)) .nil)) 0))
def commuting_2 : DE := (.tup (.cons (.var 3) (.cons (.var 4) .nil)))
def d_commuting : DS := (.seq (.ex (.call "need_bundle" (.cons (.bv 0) .nil) 0)) (.seq (.asg 1 (.op2 .idx (.bv 0) (.c (.int 1)))) (.seq (.asg 2 (.call "all_questions" (.cons (.op1 .len (.bv 1)) .nil) 0)) (.seq (.ret (.lc [3, 4] (.bv 2) commuting_1 commuting_2 [3, 4])) .skip))))
def d_end_of : DS := (.seq (.ex (.call "need_bundle" (.cons (.bv 0) .nil) 0)) (.seq (.ex (.call "need_order" (.cons (.bv 0) (.cons (.bv 1) .nil)) 0)) (.seq (.ex (.call "need_state" (.cons (.op2 .idx (.bv 0) (.c (.int 0))) (.cons (.bv 2) .nil)) 0)) (.seq (.ret (.op2 .idx (.call "order_map" (.cons (.bv 0) (.cons (.bv 1) .nil)) 0) (.bv 2))) .skip))))
def d_map_of : DS := (.seq (.ex (.call "need_bundle" (.cons (.bv 0) .nil) 0)) (.seq (.ex (.call "need_order" (.cons (.bv 0) (.cons (.bv 1) .nil)) 0)) (.seq (.ret (.call "order_map" (.cons (.bv 0) (.cons (.bv 1) .nil)) 0)) .skip)))
def d_maps : DS := (.seq (.ex (.call "need_bundle" (.cons (.bv 0) .nil) 0)) (.seq (.ret (.call "all_maps" (.cons (.bv 0) .nil) 0)) .skip))
def d_surely : DS := (.seq (.ex (.call "need_bundle" (.cons (.bv 0) .nil) 0)) (.seq (.ex (.call "need_state" (.cons (.op2 .idx (.bv 0) (.c (.int 0))) (.cons (.bv 1) .nil)) 0)) (.seq (.asg 2 (.call "ends_by" (.cons (.call "all_maps" (.cons (.bv 0) .nil) 0) (.cons (.bv 1) .nil)) 0)) (.seq (.ret (.ite (.op2 .eq (.op1 .len (.bv 2)) (.c (.int 1))) (.op2 .idx (.bv 2) (.c (.int 0))) (.c .none))) .skip))))
def sp_still_map : DSp := fun as k _ => ∃ n : Int, as = [.p (.int n)] ∧ 0 ≤ n ∧ n ≤ 1000 ∧ k (T (rangeI n.toNat)) []
theorem ok_still_map {Γ : Gm} : ∀ as k x, sp_still_map as k x → semS Γ d_still_map (dkOf false as k x) (ro0 1 as) := by
  rintro as k x ⟨n, rfl, h0, h1, hk⟩
  simp [d_still_map, ro0]
  refine ⟨⟨by omega, by omega⟩, ?_⟩
  rw [rangeD_I]
  exact hk
def sp_then : DSp := fun as k _ => ∃ xs ys : List Int, as = [.p (T xs), .p (T ys)] ∧ (∀ i ∈ xs, 0 ≤ i ∧ i < ys.length) ∧ xs.length ≤ 1000 ∧ k (T (thenI xs ys)) []
theorem ok_then {Γ : Gm} : ∀ as k x, sp_then as k x → semS Γ d_then (dkOf false as k x) (ro0 3 as) := by
  rintro as k x ⟨xs, ys, rfl, h0, h1, hk⟩
  simp [d_then, ro0, T]
  refine lcL_typ .int (fun i => .int (getI ys i)) (fun _ => true) (fun i acc kk hi hl hkk => ?_) (by simp) (by rw [sz]; omega) ?_
  · simp [then_1]
    exact ⟨_, atI_i (h0 i hi).1 (h0 i hi).2, hl, hkk⟩
  · rw [filter_tt]
    have e : (xs.map fun i => PyData.int (getI ys i)) = (thenI xs ys).map .int := by
      unfold thenI
      rw [List.map_map]
      rfl
    rw [e]
    exact hk
def sp_order_map : DSp := fun as k _ => ∃ (B : Bun) (r : List Int), as = [.p B.d, .p (T r)] ∧ BunOk B ∧ OkRow B r ∧ k (T (omap B r)) []
theorem ok_order_map {Γ : Gm} (h1 : Γ.fn "still_map" = sp_still_map) (f1 : Γ.fr "still_map" = false) (h2 : Γ.fn "then" = sp_then) (f2 : Γ.fr "then" = false) : ∀ as k x, sp_order_map as k x → semS Γ d_order_map (dkOf false as k x) (ro0 4 as) := by
  rintro as k x ⟨B, r, rfl, hB, hr, hk⟩
  have n1 := hB.n1
  have n4 := hB.n4
  simp [d_order_map, ro0, Bun.d, idx0, idx1, h1, f1, sp_still_map]
  refine ⟨by omega, by omega, ?_⟩
  refine forL_ind (fun ys ρ => ∃ (done rest : List Int) (s3 : Sl), r = done ++ rest ∧ ys = rest.map .int ∧ ρ = [.p B.d, .p (T r), .p (T (omap B done)), s3]) ?_ ?_ ⟨[], r, .un, rfl, rfl, rfl⟩
  · rintro y ys ρ nx ⟨done, rest, s3, e1, e2, rfl⟩ hnx
    cases rest with
    | nil => cases e2
    | cons d rest =>
      obtain ⟨rfl, rfl⟩ := List.cons.inj e2
      have hd := hr d (by rw [e1]; exact List.mem_append_right _ List.mem_cons_self)
      have hdone : OkRow B done := fun x hx => hr x (by rw [e1]; exact List.mem_append_left _ hx)
      have mo := omap_ok hB hdone
      have mp := mp_ok hB hd
      simp [order_map_2, Bun.d, idx1, h2, f2, sp_then]
      refine ⟨_, atI_r hd.1 hd.2, omap B done, B.mp d, ⟨rfl, rfl⟩, fun i hi => ?_, ?_, ?_⟩
      · have := mo.2 i hi
        have := mp.1
        omega
      · have := mo.1
        omega
      · refine hnx _ ⟨done ++ [d], rest, .p (.int d), by rw [e1]; simp, rfl, ?_⟩
        have e : omap B (done ++ [d]) = thenI (omap B done) (B.mp d) := by
          unfold omap
          rw [List.foldl_append]
          rfl
        rw [e]
        rfl
  · rintro ρ ⟨done, rest, s3, e1, e2, rfl⟩
    have er : rest = [] := by
      cases rest with
      | nil => rfl
      | cons a r => cases e2
    subst er
    rw [List.append_nil] at e1
    subst e1
    simp [order_map_1]
    exact hk
/-- states or none: the ends there -/
def endsO (B : Bun) (so : Option (List Int)) (r : List Int) : List Int := match so with
  | none => omap B r
  | some ss => ss.map (lend B r)
def soD : Option (List Int) → D
  | none => .none
  | some ss => T ss
def SoOk (B : Bun) (so : Option (List Int)) : Prop := ∀ ss, so = some ss → 1 ≤ ss.length ∧ ss.length ≤ 4 ∧ ∀ s ∈ ss, 0 ≤ s ∧ s < B.n
theorem getI_omap {B : Bun} {r : List Int} {s : Int} (h : 0 ≤ s ∧ s < B.n) : getI (omap B r) s = lend B r s := by
  obtain ⟨n, rfl⟩ := Int.eq_ofNat_of_zero_le h.1
  have hn : n < B.n.toNat := by omega
  unfold getI
  rw [omap_eq, Int.toNat_natCast, List.getD_eq_getElem?_getD, List.getElem?_map]
  unfold rangeI
  rw [List.getElem?_map, List.getElem?_range hn]
  rfl
def sp_ends_with : DSp := fun as k _ => ∃ (B : Bun) (r : List Int) (so : Option (List Int)), as = [.p B.d, .p (T r), .p (soD so)] ∧ BunOk B ∧ OkRow B r ∧ SoOk B so ∧ k (T (endsO B so r)) []
theorem ok_ends_with {Γ : Gm} (h1 : Γ.fn "order_map" = sp_order_map) (f1 : Γ.fr "order_map" = false) : ∀ as k x, sp_ends_with as k x → semS Γ d_ends_with (dkOf false as k x) (ro0 5 as) := by
  rintro as k x ⟨B, r, so, rfl, hB, hr, hs, hk⟩
  have mo := omap_ok hB hr
  simp [d_ends_with, ro0, h1, f1, sp_order_map]
  refine ⟨B, r, ⟨rfl, rfl⟩, hB, hr, ?_⟩
  cases so with
  | none =>
    simp [soD]
    exact hk
  | some ss =>
    obtain ⟨s1, s4, hs⟩ := hs ss rfl
    simp [soD, T]
    refine lcL_typ .int (fun i => .int (lend B r i)) (fun _ => true) (fun i acc kk hi hl hkk => ?_) (by simp) (by rw [sz]; omega) ?_
    · simp [ends_with_1]
      have := mo.1
      have hi := hs i hi
      refine ⟨_, atI_i hi.1 (by omega), hl, ?_⟩
      rw [getI_omap hi]
      exact hkk
    · rw [filter_tt]
      have e : (ss.map fun i => PyData.int (lend B r i)) = (ss.map (lend B r)).map .int := by rw [List.map_map]; rfl
      rw [e]
      exact hk
def sp_need_state : DSp := fun as k x => ∃ (n : Int) (v : D), as = [.p (.int n), .p v] ∧ (intB v 0 (n - 1) = true → k .none []) ∧ (intB v 0 (n - 1) = false → x ⟨"InvalidState", none⟩)
theorem ok_need_state {Γ : Gm} (h1 : Γ.fn "is_integer" = sp_is_integer) (f1 : Γ.fr "is_integer" = false) : ∀ as k x, sp_need_state as k x → semS Γ d_need_state (dkOf false as k x) (ro0 2 as) := by
  rintro as k x ⟨n, v, rfl, hk, hx⟩
  simp [d_need_state, ro0, h1, f1, sp_is_integer]
  refine ⟨v, 0, n - 1, ⟨rfl, rfl, rfl⟩, ?_⟩
  cases e : intB v 0 (n - 1)
  · simpa using hx e
  · simpa using hk e
def statesB (n : Int) (v : D) : Bool := match v with
  | .tuple ds => decide (1 ≤ ds.length) && decide (ds.length ≤ 4) && ds.all fun d => intB d 0 (n - 1)
  | _ => false
def sp_are_states : DSp := fun as k _ => ∃ (n : Int) (v : D), as = [.p (.int n), .p v] ∧ k (.bool (statesB n v)) []
theorem ok_are_states {Γ : Gm} (h1 : Γ.fn "is_integer" = sp_is_integer) (f1 : Γ.fr "is_integer" = false) : ∀ as k x, sp_are_states as k x → semS Γ d_are_states (dkOf false as k x) (ro0 3 as) := by
  rintro as k x ⟨n, v, rfl, hk⟩
  cases v <;> simp [d_are_states, ro0] <;> try exact hk
  rename_i ds
  by_cases h : 1 ≤ ds.length ∧ ds.length ≤ 4
  · have a1 : (1 : Int) ≤ ds.length := by omega
    have a2 : ¬ (4 : Int) < ds.length := by omega
    have a3 : ds ≠ [] := fun z => by rw [z] at h; simp at h
    simp [a1, a2, a3, are_states_2]
    refine lcL_map (fun d => .bool (intB d 0 (n - 1))) (fun _ => true) (fun y acc kk hy hl hkk => ?_) (by simp) (by rw [sz]; omega) ?_
    · simp [are_states_1, h1, f1, sp_is_integer]
      exact ⟨y, 0, n - 1, ⟨rfl, rfl, rfl⟩, hl, hkk⟩
    · rw [filter_tt]
      exact all_map (k := fun b => k (.bool b) []) (by simpa [statesB, h] using hk)
  · have e : statesB n (.tuple ds) = false := by
      unfold statesB
      simp only
      rcases Classical.em (1 ≤ ds.length) with c | c
      · have c2 : ¬ ds.length ≤ 4 := fun z => h ⟨c, z⟩
        rw [decide_eq_false c2]
        simp
      · rw [decide_eq_false c]
        rfl
    rw [e] at hk
    by_cases a1 : (1 : Int) ≤ ds.length
    · have a2 : (4 : Int) < ds.length := by omega
      simp [a1, a2]
      exact hk
    · simp [a1]
      exact hk
def sp_need_states : DSp := fun as k x => ∃ (n : Int) (v : D), as = [.p (.int n), .p v] ∧ (statesB n v = true → k .none []) ∧ (statesB n v = false → x ⟨"InvalidState", none⟩)
theorem ok_need_states {Γ : Gm} (h1 : Γ.fn "are_states" = sp_are_states) (f1 : Γ.fr "are_states" = false) : ∀ as k x, sp_need_states as k x → semS Γ d_need_states (dkOf false as k x) (ro0 2 as) := by
  rintro as k x ⟨n, v, rfl, hk, hx⟩
  simp [d_need_states, ro0, h1, f1, sp_are_states]
  refine ⟨n, v, ⟨rfl, rfl⟩, ?_⟩
  cases e : statesB n v
  · simpa using hx e
  · simpa using hk e
theorem statesB_T {n : Int} {ss : List Int} (h1 : 1 ≤ ss.length) (h4 : ss.length ≤ 4) (h : ∀ s ∈ ss, 0 ≤ s ∧ s < n) : statesB n (T ss) = true := by
  simp [statesB, T, h1, h4]
  intro s hs
  have := h s hs
  omega
def sp_maps_of : DSp := fun as k _ => ∃ (B : Bun) (rs : List (List Int)), as = [.p B.d, .p (.list (rs.map T))] ∧ BunOk B ∧ (∀ r ∈ rs, OkRow B r) ∧ rs.length ≤ 1000000 ∧ k (.list ((mapsOf B rs).map T)) []
theorem ok_maps_of {Γ : Gm} (h1 : Γ.fn "order_map" = sp_order_map) (f1 : Γ.fr "order_map" = false) : ∀ as k x, sp_maps_of as k x → semS Γ d_maps_of (dkOf false as k x) (ro0 3 as) := by
  rintro as k x ⟨B, rs, rfl, hB, hr, hz, hk⟩
  simp [d_maps_of, ro0]
  refine lcL_typ T (fun r => T (omap B r)) (fun _ => true) (fun r acc kk hrm hl hkk => ?_) (by simp) (by rw [sz]; omega) ?_
  · simp [maps_of_1, h1, f1, sp_order_map]
    exact ⟨B, r, ⟨rfl, rfl⟩, hB, hr r hrm, hl, hkk⟩
  · rw [filter_tt]
    have e : (rs.map fun r => T (omap B r)) = (rs.map (omap B)).map T := by rw [List.map_map]; rfl
    rw [e]
    refine ⟨setOk_maps hB.n1 hB.n4 fun m hm => ?_, ?_⟩
    · obtain ⟨r, h, rfl⟩ := List.mem_map.mp hm
      exact omap_ok hB (hr r h)
    · rw [set_T]
      exact hk
def sp_all_maps : DSp := fun as k _ => ∃ B : Bun, as = [.p B.d] ∧ BunOk B ∧ k (.list (B.all.map T)) []
theorem ok_all_maps {Γ : Gm} (h1 : Γ.fn "maps_of" = sp_maps_of) (f1 : Γ.fr "maps_of" = false) (h2 : Γ.fn "all_orders" = sp_all_orders) (f2 : Γ.fr "all_orders" = false) : ∀ as k x, sp_all_maps as k x → semS Γ d_all_maps (dkOf false as k x) (ro0 1 as) := by
  rintro as k x ⟨B, rfl, hB, hk⟩
  have ol := ords_len B hB
  simp [d_all_maps, ro0, h1, f1, h2, f2, sp_all_orders, sp_maps_of]
  exact ⟨B, rfl, hB, B, B.ords, ⟨rfl, rfl⟩, hB, fun r hr => ord_row hr, by omega, hk⟩
def endsBy (ms : List (List Int)) (s : Int) : List Int := uniqI (ms.map fun m => getI m s)
def sp_ends_by : DSp := fun as k _ => ∃ (n : Int) (ms : List (List Int)) (s : Int), as = [.p (.list (ms.map T)), .p (.int s)] ∧ n ≤ 4 ∧ (0 ≤ s ∧ s < n) ∧ (∀ m ∈ ms, MapZ n m) ∧ ms.length ≤ 1000000 ∧ k (.list ((endsBy ms s).map .int)) []
theorem ok_ends_by {Γ : Gm} : ∀ as k x, sp_ends_by as k x → semS Γ d_ends_by (dkOf false as k x) (ro0 3 as) := by
  rintro as k x ⟨n, ms, s, rfl, n4, hs, hm, hz, hk⟩
  simp [d_ends_by, ro0]
  refine lcL_typ T (fun m => .int (getI m s)) (fun _ => true) (fun r acc kk hrm hl hkk => ?_) (by simp) (by rw [sz]; omega) ?_
  · have := (hm r hrm).1
    simp [ends_by_1, T]
    exact ⟨_, atI_i hs.1 (by omega), hl, hkk⟩
  · rw [filter_tt]
    have e : (ms.map fun m => PyData.int (getI m s)) = (ms.map fun m => getI m s).map .int := by rw [List.map_map]; rfl
    rw [e]
    refine ⟨setOk_I ?_, ?_⟩
    · have := few_states (ns := ms.map fun m => getI m s) n4 fun i hi => by
        obtain ⟨m, h, rfl⟩ := List.mem_map.mp hi
        have := hm m h
        exact this.2 _ (getI_mem hs.1 (by have := this.1; omega))
      omega
    · rw [set_I]
      exact hk
def togBy (ms : List (List Int)) (ss : List Int) : List (List Int) := uniq (ms.map fun m => ss.map (getI m))
theorem togBy_few {n : Int} {ms : List (List Int)} {ss : List Int} (n4 : n ≤ 4) (h4 : ss.length ≤ 4) (hs : ∀ s ∈ ss, 0 ≤ s ∧ s < n) (hm : ∀ m ∈ ms, MapZ n m) : (dd (ms.map fun m => ss.map (getI m))).length ≤ 256 := by
  refine few_rows h4 fun r hr => ?_
  obtain ⟨m, h, rfl⟩ := List.mem_map.mp hr
  refine ⟨List.length_map .., fun i hi => ?_⟩
  obtain ⟨s, h2, rfl⟩ := List.mem_map.mp hi
  have := hm m h
  have h5 := hs s h2
  have := this.2 _ (getI_mem h5.1 (by have := this.1; omega))
  omega
theorem togBy_ok {n : Int} {ms : List (List Int)} {ss : List Int} (n4 : n ≤ 4) (h4 : ss.length ≤ 4) (hs : ∀ s ∈ ss, 0 ≤ s ∧ s < n) (hm : ∀ m ∈ ms, MapZ n m) : SetOk ((ms.map fun m => ss.map (getI m)).map T) := by
  refine setOk_T (Nat.le_trans (togBy_few n4 h4 hs hm) (by omega)) fun h2 r hr e => ?_
  obtain ⟨m, h, rfl⟩ := List.mem_map.mp hr
  have e0 : ss = [] := List.map_eq_nil_iff.mp e
  subst e0
  have : (dd (ms.map fun m => ([] : List Int).map (getI m))).length ≤ 1 := by
    refine dd_le (u := [[]]) fun r hr => ?_
    obtain ⟨m, _, rfl⟩ := List.mem_map.mp hr
    exact List.mem_singleton_self _
  omega
def sp_together_by : DSp := fun as k _ => ∃ (n : Int) (ms : List (List Int)) (ss : List Int), as = [.p (.list (ms.map T)), .p (T ss)] ∧ n ≤ 4 ∧ ss.length ≤ 4 ∧ (∀ s ∈ ss, 0 ≤ s ∧ s < n) ∧ (∀ m ∈ ms, MapZ n m) ∧ ms.length ≤ 1000000 ∧ k (.list ((togBy ms ss).map T)) []
theorem ok_together_by {Γ : Gm} : ∀ as k x, sp_together_by as k x → semS Γ d_together_by (dkOf false as k x) (ro0 4 as) := by
  rintro as k x ⟨n, ms, ss, rfl, n4, h4, hs, hm, hz, hk⟩
  simp [d_together_by, ro0]
  refine lcL_typ T (fun m => T (ss.map (getI m))) (fun _ => true) (fun m acc kk hmm hl hkk => ?_) (by simp) (by rw [sz]; omega) ?_
  · have := (hm m hmm).1
    simp [together_by_2, T]
    refine lcL_typ .int (fun s => .int (getI m s)) (fun _ => true) (fun s acc2 kk2 hsm hl2 hkk2 => ?_) (by simp) (by rw [sz]; omega) ?_
    · simp [together_by_1]
      have h5 := hs s hsm
      exact ⟨_, atI_i h5.1 (by omega), hl2, hkk2⟩
    · rw [filter_tt]
      have e : (ss.map fun s => PyData.int (getI m s)) = (ss.map (getI m)).map .int := by rw [List.map_map]; rfl
      rw [e]
      exact ⟨hl, hkk⟩
  · rw [filter_tt]
    have e : (ms.map fun m => T (ss.map (getI m))) = (ms.map fun m => ss.map (getI m)).map T := by rw [List.map_map]; rfl
    rw [e]
    refine ⟨togBy_ok n4 h4 hs hm, ?_⟩
    rw [set_T]
    exact hk
end DL

end

section
namespace DL
open PySem PySem.Spec PyProof.Rows L2

theorem rng_small {E : Int} (h : E ≤ 1000) : ∀ y ∈ rangeD 0 E.toNat, ∃ i : Int, y = .int i ∧ 0 ≤ i ∧ i < 1000 := fun y hy => by
  obtain ⟨i, rfl, h0, h1⟩ := mem_rangeD hy
  exact ⟨i, rfl, h0, by omega⟩
def sp_law_end : DSp := fun as k _ => ∃ (B : Bun) (r : List Int) (s : Int), as = [.p B.d, .p (T r), .p (.int s)] ∧ BunOk B ∧ OkRow B r ∧ (0 ≤ s ∧ s < B.n) ∧ k (.int (lend B r s)) []
theorem ok_law_end {Γ : Gm} : ∀ as k x, sp_law_end as k x → semS Γ d_law_end (dkOf false as k x) (ro0 4 as) := by
  rintro as k x ⟨B, r, s, rfl, hB, hr, hs, hk⟩
  simp [d_law_end, ro0, T]
  refine forL_ind (fun ys ρ => ∃ (done rest : List Int) (s3 : Sl), r = done ++ rest ∧ ys = rest.map .int ∧ ρ = [.p B.d, .p (T r), .p (.int (lend B done s)), s3]) ?_ ?_ ⟨[], r, .un, rfl, rfl, rfl⟩
  · rintro y ys ρ nx ⟨done, rest, s3, e1, e2, rfl⟩ hnx
    cases rest with
    | nil => cases e2
    | cons d rest =>
      obtain ⟨rfl, rfl⟩ := List.cons.inj e2
      have hd := hr d (by rw [e1]; exact List.mem_append_right _ List.mem_cons_self)
      have hdone : OkRow B done := fun x hx => hr x (by rw [e1]; exact List.mem_append_left _ hx)
      have mo := lend_ok hB hdone hs
      have mp := mp_ok hB hd
      simp [law_end_2, Bun.d, idx1]
      refine ⟨_, atI_r hd.1 hd.2, ?_⟩
      simp [T]
      refine ⟨_, atI_i mo.1 (by have := mp.1; unfold Bun.mp at this; omega), ?_⟩
      refine hnx _ ⟨done ++ [d], rest, .p (.int d), by rw [e1]; simp, rfl, ?_⟩
      have e : lend B (done ++ [d]) s = getI (getR B.maps d) (lend B done s) := by
        unfold lend
        rw [List.foldl_append]
        rfl
      rw [e]
      rfl
  · rintro ρ ⟨done, rest, s3, e1, e2, rfl⟩
    have er : rest = [] := by
      cases rest with
      | nil => rfl
      | cons a r => cases e2
    subst er
    rw [List.append_nil] at e1
    subst e1
    simp [law_end_1]
    exact hk
def sp_law_map : DSp := fun as k _ => ∃ (B : Bun) (r : List Int), as = [.p B.d, .p (T r)] ∧ BunOk B ∧ OkRow B r ∧ k (T (omap B r)) []
theorem ok_law_map {Γ : Gm} (h1 : Γ.fn "_law_end" = sp_law_end) (f1 : Γ.fr "_law_end" = false) : ∀ as k x, sp_law_map as k x → semS Γ d_law_map (dkOf false as k x) (ro0 3 as) := by
  rintro as k x ⟨B, r, rfl, hB, hr, hk⟩
  have n1 := hB.n1
  have n4 := hB.n4
  simp [d_law_map, ro0, Bun.d, idx0]
  refine ⟨by omega, ?_⟩
  rw [rangeD_I]
  refine lcL_typ .int (fun s => .int (lend B r s)) (fun _ => true) (fun s acc kk hsm hl hkk => ?_) trivial (by rw [rangeI_len, sz]; omega) ?_
  · have := mem_rangeI.mp hsm
    simp [law_map_1, h1, f1, sp_law_end]
    exact ⟨B, r, s, ⟨rfl, rfl, rfl⟩, hB, hr, ⟨this.1, by omega⟩, hl, hkk⟩
  · rw [filter_tt]
    have e : ((rangeI B.n.toNat).map fun s => PyData.int (lend B r s)) = (omap B r).map .int := by rw [omap_eq, List.map_map]; rfl
    rw [e]
    exact hk
def sp_law_maps : DSp := fun as k _ => ∃ B : Bun, as = [.p B.d] ∧ BunOk B ∧ k (.list (B.all.map T)) []
theorem ok_law_maps {Γ : Gm} (h1 : Γ.fn "_law_map" = sp_law_map) (f1 : Γ.fr "_law_map" = false) (h2 : Γ.fn "_law_orders" = sp_orders) (f2 : Γ.fr "_law_orders" = false) : ∀ as k x, sp_law_maps as k x → semS Γ d_law_maps (dkOf false as k x) (ro0 2 as) := by
  rintro as k x ⟨B, rfl, hB, hk⟩
  have ol := ords_len B hB
  simp [d_law_maps, ro0, h2, f2, sp_orders]
  refine ⟨B, rfl, hB, ?_⟩
  refine lcL_typ T (fun r => T (omap B r)) (fun _ => true) (fun r acc kk hrm hl hkk => ?_) (by simp) (by rw [sz]; omega) ?_
  · simp [law_maps_1, h1, f1, sp_law_map]
    exact ⟨B, r, ⟨rfl, rfl⟩, hB, ord_row hrm, hl, hkk⟩
  · rw [filter_tt]
    have e : (B.ords.map fun r => T (omap B r)) = (B.ords.map (omap B)).map T := by rw [List.map_map]; rfl
    rw [e]
    refine ⟨setOk_maps hB.n1 hB.n4 fun m hm => ?_, ?_⟩
    · obtain ⟨r, h, rfl⟩ := List.mem_map.mp hm
      exact omap_ok hB (ord_row h)
    · rw [set_T]
      exact hk
def sp_law_ends_with : DSp := fun as k _ => ∃ (B : Bun) (r : List Int) (so : Option (List Int)), as = [.p B.d, .p (T r), .p (soD so)] ∧ BunOk B ∧ OkRow B r ∧ SoOk B so ∧ k (T (endsO B so r)) []
theorem ok_law_ends_with {Γ : Gm} (h1 : Γ.fn "_law_end" = sp_law_end) (f1 : Γ.fr "_law_end" = false) : ∀ as k x, sp_law_ends_with as k x → semS Γ d_law_ends_with (dkOf false as k x) (ro0 5 as) := by
  rintro as k x ⟨B, r, so, rfl, hB, hr, hs, hk⟩
  have n1 := hB.n1
  have n4 := hB.n4
  cases so with
  | none =>
    simp [d_law_ends_with, ro0, soD, Bun.d, idx0]
    refine ⟨by omega, ?_⟩
    rw [rangeD_I]
    refine lcL_typ .int (fun s => .int (lend B r s)) (fun _ => true) (fun s acc kk hsm hl hkk => ?_) (by simp) (by rw [rangeI_len, sz]; omega) ?_
    · have := mem_rangeI.mp hsm
      simp [law_ends_with_1, h1, f1, sp_law_end]
      exact ⟨B, r, s, ⟨rfl, rfl, rfl⟩, hB, hr, ⟨this.1, by omega⟩, hl, hkk⟩
    · rw [filter_tt]
      have e : ((rangeI B.n.toNat).map fun s => PyData.int (lend B r s)) = (omap B r).map .int := by rw [omap_eq, List.map_map]; rfl
      rw [e]
      exact hk
  | some ss =>
    obtain ⟨s1, s4, hs⟩ := hs ss rfl
    simp [d_law_ends_with, ro0, soD, T]
    refine lcL_typ .int (fun s => .int (lend B r s)) (fun _ => true) (fun s acc kk hsm hl hkk => ?_) (by simp) (by rw [sz]; omega) ?_
    · simp [law_ends_with_1, h1, f1, sp_law_end]
      exact ⟨B, r, s, ⟨rfl, rfl, rfl⟩, hB, hr, hs s hsm, hl, hkk⟩
    · rw [filter_tt]
      have e : (ss.map fun s => PyData.int (lend B r s)) = (ss.map (lend B r)).map .int := by rw [List.map_map]; rfl
      rw [e]
      exact hk
/-! the module's own -/
def sp_end_of : DSp := fun as k _ => ∃ (B : Bun) (r : List Int) (s : Int), as = [.p B.d, .p (T r), .p (.int s)] ∧ BunOk B ∧ r ∈ B.ords ∧ (0 ≤ s ∧ s < B.n) ∧ k (.int (lend B r s)) []
theorem ok_end_of {Γ : Gm} (h1 : Γ.fn "need_bundle" = sp_need_bundle) (f1 : Γ.fr "need_bundle" = false) (h2 : Γ.fn "need_order" = sp_need_order) (f2 : Γ.fr "need_order" = false) (h3 : Γ.fn "need_state" = sp_need_state) (f3 : Γ.fr "need_state" = false) (h4 : Γ.fn "order_map" = sp_order_map) (f4 : Γ.fr "order_map" = false) :
    ∀ as k x, sp_end_of as k x → semS Γ d_end_of (dkOf false as k x) (ro0 3 as) := by
  rintro as k x ⟨B, r, s, rfl, hB, hr, hs, hk⟩
  have mo := omap_ok hB (ord_row hr)
  simp [d_end_of, ro0, h1, f1, sp_need_bundle, h2, f2, sp_need_order, h3, f3, sp_need_state, h4, f4, sp_order_map]
  refine ⟨B, rfl, hB, B, r, ⟨rfl, rfl⟩, hB, hr, ?_⟩
  refine ⟨.int B.n, by simp [Bun.d, idx0], B.n, .int s, ⟨rfl, rfl⟩, fun _ => ?_, fun e => ?_⟩
  · refine ⟨B, r, ⟨rfl, rfl⟩, hB, ord_row hr, ?_⟩
    simp [T]
    refine ⟨_, atI_i hs.1 (by have := mo.1; omega), ?_⟩
    rw [getI_omap hs]
    exact hk
  · simp at e
    omega
def sp_map_of : DSp := fun as k _ => ∃ (B : Bun) (r : List Int), as = [.p B.d, .p (T r)] ∧ BunOk B ∧ r ∈ B.ords ∧ k (T (omap B r)) []
theorem ok_map_of {Γ : Gm} (h1 : Γ.fn "need_bundle" = sp_need_bundle) (f1 : Γ.fr "need_bundle" = false) (h2 : Γ.fn "need_order" = sp_need_order) (f2 : Γ.fr "need_order" = false) (h4 : Γ.fn "order_map" = sp_order_map) (f4 : Γ.fr "order_map" = false) :
    ∀ as k x, sp_map_of as k x → semS Γ d_map_of (dkOf false as k x) (ro0 2 as) := by
  rintro as k x ⟨B, r, rfl, hB, hr, hk⟩
  simp [d_map_of, ro0, h1, f1, sp_need_bundle, h2, f2, sp_need_order, h4, f4, sp_order_map]
  exact ⟨B, rfl, hB, B, r, ⟨rfl, rfl⟩, hB, hr, B, r, ⟨rfl, rfl⟩, hB, ord_row hr, hk⟩
def sp_maps : DSp := fun as k _ => ∃ B : Bun, as = [.p B.d] ∧ BunOk B ∧ k (.list (B.all.map T)) []
theorem ok_maps {Γ : Gm} (h1 : Γ.fn "need_bundle" = sp_need_bundle) (f1 : Γ.fr "need_bundle" = false) (h2 : Γ.fn "all_maps" = sp_all_maps) (f2 : Γ.fr "all_maps" = false) :
    ∀ as k x, sp_maps as k x → semS Γ d_maps (dkOf false as k x) (ro0 1 as) := by
  rintro as k x ⟨B, rfl, hB, hk⟩
  simp [d_maps, ro0, h1, f1, sp_need_bundle, h2, f2, sp_all_maps]
  exact ⟨B, rfl, hB, B, rfl, hB, hk⟩
theorem all_len {B : Bun} (h : BunOk B) : B.all.length ≤ 256 := mapsOf_len h fun _ hr => ord_row hr
def sp_ends : DSp := fun as k _ => ∃ (B : Bun) (s : Int), as = [.p B.d, .p (.int s)] ∧ BunOk B ∧ (0 ≤ s ∧ s < B.n) ∧ k (.list ((endsBy B.all s).map .int)) []
theorem ok_ends {Γ : Gm} (h1 : Γ.fn "need_bundle" = sp_need_bundle) (f1 : Γ.fr "need_bundle" = false) (h2 : Γ.fn "all_maps" = sp_all_maps) (f2 : Γ.fr "all_maps" = false) (h3 : Γ.fn "need_state" = sp_need_state) (f3 : Γ.fr "need_state" = false) (h4 : Γ.fn "ends_by" = sp_ends_by) (f4 : Γ.fr "ends_by" = false) :
    ∀ as k x, sp_ends as k x → semS Γ d_ends (dkOf false as k x) (ro0 2 as) := by
  rintro as k x ⟨B, s, rfl, hB, hs, hk⟩
  simp [d_ends, ro0, h1, f1, sp_need_bundle, h2, f2, sp_all_maps, h3, f3, sp_need_state, h4, f4, sp_ends_by]
  refine ⟨B, rfl, hB, .int B.n, by simp [Bun.d, idx0], B.n, .int s, ⟨rfl, rfl⟩, fun _ => ?_, fun e => ?_⟩
  · exact ⟨B, rfl, hB, B.n, B.all, s, ⟨rfl, rfl⟩, hB.n4, hs, all_ok hB, by have := all_len hB; omega, hk⟩
  · simp at e
    omega
def oneD (l : List Int) : D := if l.length = 1 then .int (l.headD 0) else .none
def sp_surely : DSp := fun as k _ => ∃ (B : Bun) (s : Int), as = [.p B.d, .p (.int s)] ∧ BunOk B ∧ (0 ≤ s ∧ s < B.n) ∧ k (oneD (endsBy B.all s)) []
theorem ok_surely {Γ : Gm} (h1 : Γ.fn "need_bundle" = sp_need_bundle) (f1 : Γ.fr "need_bundle" = false) (h2 : Γ.fn "all_maps" = sp_all_maps) (f2 : Γ.fr "all_maps" = false) (h3 : Γ.fn "need_state" = sp_need_state) (f3 : Γ.fr "need_state" = false) (h4 : Γ.fn "ends_by" = sp_ends_by) (f4 : Γ.fr "ends_by" = false) :
    ∀ as k x, sp_surely as k x → semS Γ d_surely (dkOf false as k x) (ro0 3 as) := by
  rintro as k x ⟨B, s, rfl, hB, hs, hk⟩
  simp [d_surely, ro0, h1, f1, sp_need_bundle, h2, f2, sp_all_maps, h3, f3, sp_need_state, h4, f4, sp_ends_by]
  refine ⟨B, rfl, hB, .int B.n, by simp [Bun.d, idx0], B.n, .int s, ⟨rfl, rfl⟩, fun _ => ?_, fun e => ?_⟩
  · refine ⟨B, rfl, hB, B.n, B.all, s, ⟨rfl, rfl⟩, hB.n4, hs, all_ok hB, by have := all_len hB; omega, ?_⟩
    unfold oneD at hk
    split
    · rename_i e
      have e : (endsBy B.all s).length = 1 := by omega
      rw [if_pos e] at hk
      cases q : endsBy B.all s with
      | nil => rw [q] at e; cases e
      | cons a l =>
        rw [q] at hk
        refine ⟨.int a, by simp [idx0], ?_⟩
        exact hk
    · rename_i e
      rw [if_neg (by omega)] at hk
      exact hk
  · simp at e
    omega
def sp_together : DSp := fun as k _ => ∃ (B : Bun) (ss : List Int), as = [.p B.d, .p (T ss)] ∧ BunOk B ∧ 1 ≤ ss.length ∧ ss.length ≤ 4 ∧ (∀ s ∈ ss, 0 ≤ s ∧ s < B.n) ∧ k (.list ((togBy B.all ss).map T)) []
theorem ok_together {Γ : Gm} (h1 : Γ.fn "need_bundle" = sp_need_bundle) (f1 : Γ.fr "need_bundle" = false) (h2 : Γ.fn "all_maps" = sp_all_maps) (f2 : Γ.fr "all_maps" = false) (h3 : Γ.fn "need_states" = sp_need_states) (f3 : Γ.fr "need_states" = false) (h4 : Γ.fn "together_by" = sp_together_by) (f4 : Γ.fr "together_by" = false) :
    ∀ as k x, sp_together as k x → semS Γ d_together (dkOf false as k x) (ro0 2 as) := by
  rintro as k x ⟨B, ss, rfl, hB, s1, s4, hs, hk⟩
  simp [d_together, ro0, h1, f1, sp_need_bundle, h2, f2, sp_all_maps, h3, f3, sp_need_states, h4, f4, sp_together_by]
  refine ⟨B, rfl, hB, .int B.n, by simp [Bun.d, idx0], B.n, T ss, ⟨rfl, rfl⟩, fun _ => ?_, fun e => ?_⟩
  · exact ⟨B, rfl, hB, B.n, B.all, ss, ⟨rfl, rfl⟩, hB.n4, s4, hs, all_ok hB, by have := all_len hB; omega, hk⟩
  · rw [statesB_T s1 s4 hs] at e
    cases e
theorem count_T (rs : List (List Int)) (r : List Int) : ((rs.map T).countP fun e => PyData.eqv e (T r)) = rs.count r := by
  rw [List.countP_map, List.count]
  refine List.countP_congr fun x _ => ?_
  show PyData.eqv (T x) (T r) = true ↔ _
  rw [eqv_T, decide_eq_true_eq, beq_iff_eq]
theorem count_T2 (rs : List (List Int)) (r : List Int) : (rs.countP ((fun e => PyData.eqv e (T r)) ∘ T)) = rs.count r := by rw [← List.countP_map]; exact count_T rs r
def cntD (rows : List (List Int)) : List D := (uniq rows).map fun r => .tuple [T r, .int (rows.count r : Nat)]
def sp_counts : DSp := fun as k _ => ∃ (B : Bun) (ss : List Int), as = [.p B.d, .p (T ss)] ∧ BunOk B ∧ 1 ≤ ss.length ∧ ss.length ≤ 4 ∧ (∀ s ∈ ss, 0 ≤ s ∧ s < B.n) ∧ k (.list (cntD (B.ords.map (endsO B (some ss))))) []
theorem rows_few {B : Bun} (hB : BunOk B) {ss : List Int} {rs : List (List Int)} (hr : ∀ r ∈ rs, OkRow B r) (s1 : 1 ≤ ss.length) (s4 : ss.length ≤ 4) (hs : ∀ s ∈ ss, 0 ≤ s ∧ s < B.n) : (dd (rs.map (endsO B (some ss)))).length ≤ 256 ∧ SetOk ((rs.map (endsO B (some ss))).map T) := by
  have n4 := hB.n4
  have few : (dd (rs.map (endsO B (some ss)))).length ≤ 256 := few_rows s4 fun m hm => by
    obtain ⟨r, h, rfl⟩ := List.mem_map.mp hm
    refine ⟨List.length_map .., fun i hi => ?_⟩
    obtain ⟨s, h2, rfl⟩ := List.mem_map.mp hi
    have := lend_ok hB (hr r h) (hs s h2)
    omega
  refine ⟨few, setOk_T (by omega) fun _ m hm e => ?_⟩
  obtain ⟨r, h, rfl⟩ := List.mem_map.mp hm
  have := congrArg List.length e
  rw [show (endsO B (some ss) r).length = ss.length from List.length_map ..] at this
  have : ss.length = 0 := this
  omega
theorem ok_counts {Γ : Gm} (h1 : Γ.fn "need_bundle" = sp_need_bundle) (f1 : Γ.fr "need_bundle" = false) (h2 : Γ.fn "all_orders" = sp_all_orders) (f2 : Γ.fr "all_orders" = false) (h3 : Γ.fn "need_states" = sp_need_states) (f3 : Γ.fr "need_states" = false) (h4 : Γ.fn "ends_with" = sp_ends_with) (f4 : Γ.fr "ends_with" = false) :
    ∀ as k x, sp_counts as k x → semS Γ d_counts (dkOf false as k x) (ro0 5 as) := by
  rintro as k x ⟨B, ss, rfl, hB, s1, s4, hs, hk⟩
  have ol := ords_len B hB
  obtain ⟨few, so⟩ := rows_few (rs := B.ords) hB (fun r hr => ord_row hr) s1 s4 hs
  simp [d_counts, ro0, h1, f1, sp_need_bundle, h2, f2, sp_all_orders, h3, f3, sp_need_states]
  refine ⟨B, rfl, hB, .int B.n, by simp [Bun.d, idx0], B.n, T ss, ⟨rfl, rfl⟩, fun _ => ?_, fun e => ?_⟩
  · refine ⟨B, rfl, hB, ?_⟩
    refine lcL_typ T (fun r => T (endsO B (some ss) r)) (fun _ => true) (fun r acc kk hrm hl hkk => ?_) (by simp) (by rw [sz]; omega) ?_
    · simp [counts_3, h4, f4, sp_ends_with]
      exact ⟨B, r, some ss, ⟨rfl, rfl, rfl⟩, hB, ord_row hrm, fun ss' e => by cases e; exact ⟨s1, s4, hs⟩, hl, hkk⟩
    · rw [filter_tt]
      have e : (B.ords.map fun r => T (endsO B (some ss) r)) = (B.ords.map (endsO B (some ss))).map T := by rw [List.map_map]; rfl
      rw [e]
      generalize hR : B.ords.map (endsO B (some ss)) = R at *
      simp [counts_2]
      refine ⟨so, ?_⟩
      rw [set_T]
      refine lcL_typ T (fun r => .tuple [T r, .int (R.count r : Nat)]) (fun _ => true) (fun r acc kk hrm hl hkk => ?_) trivial (by rw [uniq_len, sz]; omega) ?_
      · simp [counts_1]
        refine ⟨hl, ?_⟩
        rw [count_T2]
        exact hkk
      · rw [filter_tt]
        exact hk
  · rw [statesB_T s1 s4 hs] at e
    cases e
def sp_is_settled : DSp := fun as k _ => ∃ B : Bun, as = [.p B.d] ∧ BunOk B ∧ k (.bool (decide (B.all.length = 1))) []
theorem ok_is_settled {Γ : Gm} (h1 : Γ.fn "need_bundle" = sp_need_bundle) (f1 : Γ.fr "need_bundle" = false) (h2 : Γ.fn "all_maps" = sp_all_maps) (f2 : Γ.fr "all_maps" = false) :
    ∀ as k x, sp_is_settled as k x → semS Γ d_is_settled (dkOf false as k x) (ro0 1 as) := by
  rintro as k x ⟨B, rfl, hB, hk⟩
  simp [d_is_settled, ro0, h1, f1, sp_need_bundle, h2, f2, sp_all_maps]
  refine ⟨B, rfl, hB, B, rfl, hB, ?_⟩
  have e : decide ((B.all.length : Int) = 1) = decide (B.all.length = 1) := by
    rw [Bool.eq_iff_iff, decide_eq_true_eq, decide_eq_true_eq]
    omega
  rw [e]
  exact hk
def commB (B : Bun) (q : List Int) : Bool := decide (thenI (B.mp (fstI q)) (B.mp (sndI q)) = thenI (B.mp (sndI q)) (B.mp (fstI q)))
def sp_commuting : DSp := fun as k _ => ∃ B : Bun, as = [.p B.d] ∧ BunOk B ∧ k (.list (((qs B.maps.length).filter (commB B)).map T)) []
theorem ok_commuting {Γ : Gm} (h1 : Γ.fn "need_bundle" = sp_need_bundle) (f1 : Γ.fr "need_bundle" = false) (h2 : Γ.fn "all_questions" = sp_all_questions) (f2 : Γ.fr "all_questions" = false) (h3 : Γ.fn "then" = sp_then) (f3 : Γ.fr "then" = false) :
    ∀ as k x, sp_commuting as k x → semS Γ d_commuting (dkOf false as k x) (ro0 5 as) := by
  rintro as k x ⟨B, rfl, hB, hk⟩
  have m6 := hB.m6
  have hql : (qs B.maps.length).length ≤ 36 := Nat.le_trans (qs_len _) (Nat.mul_le_mul m6 m6)
  have n4 := hB.n4
  simp [d_commuting, ro0, h1, f1, sp_need_bundle, h2, f2, sp_all_questions]
  refine ⟨B, rfl, hB, ?_⟩
  simp [Bun.d, idx1]
  refine ⟨_, rfl, by omega, ?_⟩
  refine lcL_typ T T (commB B) (fun q acc kk hq hl hkk => ?_) (by simp) (by rw [sz]; omega) ?_
  · obtain ⟨a, b, rfl, ha, hb⟩ := mem_qs hq
    have ha := mem_rangeI.mp ha
    have hb := mem_rangeI.mp hb
    have ma := mp_ok hB ha
    have mb := mp_ok hB hb
    simp [T, commuting_1, h3, f3, sp_then]
    refine ⟨_, atI_r ha.1 ha.2, _, atI_r hb.1 hb.2, B.mp a, B.mp b, ⟨rfl, rfl⟩, fun i hi => ?_, ?_, _, atI_r hb.1 hb.2, _, atI_r ha.1 ha.2, B.mp b, B.mp a, ⟨rfl, rfl⟩, fun i hi => ?_, ?_, ?_⟩
    · have := ma.2 i hi; have := mb.1; omega
    · have := ma.1; omega
    · have := mb.2 i hi; have := ma.1; omega
    · have := mb.1; omega
    · simp [commuting_2]
      unfold commB at hkk
      simp [fstI, sndI] at hkk
      split
      · rename_i e
        rw [if_pos e] at hkk
        exact ⟨hl, hkk⟩
      · rename_i e
        rw [if_neg e] at hkk
        exact hkk
  · exact hk
end DL

end

section
namespace DL
open PySem PySem.Spec PyProof.Rows L2

/-! ### loops over what is known -/
theorem forL_acc {α : Type} {tg : List Nat} {body : DK → Ro → Prop} {K : DK} (g : α → D) (xs : List α) (I : List α → Ro → Prop) {ρ : Ro}
    (step : ∀ done x rest ρ (nx : Ro → Prop), xs = done ++ x :: rest → I done ρ → (∀ ρ', I (done ++ [x]) ρ' → nx ρ') → (match bindT tg (g x) ρ with
      | some ρ1 => body { K with nx := nx, ct := nx, bk := K.nx } ρ1
      | none => False)) (h0 : I [] ρ) (fin : ∀ ρ, I xs ρ → K.nx ρ) : forL tg body K (xs.map g) ρ := by
  refine forL_ind (fun ys ρ => ∃ done rest, xs = done ++ rest ∧ ys = rest.map g ∧ I done ρ) ?_ ?_ ⟨[], xs, rfl, rfl, h0⟩
  · rintro y ys ρ nx ⟨done, rest, e1, e2, h⟩ hnx
    cases rest with
    | nil => cases e2
    | cons x rest =>
      obtain ⟨rfl, rfl⟩ := List.cons.inj e2
      exact step done x rest ρ nx e1 h fun ρ' h' => hnx ρ' ⟨done ++ [x], rest, by rw [e1]; simp, rfl, h'⟩
  · rintro ρ ⟨done, rest, e1, e2, h⟩
    have er : rest = [] := by
      cases rest with
      | nil => rfl
      | cons a r => cases e2
    subst er
    rw [List.append_nil] at e1
    subst e1
    exact fin ρ h
theorem forL_rng {tg : List Nat} {body : DK → Ro → Prop} {K : DK} (n : Nat) (I : Nat → Ro → Prop) {ρ : Ro}
    (step : ∀ (i : Nat) ρ (nx : Ro → Prop), i < n → I i ρ → (∀ ρ', I (i + 1) ρ' → nx ρ') → (match bindT tg (.int i) ρ with
      | some ρ1 => body { K with nx := nx, ct := nx, bk := K.nx } ρ1
      | none => False)) (h0 : I 0 ρ) (fin : ∀ ρ, I n ρ → K.nx ρ) : forL tg body K (rangeD 0 n) ρ := by
  refine forL_ind (fun ys ρ => ∃ i, i ≤ n ∧ ys = rangeD (i : Nat) (n - i) ∧ I i ρ) ?_ ?_ ⟨0, Nat.zero_le _, by simp, h0⟩
  · rintro y ys ρ nx ⟨i, hi, e, h⟩ hnx
    have hlt : i < n := by
      rcases Nat.lt_or_ge i n with z | z
      · exact z
      · exfalso
        rw [show n - i = 0 by omega] at e
        exact nomatch e
    rw [show n - i = (n - (i + 1)) + 1 by omega, rangeD_succ] at e
    obtain ⟨rfl, rfl⟩ := List.cons.inj e
    exact step i ρ nx hlt h fun ρ' h' => hnx ρ' ⟨i + 1, hlt, by simp, h'⟩
  · rintro ρ ⟨i, hi, e, h⟩
    have : i = n := by
      rcases Nat.lt_or_ge i n with z | z
      · exfalso
        rw [show n - i = (n - (i + 1)) + 1 by omega, rangeD_succ] at e
        exact nomatch e
      · omega
    subst this
    exact fin ρ h
theorem lcL_acc {α : Type} {body : D → List D → Ro → (List D → Ro → Prop) → Prop} {chk : Ro → Prop} {k : List D → Ro → Prop} (g : α → D) (xs : List α) (I : List α → List D → Ro → Prop) {ρ : Ro} {acc0 : List D}
    (step : ∀ done x rest acc ρ (kk : List D → Ro → Prop), xs = done ++ x :: rest → I done acc ρ → (∀ acc' ρ', I (done ++ [x]) acc' ρ' → kk acc' ρ') → body (g x) acc ρ kk) (hc : ∀ done acc ρ, I done acc ρ → chk ρ) (h0 : I [] acc0 ρ) (fin : ∀ acc ρ, I xs acc ρ → k acc ρ) : lcL body chk (xs.map g) acc0 ρ k := by
  refine lcL_ind (fun ys acc ρ => ∃ done rest, xs = done ++ rest ∧ ys = rest.map g ∧ I done acc ρ) ?_ (fun _ _ _ ⟨_, _, _, _, h⟩ => hc _ _ _ h) ?_ ⟨[], xs, rfl, rfl, h0⟩
  · rintro y ys acc ρ kk ⟨done, rest, e1, e2, h⟩ hkk
    cases rest with
    | nil => cases e2
    | cons x rest =>
      obtain ⟨rfl, rfl⟩ := List.cons.inj e2
      exact step done x rest acc ρ kk e1 h fun acc' ρ' h' => hkk acc' ρ' ⟨done ++ [x], rest, by rw [e1]; simp, rfl, h'⟩
  · rintro acc ρ ⟨done, rest, e1, e2, h⟩
    have er : rest = [] := by
      cases rest with
      | nil => rfl
      | cons a r => cases e2
    subst er
    rw [List.append_nil] at e1
    subst e1
    exact fin acc ρ h
theorem lcL_rng {body : D → List D → Ro → (List D → Ro → Prop) → Prop} {chk : Ro → Prop} {k : List D → Ro → Prop} (n : Nat) (I : Nat → List D → Ro → Prop) {ρ : Ro}
    (step : ∀ (i : Nat) acc ρ (kk : List D → Ro → Prop), i < n → I i acc ρ → (∀ acc' ρ', I (i + 1) acc' ρ' → kk acc' ρ') → body (.int i) acc ρ kk) (hc : ∀ i acc ρ, I i acc ρ → chk ρ) (h0 : I 0 [] ρ) (fin : ∀ acc ρ, I n acc ρ → k acc ρ) : lcL body chk (rangeD 0 n) [] ρ k := by
  refine lcL_ind (fun ys acc ρ => ∃ i, i ≤ n ∧ ys = rangeD (i : Nat) (n - i) ∧ I i acc ρ) ?_ (fun _ _ _ ⟨_, _, _, h⟩ => hc _ _ _ h) ?_ ⟨0, Nat.zero_le _, by simp, h0⟩
  · rintro y ys acc ρ nx ⟨i, hi, e, h⟩ hnx
    have hlt : i < n := by
      rcases Nat.lt_or_ge i n with z | z
      · exact z
      · exfalso
        rw [show n - i = 0 by omega] at e
        exact nomatch e
    rw [show n - i = (n - (i + 1)) + 1 by omega, rangeD_succ] at e
    obtain ⟨rfl, rfl⟩ := List.cons.inj e
    exact step i acc ρ nx hlt h fun acc' ρ' h' => hnx acc' ρ' ⟨i + 1, hlt, by simp, h'⟩
  · rintro acc ρ ⟨i, hi, e, h⟩
    have : i = n := by
      rcases Nat.lt_or_ge i n with z | z
      · exfalso
        rw [show n - i = (n - (i + 1)) + 1 by omega, rangeD_succ] at e
        exact nomatch e
      · omega
    subst this
    exact fin acc ρ h
def rising_1 : DS := (.seq (.ret (.var 2)) .skip)
def rising_2 : DE := (.or (.op2 .eq (.bv 4) (.tup .nil)) (.op2 .lt (.op2 .idx (.bv 4) (.op1 .neg (.c (.int 1)))) (.bv 5)))
def rising_3 : DE := (.op2 .add (.bv 4) (.tup (.cons (.var 5) .nil)))
def rising_4 : DS := (.seq (.asg 2 (.lc2 [4] (.bv 2) [5] (.rng1 (.var 0)) rising_2 rising_3 [4, 5] [5])) .skip)
def d_rising : DS := (.seq (.asg 2 (.lst (.cons (.tup .nil) .nil))) (.seq (.for' [3] (.rng1 (.var 1)) rising_4) rising_1))
def law_rising_1 : DS := (.seq (.ret (.var 2)) .skip)
def law_rising_2 : DS := (.seq (.asg 2 (.var 4)) .skip)
def law_rising_3 : DE := (.or (.op2 .eq (.bv 5) (.tup .nil)) (.op2 .gt (.bv 6) (.op2 .idx (.bv 5) (.op1 .neg (.c (.int 1))))))
def law_rising_4 : DE := (.op2 .add (.bv 5) (.tup (.cons (.var 6) .nil)))
def law_rising_5 : DS := (.seq (.asg 4 (.op2 .add (.bv 4) (.lc [6] (.rng1 (.var 0)) law_rising_3 law_rising_4 [6]))) .skip)
def law_rising_6 : DS := (.seq (.asg 4 (.lst .nil)) (.seq (.for' [5] (.var 2) law_rising_5) law_rising_2))
def d_law_rising : DS := (.seq (.asg 2 (.lst (.cons (.tup .nil) .nil))) (.seq (.for' [3] (.rng1 (.var 1)) law_rising_6) law_rising_1))
/-! ### ascending rows -/
def upAt (row : List Int) (s : Int) : Bool := row.isEmpty || decide (getI row ((row.length : Int) - 1) < s)
def rstep (size : Nat) (rows : List (List Int)) : List (List Int) := rows.flatMap fun row => ((rangeI size).filter (upAt row)).map fun s => row ++ [s]
def risN (size : Nat) : Nat → List (List Int)
  | 0 => [[]]
  | t + 1 => rstep size (risN size t)
theorem rstep_len (size : Nat) : ∀ rows : List (List Int), (rstep size rows).length ≤ rows.length * size
  | [] => Nat.zero_le _
  | row :: rows => by
    have ih := rstep_len size rows
    show ((((rangeI size).filter (upAt row)).map fun s => row ++ [s]) ++ rstep size rows).length ≤ _
    rw [List.length_append, List.length_map, List.length_cons, Nat.succ_mul]
    have := List.length_filter_le (upAt row) (rangeI size)
    rw [rangeI_len] at this
    omega
theorem risN_len (size : Nat) : ∀ t, (risN size t).length ≤ size ^ t
  | 0 => Nat.le_refl 1
  | t + 1 => by
    rw [Nat.pow_succ]
    exact Nat.le_trans (rstep_len size _) (Nat.mul_le_mul_right size (risN_len size t))
theorem risN_row {size : Nat} : ∀ {t : Nat} {r : List Int}, r ∈ risN size t → r.length = t ∧ ∀ i ∈ r, i ∈ rangeI size
  | 0, r, h => by
    rw [List.mem_singleton.mp h]
    exact ⟨rfl, fun _ z => nomatch z⟩
  | t + 1, r, h => by
    obtain ⟨row, hr, h2⟩ := List.mem_flatMap.mp h
    obtain ⟨s, hs, rfl⟩ := List.mem_map.mp h2
    obtain ⟨q1, q2⟩ := risN_row hr
    refine ⟨by rw [List.length_append, q1]; rfl, fun i hi => ?_⟩
    rcases List.mem_append.mp hi with z | z
    · exact q2 i z
    · rw [List.mem_singleton.mp z]
      exact (List.mem_filter.mp hs).1
theorem rstep_snoc (size : Nat) (done : List (List Int)) (row : List Int) : rstep size (done ++ [row]) = rstep size done ++ ((rangeI size).filter (upAt row)).map fun s => row ++ [s] := by
  unfold rstep
  rw [List.flatMap_append, List.flatMap_singleton]
theorem atI_last {row : List Int} (h : row ≠ []) : atI (row.map PyData.int) (-1) = some (.int (getI row ((row.length : Int) - 1))) := by
  have hl := List.length_pos_iff.mpr h
  unfold atI ixN
  rw [if_neg (by omega), if_pos (by rw [List.length_map]; omega)]
  have e : (-1 + ((row.map PyData.int).length : Int)).toNat = row.length - 1 := by
    rw [List.length_map]
    omega
  show (row.map PyData.int)[(-1 + ((row.map PyData.int).length : Int)).toNat]? = _
  rw [e, List.getElem?_map, List.getElem?_eq_getElem (by omega)]
  unfold getI
  rw [show ((row.length : Int) - 1).toNat = row.length - 1 by omega, List.getD_eq_getElem?_getD, List.getElem?_eq_getElem (by omega)]
  rfl
theorem eqv_tn2 (row : List Int) : PyData.eqv (.tuple (row.map .int)) (.tuple []) = decide (row = []) := eqv_ints row []
theorem eqv_tn (row : List Int) : PyData.eqv (.tuple []) (.tuple []) = true := rfl
def sp_rising : DSp := fun as k _ => ∃ (size many : Nat), as = [.p (.int size), .p (.int many)] ∧ size ≤ 6 ∧ many ≤ 6 ∧ k (.list ((risN size many).map T)) []
theorem ris_bound {size many i : Nat} (h1 : size ≤ 6) (h2 : many ≤ 6) (h3 : i < many) : (risN size i).length * size ≤ 46656 := by
  have e1 : size ^ i * size = size ^ (i + 1) := (Nat.pow_succ ..).symm
  have e2 : size ^ (i + 1) ≤ 6 ^ (i + 1) := Nat.pow_le_pow_left h1 _
  have e3 : (6 : Nat) ^ (i + 1) ≤ 6 ^ 6 := Nat.pow_le_pow_right (by omega) (by omega)
  have e4 := Nat.mul_le_mul_right size (risN_len size i)
  have e5 : (6 : Nat) ^ 6 = 46656 := by decide
  omega
theorem ok_rising {Γ : Gm} : ∀ as k x, sp_rising as k x → semS Γ d_rising (dkOf false as k x) (ro0 6 as) := by
  rintro as k x ⟨size, many, rfl, h1, h2, hk⟩
  simp [d_rising, ro0]
  refine ⟨by omega, ?_⟩
  refine forL_rng many (fun i ρ => ∃ s3, ρ = [.p (.int size), .p (.int many), .p (.list ((risN size i).map T)), s3, .un, .un]) ?_ ⟨_, rfl⟩ ?_
  · rintro i ρ nx hi ⟨s3, rfl⟩ hnx
    have hb := ris_bound h1 h2 hi
    simp [rising_4]
    refine lcL_acc T (risN size i) (fun done acc ρ => acc = (rstep size done).map T ∧ ρ = [.p (.int size), .p (.int many), .p (.list ((risN size i).map T)), .p (.int i), .un, .un]) ?_ (by rintro _ _ _ ⟨_, rfl⟩; rfl) ⟨rfl, rfl⟩ ?_
    · rintro done row rest acc ρ kk e1 ⟨rfl, rfl⟩ hkk
      have hdl : (done.length + 1) * size ≤ 46656 := by
        refine Nat.le_trans (Nat.mul_le_mul_right size ?_) hb
        rw [e1, List.length_append, List.length_cons]
        omega
      have hsl := rstep_len size done
      have hsm : (done.length + 1) * size = done.length * size + size := Nat.succ_mul ..
      simp
      refine ⟨by omega, ?_⟩
      rw [rangeD_I]
      refine lcL_typ0 .int (fun s => T (row ++ [s])) (upAt row) (fun s acc2 kk2 hs hl2 hkk2 => ?_) trivial (by rw [List.length_map, rangeI_len, sz]; omega) ?_
      · have el : (row.length + [PyData.int s].length : Nat) ≤ sizeLine := by
          have : row.length = i := (risN_row (by rw [e1]; exact List.mem_append_right _ List.mem_cons_self)).1
          rw [sz, this]
          simp
          omega
        have el : row.length + 1 ≤ sizeLine := el
        simp [rising_2, rising_3, T]
        simp [T] at hkk2
        by_cases e : row = []
        · subst e
          have eu : upAt [] s = true := rfl
          rw [if_pos eu] at hkk2
          rw [if_pos (show PyData.eqv (.tuple (List.map PyData.int [])) (.tuple []) = true from rfl)]
          exact ⟨el, hl2, hkk2⟩
        · have en : ¬ PyData.eqv (.tuple (row.map .int)) (.tuple []) = true := by rw [eqv_tn2]; simpa using e
          rw [if_neg en]
          refine ⟨_, atI_last e, ?_⟩
          have eu : upAt row s = decide (getI row ((row.length : Int) - 1) < s) := by
            unfold upAt
            have : row.isEmpty = false := by simpa using e
            rw [this]
            rfl
          rw [eu] at hkk2
          simp
          simp at hkk2
          split
          · rename_i c
            rw [if_pos c] at hkk2
            exact ⟨el, hl2, hkk2⟩
          · rename_i c
            rw [if_neg c] at hkk2
            exact hkk2
      · rw [show (rstep size done).map T ++ ((rangeI size).filter (upAt row)).map (fun s => T (row ++ [s])) = (rstep size (done ++ [row])).map T by rw [rstep_snoc, List.map_append, List.map_map]; rfl]
        exact hkk _ _ ⟨rfl, rfl⟩
    · rintro acc ρ ⟨rfl, rfl⟩
      exact hnx _ ⟨_, rfl⟩
  · rintro ρ ⟨s3, rfl⟩
    simp [rising_1]
    exact hk
def sp_law_rising : DSp := sp_rising
theorem ok_law_rising {Γ : Gm} : ∀ as k x, sp_rising as k x → semS Γ d_law_rising (dkOf false as k x) (ro0 7 as) := by
  rintro as k x ⟨size, many, rfl, h1, h2, hk⟩
  simp [d_law_rising, ro0]
  refine ⟨by omega, ?_⟩
  refine forL_rng many (fun i ρ => ∃ s3 s4 s5, ρ = [.p (.int size), .p (.int many), .p (.list ((risN size i).map T)), s3, s4, s5, .un]) ?_ ⟨_, _, _, rfl⟩ ?_
  · rintro i ρ nx hi ⟨s3, s4, s5, rfl⟩ hnx
    have hb := ris_bound h1 h2 hi
    simp [law_rising_6]
    refine forL_acc T (risN size i) (fun done ρ => ∃ s5, ρ = [.p (.int size), .p (.int many), .p (.list ((risN size i).map T)), .p (.int i), .p (.list ((rstep size done).map T)), s5, .un]) ?_ ⟨_, rfl⟩ ?_
    · rintro done row rest ρ nx2 e1 ⟨s5, rfl⟩ hnx2
      have hdl : (done.length + 1) * size ≤ 46656 := by
        refine Nat.le_trans (Nat.mul_le_mul_right size ?_) hb
        rw [e1, List.length_append, List.length_cons]
        omega
      have hsl := rstep_len size done
      have hsm : (done.length + 1) * size = done.length * size + size := Nat.succ_mul ..
      have el : row.length + 1 ≤ sizeLine := by
        have : row.length = i := (risN_row (by rw [e1]; exact List.mem_append_right _ List.mem_cons_self)).1
        rw [sz, this]
        omega
      simp [law_rising_5]
      refine ⟨by omega, ?_⟩
      rw [rangeD_I]
      refine lcL_typ .int (fun s => T (row ++ [s])) (upAt row) (fun s acc2 kk2 hs hl2 hkk2 => ?_) trivial (by rw [rangeI_len, sz]; omega) ?_
      · simp [law_rising_3, law_rising_4, T]
        simp [T] at hkk2
        by_cases e : row = []
        · subst e
          have eu : upAt [] s = true := rfl
          rw [if_pos eu] at hkk2
          rw [if_pos (show PyData.eqv (.tuple (List.map PyData.int [])) (.tuple []) = true from rfl)]
          exact ⟨el, hl2, hkk2⟩
        · have en : ¬ PyData.eqv (.tuple (row.map .int)) (.tuple []) = true := by rw [eqv_tn2]; simpa using e
          rw [if_neg en]
          refine ⟨_, atI_last e, ?_⟩
          have eu : upAt row s = decide (getI row ((row.length : Int) - 1) < s) := by
            unfold upAt
            have : row.isEmpty = false := by simpa using e
            rw [this]
            rfl
          rw [eu] at hkk2
          simp
          simp at hkk2
          split
          · rename_i c
            rw [if_pos c] at hkk2
            exact ⟨el, hl2, hkk2⟩
          · rename_i c
            rw [if_neg c] at hkk2
            exact hkk2
      · simp
        have hfl := List.length_filter_le (upAt row) (rangeI size)
        rw [rangeI_len] at hfl
        refine ⟨by rw [sz]; omega, hnx2 _ ⟨.p (T row), ?_⟩⟩
        rw [rstep_snoc, List.map_append, List.map_map]
        rfl
    · rintro ρ ⟨s5, rfl⟩
      simp [law_rising_2]
      exact hnx _ ⟨_, _, _, rfl⟩
  · rintro ρ ⟨s3, s4, s5, rfl⟩
    simp [law_rising_1]
    exact hk
/-! ### what was seen -/
def need_seen_1 : DE := (.call "is_pair" (.cons (.bv 2) (.cons (.op2 .idx (.bv 0) (.c (.int 0))) .nil)) 0)
def need_seen_2 : DS := (.seq (.ife (.not (.op1 .all (.lc [2] (.bv 1) (.c (.bool true)) need_seen_1 [2]))) (.seq (.raise "InvalidSeen") .skip) .skip) .skip)
def d_need_seen : DS := (.seq (.ife (.or (.not (.op1 .isTup (.bv 1))) (.not (.chain .le .le (.c (.int 1)) (.op1 .len (.bv 1)) (.c (.int 4))))) (.seq (.raise "InvalidSeen") .skip) .skip) need_seen_2)
def explains_1 : DE := (.op2 .eq (.op2 .idx (.bv 3) (.bv 4)) (.bv 5))
def d_explains : DS := (.seq (.asg 3 (.call "order_map" (.cons (.bv 0) (.cons (.bv 1) .nil)) 0)) (.seq (.ret (.op1 .all (.lc [4, 5] (.bv 2) (.c (.bool true)) explains_1 [4, 5]))) .skip))
def explaining_1 : DE := (.call "explains" (.cons (.bv 0) (.cons (.bv 2) (.cons (.bv 1) .nil))) 0)
def d_explaining : DS := (.seq (.ret (.lc [2] (.call "all_orders" (.cons (.bv 0) .nil) 0) explaining_1 (.var 2) [2])) .skip)
def d_count_explaining : DS := (.seq (.ex (.call "need_bundle" (.cons (.bv 0) .nil) 0)) (.seq (.ex (.call "need_seen" (.cons (.bv 0) (.cons (.bv 1) .nil)) 0)) (.seq (.ret (.op1 .len (.call "explaining" (.cons (.bv 0) (.cons (.bv 1) .nil)) 0))) .skip)))
def d_first_explaining : DS := (.seq (.ex (.call "need_bundle" (.cons (.bv 0) .nil) 0)) (.seq (.ex (.call "need_seen" (.cons (.bv 0) (.cons (.bv 1) .nil)) 0)) (.seq (.asg 2 (.call "explaining" (.cons (.bv 0) (.cons (.bv 1) .nil)) 0)) (.seq (.ret (.ite (.op2 .ne (.bv 2) (.lst .nil)) (.op2 .idx (.bv 2) (.c (.int 0))) (.c .none))) .skip))))
def law_seen_1 : DS := (.seq (.ret (.var 4)) .skip)
def law_seen_2 : DS := (.seq (.asg 5 (.call "_law_take" (.cons (.bv 0) (.cons (.op2 .idx (.bv 1) (.c (.int 0))) .nil)) 0)) (.seq (.asg 6 (.call "_law_of" (.cons (.bv 0) (.cons (.op2 .add (.op2 .mul (.lst (.cons (.call "_law_end" (.cons (.bv 1) (.cons (.bv 3) (.cons (.bv 5) .nil))) 0) .nil)) (.c (.int 5))) (.lst (.cons (.call "_law_take" (.cons (.bv 0) (.cons (.op2 .idx (.bv 1) (.c (.int 0))) .nil)) 0) .nil))) .nil)) 0)) (.seq (.asg 4 (.op2 .add (.bv 4) (.tup (.cons (.tup (.cons (.var 5) (.cons (.var 6) .nil))) .nil)))) .skip)))
def d_law_seen : DS := (.seq (.par [3, 4] (.cons (.call "_law_of" (.cons (.bv 0) (.cons (.call "_law_orders" (.cons (.bv 1) .nil) 0) .nil)) 0) (.cons (.tup .nil) .nil))) (.seq (.for' [2] (.rng1 (.call "_law_of" (.cons (.bv 0) (.cons (.lst (.cons (.c (.int 1)) (.cons (.c (.int 1)) (.cons (.c (.int 2)) (.cons (.c (.int 4)) .nil))))) .nil)) 0)) law_seen_2) law_seen_1))
def law_explaining_1 : DS := (.seq (.ret (.var 2)) .skip)
def law_explaining_2 : DE := (.op2 .ne (.call "_law_end" (.cons (.bv 0) (.cons (.bv 3) (.cons (.op2 .idx (.bv 4) (.c (.int 0))) .nil))) 0) (.op2 .idx (.bv 4) (.c (.int 1))))
def law_explaining_3 : DS := (.seq (.ife (.op2 .eq (.lc [4] (.bv 1) law_explaining_2 (.var 4) [4]) (.lst .nil)) (.seq (.app 2 (.var 3)) .skip) .skip) .skip)
def d_law_explaining : DS := (.seq (.own 2 (.lst .nil)) (.seq (.for' [3] (.call "_law_orders" (.cons (.bv 0) .nil) 0) law_explaining_3) law_explaining_1))
def SeenOk (B : Bun) (seen : List (List Int)) : Prop := 1 ≤ seen.length ∧ seen.length ≤ 4 ∧ ∀ p ∈ seen, ∃ a b, p = [a, b] ∧ (0 ≤ a ∧ a < B.n) ∧ (0 ≤ b ∧ b < B.n)
def seenB (n : Int) (v : D) : Bool := match v with
  | .tuple ds => decide (1 ≤ ds.length) && decide (ds.length ≤ 4) && ds.all (pairB n)
  | _ => false
theorem pairB_of {n : Int} {d : D} (h : pairB n d = true) : ∃ a b, d = T [a, b] ∧ (0 ≤ a ∧ a < n) ∧ (0 ≤ b ∧ b < n) := by
  unfold pairB at h
  split at h
  · rename_i ds
    rw [Bool.and_eq_true, decide_eq_true_eq] at h
    obtain ⟨h1, h2⟩ := h
    match ds, h1, h2 with
    | [x, y], _, h2 =>
      have hx : ∀ d : D, intB d 0 (n - 1) = true → ∃ i, d = .int i ∧ 0 ≤ i ∧ i < n := fun d h => by
        cases d <;> first | (simp [intB] at h; done) | skip
        rename_i i
        rw [intB_int] at h
        simp at h
        exact ⟨i, rfl, h.1, by omega⟩
      simp at h2
      obtain ⟨a, rfl, ha⟩ := hx x h2.1
      obtain ⟨b, rfl, hb⟩ := hx y h2.2
      exact ⟨a, b, rfl, ha, hb⟩
  · cases h
theorem pairs_of {n : Int} : ∀ {ds : List D}, ds.all (pairB n) = true → ∃ ps : List (List Int), ds = ps.map T ∧ ∀ p ∈ ps, ∃ a b, p = [a, b] ∧ (0 ≤ a ∧ a < n) ∧ (0 ≤ b ∧ b < n)
  | [], _ => ⟨[], rfl, fun _ z => nomatch z⟩
  | d :: ds, h => by
    rw [List.all_cons, Bool.and_eq_true] at h
    obtain ⟨a, b, rfl, q⟩ := pairB_of h.1
    obtain ⟨ps, rfl, q2⟩ := pairs_of h.2
    refine ⟨[a, b] :: ps, rfl, fun p hp => ?_⟩
    rcases List.mem_cons.mp hp with rfl | hp
    · exact ⟨a, b, rfl, q⟩
    · exact q2 p hp
theorem seenB_of {B : Bun} {v : D} (h : seenB B.n v = true) : ∃ seen, v = .tuple (seen.map T) ∧ SeenOk B seen := by
  unfold seenB at h
  split at h
  · rw [Bool.and_eq_true, Bool.and_eq_true, decide_eq_true_eq, decide_eq_true_eq] at h
    obtain ⟨ps, rfl, q⟩ := pairs_of h.2
    rw [List.length_map] at h
    exact ⟨ps, rfl, h.1.1, h.1.2, q⟩
  · cases h
theorem pairB_T {n a b : Int} (ha : 0 ≤ a ∧ a < n) (hb : 0 ≤ b ∧ b < n) : pairB n (T [a, b]) = true := by
  simp [pairB, T]
  omega
theorem seenB_T {B : Bun} {seen : List (List Int)} (h : SeenOk B seen) : seenB B.n (.tuple (seen.map T)) = true := by
  obtain ⟨h1, h2, h3⟩ := h
  simp [seenB, h1, h2]
  intro p hp
  obtain ⟨a, b, rfl, ha, hb⟩ := h3 p hp
  exact pairB_T ha hb
def sp_need_seen : DSp := fun as k x => ∃ (B : Bun) (v : D), as = [.p B.d, .p v] ∧ (seenB B.n v = true → k .none []) ∧ (seenB B.n v = false → x ⟨"InvalidSeen", none⟩)
theorem ok_need_seen {Γ : Gm} (h1 : Γ.fn "is_pair" = sp_is_pair) (f1 : Γ.fr "is_pair" = false) : ∀ as k x, sp_need_seen as k x → semS Γ d_need_seen (dkOf false as k x) (ro0 3 as) := by
  rintro as k x ⟨B, v, rfl, hk, hx⟩
  cases v <;> simp [d_need_seen, ro0] <;> first | exact hx rfl | skip
  rename_i ds
  by_cases h : 1 ≤ ds.length ∧ ds.length ≤ 4
  · have a1 : (1 : Int) ≤ ds.length := by omega
    have a2 : ¬ (4 : Int) < ds.length := by omega
    have a3 : ds ≠ [] := fun z => by rw [z] at h; simp at h
    simp [a1, a2, a3, need_seen_2]
    refine lcL_map (fun d => .bool (pairB B.n d)) (fun _ => true) (fun y acc kk hy hl hkk => ?_) (by simp) (by rw [sz]; omega) ?_
    · simp [need_seen_1, h1, f1, sp_is_pair, Bun.d, idx0]
      exact ⟨y, B.n, ⟨rfl, rfl⟩, hl, hkk⟩
    · rw [filter_tt]
      refine all_map (k := fun b => if (!b) = true then x ⟨"InvalidSeen", none⟩ else k .none []) ?_
      have e : seenB B.n (.tuple ds) = ds.all (pairB B.n) := by simp [seenB, h]
      rw [e] at hk hx
      cases q : ds.all (pairB B.n)
      · simpa using hx q
      · simpa using hk q
  · have e : seenB B.n (.tuple ds) = false := by
      unfold seenB
      simp only
      rcases Classical.em (1 ≤ ds.length) with c | c
      · have c2 : ¬ ds.length ≤ 4 := fun z => h ⟨c, z⟩
        rw [decide_eq_false c2]
        simp
      · rw [decide_eq_false c]
        rfl
    have hx := hx e
    by_cases a1 : (1 : Int) ≤ ds.length
    · have a2 : (4 : Int) < ds.length := by omega
      simp [a1, a2]
      exact hx
    · simp [a1]
      exact hx
def explB (B : Bun) (seen : List (List Int)) (r : List Int) : Bool := seen.all fun p => decide (lend B r (fstI p) = sndI p)
theorem pair_T {B : Bun} {seen : List (List Int)} (h : SeenOk B seen) {p : List Int} (hp : p ∈ seen) : ∃ a b, p = [a, b] ∧ (0 ≤ a ∧ a < B.n) ∧ (0 ≤ b ∧ b < B.n) := h.2.2 p hp
def sp_explains : DSp := fun as k _ => ∃ (B : Bun) (r : List Int) (seen : List (List Int)), as = [.p B.d, .p (T r), .p (.tuple (seen.map T))] ∧ BunOk B ∧ OkRow B r ∧ SeenOk B seen ∧ k (.bool (explB B seen r)) []
theorem ok_explains {Γ : Gm} (h1 : Γ.fn "order_map" = sp_order_map) (f1 : Γ.fr "order_map" = false) : ∀ as k x, sp_explains as k x → semS Γ d_explains (dkOf false as k x) (ro0 6 as) := by
  rintro as k x ⟨B, r, seen, rfl, hB, hr, hs, hk⟩
  have mo := omap_ok hB hr
  have s4 := hs.2.1
  simp [d_explains, ro0, h1, f1, sp_order_map]
  refine ⟨B, r, ⟨rfl, rfl⟩, hB, hr, ?_⟩
  refine lcL_typ T (fun p => .bool (decide (lend B r (fstI p) = sndI p))) (fun _ => true) (fun p acc kk hp hl hkk => ?_) (by simp) (by rw [sz]; omega) ?_
  · obtain ⟨a, b, rfl, ha, hb⟩ := pair_T hs hp
    simp [T, explains_1]
    refine ⟨_, atI_i ha.1 (by have := mo.1; omega), ?_⟩
    rw [getI_omap ha]
    simp
    simp [fstI, sndI] at hkk
    exact ⟨hl, hkk⟩
  · rw [filter_tt]
    exact all_typ (k := fun b => k (.bool b) []) hk
def exList (B : Bun) (seen : List (List Int)) : List (List Int) := B.ords.filter (explB B seen)
def sp_explaining : DSp := fun as k _ => ∃ (B : Bun) (seen : List (List Int)), as = [.p B.d, .p (.tuple (seen.map T))] ∧ BunOk B ∧ SeenOk B seen ∧ k (.list ((exList B seen).map T)) []
theorem ok_explaining {Γ : Gm} (h1 : Γ.fn "all_orders" = sp_all_orders) (f1 : Γ.fr "all_orders" = false) (h2 : Γ.fn "explains" = sp_explains) (f2 : Γ.fr "explains" = false) : ∀ as k x, sp_explaining as k x → semS Γ d_explaining (dkOf false as k x) (ro0 3 as) := by
  rintro as k x ⟨B, seen, rfl, hB, hs, hk⟩
  have ol := ords_len B hB
  simp [d_explaining, ro0, h1, f1, sp_all_orders]
  refine ⟨B, rfl, hB, ?_⟩
  refine lcL_typ T T (explB B seen) (fun r acc kk hr hl hkk => ?_) trivial (by rw [sz]; omega) ?_
  · simp [explaining_1, h2, f2, sp_explains]
    refine ⟨B, r, seen, ⟨rfl, rfl, rfl⟩, hB, ord_row hr, hs, ?_⟩
    split
    · rename_i e
      rw [if_pos e] at hkk
      exact ⟨hl, hkk⟩
    · rename_i e
      rw [if_neg e] at hkk
      exact hkk
  · exact hk
def sp_count_explaining : DSp := fun as k x => ∃ (B : Bun) (v : D), as = [.p B.d, .p v] ∧ BunOk B ∧ (seenB B.n v = false → x ⟨"InvalidSeen", none⟩) ∧ ∀ seen, v = .tuple (seen.map T) → SeenOk B seen → k (.int (exList B seen).length) []
theorem ok_count_explaining {Γ : Gm} (h1 : Γ.fn "need_bundle" = sp_need_bundle) (f1 : Γ.fr "need_bundle" = false) (h2 : Γ.fn "need_seen" = sp_need_seen) (f2 : Γ.fr "need_seen" = false) (h3 : Γ.fn "explaining" = sp_explaining) (f3 : Γ.fr "explaining" = false) : ∀ as k x, sp_count_explaining as k x → semS Γ d_count_explaining (dkOf false as k x) (ro0 2 as) := by
  rintro as k x ⟨B, v, rfl, hB, hx, hk⟩
  simp [d_count_explaining, ro0, h1, f1, sp_need_bundle, h2, f2, sp_need_seen, h3, f3, sp_explaining]
  refine ⟨B, rfl, hB, B, v, ⟨rfl, rfl⟩, fun e => ?_, hx⟩
  obtain ⟨seen, rfl, hs⟩ := seenB_of e
  exact ⟨B, seen, ⟨rfl, rfl⟩, hB, hs, hk seen rfl hs⟩
def firstD (l : List (List Int)) : D := match l with
  | [] => .none
  | r :: _ => T r
def sp_first_explaining : DSp := fun as k x => ∃ (B : Bun) (seen : List (List Int)), as = [.p B.d, .p (.tuple (seen.map T))] ∧ BunOk B ∧ SeenOk B seen ∧ k (firstD (exList B seen)) []
theorem ok_first_explaining {Γ : Gm} (h1 : Γ.fn "need_bundle" = sp_need_bundle) (f1 : Γ.fr "need_bundle" = false) (h2 : Γ.fn "need_seen" = sp_need_seen) (f2 : Γ.fr "need_seen" = false) (h3 : Γ.fn "explaining" = sp_explaining) (f3 : Γ.fr "explaining" = false) : ∀ as k x, sp_first_explaining as k x → semS Γ d_first_explaining (dkOf false as k x) (ro0 3 as) := by
  rintro as k x ⟨B, seen, rfl, hB, hs, hk⟩
  simp [d_first_explaining, ro0, h1, f1, sp_need_bundle, h2, f2, sp_need_seen, h3, f3, sp_explaining]
  refine ⟨B, rfl, hB, B, _, ⟨rfl, rfl⟩, fun e => ?_, fun e => by rw [seenB_T hs] at e; cases e⟩
  refine ⟨B, seen, ⟨rfl, rfl⟩, hB, hs, ?_⟩
  cases q : exList B seen with
  | nil =>
    rw [q] at hk
    simp
    exact hk
  | cons r l =>
    rw [q] at hk
    simp
    exact ⟨_, idx0, hk⟩
def sp_law_explaining : DSp := sp_explaining
theorem ok_law_explaining {Γ : Gm} (h1 : Γ.fn "_law_orders" = sp_orders) (f1 : Γ.fr "_law_orders" = false) (h2 : Γ.fn "_law_end" = sp_law_end) (f2 : Γ.fr "_law_end" = false) : ∀ as k x, sp_explaining as k x → semS Γ d_law_explaining (dkOf false as k x) (ro0 5 as) := by
  rintro as k x ⟨B, seen, rfl, hB, hs, hk⟩
  have ol := ords_len B hB
  have s4 := hs.2.1
  simp [d_law_explaining, ro0, h1, f1, sp_orders]
  refine ⟨B, rfl, hB, ?_⟩
  refine forL_acc T B.ords (fun done ρ => ∃ s3, ρ = [.p B.d, .p (.tuple (seen.map T)), .o true (.ls ((done.filter (explB B seen)).map T)), s3, .un]) ?_ ⟨_, rfl⟩ ?_
  · rintro done r rest ρ nx e1 ⟨s3, rfl⟩ hnx
    have hr : r ∈ B.ords := by rw [e1]; exact List.mem_append_right _ List.mem_cons_self
    have hdl := List.length_filter_le (explB B seen) done
    have hd2 := congrArg List.length e1
    rw [List.length_append, List.length_cons] at hd2
    simp [law_explaining_3]
    refine lcL_typ T T (fun p => !decide (lend B r (fstI p) = sndI p)) (fun p acc kk hp hl hkk => ?_) (by simp) (by rw [sz]; omega) ?_
    · obtain ⟨a, b, rfl, ha, hb⟩ := pair_T hs hp
      simp [T, law_explaining_2, idx0, idx1, h2, f2, sp_law_end]
      refine ⟨B, r, a, ⟨rfl, rfl, rfl⟩, hB, ord_row hr, ha, ?_⟩
      simp [fstI, sndI, T] at hkk
      split
      · rename_i e
        rw [if_pos e] at hkk
        exact hkk
      · rename_i e
        rw [if_neg e] at hkk
        exact ⟨hl, hkk⟩
    · have ef : (seen.filter fun p => !decide (lend B r (fstI p) = sndI p)) = [] ↔ explB B seen r = true := by
        unfold explB
        rw [List.filter_eq_nil_iff, List.all_eq_true]
        simp
      generalize hL : (seen.filter fun p => !decide (lend B r (fstI p) = sndI p)) = L at *
      simp
      by_cases e : L = []
      · rw [if_pos e]
        have ee := ef.mp e
        refine ⟨by rw [sz]; omega, hnx _ ⟨.p (T r), ?_⟩⟩
        rw [List.filter_append, List.filter_cons_of_pos ee]
        simp
      · rw [if_neg e]
        have ee : ¬ explB B seen r = true := fun z => e (ef.mpr z)
        refine hnx _ ⟨.p (T r), ?_⟩
        rw [List.filter_append, List.filter_cons_of_neg ee]
        simp
  · rintro ρ ⟨s3, rfl⟩
    simp [law_explaining_1]
    exact hk
def sp_law_seen : DSp := fun as k _ => ∃ (c : Ct) (B : Bun), as = [.o c, .p B.d] ∧ BagC c ∧ BunOk B ∧ ∀ (seen : List (List Int)) (c' : Ct), SeenOk B seen → BagC c' → k (.tuple (seen.map T)) [c']
theorem ok_law_seen {Γ : Gm} (h1 : Γ.fn "_law_take" = sp_take) (f1 : Γ.fr "_law_take" = false) (h2 : Γ.fn "_law_of" = sp_of) (f2 : Γ.fr "_law_of" = false) (h3 : Γ.fn "_law_orders" = sp_orders) (f3 : Γ.fr "_law_orders" = false) (h4 : Γ.fn "_law_end" = sp_law_end) (f4 : Γ.fr "_law_end" = false) :
    ∀ as k x, sp_law_seen as k x → semS Γ d_law_seen (dkOf false as k x) (ro0 7 as) := by
  rintro as k x ⟨c, B, rfl, hc, hB, hk⟩
  have ol := ords_len B hB
  have n1 := hB.n1
  have n4 := hB.n4
  simp [d_law_seen, ro0, h3, f3, sp_orders]
  refine ⟨B, rfl, hB, ?_⟩
  simp [h2, f2, sp_of]
  refine ⟨c, _, ⟨rfl, rfl⟩, hc, by simpa using bun_ne hB, by rw [List.length_map]; omega, fun d c1 hd b1 => ?_⟩
  obtain ⟨r, hr, rfl⟩ := List.mem_map.mp hd
  refine ⟨c1, _, ⟨rfl, rfl⟩, b1, by simp, by simp, fun d c2 hd b2 => ?_⟩
  obtain ⟨t, rfl, t1, t4⟩ : ∃ t : Int, d = .int t ∧ 1 ≤ t ∧ t ≤ 4 := by
    simp at hd
    rcases hd with rfl | rfl | rfl <;> exact ⟨_, rfl, by omega, by omega⟩
  simp
  refine ⟨by omega, ?_⟩
  refine forL_rng t.toNat (fun i ρ => ∃ (seen : List (List Int)) (c : Ct) (s2 s5 s6 : Sl), seen.length = i ∧ (∀ p ∈ seen, ∃ a b, p = [a, b] ∧ (0 ≤ a ∧ a < B.n) ∧ (0 ≤ b ∧ b < B.n)) ∧ BagC c ∧ ρ = [.o false c, .p B.d, s2, .p (T r), .p (.tuple (seen.map T)), s5, s6]) ?_ ⟨[], c2, _, _, _, rfl, (fun _ z => nomatch z), b2, rfl⟩ ?_
  · rintro i ρ nx hi ⟨seen, c, s2, s5, s6, hl, hs, hc, rfl⟩ hnx
    simp [law_seen_2, Bun.d, idx0, h1, f1, sp_take]
    refine ⟨c, B.n, ⟨rfl, rfl⟩, hc, by omega, by omega, fun a c3 a0 a1 b3 => ?_⟩
    simp [h4, f4, sp_law_end]
    refine ⟨B, r, a, ⟨rfl, rfl, rfl⟩, hB, ord_row hr, ⟨a0, a1⟩, ?_⟩
    have le := lend_ok hB (ord_row hr) ⟨a0, a1⟩
    refine ⟨c3, B.n, ⟨rfl, rfl⟩, b3, by omega, by omega, fun e c4 e0 e1 b4 => ?_⟩
    simp [h2, f2, sp_of]
    refine ⟨by rw [sz]; omega, c4, _, ⟨rfl, rfl⟩, b4, by simp, by simp, fun d c5 hd b5 => ?_⟩
    obtain ⟨b, rfl, b0, b1⟩ : ∃ b : Int, d = .int b ∧ 0 ≤ b ∧ b < B.n := by
      simp at hd
      rcases hd with rfl | rfl
      · exact ⟨_, rfl, le.1, le.2⟩
      · exact ⟨_, rfl, e0, e1⟩
    refine ⟨by rw [sz]; omega, hnx _ ⟨seen ++ [[a, b]], c5, .p (.int i), .p (.int a), .p (.int b), by simp [hl], fun p hp => ?_, b5, by simp [T, Bun.d]⟩⟩
    rcases List.mem_append.mp hp with z | z
    · exact hs p z
    · exact ⟨a, b, List.mem_singleton.mp z, ⟨a0, a1⟩, ⟨b0, b1⟩⟩
  · rintro ρ ⟨seen, c, s2, s5, s6, hl, hs, hc, rfl⟩
    simp [law_seen_1]
    exact hk seen c ⟨by omega, by omega, hs⟩ hc
end DL

end

section
namespace DL
open PySem PySem.Spec PyProof.Rows L2

theorem forL_first {α β : Type} {tg : List Nat} {body : DK → Ro → Prop} {K : DK} (g : α → D) (f : α → Option β) (xs : List α) (I : Ro → Prop) (Good : β → Prop) {ρ : Ro}
    (step : ∀ x ∈ xs, ∀ ρ (nx : Ro → Prop), I ρ → (f x = none → ∀ ρ', I ρ' → nx ρ') → (∀ b, f x = some b → Good b) → (match bindT tg (g x) ρ with
      | some ρ1 => body { K with nx := nx, ct := nx, bk := K.nx } ρ1
      | none => False)) (h0 : I ρ) (hg : ∀ b, xs.findSome? f = some b → Good b) (fin : xs.findSome? f = none → ∀ ρ, I ρ → K.nx ρ) : forL tg body K (xs.map g) ρ := by
  refine forL_ind (fun ys ρ => ∃ rest, ys = rest.map g ∧ (∀ x ∈ rest, x ∈ xs) ∧ rest.findSome? f = xs.findSome? f ∧ I ρ) ?_ ?_ ⟨xs, rfl, fun _ h => h, rfl, h0⟩
  · rintro y ys ρ nx ⟨rest, e2, hm, hf, h⟩ hnx
    cases rest with
    | nil => cases e2
    | cons x rest =>
      obtain ⟨rfl, rfl⟩ := List.cons.inj e2
      refine step x (hm x List.mem_cons_self) ρ nx h (fun e ρ' h' => hnx ρ' ⟨rest, rfl, fun z hz => hm z (List.mem_cons_of_mem _ hz), ?_, h'⟩) fun b e => hg b ?_
      · rw [← hf, List.findSome?_cons, e]
      · rw [← hf, List.findSome?_cons, e]
  · rintro ρ ⟨rest, e2, hm, hf, h⟩
    have er : rest = [] := by
      cases rest with
      | nil => rfl
      | cons a r => cases e2
    subst er
    exact fin hf.symm ρ h
def optT : Option (List Int) → D
  | none => .none
  | some r => T r
theorem okN_opt {o : Option (List Int)} : OkN 60 (optT o) := by
  cases o with
  | none => exact .none
  | some r => exact okN_T
theorem tT_inj {a b : List (List Int)} (e : PyData.tuple (a.map T) = .tuple (b.map T)) : a = b := by
  have := PyData.tuple.inj e
  have h0 := eqv_lT a b
  rw [this, eqv_lT] at h0
  simpa using h0.symm
theorem opt_nil (o : Option (List Int)) : PyData.eqv (optT o) (.tuple []) = decide (o = some []) := by
  cases o with
  | none => rfl
  | some r =>
    show PyData.eqv (.tuple (r.map .int)) (.tuple []) = _
    rw [eqv_tn2]
    simp
end DL

end

section
namespace DL
open PySem PySem.Spec PyProof.Rows L2
theorem rangeI_snoc0 (t : Nat) : rangeI (t + 1) = rangeI t ++ [(t : Int)] := by
  unfold rangeI
  rw [List.range_succ, List.map_append]
  rfl
theorem ris_all0 (n : Nat) : ∀ t, t ≤ n → rangeI t ∈ risN n t
  | 0, _ => List.mem_singleton.mpr rfl
  | t + 1, h => by
    refine List.mem_flatMap.mpr ⟨rangeI t, ris_all0 n t (by omega), List.mem_map.mpr ⟨(t : Int), List.mem_filter.mpr ⟨mem_rangeI.mpr (by omega), ?_⟩, (rangeI_snoc0 t).symm⟩⟩
    unfold upAt
    cases t with
    | zero => rfl
    | succ t =>
      rw [Bool.or_eq_true]
      refine .inr (decide_eq_true ?_)
      rw [rangeI_len]
      have hm := getI_mem (xs := rangeI (t + 1)) (i := ((t + 1 : Nat) : Int) - 1) (by omega) (by rw [rangeI_len]; omega)
      have := mem_rangeI.mp hm
      omega
theorem idx_pw : ∀ {r : List Int}, r.Nodup → r.Pairwise fun x y => r.idxOf x < r.idxOf y := by
  intro r nd
  rw [List.pairwise_iff_getElem]
  intro i j hi hj hij
  rw [nd.idxOf_getElem, nd.idxOf_getElem]
  exact hij
theorem mem_qs2 {m : Nat} {a b : Int} (ha : 0 ≤ a) (hab : a < b) (hb : b < m) : [a, b] ∈ qs m := by
  refine List.mem_flatMap.mpr ⟨a, mem_rangeI.mpr (by omega), ?_⟩
  unfold qFrom
  refine List.mem_map.mpr ⟨b, ?_, rfl⟩
  unfold rangeI2
  exact List.mem_map.mpr ⟨(b - (a + 1)).toNat, List.mem_range.mpr (by omega), by omega⟩
theorem ahead_det {m : Nat} {r r' : List Int} (h : r.Perm (rangeI m)) (h' : r'.Perm (rangeI m)) (e : ∀ p ∈ qs m, aheadB r p = aheadB r' p) : r = r' := by
  have nd := h.nodup_iff.mpr (rangeI_nodup m)
  have nd' := h'.nodup_iff.mpr (rangeI_nodup m)
  refine List.Perm.eq_of_pairwise (le := fun x y => r.idxOf x < r.idxOf y) (fun x y _ _ h1 h2 => by omega) (idx_pw nd) ?_ (h.trans h'.symm)
  refine (idx_pw nd').imp_of_mem fun {x y} hx hy hxy => ?_
  have hx2 := mem_rangeI.mp (h'.mem_iff.mp hx)
  have hy2 := mem_rangeI.mp (h'.mem_iff.mp hy)
  rcases Int.lt_trichotomy x y with z | z | z
  · have := e _ (mem_qs2 hx2.1 z hy2.2)
    unfold aheadB at this
    simp only [fstI, sndI] at this
    have h3 : decide (r.idxOf x < r.idxOf y) = decide (r'.idxOf x < r'.idxOf y) := this
    rw [decide_eq_true hxy] at h3
    exact of_decide_eq_true h3
  · rw [z] at hxy
    exact absurd hxy (Nat.lt_irrefl _)
  · have := e _ (mem_qs2 hy2.1 z hx2.2)
    have h3 : decide (r.idxOf y < r.idxOf x) = decide (r'.idxOf y < r'.idxOf x) := this
    have h4 : ¬ (r.idxOf y < r.idxOf x) := fun q => by
      rw [decide_eq_true q] at h3
      have := of_decide_eq_true h3.symm
      omega
    have hne : r.idxOf x ≠ r.idxOf y := fun q => by
      have mx := h.mem_iff.mpr (h'.mem_iff.mp hx)
      have my := h.mem_iff.mpr (h'.mem_iff.mp hy)
      have a1 := List.getElem_idxOf (List.idxOf_lt_length_iff.mpr mx)
      have a2 := List.getElem_idxOf (List.idxOf_lt_length_iff.mpr my)
      have : x = y := by
        rw [← a1, ← a2]
        congr 1
      omega
    omega
/-! the marked deeds -/
section
variable (ok : List Int → Bool)
def mStep (found : List (List Int)) (row : List Int) : List (List Int) :=
  if (found.any fun part => part.all fun d => decide (d ∈ row)) = true then found else if ok row = true then found ++ [row] else found
theorem mStep_len (found : List (List Int)) (row : List Int) : (mStep ok found row).length ≤ found.length + 1 := by
  unfold mStep
  split
  · omega
  · split
    · rw [List.length_append]
      exact Nat.le_refl _
    · omega
theorem mFold_len : ∀ (rows found : List (List Int)), (rows.foldl (mStep ok) found).length ≤ found.length + rows.length
  | [], found => Nat.le_refl _
  | r :: rows, found => by
    rw [List.foldl_cons, List.length_cons]
    have := mFold_len rows (mStep ok found r)
    have := mStep_len ok found r
    omega
theorem mStep_ne {found : List (List Int)} {row : List Int} (h : found ≠ []) : mStep ok found row ≠ [] := by
  unfold mStep
  split
  · exact h
  · split
    · simp
    · exact h
theorem mFold_ne : ∀ {rows found : List (List Int)}, found ≠ [] → rows.foldl (mStep ok) found ≠ []
  | [], _, h => h
  | r :: rows, _, h => mFold_ne (rows := rows) (mStep_ne ok h)
theorem mFold_some {rows found : List (List Int)} {row : List Int} (h : row ∈ rows) (hok : ok row = true) : rows.foldl (mStep ok) found ≠ [] := by
  induction rows generalizing found with
  | nil => cases h
  | cons r rows ih =>
    rw [List.foldl_cons]
    rcases List.mem_cons.mp h with rfl | h
    · refine mFold_ne ok ?_
      unfold mStep
      split
      · rename_i q
        exact fun z => by rw [z] at q; cases q
      · simp
    · exact ih h
/-- the empty row alone, or never -/
def Emp (found : List (List Int)) : Prop := found = [[]] ∨ [] ∉ found
theorem mStep_emp {found : List (List Int)} {row : List Int} (h : Emp found) (h0 : row = [] → found = []) : Emp (mStep ok found row) := by
  unfold mStep
  rcases h with rfl | h
  · have q : (([[]] : List (List Int)).any fun part => part.all fun d => decide (d ∈ row)) = true := rfl
    rw [if_pos q]
    exact .inl rfl
  · split
    · exact .inr h
    · split
      · by_cases e : row = []
        · rw [h0 e, e]
          exact .inl rfl
        · refine .inr fun z => ?_
          rcases List.mem_append.mp z with z | z
          · exact h z
          · exact e (List.mem_singleton.mp z).symm
      · exact .inr h
theorem mFold_emp : ∀ {rows found : List (List Int)}, Emp found → (∀ r ∈ rows, r ≠ []) → Emp (rows.foldl (mStep ok) found)
  | [], _, h, _ => h
  | r :: rows, _, h, hr => mFold_emp (rows := rows) (mStep_emp ok h fun e => absurd e (hr r List.mem_cons_self)) fun r h => hr r (List.mem_cons_of_mem _ h)
end
def rowsTo (m i : Nat) : List (List Int) := (List.range i).flatMap (risN m)
theorem rowsTo_succ (m i : Nat) : rowsTo m (i + 1) = rowsTo m i ++ risN m i := by
  unfold rowsTo
  rw [List.range_succ, List.flatMap_append, List.flatMap_singleton]
theorem rowsTo_emp (ok : List Int → Bool) (m i : Nat) : Emp ((rowsTo m (i + 1)).foldl (mStep ok) []) := by
  have e : rowsTo m (i + 1) = [] :: (List.range' 1 i).flatMap (risN m) := by
    unfold rowsTo
    rw [List.range_eq_range', List.range'_succ, List.flatMap_cons]
    rfl
  rw [e, List.foldl_cons]
  refine mFold_emp ok (mStep_emp ok (.inr fun z => nomatch z) fun _ => rfl) fun r hr q => ?_
  obtain ⟨j, hj, hr⟩ := List.mem_flatMap.mp hr
  have := (risN_row hr).1
  rw [q] at this
  obtain ⟨x, hx, rfl⟩ := List.mem_range'.mp hj
  have this : (0 : Nat) = 1 + 1 * x := this
  omega
theorem rowsTo_len (m i : Nat) (h : m ≤ 6) (hi : i ≤ 7) : (rowsTo m i).length ≤ 400000 := by
  have key : ∀ i, i ≤ 7 → (rowsTo m i).length ≤ i * 46656 := by
    intro i
    induction i with
    | zero => exact fun _ => Nat.le_refl _
    | succ i ih =>
      intro hi
      have ih := ih (by omega)
      rw [rowsTo_succ, List.length_append, Nat.succ_mul]
      have e1 := risN_len m i
      have e2 : m ^ i ≤ 6 ^ i := Nat.pow_le_pow_left h _
      have e3 : (6 : Nat) ^ i ≤ 6 ^ 6 := Nat.pow_le_pow_right (by omega) (by omega)
      have e5 : (6 : Nat) ^ 6 = 46656 := by decide
      omega
  have := key i hi
  omega
end DL

end

section
namespace DL
open PySem PySem.Spec PyProof.Rows L2

/-! ### what the answers settle -/
def stlB (L : List (List Bool × List Int)) : Bool := L.all fun p => L.all fun q => !decide (p.1 = q.1) || decide (p.2 = q.2)
def Con (L : List (List Bool × List Int)) : Prop := ∀ p ∈ L, ∀ q ∈ L, p.1 = q.1 → p.2 = q.2
theorem stlB_iff (L : List (List Bool × List Int)) : stlB L = true ↔ Con L := by
  unfold stlB Con
  rw [List.all_eq_true]
  refine forall_congr' fun p => forall_congr' fun _ => ?_
  rw [List.all_eq_true]
  refine forall_congr' fun q => forall_congr' fun _ => ?_
  by_cases h : p.1 = q.1 <;> simp [h]
theorem boolsOf_b : ∀ bs : List Bool, boolsOf (bs.map PyData.bool) = some bs
  | [] => rfl
  | b :: bs => by
    show (boolsOf (bs.map PyData.bool)).map (b :: ·) = _
    rw [boolsOf_b bs]
    rfl
@[simp] theorem bkeyD_b (bs : List Bool) : bkeyD (.tuple (bs.map PyData.bool)) = some bs := boolsOf_b bs
theorem look_put (kvs : List (List Bool × D)) (bs bs' : List Bool) (d : D) : lookB (putB kvs bs d) bs' = if bs' = bs then some d else lookB kvs bs' := by
  unfold putB
  split
  · rename_i h
    induction kvs with
    | nil => cases h
    | cons p kvs ih =>
      by_cases e : p.1 = bs
      · rw [List.map_cons, if_pos e]
        by_cases e2 : bs' = bs
        · rw [if_pos e2]
          simp [lookB, List.find?_cons, e, e2]
        · rw [if_neg e2]
          have e3 : ¬ p.1 = bs' := fun z => e2 (z.symm.trans e)
          have e4 : ∀ l : List (List Bool × D), lookB (l.map fun p => if p.1 = bs then (p.1, d) else p) bs' = lookB l bs' := by
            intro l
            induction l with
            | nil => rfl
            | cons q l ih =>
              unfold lookB at ih ⊢
              rw [List.map_cons]
              by_cases z : q.1 = bs
              · rw [if_pos z]
                have z2 : ¬ q.1 = bs' := fun y => e2 (y.symm.trans z)
                simp [List.find?_cons, z2]
                simpa using ih
              · rw [if_neg z]
                by_cases z3 : q.1 = bs'
                · simp [List.find?_cons, z3]
                · simp [List.find?_cons, z3]
                  simpa using ih
          have := e4 kvs
          unfold lookB at this ⊢
          simp [List.find?_cons, e3]
          simpa using this
      · rw [List.map_cons, if_neg e]
        have h2 : (lookB kvs bs).isSome = true := by
          simpa [lookB, List.find?_cons, e] using h
        have ih := ih h2
        by_cases e2 : p.1 = bs'
        · have e3 : ¬ bs' = bs := fun z => e (e2.trans z)
          rw [if_neg e3]
          simp [lookB, List.find?_cons, e2]
        · unfold lookB at ih ⊢
          simp [List.find?_cons, e2]
          simpa using ih
  · rename_i h
    have h : lookB kvs bs = none := by
      cases q : lookB kvs bs with
      | none => rfl
      | some _ => rw [q] at h; exact absurd rfl h
    unfold lookB at h ⊢
    rw [List.find?_append]
    by_cases e2 : bs' = bs
    · subst e2
      rw [if_pos rfl]
      have h : kvs.find? (fun p => decide (p.1 = bs')) = none := Option.map_eq_none_iff.mp h
      rw [h]
      simp
    · rw [if_neg e2]
      have e3 : ¬ bs = bs' := fun z => e2 z.symm
      cases q : kvs.find? (fun p => decide (p.1 = bs')) with
      | some _ => rfl
      | none => simp [List.find?_cons, e3]
theorem put_len (kvs : List (List Bool × D)) (bs : List Bool) (d : D) : (putB kvs bs d).length ≤ kvs.length + 1 := by
  unfold putB
  split
  · rw [List.length_map]
    omega
  · rw [List.length_append]
    exact Nat.le_refl _
/-- what is known behind some rows -/
structure Kn (done : List (List Bool × List Int)) (kvs : List (List Bool × D)) : Prop where
  con : Con done
  look : ∀ bs, (lookB kvs bs = none ∧ ∀ p ∈ done, p.1 ≠ bs) ∨ ∃ p ∈ done, p.1 = bs ∧ lookB kvs bs = some (T p.2)
  len : kvs.length ≤ done.length
theorem kn_nil : Kn [] [] := ⟨(fun _ h => nomatch h), (fun bs => .inl ⟨rfl, (fun _ h => nomatch h)⟩), Nat.le_refl _⟩
theorem kn_put {done : List (List Bool × List Int)} {kvs : List (List Bool × D)} (h : Kn done kvs) {bs : List Bool} {e : List Int} (hc : ∀ p ∈ done, p.1 = bs → p.2 = e) : Kn (done ++ [(bs, e)]) (putB kvs bs (T e)) := by
  refine ⟨fun p hp q hq => ?_, fun b => ?_, ?_⟩
  · rcases List.mem_append.mp hp with z | z
    · rcases List.mem_append.mp hq with y | y
      · exact h.con p z q y
      · rw [List.mem_singleton.mp y]
        exact hc p z
    · rcases List.mem_append.mp hq with y | y
      · rw [List.mem_singleton.mp z]
        exact fun e => (hc q y e.symm).symm
      · rw [List.mem_singleton.mp z, List.mem_singleton.mp y]
        exact fun _ => rfl
  · rw [look_put]
    by_cases e1 : b = bs
    · rw [if_pos e1]
      exact .inr ⟨(bs, e), List.mem_append_right _ List.mem_cons_self, e1.symm, rfl⟩
    · rw [if_neg e1]
      rcases h.look b with ⟨z1, z2⟩ | ⟨p, hp, z1, z2⟩
      · refine .inl ⟨z1, fun p hp => ?_⟩
        rcases List.mem_append.mp hp with z | z
        · exact z2 p z
        · rw [List.mem_singleton.mp z]
          exact fun y => e1 y.symm
      · exact .inr ⟨p, List.mem_append_left _ hp, z1, z2⟩
  · have := put_len kvs bs (T e)
    have := h.len
    rw [List.length_append, List.length_singleton]
    omega
/-- the value that is there, or the new one; the two ways on -/
theorem kn_get {done rest : List (List Bool × List Int)} {kvs : List (List Bool × D)} (h : Kn done kvs) (bs : List Bool) (e : List Int) :
    ((lookB kvs bs).getD (T e) = T e ∧ ∀ p ∈ done, p.1 = bs → p.2 = e) ∨ ∃ e', e' ≠ e ∧ (lookB kvs bs).getD (T e) = T e' ∧ ¬ Con (done ++ (bs, e) :: rest) := by
  rcases h.look bs with ⟨z1, z2⟩ | ⟨p, hp, z1, z2⟩
  · rw [z1]
    exact .inl ⟨rfl, fun p hp q => absurd q (z2 p hp)⟩
  · rw [z2]
    by_cases q : p.2 = e
    · rw [q]
      exact .inl ⟨rfl, fun p' hp' q' => (h.con p' hp' p hp (q'.trans z1.symm)).trans q⟩
    · refine .inr ⟨p.2, q, rfl, fun hc => q ?_⟩
      exact hc p (List.mem_append_left _ hp) (bs, e) (List.mem_append_right _ List.mem_cons_self) z1
def d_need_some : DS := (.seq (.ife (.op1 .notNone (.bv 1)) (.seq (.ex (.call "need_states" (.cons (.op2 .idx (.bv 0) (.c (.int 0))) (.cons (.bv 1) .nil)) 0)) .skip) .skip) .skip)
def d_need_few : DS := (.seq (.ife (.op2 .gt (.op1 .len (.op2 .idx (.bv 0) (.c (.int 1)))) (.bv 1)) (.seq .never .skip) .skip) .skip)
def is_lot_1 : DE := (.op2 .lt (.bv 3) (.bv 4))
def is_lot_2 : DS := (.seq (.ret (.and (.call "ascends" (.cons (.bv 1) .nil) 0) (.op1 .all (.lc [3, 4] (.bv 1) (.c (.bool true)) is_lot_1 [3, 4])))) .skip)
def is_lot_3 : DE := (.call "is_pair" (.cons (.bv 2) (.cons (.op1 .len (.op2 .idx (.bv 0) (.c (.int 1)))) .nil)) 0)
def d_is_lot : DS := (.seq (.ife (.or (.not (.op1 .isTup (.bv 1))) (.not (.op1 .all (.lc [2] (.bv 1) (.c (.bool true)) is_lot_3 [2])))) (.seq (.ret (.c (.bool false))) .skip) .skip) is_lot_2)
def ends_of_all_1 : DE := (.call "ends_with" (.cons (.bv 0) (.cons (.bv 3) (.cons (.bv 2) .nil))) 0)
def d_ends_of_all : DS := (.seq (.ret (.lc [3] (.bv 1) (.c (.bool true)) ends_of_all_1 [3])) .skip)
def settles_all_1 : DS := (.seq (.ret (.c (.bool true))) .skip)
def settles_all_2 : DS := (.seq (.bset 3 (.var 6) (.var 5)) .skip)
def settles_all_3 : DS := (.seq (.ife (.op2 .ne (.bget 3 (.var 6) (.var 5)) (.bv 5)) (.seq (.ret (.c (.bool false))) .skip) .skip) settles_all_2)
def settles_all_4 : DE := (.call "is_ahead" (.cons (.bv 4) (.cons (.bv 7) (.cons (.bv 8) .nil))) 0)
def settles_all_5 : DS := (.seq (.asg 6 (.op1 .tupOf (.lc [7, 8] (.bv 2) (.c (.bool true)) settles_all_4 [7, 8]))) settles_all_3)
def d_settles_all : DS := (.seq (.dnew 3) (.seq (.for' [4, 5] (.zip (.var 0) (.var 1)) settles_all_5) settles_all_1))
def d_need_askable : DS := (.seq (.ex (.call "need_bundle" (.cons (.bv 0) .nil) 0)) (.seq (.ex (.call "need_some" (.cons (.bv 0) (.cons (.bv 1) .nil)) 0)) (.seq (.ex (.call "need_few" (.cons (.bv 0) (.cons (.gl "MOST_ASKED") .nil)) 0)) .skip)))
def settles_1 : DS := (.seq (.ex (.call "need_some" (.cons (.bv 0) (.cons (.bv 2) .nil)) 0)) (.seq (.ex (.call "need_few" (.cons (.bv 0) (.cons (.gl "MOST_ASKED") .nil)) 0)) (.seq (.asg 3 (.call "all_orders" (.cons (.bv 0) .nil) 0)) (.seq (.ret (.call "settles_all" (.cons (.bv 3) (.cons (.call "ends_of_all" (.cons (.bv 0) (.cons (.bv 3) (.cons (.bv 2) .nil))) 0) (.cons (.bv 1) .nil))) 0)) .skip))))
def d_settles : DS := (.seq (.ex (.call "need_bundle" (.cons (.bv 0) .nil) 0)) (.seq (.ife (.not (.call "is_lot" (.cons (.bv 0) (.cons (.bv 1) .nil)) 0)) (.seq (.raise "InvalidLot") .skip) .skip) settles_1))
def least_marked_1 : DS := (.seq (.ret (.op1 .sorted (.bv 5))) .skip)
def least_marked_2 : DS := (.seq (.ife (.and (.not (.var 8)) (.call "settles_all" (.cons (.bv 4) (.cons (.bv 2) (.cons (.bv 7) .nil))) 0)) (.seq (.app 5 (.var 6)) .skip) .skip) .skip)
def least_marked_3 : DE := (.op2 .inn (.bv 12) (.bv 6))
def least_marked_4 : DE := (.op1 .all (.lc [12] (.bv 11) (.c (.bool true)) least_marked_3 [12]))
def least_marked_5 : DS := (.seq (.asg 8 (.op1 .any (.lc [11] (.bv 5) (.c (.bool true)) least_marked_4 [11]))) least_marked_2)
def least_marked_6 : DE := (.and (.op2 .inn (.bv 9) (.bv 6)) (.op2 .inn (.bv 10) (.bv 6)))
def least_marked_7 : DE := (.tup (.cons (.var 9) (.cons (.var 10) .nil)))
def least_marked_8 : DS := (.seq (.asg 7 (.lc [9, 10] (.call "all_questions" (.cons (.op1 .len (.op2 .idx (.bv 0) (.c (.int 1)))) .nil) 0) least_marked_6 least_marked_7 [9, 10])) least_marked_5)
def least_marked_9 : DS := (.seq (.for' [6] (.call "rising" (.cons (.op1 .len (.op2 .idx (.bv 0) (.c (.int 1)))) (.cons (.bv 3) .nil)) 0) least_marked_8) .skip)
def d_least_marked : DS := (.seq (.ex (.call "need_askable" (.cons (.bv 0) (.cons (.bv 1) .nil)) 0)) (.seq (.parN [4] (.cons (.call "all_orders" (.cons (.bv 0) .nil) 0) .nil) 5) (.seq (.asg 2 (.call "ends_of_all" (.cons (.bv 0) (.cons (.bv 4) (.cons (.bv 1) .nil))) 0)) (.seq (.for' [3] (.rng1 (.op2 .add (.op1 .len (.op2 .idx (.bv 0) (.c (.int 1)))) (.c (.int 1)))) least_marked_9) least_marked_1))))
def law_states_1 : DE := (.call "_law_take" (.cons (.bv 0) (.cons (.bv 1) .nil)) 0)
def d_law_states : DS := (.seq (.ret (.call "_law_of" (.cons (.bv 0) (.cons (.lst (.cons (.c .none) (.cons (.op1 .tupOf (.lc [2] (.rng1 (.op2 .add (.c (.int 1)) (.call "_law_take" (.cons (.bv 0) (.cons (.c (.int 2)) .nil)) 0))) (.c (.bool true)) law_states_1 [2])) .nil))) .nil)) 0)) .skip)
def law_settles_1 : DS := (.seq (.ret (.c (.bool true))) .skip)
def law_settles_2 : DS := (.seq (.bset 4 (.var 6) (.var 7)) .skip)
def law_settles_3 : DS := (.seq (.asg 7 (.call "_law_ends_with" (.cons (.bv 0) (.cons (.bv 5) (.cons (.bv 3) .nil))) 0)) (.seq (.ife (.op2 .ne (.bget 4 (.var 6) (.var 7)) (.bv 7)) (.seq (.ret (.c (.bool false))) .skip) .skip) law_settles_2))
def law_settles_4 : DE := (.call "_law_stands" (.cons (.bv 5) (.cons (.lst (.cons (.var 8) .nil)) .nil)) 0)
def law_settles_5 : DS := (.seq (.asg 6 (.op1 .tupOf (.lc [8] (.bv 2) (.c (.bool true)) law_settles_4 [8]))) law_settles_3)
def d_law_settles : DS := (.seq (.dnew 4) (.seq (.for' [5] (.var 1) law_settles_5) law_settles_1))
def ansB (lot : List (List Int)) (r : List Int) : List Bool := lot.map (aheadB r)
def stRows (B : Bun) (so : Option (List Int)) (lot rs : List (List Int)) : List (List Bool × List Int) := rs.map fun r => (ansB lot r, endsO B so r)
def LotOk (lot : List (List Int)) (m : Nat) : Prop := lot.length ≤ 1000 ∧ ∀ p ∈ lot, ∃ a b, p = [a, b] ∧ (0 ≤ a ∧ a < m) ∧ (0 ≤ b ∧ b < m)
theorem lot_in {B : Bun} {r : List Int} (hr : r ∈ B.ords) {a : Int} (h : 0 ≤ a ∧ a < B.maps.length) : a ∈ r := (mem_orders.mp hr).1.mem_iff.mpr (mem_rangeI.mpr h)
def sp_settles_all : DSp := fun as k _ => ∃ (B : Bun) (so : Option (List Int)) (lot rs : List (List Int)) (c : D), as = [.p (.list (rs.map T)), .p (.list (rs.map fun r => T (endsO B so r))), .p c] ∧ (c = .tuple (lot.map T) ∨ c = .list (lot.map T)) ∧ (∀ r ∈ rs, r ∈ B.ords) ∧ rs.length ≤ 46656 ∧ LotOk lot B.maps.length ∧ k (.bool (stlB (stRows B so lot rs))) []
theorem ok_settles_all {Γ : Gm} (h1 : Γ.fn "is_ahead" = sp_is_ahead) (f1 : Γ.fr "is_ahead" = false) : ∀ as k x, sp_settles_all as k x → semS Γ d_settles_all (dkOf false as k x) (ro0 9 as) := by
  rintro as k x ⟨B, so, lot, rs, c, rfl, hc, hrs, hl, hlot, hk⟩
  have hci : itemsOf c = some (lot.map T) := by rcases hc with rfl | rfl <;> rfl
  simp [d_settles_all, ro0]
  have ez : ((rs.map T).zip (rs.map fun r => T (endsO B so r))).map (fun p => PyData.tuple [p.1, p.2]) = rs.map fun r => PyData.tuple [T r, T (endsO B so r)] := by
    rw [List.zip_map', List.map_map]
    rfl
  rw [ez]
  refine forL_acc (fun r => PyData.tuple [T r, T (endsO B so r)]) rs (fun done ρ => ∃ (kvs : List (List Bool × D)) (s4 s5 s6 : Sl), Kn (stRows B so lot done) kvs ∧ ρ = [.p (.list (rs.map T)), .p (.list (rs.map fun r => T (endsO B so r))), .p c, .o true (.db kvs), s4, s5, s6, .un, .un]) ?_ ⟨[], _, _, _, kn_nil, rfl⟩ ?_
  · rintro done r rest ρ nx e1 ⟨kvs, s4, s5, s6, hkn, rfl⟩ hnx
    have hr : r ∈ B.ords := hrs r (by rw [e1]; exact List.mem_append_right _ List.mem_cons_self)
    simp [-itemsOf, settles_all_5]
    rw [hci]
    dsimp only
    have er : stRows B so lot rs = stRows B so lot done ++ (ansB lot r, endsO B so r) :: stRows B so lot rest := by
      unfold stRows
      rw [e1, List.map_append, List.map_cons]
    refine lcL_typ (ys := lot) T (fun p => .bool (aheadB r p)) (fun _ => true) (fun p acc kk hp hl2 hkk => ?_) (by simp) (by have := hlot.1; rw [sz]; omega) ?_
    · obtain ⟨a, b, rfl, ha, hb⟩ := hlot.2 p hp
      simp [T, settles_all_4, h1, f1, sp_is_ahead]
      exact ⟨r, a, b, ⟨rfl, rfl, rfl⟩, lot_in hr ha, lot_in hr hb, hl2, hkk⟩
    · rw [filter_tt]
      have e2 : (lot.map fun p => PyData.bool (aheadB r p)) = (ansB lot r).map .bool := by unfold ansB; rw [List.map_map]; rfl
      rw [e2]
      have hkl : kvs.length < sizeLine := by
        have h1 := hkn.len
        have h2 := congrArg List.length e1
        rw [List.length_append, List.length_cons] at h2
        unfold stRows at h1
        rw [List.length_map] at h1
        rw [sz]
        omega
      simp [settles_all_3]
      rcases kn_get (rest := stRows B so lot rest) hkn (ansB lot r) (endsO B so r) with ⟨g1, g2⟩ | ⟨e', g1, g2, g3⟩
      · rw [g1]
        have hself : PyData.eqv (T (endsO B so r)) (T (endsO B so r)) = true := eqv_ok (n := 1) okN_T
        rw [if_pos hself]
        simp [settles_all_2]
        refine ⟨hkl, hnx _ ⟨_, _, _, _, ?_, rfl⟩⟩
        have := kn_put hkn g2
        unfold stRows at this ⊢
        rw [List.map_append]
        exact this
      · rw [g2]
        have hne : ¬ PyData.eqv (T e') (T (endsO B so r)) = true := by rw [eqv_T]; simpa using g1
        rw [if_neg hne]
        have : stlB (stRows B so lot rs) = false := by
          rw [← Bool.not_eq_true, stlB_iff, er]
          exact g3
        rw [this] at hk
        exact hk
  · rintro ρ ⟨kvs, s4, s5, s6, hkn, rfl⟩
    simp [settles_all_1]
    rw [(stlB_iff _).mpr hkn.con] at hk
    exact hk
def sp_law_settles : DSp := fun as k _ => ∃ (B : Bun) (so : Option (List Int)) (lot rs : List (List Int)), as = [.p B.d, .p (.list (rs.map T)), .p (.tuple (lot.map T)), .p (soD so)] ∧ BunOk B ∧ SoOk B so ∧ (∀ r ∈ rs, r ∈ B.ords) ∧ rs.length ≤ 46656 ∧ LotOk lot B.maps.length ∧ k (.bool (stlB (stRows B so lot rs))) []
theorem ok_law_settles {Γ : Gm} (h1 : Γ.fn "_law_stands" = sp_stands) (f1 : Γ.fr "_law_stands" = false) (h2 : Γ.fn "_law_ends_with" = sp_law_ends_with) (f2 : Γ.fr "_law_ends_with" = false) : ∀ as k x, sp_law_settles as k x → semS Γ d_law_settles (dkOf false as k x) (ro0 9 as) := by
  rintro as k x ⟨B, so, lot, rs, rfl, hB, hso, hrs, hl, hlot, hk⟩
  simp [d_law_settles, ro0]
  refine forL_acc T rs (fun done ρ => ∃ (kvs : List (List Bool × D)) (s5 s6 s7 : Sl), Kn (stRows B so lot done) kvs ∧ ρ = [.p B.d, .p (.list (rs.map T)), .p (.tuple (lot.map T)), .p (soD so), .o true (.db kvs), s5, s6, s7, .un]) ?_ ⟨[], _, _, _, kn_nil, rfl⟩ ?_
  · rintro done r rest ρ nx e1 ⟨kvs, s5, s6, s7, hkn, rfl⟩ hnx
    have hr : r ∈ B.ords := hrs r (by rw [e1]; exact List.mem_append_right _ List.mem_cons_self)
    simp [law_settles_5]
    have er : stRows B so lot rs = stRows B so lot done ++ (ansB lot r, endsO B so r) :: stRows B so lot rest := by
      unfold stRows
      rw [e1, List.map_append, List.map_cons]
    have hp0 := (mem_orders.mp hr).1
    have hpl := hp0.length_eq
    rw [rangeI_len] at hpl
    have h6 := hB.m6
    refine lcL_typ (ys := lot) T (fun p => .bool (aheadB r p)) (fun _ => true) (fun p acc kk hp hl2 hkk => ?_) (by simp) (by have := hlot.1; rw [sz]; omega) ?_
    · obtain ⟨a, b, rfl, ha, hb⟩ := hlot.2 p hp
      simp [law_settles_4, h1, f1, sp_stands]
      refine ⟨r, [[a, b]], _, ⟨rfl, rfl⟩, .inr rfl, hp0.nodup_iff.mpr (rangeI_nodup _), by omega, by simp, fun q hq => ?_, ?_⟩
      · rw [List.mem_singleton.mp hq]
        exact ⟨a, b, rfl, lot_in hr ha, lot_in hr hb⟩
      · simp at hkk
        simp
        exact ⟨hl2, hkk⟩
    · rw [filter_tt]
      have e2 : (lot.map fun p => PyData.bool (aheadB r p)) = (ansB lot r).map .bool := by unfold ansB; rw [List.map_map]; rfl
      rw [e2]
      have hkl : kvs.length < sizeLine := by
        have h1 := hkn.len
        have h2 := congrArg List.length e1
        rw [List.length_append, List.length_cons] at h2
        unfold stRows at h1
        rw [List.length_map] at h1
        rw [sz]
        omega
      simp [law_settles_3, h2, f2, sp_law_ends_with]
      refine ⟨B, r, so, ⟨rfl, rfl, rfl⟩, hB, ord_row hr, hso, ?_⟩
      rcases kn_get (rest := stRows B so lot rest) hkn (ansB lot r) (endsO B so r) with ⟨g1, g2⟩ | ⟨e', g1, g2, g3⟩
      · rw [g1]
        have hself : PyData.eqv (T (endsO B so r)) (T (endsO B so r)) = true := eqv_ok (n := 1) okN_T
        rw [if_pos hself]
        simp [law_settles_2]
        refine ⟨hkl, hnx _ ⟨_, _, _, _, ?_, rfl⟩⟩
        have := kn_put hkn g2
        unfold stRows at this ⊢
        rw [List.map_append]
        exact this
      · rw [g2]
        have hne : ¬ PyData.eqv (T e') (T (endsO B so r)) = true := by rw [eqv_T]; simpa using g1
        rw [if_neg hne]
        have : stlB (stRows B so lot rs) = false := by
          rw [← Bool.not_eq_true, stlB_iff, er]
          exact g3
        rw [this] at hk
        exact hk
  · rintro ρ ⟨kvs, s5, s6, s7, hkn, rfl⟩
    simp [law_settles_1]
    rw [(stlB_iff _).mpr hkn.con] at hk
    exact hk
def sp_need_some : DSp := fun as k _ => ∃ (B : Bun) (so : Option (List Int)), as = [.p B.d, .p (soD so)] ∧ SoOk B so ∧ k .none []
theorem ok_need_some {Γ : Gm} (h1 : Γ.fn "need_states" = sp_need_states) (f1 : Γ.fr "need_states" = false) : ∀ as k x, sp_need_some as k x → semS Γ d_need_some (dkOf false as k x) (ro0 2 as) := by
  rintro as k x ⟨B, so, rfl, hs, hk⟩
  cases so with
  | none =>
    simp [d_need_some, ro0, soD]
    exact hk
  | some ss =>
    obtain ⟨s1, s4, hs⟩ := hs ss rfl
    simp [d_need_some, ro0, soD, T, h1, f1, sp_need_states, Bun.d, idx0]
    refine ⟨B.n, T ss, ⟨rfl, rfl⟩, fun _ => hk, fun e => ?_⟩
    rw [statesB_T s1 s4 hs] at e
    cases e
def sp_need_few : DSp := fun as k _ => ∃ (B : Bun) (n : Int), as = [.p B.d, .p (.int n)] ∧ (B.maps.length : Int) ≤ n ∧ k .none []
theorem ok_need_few {Γ : Gm} : ∀ as k x, sp_need_few as k x → semS Γ d_need_few (dkOf false as k x) (ro0 2 as) := by
  rintro as k x ⟨B, n, rfl, hn, hk⟩
  simp [d_need_few, ro0, Bun.d, idx1]
  exact ⟨hn, hk⟩
def sp_need_askable : DSp := fun as k _ => ∃ (B : Bun) (so : Option (List Int)), as = [.p B.d, .p (soD so)] ∧ BunOk B ∧ SoOk B so ∧ B.maps.length ≤ 5 ∧ k .none []
theorem ok_need_askable {Γ : Gm} (h1 : Γ.fn "need_bundle" = sp_need_bundle) (f1 : Γ.fr "need_bundle" = false) (h2 : Γ.fn "need_some" = sp_need_some) (f2 : Γ.fr "need_some" = false) (h3 : Γ.fn "need_few" = sp_need_few) (f3 : Γ.fr "need_few" = false) (c1 : Γ.cs "MOST_ASKED" = some (.int 5)) : ∀ as k x, sp_need_askable as k x → semS Γ d_need_askable (dkOf false as k x) (ro0 2 as) := by
  rintro as k x ⟨B, so, rfl, hB, hs, h5, hk⟩
  simp [d_need_askable, ro0, h1, f1, sp_need_bundle, h2, f2, sp_need_some, h3, f3, sp_need_few, c1]
  exact ⟨B, rfl, hB, B, so, ⟨rfl, rfl⟩, hs, B, 5, ⟨rfl, rfl⟩, by omega, hk⟩
def sp_ends_of_all : DSp := fun as k _ => ∃ (B : Bun) (so : Option (List Int)) (rs : List (List Int)), as = [.p B.d, .p (.list (rs.map T)), .p (soD so)] ∧ BunOk B ∧ SoOk B so ∧ (∀ r ∈ rs, OkRow B r) ∧ rs.length ≤ 46656 ∧ k (.list (rs.map fun r => T (endsO B so r))) []
theorem ok_ends_of_all {Γ : Gm} (h1 : Γ.fn "ends_with" = sp_ends_with) (f1 : Γ.fr "ends_with" = false) : ∀ as k x, sp_ends_of_all as k x → semS Γ d_ends_of_all (dkOf false as k x) (ro0 4 as) := by
  rintro as k x ⟨B, so, rs, rfl, hB, hs, hr, hl, hk⟩
  simp [d_ends_of_all, ro0]
  refine lcL_typ T (fun r => T (endsO B so r)) (fun _ => true) (fun r acc kk hrm hl hkk => ?_) (by simp) (by rw [sz]; omega) ?_
  · simp [ends_of_all_1, h1, f1, sp_ends_with]
    exact ⟨B, r, so, ⟨rfl, rfl, rfl⟩, hB, hr r hrm, hs, hl, hkk⟩
  · rw [filter_tt]
    exact hk
def toRow : D → List Int
  | .tuple ds => ds.map toI
  | _ => []
theorem toRow_T (r : List Int) : toRow (T r) = r := by
  show (r.map PyData.int).map toI = r
  rw [List.map_map]
  exact List.map_id r
def lotB (m : Int) (v : D) : Bool := match v with
  | .tuple ds => ds.all (pairB m) && (ascB (ds.map toRow) && (ds.map toRow).all fun p => decide (fstI p < sndI p))
  | _ => false
def sp_is_lot : DSp := fun as k _ => ∃ (B : Bun) (v : D), as = [.p B.d, .p v] ∧ (∀ ds, v = .tuple ds → ds.length ≤ 1000) ∧ k (.bool (lotB B.maps.length v)) []
theorem ok_is_lot {Γ : Gm} (h1 : Γ.fn "is_pair" = sp_is_pair) (f1 : Γ.fr "is_pair" = false) (h2 : Γ.fn "ascends" = sp_ascends) (f2 : Γ.fr "ascends" = false) : ∀ as k x, sp_is_lot as k x → semS Γ d_is_lot (dkOf false as k x) (ro0 5 as) := by
  rintro as k x ⟨B, v, rfl, hl, hk⟩
  cases v <;> simp [d_is_lot, ro0] <;> first | exact hk | skip
  rename_i ds
  have hl := hl ds rfl
  refine lcL_map (fun d => .bool (pairB B.maps.length d)) (fun _ => true) (fun y acc kk hy hl hkk => ?_) (by simp) (by rw [sz]; omega) ?_
  · simp [is_lot_3, h1, f1, sp_is_pair, Bun.d, idx1]
    exact ⟨y, _, ⟨rfl, rfl⟩, hl, hkk⟩
  · rw [filter_tt]
    refine all_map (k := fun b => if (!b) = true then k (.bool false) [] else semS Γ is_lot_2 _ _) ?_
    have e : lotB B.maps.length (.tuple ds) = (ds.all (pairB B.maps.length) && (ascB (ds.map toRow) && (ds.map toRow).all fun p => decide (fstI p < sndI p))) := rfl
    rw [e] at hk
    cases q : ds.all (pairB B.maps.length)
    · rw [q] at hk
      simpa using hk
    · rw [q] at hk
      obtain ⟨ps, rfl, hps⟩ := pairs_of q
      have e3 : (ps.map T).map toRow = ps := by
        rw [List.map_map]
        refine (List.map_congr_left (g := id) fun p _ => toRow_T p).trans (List.map_id _)
      rw [e3] at hk
      rw [List.length_map] at hl
      simp [is_lot_2, h2, f2, sp_ascends]
      refine ⟨ps, rfl, by omega, ?_⟩
      split
      · rename_i ea
        rw [ea] at hk
        refine lcL_typ (ys := ps) T (fun p => .bool (decide (fstI p < sndI p))) (fun _ => true) (fun p acc kk hp hl2 hkk => ?_) (by simp) (by rw [sz]; omega) ?_
        · obtain ⟨a, b, rfl, _, _⟩ := hps p hp
          simp [T, is_lot_1]
          exact ⟨hl2, hkk⟩
        · rw [filter_tt]
          exact all_typ (k := fun b => k (.bool b) []) hk
      · rename_i ea
        rw [Bool.not_eq_true] at ea
        rw [ea] at hk
        exact hk
def sp_settles : DSp := fun as k x => ∃ (B : Bun) (v : D) (so : Option (List Int)), as = [.p B.d, .p v, .p (soD so)] ∧ BunOk B ∧ SoOk B so ∧ B.maps.length ≤ 5 ∧ (∀ ds, v = .tuple ds → ds.length ≤ 1000) ∧ (lotB B.maps.length v = false → x ⟨"InvalidLot", none⟩) ∧ (lotB B.maps.length v = true → ∀ lot, v = .tuple (lot.map T) → LotOk lot B.maps.length → k (.bool (stlB (stRows B so lot B.ords))) [])
theorem lotB_of {m : Nat} {v : D} (hl : ∀ ds, v = .tuple ds → ds.length ≤ 1000) (h : lotB m v = true) : ∃ lot, v = .tuple (lot.map T) ∧ LotOk lot m := by
  cases v <;> first | (cases h; done) | skip
  rename_i ds
  have h : (ds.all (pairB m) && (ascB (ds.map toRow) && (ds.map toRow).all fun p => decide (fstI p < sndI p))) = true := h
  rw [Bool.and_eq_true] at h
  obtain ⟨ps, rfl, q⟩ := pairs_of h.1
  refine ⟨ps, rfl, ?_, q⟩
  have := hl _ rfl
  rw [List.length_map] at this
  exact this
theorem ok_settles {Γ : Gm} (h1 : Γ.fn "need_bundle" = sp_need_bundle) (f1 : Γ.fr "need_bundle" = false) (h2 : Γ.fn "is_lot" = sp_is_lot) (f2 : Γ.fr "is_lot" = false) (h3 : Γ.fn "need_some" = sp_need_some) (f3 : Γ.fr "need_some" = false) (h4 : Γ.fn "need_few" = sp_need_few) (f4 : Γ.fr "need_few" = false) (h5 : Γ.fn "all_orders" = sp_all_orders) (f5 : Γ.fr "all_orders" = false) (h6 : Γ.fn "ends_of_all" = sp_ends_of_all) (f6 : Γ.fr "ends_of_all" = false) (h7 : Γ.fn "settles_all" = sp_settles_all) (f7 : Γ.fr "settles_all" = false) (c1 : Γ.cs "MOST_ASKED" = some (.int 5)) :
    ∀ as k x, sp_settles as k x → semS Γ d_settles (dkOf false as k x) (ro0 4 as) := by
  rintro as k x ⟨B, v, so, rfl, hB, hs, h5', hl, hx, hk⟩
  have ol := ords_len B hB
  simp [d_settles, ro0, h1, f1, sp_need_bundle, h2, f2, sp_is_lot]
  refine ⟨B, rfl, hB, B, v, ⟨rfl, rfl⟩, hl, ?_⟩
  cases q : lotB B.maps.length v with
  | false =>
    simp
    exact hx q
  | true =>
    obtain ⟨lot, rfl, hlot⟩ := lotB_of hl q
    simp [settles_1, h3, f3, sp_need_some]
    refine ⟨B, so, ⟨rfl, rfl⟩, hs, ?_⟩
    simp [h4, f4, sp_need_few, c1]
    refine ⟨B, 5, ⟨rfl, rfl⟩, by omega, ?_⟩
    simp [h5, f5, sp_all_orders]
    refine ⟨B, rfl, hB, ?_⟩
    simp [h6, f6, sp_ends_of_all]
    refine ⟨B, so, B.ords, ⟨rfl, rfl, rfl⟩, hB, hs, fun r hr => ord_row hr, ol, ?_⟩
    simp [h7, f7, sp_settles_all]
    exact ⟨B, so, lot, B.ords, _, ⟨rfl, rfl, rfl⟩, .inl rfl, fun r hr => hr, ol, hlot, hk q lot rfl hlot⟩
def lotOf (m : Nat) (row : List Int) : List (List Int) := (qs m).filter fun p => decide (fstI p ∈ row) && decide (sndI p ∈ row)
def okM (B : Bun) (so : Option (List Int)) (row : List Int) : Bool := stlB (stRows B so (lotOf B.maps.length row) B.ords)
def mAll (B : Bun) (so : Option (List Int)) : List (List Int) := (rowsTo B.maps.length (B.maps.length + 1)).foldl (mStep (okM B so)) []
theorem lotOf_ok {m : Nat} (h6 : m ≤ 6) (row : List Int) : LotOk (lotOf m row) m := by
  refine ⟨?_, fun p hp => ?_⟩
  · have h1 := List.length_filter_le (fun p => decide (fstI p ∈ row) && decide (sndI p ∈ row)) (qs m)
    have h2 := qs_len m
    have h3 := Nat.mul_le_mul h6 h6
    unfold lotOf
    omega
  · obtain ⟨a, b, rfl, ha, hb⟩ := mem_qs (List.mem_filter.mp hp).1
    exact ⟨a, b, rfl, mem_rangeI.mp ha, mem_rangeI.mp hb⟩
theorem mFold_mem (ok : List Int → Bool) : ∀ {rows found : List (List Int)} {r : List Int}, r ∈ rows.foldl (mStep ok) found → r ∈ found ∨ r ∈ rows
  | [], _, _, h => .inl h
  | x :: rows, found, r, h => by
    rcases mFold_mem ok (rows := rows) h with z | z
    · unfold mStep at z
      split at z
      · exact .inl z
      · split at z
        · rcases List.mem_append.mp z with z | z
          · exact .inl z
          · exact .inr (by rw [List.mem_singleton.mp z]; exact List.mem_cons_self)
        · exact .inl z
    · exact .inr (List.mem_cons_of_mem _ z)
theorem rowsTo_row {m i : Nat} {r : List Int} (h : r ∈ rowsTo m i) : r.length < i := by
  obtain ⟨j, hj, h⟩ := List.mem_flatMap.mp h
  have := (risN_row h).1
  have := List.mem_range.mp hj
  omega
def sp_least_marked : DSp := fun as k _ => ∃ (B : Bun) (so : Option (List Int)), as = [.p B.d, .p (soD so)] ∧ BunOk B ∧ SoOk B so ∧ B.maps.length ≤ 5 ∧ k (.list ((sortRows (mAll B so)).map T)) []
theorem emp_sort {l : List (List Int)} (h : Emp l) : SortOk (l.map T) := by
  refine sortOk_T fun h2 r hr e => ?_
  rcases h with rfl | h
  · simp at h2
  · exact h (e ▸ hr)
theorem ok_least_marked {Γ : Gm} (h1 : Γ.fn "need_askable" = sp_need_askable) (f1 : Γ.fr "need_askable" = false) (h2 : Γ.fn "all_orders" = sp_all_orders) (f2 : Γ.fr "all_orders" = false) (h3 : Γ.fn "ends_of_all" = sp_ends_of_all) (f3 : Γ.fr "ends_of_all" = false) (h4 : Γ.fn "rising" = sp_rising) (f4 : Γ.fr "rising" = false) (h5 : Γ.fn "all_questions" = sp_all_questions) (f5 : Γ.fr "all_questions" = false) (h6 : Γ.fn "settles_all" = sp_settles_all) (f6 : Γ.fr "settles_all" = false) :
    ∀ as k x, sp_least_marked as k x → semS Γ d_least_marked (dkOf false as k x) (ro0 13 as) := by
  rintro as k x ⟨B, so, rfl, hB, hs, h5', hk⟩
  have ol := ords_len B hB
  have m6 := hB.m6
  simp [d_least_marked, ro0, h1, f1, sp_need_askable, h2, f2, sp_all_orders, h3, f3, sp_ends_of_all]
  refine ⟨B, so, ⟨rfl, rfl⟩, hB, hs, h5', B, rfl, hB, B, so, B.ords, ⟨rfl, rfl, rfl⟩, hB, hs, fun r hr => ord_row hr, ol, ?_⟩
  simp [Bun.d, idx1]
  refine ⟨by omega, ?_⟩
  refine forL_rng (B.maps.length + 1) (fun i ρ => ∃ (s3 s6 s7 s8 : Sl), ρ = [.p B.d, .p (soD so), .p (.list (B.ords.map fun r => T (endsO B so r))), s3, .p (.list (B.ords.map T)), .o true (.ls (((rowsTo B.maps.length i).foldl (mStep (okM B so)) []).map T)), s6, s7, s8, .un, .un, .un, .un]) ?_ ⟨_, _, _, _, rfl⟩ ?_
  · rintro i ρ nx hi ⟨s3, s6, s7, s8, rfl⟩ hnx
    simp [least_marked_9, Bun.d, idx1, h4, f4, sp_rising]
    refine ⟨B.maps.length, i, ⟨rfl, rfl⟩, m6, by omega, ?_⟩
    refine forL_acc T (risN B.maps.length i) (fun done ρ => ∃ (s6 s7 s8 : Sl), ρ = [.p B.d, .p (soD so), .p (.list (B.ords.map fun r => T (endsO B so r))), .p (.int i), .p (.list (B.ords.map T)), .o true (.ls (((rowsTo B.maps.length i ++ done).foldl (mStep (okM B so)) []).map T)), s6, s7, s8, .un, .un, .un, .un]) ?_ ⟨s6, s7, s8, by rw [List.append_nil]; rfl⟩ ?_
    · rintro done row rest ρ nx2 e1 ⟨s6, s7, s8, rfl⟩ hnx2
      have hfl : ((rowsTo B.maps.length i ++ done).foldl (mStep (okM B so)) []).length ≤ 400000 := by
        refine Nat.le_trans (mFold_len _ _ _) ?_
        have h1 := rowsTo_len B.maps.length (i + 1) m6 (by omega)
        rw [rowsTo_succ, e1, List.length_append, List.length_append] at h1
        rw [List.length_append, List.length_nil]
        omega
      rw [show rowsTo B.maps.length i ++ (done ++ [row]) = (rowsTo B.maps.length i ++ done) ++ [row] by rw [List.append_assoc], List.foldl_append] at hnx2
      have hfm : ∀ part ∈ (rowsTo B.maps.length i ++ done).foldl (mStep (okM B so)) [], part.length ≤ 6 := fun part hp => by
        rcases mFold_mem _ hp with z | z
        · cases z
        · have : part ∈ rowsTo B.maps.length (i + 1) := by
            rw [rowsTo_succ, e1]
            rcases List.mem_append.mp z with z | z
            · exact List.mem_append_left _ z
            · exact List.mem_append_right _ (List.mem_append_left _ z)
          have := rowsTo_row this
          omega
      generalize (rowsTo B.maps.length i ++ done).foldl (mStep (okM B so)) [] = found at *
      simp [least_marked_8, Bun.d, idx1, h5, f5, sp_all_questions]
      have hqs : (qs B.maps.length).length ≤ 36 := Nat.le_trans (qs_len _) (Nat.mul_le_mul m6 m6)
      have hrl : row.length ≤ 6 := by
        have := (risN_row (by rw [e1]; exact List.mem_append_right _ List.mem_cons_self : row ∈ risN B.maps.length i)).1
        omega
      refine ⟨B.maps.length, rfl, by omega, ?_⟩
      refine lcL_typ (ys := qs B.maps.length) T T (fun p => decide (fstI p ∈ row) && decide (sndI p ∈ row)) (fun p acc kk hp hl2 hkk => ?_) (by simp) (by rw [sz]; omega) ?_
      · obtain ⟨a, b, rfl, ha, hb⟩ := mem_qs hp
        simp [T, least_marked_6, least_marked_7]
        simp [fstI, sndI, T] at hkk
        by_cases ea : a ∈ row
        · by_cases eb : b ∈ row
          · simp [ea, eb] at hkk ⊢
            exact ⟨hl2, hkk⟩
          · simp [ea, eb] at hkk ⊢
            exact hkk
        · simp [ea] at hkk ⊢
          exact hkk
      · rw [show ((qs B.maps.length).filter fun p => decide (fstI p ∈ row) && decide (sndI p ∈ row)) = lotOf B.maps.length row from rfl]
        have hlo := lotOf_ok m6 row
        simp [least_marked_5]
        refine lcL_typ (ys := found) T (fun part => .bool (part.all fun d => decide (d ∈ row))) (fun _ => true) (fun part acc kk hp hl2 hkk => ?_) (by simp) (by rw [sz]; omega) ?_
        · simp [T, least_marked_4]
          refine lcL_typ (ys := part) .int (fun d => .bool (decide (d ∈ row))) (fun _ => true) (fun d acc3 kk3 hd hl3 hkk3 => ?_) (by simp) (by have := hfm part hp; rw [sz]; omega) ?_
          · simp [least_marked_3]
            exact ⟨hl3, hkk3⟩
          · rw [filter_tt]
            exact all_typ (k := fun b => acc.length < sizeLine ∧ kk (acc ++ [.bool b]) _) ⟨hl2, hkk⟩
        · rw [filter_tt]
          refine any_typ (f := fun part : List Int => part.all fun d => decide (d ∈ row)) (k := fun b => semS Γ least_marked_2 _ (List.set _ 8 (Sl.p (.bool b)))) ?_
          have hst : [row].foldl (mStep (okM B so)) found = mStep (okM B so) found row := rfl
          rw [hst] at hnx2
          unfold mStep at hnx2
          generalize hless : (found.any fun part => part.all fun d => decide (d ∈ row)) = less at *
          cases less with
          | true =>
            simp [least_marked_2]
            exact hnx2 _ ⟨_, _, _, rfl⟩
          | false =>
            simp [least_marked_2, h6, f6, sp_settles_all]
            refine ⟨B, so, lotOf B.maps.length row, B.ords, _, ⟨rfl, rfl, rfl⟩, .inr rfl, fun r hr => hr, ol, hlo, ?_⟩
            rw [show stlB (stRows B so (lotOf B.maps.length row) B.ords) = okM B so row from rfl]
            cases hok : okM B so row with
            | true =>
              rw [hok] at hnx2
              simp
              exact ⟨by rw [sz]; omega, hnx2 _ ⟨.p (T row), .p (.list ((lotOf B.maps.length row).map T)), .p (.bool false), by simp [Bun.d]⟩⟩
            | false =>
              rw [hok] at hnx2
              simp
              exact hnx2 _ ⟨_, _, _, rfl⟩
    · rintro ρ ⟨s6, s7, s8, rfl⟩
      refine hnx _ ⟨.p (.int i), s6, s7, s8, ?_⟩
      rw [rowsTo_succ]
  · rintro ρ ⟨s3, s6, s7, s8, rfl⟩
    simp [least_marked_1]
    refine ⟨emp_sort (rowsTo_emp _ _ _), ?_⟩
    rw [sortD_T]
    exact hk
def sp_law_states : DSp := fun as k _ => ∃ (c : Ct) (n : Int), as = [.o c, .p (.int n)] ∧ BagC c ∧ 1 ≤ n ∧ n ≤ 4 ∧ ∀ (so : Option (List Int)) (c' : Ct), (∀ ss, so = some ss → 1 ≤ ss.length ∧ ss.length ≤ 4 ∧ ∀ s ∈ ss, 0 ≤ s ∧ s < n) → BagC c' → k (soD so) [c']
theorem ok_law_states {Γ : Gm} (h1 : Γ.fn "_law_take" = sp_take) (f1 : Γ.fr "_law_take" = false) (h2 : Γ.fn "_law_of" = sp_of) (f2 : Γ.fr "_law_of" = false) : ∀ as k x, sp_law_states as k x → semS Γ d_law_states (dkOf false as k x) (ro0 3 as) := by
  rintro as k x ⟨c, n, rfl, hc, n1, n4, hk⟩
  simp [d_law_states, ro0, h1, f1, sp_take]
  refine ⟨c, 2, ⟨rfl, rfl⟩, hc, by omega, by omega, fun m c1 m0 m1 b1 => ⟨⟨by omega, by omega⟩, ?_⟩⟩
  refine lcL_rng (1 + m).toNat (fun q acc ρ => ∃ (c : Ct) (ss : List Int), BagC c ∧ acc = ss.map .int ∧ ss.length = q ∧ (∀ s ∈ ss, 0 ≤ s ∧ s < n) ∧ ρ = [.o false c, .p (.int n), .un]) ?_ ?_ ⟨c1, [], b1, rfl, rfl, (fun _ z => nomatch z), rfl⟩ ?_
  · rintro a acc ρ kk ha ⟨c, ss, hc, rfl, hl, hss, rfl⟩ hkk
    simp [law_states_1, h1, f1, sp_take]
    refine ⟨c, n, ⟨rfl, rfl⟩, hc, by omega, by omega, fun s c3 s0 s1 b3 => ?_⟩
    rw [sz]
    refine ⟨by omega, hkk _ _ ⟨c3, ss ++ [s], b3, by simp, by simp [hl], fun e he => ?_, rfl⟩⟩
    rcases List.mem_append.mp he with z | z
    · exact hss e z
    · rw [List.mem_singleton.mp z]
      exact ⟨s0, s1⟩
  · rintro _ _ _ ⟨c, ss, hc, rfl, hl, hss, rfl⟩
    trivial
  · rintro acc ρ ⟨c, ss, hc, rfl, hl, hss, rfl⟩
    simp [h2, f2, sp_of]
    refine ⟨c, _, ⟨rfl, rfl⟩, hc, by simp, by simp, fun d c2 hd b2 => ?_⟩
    simp at hd
    rcases hd with rfl | rfl
    · exact hk none c2 (fun ss e => by cases e) b2
    · exact hk (some ss) c2 (fun ss' e => by cases e; exact ⟨by omega, by omega, hss⟩) b2
end DL

end

section
namespace DL
open PySem PySem.Spec PyProof.Rows L2

/-- a slot that is no list of one's own -/
def NoO (s : Sl) : Prop := s = .un ∨ ∃ d, s = .p d
theorem NoO.no {s : Sl} (h : NoO s) : (match some s with | some (.o _ _) => false | _ => true) = true := by
  rcases h with rfl | ⟨d, rfl⟩ <;> rfl
theorem NoO.no2 {s : Sl} (h : NoO s) : (match s with | .o _ _ => false | _ => true) = true := by
  rcases h with rfl | ⟨d, rfl⟩ <;> rfl
theorem NoO.un : NoO .un := .inl rfl
theorem NoO.p {d : D} : NoO (.p d) := .inr ⟨d, rfl⟩
end DL

end

section
namespace DL
open PySem PySem.Spec PyProof.Rows L2

/-! ### values of any kind: of some depth, of some width -/
inductive Wid : Nat → D → Prop
  | none {n} : Wid n .none
  | bool {n b} : Wid n (.bool b)
  | int {n i} : Wid n (.int i)
  | str {n x} : Wid n (.str x)
  | list {n l} : l.length ≤ 1000 → (∀ d ∈ l, Wid n d) → Wid (n + 1) (.list l)
  | tuple {n l} : l.length ≤ 1000 → (∀ d ∈ l, Wid n d) → Wid (n + 1) (.tuple l)
theorem Wid.ok {n : Nat} {d : D} (h : Wid n d) : OkN n d := by
  induction h with
  | none => exact .none
  | bool => exact .bool
  | int => exact .int
  | str => exact .str
  | list _ _ ih => exact .list ih
  | tuple _ _ ih => exact .tuple ih
theorem Wid.up {n m : Nat} {d : D} (h : Wid n d) (q : n ≤ m) : Wid m d := by
  induction h generalizing m with
  | none => exact .none
  | bool => exact .bool
  | int => exact .int
  | str => exact .str
  | list l _ ih => cases m with
    | zero => omega
    | succ m => exact .list l fun d hd => ih d hd (by omega)
  | tuple l _ ih => cases m with
    | zero => omega
    | succ m => exact .tuple l fun d hd => ih d hd (by omega)
theorem Wid.items {n : Nat} {ds : List D} (h : Wid n (.tuple ds)) : ds.length ≤ 1000 ∧ ∀ d ∈ ds, Wid (n - 1) d := by
  cases h with
  | tuple l h => exact ⟨l, h⟩
def bunP (i : Int) (ds ks : List D) : Bool := decide (ds.length ≤ 6) && (ds.all (mapB i) && (ks.all (pairB ds.length) && (ascB (ks.map toRow) && !(ordersOf ds.length (ks.map toRow)).isEmpty)))
def bun3 (s : D) : D → D → Bool
  | .tuple ds, .tuple ks => intB s 1 4 && bunP (toI s) ds ks
  | _, _ => false
def bunV : D → Bool
  | .tuple [s, d, k] => bun3 s d k
  | _ => false
def v_is_bundle_1 : DS := (.seq (.ret (.and (.call "ascends" (.cons (.bv 3) .nil) 0) (.op2 .ne (.call "orders_of" (.cons (.op1 .len (.bv 2)) (.cons (.bv 3) .nil)) 0) (.lst .nil)))) .skip)
def v_is_bundle_2 : DE := (.call "is_pair" (.cons (.bv 5) (.cons (.op1 .len (.bv 2)) .nil)) 0)
def v_is_bundle_3 : DS := (.seq (.ife (.or (.not (.op1 .isTup (.bv 3))) (.not (.op1 .all (.lc [5] (.bv 3) (.c (.bool true)) v_is_bundle_2 [5])))) (.seq (.ret (.c (.bool false))) .skip) .skip) v_is_bundle_1)
def v_is_bundle_4 : DE := (.call "is_map" (.cons (.bv 1) (.cons (.bv 4) .nil)) 0)
def v_is_bundle_5 : DS := (.seq (.tupa [1, 2, 3] (.var 0)) (.seq (.ife (.or (.not (.op1 .isTup (.bv 2))) (.or (.op2 .gt (.op1 .len (.bv 2)) (.gl "MOST_DEEDS")) (.not (.op1 .all (.lc [4] (.bv 2) (.c (.bool true)) v_is_bundle_4 [4]))))) (.seq (.ret (.c (.bool false))) .skip) .skip) v_is_bundle_3))
def v_d_is_bundle : DS := (.seq (.ife (.or (.not (.op1 .isTup (.bv 0))) (.or (.op2 .ne (.op1 .len (.bv 0)) (.c (.int 3))) (.not (.call "is_integer" (.cons (.op2 .idx (.bv 0) (.c (.int 0))) (.cons (.c (.int 1)) (.cons (.gl "MOST_SIZE") .nil))) 0)))) (.seq (.ret (.c (.bool false))) .skip) .skip) v_is_bundle_5)
def v_is_order_of_1 : DS := (.seq (.ret (.op2 .inn (.bv 1) (.call "all_orders" (.cons (.bv 0) .nil) 0))) .skip)
def v_is_order_of_2 : DE := (.call "is_integer" (.cons (.bv 2) (.cons (.c (.int 0)) (.cons (.op2 .sub (.op1 .len (.op2 .idx (.bv 0) (.c (.int 1)))) (.c (.int 1))) .nil))) 0)
def v_d_is_order_of : DS := (.seq (.ife (.or (.not (.op1 .isTup (.bv 1))) (.not (.op1 .all (.lc [2] (.bv 1) (.c (.bool true)) v_is_order_of_2 [2])))) (.seq (.ret (.c (.bool false))) .skip) .skip) v_is_order_of_1)
def v_d_is_order : DS := (.seq (.ex (.call "need_bundle" (.cons (.bv 0) .nil) 0)) (.seq (.ret (.call "is_order_of" (.cons (.bv 0) (.cons (.bv 1) .nil)) 0)) .skip))
def v_law_orders_1 : DE := (.call "_law_stands" (.cons (.bv 1) (.cons (.op2 .idx (.bv 0) (.c (.int 2))) .nil)) 0)
def v_d_law_orders : DS := (.seq (.ret (.lc [1] (.call "_law_rows" (.cons (.op1 .len (.op2 .idx (.bv 0) (.c (.int 1)))) .nil) 0) v_law_orders_1 (.var 1) [1])) .skip)
theorem mapsV_of {n : Int} : ∀ {ds : List D}, ds.all (mapB n) = true → ∃ ms : List (List Int), ds = ms.map T ∧ ∀ m ∈ ms, MapZ n m
  | [], _ => ⟨[], rfl, fun _ z => nomatch z⟩
  | d :: ds, h => by
    rw [List.all_cons, Bool.and_eq_true] at h
    obtain ⟨ms, rfl, hm⟩ := mapsV_of h.2
    obtain ⟨m, rfl, h1⟩ : ∃ m : List Int, d = T m ∧ MapZ n m := by
      have h1 := h.1
      cases d <;> first | (cases h1; done) | skip
      rename_i l
      have h1 : (decide ((l.length : Int) = n) && l.all fun d => intB d 0 (n - 1)) = true := h1
      rw [Bool.and_eq_true, decide_eq_true_eq, List.all_eq_true] at h1
      have hl : l = (l.map toI).map .int := by
        rw [List.map_map]
        refine ((List.map_congr_left (g := id) fun d hd => ?_).trans (List.map_id _)).symm
        have := h1.2 d hd
        cases d <;> first | (cases this; done) | rfl
      refine ⟨l.map toI, by unfold T; rw [← hl], by rw [List.length_map]; exact h1.1, fun i hi => ?_⟩
      obtain ⟨d, hd, rfl⟩ := List.mem_map.mp hi
      have := h1.2 d hd
      cases d <;> first | (cases this; done) | skip
      rename_i j
      rw [intB_int, Bool.and_eq_true, decide_eq_true_eq, decide_eq_true_eq] at this
      show 0 ≤ j ∧ j < n
      omega
    refine ⟨m :: ms, rfl, fun q hq => ?_⟩
    rcases List.mem_cons.mp hq with e | z
    · rw [e]; exact h1
    · exact hm q z
theorem rows_back (ps : List (List Int)) : (ps.map T).map toRow = ps := by
  rw [List.map_map]
  exact (List.map_congr_left (g := id) fun p _ => toRow_T p).trans (List.map_id _)
def sp_is_bundleV : DSp := fun as k _ => ∃ (v : D) (n : Nat), as = [.p v] ∧ Wid n v ∧ k (.bool (bunV v)) []
theorem ok_is_bundleV {Γ : Gm} (h1 : Γ.fn "is_integer" = sp_is_integer) (f1 : Γ.fr "is_integer" = false) (h2 : Γ.fn "is_map" = sp_is_map) (f2 : Γ.fr "is_map" = false) (h3 : Γ.fn "is_pair" = sp_is_pair) (f3 : Γ.fr "is_pair" = false) (h4 : Γ.fn "ascends" = sp_ascends) (f4 : Γ.fr "ascends" = false) (h5 : Γ.fn "orders_of" = sp_orders_of) (f5 : Γ.fr "orders_of" = false) (c1 : Γ.cs "MOST_SIZE" = some (.int 4)) (c2 : Γ.cs "MOST_DEEDS" = some (.int 6)) :
    ∀ as k x, sp_is_bundleV as k x → semS Γ v_d_is_bundle (dkOf false as k x) (ro0 6 as) := by
  rintro as k x ⟨v, n, rfl, hw, hk⟩
  cases v <;> simp [v_d_is_bundle, ro0] <;> first | exact hk | skip
  rename_i l
  by_cases h : l.length = 3
  · match l, h with
    | [s, ds, ks], hh =>
      obtain ⟨wlen, wi⟩ := hw.items
      have wd := wi ds (by simp)
      have wk := wi ks (by simp)
      clear wlen wi hw hh
      simp [idx0, h1, f1, sp_is_integer, c1]
      refine ⟨_, _, _, ⟨rfl, rfl, rfl⟩, ?_⟩
      cases hs : intB s 1 4 with
      | false =>
        have : bunV (.tuple [s, ds, ks]) = false := by
          show bun3 s ds ks = false
          cases ds <;> first | rfl | skip
          cases ks <;> first | rfl | skip
          simp [bun3, hs]
        rw [this] at hk
        simp
        exact hk
      | true =>
        obtain ⟨i, rfl, i1, i4⟩ : ∃ i, s = .int i ∧ 1 ≤ i ∧ i ≤ 4 := by
          cases s <;> first | (cases hs; done) | skip
          rw [intB_int, Bool.and_eq_true, decide_eq_true_eq, decide_eq_true_eq] at hs
          exact ⟨_, rfl, hs⟩
        replace hk : k (.bool (bun3 (.int i) ds ks)) [] := hk
        simp [v_is_bundle_5]
        cases ds <;> simp [c2] <;> first | exact hk | skip
        rename_i dl
        have wdl := wd.items
        by_cases hl6 : dl.length ≤ 6
        · rw [if_neg (by omega)]
          refine lcL_map (fun d => .bool (mapB i d)) (fun _ => true) (fun y acc kk hy hl hkk => ?_) (by simp) (by rw [sz]; omega) ?_
          · simp [v_is_bundle_4, h2, f2, sp_is_map]
            exact ⟨i, y, ⟨rfl, rfl⟩, by omega, hl, hkk⟩
          · rw [filter_tt]
            refine all_map (k := fun b => if (!b) = true then k (.bool false) [] else semS Γ v_is_bundle_3 _ _) ?_
            cases hm : dl.all (mapB i) with
            | false =>
              have : bun3 (.int i) (.tuple dl) ks = false := by
                cases ks <;> first | rfl | skip
                simp [bun3, bunP, toI, hm]
              rw [this] at hk
              exact hk
            | true =>
              rw [if_neg (by decide)]
              simp [v_is_bundle_3]
              cases ks <;> simp <;> first | exact hk | skip
              rename_i kl
              have wkl := wk.items
              refine lcL_map (fun d => .bool (pairB dl.length d)) (fun _ => true) (fun y acc kk hy hl hkk => ?_) (by simp) (by rw [sz]; omega) ?_
              · simp [v_is_bundle_2, h3, f3, sp_is_pair]
                exact ⟨y, _, ⟨rfl, rfl⟩, hl, hkk⟩
              · rw [filter_tt]
                refine all_map (k := fun b => if (!b) = true then k (.bool false) [] else semS Γ v_is_bundle_1 _ _) ?_
                have e0 : bun3 (.int i) (.tuple dl) (.tuple kl) = (kl.all (pairB dl.length) && (ascB (kl.map toRow) && !(ordersOf dl.length (kl.map toRow)).isEmpty)) := by
                  have h4 : intB (.int i) 1 4 = true := hs
                  simp [bun3, bunP, toI, hm, hl6]
                  omega
                rw [e0] at hk
                cases hp : kl.all (pairB dl.length) with
                | false =>
                  rw [hp] at hk
                  exact hk
                | true =>
                  rw [hp] at hk
                  obtain ⟨ps, rfl, hps⟩ := pairs_of hp
                  rw [rows_back] at hk
                  rw [if_neg (by decide)]
                  have hpl := wkl.1
                  rw [List.length_map] at hpl
                  simp [v_is_bundle_1, h4, f4, sp_ascends]
                  refine ⟨ps, rfl, by omega, ?_⟩
                  cases ha : ascB ps with
                  | false =>
                    rw [ha] at hk
                    exact hk
                  | true =>
                    rw [ha] at hk
                    simp [h5, f5, sp_orders_of]
                    refine ⟨dl.length, ps, ⟨rfl, rfl⟩, hl6, by omega, fun p hp => ?_, ?_⟩
                    · obtain ⟨a, b, e, _⟩ := hps p hp
                      exact ⟨a, b, e⟩
                    · simpa using hk
        · rw [if_pos (by omega)]
          have : bun3 (.int i) (.tuple dl) ks = false := by
            cases ks <;> first | rfl | skip
            simp [bun3, bunP, toI, hl6]
          rw [this] at hk
          exact hk
  · have h' : ¬ (l.length : Int) = 3 := by omega
    rw [if_neg h']
    have : bunV (.tuple l) = false := by
      match l, h with
      | [], _ => rfl
      | [_], _ => rfl
      | [_, _], _ => rfl
      | [_, _, _], h => exact absurd rfl h
      | _ :: _ :: _ :: _ :: _, _ => rfl
    rw [this] at hk
    exact hk
end DL

end

section
namespace DL
open PySem PySem.Spec PyProof.Rows L2
/-! ### defs that call themselves -/
/-- one def's contract is another one -/
def Gm.at (Γ : Gm) (x : Str) (sp : DSp) : Gm := ⟨fun y => bif y == x then sp else Γ.fn y, Γ.fr, Γ.cs, Γ.xs, Γ.sb⟩
theorem Gm.at_same (Γ : Gm) (x : Str) (sp : DSp) : (Γ.at x sp).fn x = sp := by
  show (bif x == x then sp else Γ.fn x) = sp
  rw [beq_self_eq_true]
  rfl
theorem FnReg.to {S : Sx} {Γ Γ' : Gm} {x : Str} {d : Nat} (h : FnReg S Γ x d) (e1 : Γ'.fn x = Γ.fn x) (e2 : Γ'.fr x = Γ.fr x) : FnReg S Γ' x d := by
  unfold FnReg
  rw [e1, e2]
  exact h
theorem COk.atG {c : CE} {S : Sx} {Γ : Gm} {x : Str} {sp : DSp} (h : COk ⟨c.N, c.sc, c.fn, [], c.frs, c.fre, c.cst, c.xcs, c.hds⟩ S Γ) (fns : ∀ q ∈ c.fns, FnReg S (Γ.at x sp) q.1 q.2) : COk c S (Γ.at x sp) :=
  ⟨h.nd, fns, h.frs, h.fre, h.cst, h.fn, h.xcs, h.hds⟩
theorem regR {P : Program} {w : World} {K : PySem.W.Frag} {mg : Str → Option Value} {base : Heap} {x qual : Str} {params : Arguments} {scope : Scope} {f : Addr} {fd : FuncData} {N ps : List Str} {k : Nat} {Γ : Gm} {ds : DS} {c : CE} {body : List Stmt} {fr : Bool} (sp : Nat → DSp) (J : Nat)
    (F : FunD K x qual params body scope [] [] f fd) (Sc : FnScope N ps scope) (ck : kSs c ds body = true) (cN : c.N = N) (cs : c.sc = scope)
    (ok : ∀ j, FnReg ⟨P, w, K, mg, base, k + j, fun _ => true⟩ (Γ.at x (sp j)) x 0 → COk c ⟨P, w, K, mg, base, k + j, fun _ => true⟩ (Γ.at x (sp j))) (hfn : Γ.fn x = sp J) (hfr : Γ.fr x = fr)
    (ar : ∀ j as k x, sp j as k x → as.length = ps.length) (h0 : ∀ as k x, ¬ sp 0 as k x) (law : ∀ j, ∀ as k y, sp (j + 1) as k y → semS (Γ.at x (sp j)) ds (dkOf fr as k y) (ro0 N.length as)) (hm : mg x = some (.ref f)) (hb : Binds K fd ps []) :
    FnOk P w K mg base (L2.CX P w) (k + J) f fd ps (liftSp K mg fr ps.length (sp J)) ∧ ∀ lv, k + J ≤ lv → FnReg ⟨P, w, K, mg, base, lv, fun _ => true⟩ Γ x 0 := by
  subst cN cs
  have R : ∀ j, FnOk P w K mg base (L2.CX P w) (k + j) f fd ps (liftSp K mg fr ps.length (sp j)) := by
    intro j
    induction j with
    | zero =>
      refine ⟨fun vs H Q E h => h.choose_spec.choose_spec.1, fun A outer s H args us vs Q E _ _ _ _ h => ?_⟩
      obtain ⟨_, _, _, _, _, _, _, _, h, _⟩ := h
      exact (h0 _ _ _ h).elim
    | succ j ih =>
      refine fn_ok F Sc (fun W => kSs_ok ds ck _ (Γ.at x (sp j)) W (ok j ⟨f, fd, ps, [], k + j, ?_, Nat.le_refl _, hm, F.kp, hb, .nil, ?_⟩)) (ar (j + 1)) (law j)
      · rw [Gm.at_same]
        show FnOk _ _ _ _ _ _ _ _ _ _ (liftSp K mg (Γ.fr x) ps.length (sp j))
        rw [hfr]
        exact ih
      · rw [Gm.at_same]
        exact ar j
  refine ⟨R J, fun lv hl => ⟨f, fd, ps, [], k + J, ?_, hl, hm, F.kp, hb, .nil, ?_⟩⟩
  · rw [hfn, hfr]
    exact R J
  · rw [hfn]
    exact ar J
end DL

end

section
namespace DL
open PySem PySem.Spec PyProof.Rows L2
def law_any_value_1 : DS := (.seq (.ret (.op2 .idx (.lst (.cons (.var 3) (.cons (.op1 .tupOf (.bv 3)) (.cons (.op1 .tupOf (.bv 3)) .nil)))) (.op2 .sub (.bv 2) (.c (.int 6))))) .skip)
def law_any_value_2 : DE := (.call "_law_any_value" (.cons (.bv 0) (.cons (.op2 .sub (.bv 1) (.c (.int 1))) .nil)) 0)
def law_any_value_3 : DS := (.seq (.asg 3 (.lc [4] (.rng1 (.call "_law_take" (.cons (.bv 0) (.cons (.c (.int 5)) .nil)) 0)) (.c (.bool true)) law_any_value_2 [4])) law_any_value_1)
def d_law_any_value : DS := (.seq (.asg 2 (.call "_law_take" (.cons (.bv 0) (.cons (.c (.int 9)) .nil)) 0)) (.seq (.ife (.or (.op2 .lt (.bv 2) (.c (.int 6))) (.op2 .eq (.bv 1) (.c (.int 0)))) (.seq (.ret (.call "_law_of" (.cons (.bv 0) (.cons (.lst (.cons (.c (.int 0)) (.cons (.op1 .neg (.c (.int 1))) (.cons (.c (.int 1)) (.cons (.c (.int 2)) (.cons (.c (.bool true)) (.cons (.c (.bool false)) (.cons (.c .none) (.cons (.c (.str "")) (.cons (.c (.str "x")) (.cons (.c (.str "told")) (.cons (.c (.int 3)) (.cons (.c (.int 4)) (.cons (.op2 .pow (.c (.int 10)) (.c (.int 30))) (.cons (.tup .nil) (.cons (.lst .nil) (.cons (.tup (.cons (.c (.int 0)) (.cons (.c (.int 1)) .nil))) (.cons (.tup (.cons (.c (.int 1)) (.cons (.c (.int 0)) .nil))) .nil)))))))))))))))))) .nil)) 0)) .skip) .skip) law_any_value_3))
def law_spoiled_1 : DS := (.seq (.ret (.op2 .add (.op2 .add (.op2 .upto (.bv 1) (.bv 3)) (.tup (.cons (.call "_law_spoiled" (.cons (.bv 0) (.cons (.op2 .idx (.bv 1) (.bv 3)) .nil)) 0) .nil))) (.op2 .from (.bv 1) (.op2 .add (.bv 3) (.c (.int 1)))))) .skip)
def law_spoiled_2 : DS := (.seq (.ife (.op2 .eq (.bv 4) (.c (.int 3))) (.seq (.ret (.op1 .listOf (.bv 1))) .skip) .skip) law_spoiled_1)
def law_spoiled_3 : DS := (.seq (.ife (.op2 .eq (.bv 4) (.c (.int 2))) (.seq (.ret (.op1 .rev (.bv 1))) .skip) .skip) law_spoiled_2)
def law_spoiled_4 : DS := (.seq (.ife (.op2 .eq (.bv 4) (.c (.int 1))) (.seq (.ret (.op2 .add (.op2 .add (.op2 .upto (.bv 1) (.bv 3)) (.op2 .mul (.cut (.bv 1) (.var 3) (.op2 .add (.bv 3) (.c (.int 1)))) (.c (.int 2)))) (.op2 .from (.bv 1) (.op2 .add (.bv 3) (.c (.int 1)))))) .skip) .skip) law_spoiled_3)
def law_spoiled_5 : DS := (.seq (.par [3, 4] (.cons (.call "_law_take" (.cons (.bv 0) (.cons (.op1 .len (.bv 1)) .nil)) 0) (.cons (.call "_law_take" (.cons (.bv 0) (.cons (.c (.int 7)) .nil)) 0) .nil))) (.seq (.ife (.op2 .eq (.bv 4) (.c (.int 0))) (.seq (.ret (.op2 .add (.op2 .upto (.bv 1) (.bv 3)) (.op2 .from (.bv 1) (.op2 .add (.bv 3) (.c (.int 1)))))) .skip) .skip) law_spoiled_4))
def law_spoiled_6 : DS := (.seq (.ret (.call "_law_of" (.cons (.bv 0) (.cons (.bv 2) .nil)) 0)) .skip)
def d_law_spoiled : DS := (.seq (.ife (.or (.not (.op1 .isTup (.bv 1))) (.or (.op2 .eq (.bv 1) (.tup .nil)) (.op2 .eq (.call "_law_take" (.cons (.bv 0) (.cons (.c (.int 6)) .nil)) 0) (.c (.int 0))))) (.seq (.asg 2 (.lst (.cons (.call "_law_any_value" (.cons (.bv 0) (.cons (.c (.int 1)) .nil)) 0) (.cons (.lst (.cons (.var 1) .nil)) (.cons (.tup (.cons (.var 1) (.cons (.var 1) .nil))) .nil))))) (.seq (.ife (.op1 .isInt (.bv 1)) (.seq (.asg 2 (.op2 .add (.bv 2) (.lst (.cons (.op2 .add (.bv 1) (.c (.int 1))) (.cons (.op2 .sub (.bv 1) (.c (.int 1))) (.cons (.c (.bool true)) (.cons (.op1 .strOf (.bv 1)) (.cons (.c (.int 4)) .nil)))))))) .skip) .skip) law_spoiled_6)) .skip) law_spoiled_5)
def d_law_whole : DS := (.seq (.ret (.and (.op1 .isInt (.bv 0)) (.and (.not (.op1 .isBool (.bv 0))) (.chain .le .le (.var 1) (.var 0) (.var 2))))) .skip)
def law_is_bundle_1 : DS := (.seq (.ret (.op2 .ne (.call "_law_orders" (.cons (.bv 0) .nil) 0) (.lst .nil))) .skip)
def law_is_bundle_2 : DE := (.op2 .le (.op2 .idx (.bv 5) (.bv 6)) (.op2 .idx (.bv 5) (.op2 .sub (.bv 6) (.c (.int 1)))))
def law_is_bundle_3 : DS := (.seq (.ife (.op2 .ne (.lc [6] (.rng2 (.c (.int 1)) (.op1 .len (.bv 5))) law_is_bundle_2 (.var 6) [6]) (.lst .nil)) (.seq (.ret (.c (.bool false))) .skip) .skip) law_is_bundle_1)
def law_is_bundle_4 : DS := (.seq (.ife (.or (.not (.call "_law_whole" (.cons (.op2 .idx (.bv 2) (.c (.int 0))) (.cons (.c (.int 0)) (.cons (.op2 .sub (.op1 .len (.bv 4)) (.c (.int 1))) .nil))) 0)) (.not (.call "_law_whole" (.cons (.op2 .idx (.bv 2) (.c (.int 1))) (.cons (.c (.int 0)) (.cons (.op2 .sub (.op1 .len (.bv 4)) (.c (.int 1))) .nil))) 0))) (.seq (.ret (.c (.bool false))) .skip) .skip) .skip)
def law_is_bundle_5 : DS := (.seq (.ife (.or (.not (.op1 .isTup (.bv 2))) (.op2 .ne (.op1 .len (.bv 2)) (.c (.int 2)))) (.seq (.ret (.c (.bool false))) .skip) .skip) law_is_bundle_4)
def law_is_bundle_6 : DS := (.seq (.for' [2] (.var 5) law_is_bundle_5) law_is_bundle_3)
def law_is_bundle_7 : DE := (.not (.call "_law_whole" (.cons (.bv 7) (.cons (.c (.int 0)) (.cons (.op2 .sub (.bv 3) (.c (.int 1))) .nil))) 0))
def law_is_bundle_8 : DS := (.seq (.ife (.op2 .ne (.lc [7] (.bv 1) law_is_bundle_7 (.var 7) [7]) (.lst .nil)) (.seq (.ret (.c (.bool false))) .skip) .skip) .skip)
def law_is_bundle_9 : DS := (.seq (.ife (.or (.not (.op1 .isTup (.bv 1))) (.op2 .ne (.op1 .len (.bv 1)) (.bv 3))) (.seq (.ret (.c (.bool false))) .skip) .skip) law_is_bundle_8)
def law_is_bundle_10 : DS := (.seq (.for' [1] (.var 4) law_is_bundle_9) law_is_bundle_6)
def law_is_bundle_11 : DS := (.seq (.tupa [3, 4, 5] (.var 0)) (.seq (.ife (.or (.not (.op1 .isTup (.bv 4))) (.or (.op2 .gt (.op1 .len (.bv 4)) (.c (.int 6))) (.not (.op1 .isTup (.bv 5))))) (.seq (.ret (.c (.bool false))) .skip) .skip) law_is_bundle_10))
def d_law_is_bundle : DS := (.seq (.ife (.or (.not (.op1 .isTup (.bv 0))) (.or (.op2 .ne (.op1 .len (.bv 0)) (.c (.int 3))) (.not (.call "_law_whole" (.cons (.op2 .idx (.bv 0) (.c (.int 0))) (.cons (.c (.int 1)) (.cons (.c (.int 4)) .nil))) 0)))) (.seq (.ret (.c (.bool false))) .skip) .skip) law_is_bundle_11)
def sp_anyv (j : Nat) : DSp := fun as k _ => ∃ (c : Ct) (n : Nat), as = [.o c, .p (.int (n : Nat))] ∧ BagC c ∧ n < j ∧ ∀ (v : D) (c' : Ct), Wid (n + 1) v → BagC c' → k v [c']
theorem sp_anyv_zero : ∀ as k x, ¬ sp_anyv 0 as k x := by
  rintro as k x ⟨_, _, _, _, h, _⟩
  omega
def anyL : List D := [.int 0, .int (-1), .int 1, .int 2, .bool true, .bool false, .none, .str "", .str "x", .str "told", .int 3, .int 4, .int 1000000000000000000000000000000, .tuple [], .list [], .tuple [.int 0, .int 1], .tuple [.int 1, .int 0]]
theorem wid_anyL : ∀ v ∈ anyL, Wid 1 v := by
  have q : ∀ (l : List Int), l.length ≤ 2 → Wid 1 (.tuple (l.map .int)) := fun l h => .tuple (by simp; omega) fun d hd => by
    obtain ⟨i, _, rfl⟩ := List.mem_map.mp hd
    exact .int
  intro v hv
  simp only [anyL, List.mem_cons, List.not_mem_nil, or_false] at hv
  rcases hv with rfl | rfl | rfl | rfl | rfl | rfl | rfl | rfl | rfl | rfl | rfl | rfl | rfl | rfl | rfl | rfl | rfl <;>
    first | exact .int | exact .bool | exact .none | exact .str | exact q [] (by decide) | exact q [0, 1] (by decide) | exact q [1, 0] (by decide) | exact .list (by decide) fun _ h => nomatch h
theorem ok_anyv {Γ : Gm} {j : Nat} (h1 : Γ.fn "_law_take" = sp_take) (f1 : Γ.fr "_law_take" = false) (h2 : Γ.fn "_law_of" = sp_of) (f2 : Γ.fr "_law_of" = false) (h3 : Γ.fn "_law_any_value" = sp_anyv j) (f3 : Γ.fr "_law_any_value" = false) :
    ∀ as k x, sp_anyv (j + 1) as k x → semS Γ d_law_any_value (dkOf false as k x) (ro0 5 as) := by
  rintro as k x ⟨c, n, rfl, hc, hn, hk⟩
  simp [d_law_any_value, ro0, h1, f1, sp_take, h2, f2, sp_of]
  refine ⟨c, 9, ⟨rfl, rfl⟩, hc, by omega, by omega, fun kind c1 k0 k9 b1 => ?_⟩
  have base : ∀ (v : D) (c2 : Ct), v ∈ anyL → BagC c2 → k v [c2] := fun v c2 hv b2 => hk v c2 ((wid_anyL v hv).up (by omega)) b2
  simp [law_any_value_3]
  split
  · exact ⟨by simp [CPow], c1, anyL, ⟨rfl, rfl⟩, b1, by simp [anyL], by simp [anyL], base⟩
  · split
    · exact ⟨by simp [CPow], c1, anyL, ⟨rfl, rfl⟩, b1, by simp [anyL], by simp [anyL], base⟩
    · obtain ⟨m, rfl⟩ : ∃ m, n = m + 1 := ⟨n - 1, by omega⟩
      simp [h1, f1, sp_take]
      refine ⟨c1, 5, ⟨rfl, rfl⟩, b1, by omega, by omega, fun t c2 t0 t5 b2 => ?_⟩
      refine ⟨by omega, lcL_ind (fun ys acc ρ => ∃ (c' : Ct), BagC c' ∧ acc.length + ys.length = t.toNat ∧ (∀ q ∈ acc, Wid (m + 1) q) ∧ ρ = [Sl.o false c', Sl.p (.int ((m + 1 : Nat) : Int)), Sl.p (.int kind), .un, .un]) ?_ (fun _ _ _ _ => trivial) ?_ ⟨c2, b2, by rw [rangeD_len]; simp, by simp, by simp⟩⟩
      · rintro y ys acc ρ kk ⟨c', bc, hl, hm, rfl⟩ hkk
        rw [List.length_cons] at hl
        simp [law_any_value_2, h3, f3, sp_anyv]
        refine ⟨c', m, ⟨rfl, by omega⟩, bc, by omega, fun v c3 hv b3 => ⟨by rw [sz]; omega, hkk _ _ ⟨c3, b3, by simp; omega, fun r hr => ?_, rfl⟩⟩⟩
        rcases List.mem_append.mp hr with z | z
        · exact hm r z
        · rw [List.mem_singleton.mp z]; exact hv
      · rintro acc ρ ⟨c3, b3, hl, hm, rfl⟩
        simp [law_any_value_1]
        have hl4 : acc.length ≤ 1000 := by simp at hl; omega
        have wl : Wid (m + 2) (.list acc) := .list hl4 hm
        have wt : Wid (m + 2) (.tuple acc) := .tuple hl4 hm
        have e : ∀ d ∈ [PyData.list acc, .tuple acc, .tuple acc], Wid (m + 2) d := by
          intro d hd
          simp only [List.mem_cons, List.not_mem_nil, or_false] at hd
          rcases hd with rfl | rfl | rfl
          · exact wl
          · exact wt
          · exact wt
        obtain ⟨d, e1, _, e3⟩ := idxN (ds := [PyData.list acc, .tuple acc, .tuple acc]) (i := kind - 6) (by omega) (by simp; omega)
        exact ⟨d, e1, hk d c3 (e d e3) b3⟩
/-! ### values spoiled -/
inductive IT : Nat → D → Prop
  | int {n i} : -1000 ≤ i → i ≤ 1000 → IT n (.int i)
  | tuple {n l} : l.length ≤ 400 → (∀ d ∈ l, IT n d) → IT (n + 1) (.tuple l)
theorem IT.wid {n : Nat} {d : D} (h : IT n d) : Wid n d := by
  induction h with
  | int _ _ => exact .int
  | tuple h _ ih => exact .tuple (by omega) ih
def sp_spoil (j : Nat) : DSp := fun as k _ => ∃ (c : Ct) (v : D) (n : Nat), as = [.o c, .p v] ∧ BagC c ∧ IT n v ∧ (n < j ∧ n ≤ 40) ∧ ∀ (w : D) (c' : Ct), Wid (n + 2) w → BagC c' → k w [c']
theorem sp_spoil_zero : ∀ as k x, ¬ sp_spoil 0 as k x := by
  rintro as k x ⟨_, _, _, _, _, _, ⟨h, _⟩, _⟩
  omega
theorem wid_some {n : Nat} {v w : D} (hv : Wid n v) (hw : Wid 2 w) : ∀ d ∈ [w, .list [v], .tuple [v, v]], Wid (n + 2) d := by
  intro d hd
  simp only [List.mem_cons, List.not_mem_nil, or_false] at hd
  rcases hd with rfl | rfl | rfl
  · exact hw.up (by omega)
  · exact .list (by simp) fun q hq => by
      rw [List.mem_singleton.mp hq]
      exact hv.up (by omega)
  · refine .tuple (by simp) fun q hq => ?_
    simp only [List.mem_cons, List.not_mem_nil, or_false, or_self] at hq
    rw [hq]
    exact hv.up (by omega)
def thenS : DS → DS
  | .seq (.ife _ t _) _ => t
  | s => s
def spBlk : DS := thenS d_law_spoiled
theorem spoil_eq : d_law_spoiled = .seq (.ife (.or (.not (.op1 .isTup (.bv 1))) (.or (.op2 .eq (.bv 1) (.tup .nil)) (.op2 .eq (.call "_law_take" (.cons (.bv 0) (.cons (.c (.int 6)) .nil)) 0) (.c (.int 0))))) spBlk .skip) law_spoiled_5 := rfl
theorem ok_blk {Γ : Gm} (h2 : Γ.fn "_law_of" = sp_of) (f2 : Γ.fr "_law_of" = false) (h3 : Γ.fn "_law_any_value" = sp_anyv 4) (f3 : Γ.fr "_law_any_value" = false) {n : Nat} {v : D} {c : Ct} (hc : BagC c) (hv : IT n v) (K : DK)
    (hk : ∀ w c' s, Wid (n + 2) w → BagC c' → K.rt w [.o false c', .p v, s, .un, .un]) : semS Γ spBlk K [.o false c, .p v, .un, .un, .un] := by
  have wv := hv.wid
  have wsome : ∀ w, Wid 2 w → ∀ d ∈ [w, PyData.list [v], .tuple [v, v]], Wid (n + 2) d := fun w hw => wid_some wv hw
  cases hv with
  | @int n i i0 i1 =>
    have il : i.natAbs.log2 < 1920 := by
      by_cases z : i.natAbs = 0
      · rw [z]; decide
      · rw [Nat.log2_lt z]
        exact Nat.lt_of_lt_of_le (show i.natAbs < 2 ^ 10 by omega) (Nat.pow_le_pow_right (by omega) (by omega))
    simp [spBlk, thenS, d_law_spoiled, h3, f3, sp_anyv]
    refine ⟨c, 1, ⟨rfl, rfl⟩, hc, by omega, fun w c1 hw b1 => ?_⟩
    simp [law_spoiled_6, h2, f2, sp_of]
    refine ⟨il, by rw [sz]; omega, c1, _, ⟨rfl, rfl⟩, b1, by simp, by simp, fun d c2 hd b2 => hk d c2 _ ?_ b2⟩
    simp only [List.mem_cons, List.not_mem_nil, or_false] at hd
    rcases hd with h | h | h | h | h | h | h | h
    · exact wsome w hw d (by simp [h])
    · exact wsome w hw d (by simp [h])
    · exact wsome w hw d (by simp [h])
    all_goals
      rw [h]
      first | exact .int | exact .bool | exact .str
  | @tuple m l hl hi =>
    simp [spBlk, thenS, d_law_spoiled, h3, f3, sp_anyv]
    refine ⟨c, 1, ⟨rfl, rfl⟩, hc, by omega, fun w c1 hw b1 => ?_⟩
    simp [law_spoiled_6, h2, f2, sp_of]
    exact ⟨c1, _, ⟨rfl, rfl⟩, b1, by simp, by simp, fun d c2 hd b2 => hk d c2 _ (wsome w hw d hd) b2⟩
theorem takeI_le {n : Nat} {i : Int} (h : 0 ≤ i) : takeI n i = min i.toNat n := by
  show (if i < 0 then (i + (n : Int)).toNat else min i.toNat n) = _
  rw [if_neg (by omega)]
theorem dropI_le {n : Nat} {i : Int} (h : 0 ≤ i) : dropI n i = min i.toNat n := by
  show (if i < 0 then (i + (n : Int)).toNat else min i.toNat n) = _
  rw [if_neg (by omega)]
theorem ok_spoil {Γ : Gm} {j : Nat} (h1 : Γ.fn "_law_take" = sp_take) (f1 : Γ.fr "_law_take" = false) (h2 : Γ.fn "_law_of" = sp_of) (f2 : Γ.fr "_law_of" = false) (h3 : Γ.fn "_law_any_value" = sp_anyv 4) (f3 : Γ.fr "_law_any_value" = false) (h4 : Γ.fn "_law_spoiled" = sp_spoil j) (f4 : Γ.fr "_law_spoiled" = false) :
    ∀ as k x, sp_spoil (j + 1) as k x → semS Γ d_law_spoiled (dkOf false as k x) (ro0 5 as) := by
  rintro as k x ⟨c, v, n, rfl, hc, hv, ⟨hn, hn40⟩, hk⟩
  rw [spoil_eq]
  have wv := hv.wid
  have blk := fun c0 (hc0 : BagC c0) K h => ok_blk h2 f2 h3 f3 hc0 hv K h
  cases hv with
  | @int n i i0 i1 =>
    simp [ro0]
    exact blk c hc _ fun w c' s hw b => hk w c' hw b
  | @tuple m l hl hi =>
    have ed : EqOk (.tuple l) (.tuple []) := eqOk_ok (wv.ok.up (by omega))
    cases hl0 : l with
    | nil =>
      subst hl0
      have en : PyData.eqv (.tuple []) (.tuple []) = true := rfl
      simp [ro0, ed, en]
      exact blk c hc _ fun w c' s hw b => hk w c' hw b
    | cons a l0 =>
      have en : PyData.eqv (.tuple l) (.tuple []) = false := by rw [hl0]; rfl
      have l1 : 1 ≤ l.length := by rw [hl0]; simp
      rw [← hl0]
      simp [ro0, ed, en, h1, f1, sp_take]
      refine ⟨c, 6, ⟨rfl, rfl⟩, hc, by omega, by omega, fun r c1 r0 r6 b1 => ?_⟩
      split
      · exact blk c1 b1 _ fun w c' s hw b => hk w c' hw b
      · simp [law_spoiled_5, h1, f1, sp_take]
        refine ⟨c1, l.length, ⟨rfl, rfl⟩, b1, by omega, by omega, fun p c2 p0 p1 b2 => ?_⟩
        refine ⟨c2, 7, ⟨rfl, rfl⟩, b2, by omega, by omega, fun way c3 w0 w7 b3 => ?_⟩
        have itl : ∀ d ∈ l, Wid m d := fun d hd => (hi d hd).wid
        have wt : ∀ ds : List D, ds.length ≤ 1000 → (∀ d ∈ ds, d ∈ l) → Wid (m + 1 + 2) (.tuple ds) := fun ds h q => .tuple h fun d hd => (itl d (q d hd)).up (by omega)
        have tk : takeI l.length p = p.toNat := by rw [takeI_le p0]; omega
        have dk : dropI l.length (p + 1) = p.toNat + 1 := by rw [dropI_le (by omega)]; omega
        have dk0 : dropI l.length p = p.toNat := by rw [dropI_le p0]; omega
        have tk1 : takeI l.length (p + 1) = p.toNat + 1 := by rw [takeI_le (by omega)]; omega
        rw [tk, dk]
        have mem2 : ∀ d ∈ l.take p.toNat ++ l.drop (p.toNat + 1), d ∈ l := fun d hd => by
          rcases List.mem_append.mp hd with z | z
          · exact List.mem_of_mem_take z
          · exact List.mem_of_mem_drop z
        split
        · exact ⟨by rw [sz]; omega, hk _ c3 (wt _ (by simp; omega) mem2) b3⟩
        · simp [law_spoiled_4, tk, dk, dk0, tk1]
          split
          · refine ⟨by omega, by omega, by rw [sz]; omega, by rw [sz]; omega, hk _ c3 (wt _ (by simp; omega) fun d hd => ?_) b3⟩
            simp only [List.mem_append] at hd
            rcases hd with z | z | z | z
            · exact List.mem_of_mem_take z
            · exact List.mem_of_mem_drop (List.mem_of_mem_take z)
            · exact List.mem_of_mem_drop (List.mem_of_mem_take z)
            · exact List.mem_of_mem_drop z
          · simp [law_spoiled_3]
            split
            · exact hk _ c3 (wt _ (by simp; omega) fun d hd => List.mem_reverse.mp hd) b3
            · simp [law_spoiled_2]
              split
              · exact hk _ c3 (.list (by omega) fun d hd => (itl d hd).up (by omega)) b3
              · simp [law_spoiled_1, h4, f4, sp_spoil, tk, dk]
                obtain ⟨d, e1, _, e3⟩ := idxN (ds := l) p0 p1
                refine ⟨d, e1, c3, d, ⟨rfl, rfl⟩, b3, m, hi d e3, ⟨by omega, by omega⟩, fun w c4 hw b4 => ⟨by rw [sz]; omega, by rw [sz]; omega, hk _ c4 (.tuple (by simp; omega) fun q hq => ?_) b4⟩⟩
                rcases List.mem_append.mp hq with z | z
                · exact (itl q (List.mem_of_mem_take z)).up (by omega)
                · rcases List.mem_cons.mp z with z | z
                  · rw [z]; exact hw
                  · exact (itl q (List.mem_of_mem_drop z)).up (by omega)
end DL

end

section
namespace DL
open PySem PySem.Spec PyProof.Rows L2
def w_d_law_whole : DS := (.seq (.ret (.and (.op1 .isInt (.bv 0)) (.and (.not (.op1 .isBool (.bv 0))) (.chain .le .le (.var 1) (.var 0) (.var 2))))) .skip)
def w_law_is_bundle_1 : DS := (.seq (.ret (.op2 .ne (.call "_law_orders" (.cons (.bv 0) .nil) 0) (.lst .nil))) .skip)
def w_law_is_bundle_2 : DE := (.op2 .le (.op2 .idx (.bv 5) (.bv 6)) (.op2 .idx (.bv 5) (.op2 .sub (.bv 6) (.c (.int 1)))))
def w_law_is_bundle_3 : DS := (.seq (.ife (.op2 .ne (.lc [6] (.rng2 (.c (.int 1)) (.op1 .len (.bv 5))) w_law_is_bundle_2 (.var 6) [6]) (.lst .nil)) (.seq (.ret (.c (.bool false))) .skip) .skip) w_law_is_bundle_1)
def w_law_is_bundle_4 : DS := (.seq (.ife (.or (.not (.call "_law_whole" (.cons (.op2 .idx (.bv 2) (.c (.int 0))) (.cons (.c (.int 0)) (.cons (.op2 .sub (.op1 .len (.bv 4)) (.c (.int 1))) .nil))) 0)) (.not (.call "_law_whole" (.cons (.op2 .idx (.bv 2) (.c (.int 1))) (.cons (.c (.int 0)) (.cons (.op2 .sub (.op1 .len (.bv 4)) (.c (.int 1))) .nil))) 0))) (.seq (.ret (.c (.bool false))) .skip) .skip) .skip)
def w_law_is_bundle_5 : DS := (.seq (.ife (.or (.not (.op1 .isTup (.bv 2))) (.op2 .ne (.op1 .len (.bv 2)) (.c (.int 2)))) (.seq (.ret (.c (.bool false))) .skip) .skip) w_law_is_bundle_4)
def w_law_is_bundle_6 : DS := (.seq (.for' [2] (.var 5) w_law_is_bundle_5) w_law_is_bundle_3)
def w_law_is_bundle_7 : DE := (.not (.call "_law_whole" (.cons (.bv 7) (.cons (.c (.int 0)) (.cons (.op2 .sub (.bv 3) (.c (.int 1))) .nil))) 0))
def w_law_is_bundle_8 : DS := (.seq (.ife (.op2 .ne (.lc [7] (.bv 1) w_law_is_bundle_7 (.var 7) [7]) (.lst .nil)) (.seq (.ret (.c (.bool false))) .skip) .skip) .skip)
def w_law_is_bundle_9 : DS := (.seq (.ife (.or (.not (.op1 .isTup (.bv 1))) (.op2 .ne (.op1 .len (.bv 1)) (.bv 3))) (.seq (.ret (.c (.bool false))) .skip) .skip) w_law_is_bundle_8)
def w_law_is_bundle_10 : DS := (.seq (.for' [1] (.var 4) w_law_is_bundle_9) w_law_is_bundle_6)
def w_law_is_bundle_11 : DS := (.seq (.tupa [3, 4, 5] (.var 0)) (.seq (.ife (.or (.not (.op1 .isTup (.bv 4))) (.or (.op2 .gt (.op1 .len (.bv 4)) (.c (.int 6))) (.not (.op1 .isTup (.bv 5))))) (.seq (.ret (.c (.bool false))) .skip) .skip) w_law_is_bundle_10))
def w_d_law_is_bundle : DS := (.seq (.ife (.or (.not (.op1 .isTup (.bv 0))) (.or (.op2 .ne (.op1 .len (.bv 0)) (.c (.int 3))) (.not (.call "_law_whole" (.cons (.op2 .idx (.bv 0) (.c (.int 0))) (.cons (.c (.int 1)) (.cons (.c (.int 4)) .nil))) 0)))) (.seq (.ret (.c (.bool false))) .skip) .skip) w_law_is_bundle_11)
theorem ok_whole {Γ : Gm} : ∀ as k x, sp_is_integer as k x → semS Γ w_d_law_whole (dkOf false as k x) (ro0 3 as) := by
  rintro as k x ⟨v, lo, hi, rfl, hk⟩
  cases v <;> simp [w_d_law_whole, ro0] <;> simp [intB] at hk <;> try exact hk
  split
  · rename_i h
    simp [h] at hk
    exact hk
  · rename_i h
    simp [h] at hk
    exact hk
/-! ### the orders by all rows, of any pairs -/
def sp_ordersV : DSp := fun as k _ => ∃ (s : D) (ds : List D) (ps : List (List Int)), as = [.p (.tuple [s, .tuple ds, .tuple (ps.map T)])] ∧ ds.length ≤ 6 ∧ ps.length ≤ 1000 ∧ (∀ p ∈ ps, ∃ a b, p = [a, b] ∧ a ∈ rangeI ds.length ∧ b ∈ rangeI ds.length) ∧ k (.list ((ordersOf ds.length ps).map T)) []
theorem ok_ordersV {Γ : Gm} (h1 : Γ.fn "_law_rows" = sp_rows) (f1 : Γ.fr "_law_rows" = false) (h2 : Γ.fn "_law_stands" = sp_stands) (f2 : Γ.fr "_law_stands" = false) : ∀ as k x, sp_ordersV as k x → semS Γ v_d_law_orders (dkOf false as k x) (ro0 2 as) := by
  rintro as k x ⟨s, ds, ps, rfl, m6, kl, hps, hk⟩
  simp [v_d_law_orders, ro0, h1, f1, sp_rows, idx1]
  refine ⟨_, rfl, m6, ?_⟩
  refine lcL_typ T T (fun r => ps.all (aheadB r)) (fun r acc kk hr hl hkk => ?_) trivial ?_ ?_
  · have hp : r.Perm (rangeI ds.length) := (mem_insN _ _).mp ((sortRows_perm _).mem_iff.mp hr)
    have hrl := hp.length_eq
    rw [rangeI_len] at hrl
    simp [v_law_orders_1, h2, f2, sp_stands, idx2]
    refine ⟨r, ps, _, ⟨rfl, rfl⟩, .inl rfl, hp.nodup_iff.mpr (rangeI_nodup _), by omega, by omega, fun p hpp => ?_, ?_⟩
    · obtain ⟨a, b, e, ha, hb⟩ := hps p hpp
      exact ⟨a, b, e, hp.mem_iff.mpr ha, hp.mem_iff.mpr hb⟩
    · simp only [List.all_eq_true] at hkk
      split
      · rename_i h
        rw [if_pos h] at hkk
        exact ⟨hl, hkk⟩
      · rename_i h
        rw [if_neg h] at hkk
        exact hkk
  · rw [(sortRows_perm _).length_eq, sz]
    rcases insN_len ds.length with h | h
    · have h3 : (6 : Nat) ^ ds.length ≤ 6 ^ 6 := Nat.pow_le_pow_right (by omega) m6
      have h5 : (6 : Nat) ^ 6 = 46656 := by decide
      omega
    · omega
  · rw [rows_orders hps]
    exact hk
theorem asc_rng : ∀ ps : List (List Int), ((List.range (ps.length - 1)).all fun i => decide (ps.getD i [] < ps.getD (i + 1) [])) = ascB ps
  | [] => rfl
  | [_] => rfl
  | a :: b :: r => by
    have ih := asc_rng (b :: r)
    rw [ascB, ← ih]
    show ((List.range (r.length + 1)).all fun i => decide ((a :: b :: r).getD i [] < (a :: b :: r).getD (i + 1) [])) = _
    rw [List.range_succ_eq_map, List.all_cons, List.all_map]
    rfl
theorem bun3_not {i : Int} {ds ks : D} (h : ∀ dl kl, ds = .tuple dl → ks = .tuple kl → bunP i dl kl = false) : bun3 (.int i) ds ks = false := by
  cases ds <;> first | rfl | skip
  cases ks <;> first | rfl | skip
  rename_i dl kl
  show (intB (.int i) 1 4 && bunP i dl kl) = false
  rw [h dl kl rfl rfl, Bool.and_false]
theorem eqv_list_nil (l : List D) : PyData.eqv (.list l) (.list []) = l.isEmpty := by cases l <;> rfl
theorem filt_emp (p : D → Bool) (l : List D) : (l.filter fun d => !p d).isEmpty = l.all p := by
  rw [Bool.eq_iff_iff, List.isEmpty_iff, List.filter_eq_nil_iff, List.all_eq_true]
  simp
theorem atI_rows {ps : List (List Int)} {j : Int} (h0 : 0 ≤ j) (h1 : j < ps.length) : atI (ps.map T) j = some (T (ps.getD j.toNat [])) := by
  obtain ⟨d, e1, e2, _⟩ := idxN (ds := ps.map T) h0 (by simpa using h1)
  rw [e1, ← e2]
  rw [List.getElem?_map, List.getD_eq_getElem?_getD, List.getElem?_eq_getElem (by omega)]
  rfl
theorem ok_law_is_bundle {Γ : Gm} (h1 : Γ.fn "_law_whole" = sp_is_integer) (f1 : Γ.fr "_law_whole" = false) (h2 : Γ.fn "_law_orders" = sp_ordersV) (f2 : Γ.fr "_law_orders" = false) :
    ∀ as k x, sp_is_bundleV as k x → semS Γ w_d_law_is_bundle (dkOf false as k x) (ro0 8 as) := by
  rintro as k x ⟨v, n, rfl, hw, hk⟩
  cases v <;> simp [w_d_law_is_bundle, ro0] <;> first | exact hk | skip
  rename_i l
  by_cases h : l.length = 3
  · match l, h with
    | [s, ds, ks], hh =>
      obtain ⟨wlen, wi⟩ := hw.items
      have wd := wi ds (by simp)
      have wk := wi ks (by simp)
      have ov : OkN n (.tuple [s, ds, ks]) := hw.ok
      clear wlen wi hw hh
      simp [idx0, h1, f1, sp_is_integer]
      refine ⟨_, _, _, ⟨rfl, rfl, rfl⟩, ?_⟩
      cases hs : intB s 1 4 with
      | false =>
        have : bunV (.tuple [s, ds, ks]) = false := by
          show bun3 s ds ks = false
          cases ds <;> first | rfl | skip
          cases ks <;> first | rfl | skip
          simp [bun3, hs]
        rw [this] at hk
        simp
        exact hk
      | true =>
        obtain ⟨i, rfl, i1, i4⟩ : ∃ i, s = .int i ∧ 1 ≤ i ∧ i ≤ 4 := by
          cases s <;> first | (cases hs; done) | skip
          rw [intB_int, Bool.and_eq_true, decide_eq_true_eq, decide_eq_true_eq] at hs
          exact ⟨_, rfl, hs⟩
        replace hk : k (.bool (bun3 (.int i) ds ks)) [] := hk
        simp [w_law_is_bundle_11]
        cases ds <;> simp <;> first | exact hk | skip
        rename_i dl
        have wdl := wd.items
        clear wd ov
        by_cases hl6 : dl.length ≤ 6
        · rw [if_neg (by omega)]
          cases ks <;> simp <;> first | exact hk | skip
          rename_i kl
          have wkl := wk.items
          clear wk
          have e0 : bun3 (.int i) (.tuple dl) (.tuple kl) = (dl.all (mapB i) && (kl.all (pairB dl.length) && (ascB (kl.map toRow) && !(ordersOf dl.length (kl.map toRow)).isEmpty))) := by
            show (intB (.int i) 1 4 && bunP i dl kl) = _
            rw [hs]
            simp [bunP, hl6]
          rw [e0] at hk
          simp [w_law_is_bundle_10]
          refine forL_ind (fun ys ρ => ∃ (done : List D) (s1 : Sl), dl = done ++ ys ∧ done.all (mapB i) = true ∧ ρ = [.p (.tuple [.int i, .tuple dl, .tuple kl]), s1, .un, .p (.int i), .p (.tuple dl), .p (.tuple kl), .un, .un]) ?_ ?_ ⟨[], .un, rfl, rfl, rfl⟩
          · rintro y ys ρ nx ⟨done, s1, e1, hd, rfl⟩ hnx
            have bad : mapB i y = false → k (.bool false) [] := fun z => by
              have : dl.all (mapB i) = false := by rw [e1]; simp [z]
              rw [this] at hk
              exact hk
            simp [w_law_is_bundle_9]
            cases y <;> simp <;> first | exact bad rfl | skip
            rename_i yl
            have em : mapB i (.tuple yl) = (decide ((yl.length : Int) = i) && yl.all fun d => intB d 0 (i - 1)) := rfl
            by_cases hyl : (yl.length : Int) = i
            · rw [if_pos hyl]
              simp [w_law_is_bundle_8]
              refine lcL_map id (fun d => !intB d 0 (i - 1)) (fun z acc kk hz hl hkk => ?_) (by simp) (by rw [sz]; omega) ?_
              · simp [w_law_is_bundle_7, h1, f1, sp_is_integer]
                refine ⟨z, _, _, ⟨rfl, rfl, rfl⟩, ?_⟩
                cases hz2 : intB z 0 (i - 1) with
                | true =>
                  rw [hz2] at hkk
                  exact hkk
                | false =>
                  rw [hz2] at hkk
                  exact ⟨hl, hkk⟩
              · refine ⟨rfl, by omega, .inr (by decide), ?_⟩
                rw [List.map_id, eqv_list_nil, filt_emp]
                cases ha : yl.all fun d => intB d 0 (i - 1) with
                | true =>
                  refine hnx _ ⟨done ++ [.tuple yl], _, by rw [e1]; simp, ?_, rfl⟩
                  rw [List.all_append, hd, Bool.true_and, List.all_cons, em, decide_eq_true hyl, ha]
                  rfl
                | false => exact bad (by rw [em, ha, Bool.and_false])
            · rw [if_neg hyl]
              exact bad (by rw [em, decide_eq_false hyl, Bool.false_and])
          · rintro ρ ⟨done, s1, e1, hd, rfl⟩
            rw [List.append_nil] at e1
            subst e1
            rw [hd] at hk
            replace hk : k (.bool (kl.all (pairB dl.length) && (ascB (kl.map toRow) && !(ordersOf dl.length (kl.map toRow)).isEmpty))) [] := hk
            simp [w_law_is_bundle_6]
            refine forL_ind (fun ys ρ => ∃ (done : List D) (s2 : Sl), kl = done ++ ys ∧ done.all (pairB dl.length) = true ∧ ρ = [.p (.tuple [.int i, .tuple dl, .tuple kl]), s1, s2, .p (.int i), .p (.tuple dl), .p (.tuple kl), .un, .un]) ?_ ?_ ⟨[], .un, rfl, rfl, rfl⟩
            · rintro y ys ρ nx ⟨done, s2, e1, hd2, rfl⟩ hnx
              have bad : pairB dl.length y = false → k (.bool false) [] := fun z => by
                have : kl.all (pairB dl.length) = false := by rw [e1]; simp [z]
                rw [this] at hk
                exact hk
              simp [w_law_is_bundle_5]
              cases y <;> simp <;> first | exact bad rfl | skip
              rename_i yl
              by_cases hyl : yl.length = 2
              · match yl, hyl with
                | [a, b], _ =>
                  have em : pairB dl.length (.tuple [a, b]) = (intB a 0 ((dl.length : Int) - 1) && (intB b 0 ((dl.length : Int) - 1) && true)) := rfl
                  simp [w_law_is_bundle_4, h1, f1, sp_is_integer, idx0, idx1]
                  refine ⟨a, _, _, ⟨rfl, rfl, rfl⟩, ?_⟩
                  cases ha : intB a 0 ((dl.length : Int) - 1) with
                  | false => exact bad (by rw [em, ha]; rfl)
                  | true =>
                    rw [if_pos rfl]
                    refine ⟨b, _, _, ⟨rfl, rfl, rfl⟩, ?_⟩
                    cases hb : intB b 0 ((dl.length : Int) - 1) with
                    | false => exact bad (by rw [em, ha, hb]; rfl)
                    | true =>
                      refine hnx _ ⟨done ++ [.tuple [a, b]], _, by rw [e1]; simp, ?_, rfl⟩
                      rw [List.all_append, hd2, Bool.true_and, List.all_cons, em, ha, hb]
                      rfl
              · rw [if_neg (by omega)]
                refine bad ?_
                show (decide (yl.length = 2) && _) = false
                rw [decide_eq_false hyl]
                rfl
            · rintro ρ ⟨done, s2, e1, hd2, rfl⟩
              rw [List.append_nil] at e1
              subst e1
              rw [hd2] at hk
              replace hk : k (.bool (ascB (kl.map toRow) && !(ordersOf dl.length (kl.map toRow)).isEmpty)) [] := hk
              obtain ⟨ps, rfl, hps⟩ := pairs_of hd2
              rw [rows_back] at hk
              have hpl := wkl.1
              rw [List.length_map] at hpl
              simp [w_law_is_bundle_3]
              refine ⟨by omega, ?_⟩
              rw [show rangeD 1 (ps.length - 1) = (List.range (ps.length - 1)).map fun i => PyData.int (1 + (i : Nat)) from rfl]
              refine lcL_typ (fun i : Nat => PyData.int (1 + (i : Nat))) (fun i : Nat => PyData.int (1 + (i : Nat))) (fun i => !decide (ps.getD i [] < ps.getD (i + 1) [])) (fun y acc kk hy hl hkk => ?_) trivial (by rw [List.length_range, sz]; omega) ?_
              · have hy := List.mem_range.mp hy
                simp [w_law_is_bundle_2]
                refine ⟨_, atI_rows (by omega) (by omega), _, atI_rows (by omega) (by omega), ?_⟩
                rw [show (1 + (y : Int)).toNat = y + 1 by omega, show (1 + (y : Int) - 1).toNat = y by omega]
                generalize ea : ps.getD (y + 1) [] = a at hkk ⊢
                generalize eb : ps.getD y [] = b at hkk ⊢
                have hl1 := ltOk_T a b
                have hl2 := lt_T b a
                unfold T at hl1 hl2
                show LtOk (.tuple _) (.tuple _) ∧ _
                refine ⟨hl1, ?_⟩
                rw [hl2]
                cases hz2 : decide (b < a) with
                | true =>
                  rw [hz2] at hkk
                  exact hkk
                | false =>
                  rw [hz2] at hkk
                  exact ⟨hl, hkk⟩
              · refine ⟨rfl, by omega, .inr (by decide), ?_⟩
                have ef : ((List.range (ps.length - 1)).filter fun i => !decide (ps.getD i [] < ps.getD (i + 1) [])).isEmpty = ascB ps := by
                  rw [← asc_rng, Bool.eq_iff_iff, List.isEmpty_iff, List.filter_eq_nil_iff, List.all_eq_true]
                  simp
                rw [eqv_list_nil, List.isEmpty_map, ef]
                cases ha : ascB ps with
                | false =>
                  rw [ha] at hk
                  exact hk
                | true =>
                  rw [ha] at hk
                  rw [if_neg (by decide)]
                  simp [w_law_is_bundle_1, h2, f2, sp_ordersV]
                  refine ⟨_, dl, ps, ⟨rfl, rfl, rfl⟩, hl6, hpl, fun p hp => ?_, ?_⟩
                  · obtain ⟨a, b, e, ha, hb⟩ := hps p hp
                    exact ⟨a, b, e, mem_rangeI.mpr ha, mem_rangeI.mpr hb⟩
                  · exact hk
        · rw [if_pos (by omega)]
          have : bun3 (.int i) (.tuple dl) ks = false := bun3_not fun a b ha _ => by
            cases ha
            simp [bunP, hl6]
          rw [this] at hk
          exact hk
  · have h' : ¬ (l.length : Int) = 3 := by omega
    rw [if_neg h']
    have : bunV (.tuple l) = false := by
      match l, h with
      | [], _ => rfl
      | [_], _ => rfl
      | [_, _], _ => rfl
      | [_, _, _], h => exact absurd rfl h
      | _ :: _ :: _ :: _ :: _, _ => rfl
    rw [this] at hk
    exact hk
end DL

end

section
namespace DL
open PySem PySem.Spec PyProof.Rows L2
theorem bunV_ok {B : Bun} (hB : BunOk B) : bunV B.d = true := by
  have b1 := hB.n1
  have b4 := hB.n4
  have m6 := hB.m6
  show (intB (.int B.n) 1 4 && bunP B.n (B.maps.map T) (B.known.map T)) = true
  have e1 : intB (.int B.n) 1 4 = true := by simp; omega
  have e2 : (B.maps.map T).all (mapB B.n) = true := by
    rw [List.all_eq_true]
    intro d hd
    obtain ⟨q, hq, rfl⟩ := List.mem_map.mp hd
    exact mapB_ok (hB.maps q hq)
  have e3 : (B.known.map T).all (pairB B.maps.length) = true := by
    rw [List.all_eq_true]
    intro d hd
    obtain ⟨q, hq, rfl⟩ := List.mem_map.mp hd
    exact (bun_pair hB q hq).2
  have e4 : (!(ordersOf B.maps.length B.known).isEmpty) = true := by
    have h : ordersOf B.maps.length B.known ≠ [] := bun_ne hB
    simpa using h
  unfold bunP
  rw [rows_back, List.length_map, e1, e2, e3, asc_lt hB.known, e4, decide_eq_true m6]
  rfl
theorem wid_ints {n : Nat} {r : List Int} (h : r.length ≤ 1000) : Wid (n + 1) (T r) := .tuple (by simpa using h) fun d hd => by
  obtain ⟨i, _, rfl⟩ := List.mem_map.mp hd
  exact .int
theorem wid_rows {n : Nat} {rs : List (List Int)} (h : rs.length ≤ 1000) (q : ∀ r ∈ rs, r.length ≤ 1000) : Wid (n + 2) (.tuple (rs.map T)) := .tuple (by simpa using h) fun d hd => by
  obtain ⟨r, hr, rfl⟩ := List.mem_map.mp hd
  exact wid_ints (q r hr)
def o_d_need_bundle : DS := (.seq (.ife (.not (.call "is_bundle" (.cons (.bv 0) .nil) 0)) (.seq (.raise "InvalidBundle") .skip) .skip) .skip)
def o_is_order_of_1 : DS := (.seq (.ret (.op2 .inn (.bv 1) (.call "all_orders" (.cons (.bv 0) .nil) 0))) .skip)
def o_is_order_of_2 : DE := (.call "is_integer" (.cons (.bv 2) (.cons (.c (.int 0)) (.cons (.op2 .sub (.op1 .len (.op2 .idx (.bv 0) (.c (.int 1)))) (.c (.int 1))) .nil))) 0)
def o_d_is_order_of : DS := (.seq (.ife (.or (.not (.op1 .isTup (.bv 1))) (.not (.op1 .all (.lc [2] (.bv 1) (.c (.bool true)) o_is_order_of_2 [2])))) (.seq (.ret (.c (.bool false))) .skip) .skip) o_is_order_of_1)
def o_d_is_order : DS := (.seq (.ex (.call "need_bundle" (.cons (.bv 0) .nil) 0)) (.seq (.ret (.call "is_order_of" (.cons (.bv 0) (.cons (.bv 1) .nil)) 0)) .skip))
theorem ok_need_bundleV {Γ : Gm} (h1 : Γ.fn "is_bundle" = sp_is_bundleV) (f1 : Γ.fr "is_bundle" = false) : ∀ as k x, sp_need_bundle as k x → semS Γ o_d_need_bundle (dkOf false as k x) (ro0 1 as) := by
  rintro as k x ⟨B, rfl, hB, hk⟩
  have m6 := hB.m6
  have kl := bun_kn hB
  have b4 := hB.n4
  have b1 := hB.n1
  have w : Wid 3 B.d := .tuple (by simp) fun d hd => by
    simp at hd
    rcases hd with rfl | rfl | rfl
    · exact .int
    · exact wid_rows (by omega) fun r hr => by have := (hB.maps r hr).1; omega
    · exact wid_rows (by omega) fun r hr => by
        obtain ⟨a, b, rfl, _⟩ := bun_pairs hB r hr
        simp
  simp [o_d_need_bundle, ro0, h1, f1, sp_is_bundleV]
  refine ⟨⟨3, w⟩, ?_⟩
  simp [bunV_ok hB]
  exact hk
def ordV (B : Bun) : D → Bool
  | .tuple l => l.all (fun d => intB d 0 ((B.maps.length : Int) - 1)) && (B.ords.map T).any fun e => PyData.eqv e (.tuple l)
  | _ => false
def sp_is_order_ofV : DSp := fun as k _ => ∃ (B : Bun) (v : D) (n : Nat), as = [.p B.d, .p v] ∧ BunOk B ∧ Wid n v ∧ n ≤ 50 ∧ k (.bool (ordV B v)) []
theorem wid_in {n : Nat} {v : D} (h : Wid n v) (q : n ≤ 50) : InOk v := by
  have := depth_of (h.up (show n ≤ 60 by omega)).ok
  exact this
theorem ok_is_order_ofV {Γ : Gm} (h1 : Γ.fn "is_integer" = sp_is_integer) (f1 : Γ.fr "is_integer" = false) (h2 : Γ.fn "all_orders" = sp_all_orders) (f2 : Γ.fr "all_orders" = false) : ∀ as k x, sp_is_order_ofV as k x → semS Γ o_d_is_order_of (dkOf false as k x) (ro0 3 as) := by
  rintro as k x ⟨B, v, n, rfl, hB, hw, hn, hk⟩
  have hin := wid_in hw hn
  cases v <;> simp [o_d_is_order_of, ro0] <;> first | exact hk | skip
  rename_i l
  have hl := hw.items
  refine lcL_map (fun d => .bool (intB d 0 ((B.maps.length : Int) - 1))) (fun _ => true) (fun y acc kk hy hl hkk => ?_) (by simp) (by rw [sz]; omega) ?_
  · simp [o_is_order_of_2, h1, f1, sp_is_integer, Bun.d, idx1]
    exact ⟨_, _, _, ⟨rfl, rfl, rfl⟩, hl, hkk⟩
  · rw [filter_tt]
    refine all_map (k := fun b => if (!b) = true then k (.bool false) [] else semS Γ o_is_order_of_1 _ _) ?_
    cases ha : l.all fun d => intB d 0 ((B.maps.length : Int) - 1) with
    | false =>
      have : ordV B (.tuple l) = false := by
        show (_ && _) = false
        rw [ha]
        rfl
      rw [this] at hk
      exact hk
    | true =>
      rw [if_neg (by decide)]
      simp [o_is_order_of_1, h2, f2, sp_all_orders]
      refine ⟨B, rfl, hB, ?_⟩
      have : ordV B (.tuple l) = (B.ords.map T).any fun e => PyData.eqv e (.tuple l) := by
        show (_ && _) = _
        rw [ha]
        rfl
      rw [this] at hk
      rw [List.any_map] at hk
      exact ⟨hin, hk⟩
theorem ok_is_orderV {Γ : Gm} (h1 : Γ.fn "need_bundle" = sp_need_bundle) (f1 : Γ.fr "need_bundle" = false) (h2 : Γ.fn "is_order_of" = sp_is_order_ofV) (f2 : Γ.fr "is_order_of" = false) : ∀ as k x, sp_is_order_ofV as k x → semS Γ o_d_is_order (dkOf false as k x) (ro0 2 as) := by
  rintro as k x ⟨B, v, n, rfl, hB, hw, hn, hk⟩
  simp [o_d_is_order, ro0, h1, f1, sp_need_bundle, h2, f2, sp_is_order_ofV]
  exact ⟨B, rfl, hB, B, v, ⟨rfl, rfl⟩, hB, n, hw, hn, hk⟩
end DL

end

section
namespace DL
open PySem PySem.Spec PyProof.Rows L2
theorem it_row {n : Nat} {r : List Int} (h : r.length ≤ 400) (q : ∀ i ∈ r, -1000 ≤ i ∧ i ≤ 1000) : IT (n + 1) (T r) := .tuple (by simpa using h) fun d hd => by
  obtain ⟨i, hi, rfl⟩ := List.mem_map.mp hd
  exact .int (q i hi).1 (q i hi).2
theorem it_rows {n : Nat} {rs : List (List Int)} (h : rs.length ≤ 400) (q : ∀ r ∈ rs, r.length ≤ 400 ∧ ∀ i ∈ r, -1000 ≤ i ∧ i ≤ 1000) : IT (n + 2) (.tuple (rs.map T)) := .tuple (by simpa using h) fun d hd => by
  obtain ⟨r, hr, rfl⟩ := List.mem_map.mp hd
  exact it_row (q r hr).1 (q r hr).2
theorem it_bun {B : Bun} (hB : BunOk B) : IT 3 B.d := by
  have m6 := hB.m6
  have kl := bun_kn hB
  have b4 := hB.n4
  have b1 := hB.n1
  refine .tuple (by simp) fun d hd => ?_
  simp at hd
  rcases hd with rfl | rfl | rfl
  · exact .int (by omega) (by omega)
  · exact it_rows (by omega) fun r hr => ⟨by have := (hB.maps r hr).1; omega, fun i hi => by have := (hB.maps r hr).2 i hi; omega⟩
  · exact it_rows (by omega) fun r hr => by
      obtain ⟨a, b, rfl, ha, hb⟩ := bun_pairs hB r hr
      have := mem_rangeI.mp ha
      have := mem_rangeI.mp hb
      refine ⟨by simp, fun i hi => ?_⟩
      simp at hi
      omega
def sixB : Bun := ⟨4, List.replicate 6 [0, 1, 2, 3], [[0, 1], [1, 2], [2, 3], [3, 4], [4, 5]]⟩
def k01_law_1 : DE := (.call "is_bundle" (.cons (.bv 9) .nil) 0)
def k01_law_2 : DS := (.seq (.asg 2 (.tup (.cons (.c (.int 4)) (.cons (.op2 .mul (.tup (.cons (.tup (.cons (.c (.int 0)) (.cons (.c (.int 1)) (.cons (.c (.int 2)) (.cons (.c (.int 3)) .nil))))) .nil)) (.c (.int 6))) (.cons (.tup (.cons (.tup (.cons (.c (.int 0)) (.cons (.c (.int 1)) .nil))) (.cons (.tup (.cons (.c (.int 1)) (.cons (.c (.int 2)) .nil))) (.cons (.tup (.cons (.c (.int 2)) (.cons (.c (.int 3)) .nil))) (.cons (.tup (.cons (.c (.int 3)) (.cons (.c (.int 4)) .nil))) (.cons (.tup (.cons (.c (.int 4)) (.cons (.c (.int 5)) .nil))) .nil)))))) .nil))))) (.seq (.asg 3 (.lst (.cons (.var 2) (.cons (.tup (.cons (.c (.int 1)) (.cons (.tup .nil) (.cons (.tup .nil) .nil)))) (.cons (.tup (.cons (.c (.int 2)) (.cons (.tup (.cons (.tup (.cons (.c (.int 1)) (.cons (.c (.int 1)) .nil))) .nil)) (.cons (.tup .nil) .nil)))) .nil))))) (.seq (.asg 4 (.lst (.cons (.tup (.cons (.c (.int 4)) (.cons (.op2 .add (.op2 .idx (.bv 2) (.c (.int 1))) (.op2 .upto (.op2 .idx (.bv 2) (.c (.int 1))) (.c (.int 1)))) (.cons (.tup .nil) .nil)))) (.cons (.tup (.cons (.c (.int 4)) (.cons (.op2 .idx (.bv 2) (.c (.int 1))) (.cons (.op2 .add (.op2 .idx (.bv 2) (.c (.int 2))) (.tup (.cons (.tup (.cons (.c (.int 5)) (.cons (.c (.int 0)) .nil))) .nil))) .nil)))) (.cons (.tup (.cons (.c (.int 5)) (.cons (.tup (.cons (.op2 .mul (.tup (.cons (.c (.int 0)) .nil)) (.c (.int 5))) .nil)) (.cons (.tup .nil) .nil)))) .nil))))) (.seq (.asg 4 (.op2 .add (.bv 4) (.lst (.cons (.tup (.cons (.c (.int 0)) (.cons (.tup .nil) (.cons (.tup .nil) .nil)))) (.cons (.tup (.cons (.c (.int 2)) (.cons (.tup (.cons (.tup (.cons (.c (.int 0)) (.cons (.c (.int 2)) .nil))) .nil)) (.cons (.tup .nil) .nil)))) (.cons (.tup (.cons (.c (.int 2)) (.cons (.op2 .mul (.tup (.cons (.tup (.cons (.c (.int 0)) (.cons (.c (.int 1)) .nil))) .nil)) (.c (.int 2))) (.cons (.tup (.cons (.tup (.cons (.c (.int 0)) (.cons (.c (.int 0)) .nil))) .nil)) .nil)))) .nil)))))) (.seq (.asg 4 (.op2 .add (.bv 4) (.lst (.cons (.tup (.cons (.c (.int 2)) (.cons (.op2 .mul (.tup (.cons (.tup (.cons (.c (.int 0)) (.cons (.c (.int 1)) .nil))) .nil)) (.c (.int 2))) (.cons (.tup (.cons (.tup (.cons (.c (.int 0)) (.cons (.c (.int 1)) .nil))) (.cons (.tup (.cons (.c (.int 0)) (.cons (.c (.int 1)) .nil))) .nil))) .nil)))) (.cons (.tup (.cons (.c (.int 2)) (.cons (.op2 .mul (.tup (.cons (.tup (.cons (.c (.int 0)) (.cons (.c (.int 1)) .nil))) .nil)) (.c (.int 2))) (.cons (.tup (.cons (.tup (.cons (.c (.int 1)) (.cons (.c (.int 0)) .nil))) (.cons (.tup (.cons (.c (.int 0)) (.cons (.c (.int 1)) .nil))) .nil))) .nil)))) .nil))))) (.seq (.ret (.op2 .eq (.lc [9] (.op2 .add (.bv 3) (.bv 4)) (.c (.bool true)) k01_law_1 [9]) (.op2 .add (.op2 .mul (.lst (.cons (.c (.bool true)) .nil)) (.c (.int 3))) (.op2 .mul (.lst (.cons (.c (.bool false)) .nil)) (.c (.int 8)))))) .skip))))))
def k01_law_3 : DS := (.seq (.asg 10 (.call "is_order" (.cons (.bv 6) (.cons (.bv 9) .nil)) 0)) (.seq (.ife (.or (.not (.op1 .isBool (.bv 10))) (.op2 .ne (.bv 10) (.and (.var 3) (.op2 .inn (.bv 9) (.call "_law_orders" (.cons (.bv 6) .nil) 0))))) (.seq (.ret (.c (.bool false))) .skip) .skip) .skip))
def k01_law_4 : DE := (.not (.call "_law_whole" (.cons (.bv 11) (.cons (.c (.int 0)) (.cons (.op2 .sub (.op1 .len (.bv 7)) (.c (.int 1))) .nil))) 0))
def k01_law_5 : DS := (.seq (.asg 9 (.call "_law_of" (.cons (.bv 5) (.cons (.lst (.cons (.var 7) (.cons (.op1 .rev (.bv 7)) (.cons (.call "_law_spoiled" (.cons (.bv 5) (.cons (.bv 7) .nil)) 0) (.cons (.call "_law_any_value" (.cons (.bv 5) (.cons (.c (.int 2)) .nil)) 0) .nil))))) .nil)) 0)) (.seq (.asg 3 (.and (.op1 .isTup (.bv 9)) (.op2 .eq (.lc [11] (.bv 9) k01_law_4 (.var 11) [11]) (.lst .nil)))) k01_law_3))
def k01_law_6 : DS := (.seq (.asg 9 (.call "_law_of" (.cons (.bv 5) (.cons (.lst (.cons (.var 6) (.cons (.call "_law_spoiled" (.cons (.bv 5) (.cons (.bv 6) .nil)) 0) (.cons (.call "_law_spoiled" (.cons (.bv 5) (.cons (.bv 6) .nil)) 0) (.cons (.call "_law_any_value" (.cons (.bv 5) (.cons (.c (.int 3)) .nil)) 0) .nil))))) .nil)) 0)) (.seq (.asg 10 (.call "is_bundle" (.cons (.bv 9) .nil) 0)) (.seq (.ife (.or (.not (.op1 .isBool (.bv 10))) (.op2 .ne (.bv 10) (.call "_law_is_bundle" (.cons (.bv 9) .nil) 0))) (.seq (.ret (.c (.bool false))) .skip) .skip) k01_law_5)))
def k01_law_7 : DS := (.seq (.own 5 (.call "_law_bag" (.cons (.bv 0) (.cons (.bv 1) .nil)) 0)) (.seq (.asg 6 (.call "_law_any_bundle" (.cons (.bv 5) (.cons (.c (.int 5)) .nil)) 0)) (.seq (.asg 7 (.call "_law_of" (.cons (.bv 5) (.cons (.call "_law_orders" (.cons (.bv 6) .nil) 0) .nil)) 0)) (.seq (.for' [8] (.rng1 (.c (.int 8))) k01_law_6) .skip))))
def k01_d_law : DS := (.seq (.for' [1] (.rng1 (.op2 .max (.c (.int 4)) (.op2 .min (.c (.int 8)) (.op2 .add (.slen 0) (.c (.int 3)))))) k01_law_7) k01_law_2)
structure Gk01 (Γ : Gm) : Prop where
  law_bag : Γ.fn "_law_bag" = sp_bag
  law_bagF : Γ.fr "_law_bag" = true
  law_any_bundle : Γ.fn "_law_any_bundle" = sp_any
  law_any_bundleF : Γ.fr "_law_any_bundle" = false
  law_of : Γ.fn "_law_of" = sp_of
  law_ofF : Γ.fr "_law_of" = false
  law_orders : Γ.fn "_law_orders" = sp_ordersV
  law_ordersF : Γ.fr "_law_orders" = false
  is_bundle : Γ.fn "is_bundle" = sp_is_bundleV
  is_bundleF : Γ.fr "is_bundle" = false
  is_order : Γ.fn "is_order" = sp_is_order_ofV
  is_orderF : Γ.fr "is_order" = false
  law_spoiled : Γ.fn "_law_spoiled" = (sp_spoil 4)
  law_spoiledF : Γ.fr "_law_spoiled" = false
  law_any_value : Γ.fn "_law_any_value" = (sp_anyv 4)
  law_any_valueF : Γ.fr "_law_any_value" = false
  law_is_bundle : Γ.fn "_law_is_bundle" = sp_is_bundleV
  law_is_bundleF : Γ.fr "_law_is_bundle" = false
  law_whole : Γ.fn "_law_whole" = sp_is_integer
  law_wholeF : Γ.fr "_law_whole" = false
-- slots: 0 script, 1 k, 2 six, 3 good, 4 bad, 5 bag, 6 bundle, 7 order, 8 turn, 9 value, 10 found, 11 one
def gdV (B : Bun) : D → Bool
  | .tuple l => l.all fun d => intB d 0 ((B.maps.length : Int) - 1)
  | _ => false
theorem k01_last {Γ : Gm} (G : Gk01 Γ) {ns : List Int} {i : Int} {B : Bun} {c : Ct} {u : D} (hB : BunOk B) (hu : Wid 5 u) {s2 s3 s4 s7 s8 s10 : Sl} (e3 : s3 = .p (.bool (gdV B u))) (hc : BagC c) (K : DK)
    (hn : ∀ s10, K.nx [.sc ns, .p (.int i), s2, s3, s4, .o true c, .p B.d, s7, s8, .p u, s10, .un]) :
    semS Γ k01_law_3 K [.sc ns, .p (.int i), s2, s3, s4, .o true c, .p B.d, s7, s8, .p u, s10, .un] := by
  have m6 := hB.m6
  have kl := bun_kn hB
  subst e3
  simp [k01_law_3, G.is_order, G.is_orderF, sp_is_order_ofV]
  refine ⟨B, u, ⟨rfl, rfl⟩, hB, 5, hu, by omega, ?_⟩
  cases hg : gdV B u with
  | false =>
    have eo : ordV B u = false := by
      cases u <;> first | rfl | skip
      rename_i l
      have hg : (l.all fun d => intB d 0 ((B.maps.length : Int) - 1)) = false := hg
      show (_ && _) = false
      rw [hg]
      rfl
    rw [eo]
    rw [hg] at hn
    simp
    exact ⟨eqOk_ok .bool, by rw [if_pos (show PyData.eqv (.bool false) (.bool false) = true from rfl)]; exact hn _⟩
  | true =>
    have eo : ordV B u = (B.ords.map T).any fun e => PyData.eqv e u := by
      cases u <;> first | (cases hg; done) | skip
      rename_i l
      have hg : (l.all fun d => intB d 0 ((B.maps.length : Int) - 1)) = true := hg
      show (_ && _) = _
      rw [hg]
      rfl
    rw [eo]
    rw [hg] at hn
    simp [G.law_orders, G.law_ordersF, sp_ordersV]
    refine ⟨.int B.n, B.maps.map T, B.known, rfl, by rw [List.length_map]; omega, by omega, by rw [List.length_map]; exact bun_pairs hB, wid_in hu (by omega), ?_⟩
    rw [List.length_map, show ordersOf B.maps.length B.known = B.ords from rfl]
    generalize (B.ords.any _) = bb
    have eb : PyData.eqv (.bool bb) (.bool bb) = true := by cases bb <;> rfl
    exact ⟨eqOk_ok .bool, by rw [if_pos eb]; exact hn _⟩
theorem k01_turn {Γ : Gm} (G : Gk01 Γ) {ns : List Int} {i : Int} {B : Bun} {r : List Int} {c : Ct} (hB : BunOk B) (hr : r ∈ B.ords) (hc : BagC c) {s2 s3 s4 s8 s9 s10 : Sl} (K : DK)
    (hn : ∀ c' s3 v s10, BagC c' → K.nx [.sc ns, .p (.int i), s2, s3, s4, .o true c', .p B.d, .p (T r), s8, .p v, s10, .un]) :
    semS Γ k01_law_6 K [.sc ns, .p (.int i), s2, s3, s4, .o true c, .p B.d, .p (T r), s8, s9, s10, .un] := by
  have m6 := hB.m6
  have kl := bun_kn hB
  obtain ⟨hp, _⟩ := mem_orders.mp hr
  have hrl := hp.length_eq
  rw [rangeI_len] at hrl
  have ib := it_bun hB
  have ir : IT 1 (T r) := it_row (by omega) fun i hi => by have := mem_rangeI.mp (hp.mem_iff.mp hi); omega
  simp [k01_law_6, G.law_spoiled, G.law_spoiledF, sp_spoil]
  refine ⟨c, B.d, ⟨rfl, rfl⟩, hc, 3, ib, ⟨by omega, by omega⟩, fun w1 c1 h1 b1 => ?_⟩
  refine ⟨c1, B.d, ⟨rfl, rfl⟩, b1, 3, ib, ⟨by omega, by omega⟩, fun w2 c2 h2 b2 => ?_⟩
  simp [G.law_any_value, G.law_any_valueF, sp_anyv]
  refine ⟨c2, 3, ⟨rfl, rfl⟩, b2, by omega, fun w3 c3 h3 b3 => ?_⟩
  simp [G.law_of, G.law_ofF, sp_of]
  refine ⟨c3, _, ⟨rfl, rfl⟩, b3, by simp, by simp, fun v c4 hv b4 => ?_⟩
  have hv : Wid 5 v := by
    simp only [List.mem_cons, List.not_mem_nil, or_false] at hv
    rcases hv with rfl | rfl | rfl | rfl
    · exact ib.wid.up (by omega)
    · exact h1
    · exact h2
    · exact h3.up (by omega)
  simp [G.is_bundle, G.is_bundleF, sp_is_bundleV]
  refine ⟨⟨5, hv⟩, ?_⟩
  simp [G.law_is_bundle, G.law_is_bundleF, sp_is_bundleV]
  refine ⟨⟨5, hv⟩, ?_⟩
  generalize bunV v = bb
  have eb : PyData.eqv (.bool bb) (.bool bb) = true := by cases bb <;> rfl
  refine ⟨eqOk_ok .bool, ?_⟩
  rw [if_pos eb]
  have er : T r = .tuple (r.map .int) := rfl
  simp [k01_law_5, G.law_spoiled, G.law_spoiledF, sp_spoil, er]
  refine ⟨c4, T r, ⟨rfl, rfl⟩, b4, 1, ir, ⟨by omega, by omega⟩, fun w4 c5 h4 b5 => ?_⟩
  simp [G.law_any_value, G.law_any_valueF, sp_anyv]
  refine ⟨c5, 2, ⟨rfl, rfl⟩, b5, by omega, fun w5 c6 h5 b6 => ?_⟩
  simp [G.law_of, G.law_ofF, sp_of]
  refine ⟨c6, _, ⟨rfl, rfl⟩, b6, by simp, by simp, fun u c7 hu0 b7 => ?_⟩
  have hu : Wid 5 u := by
    simp only [List.mem_cons, List.not_mem_nil, or_false] at hu0
    rcases hu0 with rfl | rfl | rfl | rfl
    · exact ir.wid.up (by omega)
    · have z := (it_row (n := 0) (r := r.reverse) (by simp; omega) fun i hi => by have := mem_rangeI.mp (hp.mem_iff.mp (List.mem_reverse.mp hi)); omega).wid.up (m := 5) (by omega)
      unfold T at z
      rw [List.map_reverse] at z
      exact z
    · exact h4.up (by omega)
    · exact h5.up (by omega)
  clear hu0
  have last := fun s3 (e3 : s3 = Sl.p (.bool (gdV B u))) => k01_last G (ns := ns) (i := i) (s2 := s2) (s3 := s3) (s4 := s4) (s7 := .p (T r)) (s8 := s8) (s10 := .p (.bool bb)) hB hu e3 b7 K fun s10 => hn c7 s3 u s10 b7
  cases u <;> first | exact last _ rfl | skip
  rename_i l
  have hl := hu.items
  simp
  have eg : gdV B (.tuple l) = l.all fun d => intB d 0 ((B.maps.length : Int) - 1) := rfl
  refine lcL_map id (fun d => !intB d 0 ((B.maps.length : Int) - 1)) (fun z acc kk hz hl hkk => ?_) (by simp) (by rw [sz]; omega) ?_
  · simp [k01_law_4, G.law_whole, G.law_wholeF, sp_is_integer]
    refine ⟨z, _, _, ⟨rfl, rfl, rfl⟩, ?_⟩
    rw [hrl]
    cases hz2 : intB z 0 ((B.maps.length : Int) - 1) with
    | true =>
      rw [hz2] at hkk
      exact hkk
    | false =>
      rw [hz2] at hkk
      exact ⟨hl, hkk⟩
  · refine ⟨rfl, by omega, .inr (by decide), ?_⟩
    rw [List.map_id, eqv_list_nil, filt_emp]
    exact last _ (by rw [eg]; simp)
theorem k01_body {Γ : Gm} (G : Gk01 Γ) {ns : List Int} {i : Int} (i0 : 0 ≤ i) (i1 : i < 1000) {s2 s3 s4 s5 s6 s7 s8 s9 s10 : Sl} (K : DK) (h9 : NoO s9) (hn : ∀ s1 s2 s3 s4 s5 s6 s7 s8 s9 s10, NoO s9 → K.nx [.sc ns, s1, s2, s3, s4, s5, s6, s7, s8, s9, s10, .un]) :
    semS Γ k01_law_7 K [.sc ns, .p (.int i), s2, s3, s4, s5, s6, s7, s8, s9, s10, .un] := by
  simp [k01_law_7, G.law_bag, G.law_bagF, sp_bag]
  refine ⟨ns, i, ⟨rfl, rfl⟩, i0, i1, fun x s => ?_⟩
  simp [G.law_any_bundle, G.law_any_bundleF, sp_any]
  refine ⟨_, 5, ⟨rfl, rfl⟩, ⟨x, s, rfl⟩, by omega, by omega, fun B c hB _ hc => ?_⟩
  have m6 := hB.m6
  have kl := bun_kn hB
  simp [G.law_orders, G.law_ordersF, sp_ordersV, G.law_of, G.law_ofF, sp_of]
  refine ⟨.int B.n, B.maps.map T, B.known, rfl, by rw [List.length_map]; omega, by omega, by rw [List.length_map]; exact bun_pairs hB, ?_⟩
  rw [List.length_map, show ordersOf B.maps.length B.known = B.ords from rfl]
  refine ⟨c, _, ⟨rfl, rfl⟩, hc, by simpa using bun_ne hB, by have := ords_len B hB; rw [List.length_map]; omega, fun d c1 hd b1 => ?_⟩
  obtain ⟨r, hr, rfl⟩ := List.mem_map.mp hd
  refine forL_ind (fun ys ρ => ∃ (c' : Ct) (s3 s8 s9 s10 : Sl), NoO s9 ∧ BagC c' ∧ ρ = [Sl.sc ns, Sl.p (PyData.int i), s2, s3, s4, Sl.o true c', Sl.p B.d, Sl.p (T r), s8, s9, s10, Sl.un]) ?_ ?_ ⟨c1, s3, s8, s9, s10, h9, b1, rfl⟩
  · rintro y ys ρ nx ⟨c', s3, s8, s9, s10, _, bc, rfl⟩ hnx
    exact k01_turn G hB hr bc _ fun c2 s3 v s10 b2 => hnx _ ⟨c2, s3, _, .p v, s10, .p, b2, rfl⟩
  · rintro ρ ⟨c', s3, s8, s9, s10, h9, bc, rfl⟩
    exact hn _ _ _ _ _ _ _ _ _ _ h9
def widB : Nat → D → Bool
  | n + 1, .list l => decide (l.length ≤ 1000) && l.all (widB n)
  | n + 1, .tuple l => decide (l.length ≤ 1000) && l.all (widB n)
  | 0, .list _ => false
  | 0, .tuple _ => false
  | _, .dict _ => false
  | _, _ => true
theorem widB_ok : ∀ n d, widB n d = true → Wid n d
  | n, .none, _ => .none
  | n, .bool _, _ => .bool
  | n, .int _, _ => .int
  | n, .str _, _ => .str
  | 0, .list _, h => nomatch h
  | 0, .tuple _, h => nomatch h
  | 0, .dict _, h => nomatch h
  | _ + 1, .dict _, h => nomatch h
  | n + 1, .list l, h => by
    unfold widB at h
    rw [Bool.and_eq_true, decide_eq_true_eq, List.all_eq_true] at h
    exact .list h.1 fun d hd => widB_ok n d (h.2 d hd)
  | n + 1, .tuple l, h => by
    unfold widB at h
    rw [Bool.and_eq_true, decide_eq_true_eq, List.all_eq_true] at h
    exact .tuple h.1 fun d hd => widB_ok n d (h.2 d hd)
theorem wid_mem {L : List D} (h : L.all (widB 3) = true) {z : D} (hz : z ∈ L) : ∃ n, Wid n z := ⟨3, widB_ok _ _ (List.all_eq_true.mp h z hz)⟩
theorem last11 {k : D → List Ct → Prop} (hk : k (.bool true) []) (L : List D) (h : L.map bunV = [true, true, true, false, false, false, false, false, false, false, false]) :
    EqOk (.list (L.map fun d => .bool (bunV d))) (.list [.bool true, .bool true, .bool true, .bool false, .bool false, .bool false, .bool false, .bool false, .bool false, .bool false, .bool false]) ∧
    k (.bool (PyData.eqv (.list (L.map fun d => .bool (bunV d))) (.list [.bool true, .bool true, .bool true, .bool false, .bool false, .bool false, .bool false, .bool false, .bool false, .bool false, .bool false]) != false)) [] := by
  rw [show (L.map fun d => PyData.bool (bunV d)) = (L.map bunV).map .bool by rw [List.map_map]; rfl, h]
  exact ⟨.inr (by decide), hk⟩
theorem ok_k01 {Γ : Gm} (G : Gk01 Γ) : ∀ as k x, sp_law as k x → semS Γ k01_d_law (dkOf false as k x) (ro0 12 as) := by
  rintro as k x ⟨ns, rfl, hk⟩
  simp [k01_d_law, ro0]
  refine ⟨by (repeat' split) <;> omega, ?_⟩
  refine forL_ind (fun ys ρ => ∃ (s1 s2 s3 s4 s5 s6 s7 s8 s9 s10 : Sl), NoO s9 ∧ (∀ y ∈ ys, ∃ i : Int, y = .int i ∧ 0 ≤ i ∧ i < 1000) ∧ ρ = [.sc ns, s1, s2, s3, s4, s5, s6, s7, s8, s9, s10, .un]) ?_ ?_ ⟨.un, .un, .un, .un, .un, .un, .un, .un, .un, .un, .un, rng_small (by (repeat' split) <;> omega), rfl⟩
  · rintro y ys ρ nx ⟨s1, s2, s3, s4, s5, s6, s7, s8, s9, s10, h9, hy, rfl⟩ hnx
    obtain ⟨i, rfl, i0, i1⟩ := hy y List.mem_cons_self
    exact k01_body G i0 i1 _ h9 fun s1 s2 s3 s4 s5 s6 s7 s8 s9 s10 h9 => hnx _ ⟨s1, s2, s3, s4, s5, s6, s7, s8, s9, s10, h9, fun z hz => hy z (List.mem_cons_of_mem _ hz), rfl⟩
  · rintro ρ ⟨s1, s2, s3, s4, s5, s6, s7, s8, s9, s10, h9, hy, rfl⟩
    have et : takeI 6 1 = 1 := rfl
    simp [k01_law_2, idx0, idx1, idx2, et]
    refine ⟨by rw [sz]; omega, by rw [sz]; omega, by rw [sz]; omega, by rw [sz]; omega, h9.no, ?_⟩
    refine lcL_map (fun d => .bool (bunV d)) (fun _ => true) (fun z acc kk hz hl hkk => ?_) (by simp) (by rw [sz]; simp) ?_
    · simp [k01_law_1, G.is_bundle, G.is_bundleF, sp_is_bundleV]
      refine ⟨wid_mem ?_ hz, hl, hkk⟩
      decide +kernel
    · rw [filter_tt]
      refine ⟨rfl, by omega, rfl, by omega, by omega, by omega, rfl, by omega, rfl, by omega, by omega, by omega, by rw [sz]; omega, ?_⟩
      refine last11 hk _ ?_
      decide +kernel
end DL

end

namespace Fink01
open PySem PySem.Spec PyProof.Rows L2 DL
def top (i : Nat) : Stmt := PySem.Challenge.pw_lostorder_k01_bundles_and_orders_recogni.main.body.getD i (.Pass ⟨0, 0, 0, 0⟩)
def FRS : List Str := ["_law_bag"]
def FRE : List Str := (["all", "bool", "dict", "enumerate", "int", "isinstance", "len", "list", "max", "min"] : List Str) ++ (["range", "sorted", "str", "tuple", "zip"] : List Str)
def CST : List (Str × D) := [("MOST_DEEDS", .int 6), ("MOST_SIZE", .int 4)]
def XCS : List Str := (["InvalidBundle"] : List Str)
def HDS : List Str := []
def N_law_take : List Str := ["bag", "count", "mixed", "found"]
def C_law_take : CE := ⟨N_law_take, defScope (top 18), fun _ => true, [], FRS, FRE, CST, XCS, HDS⟩
theorem ck_law_take : kSs C_law_take d_law_take (defBody (top 18)) = true := by kernel_rfl
def N_law_deed : List Str := ["bag", "size", "way", "one", "other", "both", "state"]
def C_law_deed : CE := ⟨N_law_deed, defScope (top 20), fun _ => true, [("_law_take", 0)], FRS, FRE, CST, XCS, HDS⟩
theorem ck_law_deed : kSs C_law_deed d_law_deed (defBody (top 20)) = true := by kernel_rfl
def N_law_mixed : List Str := ["bag", "items", "left", "found"]
def C_law_mixed : CE := ⟨N_law_mixed, defScope (top 21), fun _ => true, [("_law_take", 0)], FRS, FRE, CST, XCS, HDS⟩
theorem ck_law_mixed : kSs C_law_mixed d_law_mixed (defBody (top 21)) = true := by kernel_rfl
def N_law_of : List Str := ["bag", "some"]
def C_law_of : CE := ⟨N_law_of, defScope (top 19), fun _ => true, [("_law_take", 0)], FRS, FRE, CST, XCS, HDS⟩
theorem ck_law_of : kSs C_law_of d_law_of (defBody (top 19)) = true := by kernel_rfl
def N_law_bundle : List Str := ["bag", "size", "many", "pool", "deeds", "at", "order", "part", "known", "turn", "later"]
def C_law_bundle : CE := ⟨N_law_bundle, defScope (top 22), fun _ => true, [("_law_deed", 0), ("_law_mixed", 0), ("_law_of", 0), ("_law_take", 0)], FRS, FRE, CST, XCS, HDS⟩
theorem ck_law_bundle : kSs C_law_bundle d_law_bundle (defBody (top 22)) = true := by kernel_rfl
def N_law_any_bundle : List Str := ["bag", "most", "size"]
def C_law_any_bundle : CE := ⟨N_law_any_bundle, defScope (top 23), fun _ => true, [("_law_bundle", 0), ("_law_of", 0), ("_law_take", 0)], FRS, FRE, CST, XCS, HDS⟩
theorem ck_law_any_bundle : kSs C_law_any_bundle d_law_any_bundle (defBody (top 23)) = true := by kernel_rfl
def N_law_any_value : List Str := ["bag", "depth", "kind", "items", "k"]
def C_law_any_value : CE := ⟨N_law_any_value, defScope (top 27), fun _ => true, [("_law_any_value", 0), ("_law_of", 0), ("_law_take", 0)], FRS, FRE, CST, XCS, HDS⟩
theorem ck_law_any_value : kSs C_law_any_value d_law_any_value (defBody (top 27)) = true := by kernel_rfl
def N_law_bag : List Str := ["script", "k", "cell", "first", "seed"]
def C_law_bag : CE := ⟨N_law_bag, defScope (top 17), fun _ => true, [], FRS, FRE, CST, XCS, HDS⟩
theorem ck_law_bag : kSs C_law_bag d_law_bag (defBody (top 17)) = true := by kernel_rfl
def N_law_rows : List Str := ["many", "found", "number", "longer", "row", "at"]
def C_law_rows : CE := ⟨N_law_rows, defScope (top 24), fun _ => true, [], FRS, FRE, CST, XCS, HDS⟩
theorem ck_law_rows : kSs C_law_rows d_law_rows (defBody (top 24)) = true := by kernel_rfl
def N_law_stands : List Str := ["row", "pairs", "place", "pair", "at", "number"]
def C_law_stands : CE := ⟨N_law_stands, defScope (top 25), fun _ => true, [], FRS, FRE, CST, XCS, HDS⟩
theorem ck_law_stands : kSs C_law_stands d_law_stands (defBody (top 25)) = true := by kernel_rfl
def N_law_orders : List Str := ["bundle", "row"]
def C_law_orders : CE := ⟨N_law_orders, defScope (top 26), fun _ => true, [("_law_rows", 0), ("_law_stands", 0)], FRS, FRE, CST, XCS, HDS⟩
theorem ck_law_orders : kSs C_law_orders v_d_law_orders (defBody (top 26)) = true := by kernel_rfl
def N_law_whole : List Str := ["value", "low", "high"]
def C_law_whole : CE := ⟨N_law_whole, defScope (top 29), fun _ => true, [], FRS, FRE, CST, XCS, HDS⟩
theorem ck_law_whole : kSs C_law_whole w_d_law_whole (defBody (top 29)) = true := by kernel_rfl
def N_law_is_bundle : List Str := ["value", "deed", "pair", "size", "deeds", "known", "at", "one"]
def C_law_is_bundle : CE := ⟨N_law_is_bundle, defScope (top 30), fun _ => true, [("_law_orders", 0), ("_law_whole", 0)], FRS, FRE, CST, XCS, HDS⟩
theorem ck_law_is_bundle : kSs C_law_is_bundle w_d_law_is_bundle (defBody (top 30)) = true := by kernel_rfl
def N_law_spoiled : List Str := ["bag", "value", "some", "at", "way"]
def C_law_spoiled : CE := ⟨N_law_spoiled, defScope (top 28), fun _ => true, [("_law_any_value", 0), ("_law_of", 0), ("_law_spoiled", 0), ("_law_take", 0)], FRS, FRE, CST, XCS, HDS⟩
theorem ck_law_spoiled : kSs C_law_spoiled d_law_spoiled (defBody (top 28)) = true := by kernel_rfl
def N_ascends : List Str := ["values", "one", "other"]
def C_ascends : CE := ⟨N_ascends, defScope (top 9), fun _ => true, [], FRS, FRE, CST, XCS, HDS⟩
theorem ck_ascends : kSs C_ascends d_ascends (defBody (top 9)) = true := by kernel_rfl
def N_is_integer : List Str := ["value", "low", "high"]
def C_is_integer : CE := ⟨N_is_integer, defScope (top 6), fun _ => true, [], FRS, FRE, CST, XCS, HDS⟩
theorem ck_is_integer : kSs C_is_integer d_is_integer (defBody (top 6)) = true := by kernel_rfl
def N_is_map : List Str := ["size", "value", "one"]
def C_is_map : CE := ⟨N_is_map, defScope (top 7), fun _ => true, [("is_integer", 0)], FRS, FRE, CST, XCS, HDS⟩
theorem ck_is_map : kSs C_is_map d_is_map (defBody (top 7)) = true := by kernel_rfl
def N_is_pair : List Str := ["value", "many", "one"]
def C_is_pair : CE := ⟨N_is_pair, defScope (top 8), fun _ => true, [("is_integer", 0)], FRS, FRE, CST, XCS, HDS⟩
theorem ck_is_pair : kSs C_is_pair d_is_pair (defBody (top 8)) = true := by kernel_rfl
def N_orders_of : List Str := ["many", "known", "found", "turn", "longer", "row", "deed", "ahead", "one", "other"]
def C_orders_of : CE := ⟨N_orders_of, defScope (top 10), fun _ => true, [], FRS, FRE, CST, XCS, HDS⟩
theorem ck_orders_of : kSs C_orders_of d_orders_of (defBody (top 10)) = true := by kernel_rfl
def N_is_bundle : List Str := ["value", "size", "deeds", "known", "deed", "pair"]
def C_is_bundle : CE := ⟨N_is_bundle, defScope (top 11), fun _ => true, [("ascends", 0), ("is_integer", 0), ("is_map", 0), ("is_pair", 0), ("orders_of", 0)], FRS, FRE, CST, XCS, HDS⟩
theorem ck_is_bundle : kSs C_is_bundle v_d_is_bundle (defBody (top 11)) = true := by kernel_rfl
def N_all_orders : List Str := ["bundle"]
def C_all_orders : CE := ⟨N_all_orders, defScope (top 12), fun _ => true, [("orders_of", 0)], FRS, FRE, CST, XCS, HDS⟩
theorem ck_all_orders : kSs C_all_orders d_all_orders (defBody (top 12)) = true := by kernel_rfl
def N_is_order_of : List Str := ["bundle", "value", "one"]
def C_is_order_of : CE := ⟨N_is_order_of, defScope (top 14), fun _ => true, [("all_orders", 0), ("is_integer", 0)], FRS, FRE, CST, XCS, HDS⟩
theorem ck_is_order_of : kSs C_is_order_of o_d_is_order_of (defBody (top 14)) = true := by kernel_rfl
def N_need_bundle : List Str := ["value"]
def C_need_bundle : CE := ⟨N_need_bundle, defScope (top 13), fun _ => true, [("is_bundle", 0)], FRS, FRE, CST, XCS, HDS⟩
theorem ck_need_bundle : kSs C_need_bundle o_d_need_bundle (defBody (top 13)) = true := by kernel_rfl
def N_is_order : List Str := ["bundle", "value"]
def C_is_order : CE := ⟨N_is_order, defScope (top 15), fun _ => true, [("is_order_of", 0), ("need_bundle", 0)], FRS, FRE, CST, XCS, HDS⟩
theorem ck_is_order : kSs C_is_order o_d_is_order (defBody (top 15)) = true := by kernel_rfl
def N_law : List Str := ["script", "k", "six", "good", "bad", "bag", "bundle", "order", "turn", "value", "found", "one"]
def C_law : CE := ⟨N_law, defScope (top 31), fun _ => true, [("_law_any_bundle", 0), ("_law_any_value", 0), ("_law_bag", 0), ("_law_is_bundle", 0), ("_law_of", 0), ("_law_orders", 0), ("_law_spoiled", 0), ("_law_whole", 0), ("is_bundle", 0), ("is_order", 0)], FRS, FRE, CST, XCS, HDS⟩
theorem ck_law : kSs C_law k01_d_law (defBody (top 31)) = true := by kernel_rfl
def tab : List (Str × DSp) := ([("_law_take", sp_take), ("_law_deed", sp_deed), ("_law_mixed", sp_mixed), ("_law_of", sp_of), ("_law_bundle", sp_bundle), ("_law_any_bundle", sp_any), ("_law_any_value", (sp_anyv 4)), ("_law_bag", sp_bag), ("_law_rows", sp_rows), ("_law_stands", sp_stands)] : List (Str × DSp)) ++ ([("_law_orders", sp_ordersV), ("_law_whole", sp_is_integer), ("_law_is_bundle", sp_is_bundleV), ("_law_spoiled", (sp_spoil 4)), ("ascends", sp_ascends), ("is_integer", sp_is_integer), ("is_map", sp_is_map), ("is_pair", sp_is_pair), ("orders_of", sp_orders_of), ("is_bundle", sp_is_bundleV)] : List (Str × DSp)) ++ ([("all_orders", sp_all_orders), ("is_order_of", sp_is_order_ofV), ("need_bundle", sp_need_bundle), ("is_order", sp_is_order_ofV), ("law", sp_law)] : List (Str × DSp))
def Γ : Gm := ⟨fun x => (tab.lookup x).getD fun _ _ _ => False, fun x => decide (x ∈ FRS), fun x => CST.lookup x, [], fun _ _ => true⟩
theorem fn_law_take : Γ.fn "_law_take" = sp_take := rfl
theorem fr_law_take : Γ.fr "_law_take" = false := rfl
theorem fn_law_deed : Γ.fn "_law_deed" = sp_deed := rfl
theorem fr_law_deed : Γ.fr "_law_deed" = false := rfl
theorem fn_law_mixed : Γ.fn "_law_mixed" = sp_mixed := rfl
theorem fr_law_mixed : Γ.fr "_law_mixed" = false := rfl
theorem fn_law_of : Γ.fn "_law_of" = sp_of := rfl
theorem fr_law_of : Γ.fr "_law_of" = false := rfl
theorem fn_law_bundle : Γ.fn "_law_bundle" = sp_bundle := rfl
theorem fr_law_bundle : Γ.fr "_law_bundle" = false := rfl
theorem fn_law_any_bundle : Γ.fn "_law_any_bundle" = sp_any := rfl
theorem fr_law_any_bundle : Γ.fr "_law_any_bundle" = false := rfl
theorem fn_law_any_value : Γ.fn "_law_any_value" = (sp_anyv 4) := rfl
theorem fr_law_any_value : Γ.fr "_law_any_value" = false := rfl
theorem fn_law_bag : Γ.fn "_law_bag" = sp_bag := rfl
theorem fr_law_bag : Γ.fr "_law_bag" = true := rfl
theorem fn_law_rows : Γ.fn "_law_rows" = sp_rows := rfl
theorem fr_law_rows : Γ.fr "_law_rows" = false := rfl
theorem fn_law_stands : Γ.fn "_law_stands" = sp_stands := rfl
theorem fr_law_stands : Γ.fr "_law_stands" = false := rfl
theorem fn_law_orders : Γ.fn "_law_orders" = sp_ordersV := rfl
theorem fr_law_orders : Γ.fr "_law_orders" = false := rfl
theorem fn_law_whole : Γ.fn "_law_whole" = sp_is_integer := rfl
theorem fr_law_whole : Γ.fr "_law_whole" = false := rfl
theorem fn_law_is_bundle : Γ.fn "_law_is_bundle" = sp_is_bundleV := rfl
theorem fr_law_is_bundle : Γ.fr "_law_is_bundle" = false := rfl
theorem fn_law_spoiled : Γ.fn "_law_spoiled" = (sp_spoil 4) := rfl
theorem fr_law_spoiled : Γ.fr "_law_spoiled" = false := rfl
theorem fn_ascends : Γ.fn "ascends" = sp_ascends := rfl
theorem fr_ascends : Γ.fr "ascends" = false := rfl
theorem fn_is_integer : Γ.fn "is_integer" = sp_is_integer := rfl
theorem fr_is_integer : Γ.fr "is_integer" = false := rfl
theorem fn_is_map : Γ.fn "is_map" = sp_is_map := rfl
theorem fr_is_map : Γ.fr "is_map" = false := rfl
theorem fn_is_pair : Γ.fn "is_pair" = sp_is_pair := rfl
theorem fr_is_pair : Γ.fr "is_pair" = false := rfl
theorem fn_orders_of : Γ.fn "orders_of" = sp_orders_of := rfl
theorem fr_orders_of : Γ.fr "orders_of" = false := rfl
theorem fn_is_bundle : Γ.fn "is_bundle" = sp_is_bundleV := rfl
theorem fr_is_bundle : Γ.fr "is_bundle" = false := rfl
theorem fn_all_orders : Γ.fn "all_orders" = sp_all_orders := rfl
theorem fr_all_orders : Γ.fr "all_orders" = false := rfl
theorem fn_is_order_of : Γ.fn "is_order_of" = sp_is_order_ofV := rfl
theorem fr_is_order_of : Γ.fr "is_order_of" = false := rfl
theorem fn_need_bundle : Γ.fn "need_bundle" = sp_need_bundle := rfl
theorem fr_need_bundle : Γ.fr "need_bundle" = false := rfl
theorem fn_is_order : Γ.fn "is_order" = sp_is_order_ofV := rfl
theorem fr_is_order : Γ.fr "is_order" = false := rfl
theorem fn_law : Γ.fn "law" = sp_law := rfl
theorem fr_law : Γ.fr "law" = false := rfl
def fa : List He.Fa := ([.glo "_law_take", .glo "_law_deed", .glo "_law_mixed", .glo "_law_of", .glo "_law_bundle", .glo "_law_any_bundle", .glo "_law_any_value", .glo "_law_bag", .glo "_law_rows", .glo "_law_stands"] : List He.Fa) ++ ([.glo "_law_orders", .glo "_law_whole", .glo "_law_is_bundle", .glo "_law_spoiled", .glo "ascends", .glo "is_integer", .glo "is_map", .glo "is_pair", .glo "orders_of", .glo "is_bundle"] : List He.Fa) ++ ([.glo "all_orders", .glo "is_order_of", .glo "need_bundle", .glo "is_order", .glo "law", .free "all", .free "bool", .free "dict", .free "enumerate", .free "int"] : List He.Fa) ++ ([.free "isinstance", .free "len", .free "list", .free "max", .free "min", .free "range", .free "sorted", .free "str", .free "tuple", .free "zip"] : List He.Fa) ++ ([.int "MOST_DEEDS" 6, .int "MOST_SIZE" 4, .exc "InvalidBundle", .glo "InvalidBundle"] : List He.Fa)
def e_law_take : He.DefD := ⟨("_law_take", none), "_law_take", "_law_take", defArgs (top 18), defBody (top 18), defScope (top 18), [], []⟩
def e_law_deed : He.DefD := ⟨("_law_deed", none), "_law_deed", "_law_deed", defArgs (top 20), defBody (top 20), defScope (top 20), [], []⟩
def e_law_mixed : He.DefD := ⟨("_law_mixed", none), "_law_mixed", "_law_mixed", defArgs (top 21), defBody (top 21), defScope (top 21), [], []⟩
def e_law_of : He.DefD := ⟨("_law_of", none), "_law_of", "_law_of", defArgs (top 19), defBody (top 19), defScope (top 19), [], []⟩
def e_law_bundle : He.DefD := ⟨("_law_bundle", none), "_law_bundle", "_law_bundle", defArgs (top 22), defBody (top 22), defScope (top 22), [], []⟩
def e_law_any_bundle : He.DefD := ⟨("_law_any_bundle", none), "_law_any_bundle", "_law_any_bundle", defArgs (top 23), defBody (top 23), defScope (top 23), [], []⟩
def e_law_any_value : He.DefD := ⟨("_law_any_value", none), "_law_any_value", "_law_any_value", defArgs (top 27), defBody (top 27), defScope (top 27), [], []⟩
def e_law_bag : He.DefD := ⟨("_law_bag", none), "_law_bag", "_law_bag", defArgs (top 17), defBody (top 17), defScope (top 17), [], []⟩
def e_law_rows : He.DefD := ⟨("_law_rows", none), "_law_rows", "_law_rows", defArgs (top 24), defBody (top 24), defScope (top 24), [], []⟩
def e_law_stands : He.DefD := ⟨("_law_stands", none), "_law_stands", "_law_stands", defArgs (top 25), defBody (top 25), defScope (top 25), [], []⟩
def e_law_orders : He.DefD := ⟨("_law_orders", none), "_law_orders", "_law_orders", defArgs (top 26), defBody (top 26), defScope (top 26), [], []⟩
def e_law_whole : He.DefD := ⟨("_law_whole", none), "_law_whole", "_law_whole", defArgs (top 29), defBody (top 29), defScope (top 29), [], []⟩
def e_law_is_bundle : He.DefD := ⟨("_law_is_bundle", none), "_law_is_bundle", "_law_is_bundle", defArgs (top 30), defBody (top 30), defScope (top 30), [], []⟩
def e_law_spoiled : He.DefD := ⟨("_law_spoiled", none), "_law_spoiled", "_law_spoiled", defArgs (top 28), defBody (top 28), defScope (top 28), [], []⟩
def e_ascends : He.DefD := ⟨("ascends", none), "ascends", "ascends", defArgs (top 9), defBody (top 9), defScope (top 9), [], []⟩
def e_is_integer : He.DefD := ⟨("is_integer", none), "is_integer", "is_integer", defArgs (top 6), defBody (top 6), defScope (top 6), [], []⟩
def e_is_map : He.DefD := ⟨("is_map", none), "is_map", "is_map", defArgs (top 7), defBody (top 7), defScope (top 7), [], []⟩
def e_is_pair : He.DefD := ⟨("is_pair", none), "is_pair", "is_pair", defArgs (top 8), defBody (top 8), defScope (top 8), [], []⟩
def e_orders_of : He.DefD := ⟨("orders_of", none), "orders_of", "orders_of", defArgs (top 10), defBody (top 10), defScope (top 10), [], []⟩
def e_is_bundle : He.DefD := ⟨("is_bundle", none), "is_bundle", "is_bundle", defArgs (top 11), defBody (top 11), defScope (top 11), [], []⟩
def e_all_orders : He.DefD := ⟨("all_orders", none), "all_orders", "all_orders", defArgs (top 12), defBody (top 12), defScope (top 12), [], []⟩
def e_is_order_of : He.DefD := ⟨("is_order_of", none), "is_order_of", "is_order_of", defArgs (top 14), defBody (top 14), defScope (top 14), [], []⟩
def e_need_bundle : He.DefD := ⟨("need_bundle", none), "need_bundle", "need_bundle", defArgs (top 13), defBody (top 13), defScope (top 13), [], []⟩
def e_is_order : He.DefD := ⟨("is_order", none), "is_order", "is_order", defArgs (top 15), defBody (top 15), defScope (top 15), [], []⟩
def e_law : He.DefD := ⟨("law", none), "law", "law", defArgs (top 31), defBody (top 31), defScope (top 31), [], []⟩
def fn : List He.DefD := ([e_law_take, e_law_deed, e_law_mixed, e_law_of, e_law_bundle, e_law_any_bundle, e_law_any_value, e_law_bag, e_law_rows, e_law_stands] : List He.DefD) ++ ([e_law_orders, e_law_whole, e_law_is_bundle, e_law_spoiled, e_ascends, e_is_integer, e_is_map, e_is_pair, e_orders_of, e_is_bundle] : List He.DefD) ++ ([e_all_orders, e_is_order_of, e_need_bundle, e_is_order, e_law] : List He.DefD)
abbrev R : PySem.W.OpenRow := PySem.W.OpenLaw.row PySem.Challenge.rw_lostorder_k01_bundles_and_orders_recogni
abbrev hk : PySem.W.Hook := He.hookD 4 fa fn
def ob (s : PySem.W.SharedT) : He.AlD := He.obsDG 4 fa fn (HandSHeadRun.getT s)
theorem ob_eq (s : PySem.W.SharedT) : ob s = hk.obs s.abs := He.obsDG_eq (HandSHeadRun.getT_eq s)
def loose : List PySem.Str := (["OrderError", "InvalidBundle", "MOST_SIZE", "MOST_DEEDS", "is_integer", "is_map", "is_pair", "ascends", "orders_of", "is_bundle"] : List PySem.Str) ++ (["all_orders", "need_bundle", "is_order_of", "is_order", "_law_bag", "_law_take", "_law_of", "_law_deed", "_law_mixed", "_law_bundle"] : List PySem.Str) ++ (["_law_any_bundle", "_law_rows", "_law_stands", "_law_orders", "_law_any_value", "_law_spoiled", "_law_whole", "_law_is_bundle"] : List PySem.Str)
theorem run (w : World) : HandSHeadRun.RunEq R (PySem.W.view R.prog [31]) hk ob 4000 loose w := by
  intro os
  kernel_rfl
section
variable {P : Program} {w : World} {K : PySem.W.Frag} {mg : Str → Option Value} {base h : Heap}
theorem sc_law_take : FnScope N_law_take ["bag", "count"] (defScope (top 18)) := ⟨rfl, rfl, rfl, by decide +kernel, rfl, by decide +kernel, by decide +kernel⟩
theorem ar_law_take : ∀ as k x, sp_take as k x → as.length = 2 := by
  intro as k x h
  unfold sp_take at h
  first
    | (obtain ⟨_, rfl, _⟩ := h; rfl)
    | (obtain ⟨_, _, rfl, _⟩ := h; rfl)
    | (obtain ⟨_, _, _, rfl, _⟩ := h; rfl)
    | (obtain ⟨_, _, _, _, rfl, _⟩ := h; rfl)
    | (obtain ⟨_, _, _, _, _, rfl, _⟩ := h; rfl)
theorem sc_law_deed : FnScope N_law_deed ["bag", "size"] (defScope (top 20)) := ⟨rfl, rfl, rfl, by decide +kernel, rfl, by decide +kernel, by decide +kernel⟩
theorem ar_law_deed : ∀ as k x, sp_deed as k x → as.length = 2 := by
  intro as k x h
  unfold sp_deed at h
  first
    | (obtain ⟨_, rfl, _⟩ := h; rfl)
    | (obtain ⟨_, _, rfl, _⟩ := h; rfl)
    | (obtain ⟨_, _, _, rfl, _⟩ := h; rfl)
    | (obtain ⟨_, _, _, _, rfl, _⟩ := h; rfl)
    | (obtain ⟨_, _, _, _, _, rfl, _⟩ := h; rfl)
theorem sc_law_mixed : FnScope N_law_mixed ["bag", "items"] (defScope (top 21)) := ⟨rfl, rfl, rfl, by decide +kernel, rfl, by decide +kernel, by decide +kernel⟩
theorem ar_law_mixed : ∀ as k x, sp_mixed as k x → as.length = 2 := by
  intro as k x h
  unfold sp_mixed at h
  first
    | (obtain ⟨_, rfl, _⟩ := h; rfl)
    | (obtain ⟨_, _, rfl, _⟩ := h; rfl)
    | (obtain ⟨_, _, _, rfl, _⟩ := h; rfl)
    | (obtain ⟨_, _, _, _, rfl, _⟩ := h; rfl)
    | (obtain ⟨_, _, _, _, _, rfl, _⟩ := h; rfl)
theorem sc_law_of : FnScope N_law_of ["bag", "some"] (defScope (top 19)) := ⟨rfl, rfl, rfl, by decide +kernel, rfl, by decide +kernel, by decide +kernel⟩
theorem ar_law_of : ∀ as k x, sp_of as k x → as.length = 2 := by
  intro as k x h
  unfold sp_of at h
  first
    | (obtain ⟨_, rfl, _⟩ := h; rfl)
    | (obtain ⟨_, _, rfl, _⟩ := h; rfl)
    | (obtain ⟨_, _, _, rfl, _⟩ := h; rfl)
    | (obtain ⟨_, _, _, _, rfl, _⟩ := h; rfl)
    | (obtain ⟨_, _, _, _, _, rfl, _⟩ := h; rfl)
theorem sc_law_bundle : FnScope N_law_bundle ["bag", "size", "many"] (defScope (top 22)) := ⟨rfl, rfl, rfl, by decide +kernel, rfl, by decide +kernel, by decide +kernel⟩
theorem ar_law_bundle : ∀ as k x, sp_bundle as k x → as.length = 3 := by
  intro as k x h
  unfold sp_bundle at h
  first
    | (obtain ⟨_, rfl, _⟩ := h; rfl)
    | (obtain ⟨_, _, rfl, _⟩ := h; rfl)
    | (obtain ⟨_, _, _, rfl, _⟩ := h; rfl)
    | (obtain ⟨_, _, _, _, rfl, _⟩ := h; rfl)
    | (obtain ⟨_, _, _, _, _, rfl, _⟩ := h; rfl)
theorem sc_law_any_bundle : FnScope N_law_any_bundle ["bag", "most"] (defScope (top 23)) := ⟨rfl, rfl, rfl, by decide +kernel, rfl, by decide +kernel, by decide +kernel⟩
theorem ar_law_any_bundle : ∀ as k x, sp_any as k x → as.length = 2 := by
  intro as k x h
  unfold sp_any at h
  first
    | (obtain ⟨_, rfl, _⟩ := h; rfl)
    | (obtain ⟨_, _, rfl, _⟩ := h; rfl)
    | (obtain ⟨_, _, _, rfl, _⟩ := h; rfl)
    | (obtain ⟨_, _, _, _, rfl, _⟩ := h; rfl)
    | (obtain ⟨_, _, _, _, _, rfl, _⟩ := h; rfl)
theorem sc_law_any_value : FnScope N_law_any_value ["bag", "depth"] (defScope (top 27)) := ⟨rfl, rfl, rfl, by decide +kernel, rfl, by decide +kernel, by decide +kernel⟩
theorem ar_law_any_value : ∀ j as k x, sp_anyv j as k x → as.length = 2 := by
  intro j as k x h
  unfold sp_anyv at h
  first
    | (obtain ⟨_, rfl, _⟩ := h; rfl)
    | (obtain ⟨_, _, rfl, _⟩ := h; rfl)
    | (obtain ⟨_, _, _, rfl, _⟩ := h; rfl)
    | (obtain ⟨_, _, _, _, rfl, _⟩ := h; rfl)
    | (obtain ⟨_, _, _, _, _, rfl, _⟩ := h; rfl)
theorem sc_law_bag : FnScope N_law_bag ["script", "k"] (defScope (top 17)) := ⟨rfl, rfl, rfl, by decide +kernel, rfl, by decide +kernel, by decide +kernel⟩
theorem ar_law_bag : ∀ as k x, sp_bag as k x → as.length = 2 := by
  intro as k x h
  unfold sp_bag at h
  first
    | (obtain ⟨_, rfl, _⟩ := h; rfl)
    | (obtain ⟨_, _, rfl, _⟩ := h; rfl)
    | (obtain ⟨_, _, _, rfl, _⟩ := h; rfl)
    | (obtain ⟨_, _, _, _, rfl, _⟩ := h; rfl)
    | (obtain ⟨_, _, _, _, _, rfl, _⟩ := h; rfl)
theorem sc_law_rows : FnScope N_law_rows ["many"] (defScope (top 24)) := ⟨rfl, rfl, rfl, by decide +kernel, rfl, by decide +kernel, by decide +kernel⟩
theorem ar_law_rows : ∀ as k x, sp_rows as k x → as.length = 1 := by
  intro as k x h
  unfold sp_rows at h
  first
    | (obtain ⟨_, rfl, _⟩ := h; rfl)
    | (obtain ⟨_, _, rfl, _⟩ := h; rfl)
    | (obtain ⟨_, _, _, rfl, _⟩ := h; rfl)
    | (obtain ⟨_, _, _, _, rfl, _⟩ := h; rfl)
    | (obtain ⟨_, _, _, _, _, rfl, _⟩ := h; rfl)
theorem sc_law_stands : FnScope N_law_stands ["row", "pairs"] (defScope (top 25)) := ⟨rfl, rfl, rfl, by decide +kernel, rfl, by decide +kernel, by decide +kernel⟩
theorem ar_law_stands : ∀ as k x, sp_stands as k x → as.length = 2 := by
  intro as k x h
  unfold sp_stands at h
  first
    | (obtain ⟨_, rfl, _⟩ := h; rfl)
    | (obtain ⟨_, _, rfl, _⟩ := h; rfl)
    | (obtain ⟨_, _, _, rfl, _⟩ := h; rfl)
    | (obtain ⟨_, _, _, _, rfl, _⟩ := h; rfl)
    | (obtain ⟨_, _, _, _, _, rfl, _⟩ := h; rfl)
theorem sc_law_orders : FnScope N_law_orders ["bundle"] (defScope (top 26)) := ⟨rfl, rfl, rfl, by decide +kernel, rfl, by decide +kernel, by decide +kernel⟩
theorem ar_law_orders : ∀ as k x, sp_ordersV as k x → as.length = 1 := by
  intro as k x h
  unfold sp_ordersV at h
  first
    | (obtain ⟨_, rfl, _⟩ := h; rfl)
    | (obtain ⟨_, _, rfl, _⟩ := h; rfl)
    | (obtain ⟨_, _, _, rfl, _⟩ := h; rfl)
    | (obtain ⟨_, _, _, _, rfl, _⟩ := h; rfl)
    | (obtain ⟨_, _, _, _, _, rfl, _⟩ := h; rfl)
theorem sc_law_whole : FnScope N_law_whole ["value", "low", "high"] (defScope (top 29)) := ⟨rfl, rfl, rfl, by decide +kernel, rfl, by decide +kernel, by decide +kernel⟩
theorem ar_law_whole : ∀ as k x, sp_is_integer as k x → as.length = 3 := by
  intro as k x h
  unfold sp_is_integer at h
  first
    | (obtain ⟨_, rfl, _⟩ := h; rfl)
    | (obtain ⟨_, _, rfl, _⟩ := h; rfl)
    | (obtain ⟨_, _, _, rfl, _⟩ := h; rfl)
    | (obtain ⟨_, _, _, _, rfl, _⟩ := h; rfl)
    | (obtain ⟨_, _, _, _, _, rfl, _⟩ := h; rfl)
theorem sc_law_is_bundle : FnScope N_law_is_bundle ["value"] (defScope (top 30)) := ⟨rfl, rfl, rfl, by decide +kernel, rfl, by decide +kernel, by decide +kernel⟩
theorem ar_law_is_bundle : ∀ as k x, sp_is_bundleV as k x → as.length = 1 := by
  intro as k x h
  unfold sp_is_bundleV at h
  first
    | (obtain ⟨_, rfl, _⟩ := h; rfl)
    | (obtain ⟨_, _, rfl, _⟩ := h; rfl)
    | (obtain ⟨_, _, _, rfl, _⟩ := h; rfl)
    | (obtain ⟨_, _, _, _, rfl, _⟩ := h; rfl)
    | (obtain ⟨_, _, _, _, _, rfl, _⟩ := h; rfl)
theorem sc_law_spoiled : FnScope N_law_spoiled ["bag", "value"] (defScope (top 28)) := ⟨rfl, rfl, rfl, by decide +kernel, rfl, by decide +kernel, by decide +kernel⟩
theorem ar_law_spoiled : ∀ j as k x, sp_spoil j as k x → as.length = 2 := by
  intro j as k x h
  unfold sp_spoil at h
  first
    | (obtain ⟨_, rfl, _⟩ := h; rfl)
    | (obtain ⟨_, _, rfl, _⟩ := h; rfl)
    | (obtain ⟨_, _, _, rfl, _⟩ := h; rfl)
    | (obtain ⟨_, _, _, _, rfl, _⟩ := h; rfl)
    | (obtain ⟨_, _, _, _, _, rfl, _⟩ := h; rfl)
theorem sc_ascends : FnScope N_ascends ["values"] (defScope (top 9)) := ⟨rfl, rfl, rfl, by decide +kernel, rfl, by decide +kernel, by decide +kernel⟩
theorem ar_ascends : ∀ as k x, sp_ascends as k x → as.length = 1 := by
  intro as k x h
  unfold sp_ascends at h
  first
    | (obtain ⟨_, rfl, _⟩ := h; rfl)
    | (obtain ⟨_, _, rfl, _⟩ := h; rfl)
    | (obtain ⟨_, _, _, rfl, _⟩ := h; rfl)
    | (obtain ⟨_, _, _, _, rfl, _⟩ := h; rfl)
    | (obtain ⟨_, _, _, _, _, rfl, _⟩ := h; rfl)
theorem sc_is_integer : FnScope N_is_integer ["value", "low", "high"] (defScope (top 6)) := ⟨rfl, rfl, rfl, by decide +kernel, rfl, by decide +kernel, by decide +kernel⟩
theorem ar_is_integer : ∀ as k x, sp_is_integer as k x → as.length = 3 := by
  intro as k x h
  unfold sp_is_integer at h
  first
    | (obtain ⟨_, rfl, _⟩ := h; rfl)
    | (obtain ⟨_, _, rfl, _⟩ := h; rfl)
    | (obtain ⟨_, _, _, rfl, _⟩ := h; rfl)
    | (obtain ⟨_, _, _, _, rfl, _⟩ := h; rfl)
    | (obtain ⟨_, _, _, _, _, rfl, _⟩ := h; rfl)
theorem sc_is_map : FnScope N_is_map ["size", "value"] (defScope (top 7)) := ⟨rfl, rfl, rfl, by decide +kernel, rfl, by decide +kernel, by decide +kernel⟩
theorem ar_is_map : ∀ as k x, sp_is_map as k x → as.length = 2 := by
  intro as k x h
  unfold sp_is_map at h
  first
    | (obtain ⟨_, rfl, _⟩ := h; rfl)
    | (obtain ⟨_, _, rfl, _⟩ := h; rfl)
    | (obtain ⟨_, _, _, rfl, _⟩ := h; rfl)
    | (obtain ⟨_, _, _, _, rfl, _⟩ := h; rfl)
    | (obtain ⟨_, _, _, _, _, rfl, _⟩ := h; rfl)
theorem sc_is_pair : FnScope N_is_pair ["value", "many"] (defScope (top 8)) := ⟨rfl, rfl, rfl, by decide +kernel, rfl, by decide +kernel, by decide +kernel⟩
theorem ar_is_pair : ∀ as k x, sp_is_pair as k x → as.length = 2 := by
  intro as k x h
  unfold sp_is_pair at h
  first
    | (obtain ⟨_, rfl, _⟩ := h; rfl)
    | (obtain ⟨_, _, rfl, _⟩ := h; rfl)
    | (obtain ⟨_, _, _, rfl, _⟩ := h; rfl)
    | (obtain ⟨_, _, _, _, rfl, _⟩ := h; rfl)
    | (obtain ⟨_, _, _, _, _, rfl, _⟩ := h; rfl)
theorem sc_orders_of : FnScope N_orders_of ["many", "known"] (defScope (top 10)) := ⟨rfl, rfl, rfl, by decide +kernel, rfl, by decide +kernel, by decide +kernel⟩
theorem ar_orders_of : ∀ as k x, sp_orders_of as k x → as.length = 2 := by
  intro as k x h
  unfold sp_orders_of at h
  first
    | (obtain ⟨_, rfl, _⟩ := h; rfl)
    | (obtain ⟨_, _, rfl, _⟩ := h; rfl)
    | (obtain ⟨_, _, _, rfl, _⟩ := h; rfl)
    | (obtain ⟨_, _, _, _, rfl, _⟩ := h; rfl)
    | (obtain ⟨_, _, _, _, _, rfl, _⟩ := h; rfl)
theorem sc_is_bundle : FnScope N_is_bundle ["value"] (defScope (top 11)) := ⟨rfl, rfl, rfl, by decide +kernel, rfl, by decide +kernel, by decide +kernel⟩
theorem ar_is_bundle : ∀ as k x, sp_is_bundleV as k x → as.length = 1 := by
  intro as k x h
  unfold sp_is_bundleV at h
  first
    | (obtain ⟨_, rfl, _⟩ := h; rfl)
    | (obtain ⟨_, _, rfl, _⟩ := h; rfl)
    | (obtain ⟨_, _, _, rfl, _⟩ := h; rfl)
    | (obtain ⟨_, _, _, _, rfl, _⟩ := h; rfl)
    | (obtain ⟨_, _, _, _, _, rfl, _⟩ := h; rfl)
theorem sc_all_orders : FnScope N_all_orders ["bundle"] (defScope (top 12)) := ⟨rfl, rfl, rfl, by decide +kernel, rfl, by decide +kernel, by decide +kernel⟩
theorem ar_all_orders : ∀ as k x, sp_all_orders as k x → as.length = 1 := by
  intro as k x h
  unfold sp_all_orders at h
  first
    | (obtain ⟨_, rfl, _⟩ := h; rfl)
    | (obtain ⟨_, _, rfl, _⟩ := h; rfl)
    | (obtain ⟨_, _, _, rfl, _⟩ := h; rfl)
    | (obtain ⟨_, _, _, _, rfl, _⟩ := h; rfl)
    | (obtain ⟨_, _, _, _, _, rfl, _⟩ := h; rfl)
theorem sc_is_order_of : FnScope N_is_order_of ["bundle", "value"] (defScope (top 14)) := ⟨rfl, rfl, rfl, by decide +kernel, rfl, by decide +kernel, by decide +kernel⟩
theorem ar_is_order_of : ∀ as k x, sp_is_order_ofV as k x → as.length = 2 := by
  intro as k x h
  unfold sp_is_order_ofV at h
  first
    | (obtain ⟨_, rfl, _⟩ := h; rfl)
    | (obtain ⟨_, _, rfl, _⟩ := h; rfl)
    | (obtain ⟨_, _, _, rfl, _⟩ := h; rfl)
    | (obtain ⟨_, _, _, _, rfl, _⟩ := h; rfl)
    | (obtain ⟨_, _, _, _, _, rfl, _⟩ := h; rfl)
theorem sc_need_bundle : FnScope N_need_bundle ["value"] (defScope (top 13)) := ⟨rfl, rfl, rfl, by decide +kernel, rfl, by decide +kernel, by decide +kernel⟩
theorem ar_need_bundle : ∀ as k x, sp_need_bundle as k x → as.length = 1 := by
  intro as k x h
  unfold sp_need_bundle at h
  first
    | (obtain ⟨_, rfl, _⟩ := h; rfl)
    | (obtain ⟨_, _, rfl, _⟩ := h; rfl)
    | (obtain ⟨_, _, _, rfl, _⟩ := h; rfl)
    | (obtain ⟨_, _, _, _, rfl, _⟩ := h; rfl)
    | (obtain ⟨_, _, _, _, _, rfl, _⟩ := h; rfl)
theorem sc_is_order : FnScope N_is_order ["bundle", "value"] (defScope (top 15)) := ⟨rfl, rfl, rfl, by decide +kernel, rfl, by decide +kernel, by decide +kernel⟩
theorem ar_is_order : ∀ as k x, sp_is_order_ofV as k x → as.length = 2 := by
  intro as k x h
  unfold sp_is_order_ofV at h
  first
    | (obtain ⟨_, rfl, _⟩ := h; rfl)
    | (obtain ⟨_, _, rfl, _⟩ := h; rfl)
    | (obtain ⟨_, _, _, rfl, _⟩ := h; rfl)
    | (obtain ⟨_, _, _, _, rfl, _⟩ := h; rfl)
    | (obtain ⟨_, _, _, _, _, rfl, _⟩ := h; rfl)
theorem sc_law : FnScope N_law ["script"] (defScope (top 31)) := ⟨rfl, rfl, rfl, by decide +kernel, rfl, by decide +kernel, by decide +kernel⟩
theorem ar_law : ∀ as k x, sp_law as k x → as.length = 1 := by
  intro as k x h
  unfold sp_law at h
  first
    | (obtain ⟨_, rfl, _⟩ := h; rfl)
    | (obtain ⟨_, _, rfl, _⟩ := h; rfl)
    | (obtain ⟨_, _, _, rfl, _⟩ := h; rfl)
    | (obtain ⟨_, _, _, _, rfl, _⟩ := h; rfl)
    | (obtain ⟨_, _, _, _, _, rfl, _⟩ := h; rfl)
structure Env (K : PySem.W.Frag) (mg : Str → Option Value) : Prop where
  fre : ∀ x ∈ FRE, mg x = none
  cst : ∀ q ∈ CST, Γ.cs q.1 = some q.2 ∧ ∃ u v, mg q.1 = some u ∧ RelV v u ∧ ∀ M H, RD K M H v q.2
  xcs : ∀ x ∈ XCS, ∀ P w base lv f, XReg ⟨P, w, K, mg, base, lv, f⟩ x
  hds : ∀ x ∈ HDS, ∃ v, (mg x = some v ∨ (mg x = none ∧ bootBuiltins x = some v ∧ x ≠ "__name__")) ∧ ∀ e ∈ Γ.xs, ∀ C, mg e = some (.ref C) → PySem.W.exmOne K (.ref C) v = some (Γ.sb e x)
theorem Env.cok (E : Env K mg) {c : CE} {lv : Nat} (nd : c.N.Nodup) (h1 : c.frs = FRS) (h2 : c.fre = FRE) (h3 : c.cst = CST) (h4 : c.xcs = XCS) (h5 : c.hds = HDS) (hf : c.fn = fun _ => true) (fns : ∀ q ∈ c.fns, FnReg ⟨P, w, K, mg, base, lv, fun _ => true⟩ Γ q.1 q.2) : COk c ⟨P, w, K, mg, base, lv, fun _ => true⟩ Γ :=
  ⟨nd, fns, fun x hx => decide_eq_true (h1 ▸ hx), fun x hx => E.fre x (h2 ▸ hx), fun q hq => E.cst q (h3 ▸ hq), hf.symm, fun x hx => E.xcs x (h4 ▸ hx) _ _ _ _ _, fun x hx => E.hds x (h5 ▸ hx)⟩
end
theorem facts {P : Program} {w : World} {K : PySem.W.Frag} {h : Heap} {mg : Str → Option Value} {f : Addr} (X : K.In h) (G : h.Ns mainGlobals mg) (hfa : mg ("law" : Str) = some (.ref f)) (c : He.SaysD fa fn K) :
    ∃ fd : FuncData, (∀ (s : Shared) (v : Value), BindsTo s fd ⟨[v], []⟩ [("script", v)]) ∧ ∀ base : Heap, K.In base → base.Ns mainGlobals mg → FnOk P w K mg base (L2.CX P w) 11 f fd ["script"] (liftSp K mg false 1 sp_law) := by
  have E : Env K mg := ⟨?_, ?_, ?_, ?_⟩
  rotate_left
  · exact List.forall_mem_cons.mpr ⟨He.free_ok X G (c.fact 25 rfl), List.forall_mem_cons.mpr ⟨He.free_ok X G (c.fact 26 rfl), List.forall_mem_cons.mpr ⟨He.free_ok X G (c.fact 27 rfl), List.forall_mem_cons.mpr ⟨He.free_ok X G (c.fact 28 rfl), List.forall_mem_cons.mpr ⟨He.free_ok X G (c.fact 29 rfl), List.forall_mem_cons.mpr ⟨He.free_ok X G (c.fact 30 rfl), List.forall_mem_cons.mpr ⟨He.free_ok X G (c.fact 31 rfl), List.forall_mem_cons.mpr ⟨He.free_ok X G (c.fact 32 rfl), List.forall_mem_cons.mpr ⟨He.free_ok X G (c.fact 33 rfl), List.forall_mem_cons.mpr ⟨He.free_ok X G (c.fact 34 rfl), List.forall_mem_cons.mpr ⟨He.free_ok X G (c.fact 35 rfl), List.forall_mem_cons.mpr ⟨He.free_ok X G (c.fact 36 rfl), List.forall_mem_cons.mpr ⟨He.free_ok X G (c.fact 37 rfl), List.forall_mem_cons.mpr ⟨He.free_ok X G (c.fact 38 rfl), List.forall_mem_cons.mpr ⟨He.free_ok X G (c.fact 39 rfl), fun _ h => nomatch h⟩⟩⟩⟩⟩⟩⟩⟩⟩⟩⟩⟩⟩⟩⟩
  · exact List.forall_mem_cons.mpr ⟨⟨rfl, (He.int_ok X G (c.fact 40 rfl)).elim fun t e => ⟨_, .int 6, e, ⟨t, rfl⟩, fun _ _ => .int _⟩⟩, List.forall_mem_cons.mpr ⟨⟨rfl, (He.int_ok X G (c.fact 41 rfl)).elim fun t e => ⟨_, .int 4, e, ⟨t, rfl⟩, fun _ _ => .int _⟩⟩, fun _ h => nomatch h⟩⟩
  · exact List.forall_mem_cons.mpr ⟨(fun P w base lv f => (fun e => ⟨_, _, _, _, _, PySem.F.excBase_ValueError, e.1, He.glo_ok X G (c.fact 43 rfl), e.2.1, e.2.2.1, e.2.2.2⟩) (He.exc_ok (c.fact 42 rfl))), fun _ h => nomatch h⟩
  · exact fun _ h => nomatch h
  obtain ⟨f_law_take, F_law_take⟩ := c.def_ 0 (d := e_law_take) rfl
  obtain ⟨f_law_deed, F_law_deed⟩ := c.def_ 1 (d := e_law_deed) rfl
  obtain ⟨f_law_mixed, F_law_mixed⟩ := c.def_ 2 (d := e_law_mixed) rfl
  obtain ⟨f_law_of, F_law_of⟩ := c.def_ 3 (d := e_law_of) rfl
  obtain ⟨f_law_bundle, F_law_bundle⟩ := c.def_ 4 (d := e_law_bundle) rfl
  obtain ⟨f_law_any_bundle, F_law_any_bundle⟩ := c.def_ 5 (d := e_law_any_bundle) rfl
  obtain ⟨f_law_any_value, F_law_any_value⟩ := c.def_ 6 (d := e_law_any_value) rfl
  obtain ⟨f_law_bag, F_law_bag⟩ := c.def_ 7 (d := e_law_bag) rfl
  obtain ⟨f_law_rows, F_law_rows⟩ := c.def_ 8 (d := e_law_rows) rfl
  obtain ⟨f_law_stands, F_law_stands⟩ := c.def_ 9 (d := e_law_stands) rfl
  obtain ⟨f_law_orders, F_law_orders⟩ := c.def_ 10 (d := e_law_orders) rfl
  obtain ⟨f_law_whole, F_law_whole⟩ := c.def_ 11 (d := e_law_whole) rfl
  obtain ⟨f_law_is_bundle, F_law_is_bundle⟩ := c.def_ 12 (d := e_law_is_bundle) rfl
  obtain ⟨f_law_spoiled, F_law_spoiled⟩ := c.def_ 13 (d := e_law_spoiled) rfl
  obtain ⟨f_ascends, F_ascends⟩ := c.def_ 14 (d := e_ascends) rfl
  obtain ⟨f_is_integer, F_is_integer⟩ := c.def_ 15 (d := e_is_integer) rfl
  obtain ⟨f_is_map, F_is_map⟩ := c.def_ 16 (d := e_is_map) rfl
  obtain ⟨f_is_pair, F_is_pair⟩ := c.def_ 17 (d := e_is_pair) rfl
  obtain ⟨f_orders_of, F_orders_of⟩ := c.def_ 18 (d := e_orders_of) rfl
  obtain ⟨f_is_bundle, F_is_bundle⟩ := c.def_ 19 (d := e_is_bundle) rfl
  obtain ⟨f_all_orders, F_all_orders⟩ := c.def_ 20 (d := e_all_orders) rfl
  obtain ⟨f_is_order_of, F_is_order_of⟩ := c.def_ 21 (d := e_is_order_of) rfl
  obtain ⟨f_need_bundle, F_need_bundle⟩ := c.def_ 22 (d := e_need_bundle) rfl
  obtain ⟨f_is_order, F_is_order⟩ := c.def_ 23 (d := e_is_order) rfl
  obtain ⟨f_law, F_law⟩ := c.def_ 24 (d := e_law) rfl
  have e := hfa.symm.trans (He.glo_ok X G (c.fact 24 rfl))
  cases e
  have b := FunD.bindsA (ps := ["script"]) F_law fun _ _ _ _ _ _ us hl => match us, hl with | [_], _ => rfl
  refine ⟨f_law, fun s v => b s [v] rfl, fun base _ _ => ?_⟩
  obtain ⟨o_law_take, r_law_take⟩ := reg (P := P) (w := w) (base := base) F_law_take sc_law_take ck_law_take rfl rfl (E.cok (lv := 0) (by decide +kernel) rfl rfl rfl rfl rfl rfl (fun _ h => nomatch h)) fn_law_take fr_law_take ar_law_take (law_take) (He.glo_ok X G (c.fact 0 rfl)) (F_law_take.bindsN fun _ _ _ _ _ _ us hl => match us, hl with | [_, _], _ => rfl)
  obtain ⟨o_law_deed, r_law_deed⟩ := reg (P := P) (w := w) (base := base) F_law_deed sc_law_deed ck_law_deed rfl rfl (E.cok (lv := 1) (by decide +kernel) rfl rfl rfl rfl rfl rfl (List.forall_mem_cons.mpr ⟨r_law_take _ (by decide), fun _ h => nomatch h⟩)) fn_law_deed fr_law_deed ar_law_deed (law_deed rfl rfl) (He.glo_ok X G (c.fact 1 rfl)) (F_law_deed.bindsN fun _ _ _ _ _ _ us hl => match us, hl with | [_, _], _ => rfl)
  obtain ⟨o_law_mixed, r_law_mixed⟩ := reg (P := P) (w := w) (base := base) F_law_mixed sc_law_mixed ck_law_mixed rfl rfl (E.cok (lv := 1) (by decide +kernel) rfl rfl rfl rfl rfl rfl (List.forall_mem_cons.mpr ⟨r_law_take _ (by decide), fun _ h => nomatch h⟩)) fn_law_mixed fr_law_mixed ar_law_mixed (law_mixed rfl rfl) (He.glo_ok X G (c.fact 2 rfl)) (F_law_mixed.bindsN fun _ _ _ _ _ _ us hl => match us, hl with | [_, _], _ => rfl)
  obtain ⟨o_law_of, r_law_of⟩ := reg (P := P) (w := w) (base := base) F_law_of sc_law_of ck_law_of rfl rfl (E.cok (lv := 1) (by decide +kernel) rfl rfl rfl rfl rfl rfl (List.forall_mem_cons.mpr ⟨r_law_take _ (by decide), fun _ h => nomatch h⟩)) fn_law_of fr_law_of ar_law_of (law_of rfl rfl) (He.glo_ok X G (c.fact 3 rfl)) (F_law_of.bindsN fun _ _ _ _ _ _ us hl => match us, hl with | [_, _], _ => rfl)
  obtain ⟨o_law_bundle, r_law_bundle⟩ := reg (P := P) (w := w) (base := base) F_law_bundle sc_law_bundle ck_law_bundle rfl rfl (E.cok (lv := 2) (by decide +kernel) rfl rfl rfl rfl rfl rfl (List.forall_mem_cons.mpr ⟨r_law_deed _ (by decide), List.forall_mem_cons.mpr ⟨r_law_mixed _ (by decide), List.forall_mem_cons.mpr ⟨r_law_of _ (by decide), List.forall_mem_cons.mpr ⟨r_law_take _ (by decide), fun _ h => nomatch h⟩⟩⟩⟩)) fn_law_bundle fr_law_bundle ar_law_bundle (law_bundle rfl rfl rfl rfl rfl rfl rfl rfl) (He.glo_ok X G (c.fact 4 rfl)) (F_law_bundle.bindsN fun _ _ _ _ _ _ us hl => match us, hl with | [_, _, _], _ => rfl)
  obtain ⟨o_law_any_bundle, r_law_any_bundle⟩ := reg (P := P) (w := w) (base := base) F_law_any_bundle sc_law_any_bundle ck_law_any_bundle rfl rfl (E.cok (lv := 3) (by decide +kernel) rfl rfl rfl rfl rfl rfl (List.forall_mem_cons.mpr ⟨r_law_bundle _ (by decide), List.forall_mem_cons.mpr ⟨r_law_of _ (by decide), List.forall_mem_cons.mpr ⟨r_law_take _ (by decide), fun _ h => nomatch h⟩⟩⟩)) fn_law_any_bundle fr_law_any_bundle ar_law_any_bundle (law_any rfl rfl rfl rfl rfl rfl) (He.glo_ok X G (c.fact 5 rfl)) (F_law_any_bundle.bindsN fun _ _ _ _ _ _ us hl => match us, hl with | [_, _], _ => rfl)
  obtain ⟨o_law_any_value, r_law_any_value⟩ := regR (P := P) (w := w) (base := base) (k := 2) sp_anyv 4 F_law_any_value sc_law_any_value ck_law_any_value rfl rfl (fun j r => COk.atG (c := C_law_any_value) (E.cok (lv := 2 + j) (c := ⟨C_law_any_value.N, C_law_any_value.sc, C_law_any_value.fn, [], C_law_any_value.frs, C_law_any_value.fre, C_law_any_value.cst, C_law_any_value.xcs, C_law_any_value.hds⟩) (by decide +kernel) rfl rfl rfl rfl rfl rfl fun _ h => nomatch h) (List.forall_mem_cons.mpr ⟨r, List.forall_mem_cons.mpr ⟨(r_law_of _ (by omega)).to rfl rfl, List.forall_mem_cons.mpr ⟨(r_law_take _ (by omega)).to rfl rfl, fun _ h => nomatch h⟩⟩⟩)) fn_law_any_value fr_law_any_value ar_law_any_value sp_anyv_zero (fun j => ok_anyv rfl rfl rfl rfl rfl rfl) (He.glo_ok X G (c.fact 6 rfl)) (F_law_any_value.bindsN fun _ _ _ _ _ _ us hl => match us, hl with | [_, _], _ => rfl)
  obtain ⟨o_law_bag, r_law_bag⟩ := reg (P := P) (w := w) (base := base) F_law_bag sc_law_bag ck_law_bag rfl rfl (E.cok (lv := 0) (by decide +kernel) rfl rfl rfl rfl rfl rfl (fun _ h => nomatch h)) fn_law_bag fr_law_bag ar_law_bag (law_bag) (He.glo_ok X G (c.fact 7 rfl)) (F_law_bag.bindsN fun _ _ _ _ _ _ us hl => match us, hl with | [_, _], _ => rfl)
  obtain ⟨o_law_rows, r_law_rows⟩ := reg (P := P) (w := w) (base := base) F_law_rows sc_law_rows ck_law_rows rfl rfl (E.cok (lv := 0) (by decide +kernel) rfl rfl rfl rfl rfl rfl (fun _ h => nomatch h)) fn_law_rows fr_law_rows ar_law_rows (ok_rows) (He.glo_ok X G (c.fact 8 rfl)) (F_law_rows.bindsN fun _ _ _ _ _ _ us hl => match us, hl with | [_], _ => rfl)
  obtain ⟨o_law_stands, r_law_stands⟩ := reg (P := P) (w := w) (base := base) F_law_stands sc_law_stands ck_law_stands rfl rfl (E.cok (lv := 0) (by decide +kernel) rfl rfl rfl rfl rfl rfl (fun _ h => nomatch h)) fn_law_stands fr_law_stands ar_law_stands (ok_stands) (He.glo_ok X G (c.fact 9 rfl)) (F_law_stands.bindsN fun _ _ _ _ _ _ us hl => match us, hl with | [_, _], _ => rfl)
  obtain ⟨o_law_orders, r_law_orders⟩ := reg (P := P) (w := w) (base := base) F_law_orders sc_law_orders ck_law_orders rfl rfl (E.cok (lv := 1) (by decide +kernel) rfl rfl rfl rfl rfl rfl (List.forall_mem_cons.mpr ⟨r_law_rows _ (by decide), List.forall_mem_cons.mpr ⟨r_law_stands _ (by decide), fun _ h => nomatch h⟩⟩)) fn_law_orders fr_law_orders ar_law_orders (ok_ordersV rfl rfl rfl rfl) (He.glo_ok X G (c.fact 10 rfl)) (F_law_orders.bindsN fun _ _ _ _ _ _ us hl => match us, hl with | [_], _ => rfl)
  obtain ⟨o_law_whole, r_law_whole⟩ := reg (P := P) (w := w) (base := base) F_law_whole sc_law_whole ck_law_whole rfl rfl (E.cok (lv := 0) (by decide +kernel) rfl rfl rfl rfl rfl rfl (fun _ h => nomatch h)) fn_law_whole fr_law_whole ar_law_whole (ok_whole) (He.glo_ok X G (c.fact 11 rfl)) (F_law_whole.bindsN fun _ _ _ _ _ _ us hl => match us, hl with | [_, _, _], _ => rfl)
  obtain ⟨o_law_is_bundle, r_law_is_bundle⟩ := reg (P := P) (w := w) (base := base) F_law_is_bundle sc_law_is_bundle ck_law_is_bundle rfl rfl (E.cok (lv := 2) (by decide +kernel) rfl rfl rfl rfl rfl rfl (List.forall_mem_cons.mpr ⟨r_law_orders _ (by decide), List.forall_mem_cons.mpr ⟨r_law_whole _ (by decide), fun _ h => nomatch h⟩⟩)) fn_law_is_bundle fr_law_is_bundle ar_law_is_bundle (ok_law_is_bundle rfl rfl rfl rfl) (He.glo_ok X G (c.fact 12 rfl)) (F_law_is_bundle.bindsN fun _ _ _ _ _ _ us hl => match us, hl with | [_], _ => rfl)
  obtain ⟨o_law_spoiled, r_law_spoiled⟩ := regR (P := P) (w := w) (base := base) (k := 6) sp_spoil 4 F_law_spoiled sc_law_spoiled ck_law_spoiled rfl rfl (fun j r => COk.atG (c := C_law_spoiled) (E.cok (lv := 6 + j) (c := ⟨C_law_spoiled.N, C_law_spoiled.sc, C_law_spoiled.fn, [], C_law_spoiled.frs, C_law_spoiled.fre, C_law_spoiled.cst, C_law_spoiled.xcs, C_law_spoiled.hds⟩) (by decide +kernel) rfl rfl rfl rfl rfl rfl fun _ h => nomatch h) (List.forall_mem_cons.mpr ⟨(r_law_any_value _ (by omega)).to rfl rfl, List.forall_mem_cons.mpr ⟨(r_law_of _ (by omega)).to rfl rfl, List.forall_mem_cons.mpr ⟨r, List.forall_mem_cons.mpr ⟨(r_law_take _ (by omega)).to rfl rfl, fun _ h => nomatch h⟩⟩⟩⟩)) fn_law_spoiled fr_law_spoiled ar_law_spoiled sp_spoil_zero (fun j => ok_spoil rfl rfl rfl rfl rfl rfl rfl rfl) (He.glo_ok X G (c.fact 13 rfl)) (F_law_spoiled.bindsN fun _ _ _ _ _ _ us hl => match us, hl with | [_, _], _ => rfl)
  obtain ⟨o_ascends, r_ascends⟩ := reg (P := P) (w := w) (base := base) F_ascends sc_ascends ck_ascends rfl rfl (E.cok (lv := 0) (by decide +kernel) rfl rfl rfl rfl rfl rfl (fun _ h => nomatch h)) fn_ascends fr_ascends ar_ascends (ok_ascends) (He.glo_ok X G (c.fact 14 rfl)) (F_ascends.bindsN fun _ _ _ _ _ _ us hl => match us, hl with | [_], _ => rfl)
  obtain ⟨o_is_integer, r_is_integer⟩ := reg (P := P) (w := w) (base := base) F_is_integer sc_is_integer ck_is_integer rfl rfl (E.cok (lv := 0) (by decide +kernel) rfl rfl rfl rfl rfl rfl (fun _ h => nomatch h)) fn_is_integer fr_is_integer ar_is_integer (ok_is_integer) (He.glo_ok X G (c.fact 15 rfl)) (F_is_integer.bindsN fun _ _ _ _ _ _ us hl => match us, hl with | [_, _, _], _ => rfl)
  obtain ⟨o_is_map, r_is_map⟩ := reg (P := P) (w := w) (base := base) F_is_map sc_is_map ck_is_map rfl rfl (E.cok (lv := 1) (by decide +kernel) rfl rfl rfl rfl rfl rfl (List.forall_mem_cons.mpr ⟨r_is_integer _ (by decide), fun _ h => nomatch h⟩)) fn_is_map fr_is_map ar_is_map (ok_is_map rfl rfl) (He.glo_ok X G (c.fact 16 rfl)) (F_is_map.bindsN fun _ _ _ _ _ _ us hl => match us, hl with | [_, _], _ => rfl)
  obtain ⟨o_is_pair, r_is_pair⟩ := reg (P := P) (w := w) (base := base) F_is_pair sc_is_pair ck_is_pair rfl rfl (E.cok (lv := 1) (by decide +kernel) rfl rfl rfl rfl rfl rfl (List.forall_mem_cons.mpr ⟨r_is_integer _ (by decide), fun _ h => nomatch h⟩)) fn_is_pair fr_is_pair ar_is_pair (ok_is_pair rfl rfl) (He.glo_ok X G (c.fact 17 rfl)) (F_is_pair.bindsN fun _ _ _ _ _ _ us hl => match us, hl with | [_, _], _ => rfl)
  obtain ⟨o_orders_of, r_orders_of⟩ := reg (P := P) (w := w) (base := base) F_orders_of sc_orders_of ck_orders_of rfl rfl (E.cok (lv := 0) (by decide +kernel) rfl rfl rfl rfl rfl rfl (fun _ h => nomatch h)) fn_orders_of fr_orders_of ar_orders_of (ok_orders_of) (He.glo_ok X G (c.fact 18 rfl)) (F_orders_of.bindsN fun _ _ _ _ _ _ us hl => match us, hl with | [_, _], _ => rfl)
  obtain ⟨o_is_bundle, r_is_bundle⟩ := reg (P := P) (w := w) (base := base) F_is_bundle sc_is_bundle ck_is_bundle rfl rfl (E.cok (lv := 2) (by decide +kernel) rfl rfl rfl rfl rfl rfl (List.forall_mem_cons.mpr ⟨r_ascends _ (by decide), List.forall_mem_cons.mpr ⟨r_is_integer _ (by decide), List.forall_mem_cons.mpr ⟨r_is_map _ (by decide), List.forall_mem_cons.mpr ⟨r_is_pair _ (by decide), List.forall_mem_cons.mpr ⟨r_orders_of _ (by decide), fun _ h => nomatch h⟩⟩⟩⟩⟩)) fn_is_bundle fr_is_bundle ar_is_bundle (ok_is_bundleV rfl rfl rfl rfl rfl rfl rfl rfl rfl rfl rfl rfl) (He.glo_ok X G (c.fact 19 rfl)) (F_is_bundle.bindsN fun _ _ _ _ _ _ us hl => match us, hl with | [_], _ => rfl)
  obtain ⟨o_all_orders, r_all_orders⟩ := reg (P := P) (w := w) (base := base) F_all_orders sc_all_orders ck_all_orders rfl rfl (E.cok (lv := 1) (by decide +kernel) rfl rfl rfl rfl rfl rfl (List.forall_mem_cons.mpr ⟨r_orders_of _ (by decide), fun _ h => nomatch h⟩)) fn_all_orders fr_all_orders ar_all_orders (ok_all_orders rfl rfl) (He.glo_ok X G (c.fact 20 rfl)) (F_all_orders.bindsN fun _ _ _ _ _ _ us hl => match us, hl with | [_], _ => rfl)
  obtain ⟨o_is_order_of, r_is_order_of⟩ := reg (P := P) (w := w) (base := base) F_is_order_of sc_is_order_of ck_is_order_of rfl rfl (E.cok (lv := 2) (by decide +kernel) rfl rfl rfl rfl rfl rfl (List.forall_mem_cons.mpr ⟨r_all_orders _ (by decide), List.forall_mem_cons.mpr ⟨r_is_integer _ (by decide), fun _ h => nomatch h⟩⟩)) fn_is_order_of fr_is_order_of ar_is_order_of (ok_is_order_ofV rfl rfl rfl rfl) (He.glo_ok X G (c.fact 21 rfl)) (F_is_order_of.bindsN fun _ _ _ _ _ _ us hl => match us, hl with | [_, _], _ => rfl)
  obtain ⟨o_need_bundle, r_need_bundle⟩ := reg (P := P) (w := w) (base := base) F_need_bundle sc_need_bundle ck_need_bundle rfl rfl (E.cok (lv := 3) (by decide +kernel) rfl rfl rfl rfl rfl rfl (List.forall_mem_cons.mpr ⟨r_is_bundle _ (by decide), fun _ h => nomatch h⟩)) fn_need_bundle fr_need_bundle ar_need_bundle (ok_need_bundleV rfl rfl) (He.glo_ok X G (c.fact 22 rfl)) (F_need_bundle.bindsN fun _ _ _ _ _ _ us hl => match us, hl with | [_], _ => rfl)
  obtain ⟨o_is_order, r_is_order⟩ := reg (P := P) (w := w) (base := base) F_is_order sc_is_order ck_is_order rfl rfl (E.cok (lv := 4) (by decide +kernel) rfl rfl rfl rfl rfl rfl (List.forall_mem_cons.mpr ⟨r_is_order_of _ (by decide), List.forall_mem_cons.mpr ⟨r_need_bundle _ (by decide), fun _ h => nomatch h⟩⟩)) fn_is_order fr_is_order ar_is_order (ok_is_orderV rfl rfl rfl rfl) (He.glo_ok X G (c.fact 23 rfl)) (F_is_order.bindsN fun _ _ _ _ _ _ us hl => match us, hl with | [_, _], _ => rfl)
  obtain ⟨o_law, r_law⟩ := reg (P := P) (w := w) (base := base) F_law sc_law ck_law rfl rfl (E.cok (lv := 10) (by decide +kernel) rfl rfl rfl rfl rfl rfl (List.forall_mem_cons.mpr ⟨r_law_any_bundle _ (by decide), List.forall_mem_cons.mpr ⟨r_law_any_value _ (by decide), List.forall_mem_cons.mpr ⟨r_law_bag _ (by decide), List.forall_mem_cons.mpr ⟨r_law_is_bundle _ (by decide), List.forall_mem_cons.mpr ⟨r_law_of _ (by decide), List.forall_mem_cons.mpr ⟨r_law_orders _ (by decide), List.forall_mem_cons.mpr ⟨r_law_spoiled _ (by decide), List.forall_mem_cons.mpr ⟨r_law_whole _ (by decide), List.forall_mem_cons.mpr ⟨r_is_bundle _ (by decide), List.forall_mem_cons.mpr ⟨r_is_order _ (by decide), fun _ h => nomatch h⟩⟩⟩⟩⟩⟩⟩⟩⟩⟩)) fn_law fr_law ar_law (ok_k01 ⟨rfl,rfl,rfl,rfl,rfl,rfl,rfl,rfl,rfl,rfl,rfl,rfl,rfl,rfl,rfl,rfl,rfl,rfl,rfl,rfl⟩) (He.glo_ok X G (c.fact 24 rfl)) (F_law.bindsN fun _ _ _ _ _ _ us hl => match us, hl with | [_], _ => rfl)
  exact o_law
end Fink01
open PySem PySem.W PySem.Calls PyProof.Rows
theorem PySem.Challenge.cw_lostorder_k01_bundles_and_orders_recogni_holds : PySem.Challenge.rw_lostorder_k01_bundles_and_orders_recogni.Holds := by
  w_on; o_law
  refine HandSHeadRun.head_any (r := OpenLaw.row PySem.Challenge.rw_lostorder_k01_bundles_and_orders_recogni) (q := view (OpenLaw.row PySem.Challenge.rw_lostorder_k01_bundles_and_orders_recogni).prog [31]) (H := Fink01.hk) (ob := Fink01.ob) (M := 4000) (loose := Fink01.loose) (d := HandSHeadRun.topDef (OpenLaw.row PySem.Challenge.rw_lostorder_k01_bundles_and_orders_recogni).prog 31) (kwd := []) Fink01.ob_eq
    (by kernel_rfl) (fun s => by kernel_rfl) Fink01.run (by kernel_rfl) (by kernel_rfl) (by kernel_rfl) (by rfl) (by first | assumption | decide +kernel) (by decide +kernel) ⟨rfl, rfl, rfl, rfl, rfl, by decide +kernel⟩ ?hw ?hc
  case hw => w_witness2
  case hc =>
    refine DL.walk_w (law := PySem.Challenge.rw_lostorder_k01_bundles_and_orders_recogni) (most := 63) (lv := 11) (arg := "script") (air := fun w => L2.CX PySem.Challenge.rw_lostorder_k01_bundles_and_orders_recogni.prog w) rfl (by decide) (by kernel_rfl) ⟨rfl, by decide, by decide⟩ ?F DL.calm_CX
    intro w mg fa h Y G hmg0
    obtain ⟨K, KX, c⟩ := Y
    have hmg : mg ("law" : PySem.Str) = some (.ref fa) := by
      have e : (HandSHeadRun.topDef (OpenLaw.row PySem.Challenge.rw_lostorder_k01_bundles_and_orders_recogni).prog 31).name = ("law" : PySem.Str) := by kernel_rfl
      rw [← e]
      exact hmg0
    obtain ⟨fd, hb, hF⟩ := Fink01.facts (P := PySem.Challenge.rw_lostorder_k01_bundles_and_orders_recogni.prog) (w := w) KX G hmg c
    exact ⟨K, fd, _, KX, hb, fun H a ns hO hS => DL.law_sp (fun ns k x h => ⟨ns, rfl, h⟩) hO hS, hF⟩
